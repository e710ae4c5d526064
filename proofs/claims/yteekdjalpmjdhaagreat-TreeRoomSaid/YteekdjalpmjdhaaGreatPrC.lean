/-
  Our own texts, one behind the other: Gk13 Gk14 Gk15 Gk39 Gk16 Gk17 Gk18 Gk23 Gk30 Gk31 Gk24 GkE0 GkE1 GkC0 GkC4 GkPg0 GkE2 GkC1 GkC2 GkC3 GkCl GkPg1.
-/
import Derived.Test.YteekdjalpmjdhaaGreatPrB
set_option linter.defProp false
open Nat renaming le_of_ble_eq_true→Ada,le_refl→Adi,mul_le_mul_right→Afb,zero_add→Afj,mul_one→Afn,add_mul→Afu,mod_eq_of_lt→Agh,not_lt_zero→Agm,mod_lt→Agn,le_trans→Agx,sub_self→Agy,one_mul→Ahs
open List.Sublist renaming refl→Adb,cons_cons→Afr
open Bool renaming false_eq_true→Adk
open List renaming getElem?_eq_getElem→Ade,append_assoc→Adf,mem_append→Adg,getD_eq_getElem?_getD→Adh,length_append→Adj,perm_append_comm→Adl,length_cons→Adm,eq_nil_of_length_eq_zero→Adn,mem_cons_self→Ado,mem_cons_of_mem→Adp,mem_singleton→Adq,length_drop→Adr,getElem?_eq_some_iff→Adt,mem_cons→Adu,all_eq_true→Adv,replicate→Adx,length_take→Adz,take_succ_eq_append_getElem→Aea,getElem_mem→Aec,append_nil→Aed,sublist_cons_self→Aef,drop_eq_getElem_cons→Aei,range→Aek,nil_append→Ael,length_set→Aen,getElem?_eq_none→Aes,length_replicate→Aet,getElem?_take_of_lt→Aew,cons_append→Aex,length_map→Aey,getElem_of_mem→Aez,getElem?_drop→Afe,getElem?_append_right→Aff,take_of_length_le→Afh,take_length→Afi,getElem?_append_left→Afk,nodup_cons→Afo,getElem?_map→Afq,getD_cons_zero→Afx,getD_cons_succ→Afy,drop_of_length_le→Agc,ext_getElem?→Agd,drop_length→Agj,set_eq_of_length_le→Agk,map_cons→Agl,mem_range→Agr,map_append→Ahb,set_cons_succ→Ahi,getElem_append_right→Ahk,sublist_append_left→Ahl,getElem_append_left→Aho,ext_getElem→Aht,set_cons_zero→Ahz,foldl_cons→Aia,all_cons→Ain,map_drop→Aio,map_take→Aip
open Option renaming bind_some→Afg,map_some→Aga,getD_some→Ago,isSome_none→Ahy
section
namespace Go.Gk
open Go
variable{T:TypeId}{x y ch:Operand}{j:Int}{f:FuncId}{v z:Value}{a b:D6}{pre post:GS}{dst:Option Nat}{cap:Nat}{tm:Bool}
section
def chunk(cs:List Value)(i sz:Nat):List Value:=(cs.drop (i*sz)).take sz
def Ap{α}(sz:Nat)(R:Ac→List Value→α→Prop)(d:Ac)(v:Value)(xs:List α)(h:Ac):Prop:=
 ∃cs,BT sz v xs.length cs h∧∀i (hi:i<xs.length),R d (chunk cs i sz) xs[i]
def Src{α}(sz:Nat)(R:Ac→List Value→α→Prop)(d:Ac)(Lk:List Ac)(w:Value)(ys:List α):Prop:=
 ∃news,RdX d Lk w ys.length sz news∧(news.all (·.oneCell'))=true∧∀i (hi:i<ys.length),R d (chunk news i sz) ys[i]
def FZ{α}(R:Ac→List Value→α→Prop):Prop:=∀d cs x,R d cs x→(cs.all (·.oneCell'))=true
def Gp{α}(R:Ac→List Value→α→Prop):Prop:=∀{d d' cs x},Le d d'→R d cs x→R d' cs x
def GR:FZ AP:=fun _ _ _ h=>by cases h;rfl
def CX:FZ Bb:=fun _ _ _ h=>by obtain⟨rfl,_⟩:=h;rfl
def Xg:FZ Lq:=fun _ _ _ h=>by obtain⟨rfl,_⟩:=h;rfl
def FL:FZ RBs:=fun _ _ _ h=>by obtain⟨_,rfl,_,_,_,_,rfl,_⟩:=h;rfl
def A3:Gp AP:=fun _ h=>h
def B2:Gp Bb:=fun _ h=>h
def Ze:Gp Lq:=fun _ h=>h
def Fa:Gp RBs:=fun hl ⟨u,h1,h2⟩=>⟨u,h1,h2.mono hl⟩
section
variable {α:Type}{sz:Nat}{R:Ac→List Value→α→Prop}{d:Ac}{v:Value}{xs:List α}{h:Ac}
def IP{cs}{n i:Nat}(hl:cs.length=n*sz)(hi:i<n):(chunk cs i sz).length=sz:=by
 have:(i+1)*sz≤n*sz:=Afb sz hi;rw[Afu,Ahs] at this;simp only[chunk,Adz,Adr,hl];omega
def FX{cs ds}{n i:Nat}(hl:cs.length=n*sz)(hi:i<n):chunk (cs++ds) i sz=chunk cs i sz:=by
 have:(i+1)*sz≤n*sz:=Afb sz hi;rw[Afu,Ahs] at this;simp only[chunk];rw[List.drop_append_of_le_length (by omega),List.take_append_of_le_length (by simp only[Adr];omega)]
def Fz{cs ds}{n i:Nat}(hl:cs.length=n*sz)(hi:n≤i):chunk (cs++ds) i sz=chunk ds (i - n) sz:=by
 have h1:n*sz≤i*sz:=Afb sz hi;simp only[chunk];rw[List.drop_append,Agc (by omega),Ael,hl,Nat.sub_mul]
def Ap.nil:Ap sz R d (.slice none 0 0) [] emp:=⟨[],BT.nil sz,fun i hi=>absurd hi (Agm i)⟩
def Ap.KZ{b:Nat}:Ap sz R d (.slice (some ⟨b,0,none⟩) 0 0) [] (bx b T []):=⟨[],BT.lit (by simp) (by simp),fun i hi=>absurd hi (Agm i)⟩
def Ap.mono(hR:Gp R)(o:Ap sz R d v xs h){d'}(hl:Le d d'):Ap sz R d' v xs h:=
 let ⟨cs,h1,h2⟩:=o
 ⟨cs,h1,fun i hi=>hR hl (h2 i hi)⟩
def Ap.B3(o:Ap sz R d v xs h):xs.length≤140737488355328:=let ⟨_,h1,_⟩:=o;h1.2.1
def Ap.val(o:Ap sz R d v xs h):∃a c,v=.slice a xs.length c:=by
 obtain⟨cs,h1,_⟩:=o;obtain⟨a,b,c,e,_⟩:=h1.slice;exact⟨a,c,e⟩
def RSl.val(o:RSl sz R d v xs):∃a c,v=.slice a xs.length c:=let ⟨a,c,_,_,e,_⟩:=o;⟨a,c,e⟩
def Ap.rsl(o:Ap sz R d v xs h)(hR:Gp R)(hsz:0<sz){d'}(hl:Le d d')(hh:Le h d'):RSl sz R d' v xs:=by
 obtain⟨cs,h1,h2⟩:=o;exact h1.rsl hh rfl hsz (fun i hi=>hR hl (h2 i hi))
def Ap.src(o:Ap sz R d v xs h)(hc:FZ R){Lk}(hk:h∈Lk):Src sz R d Lk v xs:=by
 obtain⟨cs,h1,h2⟩:=o;refine⟨cs,h1.rdx hk,?_,h2⟩
 have hl:=h1.1;rw[Adv];intro u hu;obtain⟨j,hj,rfl⟩:=Aez hu;by_cases h0:sz=0
 ·subst h0;simp at hl;subst hl;simp at hj
 ·have hq:j / sz<xs.length:=by rw[Nat.div_lt_iff_lt_mul (by omega)];omega
  have:=Adv.1 (hc _ _ _ (h2 _ hq)) cs[j] (by
   have hdm:=Nat.div_add_mod' j sz;have hm:=Agn j (show 0<sz by omega);rw[List.mem_iff_getElem?];refine⟨j % sz,?_⟩
   rw[chunk,Aew hm,Afe,hdm,Ade hj])
  exact this
def RSl.src(o:RSl sz R d v xs)(hc:FZ R)(_:0<sz)(Lk:List Ac):Src sz R d Lk v xs:=by
 obtain⟨a,c,b,o,rfl,h2,h3,h4,h5,h6,h7,h8⟩:=o;have key:∀n,n≤xs.length→∃news:List Value,news.length=n*sz∧(∀j u,news[j]?=some u→DC d b (o+j) u)∧(news.all (·.oneCell'))=true∧∀i (hi:i<n) (hi':i<xs.length),R d (chunk news i sz) xs[i]:=by
  intro n;induction n with
  |zero=>exact fun _=>⟨[],by simp,fun j u hu=>by simp at hu,rfl,fun i hi=>absurd hi (Agm i)⟩
  |succ n ih=>
   intro hn
   obtain⟨news,k1,k2,k3,k4⟩:=ih (by omega)
   obtain⟨cs,m1,m2,m3⟩:=h8 n (by omega)
   refine⟨news++cs,by simp[k1,m1,Afu],fun j u hu=>?_,?_,fun i hi hi'=>?_⟩
   ·rw[List.getElem?_append] at hu
    split at hu
    ·exact k2 j u hu
    ·rename_i hj
     have:=m2.at hu
     rw[k1] at this
     rw[show o+j=o+n*sz+(j - n*sz) by omega]
     exact this
   ·rw[List.all_append,k3,hc _ _ _ m3];rfl
   ·by_cases e:i<n
    ·rw[FX k1 e];exact k4 i e hi'
    ·obtain rfl:i=n:=by omega
     rw[Fz k1 (Adi _),Agy]
     have:chunk cs 0 sz=cs:=by simp[chunk,←m1]
     rw[this];exact m3
 obtain⟨news,k1,k2,k3,k4⟩:=key xs.length (Adi _);refine⟨news,⟨a,c,rfl,k1,fun e=>?_,fun a' ha i u hu=>?_⟩,k3,fun i hi=>k4 i hi hi⟩
 ·cases xs with
  |nil=>exact Adn (by simpa using k1)
  |cons x xs=>have:=h2 (by simp);rw[e] at this;cases this
 ·have h0:xs.length≠0:=by
   intro h0;rw[h0,Nat.zero_mul] at k1;rw[Adn k1] at hu;simp at hu
  have e:=h2 h0;rw[ha] at e;cases e;rw[Addr.add_lit];exact BN (k2 i u hu)
def Src.lit{Lk}{b c n:Nat}{cs}{ys:List α}(i:Nat)(hi:Lk[i]?=some (bx b T cs))(hn:n=ys.length)(hl:cs.length=ys.length*sz)(h1:(cs.all (·.oneCell'))=true)
  (h2:∀i (hi:i<ys.length),R d (chunk cs i sz) ys[i]):Src sz R d Lk (.slice (some ⟨b,0,none⟩) n c) ys:=by
 subst hn
 exact⟨cs,RdX.lit i hi hl,h1,h2⟩
def Ap.lit{b n:Nat}{cs}(hn:n=xs.length)(hl:cs.length=xs.length*sz)(hx:xs.length≤140737488355328)(h2:∀i (hi:i<xs.length),R d (chunk cs i sz) xs[i]):
  Ap sz R d (.slice (some ⟨b,0,none⟩) n n) xs (bx b T cs):=by
 subst hn
 exact⟨cs,BT.lit hl hx,h2⟩
def Ap.Ep{b:Nat}{cs}{x:α}(hl:cs.length=sz)(h2:R d cs x):Ap sz R d (.slice (some ⟨b,0,none⟩) 1 1) [x] (bx b T cs):=
 Ap.lit rfl (by simp[hl]) (by simp) (fun i hi=>by
  obtain rfl:i=0:=by simpa using hi
  have:chunk cs 0 sz=cs:=by simp[chunk,←hl]
  rw[this];exact h2)
end
def Ap.Y0{d}{b n:Nat}{cs l}(e:cs=l.map AA)(hn:n=l.length)(hx:l.length≤140737488355328):Ap 1 AP d (.slice (some ⟨b,0,none⟩) n n) l (bx b T cs):=by
 subst e;refine Ap.lit hn (by simp) hx (fun i hi=>?_);simp only[AP,chunk,Afn,←Aio,←Aip];rw[Aei hi];rfl
def Ap.Ac3{d}{b n:Nat}{cs}{l:List Int}(e:cs=l.map (Value.int .i64))(hb:∀x∈l, -9223372036854775808≤x∧x≤9223372036854775807)(hn:n=l.length)(hx:l.length≤140737488355328):Ap 1 Bb d (.slice (some ⟨b,0,none⟩) n n) l (bx b T cs):=by
 subst e;refine Ap.lit hn (by simp) hx (fun i hi=>?_);simp only[Bb,chunk,Afn,←Aio,←Aip];rw[Aei hi];exact⟨rfl,hb _ (Aec hi)⟩
def Ap.bytes{d v xs h}(o:Ap 1 AP d v xs h):BT 1 v xs.length (xs.map AA) h:=by
 obtain⟨cs,h1,h2⟩:=o;have hl:=h1.1;have:cs=xs.map AA:=by
  apply Aht
  ·simp at hl⊢;exact hl
  ·intro i h3 h4;have h5:i<xs.length:=by simpa using h4
   have h6:chunk cs i 1=[AA xs[i]]:=h2 i h5;simp only[chunk,Afn] at h6;have h7:=congrArg (·[0]?) h6;simp only[Aew (show 0<1 by omega),Afe,Nat.add_zero,Ade h3,List.getElem?_cons_zero,Option.some.injEq] at h7;simp[h7]
 rw[←this];exact h1
section
variable {P:Program}{pan:List PanicEntry→AR}{Qn:Env→AR}{Ls L:List Ac}{ρ:Env}{d:Ac}{s:GS}{t:Nat}{tk:Bool}
def EL{α}{sz by_:Nat}{R z}(i:Nat){v w}{xs ys:List α}{h}(ex:ev ρ x=v)(hi:L[i]?=some h)(ho:Ap sz R d v xs h)
  (ey:ev ρ y=w) (hs:Src sz R d (Ls++L++L) w ys) (hsz:0<sz) (hm:xs.length+ys.length≤140737488355328) (hb:(xs.length+ys.length)*by_≤140737488355328)
  (k:∀v' h',Ap sz R d v' (xs++ys) h'→gws P pan Qn s Ls (upd ρ t v') d (L.set i h')):gws P pan Qn (.op false ⟨some t,none,.app sz by_ z x y⟩ s) Ls ρ d L:=by
 obtain⟨cs,h1,h2⟩:=ho
 obtain⟨news,k1,k2,k3⟩:=hs
 have hl:=h1.1
 refine Acn i ex hi h1 ey k1 k2 hsz hm hb (fun v' h' o=>k v' h' ⟨cs++news,by rw[Adj];exact o,fun j hj=>?_⟩)
 by_cases e:j<xs.length
 ·rw[FX hl e,Aho e];exact h2 j e
 ·rw[Fz hl (by omega),Ahk (by omega)]
  exact k3 _ (by simp at hj;omega)
def D1{α:Type}{sz by_:Nat}{R:Ac→List Value→α→Prop}{z:List Value}{x y:Operand}(i:Nat){v w:Value}{xs ys:List α}{h g:Ac}(ex:ev ρ x=v)(hi:L[i]?=some h)(ho:Ap sz R d v xs h)
  (ey:ev ρ y=w) (hs:Ap sz R d w ys g) (hc:FZ R) (hsz:0<sz) (hm:xs.length+ys.length≤140737488355328) (hb:(xs.length+ys.length)*by_≤140737488355328)
  (k:∀v' h',Ap sz R d v' (xs++ys) h'→gws P pan Qn s Ls (upd ρ t v') d (L.set i h')):gws P pan Qn (.op false ⟨some t,none,.app sz by_ z x y⟩ s) Ls ρ d (g::L):=by
 obtain⟨cs,h1,h2⟩:=ho
 obtain⟨news,k1,k2,k3⟩:=(hs.src hc (by simp):Src sz R d (Ls++(g::L)++(g::L)) w ys)
 have hl:=h1.1
 refine OY (i+1) ex (by simpa using hi) h1 ey k1 k2 hsz hm hb (fun v' h' o=>⟨d,L.set i h',?_,k v' h' ⟨cs++news,by rw[Adj];exact o,fun j hj=>?_⟩⟩)
 ·rw[Ahi]
  exact Vs.drop (Aef _ _)
 ·by_cases e:j<xs.length
  ·rw[FX hl e,Aho e];exact h2 j e
  ·rw[Fz hl (by omega),Ahk (by omega)]
   exact k3 _ (by simp at hj;omega)
def Xj{α:Type}{sz:Nat}{R:Ac→List Value→α→Prop}{x:Operand}{v:Value}{xs:List α}{h:Ac}(ex:ev ρ x=v)(hr:Ap sz R d v xs h)(k:gws P pan Qn s Ls (upd ρ t (vZ xs.length)) d L):
  gws P pan Qn (.op tk ⟨some t,none,.len x⟩ s) Ls ρ d L:=by
 obtain⟨a,c,rfl⟩:=hr.val
 exact AK ex k
def BM{α}{sz:Nat}{R i v}{xs:List α}{k}{m:Nat}(ex:ev ρ x=v)(hr:RSl sz R d v xs)(ei:ev ρ i=.int k j)(hm:j=(m:Int))(hl:m<xs.length)
  (h:∀b o cs,cs.length=sz→DCs d b o cs→R d cs xs[m]→gws P pan Qn s Ls (upd ρ t (.pointer (some ⟨b,o,none⟩))) d L):gws P pan Qn (.op tk ⟨some t,none,.idx sz x i⟩ s) Ls ρ d L:=by
 obtain⟨a,c,b,o,rfl,h2,h3,h4,h5,h6,h7,h8⟩:=hr
 obtain⟨cs,k1,k2,k3⟩:=h8 m hl
 exact BG m ex ei hm hl h2 (h b _ cs k1 k2 k3)
end
section
variable {P:Program}{Q:Cc}{ρ:Env}{d:Ac}{L:List Ac}
def AaW{α:Type}{a:Cq}(slots:α→Value→List (Nat×Value))(inv:α→Value→Ac→Ac→List Ac→Prop)(meas:α→Nat)(x0:α)(v0:Value)(h0:Ac)(hs:BI ρ (slots x0 v0))(i0:inv x0 v0 h0 d L)
  (round:∀x v h ρ d L,inv x v h d L→gwp P a {Q with n:=fun ρ d L=>∃x' v' h',meas x'<meas x∧BI ρ (slots x' v')∧inv x' v' h' d L} (Ja ρ (slots x v)) d L):gwp P (.loop a) Q ρ d L:=
 CB (α:=α×Value×Ac) (fun x=>slots x.1 x.2.1) (fun x d L=>inv x.1 x.2.1 x.2.2 d L) (fun x=>meas x.1) (x0,v0,h0) hs i0
  (fun x ρ d L hi=>NW (fun _ _ _ ⟨x',v',h',a,b,c⟩=>⟨(x',v',h'),a,b,c⟩) (round x.1 x.2.1 x.2.2 ρ d L hi))
end
section
variable {P:Program}{pan:List PanicEntry→AR}{Qn:Env→AR}{Ls L:List Ac}{ρ:Env}{d:Ac}{s t:GS}{g:GOp}
def EK(h1:gws P pan Qn (.op false g s) Ls ρ d L)(h2:gws P pan Qn t Ls ρ d L):gws P pan Qn (.alt g s t) Ls ρ d L:=⟨h1,h2⟩
def Ab2(is:List Nat)(hp:is.isPerm (Aek L.length)=true)(h:gws P pan Qn (.op false g s) Ls ρ d (pick L is)):gws P pan Qn (.op false g s) Ls ρ d L:=B9 d _ (Vs.pick is hp) h
def FR(h:∃d1 L1,Vs d L d1 L1∧Qn ρ d1 L1):gws P pan Qn .done [] ρ d L:=h
def As{C:Addr→Value→Prop}{t:Nat}{v}(e:ρ t=v):Lo ρ C (.tmp t) v:=e.symm
def AV{t n b:Nat}{l}(i:Nat)(e:ρ t=pZ b)(hi:L[i]?=some (bx b T l))(hn:l.length=n):Lo ρ (HC d L) (.cell t (some n)) (.agg l.toArray):=
 ⟨b,0,l,e,hn,fun j u hu=>by rw[Afj];exact Aj i hi hu,rfl⟩
def AbH{res:List Gt}{R}(vs:List Value)(hr:GO ρ (HC d L) res vs)(h:∀d',Le d d'→(∀k∈L,Le k d')→R (.returned (Km vs)) d' []):CI res R ρ d L:=
 let ⟨d',h1,h2,h3⟩:=Vs.IG d L
 ⟨vs,hr,d',[],h1,h d' h2 h3⟩
def EY{res:List Gt}{R}(vs:List Value){L'}(hr:GO ρ (HC d L) res vs)(hs:L'.Sublist L)(h:R (.returned (Km vs)) d L'):CI res R ρ d L:=
 ⟨vs,hr,d,L',Vs.drop hs,h⟩
end
section
variable {P:Program}{pan:List PanicEntry→AR}{Qn:Env→AR}{Ls L:List Ac}{ρ:Env}{d:Ac}{s:GS}{t:Nat}{tk:Bool}
end
def Av.AcH{P args d L R R'}
  (h:Av P f args d L R) (hr:∀e d' L',Le d d'→R e d' L'→∃d2 L2,Vs d' L' d2 L2∧R' e d2 L2):Av P f args d L R':=
 ⟨h.1,fun F W x=>(h.2 F W x).mono fun e W' ⟨d',L',a,b,c,r⟩=>let ⟨d2,L2,v,r2⟩:=hr e d' L' b r;⟨d2,L2,v.2 F W' a,b.trans v.1,c,r2⟩⟩
def Av.DL{P args d L R R'}
  (h:Av P f args d L (Ret R)) (hr:∀v d' L',Le d d'→R v d' L'→∃d2 L2,Vs d' L' d2 L2∧R' v d2 L2):Av P f args d L (Ret R'):=
 h.AcH (fun e d' L' hl r=>by
  cases e with
  |returned v=>exact hr v d' L' hl r
  |panicked c=>exact r.elim
  |outgrown=>exact r.elim)
def EF.grow{N:Nat}{v c h d}(r:EF N v c h)(hN:N≤140737488355328):Ap 1 AP d v c h:=by
 obtain⟨hc,b,T,rfl,rfl⟩:=r;refine⟨c.map AA,BT.mk (by simp) (by omega) hc (by omega) (by simp;omega) (by simp),fun i hi=>?_⟩
 simp only[AP,chunk,Afn,←Aio,←Aip];rw[Aei hi];rfl
end
section
def HQ:List Ac→Ac
 |[]=>emp
 |h::L=>join h (HQ L)
def Ij:∀{L h},h∈L→Le h (HQ L)
 |k::L,h,hm=>by
  rcases Adu.1 hm with rfl|hm
  ·exact Le.AG _ _
  ·exact(Ij hm).trans (Le.Ba _ _)
def Pf{k}:∀{L},(∀h∈L,EX k h)→EX k (HQ L)
 |[],_=>fun _ _ _ _ e=>e.elim
 |h::_,hd=>fun b o o' e e'=>e'.elim (hd h (Ado ..) b o o' e) (Pf (fun h' hm=>hd h' (Adp _ hm)) b o o' e)
def Vs.cons{d d' h L L'}(v:Vs d L d' L'):Vs d (h::L) d' (h::L'):=
 ⟨v.1,fun F W x=>(v.2 (h::F) W (x.perm (List.perm_middle.symm.cons d))).perm (List.perm_middle.cons d')⟩
def Vs.VM{d L0}:∀{L},L.Pairwise EX→Vs d (HQ L::L0) d (L++L0)
 |[],_=>Vs.drop (Aef _ _)
 |h::L,hp=>by
  rw[List.pairwise_cons] at hp;exact(Vs.split (Pf hp.1)).trans (Vs.cons (Vs.VM hp.2))
def Vs.Vv{d L0}:∀{L},Vs d (L++L0) d (HQ L::L0)
 |[]=>Vs.emp
 |_::L=>(Vs.cons (Vs.Vv (L:=L))).trans Vs.join
def Ok.pw{d L F W}(x:Ok (d::(L++F)) W):(d::L).Pairwise EX:=x.1.sublist ((Ahl L F).cons_cons d)
def C2.borrow{P vs d L v}(h:∀d1,Le d d1→(∀k∈L,Le k d1)→C2 P f vs d1 v):
  Av P f vs d L (Ret fun r d' L'=>r=v∧d'=d∧L'=L):=by
 have h:=h (HQ (d::L)) (Ij (Ado ..)) (fun k hk=>Ij (Adp _ hk))
 refine⟨h.1,fun F W x=>?_⟩
 have hp:=x.pw
 have y:Ok (HQ (d::L)::([]++F)) W:=by
  have:=(Vs.Vv (d:=emp) (L0:=F) (L:=d::L)).2 [] W (by simpa using x.emp);simpa using this.tail
 refine(h.2 F W y).mono fun e W' ⟨d',L',a,b,c,r⟩=>?_
 cases e with
 |panicked c=>exact r.elim
 |outgrown=>exact r.elim
 |returned u=>
  obtain⟨rfl,rfl,rfl⟩:=r
  refine⟨d,L,?_,Le.refl d,c,rfl,rfl,rfl⟩
  have:=(Vs.VM (d:=emp) (L0:=F) hp).2 [] W' (by simpa using a.emp)
  simpa using this.tail
section
variable {P:Program}{pan:List PanicEntry→AR}{Qn:Env→AR}{Ls L:List Ac}{ρ:Env}{d:Ac}{s:GS}{t:Nat}{tk:Bool}
def Jy{args vs v}(ea:args.map (ev ρ)=vs)(hc:∀d1,Le d d1→(∀k∈L,Le k d1)→C2 P f vs d1 v)
  (h:gws P pan Qn s Ls (upd ρ t v) d L):gws P pan Qn (.op false ⟨some t,none,.call f args⟩ s) Ls ρ d L:=by
 refine Fv (R:=fun r d' L'=>r=v∧d'=d∧L'=L) L.length ea (by rw[Afi];exact C2.borrow hc) (fun r d' L' _ ⟨h1,h2,h3⟩=>?_)
 subst h1;subst h2;subst h3
 rw[Agj,Aed];exact h
def DN{args R vs A B}(hL:L=A++B)(ea:args.map (ev ρ)=vs)(hc:Av P f vs d A (Ret R))
  (h:∀v d' L',Le d d'→R v d' L'→gws P pan Qn s Ls (upd ρ t v) d' (L'++B)):gws P pan Qn (.op false ⟨some t,none,.call f args⟩ s) Ls ρ d L:=by
 subst hL
 refine Fv A.length ea (by rw[List.take_left];exact hc) (fun v d' L' hl hr=>?_)
 rw[List.drop_left];exact h v d' L' hl hr
end
def RSl.cut{α}{sz:Nat}{R d a}{n c:Nat}{xs:List α}(hr:RSl sz R d (.slice a n c) xs){l h m:Nat}(h1:l≤h)(h2:h≤m)(h3:m≤c)(h4:h≤xs.length):
  RSl sz R d (.slice (if m=l then a else a.map fun a=>⟨a.block,a.off+l*sz,none⟩) (h - l) (m - l)) ((xs.drop l).take (h - l)):=by
 obtain⟨a',c',b,o,e,k2,k3,k4,k5,k6,k7,k8⟩:=hr
 cases e
 have hl:((xs.drop l).take (h - l)).length=h - l:=by simp;omega
 refine⟨_,m - l,b,o+l*sz,by rw[hl],fun h0=>?_,fun h0 a' ha=>?_,fun h0=>?_,by omega,by omega,by omega,fun i hi=>?_⟩
 ·rw[hl] at h0
  rw[if_neg (by omega),k2 (by omega)];rfl
 ·rw[if_neg (by omega)] at ha
  cases a with
  |none=>cases ha
  |some a=>cases ha;rfl
 ·split at h0
  ·omega
  ·cases a with
   |none=>have:=k4 rfl;omega
   |some a=>cases h0
 ·rw[hl] at hi
  obtain⟨cs,j1,j2,j3⟩:=k8 (l+i) (by omega)
  refine⟨cs,j1,?_,?_⟩
  ·rw[Afu,←Nat.add_assoc] at j2;exact j2
  ·simpa using j3
section
variable {P:Program}{pan:List PanicEntry→AR}{Qn:Env→AR}{Ls L:List Ac}{ρ:Env}{d:Ac}{s:GS}{t:Nat}{tk:Bool}{α:Type}{sz:Nat}{R:Ac→List Value→α→Prop}{x y z:Operand}{v:Value}{xs:List α}{kk kk':IntKind}{n m:Nat}
def Po(ex:ev ρ x=v)(hr:RSl sz R d v xs)(ey:ev ρ y=.int kk j)(hj:j=(n:Int))(hn:n≤xs.length)(k:∀v',RSl sz R d v' (xs.take n)→gws P pan Qn s Ls (upd ρ t v') d L):
  gws P pan Qn (.op tk ⟨some t,none,.sl sz x none (some y) none⟩ s) Ls ρ d L:=by
 subst hj
 have hr':=hr
 obtain⟨a,c,b,o,rfl,h2,h3,h4,h5,h6,h7,h8⟩:=hr
 have hc:D3 xs.length c none (some (ev ρ y)) none=some (0,n,c):=by
  simp only[D3,Hf,GH,Hb,Afg,Aga,ey,bnd];rw[if_pos (by omega)];simp
 refine w_q rfl ⟨a,xs.length,c,0,n,c,ex,h3,hc,rfl⟩ (k _ ?_)
 simpa using hr'.cut (l:=0) (h:=n) (m:=c) (by omega) (by omega) (Adi c) hn
def MW{j':Int}(ex:ev ρ x=v)(hr:RSl sz R d v xs)(ey:ev ρ y=.int kk j)(ez:ev ρ z=.int kk' j')(hj:j=(n:Int))(hj':j'=(n:Int))(hn:n≤xs.length)(k:∀v',RSl sz R d v' (xs.take n)→gws P pan Qn s Ls (upd ρ t v') d L):
  gws P pan Qn (.op tk ⟨some t,none,.sl sz x none (some y) (some z)⟩ s) Ls ρ d L:=by
 subst hj;subst hj'
 have hr':=hr
 obtain⟨a,c,b,o,rfl,h2,h3,h4,h5,h6,h7,h8⟩:=hr
 have hc:D3 xs.length c none (some (ev ρ y)) (some (ev ρ z))=some (0,n,n):=by
  simp only[D3,Hf,GH,Hb,ey,ez,bnd];rw[if_pos (by omega)];simp
 refine w_q rfl ⟨a,xs.length,c,0,n,n,ex,fun h0=>h3 (by omega),hc,rfl⟩ (k _ ?_)
 simpa using hr'.cut (l:=0) (h:=n) (m:=n) (by omega) (by omega) (by omega) hn
def EU(ex:ev ρ x=v)(hr:RSl sz R d v xs)(ey:ev ρ y=.int kk j)(hj:j=(n:Int))(hn:n≤xs.length)(k:∀v',RSl sz R d v' (xs.drop n)→gws P pan Qn s Ls (upd ρ t v') d L):
  gws P pan Qn (.op tk ⟨some t,none,.sl sz x (some y) none none⟩ s) Ls ρ d L:=by
 subst hj
 have hr':=hr
 obtain⟨a,c,b,o,rfl,h2,h3,h4,h5,h6,h7,h8⟩:=hr
 have hc:D3 xs.length c (some (ev ρ y)) none none=some (n,xs.length,c):=by
  simp only[D3,Hf,GH,Hb,Ahy,Adk,if_false,Afg,ey,bnd];rw[if_pos (by omega)];simp
 refine w_q rfl ⟨a,xs.length,c,n,xs.length,c,ex,fun(h0:c≠n)=>h3 (by omega),hc,rfl⟩ (k _ ?_)
 have:=hr'.cut (l:=n) (h:=xs.length) (m:=c) (by omega) (by omega) (Adi c) (Adi _)
 rwa [Afh (by simp)] at this
def Abd{j':Int}(ex:ev ρ x=v)(hr:RSl sz R d v xs)(ey:ev ρ y=.int kk j)(ez:ev ρ z=.int kk' j')(hj:j=(n:Int))(hj':j'=(m:Int))(hnm:n≤m)(hn:m≤xs.length)(k:∀v',RSl sz R d v' ((xs.drop n).take (m - n))→gws P pan Qn s Ls (upd ρ t v') d L):
  gws P pan Qn (.op tk ⟨some t,none,.sl sz x (some y) (some z) none⟩ s) Ls ρ d L:=by
 subst hj;subst hj'
 have hr':=hr
 obtain⟨a,c,b,o,rfl,h2,h3,h4,h5,h6,h7,h8⟩:=hr
 have hc:D3 xs.length c (some (ev ρ y)) (some (ev ρ z)) none=some (n,m,c):=by
  simp only[D3,Hf,GH,Hb,Afg,ey,ez,bnd];rw[if_pos (by omega)];simp only[Afg,Int.toNat_natCast];rw[if_pos (by omega)];simp
 exact w_q rfl ⟨a,xs.length,c,n,m,c,ex,fun(h0:c≠n)=>h3 (by omega),hc,rfl⟩ (k _ (hr'.cut (l:=n) (h:=m) (m:=c) hnm (by omega) (Adi c) hn))
end
section
variable {P:Program}{pan:List PanicEntry→AR}{Qn:Env→AR}{Ls L:List Ac}{ρ:Env}{d:Ac}{s:GS}{t:Nat}
def UE{sz by_:Nat}{z x y}(i:Nat){v}{n m b:Nat}{xs cs h}(ex:ev ρ x=v)(hi:L[i]?=some h)(ho:BT sz v n xs h)
  (ey:ev ρ y=.slice (some ⟨b,0,none⟩) m m) (hl:cs.length=m*sz) (h1:(cs.all (·.oneCell'))=true) (hsz:0<sz) (hm:n+m≤140737488355328) (hb:(n+m)*by_≤140737488355328)
  (k:∀v' h',BT sz v' (n+m) (xs++cs) h'→gws P pan Qn s Ls (upd ρ t v') d (L.set i h')):gws P pan Qn (.op false ⟨some t,none,.app sz by_ z x y⟩ s) Ls ρ d (bx b T cs::L):=by
 have hrd:RdX d (Ls++(bx b T cs::L)++(bx b T cs::L)) (.slice (some ⟨b,0,none⟩) m m) m sz cs:=
  RdX.lit (T:=T) (Ls.length) (by rw[Adf,Aff (Adi _)];simp) hl
 refine OY (i+1) ex (by simpa using hi) ho ey hrd h1 hsz hm hb (fun v' h' o=>⟨d,L.set i h',?_,k v' h' o⟩)
 rw[Ahi]
 exact Vs.drop (Aef _ _)
end
def Vs.V4{d}(Ls:List (List Ac))(is js:List Nat)(hp:(is++js).isPerm (Aek Ls.length)=true):Vs d Ls.flatten d ((is.map fun i=>Ls.getD i []).flatten):=by
 have hp:(is++js).Perm (Aek Ls.length):=List.isPerm_iff.1 hp;have h1:=hp.symm.map fun i=>Ls.getD i [];have h0:(Aek Ls.length).map (fun i=>Ls.getD i [])=Ls:=by
  apply Aht
  ·simp
  ·intro i h1 h2;simp[List.getD,h2]
 rw[h0,Ahb] at h1;have h2:=h1.flatten;rw[List.flatten_append] at h2;exact(Vs.perm h2).trans (Vs.drop (Ahl _ _))
section
variable {P:Program}{Q:Cc}{ρ:Env}{d:Ac}{L:List Ac}
def Bv{s}(Ls L1:List Ac)(hL:L=Ls++L1)(h:gws P Q.pan Q.n s Ls ρ d L1):gwp P (.reg true s) Q ρ d L:=⟨d,Ls,L1,by rw[hL];exact Vs.refl d _,h⟩
def Bd{res:List Gt}{R}(vs:List Value){d' L'}(hr:GO ρ (HC d L) res vs)(hs:Vs d L d' L')(h:R (.returned (Km vs)) d' L'):CI res R ρ d L:=
 ⟨vs,hr,d',L',hs,h⟩
end
def X4{l}{m:Nat}{x}(h:m<l.length):patch l m [x]=l.set m x:=by
 rw[List.set_eq_take_append_cons_drop,if_pos h];simp[patch]
def BT.Acq{n:Nat}{v us h}(o:BT 1 v n us h){m:Nat}(hm:m<n):
  ∃b T l c,v=.slice (some ⟨b,0,none⟩) n c∧h=bx b T l∧m<l.length∧(∀u,us[m]?=some u→l[m]?=some u)∧∀x,BT 1 v n (us.set m x) (bx b T (patch l m [x])):=by
 obtain⟨h1,h2,⟨rfl,rfl,rfl⟩|⟨b,T,l,c,rfl,rfl,h3,h4,h5,h6⟩⟩:=o
 ·omega
 ·have hml:m<l.length:=by omega
  refine⟨b,T,l,c,rfl,rfl,hml,fun u hu=>?_,fun x=>?_⟩
  ·rw[←h6] at hu
   rw[Aew (by omega)] at hu
   exact hu
  ·rw[X4 hml]
   refine⟨by simpa using h1,h2,.inr ⟨b,T,l.set m x,c,rfl,rfl,h3,h4,by simpa using h5,?_⟩⟩
   rw[Aen,List.take_set,h6]
def Ap.MY{d v xs h}(o:Ap 1 AP d v xs h){m:Nat}(hm:m<xs.length):
  ∃b T l c,v=.slice (some ⟨b,0,none⟩) xs.length c∧h=bx b T l∧m<l.length∧l[m]?=some (AA xs[m])∧∀y,Ap 1 AP d v (xs.set m y) (bx b T (patch l m [AA y])):=by
 obtain⟨b,T,l,c,h1,h2,h3,h4,h5⟩:=o.bytes.Acq hm
 refine⟨b,T,l,c,h1,h2,h3,h4 _ (by simp[hm]),fun y=>?_⟩
 have:=h5 (AA y)
 rw[←List.map_set] at this
 refine⟨(xs.set m y).map AA,by rw[Aen];exact this,fun i hi=>?_⟩
 simp only[AP,chunk,Afn,←Aio,←Aip]
 rw[Aei hi];rfl
section
variable {P:Program}{pan:List PanicEntry→AR}{Qn:Env→AR}{Ls L:List Ac}{ρ:Env}{d:Ac}{s:GS}{t:Nat}{tk:Bool}
def K1{x i}{b n c:Nat}{k}(m:Nat)(ex:ev ρ x=.slice (some ⟨b,0,none⟩) n c)(ei:ev ρ i=.int k j)(hm:j=(m:Int))(hl:m<n)
  (h:gws P pan Qn s Ls (upd ρ t (.pointer (some ⟨b,m,none⟩))) d L):gws P pan Qn (.op tk ⟨some t,none,.idx 1 x i⟩ s) Ls ρ d L:=
 BG (o:=0) m ex ei hm hl (SAd.some n b 0) (by rw[Afj,Afn];exact h)
end
end
section
def flat:List (List Ac)→List Ac
 |[]=>[]
 |[l]=>l
 |l::m::Ls=>l++flat (m::Ls)
def Us:∀Ls:List (List Ac),flat Ls=Ls.flatten
 |[]=>rfl
 |[l]=>by simp[flat]
 |l::m::Ls=>by simp only[flat];rw[Us (m::Ls)];simp
def Vs.SA{d L L'}(Ls:List (List Ac))(is js:List Nat)(hp:(is++js).isPerm (Aek Ls.length)=true)(hL:L=flat Ls)(hL':(is.map fun i=>Ls.getD i []).flatten=L'):Vs d L d L':=by
 subst hL';rw[hL,Us];exact Vs.V4 Ls is js hp
def Av.borrow{P vs d L}{Q:Value→List Ac→Prop}(h:∀d1,Le d d1→(∀k∈L,Le k d1)→Av P f vs d1 [] (Ret fun r d' L'=>d'=d1∧Q r L')):
  Av P f vs d L (Ret fun r d' L'=>d'=d∧∃L1,L'=L1++L∧Q r L1):=by
 have h:=h (HQ (d::L)) (Ij (Ado ..)) (fun k hk=>Ij (Adp _ hk))
 refine⟨h.1,fun F W x=>?_⟩
 have hp:=x.pw
 have y:Ok (HQ (d::L)::([]++F)) W:=by
  have:=(Vs.Vv (d:=emp) (L0:=F) (L:=d::L)).2 [] W (by simpa using x.emp);simpa using this.tail
 refine(h.2 F W y).mono fun e W' ⟨d',L',a,b,c,r⟩=>?_
 cases e with
 |panicked c=>exact r.elim
 |outgrown=>exact r.elim
 |returned u=>
  obtain⟨rfl,r⟩:=r
  refine⟨d,L'++L,?_,Le.refl d,c,rfl,L',rfl,r⟩
  have:=(Vs.VM (d:=emp) (L0:=L'++F) hp).2 [] W' (by simpa using a.emp)
  have z:Ok ((d::L)++(L'++F)) W':=by simpa using this.tail
  refine z.perm ?_
  simp only[Aex,Adf]
  refine List.Perm.cons d ?_
  rw[←Adf,←Adf]
  exact List.Perm.append_right F Adl
section
variable {P:Program}{pan:List PanicEntry→AR}{Qn:Env→AR}{Ls L:List Ac}{ρ:Env}{d:Ac}{s:GS}{t:Nat}{tk:Bool}
def A6{n:Nat}{b o:Nat}{l}(i:Nat)(l':List Value)(hi:L[i]?=some (bx b T l))(ex:ev ρ x=.pointer (some ⟨b,o,none⟩))(ey:ev ρ y=v)
  (hn:v.cells.size=n) (hl:o+n≤l.length) (h1:(v.cells.toList.all (·.oneCell'))=true) (hp:patch l o v.cells.toList=l') (h:gws P pan Qn s Ls ρ d (L.set i (bx b T l'))):
  gws P pan Qn (.op false ⟨none,none,.st n x y⟩ s) Ls ρ d L:=by subst hp;exact BU i hi ex ey hn hl h1 h
def JA{args}{Q:Value→List Ac→Prop}{vs}(ea:args.map (ev ρ)=vs)(hc:∀d1,Le d d1→(∀k∈L,Le k d1)→Av P f vs d1 [] (Ret fun r d' L'=>d'=d1∧Q r L'))
  (h:∀r L',Q r L'→gws P pan Qn s Ls (upd ρ t r) d (L'++L)):gws P pan Qn (.op false ⟨some t,none,.call f args⟩ s) Ls ρ d L:=by
 refine Fv (R:=fun r d' L'=>d'=d∧∃L1,L'=L1++L∧Q r L1) L.length ea (by rw[Afi];exact Av.borrow hc) (fun r d' L' _ ⟨h1,L1,h2,h3⟩=>?_)
 subst h1;subst h2
 rw[Agj,Aed];exact h r L1 h3
def R6{k'}{a:Nat}(ex:ev ρ x=vZ a)(ey:ev ρ y=.int k' 8)(ha:a≤1000000000000)(h:gws P pan Qn s Ls (upd ρ t (vZ (a*256:Nat))) d L):
  gws P pan Qn (.op tk ⟨some t,none,.bin .shl x y⟩ s) Ls ρ d L:=by
 refine Dl ?_ h
 have h1:min (Int.toNat 8) IntKind.i64.bits=8:=by simp[IntKind.bits]
 rw[ex,ey]
 simp only[C7,h1]
 rw[if_neg (by omega),DO (by omega) (by omega)]
 congr 2
def Rw{a b:Nat}(ex:ev ρ x=vZ (a*256:Nat))(ey:ev ρ y=vZ b)(ha:a≤1000000000000)(hb:b<256)(h:gws P pan Qn s Ls (upd ρ t (vZ (a*256+b:Nat))) d L):
  gws P pan Qn (.op tk ⟨some t,none,.bin .or x y⟩ s) Ls ρ d L:=by
 refine Dl ?_ h
 have e:(BitVec.ofInt IntKind.i64.bits ((a*256:Nat):Int)|||BitVec.ofInt IntKind.i64.bits ((b:Nat):Int)).toNat=a*256+b:=by
  have h1:=Nat.shiftLeft_add_eq_or_of_lt (i:=8) hb a;rw[Nat.shiftLeft_eq] at h1;show((BitVec.ofInt 64 ((a*256:Nat):Int):BitVec 64)|||(BitVec.ofInt 64 ((b:Nat):Int):BitVec 64)).toNat=_;rw[BitVec.toNat_or,BitVec.ofInt_natCast,BitVec.ofInt_natCast,BitVec.toNat_ofNat,BitVec.toNat_ofNat];rw[Agh (by omega),Agh (by omega)];exact h1.symm
 rw[ex,ey]
 simp only[C7,e]
 rw[DO (by omega) (by omega)]
 simp
def XG{a b:Int}(ex:ev ρ x=.int .u8 a)(ey:ev ρ y=.int .u8 b)(h1:0≤a+b)(h2:a+b≤255)
  (h:gws P pan Qn s Ls (upd ρ t (.int .u8 (a+b))) d L):gws P pan Qn (.op tk ⟨some t,none,.bin .add x y⟩ s) Ls ρ d L:=
 Dl (by
  have e:IntKind.u8.wrap (a+b)=a+b:=by simp[IntKind.wrap,IntKind.signed,IntKind.bits];omega
  rw[ex,ey];simp[C7,e]) h
end
def Ap.En{d d' xs h}(o:Ap 1 RBs d v xs h)(hl:Le d d'):Ap 1 RBs d' v xs h:=Ap.mono (R:=RBs) Fa o hl
def Ap.Hk{d d'}{xs:List Int}{h}(o:Ap 1 Bb d v xs h)(hl:Le d d'):Ap 1 Bb d' v xs h:=Ap.mono (R:=Bb) B2 o hl
end
section
section
variable {P:Program}{Q:Cc}{ρ:Env}{d:Ac}{L:List Ac}
def BQ(h:xwp P a {Q with n:=xwp P b Q} ρ d L):xwp P (.seq a b) Q ρ d L:=h
def x_g{c:Cq}(h:gwp P c Q ρ d L):xwp P (.g c) Q ρ d L:=h
def AcM{c}(e:ev ρ c=.bool true)(h:xwp P a Q ρ d L):xwp P (.cond c a b) Q ρ d L:=⟨true,e,fun _=>h,fun q=>by cases q⟩
def Aaa{c}(e:ev ρ c=.bool false)(h:xwp P b Q ρ d L):xwp P (.cond c a b) Q ρ d L:=⟨false,e,fun q=>(by cases q),fun _=>h⟩
def GD{id:Nat}(h:xwp P a {Q with ex:=fun j=>if j=id then Q.n else Q.ex j} ρ d L):xwp P (.block id a) Q ρ d L:=h
def PZ{c:D6}(l:List (Nat×Value))(e:BI ρ l)(h:xwp P c Q (Ja ρ l) d L):xwp P c Q ρ d L:=by rwa [IW e] at h
end
def FN{P}:∀(c:D6) {Q Q':Cc}{ρ d L},xwp P c Q ρ d L→(∀ρ d L,Q.n ρ d L→Q'.n ρ d L)→(∀i ρ d L,Q.ex i ρ d L→Q'.ex i ρ d L)→
  (∀ρ d L,Q.ret ρ d L→Q'.ret ρ d L)→Q.pan=Q'.pan→xwp P c Q' ρ d L
 |.g c,_,_,_,_,_,h,h1,h2,h3,h4=>EN c h h1 h2 h3 h4
 |.seq a b,_,_,_,_,_,h,h1,h2,h3,h4=>FN a h (fun _ _ _ h=>FN b h h1 h2 h3 h4) h2 h3 h4
 |.cond c a b,_,_,_,_,_,⟨t,e,k1,k2⟩,h1,h2,h3,h4=>⟨t,e,fun q=>FN a (k1 q) h1 h2 h3 h4,fun q=>FN b (k2 q) h1 h2 h3 h4⟩
 |.block id a,Q,Q',_,_,_,h,h1,h2,h3,h4=>by
  refine FN a (Q:={Q with ex:=fun j=>if j=id then Q.n else Q.ex j}) (Q':={Q' with ex:=fun j=>if j=id then Q'.n else Q'.ex j}) h h1 (fun i ρ d L hq=>?_) h3 h4;simp only at hq⊢;split at hq
  ·rename_i e;rw[if_pos e];exact h1 _ _ _ hq
  ·rename_i e;rw[if_neg e];exact h2 _ _ _ _ hq
 |.loop a,Q,Q',_,_,_,⟨I,⟨m,hI⟩,round⟩,h1,h2,h3,h4=>
  ⟨I,⟨m,hI⟩,fun m ρ d L hi=>FN a (Q:={Q with n:=_}) (Q':={Q' with n:=_}) (round m ρ d L hi) (fun _ _ _ h=>h) h2 h3 h4⟩
 |.yl pre dst f args post,Q,Q',_,_,_,h,h1,_,_,h4=>by
  simp only[xwp] at h⊢;rw[←h4];refine Dp (fun ρ d L hm=>?_) pre h;obtain⟨l,A,B,R,e1,e2,hy,hR⟩:=hm;exact⟨l,A,B,R,e1,e2,hy,fun v d2 L2 hl hr=>by rw[←h4];exact Dp h1 post (hR v d2 L2 hl hr)⟩
 |.snd pre dst ch x post,Q,Q',_,_,_,h,h1,_,_,h4=>by
  simp only[xwp] at h⊢;rw[←h4];refine Dp (fun ρ d L hm=>?_) pre h;obtain⟨i,c,cap,buf,s,r,tm,e1,e2,e3,hR⟩:=hm;exact⟨i,c,cap,buf,s,r,tm,e1,e2,e3,by rw[←h4];exact Dp h1 post hR⟩
 |.sel pre dst ch z post,Q,Q',_,_,_,h,h1,_,_,h4=>by
  simp only[xwp] at h⊢;rw[←h4];refine Dp (fun ρ d L hm=>?_) pre h;obtain⟨i,c,cap,buf,s,r,tm,e1,e2,k1,k2⟩:=hm;exact⟨i,c,cap,buf,s,r,tm,e1,e2,fun v rest e=>by rw[←h4];exact Dp h1 post (k1 v rest e),fun e=>by rw[←h4];exact Dp h1 post (k2 e)⟩
 |.rf f ps as bd,_,_,_,_,_,⟨g,first,cap,e1,hit⟩,h1,h2,h3,h4=>by
  refine⟨g,first,cap,e1,fun l rc k1 k2 k3=>?_⟩
  obtain⟨R,hc,hR⟩:=hit l rc k1 k2 k3;refine⟨R,hc,fun e d' L' hl hr=>?_⟩
  obtain⟨v,rc',L'',q1,q2,q3,q4⟩:=hR e d' L' hl hr;refine⟨v,rc',L'',q1,q2,q3,?_⟩
  cases hp:rc'.pending with
  |none=>rw[hp] at q4;exact h1 _ _ _ q4
  |some j=>
   rw[hp] at q4
   cases j with
   |exit id=>exact h2 _ _ _ _ q4
   |ret=>exact h3 _ _ _ q4
   |_=>exact q4
def TC{P}{c:D6}{Q:Cc}{N N':Env→AR}(hn:∀ρ d L,N ρ d L→N' ρ d L){ρ d L}(h:xwp P c {Q with n:=N} ρ d L):xwp P c {Q with n:=N'} ρ d L:=
 FN c h hn (fun _ _ _ _ h=>h) (fun _ _ _ h=>h) rfl
section
variable {P:Program}{Q:Cc}{ρ:Env}{d:Ac}{L:List Ac}
def Acl(M:Env→AR)(h1:xwp P a {Q with n:=M} ρ d L)(h2:∀ρ d L,M ρ d L→xwp P b Q ρ d L):xwp P (.seq a b) Q ρ d L:=
 BQ (TC h2 h1)
def P7{α}(slots:α→List (Nat×Value))(inv:α→Ac→List Ac→Prop)(meas:α→Nat)(x0:α)(h0:BI ρ (slots x0))(i0:inv x0 d L)
  (round:∀x ρ d L,inv x d L→xwp P a {Q with n:=fun ρ d L=>∃x',meas x'<meas x∧BI ρ (slots x')∧inv x' d L} (Ja ρ (slots x)) d L):xwp P (.loop a) Q ρ d L:=by
 refine⟨fun m ρ d L=>∃x,meas x=m∧BI ρ (slots x)∧inv x d L,⟨meas x0,x0,rfl,h0,i0⟩,?_⟩
 rintro m ρ d L ⟨x,rfl,h1,h2⟩
 exact PZ _ h1 (TC (fun ρ' d' L' ⟨x',k1,k2,k3⟩=>⟨meas x',k1,x',rfl,k2,k3⟩) (round x ρ d L h2))
def Yx{f args}(h:gws P Q.pan (RG P Q dst f args post) pre [] ρ d L):xwp P (.yl pre dst f args post) Q ρ d L:=h
def Aac(h:gws P Q.pan (Pp P Q dst ch x post) pre [] ρ d L):xwp P (.snd pre dst ch x post) Q ρ d L:=h
def AcL(h:gws P Q.pan (LN P Q dst ch z post) pre [] ρ d L):xwp P (.sel pre dst ch z post) Q ρ d L:=h
def P6{f args}{l:Nat}{vs}(A B:List Ac){R}(ef:ev ρ f=.func (.yield l) #[] #[])(hL:L=A++B)(ea:args.map (ev ρ)=vs)(hy:JF P l vs d A R)
  (k:∀v d2 L2,Le d d2→R v d2 L2→gws P Q.pan Q.n post [] (put ρ dst v) d2 (L2++B)):RG P Q dst f args post ρ d L:=
 ⟨l,A,B,R,ef,hL,ea▸hy,k⟩
def XP(i:Nat){c:Nat}{buf}{s r:Nat}(ec:ev ρ ch=.chan (some c))(hi:L[i]?=some (sg c (.chan cap buf.toArray false s r tm)))(hroom:buf.length<cap)(ex:ev ρ x=v)
  (k:gws P Q.pan Q.n post [] (put ρ dst undef) d (L.set i (sg c (.chan cap (buf++[v]).toArray false (s+1) r tm)))):Pp P Q dst ch x post ρ d L:=
 ⟨i,c,cap,buf,s,r,tm,ec,hi,hroom,ex▸k⟩
def X0(i:Nat){c:Nat}{buf}{s r:Nat}(ec:ev ρ ch=.chan (some c))(hi:L[i]?=some (sg c (.chan cap (v::buf).toArray false s r tm)))
  (k:gws P Q.pan Q.n post [] (put ρ dst (.tuple #[vZ 0,.bool true,v])) d (L.set i (sg c (.chan cap buf.toArray false s (r+1) tm)))):LN P Q dst ch z post ρ d L:=
 ⟨i,c,cap,v::buf,s,r,tm,ec,hi,fun v' rest e=>by cases e;exact k,fun e=>by cases e⟩
def XN(i:Nat){c:Nat}{s r:Nat}(ec:ev ρ ch=.chan (some c))(hi:L[i]?=some (sg c (.chan cap #[] false s r tm)))
  (k:gws P Q.pan Q.n post [] (put ρ dst (.tuple #[vZ (-1),.bool false,z])) d L):LN P Q dst ch z post ρ d L:=
 ⟨i,c,cap,[],s,r,tm,ec,hi,(fun v' rest e=>by cases e),fun _=>k⟩
end
end
section
section
variable {P:Program}{pan:List PanicEntry→AR}{Qn:Env→AR}{Ls L:List Ac}{ρ:Env}{d:Ac}{s:GS}{t:Nat}{tk:Bool}
def D5{x0 v0}(e0:ev ρ x0=v0)(c0:v0.cells= #[v0])(h:∀b T,gws P pan Qn s Ls (upd ρ t (.slice (some ⟨b,0,none⟩) 1 1)) d (bx b T [v0]::L)):
  gws P pan Qn (.op false ⟨some t,none,.bsl 1 1 [z] [(0,x0)]⟩ s) Ls ρ d L:=by
 refine DE (by omega) ?_ h
 simp[Instr.fill,Bq,Aek,List.range.loop,e0,c0]
def AcN{x0 x1 v0 v1}(e0:ev ρ x0=v0)(c0:v0.cells= #[v0])(e1:ev ρ x1=v1)(c1:v1.cells= #[v1])(h:∀b T,gws P pan Qn s Ls (upd ρ t (.slice (some ⟨b,0,none⟩) 2 2)) d (bx b T [v0,v1]::L)):
  gws P pan Qn (.op false ⟨some t,none,.bsl 2 1 [z] [(0,x0),(1,x1)]⟩ s) Ls ρ d L:=by
 refine DE (by omega) ?_ h
 simp[Instr.fill,Bq,Aek,List.range.loop,e0,c0,e1,c1]
def AbC{a b:Int}(ex:ev ρ x=vZ a)(ey:ev ρ y=vZ b)(h1: -9223372036854775808≤a)(h2:a≤9223372036854775807)(h3:2≤b)(h:gws P pan Qn s Ls (upd ρ t (vZ (a.tdiv b))) d L):
  gws P pan Qn (.op tk ⟨some t,none,.bin .quo x y⟩ s) Ls ρ d L:=by
 refine Dl ?_ h
 have h4:¬b=0:=by omega
 have h5:(a.tdiv b).natAbs≤a.natAbs:=by rw[Int.natAbs_tdiv];exact Nat.div_le_self _ _
 have h6:a= -9223372036854775808→(a.tdiv b).natAbs≤9223372036854775807:=by
  intro e;rw[Int.natAbs_tdiv,e];have:2≤b.natAbs:=by omega
  have e2:(-9223372036854775808:Int).natAbs=9223372036854775808:=by decide
  rw[e2];have:=Nat.div_le_div_left (a:=9223372036854775808) this (by omega);exact Agx this (by decide)
 rw[ex,ey];simp[C7,h4];exact DO (by omega) (by omega)
def O1{i}{len sz b o:Nat}{k}(m:Nat)(ex:ev ρ x=.pointer (some ⟨b,o,none⟩))(ei:ev ρ i=.int k j)(hm:j=(m:Int))(hl:m<len)(h:gws P pan Qn s Ls (upd ρ t (.pointer (some ⟨b,o+m*sz,none⟩))) d L):
  gws P pan Qn (.op tk ⟨some t,none,.idxa len sz x i⟩ s) Ls ρ d L:=by
 subst hm
 exact w_q rfl ⟨b,o,k,m,ex,ei,by omega,by omega,rfl⟩ h
end
def Av.forget{P args d L}{Q:Value→List Ac→Prop}(h:Av P f args d L (Ret fun r _ L'=>Q r L')):Av P f args d L (Ret fun r d' L'=>d'=d∧Q r L'):=
 ⟨h.1,fun F W x=>(h.2 F W x).mono fun e W' ⟨d',L',a,b,c,r⟩=>⟨d,L',a.le b,Le.refl d,c,by
  cases e with
  |returned v=>exact⟨rfl,r⟩
  |panicked c=>exact r.elim
  |outgrown=>exact r.elim⟩⟩
def C2.of{P args d}(h:Av P f args d [] (Ret fun r _ L'=>r=v∧L'=[])):C2 P f args d v:=
 (Av.forget (Q:=fun r L'=>r=v∧L'=[]) h).mono fun e d' L' _ r=>by
  cases e with
  |returned v=>exact⟨r.2.1,r.1,r.2.2⟩
  |panicked c=>exact r.elim
  |outgrown=>exact r.elim
section
variable {ρ:Env}{d:Ac}{L:List Ac}{t u:Nat}
end
end
section
section
variable {P:Program}{pan:List PanicEntry→AR}{Qn:Env→AR}{Ls L:List Ac}{ρ:Env}{d:Ac}{s:GS}{t:Nat}{tk:Bool}
end
end
section
section
variable {P:Program}{pan:List PanicEntry→AR}{Qn:Env→AR}{Ls L:List Ac}{ρ:Env}{d:Ac}{s:GS}{t:Nat}{tk:Bool}
end
end
end Go.Gk
end
section
namespace Go.Gk
open Go
section
variable {P:Program}{pan:List PanicEntry→AR}{Qn:Env→AR}{Ls L:List Ac}{ρ:Env}{d:Ac}{s:GS}
def PW{α:Type}{sz by_ t:Nat}{R:Ac→List Value→α→Prop}{z:List Value}{x y:Operand}{v w:Value}{xs ys:List α}{h:Ac}(hR:Gp R)(ex:ev ρ x=v)(ho:Ap sz R d v xs h)
  (ey:ev ρ y=w) (hs:Src sz R d (Ls++(h::L)++(h::L)) w ys) (hsz:0<sz) (hm:xs.length+ys.length≤140737488355328) (hb:(xs.length+ys.length)*by_≤140737488355328)
  (k:∀a c d',Le d d'→RSl sz R d' (.slice a (xs++ys).length c) (xs++ys)→gws P pan Qn s Ls (upd ρ t (.slice a (xs++ys).length c)) d' L):gws P pan Qn (.op false ⟨some t,none,.app sz by_ z x y⟩ s) Ls ρ d (h::L):=by
 obtain⟨cs,h1,h2⟩:=ho
 obtain⟨news,k1,k2,k3⟩:=hs
 have hl:=h1.1
 refine OY 0 ex rfl h1 ey k1 k2 hsz hm hb (fun v' h' o=>⟨join d h',L,Vs.freeze,?_⟩)
 have hg:Ap sz R d v' (xs++ys) h':=by
  refine⟨cs++news,by rw[Adj];exact o,fun j hj=>?_⟩
  by_cases e:j<xs.length
  ·rw[FX hl e,Aho e];exact h2 j e
  ·rw[Fz hl (by omega),Ahk (by omega)];exact k3 _ (by simp at hj;omega)
 have hr:=hg.rsl hR hsz (Le.AG d h') (Le.Ba d h')
 obtain⟨a,c,rfl⟩:=hr.val
 exact k a c _ (Le.AG d h') hr
def Ab9{α:Type}{sz by_ t0 t1 t2:Nat}{R:Ac→List Value→α→Prop}{z:List Value}{x y:Operand}{vx vy:Value}{xs ys:List α}(hR:Gp R)(hc:FZ R)(hsz:0<sz)(_:(t0==t1)=false)
  (rx:RSl sz R d vx xs) (ry:RSl sz R d vy ys) (ex:∀u,ev (upd ρ t0 u) x=vx) (ey:∀u w,ev (upd (upd ρ t0 u) t1 w) y=vy) (hb:(xs.length+ys.length)*by_≤140737488355328) (hm:xs.length+ys.length≤140737488355328)
  (k:∀v0 v1 a c d',Le d d'→RSl sz R d' (.slice a (xs++ys).length c) (xs++ys)→gws P pan Qn s Ls (upd (upd (upd ρ t0 v0) t1 v1) t2 (.slice a (xs++ys).length c)) d' L):
  gws P pan Qn (.op false ⟨some t0,none,.bsl 0 sz z []⟩ (.op false ⟨some t1,none,.app sz by_ z (.tmp t0) x⟩ (.op false ⟨some t2,none,.app sz by_ z (.tmp t1) y⟩ s))) Ls ρ d L:=by
 have up:∀(ρ:Env) (t:Nat) (v:Value),ev (upd ρ t v) (.tmp t)=v:=fun ρ t v=>by simp[ev,upd]
 refine DE (cs:=[]) (by simp) (by simp[Instr.fill,Bq]) (fun b T=>?_)
 have hm1:xs.length*by_≤140737488355328:=Agx (Afb _ (by omega)) hb
 refine EL (R:=R) 0 (up _ _ _) rfl (Ap.KZ (R:=R) (sz:=sz)) (ex _) (rx.src hc hsz _) hsz (by simp;omega) (by simpa using hm1) (fun v1 h1 o1=>?_)
 rw[Ael] at o1
 exact PW (R:=R) hR (up _ _ _) o1 (ey _ _) (ry.src hc hsz _) hsz hm hb (fun a c d' hl hr=>k _ _ a c d' hl hr)
def Abt{α:Type}{sz by_ t0 t1:Nat}{R:Ac→List Value→α→Prop}{z:List Value}{x:Operand}{vx:Value}{xs:List α}(_:Gp R)(hc:FZ R)(hsz:0<sz)
  (rx:RSl sz R d vx xs) (ex:∀u,ev (upd ρ t0 u) x=vx) (hb:xs.length*by_≤140737488355328) (hm:xs.length≤140737488355328)
  (k:∀v0 v1 h1,Ap sz R d v1 xs h1→gws P pan Qn s Ls (upd (upd ρ t0 v0) t1 v1) d (h1::L)):
  gws P pan Qn (.op false ⟨some t0,none,.bsl 0 sz z []⟩ (.op false ⟨some t1,none,.app sz by_ z (.tmp t0) x⟩ s)) Ls ρ d L:=by
 have up:∀(ρ:Env) (t:Nat) (v:Value),ev (upd ρ t v) (.tmp t)=v:=fun ρ t v=>by simp[ev,upd]
 refine DE (cs:=[]) (by simp) (by simp[Instr.fill,Bq]) (fun b T=>?_)
 refine EL (R:=R) 0 (up _ _ _) rfl (Ap.KZ (R:=R) (sz:=sz)) (ex _) (rx.src hc hsz _) hsz (by simp;omega) (by simpa using hb) (fun v1 h1 o1=>?_)
 rw[Ael] at o1
 exact k _ _ _ o1
end
end Go.Gk
namespace Go.Gk
open Go
section
variable {P:Program}{pan:List PanicEntry→AR}{Qn:Env→AR}{Ls L:List Ac}{ρ:Env}{d:Ac}{s:GS}{t:Nat}{tk:Bool}
def Abu{x y}{a b:Int}(ex:ev ρ x=vZ a)(ey:ev ρ y=vZ b)(h:∀u,(-9223372036854775808≤a+b→a+b≤9223372036854775807→u=a+b)→gws P pan Qn s Ls (upd ρ t (vZ u)) d L):
  gws P pan Qn (.op tk ⟨some t,none,.bin .add x y⟩ s) Ls ρ d L:=
 Dl (by rw[ex,ey];simp[C7]) (h (IntKind.i64.wrap (a+b)) (fun h1 h2=>DO h1 h2))
end
end Go.Gk
namespace Go.Gk
open Go
def CL{l vs}{o k:Nat}(h:o+vs.length≤l.length):(patch l o vs)[k]?=if o≤k∧k<o+vs.length then vs[k - o]? else l[k]?:=by
 unfold patch;have hl:(l.take o).length=o:=by rw[Adz];omega
 by_cases h1:k<o
 ·rw[if_neg (by omega),Adf,Afk (by omega),Aew h1]
 by_cases h2:k<o+vs.length
 ·rw[if_pos ⟨by omega,h2⟩,Afk (by rw[Adj];omega),Aff (by omega),hl]
 ·rw[if_neg (by omega),Aff (by rw[Adj];omega),Afe,Adj,hl];congr 1;omega
def By{l vs}{o:Nat}(h:o+vs.length≤l.length):(patch l o vs).length=l.length:=by
 unfold patch;simp only[Adj,Adz,Adr];omega
def VA{l vs}{o n:Nat}(h:o+vs.length≤n)(hn:n≤l.length):(patch l o vs).take n=patch (l.take n) o vs:=by
 refine Agd fun k=>?_;have hl:(l.take n).length=n:=by rw[Adz];omega
 rw[CL (by omega)];by_cases hk:k<n
 ·rw[Aew hk,Aew hk,CL (by omega)]
 ·rw[if_neg (by omega),Aes (by rw[Adz];omega),Aes (by omega)]
def IV{cs}{i sz k:Nat}:(chunk cs i sz)[k]?=if k<sz then cs[i*sz+k]? else none:=by
 unfold chunk;by_cases h:k<sz
 ·rw[Aew h,Afe,if_pos h]
 ·rw[if_neg h,Aes (by rw[Adz];omega)]
def TO{cs vs}{i m sz n:Nat}(hl:cs.length=n*sz)(hv:vs.length=sz)(hm:m<n):chunk (patch cs (m*sz) vs) i sz=if i=m then vs else chunk cs i sz:=by
 have h1:m*sz+sz≤n*sz:=by have:=Afb sz (show m+1≤n from hm);rwa [Afu,Ahs] at this
 refine Agd fun k=>?_;rw[IV];by_cases e:i=m
 ·subst e;rw[if_pos rfl];by_cases hk:k<sz
  ·rw[if_pos hk,CL (by omega),if_pos (by omega)];congr 1;omega
  ·rw[if_neg hk,Aes (by omega)]
 ·rw[if_neg e,IV];by_cases hk:k<sz
  ·rw[if_pos hk,if_pos hk,CL (by omega),if_neg];rintro⟨a,b⟩;rcases Nat.lt_or_gt_of_ne e with q|q
   ·have:=Afb sz (show i+1≤m from q);rw[Afu,Ahs] at this;omega
   ·have:=Afb sz (show m+1≤i from q);rw[Afu,Ahs] at this;omega
  ·rw[if_neg hk,if_neg hk]
def Ap.AcB{α}{sz:Nat}{R d v}{xs:List α}{h}(_:0<sz)(o:Ap sz R d v xs h){m:Nat}(hm:m<xs.length):
  ∃b T l c,v=.slice (some ⟨b,0,none⟩) xs.length c∧h=bx b T l∧m*sz+sz≤l.length∧∀cs' x,cs'.length=sz→R d cs' x→Ap sz R d v (xs.set m x) (bx b T (patch l (m*sz) cs')):=by
 obtain⟨cs,⟨h1,h2,⟨rfl,h0,rfl⟩|⟨b,T,l,c,rfl,rfl,h3,h4,h5,h6⟩⟩,hr⟩:=o
 ·omega
 ·have hmz:m*sz+sz≤xs.length*sz:=by have:=Afb sz (show m+1≤xs.length from hm);rwa [Afu,Ahs] at this
  have hcz:xs.length*sz≤c*sz:=Afb sz h3
  refine⟨b,T,l,c,rfl,rfl,by omega,fun cs' x hl hx=>⟨patch cs (m*sz) cs',?_,fun i hi=>?_⟩⟩
  ·have hp:(patch cs (m*sz) cs').length=cs.length:=By (by omega)
   refine⟨by rw[hp,Aen,h1],by rw[Aen];exact h2,.inr ⟨b,T,_,c,by rw[Aen],rfl,by rw[Aen];exact h3,h4,by rw[By (by omega)];exact h5,?_⟩⟩
   rw[hp,VA (by omega) (by omega),h6]
  ·rw[TO h1 hl hm]
   rw[Aen] at hi
   by_cases e:i=m
   ·subst e
    rw[if_pos rfl,List.getElem_set_self];exact hx
   ·rw[if_neg e,List.getElem_set_ne (fun q=>e q.symm)];exact hr i hi
end Go.Gk
end
section
namespace Go.Gk
open Go
section
section
variable {P:Program}{pan:List PanicEntry→AR}{Qn:Env→AR}{Ls L:List Ac}{ρ:Env}{d:Ac}{s:GS}{t:Nat}{tk:Bool}
def AcC{Q:Cc}{c:Cq}(M:Env→AR)(h:gwp P c {Q with n:=M} ρ d L)(k:∀ρ d L,M ρ d L→Q.n ρ d L):gwp P c Q ρ d L:=
 EN c h k (fun _ _ _ _ h=>h) (fun _ _ _ h=>h) rfl
end
end
section
section
variable {P:Program}{pan:List PanicEntry→AR}{Qn:Env→AR}{Ls L:List Ac}{ρ:Env}{d:Ac}{s:GS}{t:Nat}{tk:Bool}
end
end
section
section
variable {κ ν:Type}(kE:κ→Value) (vE:ν→Value)
def Ey(ms:List (κ×ν×Nat)):List MapEntry:=ms.map fun p=>⟨kE p.1,vE p.2.1,p.2.2⟩
def mp(b:Nat)(ms:List (κ×ν×Nat))(c:Nat):Ac:=sg b (.map (Ey kE vE ms).toArray c)
end
section
variable {κ ν:Type} [DecidableEq κ]
def mIx(k:κ):List (κ×ν×Nat)→Nat→Option (Nat×ν)
 |[],_=>none
 |p::ms,i=>if k=p.1 then some (i,p.2.1) else mIx k ms (i+1)
def ET(k:κ):List (κ×ν×Nat)→Option ν
 |[]=>none
 |p::ms=>if k=p.1 then some p.2.1 else ET k ms
def Ha(k:κ)(v:ν)(c:Nat):List (κ×ν×Nat)→List (κ×ν×Nat)
 |[]=>[(k,v,c)]
 |p::ms=>if k=p.1 then(p.1,v,p.2.2)::ms else p::Ha k v c ms
def Qd(k:κ)(c:Nat)(ms:List (κ×ν×Nat)):Nat:=if (ET k ms).isSome then c else c+1
def Jb(k:κ):List (κ×ν×Nat)→List (κ×ν×Nat)
 |[]=>[]
 |p::ms=>if k=p.1 then ms else p::Jb k ms
def PF(kd:Nat)(kE:κ→Value):Prop:=∀a b,eq1 kd (kE a) (kE b)=some (decide (a=b))
def HL{kd:Nat}{kE:κ→Value}{vE:ν→Value}(hk:PF kd kE)(k:κ):∀(ms:List (κ×ν×Nat)) (i:Nat),BB kd (kE k) (Ey kE vE ms) i=some ((mIx k ms i).map fun p=>(p.1,vE p.2))
 |[],i=>rfl
 |p::ms,i=>by
  have ih:=HL (vE:=vE) hk k ms (i+1);have e:eq1 kd (kE k) (kE p.1)=some (decide (k=p.1)):=hk k p.1;show BB kd (kE k) (⟨kE p.1,vE p.2.1,p.2.2⟩::Ey kE vE ms) i=_;rw[BB,mIx];simp only[e];by_cases h:k=p.1
  ·simp only[h,decide_true,if_true];rfl
  ·simp only[h,decide_false,if_false];exact ih
def Qe(k:κ):∀(ms:List (κ×ν×Nat)) (i:Nat),(mIx k ms i).map (·.2)=ET k ms
 |[],_=>rfl
 |p::ms,i=>by
  rw[mIx,ET];by_cases h:k=p.1
  ·simp[h]
  ·rw[if_neg h,if_neg h];exact Qe k ms (i+1)
def Zn{kE:κ→Value}{vE:ν→Value}(k:κ)(v:ν)(c:Nat)(ms:List (κ×ν×Nat)):
  upO (Ey kE vE ms) c (kE k) (vE v) ((mIx k ms 0).map fun p=>(p.1,vE p.2))=.map (Ey kE vE (Ha k v c ms)).toArray (Qd k c ms):=by
 have key:∀(ms:List (κ×ν×Nat)) (i:Nat),(∀j u,mIx k ms i=some (j,u)→i≤j∧(Ey kE vE ms).modify (j - i) (fun e:MapEntry=>{e with val:=vE v})=Ey kE vE (Ha k v c ms))∧
   (mIx k ms i=none→Ey kE vE ms++[(⟨kE k,vE v,c⟩:MapEntry)]=Ey kE vE (Ha k v c ms)):=by
  intro ms
  induction ms with
  |nil=>intro i;exact⟨fun j u h=>(by cases h),fun _=>rfl⟩
  |cons p ms ih=>
   intro i
   rw[mIx,Ha]
   by_cases h:k=p.1
   ·rw[if_pos h,if_pos h]
    refine⟨fun j u e=>?_,fun e=>by cases e⟩
    cases e
    refine⟨Adi _,?_⟩
    rw[Agy];simp[Ey]
   ·rw[if_neg h,if_neg h]
    obtain⟨h1,h2⟩:=ih (i+1)
    refine⟨fun j u e=>?_,fun e=>?_⟩
    ·obtain⟨h3,h4⟩:=h1 j u e
     refine⟨by omega,?_⟩
     rw[show j - i=(j - (i+1))+1 by omega]
     simp only[Ey,Agl,List.modify_succ_cons] at h4⊢
     rw[h4]
    ·have:=h2 e
     simp only[Ey,Agl,Aex] at this⊢
     rw[this]
 have hg:=Qe k ms 0
 cases hq:mIx k ms 0 with
 |none=>
  rw[hq] at hg
  simp only[Option.map_none,upO,Qd,←hg,Ahy,Adk,if_false]
  rw[(key ms 0).2 hq]
 |some p=>
  obtain⟨j,u⟩:=p
  rw[hq] at hg
  simp only[Aga,upO,Qd,←hg,Option.isSome_some,if_true]
  have:=((key ms 0).1 j u hq).2
  rw[Nat.sub_zero] at this
  rw[this]
def XJ{kE:κ→Value}{vE:ν→Value}(k:κ)(c:Nat)(ms:List (κ×ν×Nat)):
  Lw (Ey kE vE ms) c ((mIx k ms 0).map fun p=>(p.1,vE p.2))=.map (Ey kE vE (Jb k ms)).toArray c:=by
 have key:∀(ms:List (κ×ν×Nat)) (i:Nat),(∀j u,mIx k ms i=some (j,u)→i≤j∧(Ey kE vE ms).eraseIdx (j - i)=Ey kE vE (Jb k ms))∧(mIx k ms i=none→Jb k ms=ms):=by
  intro ms;induction ms with
  |nil=>intro i;exact⟨fun j u h=>(by cases h),fun _=>rfl⟩
  |cons p ms ih=>
   intro i
   rw[mIx,Jb]
   by_cases h:k=p.1
   ·rw[if_pos h,if_pos h]
    refine⟨fun j u e=>?_,fun e=>by cases e⟩
    cases e
    refine⟨Adi _,?_⟩
    rw[Agy];simp[Ey]
   ·rw[if_neg h,if_neg h]
    obtain⟨h1,h2⟩:=ih (i+1)
    refine⟨fun j u e=>?_,fun e=>by rw[h2 e]⟩
    obtain⟨h3,h4⟩:=h1 j u e
    refine⟨by omega,?_⟩
    rw[show j - i=(j - (i+1))+1 by omega]
    simp only[Ey,Agl,List.eraseIdx_cons_succ] at h4⊢
    rw[h4]
 cases hq:mIx k ms 0 with
 |none=>simp only[Option.map_none,Lw];rw[(key ms 0).2 hq]
 |some p=>
  obtain⟨j,u⟩:=p
  have:=((key ms 0).1 j u hq).2
  rw[Nat.sub_zero] at this
  simp only[Aga,Lw,this]
def Ace:PF 0 (fun i:Int=>Value.int .i64 i):=fun a b=>by
 show some (a==b)=_;by_cases e:a=b<;>simp[e]
end
section
variable {κ ν:Type}{kE:κ→Value}{vE:ν→Value}
variable {P:Program}{pan:List PanicEntry→AR}{Qn:Env→AR}{Ls L:List Ac}{ρ:Env}{d:Ac}{s:GS}{t:Nat}
def Acm(kE:κ→Value)(vE:ν→Value)(h:∀b,gws P pan Qn s Ls (upd ρ t (.map (some b))) d (mp kE vE b [] 0::L)):gws P pan Qn (.op false ⟨some t,none,.mop .mk⟩ s) Ls ρ d L:=
 ⟨d,L,Vs.refl d L,fun b=>⟨_,_,Vs.refl _ _,h b⟩⟩
def ZZ [DecidableEq κ] {kd:Nat}{x y z}{b c:Nat}{ms:List (κ×ν×Nat)}{k:κ}{v:ν}(hk:PF kd kE) (i:Nat) (hi:L[i]?=some (mp kE vE b ms c)) (ex:ev ρ x=.map (some b)) (ey:ev ρ y=kE k) (ez:ev ρ z=vE v)
  (h:gws P pan Qn s Ls ρ d (L.set i (mp kE vE b (Ha k v c ms) (Qd k c ms)))):gws P pan Qn (.op false ⟨none,none,.mop (.up kd x y z)⟩ s) Ls ρ d L:=
 ⟨d,L,Vs.refl d L,i,b,Ey kE vE ms,c,_,hi,ex,by rw[ey];exact HL hk k ms 0,_,_,Vs.refl _ _,by rw[ey,ez,Zn];exact h⟩
def AcA [DecidableEq κ] {kd:Nat}{x y}{b c:Nat}{ms:List (κ×ν×Nat)}{k:κ}{t:Option Nat}(hk:PF kd kE) (i:Nat) (hi:L[i]?=some (mp kE vE b ms c)) (ex:ev ρ x=.map (some b)) (ey:ev ρ y=kE k)
  (h:gws P pan Qn s Ls (put ρ t (.tuple #[])) d (L.set i (mp kE vE b (Jb k ms) c))):gws P pan Qn (.op false ⟨t,none,.mop (.del kd x y)⟩ s) Ls ρ d L:=
 ⟨d,L,Vs.refl d L,i,b,Ey kE vE ms,c,_,hi,ex,by rw[ey];exact HL hk k ms 0,_,_,Vs.refl _ _,by rw[XJ];exact h⟩
def AcW{x}{b c:Nat}{ms:List (κ×ν×Nat)}{t:Option Nat}(i:Nat)(hi:L[i]?=some (mp kE vE b ms c))(ex:ev ρ x=.map (some b))
  (h:gws P pan Qn s Ls (put ρ t (.tuple #[])) d (L.set i (mp kE vE b [] c))):gws P pan Qn (.op false ⟨t,none,.mop (.clr x)⟩ s) Ls ρ d L:=
 ⟨d,L,Vs.refl d L,i,b,(Ey kE vE ms).toArray,c,hi,ex,_,_,Vs.refl _ _,h⟩
def ZA{b c i:Nat}{ms:List (κ×ν×Nat)}(hi:(Ls++L)[i]?=some (mp kE vE b ms c)):HU d ((Ls++L)++L) (.map (some b)) (Ey kE vE ms):=
 .inr ⟨b,c,rfl,_,.inr (List.mem_append_left _ (List.mem_of_getElem? hi)),Cv _ _⟩
def Z3 [DecidableEq κ] {kd:Nat}{z x y}{b c:Nat}{ms:List (κ×ν×Nat)}{k:κ}{v:ν}(hk:PF kd kE) (i:Nat) (hi:(Ls++L)[i]?=some (mp kE vE b ms c)) (ex:ev ρ x=.map (some b)) (ey:ev ρ y=kE k) (hg:ET k ms=some v)
  (h:gws P pan Qn s Ls (upd ρ t (vE v)) d L):gws P pan Qn (.op false ⟨some t,none,.mop (.lk kd z false x y)⟩ s) Ls ρ d L:=by
 refine⟨d,L,Vs.refl d L,Ey kE vE ms,_,by rw[ex];exact ZA hi,by rw[ey];exact HL hk k ms 0,_,_,Vs.refl _ _,?_⟩
 have:=Qe k ms 0
 rw[hg] at this
 cases hq:mIx k ms 0 with
 |none=>rw[hq] at this;cases this
 |some p=>rw[hq] at this;simp at this;subst this;exact h
end
end
end Go.Gk
end
section
namespace Go.Gk
open Go
def C0:List Value:=Adx 256 (.int .u8 0)
def Dr:C0.length=256:=Aet
def Sc:∀(cs:List Value) (k off:Nat) (a:Array Value),off+k+cs.length≤a.size→(cs.zipIdx k).foldl (fun(a:Array Value) (p:Value×Nat)=>a.setIfInBounds (off+p.2) p.1) a=(patch a.toList (off+k) cs).toArray
 |[],k,off,a,h=>by simp[patch]
 |c::cs,k,off,a,h=>by
  simp only[Adm] at h;rw[List.zipIdx_cons,Aia,Sc cs (k+1) off _ (by simp;omega)];congr 1;have h1:off+k<a.toList.length:=by simp;omega
  simp only[Array.toList_setIfInBounds];apply Agd;intro i;rw[CL (by simp;omega),CL (by simp;omega)];simp only[Adm];by_cases e:i=off+k
  ·subst e;rw[if_neg (by omega),if_pos ⟨by omega,by omega⟩,Agy,List.getElem?_set_self h1];rfl
  ·by_cases e2:off+(k+1)≤i∧i<off+(k+1)+cs.length
   ·rw[if_pos e2,if_pos ⟨by omega,by omega⟩,show i - (off+k)=(i - (off+(k+1)))+1 by omega,List.getElem?_cons_succ]
   ·rw[if_neg e2,if_neg (by omega),List.getElem?_set_ne (by omega)]
def Mx{place:Nat→Option (Nat×Nat)}{a}{i off sz:Nat}{v}{ps:List (Nat×Value)}(hp:place i=some (off,sz))(hs:v.cells.size=sz)(ho:off+sz≤a.length):
  Instr.fill place a.toArray ((i,v)::ps)=Instr.fill place (patch a off v.cells.toList).toArray ps:=by
 rw[Instr.fill]
 simp only[hp]
 rw[if_neg (by simp[hs];omega)]
 congr 1
 have:=Sc v.cells.toList 0 off a.toArray (by simp[hs];omega)
 rw[Nat.add_zero] at this
 have e:v.cells.zipIdx.foldl (fun cs (c,j)=>cs.setIfInBounds (off+j) c) a.toArray=(v.cells.toList.zipIdx 0).foldl (fun(a:Array Value) (p:Value×Nat)=>a.setIfInBounds (off+p.2) p.1) a.toArray:=by
  rw[←Array.foldl_toList,Array.toList_zipIdx]
 exact e.trans this
def Qx{l cs}(h:l.length=cs.length):patch l 0 cs=cs:=by simp[patch,h]
section
variable {P:Program}{pan:List PanicEntry→AR}{Qn:Env→AR}{Ls L:List Ac}{ρ:Env}{d:Ac}{s:GS}{t:Nat}{tk:Bool}
def B0{l}(h:∀b T,gws P pan Qn s Ls (upd ρ t (pZ b)) d (bx b T l::L)):
  gws P pan Qn (.op false ⟨some t,none,.alo (.agg l.toArray)⟩ s) Ls ρ d L:=DW h
def JU{n:Nat}{x y}{b:Nat}{T l cs}(i:Nat)(hi:L[i]?=some (bx b T l))(ex:ev ρ x=pZ b)(ey:ev ρ y=.agg cs.toArray)(hn:cs.length=n)(hl:l.length=n)(h1:(cs.all (·.oneCell'))=true)
  (h:gws P pan Qn s Ls ρ d (L.set i (bx b T cs))):gws P pan Qn (.op false ⟨none,none,.st n x y⟩ s) Ls ρ d L:=
 BU (v:=.agg cs.toArray) i hi ex ey (by simpa [Value.cells] using hn) (by omega) (by simpa [Value.cells] using h1) (by
  have:patch l 0 (Value.agg cs.toArray).cells.toList=cs:=by simp only[Value.cells];exact Qx (by omega)
  rw[this];exact h)
def Bn{n:Nat}{x y}{b o:Nat}{T l cs}(i:Nat)(hi:L[i]?=some (bx b T l))(ex:ev ρ x=.pointer (some ⟨b,o,none⟩))(ey:ev ρ y=.agg cs.toArray)(hn:cs.length=n)(hl:o+n≤l.length)(h1:(cs.all (·.oneCell'))=true)
  (h:gws P pan Qn s Ls ρ d (L.set i (bx b T (patch l o cs)))):gws P pan Qn (.op false ⟨none,none,.st n x y⟩ s) Ls ρ d L:=
 BU (v:=.agg cs.toArray) i hi ex ey (by simpa [Value.cells] using hn) hl (by simpa [Value.cells] using h1) h
def Kq{x}{n b o:Nat}{T l}(cs:List Value)(i:Nat)(e:ev ρ x=.pointer (some ⟨b,o,none⟩))(hi:(lk tk Ls L)[i]?=some (bx b T l))(hn:cs.length=n)(hc:∀j u,cs[j]?=some u→l[o+j]?=some u)
  (h:gws P pan Qn s Ls (upd ρ t (.agg cs.toArray)) d L):gws P pan Qn (.op tk ⟨some t,none,.ld (some n) x⟩ s) Ls ρ d L:=
 w_q rfl ⟨b,o,cs,e,hn,fun j u hu=>Aj i hi (hc j u hu),rfl⟩ h
def Bz{x i}{sz b n c:Nat}{k}{j:Int}(m:Nat)(ex:ev ρ x=.slice (some ⟨b,0,none⟩) n c)(ei:ev ρ i=.int k j)(hm:j=(m:Int))(hl:m<n)
  (h:gws P pan Qn s Ls (upd ρ t (.pointer (some ⟨b,m*sz,none⟩))) d L):gws P pan Qn (.op tk ⟨some t,none,.idx sz x i⟩ s) Ls ρ d L:=
 BG (o:=0) m ex ei hm hl (SAd.some n b 0) (by rw[Afj];exact h)
def SY{sz:Nat}{z cs x}(ex:ev ρ x=.agg cs.toArray)(hz:z.length=sz)(hc:cs.length=sz)(hs:sz≤16777216)(h:∀b T,gws P pan Qn s Ls (upd ρ t (.slice (some ⟨b,0,none⟩) 1 1)) d (bx b T cs::L)):
  gws P pan Qn (.op false ⟨some t,none,.bsl 1 sz z [(0,x)]⟩ s) Ls ρ d L:=by
 refine DE (cs:=cs) (by omega) ?_ h
 simp only[Agl,List.map_nil,ex]
 rw[Mx (off:=0) (sz:=sz) (by simp) (by simpa [Value.cells] using hc) (by simp[Bq])]
 rw[Instr.fill,show(Value.agg cs.toArray).cells.toList=cs from rfl,Qx (by simp[Bq,hc])]
def AcI{x y k}{a:Int}{cs}(ex:ev ρ x=.int k a)(ey:ev ρ y=.agg cs.toArray)(hc:cs.length=256)(h:gws P pan Qn s Ls (upd ρ t (.agg (Value.int k a::cs).toArray)) d L):
  gws P pan Qn (.op tk ⟨some t,none,.bld [(0,1),(1,256)] (Value.int .i64 0::C0) [(0,x),(1,y)]⟩ s) Ls ρ d L:=by
 refine BR ?_ h
 simp only[Agl,List.map_nil,ex,ey]
 have e0:patch (Value.int .i64 0::C0) 0 (Value.int k a).cells.toList=Value.int k a::C0:=rfl
 have e2:patch (Value.int k a::C0) 1 (Value.agg cs.toArray).cells.toList=Value.int k a::cs:=by
  show List.take 1 (Value.int k a::C0)++cs++List.drop (1+cs.length) (Value.int k a::C0)=_;rw[Agc (by rw[Adm,Dr];omega),Aed];rfl
 rw[Mx (off:=0) (sz:=1) rfl rfl (by rw[Adm];omega),e0,Mx (off:=1) (sz:=256) rfl (by simpa only[Value.cells,List.size_toArray] using hc) (by rw[Adm,Dr];omega),e2]
 rfl
def Abz{x}{n t1 t2:Nat}{v l}(tk2:Bool)(ex:ev ρ x=v)(hr:AM d v l)(hl:l.length=n)(hn:n≠0)(k:∀p,gws P pan Qn s Ls (upd (upd ρ t1 p) t2 (.agg (l.map AA).toArray)) d L):
  gws P pan Qn (.op tk ⟨some t1,none,.s2a n x⟩ (.op tk2 ⟨some t2,none,.ld (some n) (.tmp t1)⟩ s)) Ls ρ d L:=by
 obtain⟨a,c,b,o,rfl,h2,h3,h4,h5,h6,h7,h8⟩:=hr
 have ha:=h2 (by omega)
 subst ha
 refine w_q (v:=.pointer (some ⟨b,o,none⟩)) rfl ⟨_,_,_,ex,by omega,rfl⟩ ?_
 refine w_q rfl ⟨b,o,l.map AA,by simp[ev,upd],by simpa using hl,fun i u hu=>?_,rfl⟩ (k _)
 rw[Afq] at hu
 cases hi:l[i]? with
 |none=>rw[hi] at hu;cases hu
 |some w=>
  rw[hi] at hu;cases hu
  obtain⟨hi',rfl⟩:=Adt.1 hi
  obtain⟨cs,k1,k2,k3⟩:=h8 i hi'
  have k3:cs=[AA l[i]]:=k3
  subst k3
  rw[Afn] at k2
  exact BN k2.one
end
def Ap.at{α}{sz:Nat}{R d v}{xs:List α}{h}(hsz:0<sz)(o:Ap sz R d v xs h){m:Nat}(hm:m<xs.length):
  ∃b T l c cs,v=.slice (some ⟨b,0,none⟩) xs.length c∧h=bx b T l∧cs.length=sz∧(∀j u,cs[j]?=some u→l[m*sz+j]?=some u)∧m*sz+sz≤l.length∧R d cs xs[m]∧
   ∀cs' x,cs'.length=sz→R d cs' x→Ap sz R d v (xs.set m x) (bx b T (patch l (m*sz) cs')):=by
 obtain⟨b,T,l,c,e1,e2,e3,e4⟩:=o.AcB hsz hm
 obtain⟨cs,⟨h1,h2,⟨q1,h0,q2⟩|⟨b',T',l',c',q1,q2,h3,h4,h5,h6⟩⟩,hr⟩:=o
 ·omega
 ·have hmz:m*sz+sz≤xs.length*sz:=by have:=Afb sz (show m+1≤xs.length from hm);rwa [Afu,Ahs] at this
  have hbl:l'.toArray=l.toArray∧b'=b:=by
   rw[e2] at q2;have:=(congrFun (congrFun q2 b) (.cells l.toArray T (0,0))).mp (Cv _ _);obtain⟨z1,z2⟩:=G4 this;injection z2 with z3
   exact⟨z3.symm,z1.symm⟩
  have hl':l'=l:=by simpa using hbl.1
  subst hl'
  refine⟨b,T,l',c,chunk cs m sz,e1,e2,?_,fun j u hu=>?_,e3,hr m hm,e4⟩
  ·exact IP h1 hm
  ·rw[IV] at hu
   split at hu
   ·rename_i hj
    rw[←h6,List.getElem?_take] at hu
    split at hu
    ·exact hu
    ·cases hu
   ·cases hu
def Ap.zero{α:Type}{sz:Nat}{R:Ac→List Value→α→Prop}{d:Ac}{b n:Nat}{T:TypeId}{z:List Value}{x:α}(hz:z.length=sz)(_:0<sz)(hx:R d z x)(hn:n≤140737488355328):
  Ap sz R d (.slice (some ⟨b,0,none⟩) n n) (Adx n x) (bx b T (Bq z (n*sz))):=by
 refine Ap.lit (by simp) (by simp[Bq]) (by simpa using hn) (fun i hi=>?_)
 have hin:i<n:=by simpa using hi
 have:chunk (Bq z (n*sz)) i sz=z:=by
  refine Agd fun k=>?_;rw[IV];by_cases hk:k<sz
  ·have h1:(i+1)*sz≤n*sz:=Afb sz hin;rw[Afu,Ahs] at h1;rw[if_pos hk,Bq,Afq,List.getElem?_range (by omega),Aga,hz,show i*sz+k=k+sz*i by rw[Nat.mul_comm];omega,Nat.add_mul_mod_self_left,Agh hk];rw[Adh,Ade (by omega)];simp
  ·rw[if_neg hk,Aes (by omega)]
 rw[this]
 simpa using hx
def HK{l cs:List Value}{o j:Nat}{x:Value}(hc:∀i u,cs[i]?=some u→l[o+i]?=some u)(hj:j<cs.length)(hl:o+cs.length≤l.length):patch l (o+j) [x]=patch l o (cs.set j x):=by
 refine Agd fun k=>?_;rw[CL (by simp;omega),CL (by simp;omega)];simp only[Adm,List.length_nil,Aen];by_cases h1:o≤k∧k<o+cs.length
 ·rw[if_pos h1];by_cases h2:k=o+j
  ·subst h2;rw[if_pos (by omega),Agy,show o+j - o=j by omega,List.getElem?_set_self hj];rfl
  ·rw[if_neg (by omega),List.getElem?_set_ne (by omega)];have:=hc (k - o) cs[k - o] (Ade (by omega));rw[show o+(k - o)=k by omega] at this;rw[this,Ade (by omega)]
 ·rw[if_neg h1,if_neg (by omega)]
def Av.reorder{P f args d L L1 R}(p:L.Perm L1)(h:Av P f args d L1 R):Av P f args d L R:=Av.vs (Vs.perm p) h
end Go.Gk
namespace Go.Gk
open Go
def CV(P:Program)(f:FuncId)(args:List Value)(d:Ac)(L:List Ac)(v:Value):Prop:=Av P f args d L (Ret fun r d' L'=>r=v∧d'=d∧L'=L)
section
variable {P:Program}{pan:List PanicEntry→AR}{Qn:Env→AR}{Ls L:List Ac}{ρ:Env}{d:Ac}{s:GS}{t:Nat}
def CS{f args vs v A B}(hL:L=A++B)(ea:args.map (ev ρ)=vs)(hc:CV P f vs d A v)(h:gws P pan Qn s Ls (upd ρ t v) d L):
  gws P pan Qn (.op false ⟨some t,none,.call f args⟩ s) Ls ρ d L:=
 DN hL ea hc (fun r d' L' _ ⟨h1,h2,h3⟩=>by subst h1;subst h2;subst h3;rw[←hL];exact h)
def P9{f args R vs A B}(hL:L=A++B)(ea:args.map (ev ρ)=vs)(hc:Av P f vs d A (Ret R))
  (h:∀v d' L',Le d d'→R v d' L'→gws P pan Qn s Ls (upd ρ t v) d' (L'++B)):gws P pan Qn (.op false ⟨some t,none,.call f args⟩ s) Ls ρ d L:=DN hL ea hc h
def JY{v L1}(e:ρ t=v)(hs:L1.Sublist L):CI [.tmp t] (Ret fun r d' L'=>r=v∧d'=d∧L'=L1) ρ d L:=BO e hs ⟨rfl,rfl,rfl⟩
def Aaj{u:Nat}{v w L1}(e:ρ t=v)(e':ρ u=w)(hs:L1.Sublist L):CI [.tmp t,.tmp u] (Ret fun r d' L'=>r=.tuple #[v,w]∧d'=d∧L'=L1) ρ d L:=CO e e' hs ⟨rfl,rfl,rfl⟩
end
end Go.Gk
namespace Go.Gk
open Go
def AbE{P}{Q:Cc}{ρ d L f}{ps:List Nat}{as bd:Cq}{g}{first cap:Array Value}(ef:ev ρ f=.func (.func g) first cap)
  (h:∀l rc,RA P ρ ps as bd rc→rc.state=.ready→rc.pending=none→Av P g (first.toList++[.func (.yield l) #[] #[]]++cap.toList) d (sg l (.loop rc)::L)
   (Ret fun _ d' L'=>∃rc' L'',L'=sg l (.loop rc')::L''∧rc'.state≠.busy∧(match rc'.pending with|none=>Q.n ρ d' L''|some (.exit id)=>Q.ex id ρ d' L''|some .ret=>Q.ret ρ d' L''|_=>False))):xwp P (.rf f ps as bd) Q ρ d L:=
 ⟨g,first,cap,ef,fun l rc h1 h2 h3=>⟨_,h l rc h1 h2 h3,fun e d' L' _ hr=>by
  cases e with
  |returned v=>obtain⟨rc',L'',k1,k2,k3⟩:=hr;exact⟨v,rc',L'',rfl,k1,k2,k3⟩
  |panicked c=>exact hr.elim
  |outgrown=>exact hr.elim⟩⟩
def UO{rc:Loop}(h1:rc.state=.ready)(h2:rc.pending=none):{rc with state:=.ready,pending:=none}=rc:=by
 cases rc;simp only at h1 h2;subst h1;subst h2;rfl
end Go.Gk
namespace Go.Gk
open Go
section
variable {P:Program}{pan:List PanicEntry→AR}{Qn:Env→AR}{Ls L:List Ac}{ρ:Env}{d:Ac}{s:GS}{t:Nat}
def Qo{f args R vs A B}(hp:L.Perm (A++B))(ea:args.map (ev ρ)=vs)(hc:Av P f vs d A (Ret R))
  (h:∀v d' L',Le d d'→R v d' L'→∃d2 L2,Vs d' (L'++B) d2 L2∧gws P pan Qn s Ls (upd ρ t v) d2 L2):gws P pan Qn (.op false ⟨some t,none,.call f args⟩ s) Ls ρ d L:=by
 refine B9 d (A++B) (Vs.perm hp) ⟨d,A++B,Vs.refl d _,.inl ⟨A,B,Ret R,rfl,by rw[ea];exact hc,fun e d' L' hl hr=>?_⟩⟩
 cases e with
 |returned v=>exact h v d' L' hl hr
 |panicked c=>exact hr.elim
 |outgrown=>exact hr
def Dh{f args R vs A B}(hc:Av P f vs d A (Ret R))(hp:L.Perm (A++B))(ea:args.map (ev ρ)=vs)
  (h:∀v d' L',Le d d'→R v d' L'→∃d2 L2,Vs d' (L'++B) d2 L2∧gws P pan Qn s Ls (upd ρ t v) d2 L2):gws P pan Qn (.op false ⟨some t,none,.call f args⟩ s) Ls ρ d L:=Qo hp ea hc h
def D4{f args R vs}(hc:Av P f vs d L (Ret R))(ea:args.map (ev ρ)=vs)
  (h:∀v d' L',Le d d'→R v d' L'→gws P pan Qn s Ls (upd ρ t v) d' L'):gws P pan Qn (.op false ⟨some t,none,.call f args⟩ s) Ls ρ d L:=
 DN (B:=[]) (Aed _).symm ea hc (fun v d' L' hl hr=>by rw[Aed];exact h v d' L' hl hr)
def M3{f args vs v A B}(hp:L.Perm (A++B))(ea:args.map (ev ρ)=vs)(hc:CV P f vs d A v)(h:gws P pan Qn s Ls (upd ρ t v) d L):
  gws P pan Qn (.op false ⟨some t,none,.call f args⟩ s) Ls ρ d L:=
 Qo hp ea hc (fun r d' L' _ ⟨h1,h2,h3⟩=>by subst h1;subst h2;subst h3;exact⟨d',L,Vs.perm hp.symm,h⟩)
end
def S4{l cs}{o j:Nat}{u}(hl:o+cs.length≤l.length)(hu:cs[j]?=some u):(patch l o cs)[o+j]?=some u:=by
 have:=(Adt.1 hu).1;rw[CL hl,if_pos (by omega),show o+j - o=j by omega,hu]
def TU{l cs ds}{o:Nat}(hl:o+cs.length≤l.length)(he:ds.length=cs.length):patch (patch l o cs) o ds=patch l o ds:=by
 refine Agd fun k=>?_;rw[CL (l:=patch l o cs) (by rw[By hl];omega),CL (l:=l) (vs:=cs) hl,CL (l:=l) (vs:=ds) (by omega)];by_cases h:o≤k∧k<o+ds.length
 ·rw[if_pos h,if_pos h]
 ·rw[if_neg h,if_neg h,if_neg (by omega)]
def VC{l cs:List Value}{o j:Nat}{x:Value}(hj:j<cs.length)(hl:o+cs.length≤l.length):patch (patch l o cs) (o+j) [x]=patch l o (cs.set j x):=by
 rw[HK (cs:=cs) (fun i u hu=>S4 hl hu) hj (by rw[By hl];exact hl),TU hl (by simp)]
end Go.Gk
namespace Go.Gk
open Go
section
variable {P:Program}{pan:List PanicEntry→AR}{Qn:Env→AR}{Ls L:List Ac}{ρ:Env}{d:Ac}{s:GS}{t:Nat}
def Aaf{by_:Nat}{x k}{n:Nat}(ex:ev ρ x=.int k (n:Nat))(h1:by_*n+112≤281474976710656)(h2:n<9223372036854775808)
  (h:∀b,gws P pan Qn s Ls (upd ρ t (.chan (some b))) d (sg b (.chan n #[] false 0 0 false)::L)):gws P pan Qn (.op false ⟨some t,none,.mop (.mkc by_ x)⟩ s) Ls ρ d L:=
 ⟨d,L,Vs.refl d L,by simp only[gop,gi,mi];exact⟨k,n,ex,h1,h2,fun b=>⟨_,_,Vs.refl _ _,h b⟩⟩⟩
end
end Go.Gk
namespace Go.Gk
open Go
section
variable {P:Program}{pan:List PanicEntry→AR}{Qn:Env→AR}{Ls L:List Ac}{ρ:Env}{d:Ac}{s:GS}{t:Nat}
end
end Go.Gk
namespace Go.Gk
open Go
section
variable {P:Program}{pan:List PanicEntry→AR}{Qn:Env→AR}{Ls L:List Ac}{ρ:Env}{d:Ac}{s:GS}{t:Nat}{tk:Bool}
def AbV{neg:Bool}{x y a}(ex:ev ρ x=.pointer a)(ey:ev ρ y=.pointer a)(h:gws P pan Qn s Ls (upd ρ t (.bool (!neg))) d L):
  gws P pan Qn (.op tk ⟨some t,none,.eqp neg x y⟩ s) Ls ρ d L:=w_q rfl ⟨a,a,ex,ey,by cases a;exact .inl rfl;exact .inr (.inr rfl),by cases neg<;>simp⟩ h
def AbL{neg:Bool}{x y}{b:Nat}(ex:ev ρ x=.map (some b))(ey:ev ρ y=.map none)(h:gws P pan Qn s Ls (upd ρ t (.bool neg)) d L):
  gws P pan Qn (.op tk ⟨some t,none,.eqm neg x y⟩ s) Ls ρ d L:=w_q rfl ⟨some b,ex,ey,by cases neg<;>rfl⟩ h
def AcD{T x v}(ex:ev ρ x=.iface T v)(h:gws P pan Qn s Ls (upd ρ t v) d L):
  gws P pan Qn (.op tk ⟨some t,none,.tas T x⟩ s) Ls ρ d L:=w_q rfl ex h
def AcK{x T}{b c:Nat}{es:Array MapEntry}(ex:ev ρ x=.iface T (.map (some b)))(hm:HO d (Ls++L++L) b (.map es c))(h:∀q,gws P pan Qn s Ls (upd ρ t (.iface T (.map (some q)))) d (sg q (.map es c)::L)):
  gws P pan Qn (.op false ⟨some t,none,.mop (.cln x)⟩ s) Ls ρ d L:=
 ⟨d,L,Vs.refl d L,by simp only[gop,gi,mi];exact⟨T,b,es,c,ex,hm,fun q=>⟨_,_,Vs.refl _ _,h q⟩⟩⟩
end
end Go.Gk
namespace Go.Gk
open Go
def HY{P}{pan:List PanicEntry→AR}{Qn:Env→AR}{Ls L ρ d}(h:∃d1 L1,Vs d (Ls++L) d1 L1∧Qn ρ d1 L1):gws P pan Qn .done Ls ρ d L:=h
end Go.Gk
end
section
namespace Go.Gk.Dev
open Go Go.Gk
attribute [local irreducible] gwp gws xwp
variable{P:Program}{f:FuncId}
abbrev Sec:=List UInt8
structure EG where
 syn:List Sec
 opn:List (Nat×Sec)
def SQ(_:Ac)(cs:List Value)(x:Sec):Prop:=cs=x.map AA∧x.length=256
def RWr(_:Ac)(cs:List Value)(x:Nat×Sec):Prop:=cs=vZ x.1::x.2.map AA∧x.2.length=256
def YB:Gp SQ:=fun _ h=>h
def AaU:Gp RWr:=fun _ h=>h
def SJ:FZ RWr:=fun _ _ _ h=>by obtain⟨rfl,_⟩:=h;rw[Ain,CM];rfl
def I8:Sec:=Adx 256 0
def AbP{d}:SQ d C0 I8:=⟨by rw[I8,List.map_replicate];rfl,Aet⟩
def FU(k:Nat):List (Nat×Sec)→Option Sec
 |[]=>none
 |w::l=>match FU k l with|some b=>some b|none=>if w.1=k then some w.2 else none
def EG.cur(D:EG)(k:Nat):Sec:=(FU k D.opn).getD (D.syn.getD k [])
def synced(l:List (Nat×Sec))(s:List Sec):List Sec:=l.foldl (fun s w=>s.set w.1 w.2) s
def EM(l:List (Nat×Sec)):∀s,(synced l s).length=s.length:=by
 induction l with
 |nil=>exact fun _=>rfl
 |cons w l ih=>intro s;rw[synced,Aia];exact(ih _).trans (Aen ..)
def Jj(l:List (Nat×Sec))(w:Nat×Sec)(s:List Sec):synced (l++[w]) s=(synced l s).set w.1 w.2:=by simp[synced]
def Dv(d:Ac)(D:EG)(v:Value)(L:List Ac):Prop:=
 ∃b T vs vo r hs ho,v=pZ b∧L=[bx b T [vs,vo,vZ r,vZ 0],hs,ho]∧Ap 256 SQ d vs D.syn hs∧Ap 257 RWr d vo D.opn ho∧(∀w∈D.opn,w.1<D.syn.length)∧D.syn.length≤8192
def Dv.mono{d d'}{D:EG}{v L}(h:Dv d D v L)(hl:Le d d'):Dv d' D v L:=
 let ⟨b,T,vs,vo,r,hs,ho,h1,h2,h3,h4,h5,h6⟩:=h
 ⟨b,T,vs,vo,r,hs,ho,h1,h2,Ap.mono (R:=SQ) YB h3 hl,Ap.mono (R:=RWr) AaU h4 hl,h5,h6⟩
def Ih(P:Program)(f:FuncId):Prop:=∀{d}{D:EG}{v L},Dv d D v L→CV P f [v] d L (vZ D.syn.length)
def J3:A5:=⟨10,[(.tmp 2)],(sR (o1 2 (.mv z0) .done) (.seq (sR (om 3 0<|o1 4 (.eqp false 3 (.const (.pointer none))) .done) (.cond 4 (sR (o1 2 (.mv z0) .done) .ret) .skip)) (sR (om 5 0<|o1 6 (.nilc 5)<|oj 7 0 6<|ol 8 7<|oL 9 8<|om 2 9 .done) .ret)))⟩
def Y2(hd:dec P f=some J3):Ih P f:=by
 intro d D v L h;obtain⟨b,T,vs,vo,r,hs,ho,rfl,rfl,h3,h4,h5,h6⟩:=h;refine AF hd (Ada rfl) ?_;show gwp P _ _ _ _ _;(refine Ad<|Ab rfl<|Aa<|Af<|Ad<|Am rfl<|Dk rfl rfl<|Aa<|AS rfl<|Ak<|Ad<|Am rfl<|Au rfl<|Ai rfl<|Ag rfl (Aj 0 rfl rfl)<|Xj rfl (by assumption)<|Ab rfl<|Aa<|An ?_);exact JY rfl (Adb _)
def IC(P:Program)(f:FuncId):Prop:=∀{d}{D:EG}{v L}{k n:Nat},Dv d D v L→k<D.syn.length→n=256→CV P f [v,vZ k,vZ n] d L (vZ 0)
def JE(a0:Nat):A5:=⟨32,[(.tmp 6)],(sR (o1 6 (.mv z0) .done) (.seq (.block 0 (sR (om 8 0<|oc 9 a0 [8]<|ob 10 .eql 9 z0<|om 7 10 .done) (.cond 7 (sR (o1 6 (.mv z1) .done) .ret) (sR (om 12 1<|ob 13 .lss 12 z0<|om 14 13<|gF 15 14 1<|gF 16 14 0<|oF 17 14 (.nilc 16)<|oF 18 14 (.fld 0 17)<|oF 19 14 (.ld none 18)<|oF 20 14 (.len 19)<|oF 21 14 (.bin .geq 15 20)<|o1 22 (.pick 14 (.const (.bool true)) 21)<|om 11 22 .done) (.cond 11 (sR (o1 6 (.mv (kZ 4)) .done) .ret) (sR (om 24 2<|ob 25 .neq 24 (kZ 256)<|om 23 25 .done) (.cond 23 (sR (o1 6 (.mv z2) .done) .ret) (sR (om 27 0<|o1 28 (.nilc 27)<|oj 29 3 28<|ol 30 29<|ob 31 .eql 30 z1<|om 26 31 .done) (.cond 26 (sR (o1 6 (.mv (kZ 150)) .done) .ret) .skip))))))))) (sR (o1 6 (.mv z0) .done) .ret)))⟩
def Xy{f1}(hd:dec P f=some (JE f1))(h1:Ih P f1):IC P f:=by
 intro d D v L k n h hk hn;have h0:=h;obtain⟨b,T,vs,vo,r,hs,ho,rfl,rfl,h3,h4,h5,h6⟩:=h;refine AF hd (Ada rfl) ?_;show gwp P _ _ _ _ _;(refine Ad<|Ab rfl<|Aa<|Af<|Ay<|Ad<|Am rfl ?_);refine CS (B:=[]) rfl rfl (h1 h0) ?_;(refine AO rfl rfl<|Ae rfl<|Aa<|Ar rfl (by omega)<|Ad<|Ab rfl<|AE rfl rfl<|Ae rfl<|Bf rfl (by omega)<|Ah rfl<|Ab rfl<|Ah rfl<|Am rfl<|Ah rfl<|Au rfl<|Ah rfl<|Ai rfl<|Ah rfl<|Ag rfl (Aj 0 rfl rfl)<|Ah rfl<|Xj rfl (by assumption)<|Ah rfl<|DV rfl rfl<|Aw rfl rfl<|Ae rfl<|Aa<|Ar rfl (by omega)<|Ad<|Ab rfl<|AN rfl rfl<|Ae rfl<|Aa<|Ar rfl (by omega)<|Ad<|Am rfl<|Au rfl<|Ai rfl<|Ag rfl (Aj 0 rfl rfl)<|AO rfl rfl<|Ae rfl<|Aa<|Ar rfl (by omega)<|Ak<|Ad<|Ab rfl<|Aa<|An ?_);exact JY rfl (Adb _)
def M0(P:Program)(f:FuncId):Prop:=∀{d}{D:EG}{v L},Dv d D v L→Av P f [v] d L (Ret fun _ d' L'=>d'=d∧L'=L)
def Ki:A5:=⟨14,[],(sR (om 2 0<|o1 3 (.nilc 2)<|oj 4 3 3<|ol 5 4<|ob 6 .gtr 5 z1 .done) (.cond 6 (rG (om 7 0<|o1 8 (.nilc 7)<|oj 9 3 8<|ol 10 9<|ob 11 .sub 10 z1<|o1 12 (.nilc 7)<|oj 13 3 12<|o0 (.st 1 13 11) .done)) .skip))⟩
def YI(hd:dec P f=some Ki):M0 P f:=by
 intro d D v L h;obtain⟨b,T,vs,vo,r,hs,ho,rfl,rfl,h3,h4,h5,h6⟩:=h;refine AF hd (Ada rfl) ?_;show gwp P _ _ _ _ _;(refine Ad<|Am rfl<|Au rfl<|Ai rfl<|Ag rfl (Aj 0 rfl rfl)<|BW rfl rfl<|Aa<|Ar rfl (by omega)<|Ak ?_);exact EY [] trivial (Adb _) ⟨rfl,rfl⟩
def OF(P:Program)(f:FuncId):Prop:=∀{d}{n:Nat},1≤n→n≤8192→Av P f [vZ n] d [] (Ret fun r d' L'=>∃v,r=.tuple #[v,vZ 0]∧d'=d∧Dv d ⟨Adx n I8,[]⟩ v L')
def S9:A5:=⟨14,[(.tmp 2),(.tmp 3)],(sR (o1 2 (.mv (.const (.pointer none)))<|o1 3 (.mv z0) .done) (.seq (sR (om 4 0<|ob 5 .lss 4 z1<|om 6 5<|gF 7 6 0<|oF 8 6 (.bin .gtr 7 (kZ 8192))<|o1 9 (.pick 6 (.const (.bool true)) 8) .done) (.cond 9 (sR (o1 2 (.mv (.const (.pointer none)))<|o1 3 (.mv z2) .done) .ret) .skip)) (sR (om 10 0<|o1 11 (.mks 256 256 C0 10 10)<|o1 12 (.bld [(0,1),(1,1),(2,1),(3,1)] [(.slice none 0 0),(.slice none 0 0),(vZ 0),(vZ 0)] [(0,11)])<|o1 13 (.box 12)<|om 2 13<|o1 3 (.mv z0) .done) .ret)))⟩
def AaN(hd:dec P f=some S9):OF P f:=by
 intro d n h1 h2;refine AF hd (Ada rfl) ?_;show gwp P _ _ _ _ _;(refine Ad<|Am rfl<|Ab rfl<|Aa<|Af<|Ad<|Ab rfl<|AE rfl rfl<|Ae rfl<|Bf rfl (by omega)<|Ah rfl<|Ab rfl<|Ah rfl<|BW rfl rfl<|Aw rfl rfl<|Aa<|Ar rfl (by omega)<|Ak<|Ad<|Ab rfl ?_);refine HT rfl rfl (Adi n) (by omega) (by omega) (fun b T=>?_);(refine BR rfl<|Cx rfl (fun _ _=>Am rfl<|Ab rfl<|Aa<|An ?_));rename_i b2 T2;refine Bd [_,_] ⟨rfl,rfl,trivial⟩ (d':=d) (L':=[bx b2 T2 [.slice (some ⟨b,0,none⟩) n n,.slice none 0 0,vZ 0,vZ 0],bx b T (Bq C0 (n*256)),emp]) ?_ ⟨_,rfl,rfl,_,_,_,_,_,_,_,rfl,rfl,?_,Ap.nil,fun w hw=>(by cases hw),by simpa using h2⟩
 ·exact(Vs.emp).trans (Vs.perm (Adl (l₁:=[emp])))
 ·exact Ap.zero Dr (by omega) AbP (by omega)
def Ov(P:Program)(f:FuncId):Prop:=∀{d}{D:EG}{v w L}{k:Nat}{l:Sec},Dv d D v L→k<D.syn.length→AM d w l→l.length=256→D.opn.length≤1000000→
 Av P f [v,vZ k,w] d L (Ret fun r d' L'=>r=vZ 0∧d'=d∧Dv d ⟨D.syn,D.opn++[(k,l)]⟩ v L')
def Jz(a0 a1:Nat):A5:=⟨32,[(.tmp 6)],(sR (o1 6 (.mv z0) .done) (.seq (sR (om 8 0<|om 9 1<|om 10 2<|oL 11 10<|oc 12 a0 [8,9,11]<|om 7 12 .done) (sR (om 13 7<|ob 14 .neq 13 z0 .done) (.cond 14 (sR (om 15 7<|om 6 15 .done) .ret) .skip))) (.seq (.reg true (pm 16 0<|pm 17 0<|p1 18 (.nilc 17)<|p1 19 (.fld 1 18)<|pm 21 1<|pm 22 2<|p1 23 (.s2a 256 22)<|p1 24 (.ld (some 256) 23)<|p1 25 (.bld [(0,1),(1,256)] (Value.int .i64 0::C0) [(0,21),(1,24)]) (.alt ⟨(some 20),none,(.ld none 19)⟩ (o1 26 (.bsl 1 257 (Value.int .i64 0::C0) [(0,25)]) (o1 27 (.app 257 264 (Value.int .i64 0::C0) 20 26) (p1 28 (.nilc 16) (p1 29 (.fld 1 28) (o0 (.st 1 29 27) .done))))) (o1 26 (.bsl 1 257 (Value.int .i64 0::C0) [(0,25)]) (ol 20 19 (o1 27 (.app 257 264 (Value.int .i64 0::C0) 20 26) (p1 28 (.nilc 16) (p1 29 (.fld 1 28) (o0 (.st 1 29 27) .done))))))))) (sR (om 30 0<|oc 31 a1 [30] .done) (sR (o1 6 (.mv z0) .done) .ret)))))⟩
def WQ{f1 f2}(hd:dec P f=some (Jz f1 f2))(h1:IC P f1)(h2:M0 P f2):Ov P f:=by
 intro d D v w L k l h hk hw hl hn;have h0:=h;obtain⟨b,T,vs,vo,r,hs,ho,rfl,rfl,h3,h4,h5,h6⟩:=h;refine AF hd (Ada rfl) ?_;show gwp P _ _ _ _ _;(refine Ad<|Ab rfl<|Aa<|Af<|Ad<|Am rfl<|Ab rfl<|AJ<|BL rfl (by assumption) ?_);refine CS (B:=[]) rfl rfl (h1 h0 hk hl) ?_;(refine Ab rfl<|Aa<|Ad<|Ab rfl<|AN rfl rfl<|Aa<|Ar rfl (by omega)<|Ak<|Af ?_);refine Bv [] _ rfl ?_;(refine Am rfl<|Am rfl<|Au rfl<|Ai rfl<|Ab rfl<|AJ ?_);refine Abz true rfl hw hl (by omega) (fun p=>?_);refine AcI rfl rfl (by rw[Aey];exact hl) ?_;have hcl:(Value.int .i64 (k:Int)::l.map AA).length=257:=by rw[Adm,Aey];omega
 have hwr:RWr d (Value.int .i64 (k:Int)::l.map AA) (k,l):=⟨rfl,hl⟩
 refine EK ?_ ?_
 ·(apply Ag;rfl;exact Aj 0 rfl rfl);refine SY rfl (by rw[Adm,Dr]) hcl (by omega) (fun b2 T2=>?_);skip;refine D1 (R:=RWr) 2 rfl rfl h4 rfl (Ap.Ep hcl hwr) SJ (by omega) (by simp;omega) (by simp;omega) (fun v' h' ho'=>?_);(refine Au rfl<|Ai rfl ?_);obtain⟨av,cv,rfl⟩:=ho'.val;refine A6 0 [vs,.slice av (D.opn++[(k,l)]).length cv,vZ r,vZ 0] rfl rfl rfl rfl (Ada rfl) rfl rfl ?_;have hD:Dv d ⟨D.syn,D.opn++[(k,l)]⟩ (pZ b) [bx b T [vs,.slice av (D.opn++[(k,l)]).length cv,vZ r,vZ 0],hs,h']:=
   ⟨b,T,vs,_,r,hs,h',rfl,rfl,h3,ho',fun w hw=>by
    rcases Adg.1 hw with hw|hw
    ·exact h5 w hw
    ·cases Adq.1 hw;exact hk,h6⟩
  (refine Aa<|Ad<|Am rfl ?_);refine P9 (B:=[]) rfl rfl (h2 hD) (fun u d' L' _ ⟨e1,e2⟩=>?_);subst e1;subst e2;(refine Aa<|Ad<|Ab rfl<|Aa<|An ?_);exact BO rfl (Adb _) ⟨rfl,rfl,hD⟩
 ·refine SY rfl (by rw[Adm,Dr]) hcl (by omega) (fun b2 T2=>?_);(apply Ag;rfl;exact Aj 1 rfl rfl);refine D1 (R:=RWr) 2 rfl rfl h4 rfl (Ap.Ep hcl hwr) SJ (by omega) (by simp;omega) (by simp;omega) (fun v' h' ho'=>?_);(refine Au rfl<|Ai rfl ?_);obtain⟨av,cv,rfl⟩:=ho'.val;refine A6 0 [vs,.slice av (D.opn++[(k,l)]).length cv,vZ r,vZ 0] rfl rfl rfl rfl (Ada rfl) rfl rfl ?_;have hD:Dv d ⟨D.syn,D.opn++[(k,l)]⟩ (pZ b) [bx b T [vs,.slice av (D.opn++[(k,l)]).length cv,vZ r,vZ 0],hs,h']:=
   ⟨b,T,vs,_,r,hs,h',rfl,rfl,h3,ho',fun w hw=>by
    rcases Adg.1 hw with hw|hw
    ·exact h5 w hw
    ·cases Adq.1 hw;exact hk,h6⟩
  (refine Aa<|Ad<|Am rfl ?_);refine P9 (B:=[]) rfl rfl (h2 hD) (fun u d' L' _ ⟨e1,e2⟩=>?_);subst e1;subst e2;(refine Aa<|Ad<|Ab rfl<|Aa<|An ?_);exact BO rfl (Adb _) ⟨rfl,rfl,hD⟩
def Qw(P:Program)(f:FuncId):Prop:=∀{d}{D:EG}{v L},Dv d D v L→1≤D.syn.length→
 Av P f [v] d L (Ret fun r d' L'=>r=vZ 0∧d'=d∧Dv d ⟨synced D.opn D.syn,[]⟩ v L')
def J8(a0 a1:Nat):A5:=⟨35,[(.tmp 2)],(sR (o1 2 (.mv z0) .done) (.seq (sR (om 6 0<|oc 7 a0 [6,z0,(kZ 256)]<|om 3 7 .done) (sR (om 8 3<|ob 9 .neq 8 z0 .done) (.cond 9 (sR (om 10 3<|om 2 10 .done) .ret) .skip))) (.seq (sR (om 11 0<|o1 12 (.nilc 11)<|oj 13 1 12<|ol 14 13<|oL 15 14<|o1 16 (.mv z0) .done) (.block 0 (.loop (sR (ob 17 .lss 16 15 .done) (.seq (.cond 17 .skip (.exit 0)) (.seq (.block 1 (sR (oI 18 257 14 16<|o1 19 (.ld (some 257) 18)<|o1 5 (.alo (.agg (Value.int .i64 0::C0).toArray))<|o0 (.st 257 5 19) .done) (.reg true (pm 20 0<|p1 21 (.nilc 20)<|p1 22 (.fld 0 21)<|pl 23 22<|p1 24 (.fld 0 5)<|pl 25 24<|p1 26 (.fld 1 5)<|p1 27 (.ld (some 256) 26)<|p1 28 (.idx 256 23 25) (.bar (o0 (.st 256 28 27) .done)))))) (rG (ob 29 .add 16 z1<|om 16 29 .done)))))))) (sR (om 30 0<|o1 31 (.nilc 30)<|oj 32 1 31<|o0 (.st 1 32 nS) .done) (sR (om 33 0<|oc 34 a1 [33] .done) (sR (o1 2 (.mv z0) .done) .ret))))))⟩
def YJ{f1 f2}(hd:dec P f=some (J8 f1 f2))(h1:IC P f1)(h2:M0 P f2):Qw P f:=by
 intro d D v L h hk;have h0:=h;obtain⟨b,T,vs,vo,r,hs,ho,rfl,rfl,h3,h4,h5,h6⟩:=h;obtain⟨ao,co,rfl⟩:=h4.val;have hlen:=h4.B3;refine AF hd (Ada rfl) ?_;show gwp P _ _ _ _ _;(refine Ad<|Ab rfl<|Aa<|Af<|Ad<|Am rfl ?_);refine CS (B:=[]) rfl rfl (h1 (n:=256) (k:=0) h0 hk rfl) ?_;(refine Ab rfl<|Aa<|Ad<|Ab rfl<|AN rfl rfl<|Aa<|Ar rfl (by omega)<|Ak<|Af<|Ad<|Am rfl<|Au rfl<|Ai rfl<|Ag rfl (Aj 0 rfl rfl)<|AK rfl<|Ab rfl<|Aa<|Ay ?_);refine CB (α:=Nat×Ac) (fun x=>[(0,pZ b),(14,.slice ao D.opn.length co),(15,vZ D.opn.length),(16,vZ x.1)])
  (fun x d' L'=>d'=d∧x.1≤D.opn.length∧L'=[bx b T [vs,.slice ao D.opn.length co,vZ r,vZ 0],x.2,ho]∧Ap 256 SQ d vs (synced (D.opn.take x.1) D.syn) x.2) (fun x=>D.opn.length - x.1) (0,hs)
  ⟨rfl,rfl,rfl,rfl,trivial⟩ ⟨rfl,by omega,rfl,h3⟩ ?_
 rintro⟨i,hs'⟩ ρ d' L' ⟨rfl,hi,rfl,hg⟩;simp only at hi hg⊢;by_cases e:i<D.opn.length
 ·obtain⟨bo,To,lo,co',cs,e1,e2,hcl,hcs,hle,hr, -⟩:=Ap.at (by omega) h4 e;cases e1;subst e2;obtain⟨rfl,hbl⟩:=hr;have hin:D.opn[i].1<(synced (D.opn.take i) D.syn).length:=by rw[EM];exact h5 _ (Aec e)
  obtain⟨bs,Ts,ls,cs',us,rfl,rfl,hul,hus,hsle, -,hset⟩:=Ap.at (by omega) hg hin;(refine Ad<|AE rfl rfl<|Aa<|Af<|Ax rfl (by omega)<|Ak<|Af<|Ay<|Ad<|Bz _ rfl rfl rfl (by omega) ?_);refine Kq _ 2 rfl rfl hcl hcs ?_;(apply B0;intro _ _);refine JU 0 rfl rfl rfl hcl (by rw[Adm,Dr]) (by rw[Ain,CM];rfl) ?_;(refine Aa<|Bu<|Am rfl<|Au rfl<|Ai rfl<|Ag rfl (Aj 1 rfl rfl)<|Ai rfl<|Ag rfl (Aj 0 rfl rfl)<|Ai rfl ?_);refine Kq (D.opn[i].2.map AA) 0 rfl rfl (by rw[Aey];exact hbl) (fun j u hu=>by rw[Nat.add_comm];simpa using hu) ?_;(refine Bz _ rfl rfl rfl (by omega)<|Ch ?_);refine Bn 2 rfl rfl rfl (by rw[Aey];exact hbl) hsle (CM _) ?_;refine FR ⟨_,[_,_,_],Vs.drop (Aef _ _),?_⟩;(refine AB<|AL rfl rfl (by omega) (by omega)<|Ab rfl<|Aa ?_);refine⟨(i+1,_),by simp only;omega,⟨rfl,rfl,rfl,rfl,trivial⟩,rfl,e,rfl,?_⟩
  have:=hset _ D.opn[i].2 (by rw[Aey];exact hbl) ⟨rfl,hbl⟩;rw[Aea e];rw[Jj];exact this
 ·(refine Ad<|AE rfl rfl<|Aa<|Af<|Ar rfl (by omega)<|Bg<|Ad<|Am rfl<|Au rfl<|Ai rfl ?_);refine A6 0 [vs,.slice none 0 0,vZ r,vZ 0] rfl rfl rfl rfl (Ada rfl) rfl rfl ?_;have ei:i=D.opn.length:=by omega
  subst ei;rw[Afi] at hg;have hD:Dv d' ⟨synced D.opn D.syn,[]⟩ (pZ b) [bx b T [vs,.slice none 0 0,vZ r,vZ 0],hs',emp]:=
   ⟨b,T,vs,_,r,hs',emp,rfl,rfl,hg,Ap.nil,fun w hw=>(by cases hw),by rw[EM];exact h6⟩
  refine FR ⟨d',[bx b T [vs,.slice none 0 0,vZ r,vZ 0],hs',emp],?_,?_⟩
  ·exact((Vs.drop (by exact Afr _ (Afr _ (List.Sublist.cons _ List.Sublist.slnil)))).trans Vs.emp).trans (Vs.perm (Adl (l₁:=[emp])))
  (refine Ad<|Am rfl ?_);refine P9 (B:=[]) rfl rfl (h2 hD) (fun u d' L' _ ⟨e1,e2⟩=>?_);subst e1;subst e2;(refine Aa<|Ad<|Ab rfl<|Aa<|An ?_);exact BO rfl (Adb _) ⟨rfl,rfl,hD⟩
end Go.Gk.Dev
end
section
namespace Go.Gk.Cch
open Go Go.Gk Go.Gk.Dev
structure Fr where
 held:Bool
 sec:Nat
 pins:Nat
 late:Bool
 b:Sec
def fz:Fr:=⟨false,0,0,false,[]⟩
structure CD where
 fr:List Fr
 free:List Nat
 hand:Nat
 hits:Nat
 miss:Nat
def findF(k:Nat):List Fr→Option Nat
 |[]=>none
 |f::l=>if f.held=true∧f.sec=k then some 0 else(findF k l).map (·+1)
def Vy{k:Nat}{l:List Fr}{i:Nat}(hi:i<l.length):findF k (l.drop i)=if l[i].held=true∧l[i].sec=k then some 0 else(findF k (l.drop (i+1))).map (·+1):=by
 rw[Aei hi];rfl
def Fo{k:Nat}:∀{l:List Fr}{i:Nat},findF k l=some i→∃h:i<l.length,l[i].held=true∧l[i].sec=k
 |[],i,h=>by cases h
 |f::l,i,h=>by
  rw[findF] at h;split at h
  ·rename_i e;cases h;exact⟨by simp,e⟩
  ·cases hf:findF k l with
   |none=>rw[hf] at h;cases h
   |some j=>
    rw[hf] at h;cases h
    obtain⟨h1,h2⟩:=Fo hf
    exact⟨by simpa using h1,by simpa using h2⟩
def Pd{k:Nat}:∀{l:List Fr},findF k l=none→∀f∈l,¬(f.held=true∧f.sec=k)
 |f::l,h,g,hg=>by
  rw[findF] at h;split at h
  ·cases h
  ·rename_i e;rcases Adu.1 hg with rfl|hg
   ·exact e
   ·refine Pd ?_ g hg;cases hf:findF k l with
    |none=>rfl
    |some j=>rw[hf] at h;cases h
def Cn(l:List Fr):Bool:=l.all fun f=>f.pins !=0
def BC(l:List Fr)(h:Nat):Bool:=(l.getD h fz).pins==0 && !(l.getD h fz).late
def DD(l:List Fr)(h:Nat):List Fr:=if (l.getD h fz).pins=0 then l.set h {l.getD h fz with late:=false} else l
def CE(l:List Fr)(h:Nat):Nat:=(h+1) % l.length
def Cs:Nat→List Fr→Nat→List Fr×Nat×Nat
 |0,l,h=>(l,CE l h,h)
 |n+1,l,h=>if BC l h then(l,CE l h,h) else Cs n (DD l h) (CE l h)
def Fj(l:List Fr)(h:Nat):(DD l h).length=l.length:=by unfold DD;split<;>simp
def RH(l:List Fr):Nat:=l.countP fun f=>f.pins==0 && f.late
def Gl(l:List Fr):Nat→Nat→Nat
 |0,_=>0
 |n+1,h=>if (l.getD h fz).pins=0 then 0 else Gl l n (CE l h)+1
def Dm(l:List Fr)(h:Nat):Nat:=RH l*(l.length+1)+Gl l l.length h
def UD(l:List Fr):∀n h,Gl l n h≤n
 |0,_=>Adi _
 |n+1,h=>by rw[Gl];split;omega;have:=UD l n (CE l h);omega
def NR{l:List Fr}{j:Nat}(hj:j<l.length)(hp:(l.getD j fz).pins=0):∀(n h:Nat),h<l.length→(h+n) % l.length=j→∀m,n<m→Gl l m h=Gl l (n+1) h
 |0,h,hh,e,m,hm=>by
  rw[Nat.add_zero,Agh hh] at e;subst e;cases m with
  |zero=>omega
  |succ m=>rw[Gl,Gl,if_pos hp,if_pos hp]
 |n+1,h,hh,e,m,hm=>by
  cases m with
  |zero=>omega
  |succ m=>
   rw[Gl,Gl]
   by_cases q:(l.getD h fz).pins=0
   ·rw[if_pos q,if_pos q]
   ·rw[if_neg q,if_neg q]
    have h1:CE l h<l.length:=Agn _ (by omega)
    have h2:(CE l h+n) % l.length=j:=by
     rw[CE,Nat.mod_add_mod,←e];congr 1;omega
    rw[NR hj hp n (CE l h) h1 h2 m (by omega)]
def WC{l:List Fr}{h:Nat}(hh:h<l.length)(hn:Cn l=false)(hp:(l.getD h fz).pins≠0):Gl l l.length (CE l h)<Gl l l.length h:=by
 obtain⟨f,hf,hq⟩:=by simpa [Cn] using hn
 obtain⟨j,hj,rfl⟩:=Aez hf;have hj0:(l.getD j fz).pins=0:=by rw[Adh,Ade hj];exact hq
 have hpos:0<l.length:=by omega
 have key:∃n,n<l.length∧(CE l h+n) % l.length=j:=by
  have h1:CE l h<l.length:=Agn _ hpos;refine⟨(j+l.length - CE l h) % l.length,Agn _ hpos,?_⟩
  rw[Nat.add_mod_mod,show CE l h+(j+l.length - CE l h)=j+l.length by omega,Nat.add_mod_right,Agh hj]
 obtain⟨n,hn1,hn2⟩:=key;have h1:CE l h<l.length:=Agn _ hpos;have hn3:n≠l.length - 1:=by
  intro e;subst e;rw[CE,Nat.mod_add_mod,show h+1+(l.length - 1)=h+l.length by omega,Nat.add_mod_right,Agh hh] at hn2;subst hn2;exact hp hj0
 obtain⟨m,hm⟩:∃m,l.length=m+1:=⟨l.length - 1,by omega⟩
 have e1:=NR hj hj0 n (CE l h) h1 hn2 l.length hn1;have e2:=NR hj hj0 n (CE l h) h1 hn2 m (by omega);have e3:Gl l l.length h=Gl l m (CE l h)+1:=by
  rw[hm,Gl,if_neg hp]
 rw[e3,e1,e2];omega
def WU{l:List Fr}{h:Nat}(hh:h<l.length)(hp:(l.getD h fz).pins=0)(hl:(l.getD h fz).late=true):RH (l.set h {l.getD h fz with late:=false})+1=RH l:=by
 unfold RH;have e:l.getD h fz=l[h]:=by rw[Adh,Ade hh];rfl
 rw[e] at hp hl⊢;rw[List.countP_set hh];simp only[hp,hl];have:0<l.countP fun f=>f.pins==0 && f.late:=List.countP_pos_iff.2 ⟨l[h],Aec hh,by simp[hp,hl]⟩;simp;omega
def HD{l:List Fr}{h:Nat}(hh:h<l.length)(hn:Cn l=false)(ht:BC l h=false):Dm (DD l h) (CE l h)<Dm l h:=by
 have hd:=UD (DD l h) (DD l h).length (CE l h);rw[Fj] at hd;unfold Dm;rw[Fj];by_cases hp:(l.getD h fz).pins=0
 ·have hl:(l.getD h fz).late=true:=by
   unfold BC at ht;rw[hp] at ht;simpa using ht
  have:=WU hh hp hl;have e:DD l h=l.set h {l.getD h fz with late:=false}:=by rw[DD,if_pos hp]
  rw[e] at hd⊢;rw[←this,Afu,Ahs];omega
 ·have e:DD l h=l:=by rw[DD,if_neg hp]
  rw[e];have:=WC hh hn hp;omega
def Hp{l:List Fr}{h:Nat}:Cn (DD l h)=Cn l:=by
 unfold DD;split
 ·rename_i hp;by_cases hh:h<l.length
  ·have e:l.getD h fz=l[h]:=by rw[Adh,Ade hh];rfl
   rw[e] at hp⊢;have h1:Cn l=false:=by
    unfold Cn;rw[List.all_eq_false];exact⟨l[h],Aec hh,by simp[hp]⟩
   have h2:Cn (l.set h {l[h] with late:=false})=false:=by
    unfold Cn;rw[List.all_eq_false];exact⟨_,List.mem_set hh _,by simp[hp]⟩
   rw[h1,h2]
  ·rw[Agk (by omega)]
 ·rfl
def LI:∀(n:Nat) {l:List Fr}{h:Nat},h<l.length→Cn l=false→Dm l h<n→∀m,n≤m→Cs m l h=Cs n l h
 |0,l,h,_,_,hm,_,_=>by omega
 |n+1,l,h,hh,hn,hm,m,hle=>by
  cases m with
  |zero=>omega
  |succ m=>
   rw[Cs,Cs]
   cases ht:BC l h with
   |true=>rfl
   |false=>
    simp only[Adk,if_false]
    exact LI n (by rw[Fj];exact Agn _ (by omega)) (by rw[Hp];exact hn) (by have:=HD hh hn ht;omega) m (by omega)
def Pu{l:List Fr}{h:Nat}(hh:h<l.length)(hn:Cn l=false)(ht:BC l h=false):Cs (Dm (DD l h) (CE l h)+1) (DD l h) (CE l h)=Cs (Dm l h+1) l h:=by
 rw[show Cs (Dm l h+1) l h=Cs (Dm l h) (DD l h) (CE l h) by rw[Cs,ht];rfl];have h1:=HD hh hn ht;exact(LI _ (by rw[Fj];exact Agn _ (by omega)) (by rw[Hp];exact hn) (Nat.lt_succ_self _) _ (by omega)).symm
def E6(c:CD):CD×Option Nat:=
 match c.free with
 |i::r=>({c with free:=r},some i)
 |[]=>if Cn c.fr then(c,none) else let s:=Cs (Dm c.fr c.hand+1) c.fr c.hand;({c with fr:=s.1,hand:=s.2.1},some s.2.2)
def E0(b:Sec)(c:CD)(k:Nat):CD×Option Sec:=
 match findF k c.fr with
 |some i=>({c with fr:=c.fr.set i {c.fr.getD i fz with pins:=(c.fr.getD i fz).pins+1,late:=true},hits:=c.hits+1},some (c.fr.getD i fz).b)
 |none=>match E6 c with
  |(c',none)=>(c',none)
  |(c',some i)=>({c' with fr:=c'.fr.set i ⟨true,k,1,true,b⟩,miss:=c'.miss+1},some b)
def Dc(c:CD)(k:Nat):CD×Int:=
 match findF k c.fr with
 |none=>(c,240)
 |some i=>if (c.fr.getD i fz).pins=0 then(c,180) else({c with fr:=c.fr.set i {c.fr.getD i fz with pins:=(c.fr.getD i fz).pins - 1}},0)
def Da(c:CD)(k:Nat):CD×Int:=
 match findF k c.fr with
 |none=>(c,240)
 |some i=>if (c.fr.getD i fz).pins>0 then(c,180) else({c with fr:=c.fr.set i fz,free:=c.free++[i]},0)
def D7(c:CD):List Int:=c.fr.map fun f=>if f.held then(f.sec:Int) else -1
end Go.Gk.Cch
namespace Go.Gk.Cch
open Go Go.Gk Go.Gk.Dev
def LQ(c:CD)(n:Nat):Prop:=∀f∈c.fr,f.pins≤n
def Ow:∀(n:Nat) {l:List Fr}{h:Nat},h<l.length→(Cs n l h).1.length=l.length∧(Cs n l h).2.2<l.length∧(Cs n l h).2.1<l.length
 |0,l,h,hh=>⟨rfl,hh,Agn _ (by omega)⟩
 |n+1,l,h,hh=>by
  rw[Cs];split
  ·exact⟨rfl,hh,Agn _ (by omega)⟩
  ·have:=Ow n (l:=DD l h) (h:=CE l h) (by rw[Fj];exact Agn _ (by omega));rw[Fj] at this;exact this
def UF{c c1:CD}{i:Nat}(hh:c.hand<c.fr.length)(hf:∀i∈c.free,i<c.fr.length)(h:E6 c=(c1,some i)):i<c1.fr.length:=by
 unfold E6 at h;split at h
 ·rename_i j r e;cases h;exact hf _ (by rw[e];exact Ado ..)
 ·split at h
  ·cases h
  ·cases h;have:=Ow (Dm c.fr c.hand+1) hh;simp only;omega
end Go.Gk.Cch
end
section
namespace Go.Gk.Cch
open Go Go.Gk Go.Gk.Dev
variable{i k N:Nat}{c c':CD}{cur:Nat→Sec}
def HJ:∀{l m:List Nat},l.Nodup→(∀x∈l,x∈m)→l.length≤m.length
 |[],_,_,_=>Nat.zero_le _
 |x::l,m,h,hs=>by
  have hx:=hs x (Ado ..);have:=HJ (l:=l) (m:=m.erase x) (Afo.1 h).2 (fun y hy=>by
   have hne:y≠x:=fun e=>(Afo.1 h).1 (e▸hy);exact(List.mem_erase_of_ne hne).2 (hs y (Adp _ hy)))
  rw[List.length_erase_of_mem hx] at this;have:=List.length_pos_of_mem hx;simp only[Adm];omega
abbrev CD.at(c:CD)(i:Nat):Fr:=c.fr.getD i fz
structure Inv (cur:Nat→Sec) (N:Nat) (c:CD):Prop where
 n1:1≤c.fr.length
 n2:c.fr.length≤64
 hd:c.hand<c.fr.length
 fl:∀i∈c.free,i<c.fr.length
 nd:c.free.Nodup
 fh:∀i,i<c.fr.length→((c.at i).held=false↔i∈c.free)
 ds:∀i j,i<c.fr.length→j<c.fr.length→(c.at i).held=true→(c.at j).held=true→(c.at i).sec=(c.at j).sec→i=j
 vl:∀i,i<c.fr.length→(c.at i).held=true→(c.at i).sec<N∧(c.at i).b=cur (c.at i).sec
 pz:∀i,i<c.fr.length→(c.at i).held=false→(c.at i).pins=0∧(c.at i).sec=0
def CC(c:CD)(k:Nat):Nat:=match findF k c.fr with|some i=>(c.at i).pins|none=>0
def at_set{l:List Fr}{j:Nat}{f:Fr}(hi:i<l.length):(l.set i f).getD j fz=if j=i then f else l.getD j fz:=by
 simp only[Adh,List.getElem?_set];by_cases e:i=j
 ·subst e;simp[hi]
 ·rw[if_neg e,if_neg (fun h=>e h.symm)]
def CZ{l:List Fr}{i:Nat}(hi:i<l.length):l.getD i fz=l[i]:=by rw[Adh,Ade hi];rfl
def Df(h:findF k c.fr=some i):i<c.fr.length∧(c.at i).held=true∧(c.at i).sec=k:=by
 obtain⟨h1,h2,h3⟩:=Fo h;exact⟨h1,by rw[CD.at,CZ h1];exact h2,by rw[CD.at,CZ h1];exact h3⟩
def Gy(h:findF k c.fr=none)(hi:i<c.fr.length)(hh:(c.at i).held=true):(c.at i).sec≠k:=by
 intro e;rw[CD.at,CZ hi] at hh e;exact Pd h _ (Aec hi) ⟨hh,e⟩
def Inv.find(h:Inv cur N c)(hi:i<c.fr.length)(hh:(c.at i).held=true)(hs:(c.at i).sec=k):findF k c.fr=some i:=by
 cases hf:findF k c.fr with
 |none=>exact absurd hs (Gy hf hi hh)
 |some j=>
  obtain⟨h1,h2,h3⟩:=Df hf
  rw[h.ds j i h1 hi h2 hh (h3.trans hs.symm)]
def Tx(h:Inv cur N c)(hi:i<c.fr.length)(hh:(c.at i).held=true):CC c (c.at i).sec=(c.at i).pins:=by
 rw[CC,h.find hi hh rfl]
def EC(l m:List Fr):Prop:=l.length=m.length∧∀i,(l.getD i fz).held=(m.getD i fz).held∧(l.getD i fz).sec=(m.getD i fz).sec∧(l.getD i fz).pins=(m.getD i fz).pins∧(l.getD i fz).b=(m.getD i fz).b
def EC.refl(l:List Fr):EC l l:=⟨rfl,fun _=>⟨rfl,rfl,rfl,rfl⟩⟩
def EC.trans{a b c:List Fr}(h:EC a b)(k:EC b c):EC a c:=
 ⟨h.1.trans k.1,fun i=>let ⟨x,y,z,w⟩:=h.2 i;let ⟨x',y',z',w'⟩:=k.2 i;⟨x.trans x',y.trans y',z.trans z',w.trans w'⟩⟩
def QI(l:List Fr)(h:Nat):EC (DD l h) l:=by
 unfold DD;split
 ·by_cases hh:h<l.length
  ·refine⟨by simp,fun i=>?_⟩
   rw[at_set hh];by_cases e:i=h
   ·subst e;rw[if_pos rfl];exact⟨rfl,rfl,rfl,rfl⟩
   ·rw[if_neg e];exact⟨rfl,rfl,rfl,rfl⟩
  ·rw[Agk (by omega)];exact EC.refl l
 ·exact EC.refl l
def Kf:∀(n:Nat) (l:List Fr) (h:Nat),EC (Cs n l h).1 l
 |0,l,_=>EC.refl l
 |n+1,l,h=>by
  rw[Cs];split
  ·exact EC.refl l
  ·exact(Kf n _ _).trans (QI l h)
def Ps:∀(n:Nat) {l:List Fr}{h:Nat},h<l.length→Cn l=false→Dm l h<n→(l.getD (Cs n l h).2.2 fz).pins=0
 |0,_,_,_,_,hm=>by omega
 |n+1,l,h,hh,hn,hm=>by
  rw[Cs];cases ht:BC l h with
  |true=>
   simp only[if_true]
   unfold BC at ht
   simp only[Bool.and_eq_true,beq_iff_eq] at ht
   exact ht.1
  |false=>
   simp only[Adk,if_false]
   have:=Ps n (l:=DD l h) (h:=CE l h) (by rw[Fj];exact Agn _ (by omega)) (by rw[Hp];exact hn) (by have:=HD hh hn ht;omega)
   rw[((QI l h).2 _).2.2.1] at this
   exact this
def Inv.same(h:Inv cur N c)(hl:c'.fr.length=c.fr.length)(hf:c'.free=c.free)(hh:c'.hand<c.fr.length)
  (he:∀i,(c'.at i).held=(c.at i).held∧(c'.at i).sec=(c.at i).sec∧(c'.at i).b=(c.at i).b∧((c.at i).held=false→(c'.at i).pins=(c.at i).pins)):Inv cur N c' where
 n1:=by rw[hl];exact h.n1
 n2:=by rw[hl];exact h.n2
 hd:=by rw[hl];exact hh
 fl:=by rw[hl,hf];exact h.fl
 nd:=by rw[hf];exact h.nd
 fh:=fun i hi=>by rw[(he i).1,hf];exact h.fh i (hl▸hi)
 ds:=fun i j hi hj h1 h2 h3=>by rw[(he i).1] at h1;rw[(he j).1] at h2;rw[(he i).2.1,(he j).2.1] at h3;exact h.ds i j (hl▸hi) (hl▸hj) h1 h2 h3
 vl:=fun i hi h1=>by rw[(he i).1] at h1;rw[(he i).2.1,(he i).2.2.1];exact h.vl i (hl▸hi) h1
 pz:=fun i hi h1=>by rw[(he i).1] at h1;rw[(he i).2.2.2 h1,(he i).2.1];exact h.pz i (hl▸hi) h1
def Inv.take{c1:CD}(h:Inv cur N c)(hl:EC c1.fr c.fr)(hh:c1.hand<c.fr.length)(hi:i<c.fr.length)(hk:k<N)(hn:findF k c.fr=none)
  (hf:(c.free=i::c1.free)∨(c.free=[]∧c1.free=[]∧(c.at i).pins=0)) {m:Nat}(c2:CD) (e:c2={c1 with fr:=c1.fr.set i ⟨true,k,1,true,cur k⟩,miss:=m}):
  Inv cur N c2∧(∀s,CC c2 s=if s=k then CC c s+1 else CC c s)∧findF k c2.fr=some i:=by
 have hi1:i<c1.fr.length:=by rw[hl.1];exact hi
 have hlen:c2.fr.length=c.fr.length:=by subst e;simp[hl.1]
 have hat:∀j,c2.at j=if j=i then⟨true,k,1,true,cur k⟩ else c1.fr.getD j fz:=fun j=>by subst e;exact at_set hi1
 have hsame:∀j,j≠i→(c2.at j).held=(c.at j).held∧(c2.at j).sec=(c.at j).sec∧(c2.at j).pins=(c.at j).pins∧(c2.at j).b=(c.at j).b:=fun j hj=>by
  rw[hat,if_neg hj];exact hl.2 j
 have hself:c2.at i=⟨true,k,1,true,cur k⟩:=by rw[hat,if_pos rfl]
 have hfree:c2.free=c1.free:=by subst e;rfl
 have hsub:∀j,j≠i→(j∈c1.free↔j∈c.free):=fun j hj=>by
  rcases hf with hf|⟨hf1,hf2,_⟩
  ·rw[hf];simp[hj]
  ·rw[hf1,hf2]
 have hni:i∉c1.free:=by
  rcases hf with hf|⟨_,hf2,_⟩
  ·have:=h.nd;rw[hf] at this;exact(Afo.1 this).1
  ·rw[hf2];exact List.not_mem_nil
 have hpi:(c.at i).pins=0:=by
  rcases hf with hf|⟨_,_,hp⟩
  ·exact(h.pz i hi ((h.fh i hi).2 (by rw[hf];exact Ado ..))).1
  ·exact hp
 have I:Inv cur N c2:=
 {n1:=by rw[hlen];exact h.n1
  n2:=by rw[hlen];exact h.n2
  hd:=by rw[hlen];subst e;exact hh
  fl:=fun j hj=>by
   rw[hfree] at hj;rw[hlen];by_cases q:j=i
   ·subst q;exact absurd hj hni
   ·exact h.fl j ((hsub j q).1 hj)
  nd:=by
   rw[hfree];rcases hf with hf|⟨_,hf2,_⟩
   ·have:=h.nd;rw[hf] at this;exact(Afo.1 this).2
   ·rw[hf2];exact List.nodup_nil
  fh:=fun j hj=>by
   rw[hlen] at hj;rw[hfree];by_cases q:j=i
   ·subst q;rw[hself];exact⟨(fun z=>by cases z),fun z=>absurd z hni⟩
   ·rw[(hsame j q).1,hsub j q];exact h.fh j hj
  ds:=fun a b ha hb h1 h2 h3=>by
   rw[hlen] at ha hb;by_cases qa:a=i
   ·by_cases qb:b=i
    ·omega
    ·subst qa;rw[hself,(hsame b qb).2.1] at h3;rw[(hsame b qb).1] at h2;exact absurd h3.symm (Gy hn hb h2)
   ·by_cases qb:b=i
    ·subst qb;rw[hself,(hsame a qa).2.1] at h3;rw[(hsame a qa).1] at h1;exact absurd h3 (Gy hn ha h1)
    ·rw[(hsame a qa).1] at h1;rw[(hsame b qb).1] at h2;rw[(hsame a qa).2.1,(hsame b qb).2.1] at h3;exact h.ds a b ha hb h1 h2 h3
  vl:=fun a ha h1=>by
   rw[hlen] at ha;by_cases qa:a=i
   ·subst qa;rw[hself];exact⟨hk,rfl⟩
   ·rw[(hsame a qa).1] at h1;rw[(hsame a qa).2.1,(hsame a qa).2.2.2];exact h.vl a ha h1
  pz:=fun a ha h1=>by
   rw[hlen] at ha;by_cases qa:a=i
   ·subst qa;rw[hself] at h1;cases h1
   ·rw[(hsame a qa).1] at h1;rw[(hsame a qa).2.2.1,(hsame a qa).2.1];exact h.pz a ha h1}
 have hfk:findF k c2.fr=some i:=I.find (by rw[hlen];exact hi) (by rw[hself]) (by rw[hself])
 refine⟨I,fun s=>?_,hfk⟩
 by_cases q:s=k
 ·subst q
  rw[if_pos rfl,CC,hfk,CC,hn]
  show(c2.at i).pins=_
  rw[hself]
 ·rw[if_neg q]
  cases hs:findF s c.fr with
  |some j=>
   obtain⟨h1,h2,h3⟩:=Df hs
   by_cases qj:j=i
   ·subst qj
    have e1:CC c s=0:=by rw[CC,hs];exact hpi
    rw[e1,CC]
    cases ht:findF s c2.fr with
    |none=>rfl
    |some a=>
     obtain⟨g1,g2,g3⟩:=Df ht
     by_cases qa:a=j
     ·subst qa;rw[hself] at g3;exact absurd g3.symm q
     ·rw[hlen] at g1
      rw[(hsame a qa).1] at g2;rw[(hsame a qa).2.1] at g3
      exact absurd (h.ds a j g1 h1 g2 h2 (g3.trans h3.symm)) qa
   ·have:findF s c2.fr=some j:=I.find (by rw[hlen];exact h1) (by rw[(hsame j qj).1];exact h2) (by rw[(hsame j qj).2.1];exact h3)
    rw[CC,this,CC,hs]
    exact(hsame j qj).2.2.1
  |none=>
   have e1:CC c s=0:=by rw[CC,hs]
   rw[e1,CC]
   cases ht:findF s c2.fr with
   |none=>rfl
   |some a=>
    obtain⟨g1,g2,g3⟩:=Df ht
    rw[hlen] at g1
    by_cases qa:a=i
    ·subst qa;rw[hself] at g3;exact absurd g3.symm q
    ·rw[(hsame a qa).1] at g2;rw[(hsame a qa).2.1] at g3
     exact absurd g3 (Gy hs g1 g2)
def get_some{b:Sec}(h:Inv cur N c)(hk:k<N)(hg:E0 (cur k) c k=(c',some b)):
  Inv cur N c'∧b=cur k∧(∀s,CC c' s=if s=k then CC c s+1 else CC c s)∧(∃i,findF k c'.fr=some i)∧c'.fr.length=c.fr.length∧
   (match findF k c.fr with|some _=>c'.hits=c.hits+1∧c'.miss=c.miss|none=>c'.hits=c.hits∧c'.miss=c.miss+1)∧
   (c.free≠[]∨findF k c.fr≠none→∀s,s≠k→(findF s c'.fr=none↔findF s c.fr=none)):=by
 unfold E0 at hg
 cases hf:findF k c.fr with
 |some i=>
  rw[hf] at hg
  cases hg
  obtain⟨h1,h2,h3⟩:=Df hf
  have hat:∀j,((c.fr.set i {c.fr.getD i fz with pins:=(c.fr.getD i fz).pins+1,late:=true}).getD j fz)=if j=i then{c.fr.getD i fz with pins:=(c.fr.getD i fz).pins+1,late:=true} else c.fr.getD j fz:=fun j=>at_set h1
  have hsame:EC (c.fr.set i {c.fr.getD i fz with pins:=(c.fr.getD i fz).pins,late:=true}) c.fr:=⟨by simp,fun j=>by
   rw[at_set h1];by_cases q:j=i
   ·subst q;rw[if_pos rfl];exact⟨rfl,rfl,rfl,rfl⟩
   ·rw[if_neg q];exact⟨rfl,rfl,rfl,rfl⟩⟩
  have hfind:∀s,findF s (c.fr.set i {c.fr.getD i fz with pins:=(c.fr.getD i fz).pins+1,late:=true})=findF s c.fr:=by
   intro s;have gen:∀(l:List Fr) (i:Nat) (f:Fr),f.held=(l.getD i fz).held→f.sec=(l.getD i fz).sec→findF s (l.set i f)=findF s l:=by
    intro l;induction l with
    |nil=>intro i f _ _;rfl
    |cons g l ih=>
     intro i f e1 e2
     cases i with
     |zero=>simp only[Afx] at e1 e2;rw[Ahz,findF,findF,e1,e2]
     |succ i=>simp only[Afy] at e1 e2;rw[Ahi,findF,findF,ih i f e1 e2]
   exact gen c.fr i _ rfl rfl
  refine⟨h.same (by simp) rfl h.hd (fun j=>?_),?_,fun s=>?_,⟨i,by rw[hfind];exact hf⟩,by simp,⟨rfl,rfl⟩,fun _ s _=>by rw[hfind]⟩
  ·simp only[CD.at,hat]
   by_cases q:j=i
   ·subst q;rw[if_pos rfl];exact⟨rfl,rfl,rfl,fun z=>by rw[CD.at] at h2;rw[h2] at z;cases z⟩
   ·rw[if_neg q];exact⟨rfl,rfl,rfl,fun _=>rfl⟩
  ·rw[(h.vl i h1 h2).2,h3]
  ·simp only[CC,hfind,CD.at]
   by_cases q:s=k
   ·subst q
    rw[if_pos rfl,hf]
    simp only[hat,if_true]
   ·rw[if_neg q]
    cases hs:findF s c.fr with
    |none=>rfl
    |some j=>
     have hj:j≠i:=by
      rintro rfl;obtain⟨_,_,g3⟩:=Df hs;exact q (g3.symm.trans h3)
     simp only[hat,if_neg hj]
 |none=>
  rw[hf] at hg
  simp only at hg
  unfold E6 at hg
  cases hfr:c.free with
  |cons i r=>
   rw[hfr] at hg
   simp only at hg
   cases hg
   have hi:=h.fl i (by rw[hfr];exact Ado ..)
   obtain⟨g1,g2,g3⟩:=h.take (c1:={c with free:=r}) (EC.refl _) h.hd hi hk hf (.inl hfr) _ rfl
   refine⟨g1,rfl,g2,⟨i,g3⟩,by simp,⟨rfl,rfl⟩,fun _ s hs=>?_⟩
   have hnh:(c.at i).held=false:=(h.fh i hi).2 (by rw[hfr];exact Ado ..)
   constructor
   ·intro z
    cases q:findF s c.fr with
    |none=>rfl
    |some j=>
     obtain⟨y1,y2,y3⟩:=Df q
     have hj:j≠i:=by rintro rfl;rw[hnh] at y2;cases y2
     have e:(c.fr.set i ⟨true,k,1,true,cur k⟩).getD j fz=c.fr.getD j fz:=by rw[at_set hi,if_neg hj]
     have:=g1.find (k:=s) (i:=j) (by simpa using y1) (by simp only[CD.at];rw[e];exact y2) (by simp only[CD.at];rw[e];exact y3)
     rw[this] at z;cases z
   ·intro z
    cases q:findF s (c.fr.set i ⟨true,k,1,true,cur k⟩) with
    |none=>rfl
    |some j=>
     obtain⟨y1,y2,y3⟩:=Df (c:={c with free:=r,fr:=c.fr.set i ⟨true,k,1,true,cur k⟩}) q
     simp only[CD.at] at y2 y3
     rw[at_set hi] at y2 y3
     by_cases hj:j=i
     ·rw[if_pos hj] at y3;exact absurd y3.symm hs
     ·rw[if_neg hj] at y2 y3
      exact absurd y3 (Gy z (by simpa using y1) y2)
  |nil=>
   rw[hfr] at hg
   simp only at hg
   cases hp:Cn c.fr with
   |true=>rw[hp] at hg;simp only[if_true] at hg;cases hg
   |false=>
    rw[hp] at hg
    simp only[Adk,if_false] at hg
    cases hg
    have hs:=Kf (Dm c.fr c.hand+1) c.fr c.hand
    have hl:=Ow (Dm c.fr c.hand+1) h.hd
    have hpz:=Ps _ h.hd hp (Nat.lt_succ_self _)
    obtain⟨g1,g2,g3⟩:=h.take (c1:=⟨(Cs (Dm c.fr c.hand+1) c.fr c.hand).1,[],(Cs (Dm c.fr c.hand+1) c.fr c.hand).2.1,c.hits,c.miss⟩) hs hl.2.2 hl.2.1 hk hf (.inr ⟨hfr,rfl,hpz⟩) _ rfl
    exact⟨g1,rfl,g2,⟨_,g3⟩,by simp[hl.1],⟨rfl,rfl⟩,fun z=>by rcases z with z|z<;>exact absurd rfl z⟩
def get_none(_:Inv cur N c)(hg:E0 (cur k) c k=(c',none)):c'=c∧findF k c.fr=none∧c.free=[]∧Cn c.fr=true:=by
 unfold E0 at hg;cases hf:findF k c.fr with
 |some i=>rw[hf] at hg;cases hg
 |none=>
  rw[hf] at hg
  simp only at hg
  unfold E6 at hg
  cases hfr:c.free with
  |cons i r=>rw[hfr] at hg;cases hg
  |nil=>
   rw[hfr] at hg
   simp only at hg
   cases hp:Cn c.fr with
   |true=>rw[hp] at hg;simp only[if_true] at hg;cases hg;exact⟨rfl,rfl,rfl,rfl⟩
   |false=>rw[hp] at hg;simp only[Adk,if_false] at hg;cases hg
def Inv.full(h:Inv cur N c)(hf:c.free=[]){S:List Nat}(hS:∀i,i<c.fr.length→(c.at i).sec∈S):c.fr.length≤S.length:=by
 have hheld:∀i,i<c.fr.length→(c.at i).held=true:=fun i hi=>by
  cases q:(c.at i).held with
  |true=>rfl
  |false=>have:=(h.fh i hi).1 q;rw[hf] at this;cases this
 have hn:((Aek c.fr.length).map fun i=>(c.at i).sec).Nodup:=by
  refine List.pairwise_map.2 (List.Pairwise.imp_of_mem (fun{a b} ha hb hne e=>hne ?_) List.nodup_range);exact h.ds a b (Agr.1 ha) (Agr.1 hb) (hheld a (Agr.1 ha)) (hheld b (Agr.1 hb)) e
 have:=HJ hn (m:=S) (fun x hx=>by
  obtain⟨i,hi,rfl⟩:=List.mem_map.1 hx;exact hS i (Agr.1 hi))
 simpa using this
def WJ(h:Inv cur N c)(hp:CC c k≠0):
  Inv cur N (Dc c k).1∧(Dc c k).2=0∧(∀s,CC (Dc c k).1 s=if s=k then CC c s - 1 else CC c s)∧(Dc c k).1.fr.length=c.fr.length∧(Dc c k).1.hits=c.hits∧(Dc c k).1.miss=c.miss∧(Dc c k).1.free=c.free∧
   ∀s,findF s (Dc c k).1.fr=findF s c.fr:=by
 unfold Dc
 cases hf:findF k c.fr with
 |none=>rw[CC,hf] at hp;exact absurd rfl hp
 |some i=>
  have hpi:(c.fr.getD i fz).pins≠0:=by rw[CC,hf] at hp;exact hp
  simp only[if_neg hpi]
  obtain⟨h1,h2,h3⟩:=Df hf
  have hfind:∀s,findF s (c.fr.set i {c.fr.getD i fz with pins:=(c.fr.getD i fz).pins - 1})=findF s c.fr:=by
   intro s;have gen:∀(l:List Fr) (i:Nat) (f:Fr),f.held=(l.getD i fz).held→f.sec=(l.getD i fz).sec→findF s (l.set i f)=findF s l:=by
    intro l;induction l with
    |nil=>intro i f _ _;rfl
    |cons g l ih=>
     intro i f e1 e2
     cases i with
     |zero=>simp only[Afx] at e1 e2;rw[Ahz,findF,findF,e1,e2]
     |succ i=>simp only[Afy] at e1 e2;rw[Ahi,findF,findF,ih i f e1 e2]
   exact gen c.fr i _ rfl rfl
  refine⟨h.same (by simp) rfl h.hd (fun j=>?_),trivial,fun s=>?_,by simp,trivial,trivial,trivial,hfind⟩
  ·simp only[CD.at,at_set h1]
   by_cases q:j=i
   ·subst q;rw[if_pos rfl];exact⟨rfl,rfl,rfl,fun z=>by rw[CD.at] at h2;rw[h2] at z;cases z⟩
   ·rw[if_neg q];exact⟨rfl,rfl,rfl,fun _=>rfl⟩
  ·simp only[CC,hfind,CD.at]
   by_cases q:s=k
   ·subst q
    rw[if_pos rfl,hf]
    simp only[at_set h1,if_true]
   ·rw[if_neg q]
    cases hs:findF s c.fr with
    |none=>rfl
    |some j=>
     have hj:j≠i:=by
      rintro rfl;obtain⟨_,_,g3⟩:=Df hs;exact q (g3.symm.trans h3)
     simp only[at_set h1,if_neg hj]
def Aba(cur:Nat→Sec)(N n:Nat)(h1:1≤n)(h2:n≤64):Inv cur N ⟨Adx n fz,Aek n,0,0,0⟩:=by
 have hat:∀i,(Adx n fz).getD i fz=fz:=fun i=>by
  rw[Adh,List.getElem?_replicate];split<;>rfl
 exact
 {n1:=by simpa using h1
  n2:=by simpa using h2
  hd:=by simp only[Aet];omega
  fl:=fun i hi=>by simpa using hi
  nd:=List.nodup_range
  fh:=fun i hi=>by simp only[CD.at,hat];simp at hi;simpa [fz] using hi
  ds:=fun i j _ _ hh _ _=>by simp only[CD.at,hat] at hh;cases hh
  vl:=fun i _ hh=>by simp only[CD.at,hat] at hh;cases hh
  pz:=fun i _ _=>by simp only[CD.at,hat];exact⟨rfl,rfl⟩}
def Oe(n k:Nat):findF k (Adx n fz)=none:=by
 induction n with
 |zero=>rfl
 |succ n ih=>rw[List.replicate_succ,findF,ih];simp[fz]
def Inv.held(h:Inv cur N c):∀i (hi:i<(D7 c).length),(D7 c)[i]<N∧(∀j (hj:j<i),0≤(D7 c)[i]→(D7 c)[j]≠(D7 c)[i]):=by
 have hlen:(D7 c).length=c.fr.length:=by simp[D7]
 have hget:∀i (hi:i<(D7 c).length),(D7 c)[i]=if (c.at i).held then((c.at i).sec:Int) else -1:=fun i hi=>by
  have e:c.at i=c.fr[i]'(hlen▸hi):=CZ _;rw[e];simp[D7]
 intro i hi;rw[hget i hi];cases q:(c.at i).held with
 |false=>exact⟨by simp only[Adk,if_false];omega,fun j _ z=>by simp at z⟩
 |true=>
  refine⟨by simp only[if_true];have:=(h.vl i (hlen▸hi) q).1;omega,fun j hj _ e=>?_⟩
  rw[hget j (by omega)] at e
  cases q':(c.at j).held with
  |false=>rw[q'] at e;simp at e
  |true=>
   rw[q'] at e
   simp only[if_true] at e
   have:=h.ds j i (by omega) (hlen▸hi) q' q (by omega)
   omega
def Aa2(h:Inv cur N c){m:Nat}(hp:∀s,CC c s≤m):∀f∈c.fr,f.pins≤m:=by
 intro f hf;obtain⟨i,hi,rfl⟩:=Aez hf;have e:c.at i=c.fr[i]:=CZ hi;cases q:(c.at i).held with
 |true=>have:=Tx h hi q;have:=hp (c.at i).sec;rw[←e];omega
 |false=>have:=(h.pz i hi q).1;rw[e] at this;omega
def QW(h:Inv cur N c)(hf:findF k c.fr=some i)(s:Nat):findF s (c.fr.set i fz)=if s=k then none else findF s c.fr:=by
 obtain⟨h1,h2,h3⟩:=Df hf;have gen:∀(l:List Fr) (i:Nat),i<l.length→(∀j,j<l.length→j≠i→¬((l.getD j fz).held=true∧(l.getD j fz).sec=k))→(l.getD i fz).sec=k→findF s (l.set i fz)=if s=k then none else findF s l:=by
  intro l;induction l with
  |nil=>intro i hi;simp at hi
  |cons g l ih=>
   intro i hi hj hk
   cases i with
   |zero=>
    simp only[Afx] at hk
    rw[Ahz,findF,if_neg (by simp[fz]),findF]
    by_cases q:s=k
    ·subst q
     rw[if_pos rfl]
     cases hs:findF s l with
     |none=>rfl
     |some j=>
      obtain⟨g1,g2,g3⟩:=Fo hs
      refine absurd ?_ (hj (j+1) (by simpa using g1) (by omega))
      rw[Afy,CZ g1]
      exact⟨g2,g3⟩
    ·rw[if_neg q,if_neg (fun z=>q (z.2.symm.trans hk))]
   |succ i=>
    simp only[Afy] at hk
    have h0:=hj 0 (by simp) (by omega)
    simp only[Afx] at h0
    rw[Ahi,findF,findF,ih i (by simpa using hi) (fun j g1 g2=>by have:=hj (j+1) (by simpa using g1) (by omega);simpa only[Afy] using this) hk]
    by_cases q:s=k
    ·subst q;rw[if_pos rfl,if_neg h0,if_pos rfl];rfl
    ·rw[if_neg q,if_neg q]
 refine gen c.fr i h1 (fun j hj hne z=>hne ?_) h3;exact h.ds j i hj h1 z.1 h2 (z.2.trans h3.symm)
def TQ(h:Inv cur N c)(hf:findF k c.fr=some i)(hp:CC c k=0):
  Da c k=({c with fr:=c.fr.set i fz,free:=c.free++[i]},0)∧Inv cur N (Da c k).1∧(∀s,findF s (Da c k).1.fr=if s=k then none else findF s c.fr)∧(∀s,CC (Da c k).1 s=CC c s):=by
 obtain⟨h1,h2,h3⟩:=Df hf
 have hpi:(c.fr.getD i fz).pins=0:=by rw[CC,hf] at hp;exact hp
 have e:Da c k=({c with fr:=c.fr.set i fz,free:=c.free++[i]},0):=by unfold Da;rw[hf];simp only;rw[if_neg (by omega)]
 have hni:i∉c.free:=fun z=>by rw[(h.fh i h1).2 z] at h2;cases h2
 rw[e]
 have hat:∀j,(c.fr.set i fz).getD j fz=if j=i then fz else c.fr.getD j fz:=fun j=>at_set h1
 have I:Inv cur N {c with fr:=c.fr.set i fz,free:=c.free++[i]}:=
 {n1:=by simpa using h.n1
  n2:=by simpa using h.n2
  hd:=by simpa using h.hd
  fl:=fun j hj=>by
   simp only[Aen];rcases Adg.1 hj with hj|hj
   ·exact h.fl j hj
   ·rw[Adq.1 hj];exact h1
  nd:=by
   rw[List.nodup_append];exact⟨h.nd,by simp,fun a ha b hb z=>by rw[Adq.1 hb] at z;exact hni (z▸ha)⟩
  fh:=fun j hj=>by
   simp only[Aen] at hj;simp only[CD.at,hat,Adg,Adq];by_cases q:j=i
   ·subst q;simp[fz]
   ·rw[if_neg q];have:=h.fh j hj;simp only[CD.at] at this;rw[this];simp[q]
  ds:=fun a b ha hb g1 g2 g3=>by
   simp only[Aen] at ha hb;simp only[CD.at,hat] at g1 g2 g3;by_cases qa:a=i
   ·rw[if_pos qa] at g1;cases g1
   ·by_cases qb:b=i
    ·rw[if_pos qb] at g2;cases g2
    ·rw[if_neg qa] at g1 g3;rw[if_neg qb] at g2 g3;exact h.ds a b ha hb g1 g2 g3
  vl:=fun a ha g1=>by
   simp only[Aen] at ha;simp only[CD.at,hat] at g1⊢;by_cases qa:a=i
   ·rw[if_pos qa] at g1;cases g1
   ·rw[if_neg qa] at g1⊢;exact h.vl a ha g1
  pz:=fun a ha g1=>by
   simp only[Aen] at ha;simp only[CD.at,hat] at g1⊢;by_cases qa:a=i
   ·rw[if_pos qa];exact⟨rfl,rfl⟩
   ·rw[if_neg qa] at g1⊢;exact h.pz a ha g1}
 refine⟨rfl,I,fun s=>QW h hf s,fun s=>?_⟩
 simp only[CC]
 rw[QW h hf s]
 by_cases q:s=k
 ·subst q;rw[if_pos rfl,hf];exact hpi.symm
 ·rw[if_neg q]
  cases hs:findF s c.fr with
  |none=>rfl
  |some j=>
   obtain⟨g1,g2,g3⟩:=Df hs
   have hj:j≠i:=by rintro rfl;exact q (g3.symm.trans h3)
   simp only[CD.at,hat,if_neg hj]
def Abs(h:Inv cur N c)(hf:findF k c.fr=some i):c.free.length<c.fr.length:=by
 obtain⟨h1,h2,h3⟩:=Df hf;have hni:i∉c.free:=fun z=>by rw[(h.fh i h1).2 z] at h2;cases h2
 have:=HJ (l:=i::c.free) (m:=Aek c.fr.length) (Afo.2 ⟨hni,h.nd⟩) (fun x hx=>by
  rcases Adu.1 hx with rfl|hx
  ·exact Agr.2 h1
  ·exact Agr.2 (h.fl x hx))
 simp only[Adm,List.length_range] at this;omega
end Go.Gk.Cch
end
section
namespace Go.Gk.Pgr
open Go Go.Gk Go.Gk.Dev Go.Gk.Cch
structure PD where
 frm:Nat
 kinds:List Int
 fb:Nat→Sec
 syn:List Sec
 round:Nat
 tc:Nat
abbrev PD.kd(s:PD)(i:Nat):Int:=s.kinds.getD i 0
def PD.kind(s:PD)(k:Int):Int:=if (s.frm:Int)≤k∧k<(s.frm:Int)+s.kinds.length then s.kd (k - s.frm).toNat else -1
def EA(fb:Nat→Sec)(i:Nat)(b:Sec):Nat→Sec:=fun j=>if j=i then b else fb j
def Db(x:Int):List Int→Option Nat
 |[]=>none
 |y::l=>if x=y then some 0 else(Db x l).map (·+1)
def PD.Hy(s:PD)(i:Nat):PD:={s with kinds:=s.kinds.set i 1,fb:=EA s.fb i I8}
def PD.take(s:PD):Option (Nat×PD):=(Db 0 s.kinds).map fun i=>(s.frm+i,s.Hy i)
def PD.put(s:PD)(k:Int)(b:Sec):PD×Int:=if s.kind k=1 then(if b.length=256 then({s with fb:=EA s.fb (k - s.frm).toNat b},0) else(s,2)) else(s,240)
def PD.get(s:PD)(k:Int):PD×Option Sec:=
 if s.kind k=1 then({s with tc:=s.tc+1},some (s.fb (k - s.frm).toNat)) else if s.kind k=2 then({s with tc:=s.tc+1},some (s.syn.getD k.toNat [])) else(s,none)
def PD.drop(s:PD)(k:Int):PD×Int:=
 if s.kind k=1 then({s with kinds:=s.kinds.set (k - s.frm).toNat 0},0) else if s.kind k=2 then({s with kinds:=s.kinds.set (k - s.frm).toNat 3},0) else(s,240)
def PD.writes(s:PD):Nat→List (Nat×Sec)
 |0=>[]
 |n+1=>s.writes n++(if s.kd n=1 then [(s.frm+n,s.fb n)] else [])
def PD.flush(s:PD):PD:={s with syn:=synced (s.writes s.kinds.length) s.syn}
def Dg(x:Int):Int:=if x=3 then 0 else if x=1 then 2 else x
def PD.done(s:PD):PD:={s with kinds:=s.kinds.map Dg,round:=s.round+1}
structure MD where
 kinds:List Int
 fb:Nat→Sec
 round:Nat
def PD.mark(s:PD):MD:=⟨s.kinds,s.fb,s.round⟩
def PD.back(s:PD)(m:MD):PD:={s with kinds:=m.kinds,fb:=m.fb}
def PD.free(s:PD):Nat:=s.kinds.countP (·==0)
def C4(frm:Nat):List Int→Nat→List Int
 |[],_=>[]
 |x::l,i=>if x=2 then((frm+i:Nat):Int)::C4 frm l (i+1) else C4 frm l (i+1)
def PD.B5(s:PD):List Int:=C4 s.frm s.kinds 0
structure Good (s:PD):Prop where
 one:1≤s.kinds.length
 len:s.kinds.length≤8192
 inn:s.frm+s.kinds.length≤s.syn.length
 syn:s.syn.length≤8192
 kd:∀i,0≤s.kd i∧s.kd i≤3
structure CJ (s:PD) (c:CD):Prop where
 inv:Inv (fun k=>s.syn.getD k []) s.syn.length c
 zer:∀k,CC c k=0
 hold:∀k,findF k c.fr≠none→s.frm≤k∧k<s.frm+s.kinds.length∧2≤s.kd (k - s.frm)
def F9{x:Int}:∀{l:List Int}{i:Nat},Db x l=some i→∃h:i<l.length,l[i]=x
 |y::l,i,h=>by
  rw[Db] at h;split at h
  ·rename_i e;cases h;exact⟨by simp,by simp[e]⟩
  ·cases q:Db x l with
   |none=>rw[q] at h;cases h
   |some j=>
    rw[q] at h;cases h
    obtain⟨h1,h2⟩:=F9 q
    exact⟨by simpa using h1,by simpa using h2⟩
def Ue{x:Int}{l:List Int}{i:Nat}(hi:i<l.length):Db x (l.drop i)=if x=l[i] then some 0 else(Db x (l.drop (i+1))).map (·+1):=by
 rw[Aei hi];rfl
def GJ{s:PD}{i:Nat}(h:i<s.kinds.length):s.kd i=s.kinds[i]:=by rw[PD.kd,Adh,Ade h];rfl
def De{l:List Int}{i j:Nat}{x:Int}(hi:i<l.length):(l.set i x).getD j 0=if j=i then x else l.getD j 0:=by
 simp only[Adh,List.getElem?_set];by_cases e:i=j
 ·subst e;simp[hi]
 ·rw[if_neg e,if_neg (fun h=>e h.symm)]
def CA{s:PD}{k:Int}{x:Int}(h:s.kind k=x)(hx:0≤x):∃i,i<s.kinds.length∧k=((s.frm+i:Nat):Int)∧s.kd i=x∧(k - s.frm).toNat=i:=by
 unfold PD.kind at h;split at h
 ·rename_i e;exact⟨(k - s.frm).toNat,by omega,by omega,h,rfl⟩
 ·omega
def GB{s:PD}{i:Nat}(hi:i<s.kinds.length):s.kind ((s.frm+i:Nat):Int)=s.kd i:=by
 unfold PD.kind;rw[if_pos (by omega)];congr 1;omega
def Good.kds{s}(h:Good s){ks:List Int}{i:Nat}{x:Int}(e:ks=s.kinds.set i x)(h0:0≤x)(h3:x≤3):Good {s with kinds:=ks}:=by
 subst e;refine⟨by simpa using h.one,by simpa using h.len,by simpa using h.inn,h.syn,fun j=>?_⟩
 simp only[PD.kd];by_cases hi:i<s.kinds.length
 ·rw[De hi];split
  ·omega
  ·exact h.kd j
 ·rw[Agk (by omega)];exact h.kd j
def Og(l m:List Int):Prop:=l.length=m.length∧∀i,2≤l.getD i 0↔2≤m.getD i 0
def Og.refl(l:List Int):Og l l:=⟨rfl,fun _=>Iff.rfl⟩
def Og.trans{a b c:List Int}(h:Og a b)(k:Og b c):Og a c:=⟨h.1.trans k.1,fun i=>(h.2 i).trans (k.2 i)⟩
def Og.symm{a b:List Int}(h:Og a b):Og b a:=⟨h.1.symm,fun i=>(h.2 i).symm⟩
def Og.set{l:List Int}{i:Nat}{x:Int}(h:2≤x↔2≤l.getD i 0):Og (l.set i x) l:=by
 refine⟨by simp,fun j=>?_⟩
 by_cases hi:i<l.length
 ·rw[De hi];by_cases e:j=i
  ·subst e;rw[if_pos rfl];exact h
  ·rw[if_neg e]
 ·rw[Agk (by omega)]
def CJ.og{s}{c:CD}(h:CJ s c){ks:List Int}(ho:Og ks s.kinds):CJ {s with kinds:=ks} c:=
 ⟨h.inv,h.zer,fun k hk=>by
  obtain⟨h1,h2,h3⟩:=h.hold k hk;exact⟨h1,by rw[ho.1];exact h2,(ho.2 _).2 h3⟩⟩
def VR{b b':Sec}{c c':CD}{k:Nat}(hf:∀i∈c.free,i<c.fr.length)(hh:c.hand<c.fr.length)(h:E0 b c k=(c',some b')):∃m i f,c'.fr=m.set i f∧EC m c.fr∧i<m.length∧f.sec=k:=by
 unfold E0 at h;cases hq:findF k c.fr with
 |some i=>
  rw[hq] at h
  cases h
  obtain⟨h1,h2,h3⟩:=Df hq
  exact⟨c.fr,i,_,rfl,EC.refl _,h1,h3⟩
 |none=>
  rw[hq] at h
  simp only at h
  cases hr:E6 c with
  |mk c1 o=>
  rw[hr] at h
  cases o with
  |none=>cases h
  |some i=>
   cases h
   have hi:=UF hh hf hr
   refine⟨c1.fr,i,_,rfl,?_,hi,rfl⟩
   unfold E6 at hr
   split at hr
   ·cases hr;exact EC.refl _
   ·split at hr
    ·cases hr
    ·cases hr;exact Kf _ _ _
def Aax{cur:Nat→Sec}{N:Nat}{c c':CD}{k:Nat}{b b':Sec}(h:Inv cur N c)(hg:E0 b c k=(c',some b')){s:Nat}(hs:s≠k)(hn:findF s c.fr=none):findF s c'.fr=none:=by
 obtain⟨m,i,f,e1,e2,e3,e4⟩:=VR h.fl h.hd hg;cases q:findF s c'.fr with
 |none=>rfl
 |some j=>
  obtain⟨g1,g2,g3⟩:=Df q
  simp only[CD.at,e1] at g1 g2 g3
  rw[at_set e3] at g2 g3
  by_cases hj:j=i
  ·rw[if_pos hj] at g3;exact absurd (g3.symm.trans e4) hs
  ·rw[if_neg hj] at g2 g3
   rw[(e2.2 j).1] at g2;rw[(e2.2 j).2.1] at g3
   exact absurd g3 (Gy hn (by rw[←e2.1];simpa using g1) g2)
def CJ.get{s}{c:CD}(h:CJ s c){k:Nat}(hk:k<s.syn.length)(h1:s.frm≤k)(h2:k<s.frm+s.kinds.length)(h3:2≤s.kd (k - s.frm)):
  ∃c',E0 (s.syn.getD k []) c k=(c',some (s.syn.getD k []))∧LQ c 4611686018427387904∧LQ c' 4611686018427387904∧(Dc c' k).2=0∧CJ s (Dc c' k).1:=by
 have hpb:∀{c:CD}{n:Nat},Inv (fun k=>s.syn.getD k []) s.syn.length c→(∀s,CC c s≤n)→n≤1000→LQ c 4611686018427387904:=fun hi hz hn f hf=>by
  have:=Aa2 hi hz f hf;omega
 cases hr:E0 (s.syn.getD k []) c k with
 |mk c' o=>
 cases o with
 |none=>
  obtain⟨-,g2,g3,g4⟩:=get_none (cur:=fun k=>s.syn.getD k []) h.inv hr
  exfalso
  have h0:=h.inv.n1
  have hheld:(c.at 0).held=true:=by
   cases q:(c.at 0).held with
   |true=>rfl
   |false=>have:=(h.inv.fh 0 h0).1 q;rw[g3] at this;cases this
  have e:=Tx h.inv h0 hheld
  rw[h.zer] at e
  have:=Adv.1 g4 _ (Aec h0)
  rw[show c.at 0=c.fr[0] from CZ h0] at e
  simp[←e] at this
 |some b'=>
  obtain⟨g1,rfl,g3,g4,g5,g6,g7⟩:=get_some (cur:=fun k=>s.syn.getD k []) h.inv hk hr
  obtain⟨q1,q2,q3,q4,q5,q6,q7,q8⟩:=WJ g1 (k:=k) (by rw[g3,if_pos rfl];omega)
  refine⟨c',rfl,hpb h.inv (n:=0) (fun s=>by rw[h.zer];omega) (by omega),hpb g1 (n:=1) (fun s=>by rw[g3,h.zer];split<;>omega) (by omega),q2,q1,fun s=>?_,fun t ht=>?_⟩
  ·rw[q3,g3,h.zer];split<;>omega
  ·rw[q8] at ht
   by_cases e:t=k
   ·subst e;exact⟨h1,h2,h3⟩
   ·exact h.hold t (fun z=>ht (Aax h.inv hr e z))
end Go.Gk.Pgr
namespace Go.Gk.Pgr
open Go Go.Gk Go.Gk.Dev Go.Gk.Cch
def get_put{ν}{k k':Int}{v:ν}{c:Nat}:∀{ms:List (Int×ν×Nat)},ET k' (Ha k v c ms)=if k'=k then some v else ET k' ms
 |[]=>by simp[Ha,ET]
 |p::ms=>by
  rw[Ha];by_cases e:k=p.1
  ·rw[if_pos e,ET,ET];by_cases q:k'=k
   ·rw[if_pos (q.trans e),if_pos q]
   ·rw[if_neg (fun z=>q (z.trans e.symm)),if_neg q,if_neg (fun z=>q (z.trans e.symm))]
  ·rw[if_neg e,ET,get_put,ET];by_cases q:k'=p.1
   ·rw[if_pos q,if_pos q,if_neg (fun z=>e (z.symm.trans q))]
   ·rw[if_neg q,if_neg q]
def UC{ν}{k k':Int}(h:k'≠k):∀{ms:List (Int×ν×Nat)},ET k' (Jb k ms)=ET k' ms
 |[]=>rfl
 |p::ms=>by
  rw[Jb];by_cases e:k=p.1
  ·rw[if_pos e,ET,if_neg (fun z=>h (z.trans e.symm))]
  ·rw[if_neg e,ET,UC h,ET]
def PD.AX(s:PD):PD×Int×Int:=match Db 0 s.kinds with|some i=>(s.Hy i,((s.frm+i:Nat):Int),0)|none=>(s,0,190)
def CJ.to{s s'}{c:CD}(h:CJ s c)(h1:s'.frm=s.frm)(h2:s'.syn=s.syn)(ho:Og s'.kinds s.kinds):CJ s' c:=
 ⟨by rw[h2];exact h.inv,h.zer,fun k hk=>by
  obtain⟨q1,q2,q3⟩:=h.hold k hk;rw[h1,ho.1];exact⟨q1,q2,(ho.2 _).2 q3⟩⟩
def Good.to{s s'}(h:Good s)(h1:s'.frm=s.frm)(h2:s'.syn.length=s.syn.length){i:Nat}{x:Int}(e:s'.kinds=s.kinds.set i x)(h0:0≤x)(h3:x≤3):Good s':=by
 have g:=h.kds (ks:=s'.kinds) e h0 h3;exact⟨g.one,g.len,by rw[h1,h2];exact g.inn,by rw[h2];exact g.syn,g.kd⟩
def Good.to'{s s'}(h:Good s)(h1:s'.frm=s.frm)(h2:s'.syn.length=s.syn.length)(e:s'.kinds=s.kinds):Good s':=
 ⟨by rw[e];exact h.one,by rw[e];exact h.len,by rw[h1,h2,e];exact h.inn,by rw[h2];exact h.syn,fun i=>by rw[PD.kd,e];exact h.kd i⟩
end Go.Gk.Pgr
namespace Go.Gk.Pgr
open Go Go.Gk Go.Gk.Dev Go.Gk.Cch
def Lj{k:Nat}:∀{l:List (Nat×Sec)}{s:List Sec},(∀w∈l,w.1≠k)→(synced l s).getD k []=s.getD k []
 |[],_,_=>rfl
 |w::l,s,h=>by
  have e:synced (w::l) s=synced l (s.set w.1 w.2):=by simp[synced]
  rw[e,Lj (fun w' hw=>h w' (Adp _ hw)),Adh,List.getElem?_set,if_neg (h w (Ado ..)),←Adh]
def Ke{s:PD}:∀{n:Nat}{w:Nat×Sec},w∈s.writes n→∃i,i<n∧s.kd i=1∧w=(s.frm+i,s.fb i)
 |n+1,w,h=>by
  rw[PD.writes,Adg] at h;rcases h with h|h
  ·obtain⟨i,h1,h2⟩:=Ke h;exact⟨i,by omega,h2⟩
  ·split at h
   ·rename_i e;rw[Adq] at h;exact⟨n,by omega,e,h⟩
   ·cases h
def OV{s:PD}:∀{n:Nat},(s.writes n).length≤n
 |0=>Adi _
 |n+1=>by
  have:=OV (s:=s) (n:=n);rw[PD.writes,Adj];split<;>simp<;>omega
def Inv.AbN{cur cur':Nat→Sec}{N:Nat}{c:CD}(h:Inv cur N c)(he:∀k,findF k c.fr≠none→cur' k=cur k):Inv cur' N c:=
 {h with vl:=fun i hi hh=>⟨(h.vl i hi hh).1,by rw[(h.vl i hi hh).2,he _ (by rw[h.find hi hh rfl];simp)]⟩}
def CJ.flush{s:PD}{c:CD}(h:CJ s c):CJ s.flush c:=by
 refine⟨?_,h.zer,h.hold⟩
 have hl:s.flush.syn.length=s.syn.length:=EM _ _;rw[hl];refine Inv.AbN h.inv (fun k hk=>?_);obtain⟨h1,h2,h3⟩:=h.hold k hk;refine Lj (fun w hw e=>?_);obtain⟨i,h4,h5,rfl⟩:=Ke hw;simp only at e;rw[←e,show s.frm+i - s.frm=i by omega] at h3;omega
def Good.flush{s}(h:Good s):Good s.flush:=h.to' rfl (EM _ _) rfl
def Mid(i:Nat)(l m:List Int):Prop:=m.length=l.length∧∀j,m.getD j 0=if j<i then Dg (l.getD j 0) else l.getD j 0
def Mid.zero(l:List Int):Mid 0 l l:=⟨rfl,fun j=>by rw[if_neg (by omega)]⟩
def Mid.next{i:Nat}{l m:List Int}(h:Mid i l m)(hi:i<l.length):Mid (i+1) l (m.set i (Dg (l.getD i 0))):=by
 refine⟨by simpa using h.1,fun j=>?_⟩
 rw[De (by rw[h.1];exact hi),h.2];by_cases e:j=i
 ·subst e;rw[if_pos rfl,if_pos (by omega)]
 ·rw[if_neg e];by_cases q:j<i
  ·rw[if_pos q,if_pos (by omega)]
  ·rw[if_neg q,if_neg (by omega)]
def Mid.same{i:Nat}{l m:List Int}(h:Mid i l m)(hi:i<l.length)(hs:Dg (l.getD i 0)=l.getD i 0):Mid (i+1) l m:=by
 refine⟨h.1,fun j=>?_⟩
 rw[h.2];by_cases e:j=i
 ·subst e;rw[if_neg (by omega),if_pos (by omega),hs]
 ·by_cases q:j<i
  ·rw[if_pos q,if_pos (by omega)]
  ·rw[if_neg q,if_neg (by omega)]
def YS{l m:List Int}(h:l.length=m.length)(he:∀j,l.getD j 0=m.getD j 0):l=m:=by
 refine Aht h (fun j h1 h2=>?_);have:=he j;rwa [Adh,Adh,Ade h1,Ade h2] at this
def getD_map{l:List Int}{j:Nat}:(l.map Dg).getD j 0=Dg (l.getD j 0):=by
 simp only[Adh,Afq];cases l[j]?<;>rfl
def Mid.done{i:Nat}{l m:List Int}(h:Mid i l m)(hi:l.length≤i):m=l.map Dg:=by
 refine YS (by simpa using h.1) (fun j=>?_);rw[h.2,getD_map];by_cases e:j<i
 ·rw[if_pos e]
 ·rw[if_neg e,Adh,Aes (by omega)];rfl
def CJ.gone{s}{c:CD}(h:CJ s c){i:Nat}(hi:i<s.kinds.length)(_:s.kd i=3):CJ {s with kinds:=s.kinds.set i 0} (Da c (s.frm+i)).1:=by
 have key:∀{c':CD},(∀t,findF t c'.fr≠none→t≠s.frm+i∧findF t c.fr≠none)→∀t,findF t c'.fr≠none→s.frm≤t∧t<s.frm+(s.kinds.set i 0).length∧2≤(s.kinds.set i 0).getD (t - s.frm) 0:=fun hh t ht=>by
  obtain⟨h1,h2⟩:=hh t ht;obtain⟨h3,h4,h5⟩:=h.hold t h2;refine⟨h3,by simpa using h4,?_⟩
  rw[De hi,if_neg (by omega)];exact h5
 cases hf:findF (s.frm+i) c.fr with
 |none=>
  have e:(Da c (s.frm+i)).1=c:=by unfold Da;rw[hf]
  rw[e]
  exact⟨h.inv,h.zer,key (fun t ht=>⟨fun q=>ht (by rw[q];exact hf),ht⟩)⟩
 |some j=>
  obtain⟨-,h2,h3,h4⟩:=TQ h.inv hf (h.zer _)
  exact⟨h2,fun t=>by rw[h4];exact h.zer t,key (fun t ht=>by
   rw[h3] at ht;by_cases e:t=s.frm+i
   ·rw[if_pos e] at ht;exact absurd rfl ht
   ·rw[if_neg e] at ht;exact⟨e,ht⟩)⟩
def CJ.Ac6{s}{c:CD}(h:CJ s c){i:Nat}(hi:i<s.kinds.length):CJ {s with kinds:=s.kinds.set i 2} c:=
 ⟨h.inv,h.zer,fun t ht=>by
  obtain⟨h3,h4,h5⟩:=h.hold t ht;refine⟨h3,by simpa using h4,?_⟩
  simp only[PD.kd];rw[De hi];split
  ·omega
  ·exact h5⟩
end Go.Gk.Pgr
namespace Go.Gk.Pgr
def Xo{x:Int}(h:0≤x∧x≤3):0≤Dg x∧Dg x≤3:=by
 unfold Dg;by_cases h1:x=3
 ·rw[if_pos h1];omega
 ·rw[if_neg h1];by_cases h2:x=1
  ·rw[if_pos h2];omega
  ·rw[if_neg h2];omega
end Go.Gk.Pgr
namespace Go.Gk.Pgr
open Go Go.Gk Go.Gk.Dev Go.Gk.Cch
def Pw{frm:Nat}{x:Int}:∀{l:List Int}{i:Nat},C4 frm (l++[x]) i=C4 frm l i++(if x=2 then [((frm+(i+l.length):Nat):Int)] else [])
 |[],i=>by rw[Ael,C4,C4];split<;>simp[C4]
 |y::l,i=>by
  rw[Aex,C4,Pw,C4,Adm,show i+1+l.length=i+(l.length+1) by omega];split<;>simp
def KY{frm:Nat}:∀{l:List Int}{i:Nat},(C4 frm l i).length≤l.length
 |[],_=>Adi _
 |y::l,i=>by
  rw[C4];have:=KY (frm:=frm) (l:=l) (i:=i+1);split<;>simp only[Adm]<;>omega
end Go.Gk.Pgr
namespace Go.Gk.Pgr
open Go Go.Gk Go.Gk.Dev Go.Gk.Cch
def DK(n:Nat)(l:List Nat):List Int:=l.foldl (fun ks k=>ks.set k 2) (Adx n 0)
def Vj{n k:Nat}{l:List Nat}:DK n (l++[k])=(DK n l).set k 2:=by simp[DK]
def Rt{l:List Nat}:∀{ks:List Int},(l.foldl (fun ks k=>ks.set k 2) ks).length=ks.length:=by
 induction l with
 |nil=>intro ks;rfl
 |cons x l ih=>intro ks;rw[Aia,ih,Aen]
def GF{n:Nat}{l:List Nat}:(DK n l).length=n:=by rw[DK,Rt,Aet]
def TE{l:List Nat}{j:Nat}:∀{ks:List Int},j<ks.length→(l.foldl (fun ks k=>ks.set k 2) ks).getD j 0=if j∈l then 2 else ks.getD j 0:=by
 induction l with
 |nil=>intro ks _;simp
 |cons x l ih=>
  intro ks hj
  rw[Aia,ih (by rw[Aen];exact hj)]
  by_cases h:j∈l
  ·rw[if_pos h,if_pos (Adp _ h)]
  ·rw[if_neg h]
   by_cases e:j=x
   ·subst e;rw[De hj,if_pos rfl,if_pos (Ado ..)]
   ·rw[if_neg (by simp[e,h])]
    by_cases hx:x<ks.length
    ·rw[De hx,if_neg e]
    ·rw[Agk (by omega)]
def JP{n j:Nat}{l:List Nat}:(DK n l).getD j 0=if j<n∧j∈l then 2 else 0:=by
 by_cases hj:j<n
 ·rw[DK,TE (by rw[Aet];exact hj)];by_cases h:j∈l
  ·rw[if_pos h,if_pos ⟨hj,h⟩]
  ·rw[if_neg h,if_neg (fun q=>h q.2),Adh,List.getElem?_replicate];split<;>rfl
 ·rw[if_neg (fun q=>hj q.1),Adh,Aes (by rw[GF];omega)];rfl
def Oe{k m:Nat}:findF k (Adx m fz)=none:=by
 cases h:findF k (Adx m fz) with
 |none=>rfl
 |some i=>
  obtain⟨h1,h2, -⟩:=Fo h
  rw[List.getElem_replicate] at h2
  cases h2
def CJ.new{s}{m:Nat}(h1:1≤m)(h2:m≤64):CJ s ⟨Adx m fz,Aek m,0,0,0⟩:=
 ⟨Aba _ _ m h1 h2,fun k=>by rw[CC,Oe],fun k hk=>absurd Oe hk⟩
def Good.new{frm n:Nat}{l:List Nat}{fb:Nat→Sec}{syn:List Sec}(h1:1≤n)(h2:frm+n≤syn.length)(h3:syn.length≤8192):Good ⟨frm,DK n l,fb,syn,0,0⟩:=
 ⟨by rw[GF];exact h1,by rw[GF];omega,by rw[GF];exact h2,h3,fun i=>by
  show 0≤(DK n l).getD i 0∧(DK n l).getD i 0≤3;rw[JP];split<;>decide⟩
end Go.Gk.Pgr
end
section
namespace Go.Gk.Dev
open Go Go.Gk
attribute [local irreducible] gwp gws xwp
def Ew:GW:=(.mk 24 [] (.seq (.g (rG (ol 4 1<|o1 5 (.nilc 4)<|oj 6 1 5<|ol 7 6<|oL 8 7<|ob 9 .sub 8 z1<|om 3 9 .done))) (.block 0 (.loop (.seq (.g (sR (om 10 3<|ob 11 .geq 10 z0 .done) (.cond 11 .skip (.exit 0)))) (.seq (.block 1 (.seq (.yl (om 14 0<|ol 15 1<|o1 16 (.nilc 15)<|oj 17 1 16<|ol 18 17<|om 19 3<|oI 20 257 18 19<|o1 21 (.ld (some 257) 20) .done) (some 22) 14 [21] (o1 23 (.un .not 22) .done)) (.g (.cond 23 .ret .skip)))) (.g (rG (om 12 3<|ob 13 .sub 12 z1<|om 3 13 .done)))))))))
def Wh{P f}(hd:Fx true false P f=some Ew){D:EG}{v LD}{bb l:Nat}{rc:Loop}(J:Nat→Ac→List Ac→Prop)(Jf:Loop→Ac→List Ac→Prop){d E}
  (hD:Dv d D v LD) (hb:DC d bb 0 v) (h0:J D.opn.length d E)
  (hround:∀i (hi:i<D.opn.length) d1 E1,Le d d1→J (i+1) d1 E1→JF P l [.agg (Value.int .i64 D.opn[i].1::D.opn[i].2.map AA).toArray] d1 (sg l (.loop rc)::E1)
   (fun u d' L'=>(u=.bool true∧∃E',L'=sg l (.loop rc)::E'∧J i d' E')∨(u=.bool false∧∃rc' E',L'=sg l (.loop rc')::E'∧Jf rc' d' E'))):
  Av P f [.func (.yield l) #[] #[],pZ bb] d (LD++(sg l (.loop rc)::E)) (Ret fun _ d' L'=>∃E' rc',L'=LD++(sg l (.loop rc')::E')∧((rc'=rc∧J 0 d' E')∨Jf rc' d' E')):=by
 obtain⟨b,T,vs,vo,r,hs,ho,rfl,rfl,h3,h4,h5,h6⟩:=hD
 have hlen:=h4.B3
 obtain⟨ao,co,rfl⟩:=h4.val
 refine ES hd (Ada rfl) ?_
 show xwp P _ _ _ _ _
 (apply BQ;apply x_g;apply AB;apply Ag;rfl;exact BN (by assumption);apply Au;rfl;apply Ai;rfl;apply Ag;rfl;exact Aj 0 rfl rfl;apply AK;rfl;apply C6;rfl;rfl;omega;omega;apply Ab;rfl;apply Aa;apply GD)
 refine P7 (α:=Nat) (fun i=>[(0,.func (.yield l) #[] #[]),(1,pZ bb),(3,vZ ((i:Int) - 1))])
  (fun i d' L'=>Le d d'∧i≤D.opn.length∧∃E',L'=[bx b T [vs,.slice ao D.opn.length co,vZ r,vZ 0],hs,ho]++(sg l (.loop rc)::E')∧J i d' E') (fun i=>i) D.opn.length
  ⟨rfl,rfl,rfl,trivial⟩ ⟨Le.refl d,Adi _,E,rfl,h0⟩ ?_
 rintro i ρ d1 L1 ⟨hl1,hi,E1,rfl,hJ⟩
 replace hb:=hb.mono hl1
 cases i with
 |zero=>
  (apply BQ;apply x_g;apply Af;apply AB;apply Ab;rfl;apply DV;rfl;rfl;apply Aa;refine Ar rfl (by omega) ?_;apply Bg)
  exact EY [] trivial (Adb _) ⟨E1,rc,rfl,.inl ⟨rfl,hJ⟩⟩
 |succ i=>
  obtain⟨bo,To,lo,co',cs,e1,e2,hcl,hcs,hle,hr, -⟩:=Ap.at (by omega) h4 (show i<D.opn.length from hi)
  cases e1;subst e2
  obtain⟨rfl,hbl⟩:=hr
  (apply BQ;apply x_g;apply Af;apply AB;apply Ab;rfl;apply DV;rfl;rfl;apply Aa;refine Ax rfl (by omega) ?_;apply Ak;apply BQ;apply GD;apply BQ;apply Yx;apply FQ;rfl;apply Ag;rfl;exact BN (by assumption);apply Au;rfl;apply Ai;rfl;apply Ag;rfl;exact Aj 0 rfl rfl;apply Ab;rfl)
  refine Bz i rfl rfl (by omega) hi ?_
  refine Kq _ 2 rfl rfl hcl hcs ?_
  refine FR ⟨d1,(sg l (.loop rc)::E1)++[bx b T [vs,.slice (some ⟨bo,0,none⟩) D.opn.length co,vZ r,vZ 0],hs,bx bo To lo],Vs.perm Adl,?_⟩
  refine P6 _ _ rfl rfl rfl (hround i hi d1 E1 hl1 hJ) (fun u d2 L2 hl2 hr2=>?_)
  rcases hr2 with ⟨rfl,E2,rfl,hJ2⟩|⟨rfl,rc2,E2,rfl,hJ2⟩
  ·refine B9 d2 ([bx b T [vs,.slice (some ⟨bo,0,none⟩) D.opn.length co,vZ r,vZ 0],hs,bx bo To lo]++(sg l (.loop rc)::E2)) (Vs.perm Adl) ?_
   (refine Bx rfl<|Aa ?_;apply x_g;refine AS rfl<|Ak ?_;apply x_g;refine AB<|Ab rfl<|C6 rfl rfl (by omega) (by omega)<|Ab rfl<|Aa ?_)
   exact⟨i,by omega,⟨rfl,rfl,int_eq (by omega),trivial⟩,hl1.trans hl2,by omega,E2,rfl,hJ2⟩
  ·refine B9 d2 ([bx b T [vs,.slice (some ⟨bo,0,none⟩) D.opn.length co,vZ r,vZ 0],hs,bx bo To lo]++(sg l (.loop rc2)::E2)) (Vs.perm Adl) ?_
   (refine Bx rfl<|Aa ?_;apply x_g;refine Bj rfl<|An ?_)
   exact EY [] trivial (Adb _) ⟨E2,rc2,rfl,.inr hJ2⟩
def EZ(a0:Nat):A5:=⟨4,[(.tmp 2)],(sR (o1 1 (.box 0)<|o1 2 (.mv (.const .nilFunc)) .done) (sR (o1 3 (.mkf (.func a0) [] [1])<|om 2 3 .done) .ret))⟩
def WW{P f f1}(hd:dec P f=some (EZ f1)){d}{b:Nat}:Av P f [pZ b] d [] (Ret fun r d' L'=>∃bb,r=.func (.func f1) #[] #[pZ bb]∧DC d' bb 0 (pZ b)∧L'=[]):=by
 refine AF hd (Ada rfl) ?_;show gwp P _ _ _ _ _;(refine Ad ?_);refine FB rfl (fun bb T=>?_);(refine AJ<|Aa<|Ad<|O5<|FQ rfl<|Aa<|An ?_);refine Acs rfl (fun d' _ hk=>⟨bb,rfl,?_,rfl⟩);exact(Aci (hk _ (Ado ..))).at (i:=0) rfl
def TB(P:Program)(f:FuncId):Prop:=∃f1,dec P f=some (EZ f1)∧Fx true false P f1=some Ew
def Aaq{P f f1}(hd:dec P f=some (EZ f1))(h:Fx true false P f1=some Ew):TB P f:=⟨f1,hd,h⟩
def PO(P:Program)(f:FuncId):Prop:=∀{d}{D:EG}{v L}{k:Nat},Dv d D v L→k<D.syn.length→
 Av P f [v,vZ k] d L (Ret fun r d' L'=>∃u,r=.tuple #[u,vZ 0]∧AM d' u (D.cur k)∧Dv d' D v L')
def Vn{k:Nat}{l:List (Nat×Sec)}{i:Nat}(hi:i<l.length):FU k (l.drop i)=match FU k (l.drop (i+1)) with|some b=>some b|none=>if l[i].1=k then some l[i].2 else none:=by
 rw[Aei hi];rfl
def Rj{k:Nat}{b:Sec}:∀{l:List (Nat×Sec)},FU k l=some b→∃w∈l,w.2=b
 |w::l,h=>by
  rw[FU] at h;cases hw:FU k l with
  |some q=>rw[hw] at h;cases h;obtain⟨x,hx,e⟩:=Rj hw;exact⟨x,Adp _ hx,e⟩
  |none=>
   rw[hw] at h
   simp only at h
   split at h
   ·cases h;exact⟨w,Ado ..,rfl⟩
   ·cases h
def KA{k:Nat}{b:Sec}:∀{l:List (Nat×Sec)}{i:Nat},FU k (l.drop i)=some b→FU k l=some b
 |_,0,h=>h
 |[],i+1,h=>h
 |w::l,i+1,h=>by
  rw[List.drop_succ_cons] at h;rw[FU,KA h]
def Kg(a0 a1:Nat):GW:=(.mk 41 [(.tmp 4),(.tmp 5)] (.seq (.g (rG (o1 3 (.box 1)<|o1 4 (.mv nS)<|o1 5 (.mv z0) .done))) (.seq (.g (sR (om 9 0<|ol 10 3<|oc 11 a0 [9,10,(kZ 256)]<|om 6 11 .done) (sR (om 12 6<|ob 13 .neq 12 z0 .done) (.cond 13 (sR (om 14 6<|o1 4 (.mv nS)<|om 5 14 .done) .ret) .skip)))) (.seq (.g (rG (om 15 0<|o1 16 (.nilc 15)<|oj 17 2 16<|ol 18 17<|ob 19 .add 18 z1<|o1 20 (.nilc 15)<|oj 21 2 20<|o0 (.st 1 21 19) .done))) (.seq (.g (.reg true (pm 22 0<|p1 23 (.nilc 22)<|p1 24 (.fld 0 23)<|pl 25 24<|pl 26 3<|p1 27 (.idx 256 25 26)<|p1 28 (.ld (some 256) 27)<|o1 7 (.alo (.agg C0.toArray)) (.bar (o0 (.st 256 7 28) .done))))) (.seq (.seq (.g (rG (om 29 0<|oc 30 a1 [29] .done))) (.block 0 (.rf 30 [31] (rG (o1 8 (.alo (.agg (Value.int .i64 0::C0).toArray))<|o0 (.st 257 8 31) .done)) (.block 1 (sR (oj 32 0 8<|ol 33 32<|ol 34 3<|ob 35 .eql 33 34 .done) (.cond 35 (sR (oj 36 1 8<|o1 37 (.ld (some 256) 36)<|o0 (.st 256 7 37) .done) (.exit 0)) .skip)))))) (.g (sR (o1 38 (.bsl 0 1 [(.int .u8 0)] [])<|o1 39 (.sla 256 1 7 none none none)<|o1 40 (.app 1 1 [(.int .u8 0)] 38 39)<|om 4 40<|o1 5 (.mv z0) .done) .ret))))))))
def Yd{P f f1 f2}(hd:Fx false false P f=some (Kg f1 f2))(h1:IC P f1)(h2:TB P f2):PO P f:=by
 obtain⟨f3,h2,h3⟩:=h2;intro d D v L k h hk;have h0:=h;obtain⟨b,T,vs,vo,r,hs,ho,rfl,rfl,g3,g4,g5,g6⟩:=h;obtain⟨bs,Ts,ls,cs',us,rfl,rfl,hul,hus,hsle,hrs, -⟩:=Ap.at (by omega) g3 hk;obtain⟨rfl,hsl⟩:=hrs;refine ES hd (Ada rfl) ?_;show xwp P _ _ _ _ _;(apply BQ;apply x_g;apply AB);refine FB rfl (fun kb Tk=>?_);(refine Al rfl<|Ab rfl<|Aa ?_;apply BQ;apply x_g;refine Ad<|Am rfl<|Ag rfl (Aj 0 rfl rfl) ?_);refine B9 d ([bx b T [.slice (some ⟨bs,0,none⟩) D.syn.length cs',vo,vZ r,vZ 0],bx bs Ts ls,ho]++[bx kb Tk [vZ k]]) (Vs.pick [1,2,3,0] rfl) ?_;refine CS (A:=[_,_,_]) (B:=[_]) rfl rfl (h1 (n:=256) h0 hk rfl) ?_;(refine Ab rfl<|Aa<|Ad<|Ab rfl<|AN rfl rfl<|Aa<|Ar rfl (by omega)<|Ak ?_;apply BQ;apply x_g;refine AB<|Am rfl<|Au rfl<|Ai rfl<|Ag rfl (Aj 0 rfl rfl) ?_);refine Abu rfl rfl (fun r2 _=>?_);(refine Au rfl<|Ai rfl ?_);refine A6 0 [.slice (some ⟨bs,0,none⟩) D.syn.length cs',vo,vZ r2,vZ 0] rfl rfl rfl rfl (Ada rfl) rfl rfl ?_;have hD:Dv d D (pZ b) [bx b T [.slice (some ⟨bs,0,none⟩) D.syn.length cs',vo,vZ r2,vZ 0],bx bs Ts ls,ho]:=⟨b,T,_,vo,r2,_,ho,rfl,rfl,g3,g4,g5,g6⟩
 (apply Aa;apply BQ;apply x_g;refine Bu<|Am rfl<|Au rfl<|Ai rfl<|Ag rfl (Aj 0 rfl rfl)<|Ag rfl (Aj 3 rfl rfl)<|Bz _ rfl rfl rfl (by omega) ?_);refine Kq _ 1 rfl rfl hul hus ?_;(refine B0 (fun _ _=>Ch ?_));rename_i ob Tob;refine JU 4 rfl rfl rfl hul Dr (CM _) ?_;(apply Aa);refine Acl (fun ρ d2 L2=>Le d d2∧BI ρ [(7,pZ ob)]∧L2=[bx b T [.slice (some ⟨bs,0,none⟩) D.syn.length cs',vo,vZ r2,vZ 0],bx bs Ts ls,ho,bx kb Tk [vZ k],bx ob Tob ((D.cur k).map AA)]) ?_ ?_
 ·(apply BQ;apply x_g;apply AB;apply Am;rfl);refine DN (A:=[]) rfl rfl (WW h2) (fun u d2 L2 hl2 ⟨bb,e1,e2,e3⟩=>?_);subst e1;subst e3;(apply Aa;apply GD);refine AbE rfl (fun l rc hrec hst hpd=>?_);refine Av.reorder (L1:=[bx b T [.slice (some ⟨bs,0,none⟩) D.syn.length cs',vo,vZ r2,vZ 0],bx bs Ts ls,ho]++(sg l (.loop rc)::[bx kb Tk [vZ k],bx ob Tob (D.syn[k].map AA)])) ?_ (Av.DL
   (Wh h3 (rc:=rc) (l:=l) (fun i d3 E=>E=[bx kb Tk [vZ k],bx ob Tob (D.syn[k].map AA)]∧FU k (D.opn.drop i)=none)
    (fun rc' d3 E=>rc'={rc with state:=.done,pending:=some (.exit 0)}∧E=[bx kb Tk [vZ k],bx ob Tob ((D.cur k).map AA)]) (hD.mono hl2) e2 ⟨rfl,by rw[Agj];rfl⟩ ?_) ?_)
  ·exact(Adl (l₁:=[_,_,_]) (l₂:=[_])).append_right [_,_]|>.symm
  ·rintro i hi d3 E3 hl3 ⟨rfl,hno⟩;refine K4 hrec hst rfl ?_;have hbl:D.opn[i].2.length=256:=by
    obtain⟨bo,To,lo,co',cs,e1,e2,hcl,hcs,hle,hr, -⟩:=Ap.at (by omega) g4 hi;exact hr.2
   have hno':=Vn (k:=k) hi;rw[hno] at hno';by_cases e:D.opn[i].1=k
   ·(refine AB<|B0 (fun _ _=>?_));refine JU 0 rfl rfl rfl (by rw[Adm,Aey,hbl]) (by rw[Adm,Dr]) (by rw[Ain,CM];rfl) ?_;(refine Aa<|Ay<|Ad<|Ai rfl<|Ag rfl (Aj 0 rfl rfl)<|Ag rfl (Aj 1 rfl rfl)<|AO rfl rfl<|Aa<|Ax rfl (by omega)<|Ad<|Ai rfl ?_);refine Kq (D.opn[i].2.map AA) 0 rfl rfl (by rw[Aey];exact hbl) (fun j u hu=>by rw[Nat.add_comm];simpa using hu) ?_;skip;refine JU 2 rfl rfl rfl (by rw[Aey];exact hbl) (by rw[Aey];exact hsl) (CM _) ?_;refine FR ⟨_,[_,_],Vs.drop (Aef _ _),?_⟩;(apply Bg);refine Or.inr ⟨rfl,_,_,rfl,rfl,?_⟩;rw[if_pos e] at hno';rw[EG.cur,KA hno',Ago]
   ·(refine AB<|B0 (fun _ _=>?_));refine JU 0 rfl rfl rfl (by rw[Adm,Aey,hbl]) (by rw[Adm,Dr]) (by rw[Ain,CM];rfl) ?_;(refine Aa<|Ay<|Ad<|Ai rfl<|Ag rfl (Aj 0 rfl rfl)<|Ag rfl (Aj 1 rfl rfl) ?_);refine B9 d3 [_,_] (Vs.drop (Aef _ _)) ?_;(refine AO rfl rfl<|Aa<|Ar rfl (by omega)<|Ak ?_);rw[if_neg e] at hno';exact Or.inl ⟨rfl,_,by rw[UO hst hpd],rfl,hno'⟩
  ·rintro u d3 L3 hl3 ⟨E',rc',rfl,h⟩;refine⟨d3,sg l (.loop rc')::([bx b T [.slice (some ⟨bs,0,none⟩) D.syn.length cs',vo,vZ r2,vZ 0],bx bs Ts ls,ho]++E'),Vs.perm ((Adl (l₁:=[_,_,_]) (l₂:=[_])).append_right E'|>fun p=>by simpa using p),rc',_,rfl,?_⟩
   rcases h with ⟨rfl,rfl,h⟩|⟨rfl,rfl⟩
   ·refine⟨(by rw[hst];intro q;cases q),?_⟩
    rw[hpd];refine⟨hl2.trans hl3,⟨rfl,trivial⟩,?_⟩
    rw[EG.cur,show FU k D.opn=none from h,Option.getD_none,Adh,Ade hk];rfl
   ·refine⟨(fun q=>by cases q),?_⟩
    exact⟨hl2.trans hl3,⟨rfl,trivial⟩,rfl⟩
 ·rintro ρ d2 L2 ⟨hl2,hs2,rfl⟩;refine PZ _ hs2 ?_;have hcl:(D.cur k).length=256:=by
   unfold EG.cur;cases hw:FU k D.opn with
   |none=>rw[Option.getD_none,Adh,Ade hk];exact hsl
   |some q=>
    obtain⟨w,hm,e⟩:=Rj hw
    obtain⟨i,hi,rfl⟩:=Aez hm
    obtain⟨bo,To,lo,co',cs,e1,e2,hcl,hcs,hle,hr, -⟩:=Ap.at (by omega) g4 hi
    rw[Ago,←e];exact hr.2
  (apply x_g;apply Af;apply AB);refine DE (cs:=[]) (by simp) (by simp[Instr.fill,Bq]) (fun b3 T3=>?_);refine w_q (v:=.slice (some ⟨ob,0,none⟩) 256 256) rfl ⟨ob,0,0,256,256,rfl,rfl,rfl⟩ ?_;refine EL (R:=AP) 0 rfl rfl (Ap.KZ (R:=AP) (sz:=1)) rfl (Src.lit (ys:=D.cur k) 5 rfl hcl.symm (by simp) (CM _) (fun i hi=>?_)) (by omega) (by simp;omega) (by simp;omega) (fun v' h' ho'=>?_)
  ·simp only[AP,chunk,Afn,←Aio,←Aip];rw[Aei hi];rfl
  rw[Ael] at ho';(refine AJ<|Ab rfl<|Aa<|An ?_);refine Bd [v',vZ 0] ⟨rfl,rfl,trivial⟩ (d':=join d2 h') (L':=[bx b T [.slice (some ⟨bs,0,none⟩) D.syn.length cs',vo,vZ r2,vZ 0],bx bs Ts ls,ho]) ?_ ⟨v',rfl,?_,?_⟩
  ·exact Vs.freeze.trans (Vs.drop (Ahl [_,_,_] [_,_]))
  ·exact Ap.rsl (R:=AP) ho' A3 (by omega) (Le.AG _ _) (Le.Ba _ _)
  ·exact(hD.mono hl2).mono (Le.AG _ _)
end Go.Gk.Dev
end
section
namespace Go.Gk.Cch
open Go Go.Gk Go.Gk.Dev
attribute [local irreducible] gwp gws xwp
variable{f f1:FuncId}{P:Program}
section
def RFr(d:Ac)(cs:List Value)(f:Fr):Prop:=∃a n c,cs=[.bool f.held,vZ f.sec,vZ f.pins,.bool f.late,.slice a n c]∧AM d (.slice a n c) f.b
def MV:Gp RFr:=fun hl ⟨a,n,c,h1,h2⟩=>⟨a,n,c,h1,h2.mono hl⟩
def wr(n:Nat):Int:=IntKind.i64.wrap (n:Int)
def AaB(n:Nat):IntKind.i64.wrap (wr n+1)=wr (n+1):=by
 simp[wr,IntKind.wrap,IntKind.signed,IntKind.bits];omega
section
variable {P:Program}{pan:List PanicEntry→AR}{Qn:Env→AR}{Ls L:List Ac}{ρ:Env}{d:Ac}{s:GS}{t:Nat}{tk:Bool}
def Ln{x y}{n:Nat}(ex:ev ρ x=vZ (wr n))(ey:ev ρ y=vZ 1)(h:gws P pan Qn s Ls (upd ρ t (vZ (wr (n+1)))) d L):
  gws P pan Qn (.op tk ⟨some t,none,.bin .add x y⟩ s) Ls ρ d L:=Dl (by rw[ex,ey];simp[C7,AaB]) h
end
def Ca(d:Ac)(c:CD)(dv cv:Value)(L:List Ac):Prop:=
 ∃b T bf cp cb hf s r bd,cv=pZ b∧dv=pZ bd∧
  L=[bx b T [dv,.slice (some ⟨bf,0,none⟩) c.fr.length cp,.chan (some cb),vZ c.hand,vZ (wr c.hits),vZ (wr c.miss)],hf,sg cb (.chan c.fr.length (c.free.map fun i:Nat=>Value.int .i64 i).toArray false s r false)]∧
  Ap 5 RFr d (.slice (some ⟨bf,0,none⟩) c.fr.length cp) c.fr hf∧1≤c.fr.length∧c.fr.length≤64∧c.hand<c.fr.length∧∀i∈c.free,i<c.fr.length
def Ca.mono{d d'}{c:CD}{dv cv L}(h:Ca d c dv cv L)(hl:Le d d'):Ca d' c dv cv L:=
 let ⟨b,T,bf,cp,cb,hf,s,r,bd,h1,h2,h3,h4,h5⟩:=h
 ⟨b,T,bf,cp,cb,hf,s,r,bd,h1,h2,h3,Ap.mono (R:=RFr) MV h4 hl,h5⟩
def Ca.mk{d}{c:CD}{b bf cp cb s r bd n:Nat}{T hf}(hn:c.fr.length=n)(hg:Ap 5 RFr d (.slice (some ⟨bf,0,none⟩) n cp) c.fr hf)(h1:1≤n)(h2:n≤64)(h3:c.hand<n)(h4:∀i∈c.free,i<n):
  Ca d c (pZ bd) (pZ b) [bx b T [pZ bd,.slice (some ⟨bf,0,none⟩) n cp,.chan (some cb),vZ c.hand,vZ (wr c.hits),vZ (wr c.miss)],hf,
   sg cb (.chan n (c.free.map fun i:Nat=>Value.int .i64 i).toArray false s r false)]:=by
 subst hn
 exact⟨b,T,bf,cp,cb,hf,s,r,bd,rfl,rfl,rfl,hg,h1,h2,h3,h4⟩
def H2(P:Program)(f:FuncId):Prop:=∀{d}{b bd:Nat}{T l},CV P f [pZ b] d [bx b T (.pointer (some ⟨bd,0,none⟩)::l)] (.bool false)
def Mm:A5:=⟨12,[(.tmp 2)],(sR (o1 2 (.mv (.const (.bool false))) .done) (sR (om 3 0<|o1 4 (.eqp false 3 (.const (.pointer none)))<|om 5 4<|gF 6 5 0<|oF 7 5 (.nilc 6)<|oF 8 5 (.fld 0 7)<|oF 9 5 (.ld none 8)<|oF 10 5 (.eqp false 9 (.const (.pointer none)))<|o1 11 (.pick 5 (.const (.bool true)) 10)<|om 2 11 .done) .ret))⟩
def Zr{P}(hd:dec P f=some Mm):H2 P f:=by
 intro d b bd T l;refine AF hd (Ada rfl) ?_;show gwp P _ _ _ _ _;(refine Ad<|Ae rfl<|Aa<|Ad<|Am rfl<|Dk rfl rfl<|Ae rfl<|Ah rfl<|Am rfl<|Ah rfl<|Au rfl<|Ah rfl<|Ai rfl<|Ah rfl<|Ag rfl (Aj 0 rfl rfl)<|Ah rfl<|Dk rfl rfl<|Aw rfl rfl<|Ae rfl<|Aa<|An ?_);exact JY rfl (Adb _)
def JL(P:Program)(f:FuncId):Prop:=∀{d}{b bf cp:Nat}{T x0 x1 x2 x3 x4 hf}{fs:List Fr}{k:Nat},Ap 5 RFr d (.slice (some ⟨bf,0,none⟩) fs.length cp) fs hf→
 CV P f [pZ b,vZ k] d [bx b T [x0,.slice (some ⟨bf,0,none⟩) fs.length cp,x1,x2,x3,x4],hf]
  (match findF k fs with|some i=>.tuple #[.pointer (some ⟨bf,i*5,none⟩),vZ i]|none=>.tuple #[.pointer none,vZ 0])
def LR:A5:=⟨43,[(.tmp 4),(.tmp 5)],(sR (o1 4 (.mv (.const (.pointer none)))<|o1 5 (.mv z0) .done) (.seq (sR (om 7 0<|o1 8 (.nilc 7)<|oj 9 1 8<|ol 10 9<|oL 11 10<|o1 12 (.mv z0) .done) (.block 0 (.loop (sR (ob 13 .lss 12 11 .done) (.seq (.cond 13 .skip (.exit 0)) (.seq (.block 1 (sR (om 14 12<|om 6 14 .done) (sR (om 15 0<|o1 16 (.nilc 15)<|oj 17 1 16<|ol 18 17<|om 19 6<|oI 20 5 18 19<|oj 21 0 20<|ol 22 21<|om 23 22<|gT 24 23 0<|oT 25 23 (.nilc 24)<|oT 26 23 (.fld 1 25)<|oT 27 23 (.ld none 26)<|gT 28 23 6<|oT 29 23 (.idx 5 27 28)<|oT 30 23 (.fld 1 29)<|oT 31 23 (.ld none 30)<|gT 32 23 1<|oT 33 23 (.bin .eql 31 32)<|gP 34 23 33 .done) (.cond 34 (sR (om 35 0<|o1 36 (.nilc 35)<|oj 37 1 36<|ol 38 37<|om 39 6<|oI 40 5 38 39<|om 41 6<|om 4 40<|om 5 41 .done) .ret) .skip)))) (rG (ob 42 .add 12 z1<|om 12 42 .done)))))))) (sR (o1 4 (.mv (.const (.pointer none)))<|o1 5 (.mv z0) .done) .ret)))⟩
def Zb{P}(hd:dec P f=some LR):JL P f:=by
 intro d b bf cp T x0 x1 x2 x3 x4 hf fs k h;have hlen:=h.B3;refine AF hd (Ada rfl) ?_;show gwp P _ _ _ _ _;(refine Ad<|Am rfl<|Ab rfl<|Aa<|Af<|Ad<|Am rfl<|Au rfl<|Ai rfl<|Ag rfl (Aj 0 rfl rfl)<|AK rfl<|Ab rfl<|Aa<|Ay ?_);refine C8 (α:=Nat) (fun i=>[(0,pZ b),(1,vZ k),(11,vZ fs.length),(12,vZ i)]) (fun _=>[bx b T [x0,.slice (some ⟨bf,0,none⟩) fs.length cp,x1,x2,x3,x4],hf])
  (fun i=>i≤fs.length∧findF k fs=(findF k (fs.drop i)).map (·+i)) (fun i=>fs.length - i) 0 ⟨rfl,rfl,rfl,rfl,trivial⟩ rfl ⟨by omega,by simp⟩ ?_
 rintro i ρ ⟨hi,hF⟩;by_cases e:i<fs.length
 ·obtain⟨b1,T1,l1,c1,cs,q1,rfl,hcl,hcs,hle,⟨a,n,c,rfl,hb⟩, -⟩:=Ap.at (by omega) h e;cases q1;have c0:=hcs 0 _ rfl;have c1:=hcs 1 _ rfl;rw[Vy e] at hF;have hnext:¬(fs[i].held=true∧fs[i].sec=k)→findF k fs=(findF k (fs.drop (i+1))).map (·+(i+1)):=fun q=>by
   rw[hF,if_neg q,Option.map_map];congr 1;funext x;simp only[Function.comp];omega
  cases hh:fs[i].held with
  |false=>
   rw[hh] at c0
   (refine Ad<|AE rfl rfl<|Aa<|Af<|Ax rfl (by omega)<|Ak<|Af<|Ay<|Ad<|Ab rfl<|Ab rfl<|Aa<|Ad<|Am rfl<|Au rfl<|Ai rfl<|Ag rfl (Aj 0 rfl rfl)<|Ab rfl<|Bz _ rfl rfl rfl (by omega)<|Ai rfl<|Ag rfl (Aj 1 rfl (by assumption))<|Ae rfl<|Aq rfl<|Aq rfl<|Aq rfl<|Aq rfl<|Aq rfl<|Aq rfl<|Aq rfl<|Aq rfl<|Aq rfl<|Aq rfl<|Aw rfl rfl<|Aa<|AS rfl<|Ak<|AB<|AL rfl rfl (by omega) (by omega)<|Ab rfl<|Aa ?_)
   exact⟨i+1,by omega,⟨rfl,rfl,rfl,rfl,trivial⟩,rfl,rfl,e,hnext (by rw[hh];rintro⟨q,_⟩;cases q)⟩
  |true=>
   rw[hh] at c0
   by_cases hs:fs[i].sec=k
   ·(refine Ad<|AE rfl rfl<|Aa<|Af<|Ax rfl (by omega)<|Ak<|Af<|Ay<|Ad<|Ab rfl<|Ab rfl<|Aa<|Ad<|Am rfl<|Au rfl<|Ai rfl<|Ag rfl (Aj 0 rfl rfl)<|Ab rfl<|Bz _ rfl rfl rfl (by omega)<|Ai rfl<|Ag rfl (Aj 1 rfl (by assumption))<|Ae rfl<|Ah rfl<|Am rfl<|Ah rfl<|Au rfl<|Ah rfl<|Ai rfl<|Ah rfl<|Ag rfl (Aj 0 rfl rfl)<|Ah rfl<|Ab rfl<|Ah rfl<|Bz _ rfl rfl rfl (by omega)<|Ah rfl<|Ai rfl<|Ah rfl<|Ag rfl (Aj 1 rfl (by assumption))<|Ah rfl<|Ab rfl<|Ah rfl<|AO rfl rfl<|AI rfl rfl<|Aa<|Ax rfl (by omega)<|Ad<|Am rfl<|Au rfl<|Ai rfl<|Ag rfl (Aj 0 rfl rfl)<|Ab rfl<|Bz _ rfl rfl rfl (by omega)<|Ab rfl<|Am rfl<|Ab rfl<|Aa<|An ?_)
    rw[show findF k fs=some i by rw[hF,if_pos ⟨hh,hs⟩,Aga,Afj]]
    exact Aaj rfl rfl (Adb _)
   ·(refine Ad<|AE rfl rfl<|Aa<|Af<|Ax rfl (by omega)<|Ak<|Af<|Ay<|Ad<|Ab rfl<|Ab rfl<|Aa<|Ad<|Am rfl<|Au rfl<|Ai rfl<|Ag rfl (Aj 0 rfl rfl)<|Ab rfl<|Bz _ rfl rfl rfl (by omega)<|Ai rfl<|Ag rfl (Aj 1 rfl (by assumption))<|Ae rfl<|Ah rfl<|Am rfl<|Ah rfl<|Au rfl<|Ah rfl<|Ai rfl<|Ah rfl<|Ag rfl (Aj 0 rfl rfl)<|Ah rfl<|Ab rfl<|Ah rfl<|Bz _ rfl rfl rfl (by omega)<|Ah rfl<|Ai rfl<|Ah rfl<|Ag rfl (Aj 1 rfl (by assumption))<|Ah rfl<|Ab rfl<|Ah rfl<|AO rfl rfl<|AI rfl rfl<|Aa<|Ar rfl (by omega)<|Ak<|AB<|AL rfl rfl (by omega) (by omega)<|Ab rfl<|Aa ?_)
    exact⟨i+1,by omega,⟨rfl,rfl,rfl,rfl,trivial⟩,rfl,rfl,e,hnext (by rintro⟨_,q⟩;exact hs q)⟩
 ·(refine Ad<|AE rfl rfl<|Aa<|Af<|Ar rfl (by omega)<|Bg<|Ad<|Am rfl<|Ab rfl<|Aa<|An ?_);have:findF k fs=none:=by
   rw[hF,Agc (by omega)];rfl
  rw[this];exact Aaj rfl rfl (Adb _)
def Lz(P:Program)(f:FuncId):Prop:=∀{d}{b bf cp:Nat}{T x0 x1 x2 x3 x4 hf}{fs:List Fr},Ap 5 RFr d (.slice (some ⟨bf,0,none⟩) fs.length cp) fs hf→
 CV P f [pZ b] d [bx b T [x0,.slice (some ⟨bf,0,none⟩) fs.length cp,x1,x2,x3,x4],hf] (.bool (Cn fs))
def SF{fs:List Fr}{i:Nat}(hi:i<fs.length)(h:fs[i].pins=0):Cn fs=false:=by
 unfold Cn;rw[List.all_eq_false];exact⟨_,Aec hi,by simp[h]⟩
def Kt:A5:=⟨18,[(.tmp 2)],(sR (o1 2 (.mv (.const (.bool false))) .done) (.seq (sR (om 5 0<|o1 6 (.nilc 5)<|oj 7 1 6<|ol 8 7<|oL 9 8<|o1 10 (.mv z0) .done) (.block 0 (.loop (sR (ob 11 .lss 10 9 .done) (.seq (.cond 11 .skip (.exit 0)) (.seq (.block 1 (sR (oI 12 5 8 10<|o1 13 (.ld (some 5) 12)<|o1 4 (.alo (.agg #[(.bool false),(vZ 0),(vZ 0),(.bool false),(.slice none 0 0)]))<|o0 (.st 5 4 13) .done) (sR (oj 14 2 4<|ol 15 14<|ob 16 .eql 15 z0 .done) (.cond 16 (sR (o1 2 (.mv (.const (.bool false))) .done) .ret) .skip)))) (rG (ob 17 .add 10 z1<|om 10 17 .done)))))))) (sR (o1 2 (.mv (.const (.bool true))) .done) .ret)))⟩
def Wa{P}(hd:dec P f=some Kt):Lz P f:=by
 intro d b bf cp T x0 x1 x2 x3 x4 hf fs h;have hlen:=h.B3;refine AF hd (Ada rfl) ?_;show gwp P _ _ _ _ _;(refine Ad<|Ae rfl<|Aa<|Af<|Ad<|Am rfl<|Au rfl<|Ai rfl<|Ag rfl (Aj 0 rfl rfl)<|AK rfl<|Ab rfl<|Aa<|Ay ?_);refine C8 (α:=Nat) (fun i=>[(8,.slice (some ⟨bf,0,none⟩) fs.length cp),(9,vZ fs.length),(10,vZ i)]) (fun _=>[bx b T [x0,.slice (some ⟨bf,0,none⟩) fs.length cp,x1,x2,x3,x4],hf])
  (fun i=>i≤fs.length∧Cn (fs.take i)=true) (fun i=>fs.length - i) 0 ⟨rfl,rfl,rfl,trivial⟩ rfl ⟨by omega,by simp[Cn]⟩ ?_
 rintro i ρ ⟨hi,hF⟩;by_cases e:i<fs.length
 ·obtain⟨b1,T1,l1,c1,cs,q1,rfl,hcl,hcs,hle,⟨a,n,c,rfl,hb⟩, -⟩:=Ap.at (by omega) h e;cases q1;(refine Ad<|AE rfl rfl<|Aa<|Af<|Ax rfl (by omega)<|Ak<|Af<|Ay<|Ad<|Bz _ rfl rfl rfl (by omega) ?_);refine Kq _ 1 rfl rfl hcl hcs ?_;(apply B0;intro _ _);refine JU 0 rfl rfl rfl rfl rfl rfl ?_;by_cases hp:fs[i].pins=0
  ·(refine Aa<|Ad<|Ai rfl<|Ag rfl (Aj 0 rfl rfl)<|AO rfl rfl<|Aa<|Ax rfl (by omega)<|Ad<|Ae rfl<|Aa<|An ?_);refine BO rfl (L':=[_,_]) (Aef _ _) ⟨?_,rfl,rfl⟩;rw[SF e hp];rfl
  ·(refine Aa<|Ad<|Ai rfl<|Ag rfl (Aj 0 rfl rfl) ?_);refine B9 d [_,_] (Vs.drop (Aef _ _)) ?_;(refine AO rfl rfl<|Aa<|Ar rfl (by omega)<|Ak<|AB<|AL rfl rfl (by omega) (by omega)<|Ab rfl<|Aa ?_);refine⟨i+1,by omega,⟨rfl,rfl,rfl,trivial⟩,rfl,rfl,e,?_⟩
   rw[Aea e];unfold Cn at hF⊢;rw[List.all_append,hF];simp[hp]
 ·(refine Ad<|AE rfl rfl<|Aa<|Af<|Ar rfl (by omega)<|Bg<|Ad<|Ae rfl<|Aa<|An ?_);rw[Afh (by omega)] at hF;rw[hF];exact JY rfl (Adb _)
def Oj(P:Program)(f:FuncId):Prop:=∀{d}{c:CD}{dv cv L},Ca d c dv cv L→(∀f∈c.fr,f.pins≤4611686018427387904)→
 Av P f [cv] d L (Ret fun r d' L'=>d'=d∧(Cn c.fr=true→r=.tuple #[vZ 0,.bool false]∧L'=L)∧
  (Cn c.fr=false→r=.tuple #[vZ (Cs (Dm c.fr c.hand+1) c.fr c.hand).2.2,.bool true]∧Ca d {c with fr:=(Cs (Dm c.fr c.hand+1) c.fr c.hand).1,hand:=(Cs (Dm c.fr c.hand+1) c.fr c.hand).2.1} dv cv L'))
def IK{l:List Fr}{h:Nat}(hh:h<l.length):l.getD h fz=l[h]:=by rw[Adh,Ade hh];rfl
def KH(a0:Nat):A5:=⟨47,[(.tmp 2),(.tmp 3)],(sR (o1 2 (.mv z0)<|o1 3 (.mv (.const (.bool false))) .done) (.seq (sR (om 6 0<|oc 7 a0 [6] .done) (.cond 7 (sR (o1 2 (.mv z0)<|o1 3 (.mv (.const (.bool false))) .done) .ret) .skip)) (.block 0 (.loop (.block 1 (sR (om 8 0<|o1 9 (.nilc 8)<|oj 10 3 9<|ol 11 10<|om 4 11 .done) (.seq (.reg true (pm 12 0<|pm 13 0<|p1 14 (.nilc 13)<|p1 15 (.fld 3 14)<|pm 18 0<|p1 19 (.nilc 18)<|p1 20 (.fld 1 19) (.alt ⟨(some 16),none,(.ld none 15)⟩ (p1 17 (.bin .add 16 z1) (ol 21 20 (p1 22 (.len 21) (p1 23 (.bin .rem 17 22) (p1 24 (.nilc 12) (p1 25 (.fld 3 24) (o0 (.st 1 25 23) .done))))))) (ol 21 20 (p1 22 (.len 21) (ol 16 15 (p1 17 (.bin .add 16 z1) (p1 23 (.bin .rem 17 22) (p1 24 (.nilc 12) (p1 25 (.fld 3 24) (o0 (.st 1 25 23) .done))))))))))) (sR (om 26 0<|o1 27 (.nilc 26)<|oj 28 1 27<|ol 29 28<|om 30 4<|oI 31 5 29 30<|om 5 31 .done) (.block 2 (sR (om 34 5<|o1 35 (.nilc 34)<|oj 36 2 35<|ol 37 36<|ob 38 .gtr 37 z0<|om 33 38 .done) (.cond 33 .skip (sR (om 40 5<|o1 41 (.nilc 40)<|oj 42 3 41<|ol 43 42<|om 39 43 .done) (.cond 39 (rG (om 44 5<|o1 45 (.nilc 44)<|oj 46 3 45<|o0 (.st 1 46 (.const (.bool false))) .done)) (sR (om 32 4<|om 2 32<|o1 3 (.mv (.const (.bool true))) .done) .ret))))))))))))))⟩
def Wr{P}(hd:dec P f=some (KH f1))(h1:Lz P f1):Oj P f:=by
 intro d c dv cv L h hpb;obtain⟨b,T,bf,cp,cb,hf,s,r,bd,rfl,rfl,rfl,hg,hl1,hl2,hh,hfr⟩:=h;refine AF hd (Ada rfl) ?_;show gwp P _ _ _ _ _;(refine Ad<|Ab rfl<|Ae rfl<|Aa<|Af<|Ad<|Am rfl ?_);refine CS (A:=[_,_]) (B:=[_]) rfl rfl (h1 hg) ?_;cases hp:Cn c.fr with
 |true=>
  (refine Aa<|Bj rfl<|Ad<|Ab rfl<|Ae rfl<|Aa<|An ?_)
  exact CO rfl rfl (Adb _) ⟨rfl,fun _=>⟨rfl,rfl⟩,fun q=>by cases q⟩
 |false=>
  (refine Aa<|AS rfl<|Ak<|Ay ?_)
  refine CB (α:=List Fr×Nat×Ac) (fun x=>[(0,pZ b)])
   (fun x d' L'=>d'=d∧x.1.length=c.fr.length∧x.2.1<c.fr.length∧Cn x.1=false∧(∀f∈x.1,f.pins≤4611686018427387904)∧Cs (Dm x.1 x.2.1+1) x.1 x.2.1=Cs (Dm c.fr c.hand+1) c.fr c.hand∧
    L'=[bx b T [pZ bd,.slice (some ⟨bf,0,none⟩) c.fr.length cp,.chan (some cb),vZ x.2.1,vZ (wr c.hits),vZ (wr c.miss)],x.2.2,sg cb (.chan c.fr.length (c.free.map fun i:Nat=>Value.int .i64 i).toArray false s r false)]∧
    Ap 5 RFr d (.slice (some ⟨bf,0,none⟩) c.fr.length cp) x.1 x.2.2) (fun x=>Dm x.1 x.2.1) (c.fr,c.hand,hf) ⟨rfl,trivial⟩ ⟨rfl,rfl,hh,hp,hpb,rfl,rfl,hg⟩ ?_
  rintro⟨fs,hand,hf'⟩ ρ d' L' ⟨rfl,hlen,hhand,hpin,hpb',hsw,rfl,hg'⟩
  simp only at hlen hhand hpin hpb' hsw hg'⊢
  rw[←hlen] at hg'
  obtain⟨b1,T1,l1,c1,cs,q1,rfl,hcl,hcs,hle,⟨a,n,c',rfl,hb⟩,hset⟩:=Ap.at (by omega) hg' (show hand<fs.length by omega)
  cases q1
  have c2:=hcs 2 _ rfl
  have c3:=hcs 3 _ rfl
  have hgd:fs.getD hand fz=fs[hand]:=IK (by omega)
  (refine Ay<|Ad ?_)
  (refine Am rfl<|Au rfl<|Ai rfl<|Ag rfl (Aj 0 rfl rfl)<|Ab rfl<|Aa ?_)
  refine Gc (fun ρ d2 L'=>BI ρ [(0,pZ b),(4,vZ hand)]∧d2=d'∧L'=[bx b T [pZ bd,.slice (some ⟨bf,0,none⟩) c.fr.length cp,.chan (some cb),vZ (CE fs hand:Nat),vZ (wr c.hits),vZ (wr c.miss)],bx bf T1 l1,sg cb (.chan c.fr.length (c.free.map fun i:Nat=>Value.int .i64 i).toArray false s r false)]) ?_ ?_
  ·refine Bv [] _ rfl ?_
   have en:((hand:Int)+1) % (c.fr.length:Int)=(CE fs hand:Nat):=by unfold CE;rw[hlen];simp
   (refine Am rfl<|Am rfl<|Au rfl<|Ai rfl<|Am rfl<|Au rfl<|Ai rfl ?_)
   refine EK ?_ ?_
   ·(refine Ag rfl (Aj 0 rfl rfl)<|AL rfl rfl (by omega) (by omega)<|Ag rfl (Aj 0 rfl rfl)<|AK rfl<|Aae rfl rfl (by omega) (by omega)<|Au rfl<|Ai rfl ?_)
    refine A6 0 [pZ bd,.slice (some ⟨bf,0,none⟩) c.fr.length cp,.chan (some cb),vZ (CE fs hand:Nat),vZ (wr c.hits),vZ (wr c.miss)] rfl rfl rfl rfl (Ada rfl) rfl (by rw[←en];rfl) ?_
    exact Aa ⟨⟨rfl,rfl,trivial⟩,rfl,rfl⟩
   ·(refine Ag rfl (Aj 0 rfl rfl)<|AK rfl<|Ag rfl (Aj 0 rfl rfl)<|AL rfl rfl (by omega) (by omega)<|Aae rfl rfl (by omega) (by omega)<|Au rfl<|Ai rfl ?_)
    refine A6 0 [pZ bd,.slice (some ⟨bf,0,none⟩) c.fr.length cp,.chan (some cb),vZ (CE fs hand:Nat),vZ (wr c.hits),vZ (wr c.miss)] rfl rfl rfl rfl (Ada rfl) rfl (by rw[←en];rfl) ?_
    exact Aa ⟨⟨rfl,rfl,trivial⟩,rfl,rfl⟩
  ·rintro ρ d2 L2 ⟨hs2,rfl,rfl⟩
   refine Dw _ hs2 ?_
   by_cases hp0:fs[hand].pins=0
   ·cases hla:fs[hand].late with
    |false=>
     rw[hla] at c3
     have ht:BC fs hand=true:=by unfold BC;rw[hgd,hp0,hla];rfl
     (refine Ad<|Am rfl<|Au rfl<|Ai rfl<|Ag rfl (Aj 0 rfl rfl)<|Ab rfl<|Bz _ rfl rfl rfl (by omega)<|Am rfl<|Aa<|Ay<|Ad<|Am rfl<|Au rfl<|Ai rfl<|Ag rfl (Aj 1 rfl (by assumption))<|BW rfl rfl<|Ae rfl<|Aa<|Ar rfl (by omega)<|Ad<|Am rfl<|Au rfl<|Ai rfl<|Ag rfl (Aj 1 rfl (by assumption))<|Ae rfl<|Aa<|AS rfl<|Ad<|Ab rfl<|Ab rfl<|Ae rfl<|Aa<|An ?_)
     have hres:Cs (Dm c.fr c.hand+1) c.fr c.hand=(fs,CE fs hand,hand):=by rw[←hsw,Cs,ht];rfl
     rw[hres]
     refine CO rfl rfl (Adb _) ⟨rfl,(fun q=>nomatch q),fun _=>⟨rfl,?_⟩⟩
     refine⟨b,T,bf,cp,cb,_,s,r,bd,rfl,rfl,?_,hg',by simp only;omega,by simp only;omega,Agn _ (by omega),by rw[hlen];exact hfr⟩
     simp only[hlen]
    |true=>
     rw[hla] at c3
     have ht:BC fs hand=false:=by unfold BC;rw[hgd,hp0,hla];rfl
     have hpass:DD fs hand=fs.set hand {fs[hand] with late:=false}:=by rw[DD,hgd,if_pos hp0]
     have hg2:=hset [.bool fs[hand].held,vZ fs[hand].sec,vZ fs[hand].pins,.bool false,.slice a n c'] {fs[hand] with late:=false} rfl ⟨a,n,c',rfl,hb⟩
     rw[←hpass] at hg2
     (refine Ad<|Am rfl<|Au rfl<|Ai rfl<|Ag rfl (Aj 0 rfl rfl)<|Ab rfl<|Bz _ rfl rfl rfl (by omega)<|Am rfl<|Aa<|Ay<|Ad<|Am rfl<|Au rfl<|Ai rfl<|Ag rfl (Aj 1 rfl (by assumption))<|BW rfl rfl<|Ae rfl<|Aa<|Ar rfl (by omega)<|Ad<|Am rfl<|Au rfl<|Ai rfl<|Ag rfl (Aj 1 rfl (by assumption))<|Ae rfl<|Aa<|Bj rfl<|AB<|Am rfl<|Au rfl<|Ai rfl ?_)
     refine A6 1 _ rfl rfl rfl rfl (by omega) rfl (HK (cs:=[.bool fs[hand].held,vZ fs[hand].sec,vZ fs[hand].pins,.bool true,.slice a n c']) (fun j u hu=>hcs j u (by rw[hla];exact hu)) (by simp) (by simp;omega)) ?_
     (apply Aa)
     refine⟨(DD fs hand,CE fs hand,_),HD (by omega) hpin ht,⟨rfl,trivial⟩,rfl,by rw[Fj];exact hlen,by simp only;rw[←hlen];exact Agn _ (by omega),by rw[Hp];exact hpin,?_,(Pu (by omega) hpin ht).trans hsw,rfl,by simp only;rw[←hlen];exact hg2⟩
     intro f hf
     rw[hpass] at hf
     rcases List.mem_or_eq_of_mem_set hf with hf|rfl
     ·exact hpb' f hf
     ·simp only;omega
   ·have ht:BC fs hand=false:=by unfold BC;rw[hgd];simp[hp0]
    have hpass:DD fs hand=fs:=by rw[DD,hgd,if_neg hp0]
    (refine Ad<|Am rfl<|Au rfl<|Ai rfl<|Ag rfl (Aj 0 rfl rfl)<|Ab rfl<|Bz _ rfl rfl rfl (by omega)<|Am rfl<|Aa<|Ay<|Ad<|Am rfl<|Au rfl<|Ai rfl<|Ag rfl (Aj 1 rfl (by assumption))<|BW rfl rfl<|Ae rfl<|Aa<|Ax rfl (by omega)<|Ak ?_)
    have h1:=HD (by omega) hpin ht
    have h2:=(Pu (by omega) hpin ht).trans hsw
    rw[hpass] at h1 h2
    exact⟨(fs,CE fs hand,_),h1,⟨rfl,trivial⟩,rfl,hlen,by simp only;rw[←hlen];exact Agn _ (by omega),hpin,hpb',h2,rfl,by simp only;rw[←hlen];exact hg'⟩
end
def Ac0(o:Option Nat):Value:=match o with|some i=>.tuple #[vZ i,.bool true]|none=>.tuple #[vZ 0,.bool false]
def PN(P:Program)(f:FuncId):Prop:=∀{d}{c:CD}{dv cv L},Ca d c dv cv L→LQ c 4611686018427387904→
 Av P f [cv] d L (Ret fun r d' L'=>d'=d∧r=Ac0 (E6 c).2∧Ca d (E6 c).1 dv cv L')
def Mf(a0:Nat):GW:=(.mk 18 [(.tmp 2),(.tmp 3)] (.seq (.g (rG (o1 2 (.mv z0)<|o1 3 (.mv (.const (.bool false))) .done))) (.seq (.g (rG (om 5 0<|o1 6 (.nilc 5)<|oj 7 2 6<|ol 8 7 .done))) (.seq (.sel .done (some 9) 8 (vZ 0) (oe 10 9 0<|ob 11 .eql 10 z0 .done)) (.g (.block 0 (.cond 11 (sR (oe 16 9 2<|om 4 16 .done) (sR (om 17 4<|om 2 17<|o1 3 (.mv (.const (.bool true))) .done) .ret)) (sR (om 12 0<|oc 13 a0 [12]<|oe 14 13 0<|oe 15 13 1<|om 2 14<|om 3 15 .done) .ret))))))))
def Zs(hd:Fx false false P f=some (Mf f1))(h1:Oj P f1):PN P f:=by
 intro d c dv cv L h hpb;have h0:=h;obtain⟨b,T,bf,cp,cb,hf,s,r,bd,rfl,rfl,rfl,hg,hl1,hl2,hh,hfr⟩:=h;refine ES hd (Ada rfl) ?_;show xwp P _ _ _ _ _;(apply BQ;apply x_g;apply AB;apply Ab;rfl;apply Ae;rfl;apply Aa;apply BQ;apply x_g;apply AB;apply Am;rfl;apply Au;rfl;apply Ai;rfl;apply Ag;rfl;exact Aj 0 rfl rfl;apply Aa;apply BQ;apply AcL;apply Aa);have hcase:c.free=[]∨∃i rest,c.free=i::rest:=by cases c.free with|nil=>exact .inl rfl|cons i r=>exact .inr ⟨i,r,rfl⟩
 rcases hcase with hfe|⟨i,rest,hfe⟩
 ·refine XN 2 rfl (by rw[hfe];rfl) ?_;(refine Ao rfl rfl<|AO rfl rfl<|Aa ?_;apply x_g;refine Ay<|Ar rfl (by omega)<|Ad<|Am rfl ?_);refine DN (B:=[]) rfl rfl (h1 h0 hpb) (fun u d' L' _ ⟨e1,e2,e3⟩=>?_);subst e1;cases hp:Cn c.fr with
  |true=>
   obtain⟨rfl,rfl⟩:=e2 hp
   (refine Ao rfl rfl<|Ao rfl rfl<|Ab rfl<|Ae rfl<|Aa<|An ?_)
   have hr:E6 c=(c,none):=by unfold E6;rw[hfe];simp only[hp,if_true]
   rw[hr]
   exact CO rfl rfl (Adb _) ⟨rfl,rfl,h0⟩
  |false=>
   obtain⟨rfl,hc⟩:=e3 hp
   (refine Ao rfl rfl<|Ao rfl rfl<|Ab rfl<|Ae rfl<|Aa<|An ?_)
   have hr:E6 c=({c with fr:=(Cs (Dm c.fr c.hand+1) c.fr c.hand).1,hand:=(Cs (Dm c.fr c.hand+1) c.fr c.hand).2.1},some (Cs (Dm c.fr c.hand+1) c.fr c.hand).2.2):=by
    unfold E6;rw[hfe];simp only[hp,Adk,if_false]
   rw[hr]
   exact CO rfl rfl (Adb _) ⟨rfl,rfl,by rw[Aed];exact hc⟩
 ·refine X0 (v:=vZ i) (buf:=rest.map fun i:Nat=>Value.int .i64 i) 2 rfl (by rw[hfe];rfl) ?_;(refine Ao rfl rfl<|AO rfl rfl<|Aa ?_;apply x_g;refine Ay<|Ax rfl (by omega)<|Ad<|Ao rfl rfl<|Ab rfl<|Aa<|Ad<|Ab rfl<|Ab rfl<|Ae rfl<|Aa<|An ?_);have hr:E6 c=({c with free:=rest},some i):=by unfold E6;rw[hfe]
  rw[hr];exact CO rfl rfl (Adb _) ⟨rfl,rfl,b,T,bf,cp,cb,hf,s,r+1,bd,rfl,rfl,rfl,hg,hl1,hl2,hh,fun j hj=>hfr j (by rw[hfe];exact Adp _ hj)⟩
def Acd(d:Ac)(r:Value)(o:Option Sec):Prop:=match o with|some b=>∃u,r=.tuple #[u,vZ 0]∧AM d u b|none=>r=.tuple #[.slice none 0 0,vZ 180]
def Ms(P:Program)(f:FuncId):Prop:=∀{d}{c:CD}{D:EG}{dv cv LC LD}{k:Nat},Ca d c dv cv LC→Dv d D dv LD→LQ c 4611686018427387904→k<D.syn.length→
 Av P f [cv,vZ k] d (LC++LD) (Ret fun r d' L'=>∃LC' LD',L'=LC'++LD'∧Ca d' (E0 (D.cur k) c k).1 dv cv LC'∧Dv d' D dv LD'∧Acd d' r (E0 (D.cur k) c k).2)
def Nk(a0 a1 a2 a3 a4:Nat):GW:=(.mk 108 [(.tmp 4),(.tmp 5)] (.seq (.g (rG (o1 4 (.mv nS)<|o1 5 (.mv z0) .done))) (.seq (.g (.block 0 (sR (om 13 0<|oc 14 a0 [13]<|om 12 14 .done) (.cond 12 (sR (o1 4 (.mv nS)<|o1 5 (.mv z1) .done) .ret) (sR (om 16 1<|ob 17 .lss 16 z0<|om 18 17<|gF 19 18 1<|gF 20 18 0<|oF 21 18 (.nilc 20)<|oF 22 18 (.fld 0 21)<|oF 23 18 (.ld none 22)<|oF 24 18 (.call a1 [23])<|oF 25 18 (.bin .geq 19 24)<|o1 26 (.pick 18 (.const (.bool true)) 25)<|om 15 26 .done) (.cond 15 (sR (o1 4 (.mv nS)<|o1 5 (.mv (kZ 4)) .done) .ret) .skip)))))) (.seq (.g (sR (om 28 0<|om 29 1<|oc 30 a2 [28,29]<|om 27 30<|oe 31 27 0<|oe 32 27 1<|om 6 31<|om 7 32 .done) (sR (om 33 6<|o1 34 (.eqp true 33 (.const (.pointer none))) .done) (.cond 34 (sR (om 35 6<|o1 36 (.nilc 35)<|oj 37 2 36<|ol 38 37<|ob 39 .add 38 z1<|o1 40 (.nilc 35)<|oj 41 2 40<|o0 (.st 1 41 39) .done) (sR (om 42 6<|o1 43 (.nilc 42)<|oj 44 3 43<|o0 (.st 1 44 (.const (.bool true))) .done) (sR (om 45 0<|o1 46 (.nilc 45)<|oj 47 4 46<|ol 48 47<|ob 49 .add 48 z1<|o1 50 (.nilc 45)<|oj 51 4 50<|o0 (.st 1 51 49) .done) (sR (o1 52 (.bsl 0 1 [(.int .u8 0)] [])<|om 53 6<|o1 54 (.nilc 53)<|oj 55 4 54<|ol 56 55<|o1 57 (.app 1 1 [(.int .u8 0)] 52 56)<|om 4 57<|o1 5 (.mv z0) .done) .ret)))) .skip)))) (.seq (.g (rG (om 59 0<|oc 60 a3 [59]<|om 58 60<|oe 61 58 0<|oe 62 58 1<|om 8 61<|om 9 62 .done))) (.seq (.g (sR (om 63 9<|o1 64 (.un .not 63) .done) (.cond 64 (sR (o1 4 (.mv nS)<|o1 5 (.mv (kZ 180)) .done) .ret) .skip))) (.seq (.g (rG (om 66 0<|o1 67 (.nilc 66)<|oj 68 0 67<|ol 69 68<|om 70 1<|oc 71 a4 [69,70]<|om 65 71<|oe 72 65 0<|oe 73 65 1<|om 10 72<|om 11 73 .done))) (.seq (.seq (.g (rG (om 74 11<|ob 75 .neq 74 z0 .done))) (.cond 75 (.seq (.g (rG (om 76 0<|o1 77 (.nilc 76)<|oj 78 1 77<|ol 79 78<|om 80 8<|o1 81 (.bld [(0,1),(1,1),(2,1),(3,1),(4,1)] [(.bool false),(vZ 0),(vZ 0),(.bool false),(.slice none 0 0)] [])<|oI 82 5 79 80<|o0 (.st 5 82 81) .done))) (.seq (.snd (om 83 0<|o1 84 (.nilc 83)<|oj 85 2 84<|ol 86 85<|om 87 8 .done) none 86 87 .done) (.g (sR (om 88 11<|o1 4 (.mv nS)<|om 5 88 .done) .ret)))) (.g .skip))) (.g (sR (om 89 0<|o1 90 (.nilc 89)<|oj 91 1 90<|ol 92 91<|om 93 8<|om 94 1<|om 95 10<|o1 96 (.bld [(0,1),(1,1),(2,1),(3,1),(4,1)] [(.bool false),(vZ 0),(vZ 0),(.bool false),(.slice none 0 0)] [(0,(.const (.bool true))),(1,94),(2,z1),(3,(.const (.bool true))),(4,95)])<|oI 97 5 92 93<|o0 (.st 5 97 96) .done) (sR (om 98 0<|o1 99 (.nilc 98)<|oj 100 5 99<|ol 101 100<|ob 102 .add 101 z1<|o1 103 (.nilc 98)<|oj 104 5 103<|o0 (.st 1 104 102) .done) (sR (o1 105 (.bsl 0 1 [(.int .u8 0)] [])<|om 106 10<|o1 107 (.app 1 1 [(.int .u8 0)] 105 106)<|om 4 107<|o1 5 (.mv z0) .done) .ret))))))))))))
set_option maxHeartbeats 1000000 in
def AaZ{f2 f3 f4 f5}(hd:Fx false false P f=some (Nk f1 f2 f3 f4 f5))(h1:H2 P f1)(h2:Ih P f2)(h3:JL P f3)(h4:PN P f4)(h5:PO P f5):Ms P f:=by
 intro d c D dv cv LC LD k h hD hpb hk;have h0:=h;obtain⟨b,T,bf,cp,cb,hf,s,r,bd,rfl,rfl,rfl,hg,hl1,hl2,hh,hfr⟩:=h;refine ES hd (Ada rfl) ?_;show xwp P _ _ _ _ _;(apply BQ;apply x_g;apply AB;apply Al;rfl;apply Ab;rfl;apply Aa;apply BQ;apply x_g;apply Ay;apply Af;apply AB;apply Am;rfl);refine CS (A:=[_]) (B:=_::_::LD) rfl rfl h1 ?_;(refine Ae rfl<|Aa<|AS rfl<|Ad<|Ab rfl<|AE rfl rfl<|Ae rfl<|Bf rfl (by omega)<|Ah rfl<|Ab rfl<|Ah rfl<|Am rfl<|Ah rfl<|Au rfl<|Ah rfl<|Ai rfl<|Ah rfl<|Ag rfl (Aj 0 rfl rfl)<|Ah rfl ?_);refine M3 (A:=LD) Adl rfl (h2 hD) ?_;(refine Ah rfl<|DV rfl rfl<|Aw rfl rfl<|Ae rfl<|Aa<|Ar rfl (by omega)<|Ak ?_;apply BQ;apply x_g;refine Ad<|Am rfl<|Ab rfl ?_);refine CS (A:=[_,_]) (B:=_::LD) rfl rfl (h3 hg) ?_;cases hF:findF k c.fr with
 |some i=>
  obtain⟨hi,hheld,hsec⟩:=Fo hF
  obtain⟨b1,T1,l1,c1,cs,q1,rfl,hcl,hcs,hle,⟨a,n,c',rfl,hb⟩,hset⟩:=Ap.at (by omega) hg hi
  cases q1
  have hpi:=hpb _ (Aec hi)
  have c2:=hcs 2 _ rfl
  have hgd:c.fr.getD i fz=c.fr[i]:=IK hi
  have hres:E0 (D.cur k) c k=({c with fr:=c.fr.set i {c.fr[i] with pins:=c.fr[i].pins+1,late:=true},hits:=c.hits+1},some c.fr[i].b):=by
   unfold E0;rw[hF];simp only[hgd]
  rw[hres]
  (refine AU rfl<|Ao rfl rfl<|Ao rfl rfl<|Am rfl<|Ab rfl<|Aa<|Ad<|Am rfl<|Dk rfl rfl<|Aa<|Bj rfl<|Ad<|Am rfl<|Au rfl<|Ai rfl<|Ag rfl (Aj 1 rfl (by assumption))<|AL rfl rfl (by omega) (by omega)<|Au rfl<|Ai rfl ?_)
  refine A6 1 (patch l1 (i*5) [.bool c.fr[i].held,vZ c.fr[i].sec,vZ ((c.fr[i].pins:Int)+1),.bool c.fr[i].late,.slice a n c']) rfl rfl rfl rfl (by omega) rfl (HK hcs (by simp) (by simp;omega)) ?_
  (refine Aa<|Ad<|Am rfl<|Au rfl<|Ai rfl ?_)
  refine A6 1 (patch l1 (i*5) [.bool c.fr[i].held,vZ c.fr[i].sec,vZ ((c.fr[i].pins:Int)+1),.bool true,.slice a n c']) rfl rfl rfl rfl (by rw[By (by simp;omega)];omega) rfl (VC (cs:=[.bool c.fr[i].held,vZ c.fr[i].sec,vZ ((c.fr[i].pins:Int)+1),.bool c.fr[i].late,.slice a n c']) (by simp) (by simp;omega)) ?_
  (refine Aa<|Ad<|Am rfl<|Au rfl<|Ai rfl<|Ag rfl (Aj 0 rfl rfl) ?_)
  refine Ln rfl rfl ?_
  (refine Au rfl<|Ai rfl ?_)
  refine A6 0 [pZ bd,.slice (some ⟨bf,0,none⟩) c.fr.length cp,.chan (some cb),vZ c.hand,vZ (wr (c.hits+1)),vZ (wr c.miss)] rfl rfl rfl rfl (Ada rfl) rfl rfl ?_
  have c4:(patch l1 (i*5) [.bool c.fr[i].held,vZ c.fr[i].sec,vZ ((c.fr[i].pins:Int)+1),.bool true,.slice a n c'])[i*5+4]?=some (.slice a n c'):=S4 (by simp;omega) rfl
  (refine Aa<|Ad ?_)
  refine DE (cs:=[]) (by simp) (by simp[Instr.fill,Bq]) (fun b3 T3=>?_)
  (refine AJ<|Au rfl<|Ai rfl ?_)
  refine Ag rfl (Aj 2 rfl c4) ?_
  have hbl:=hb.B3
  refine EL (R:=AP) 0 rfl rfl (Ap.KZ (R:=AP) (sz:=1)) rfl (RSl.src hb GR (by omega) _) (by omega) (by simp;omega) (by simp;omega) (fun v' h' ho'=>?_)
  rw[Ael] at ho'
  (refine AJ<|Ab rfl<|Aa<|An ?_)
  have hg2:=hset [.bool c.fr[i].held,vZ c.fr[i].sec,vZ ((c.fr[i].pins:Int)+1),.bool true,.slice a n c'] {c.fr[i] with pins:=c.fr[i].pins+1,late:=true} rfl ⟨a,n,c',rfl,hb⟩
  refine Bd [v',vZ 0] ⟨rfl,rfl,trivial⟩ (d':=join d h') (L':=[bx b T [pZ bd,.slice (some ⟨bf,0,none⟩) c.fr.length cp,.chan (some cb),vZ c.hand,vZ (wr (c.hits+1)),vZ (wr c.miss)],
   bx bf T1 (patch l1 (i*5) [.bool c.fr[i].held,vZ c.fr[i].sec,vZ ((c.fr[i].pins:Int)+1),.bool true,.slice a n c']),sg cb (.chan c.fr.length (c.free.map fun i:Nat=>Value.int .i64 i).toArray false s r false)]++LD) Vs.freeze
   ⟨_,_,rfl,?_,hD.mono (Le.AG _ _),v',rfl,Ap.rsl (R:=AP) ho' A3 (by omega) (Le.AG _ _) (Le.Ba _ _)⟩
  exact Ca.mk (by simp) (Ap.mono (R:=RFr) MV hg2 (Le.AG _ _)) hl1 hl2 hh hfr
 |none=>
  (refine AU rfl<|Ao rfl rfl<|Ao rfl rfl<|Am rfl<|Ab rfl<|Aa<|Ad<|Am rfl<|TA rfl rfl<|Aa<|AS rfl<|Ak ?_;apply BQ;apply x_g;refine AB<|Am rfl ?_)
  refine DN (A:=[_,_,_]) (B:=LD) rfl rfl (h4 h0 hpb) (fun u d' L' _ ⟨e1,e2,e3⟩=>?_)
  subst e1
  subst e2
  cases hr:E6 c with
  |mk c1 o=>
  rw[hr] at e3
  simp only at e3
  have e3':=e3
  obtain⟨b',T',bf',cp',cb',hf',s',r',bd',q1,q2,rfl,hg',hl1',hl2',hh',hfr'⟩:=e3
  cases q1;cases q2
  cases o with
  |none=>
   have hres:E0 (D.cur k) c k=(c1,none):=by unfold E0;rw[hF,hr]
   rw[hres]
   (refine AU rfl<|Ao rfl rfl<|Ao rfl rfl<|Ab rfl<|Ae rfl<|Aa ?_;apply BQ;apply x_g;refine Ad<|Ae rfl<|Bx rfl<|Aa<|Bj rfl<|Ad<|Al rfl<|Ab rfl<|Aa<|An ?_)
   exact CO rfl rfl (Adb _) ⟨_,_,rfl,e3',hD,rfl⟩
  |some i=>
   have hres:E0 (D.cur k) c k=({c1 with fr:=c1.fr.set i ⟨true,k,1,true,D.cur k⟩,miss:=c1.miss+1},some (D.cur k)):=by unfold E0;rw[hF,hr]
   rw[hres]
   have hi:=UF hh hfr hr
   (refine AU rfl<|Ao rfl rfl<|Ao rfl rfl<|Ab rfl<|Ae rfl<|Aa ?_;apply BQ;apply x_g;refine Ad<|Ae rfl<|Bx rfl<|Aa<|AS rfl<|Ak ?_;apply BQ;apply x_g;refine AB<|Am rfl<|Au rfl<|Ai rfl<|Ag rfl (Aj 0 rfl rfl)<|Ab rfl ?_)
   refine Qo (A:=LD) Adl rfl (h5 hD hk) (fun w d2 LD' hld ⟨u,e1,hu,hD'⟩=>⟨d2,[_,_,_]++LD',Vs.perm Adl,?_⟩)
   subst e1
   obtain⟨au,cu,rfl⟩:=RSl.val hu
   obtain⟨b1,T1,l1,x1,cs,q1,rfl,hcl,hcs,hle, -,hset⟩:=Ap.at (by omega) (Ap.mono (R:=RFr) MV hg' hld) hi
   cases q1
   (refine AU rfl<|Ao rfl rfl<|Ao rfl rfl<|Al rfl<|Ab rfl<|Aa ?_;apply BQ;apply BQ;apply x_g;refine AB<|Ab rfl<|AN rfl rfl<|Aa ?_;apply Aaa;rfl;apply x_g;apply Ak;apply x_g;refine Ad<|Am rfl<|Au rfl<|Ai rfl<|Ag rfl (Aj 0 rfl rfl)<|Ab rfl<|Ab rfl<|Al rfl<|BR rfl<|Bz _ rfl rfl rfl (by omega) ?_)
   refine Bn (cs:=[.bool true,vZ k,vZ 1,.bool true,.slice au (D.cur k).length cu]) 1 rfl rfl rfl rfl hle rfl ?_
   (refine Aa<|Ad<|Am rfl<|Au rfl<|Ai rfl<|Ag rfl (Aj 0 rfl rfl) ?_)
   refine Ln rfl rfl ?_
   (refine Au rfl<|Ai rfl ?_)
   refine A6 0 [pZ bd,.slice (some ⟨bf',0,none⟩) c1.fr.length cp',.chan (some cb'),vZ c1.hand,vZ (wr c1.hits),vZ (wr (c1.miss+1))] rfl rfl rfl rfl (Ada rfl) rfl rfl ?_
   (refine Aa<|Ad ?_)
   refine DE (cs:=[]) (by simp) (by simp[Instr.fill,Bq]) (fun b3 T3=>?_)
   (apply AJ)
   have hbl:=hu.B3
   refine EL (R:=AP) 0 rfl rfl (Ap.KZ (R:=AP) (sz:=1)) rfl (RSl.src hu GR (by omega) _) (by omega) (by simp;omega) (by simp;omega) (fun v' h' ho'=>?_)
   rw[Ael] at ho'
   (refine AJ<|Ab rfl<|Aa<|An ?_)
   refine Bd [v',vZ 0] ⟨rfl,rfl,trivial⟩ (d':=join d2 h') (L':=[bx b T' [pZ bd,.slice (some ⟨bf',0,none⟩) c1.fr.length cp',.chan (some cb'),vZ c1.hand,vZ (wr c1.hits),vZ (wr (c1.miss+1))],
    bx bf' T1 (patch l1 (i*5) [.bool true,vZ k,vZ 1,.bool true,.slice au (D.cur k).length cu]),sg cb' (.chan c1.fr.length (c1.free.map fun i:Nat=>Value.int .i64 i).toArray false s' r' false)]++LD') Vs.freeze
    ⟨_,_,rfl,?_,hD'.mono (Le.AG _ _),v',rfl,Ap.rsl (R:=AP) ho' A3 (by omega) (Le.AG _ _) (Le.Ba _ _)⟩
   exact Ca.mk (by simp) (Ap.mono (R:=RFr) MV (hset _ ⟨true,k,1,true,D.cur k⟩ rfl ⟨au,_,cu,rfl,hu⟩) (Le.AG _ _)) hl1' hl2' hh' hfr'
def Ir(P:Program)(f:FuncId):Prop:=∀{d}{c:CD}{dv cv L}{k:Nat},Ca d c dv cv L→LQ c 4611686018427387904→
 Av P f [cv,vZ k] d L (Ret fun r d' L'=>d'=d∧r=vZ (Dc c k).2∧Ca d (Dc c k).1 dv cv L')
def KI(a0 a1:Nat):A5:=⟨31,[(.tmp 4)],(sR (o1 4 (.mv z0) .done) (.seq (sR (om 7 0<|oc 8 a0 [7] .done) (.cond 8 (sR (o1 4 (.mv z1) .done) .ret) .skip)) (sR (om 10 0<|om 11 1<|oc 12 a1 [10,11]<|om 9 12<|oe 13 9 0<|oe 14 9 1<|om 5 13<|om 6 14 .done) (.seq (.block 0 (sR (om 16 5<|o1 17 (.eqp false 16 (.const (.pointer none)))<|om 15 17 .done) (.cond 15 (sR (o1 4 (.mv (kZ 240)) .done) .ret) (sR (om 19 5<|o1 20 (.nilc 19)<|oj 21 2 20<|ol 22 21<|ob 23 .eql 22 z0<|om 18 23 .done) (.cond 18 (sR (o1 4 (.mv (kZ 180)) .done) .ret) .skip))))) (sR (om 24 5<|o1 25 (.nilc 24)<|oj 26 2 25<|ol 27 26<|ob 28 .sub 27 z1<|o1 29 (.nilc 24)<|oj 30 2 29<|o0 (.st 1 30 28) .done) (sR (o1 4 (.mv z0) .done) .ret))))))⟩
def W5{f2}(hd:dec P f=some (KI f1 f2))(h1:H2 P f1)(h2:JL P f2):Ir P f:=by
 intro d c dv cv L k h hpb;have h0:=h;obtain⟨b,T,bf,cp,cb,hf,s,r,bd,rfl,rfl,rfl,hg,hl1,hl2,hh,hfr⟩:=h;refine AF hd (Ada rfl) ?_;show gwp P _ _ _ _ _;(refine Ad<|Ab rfl<|Aa<|Af<|Ad<|Am rfl ?_);refine CS (A:=[_]) (B:=[_,_]) rfl rfl h1 ?_;(refine Aa<|AS rfl<|Ak<|Ad<|Am rfl<|Ab rfl ?_);refine CS (A:=[_,_]) (B:=[_]) rfl rfl (h2 hg) ?_;cases hF:findF k c.fr with
 |none=>
  (refine AU rfl<|Ao rfl rfl<|Ao rfl rfl<|Am rfl<|Ab rfl<|Aa<|Af<|Ay<|Ad<|Am rfl<|TA rfl rfl<|Ae rfl<|Aa<|Bj rfl<|Ad<|Ab rfl<|Aa<|An ?_)
  have hr:Dc c k=(c,240):=by unfold Dc;rw[hF]
  rw[hr]
  exact BO rfl (Adb _) ⟨rfl,rfl,h0⟩
 |some i=>
  obtain⟨hi,hheld,hsec⟩:=Fo hF
  obtain⟨b1,T1,l1,c1,cs,q1,rfl,hcl,hcs,hle,⟨a,n,c',rfl,hb⟩,hset⟩:=Ap.at (by omega) hg hi
  cases q1
  have hpi:=hpb _ (Aec hi)
  have c2:=hcs 2 _ rfl
  have hgd:c.fr.getD i fz=c.fr[i]:=IK hi
  by_cases hp:c.fr[i].pins=0
  ·(refine AU rfl<|Ao rfl rfl<|Ao rfl rfl<|Am rfl<|Ab rfl<|Aa<|Af<|Ay<|Ad<|Am rfl<|Dk rfl rfl<|Ae rfl<|Aa<|AS rfl<|Ad<|Am rfl<|Au rfl<|Ai rfl<|Ag rfl (Aj 1 rfl (by assumption))<|AO rfl rfl<|Ae rfl<|Aa<|Ax rfl (by omega)<|Ad<|Ab rfl<|Aa<|An ?_)
   have hr:Dc c k=(c,180):=by unfold Dc;rw[hF];simp only[hgd];rw[if_pos hp]
   rw[hr]
   exact BO rfl (Adb _) ⟨rfl,rfl,h0⟩
  ·(refine AU rfl<|Ao rfl rfl<|Ao rfl rfl<|Am rfl<|Ab rfl<|Aa<|Af<|Ay<|Ad<|Am rfl<|Dk rfl rfl<|Ae rfl<|Aa<|AS rfl<|Ad<|Am rfl<|Au rfl<|Ai rfl<|Ag rfl (Aj 1 rfl (by assumption))<|AO rfl rfl<|Ae rfl<|Aa<|Ar rfl (by omega)<|Ak<|Ad<|Am rfl<|Au rfl<|Ai rfl<|Ag rfl (Aj 1 rfl (by assumption))<|C6 rfl rfl (by omega) (by omega)<|Au rfl<|Ai rfl ?_)
   refine A6 1 (patch l1 (i*5) [.bool c.fr[i].held,vZ c.fr[i].sec,vZ ((c.fr[i].pins:Int) - 1),.bool c.fr[i].late,.slice a n c']) rfl rfl rfl rfl (by omega) rfl (HK hcs (by simp) (by simp;omega)) ?_
   (refine Aa<|Ad<|Ab rfl<|Aa<|An ?_)
   have hr:Dc c k=({c with fr:=c.fr.set i {c.fr[i] with pins:=c.fr[i].pins - 1}},0):=by unfold Dc;rw[hF];simp only[hgd];rw[if_neg hp]
   rw[hr]
   refine BO rfl (Adb _) ⟨rfl,rfl,?_⟩
   exact Ca.mk (by simp) (hset _ {c.fr[i] with pins:=c.fr[i].pins - 1} rfl ⟨a,n,c',by simp only;rw[Int.ofNat_sub (by omega)];rfl,hb⟩) hl1 hl2 hh hfr
def HF(P:Program)(f:FuncId):Prop:=∀{d}{c:CD}{dv cv L}{k:Nat},Ca d c dv cv L→(∀i,findF k c.fr=some i→c.free.length<c.fr.length)→
 Av P f [cv,vZ k] d L (Ret fun r d' L'=>d'=d∧r=vZ (Da c k).2∧Ca d (Da c k).1 dv cv L')
def JS(a0 a1:Nat):GW:=(.mk 32 [(.tmp 4)] (.seq (.g (rG (o1 4 (.mv z0) .done))) (.seq (.g (sR (om 7 0<|oc 8 a0 [7] .done) (.cond 8 (sR (o1 4 (.mv z1) .done) .ret) .skip))) (.seq (.g (rG (om 10 0<|om 11 1<|oc 12 a1 [10,11]<|om 9 12<|oe 13 9 0<|oe 14 9 1<|om 5 13<|om 6 14 .done))) (.seq (.g (.block 0 (sR (om 16 5<|o1 17 (.eqp false 16 (.const (.pointer none)))<|om 15 17 .done) (.cond 15 (sR (o1 4 (.mv (kZ 240)) .done) .ret) (sR (om 19 5<|o1 20 (.nilc 19)<|oj 21 2 20<|ol 22 21<|ob 23 .gtr 22 z0<|om 18 23 .done) (.cond 18 (sR (o1 4 (.mv (kZ 180)) .done) .ret) .skip)))))) (.seq (.g (rG (om 24 5<|o1 25 (.bld [(0,1),(1,1),(2,1),(3,1),(4,1)] [(.bool false),(vZ 0),(vZ 0),(.bool false),(.slice none 0 0)] [])<|o1 26 (.nilc 24)<|o0 (.st 5 26 25) .done))) (.seq (.snd (om 27 0<|o1 28 (.nilc 27)<|oj 29 2 28<|ol 30 29<|om 31 6 .done) none 30 31 .done) (.g (sR (o1 4 (.mv z0) .done) .ret)))))))))
def Vu{f2}(hd:Fx false false P f=some (JS f1 f2))(h1:H2 P f1)(h2:JL P f2):HF P f:=by
 intro d c dv cv L k h hroom;have h0:=h;obtain⟨b,T,bf,cp,cb,hf,s,r,bd,rfl,rfl,rfl,hg,hl1,hl2,hh,hfr⟩:=h;refine ES hd (Ada rfl) ?_;show xwp P _ _ _ _ _;(apply BQ;apply x_g;apply AB;apply Ab;rfl;apply Aa;apply BQ;apply x_g;apply Af;apply AB;apply Am;rfl);refine CS (A:=[_]) (B:=[_,_]) rfl rfl h1 ?_;(refine Aa<|AS rfl<|Ak ?_;apply BQ;apply x_g;refine AB<|Am rfl<|Ab rfl ?_);refine CS (A:=[_,_]) (B:=[_]) rfl rfl (h2 hg) ?_;cases hF:findF k c.fr with
 |none=>
  (refine AU rfl<|Ao rfl rfl<|Ao rfl rfl<|Am rfl<|Ab rfl<|Aa ?_;apply BQ;apply x_g;refine Ay<|Ad<|Am rfl<|TA rfl rfl<|Ae rfl<|Aa<|Bj rfl<|Ad<|Ab rfl<|Aa<|An ?_)
  have hr:Da c k=(c,240):=by unfold Da;rw[hF]
  rw[hr]
  exact BO rfl (Adb _) ⟨rfl,rfl,h0⟩
 |some i=>
  obtain⟨hi,hheld,hsec⟩:=Fo hF
  have hroom:=hroom i hF
  obtain⟨b1,T1,l1,c1,cs,q1,rfl,hcl,hcs,hle,⟨a,n,c',rfl,hb⟩,hset⟩:=Ap.at (by omega) hg hi
  cases q1
  have c2:=hcs 2 _ rfl
  have hgd:c.fr.getD i fz=c.fr[i]:=IK hi
  by_cases hp:c.fr[i].pins=0
  ·(refine AU rfl<|Ao rfl rfl<|Ao rfl rfl<|Am rfl<|Ab rfl<|Aa ?_;apply BQ;apply x_g;refine Ay<|Ad<|Am rfl<|Dk rfl rfl<|Ae rfl<|Aa<|AS rfl<|Ad<|Am rfl<|Au rfl<|Ai rfl<|Ag rfl (Aj 1 rfl (by assumption))<|BW rfl rfl<|Ae rfl<|Aa<|Ar rfl (by omega)<|Ak ?_;apply BQ;apply x_g;refine AB<|Am rfl<|BR rfl<|Au rfl ?_)
   have hr:Da c k=({c with fr:=c.fr.set i fz,free:=c.free++[i]},0):=by unfold Da;rw[hF];simp only[hgd];rw[if_neg (by omega)]
   rw[hr]
   refine Bn (cs:=[.bool false,vZ 0,vZ 0,.bool false,.slice none 0 0]) 1 rfl rfl rfl rfl hle rfl ?_
   (apply Aa;apply BQ;apply Aac;refine Am rfl<|Au rfl<|Ai rfl<|Ag rfl (Aj 0 rfl rfl)<|Ab rfl<|Aa ?_)
   refine XP (cap:=c.fr.length) (buf:=c.free.map fun i:Nat=>Value.int .i64 i) (v:=vZ i) 2 rfl rfl (by rw[Aey];exact hroom) rfl ?_
   (apply Aa;apply x_g;refine Ad<|Ab rfl<|Aa<|An ?_)
   refine BO rfl (Adb _) ⟨rfl,rfl,?_⟩
   have:=Ca.mk (c:={c with fr:=c.fr.set i fz,free:=c.free++[i]}) (d:=d) (b:=b) (T:=T) (cb:=cb) (s:=s+1) (r:=r) (bd:=bd) (by simp) (hset _ fz rfl ⟨none,0,0,rfl,RSl.nil⟩) hl1 hl2 hh (fun j hj=>by
    rcases Adg.1 hj with hj|hj
    ·exact hfr j hj
    ·rw[Adq.1 hj];exact hi)
   simp only[Ahb,Agl,List.map_nil] at this
   exact this
  ·(refine AU rfl<|Ao rfl rfl<|Ao rfl rfl<|Am rfl<|Ab rfl<|Aa ?_;apply BQ;apply x_g;refine Ay<|Ad<|Am rfl<|Dk rfl rfl<|Ae rfl<|Aa<|AS rfl<|Ad<|Am rfl<|Au rfl<|Ai rfl<|Ag rfl (Aj 1 rfl (by assumption))<|BW rfl rfl<|Ae rfl<|Aa<|Ax rfl (by omega)<|Ad<|Ab rfl<|Aa<|An ?_)
   have hr:Da c k=(c,180):=by unfold Da;rw[hF];simp only[hgd];rw[if_pos (by omega)]
   rw[hr]
   exact BO rfl (Adb _) ⟨rfl,rfl,h0⟩
def JC(P:Program)(f:FuncId):Prop:=∀{d}{c:CD}{dv cv L},Ca d c dv cv L→(∀f∈c.fr,f.sec≤8192)→
 Av P f [cv] d L (Ret fun r d' L'=>L'=L∧C5 d' r (D7 c))
def LX(a0:Nat):A5:=⟨29,[(.tmp 2)],(sR (o1 2 (.mv nS) .done) (.seq (sR (om 6 0<|oc 7 a0 [6] .done) (.cond 7 (sR (o1 2 (.mv nS) .done) .ret) .skip)) (sR (o1 3 (.mv nS) .done) (.seq (sR (om 8 0<|o1 9 (.nilc 8)<|oj 10 1 9<|ol 11 10<|oL 12 11<|o1 13 (.mv z0) .done) (.block 0 (.loop (sR (ob 14 .lss 13 12 .done) (.seq (.cond 14 .skip (.exit 0)) (.seq (.block 1 (sR (oI 15 5 11 13<|o1 16 (.ld (some 5) 15)<|o1 5 (.alo (.agg #[(.bool false),(vZ 0),(vZ 0),(.bool false),(.slice none 0 0)]))<|o0 (.st 5 5 16) .done) (sR (oj 17 0 5<|ol 18 17 .done) (.cond 18 (rG (om 19 3<|oj 20 1 5<|ol 21 20<|o1 22 (.bsl 1 1 [(vZ 0)] [(0,21)])<|o1 23 (.app 1 8 [(vZ 0)] 19 22)<|om 3 23 .done)) (rG (om 24 3<|o1 25 (.bsl 1 1 [(vZ 0)] [(0,(kZ (-1)))])<|o1 26 (.app 1 8 [(vZ 0)] 24 25)<|om 3 26 .done)))))) (rG (ob 27 .add 13 z1<|om 13 27 .done)))))))) (sR (om 28 3<|om 2 28 .done) .ret)))))⟩
def Za(hd:dec P f=some (LX f1))(h1:H2 P f1):JC P f:=by
 intro d c dv cv L h hsec;obtain⟨b,T,bf,cp,cb,hf,s,r,bd,rfl,rfl,rfl,hg,hl1,hl2,hh,hfr⟩:=h;refine AF hd (Ada rfl) ?_;show gwp P _ _ _ _ _;(refine Ad<|Al rfl<|Aa<|Af<|Ad<|Am rfl ?_);refine CS (A:=[_]) (B:=[_,_]) rfl rfl h1 ?_;refine FR ⟨d,emp::[bx b T [pZ bd,.slice (some ⟨bf,0,none⟩) c.fr.length cp,.chan (some cb),vZ c.hand,vZ (wr c.hits),vZ (wr c.miss)],hf,sg cb (.chan c.fr.length (c.free.map fun i:Nat=>Value.int .i64 i).toArray false s r false)],Vs.emp,?_⟩;(refine AS rfl<|Ak<|Ad<|Al rfl<|Aa<|Af<|Ad<|Am rfl<|Au rfl<|Ai rfl<|Ag rfl (Aj 1 rfl rfl)<|AK rfl<|Ab rfl<|Aa<|Ay ?_);have hlen:(D7 c).length=c.fr.length:=by simp[D7]
 refine CB (α:=Nat×Value×Ac) (fun x=>[(3,x.2.1),(11,.slice (some ⟨bf,0,none⟩) c.fr.length cp),(12,vZ c.fr.length),(13,vZ x.1)])
  (fun x d' L'=>d'=d∧x.1≤c.fr.length∧Ap 1 Bb d x.2.1 ((D7 c).take x.1) x.2.2∧L'=x.2.2::[bx b T [pZ bd,.slice (some ⟨bf,0,none⟩) c.fr.length cp,.chan (some cb),vZ c.hand,vZ (wr c.hits),vZ (wr c.miss)],hf,sg cb (.chan c.fr.length (c.free.map fun i:Nat=>Value.int .i64 i).toArray false s r false)])
  (fun x=>c.fr.length - x.1) (0,.slice none 0 0,emp) ⟨rfl,rfl,rfl,rfl,trivial⟩ ⟨rfl,by omega,Ap.nil,rfl⟩ ?_
 rintro⟨i,v,hv⟩ ρ d' L' ⟨rfl,hi,hrow,rfl⟩;simp only at hi hrow⊢;by_cases e:i<c.fr.length
 ·obtain⟨b1,T1,l1,c1,cs,q1,rfl,hcl,hcs,hle,⟨a,n,c',rfl,hb⟩,hset⟩:=Ap.at (by omega) hg e;cases q1;have hsi:=hsec _ (Aec e);have htl:((D7 c).take i).length=i:=by rw[Adz];omega
  have hnext:(D7 c).take (i+1)=(D7 c).take i++[if c.fr[i].held then(c.fr[i].sec:Int) else -1]:=by
   rw[Aea (by omega)];simp[D7]
  (refine Ad<|AE rfl rfl<|Aa<|Af<|Ax rfl (by omega)<|Ak<|Af<|Ay<|Ad<|Bz _ rfl rfl rfl (by omega) ?_);refine Kq _ 2 rfl rfl hcl hcs ?_;(apply B0;intro _ _);refine JU 0 rfl rfl rfl rfl rfl rfl ?_;cases hh:c.fr[i].held with
  |true=>
   (refine Aa<|Ad<|Ai rfl<|Ag rfl (Aj 0 rfl rfl)<|Aa<|Bj rfl<|AB<|AJ<|Ai rfl<|Ag rfl (Aj 0 rfl rfl) ?_)
   refine D5 rfl rfl (fun b3 T3=>?_)
   refine D1 (R:=Bb) 1 rfl rfl hrow rfl (Ap.Ep (x:=(c.fr[i].sec:Int)) rfl ⟨rfl,by omega,by omega⟩) CX (by omega) (by rw[htl];simp;omega) (by rw[htl];simp;omega) (fun v' h' ho'=>?_)
   refine B9 d' (h'::[_,_,_]) (Vs.drop (Aef _ _)) ?_
   (refine AJ<|Aa<|AB<|AL rfl rfl (by omega) (by omega)<|Ab rfl<|Aa ?_)
   rw[hh] at hnext
   exact⟨(i+1,v',h'),by simp only;omega,⟨rfl,rfl,rfl,rfl,trivial⟩,rfl,e,by simp only[hnext];exact ho',rfl⟩
  |false=>
   (refine Aa<|Ad<|Ai rfl<|Ag rfl (Aj 0 rfl rfl)<|Aa<|AS rfl<|AB<|AJ ?_)
   refine D5 rfl rfl (fun b3 T3=>?_)
   refine D1 (R:=Bb) 1 rfl rfl hrow rfl (Ap.Ep (x:=(-1:Int)) rfl ⟨rfl,by omega,by omega⟩) CX (by omega) (by rw[htl];simp;omega) (by rw[htl];simp;omega) (fun v' h' ho'=>?_)
   refine B9 d' (h'::[_,_,_]) (Vs.drop (Aef _ _)) ?_
   (refine AJ<|Aa<|AB<|AL rfl rfl (by omega) (by omega)<|Ab rfl<|Aa ?_)
   rw[hh] at hnext
   exact⟨(i+1,v',h'),by simp only;omega,⟨rfl,rfl,rfl,rfl,trivial⟩,rfl,e,by simp only[hnext];exact ho',rfl⟩
 ·(refine Ad<|AE rfl rfl<|Aa<|Af<|Ar rfl (by omega)<|Bg<|Ad<|AJ<|AJ<|Aa<|An ?_);rw[Afh (by omega)] at hrow;exact Bd [v] ⟨rfl,trivial⟩ Vs.freeze ⟨rfl,Ap.rsl (R:=Bb) hrow B2 (by omega) (Le.AG _ _) (Le.Ba _ _)⟩
def Xw(P:Program)(f:FuncId):Prop:=∀{d}{c:CD}{dv cv L},Ca d c dv cv L→CV P f [cv] d L (vZ (wr c.hits))
def Sx(P:Program)(f:FuncId):Prop:=∀{d}{c:CD}{dv cv L},Ca d c dv cv L→CV P f [cv] d L (vZ (wr c.miss))
def JR(P:Program)(f:FuncId):Prop:=∀{d}{D:EG}{dv LD}{n:Nat},Dv d D dv LD→1≤D.syn.length→1≤n→n≤64→
 Av P f [dv,vZ n] d LD (Ret fun r d' L'=>d'=d∧∃cv LC,r=.tuple #[cv,vZ 0]∧L'=LC++LD∧Ca d ⟨Adx n fz,Aek n,0,0,0⟩ dv cv LC)
def Ul(a0:Nat):GW:=(.mk 37 [(.tmp 4),(.tmp 5)] (.seq (.g (rG (o1 4 (.mv (.const (.pointer none)))<|o1 5 (.mv z0) .done))) (.seq (.g (.block 0 (sR (om 9 0<|oc 10 a0 [9]<|ob 11 .eql 10 z0<|om 8 11 .done) (.cond 8 (sR (o1 4 (.mv (.const (.pointer none)))<|o1 5 (.mv z1) .done) .ret) (sR (om 13 1<|ob 14 .lss 13 z1<|om 15 14<|gF 16 15 1<|oF 17 15 (.bin .gtr 16 (kZ 64))<|o1 18 (.pick 15 (.const (.bool true)) 17)<|om 12 18 .done) (.cond 12 (sR (o1 4 (.mv (.const (.pointer none)))<|o1 5 (.mv z2) .done) .ret) .skip)))))) (.seq (.g (.reg true (pm 19 0<|pm 20 1<|pm 22 1 (.alt ⟨(some 21),none,(.mks 5 56 [(.bool false),(vZ 0),(vZ 0),(.bool false),(.slice none 0 0)] 20 20)⟩ (o1 23 (.mop (.mkc 8 22)) (p1 24 (.bld [(0,1),(1,1),(2,1),(3,1),(4,1),(5,1)] [(.pointer none),(.slice none 0 0),(.chan none),(vZ 0),(vZ 0),(vZ 0)] [(0,19),(1,21),(2,23)]) (o1 25 (.box 24) (.bar (pm 6 25 .done))))) (o1 23 (.mop (.mkc 8 22)) (o1 21 (.mks 5 56 [(.bool false),(vZ 0),(vZ 0),(.bool false),(.slice none 0 0)] 20 20) (p1 24 (.bld [(0,1),(1,1),(2,1),(3,1),(4,1),(5,1)] [(.pointer none),(.slice none 0 0),(.chan none),(vZ 0),(vZ 0),(vZ 0)] [(0,19),(1,21),(2,23)]) (o1 25 (.box 24) (.bar (pm 6 25 .done)))))))))) (.seq (.seq (.g (rG (om 26 1<|o1 27 (.mv z0) .done))) (.block 1 (.loop (.seq (.g (rG (ob 28 .lss 27 26 .done))) (.seq (.g (.cond 28 .skip (.exit 1))) (.seq (.block 2 (.seq (.g (rG (om 29 27<|om 7 29 .done))) (.snd (om 30 6<|o1 31 (.nilc 30)<|oj 32 2 31<|ol 33 32<|om 34 7 .done) none 33 34 .done))) (.g (rG (ob 35 .add 27 z1<|om 27 35 .done))))))))) (.g (sR (om 36 6<|om 4 36<|o1 5 (.mv z0) .done) .ret)))))))
def AaX(hd:Fx false false P f=some (Ul f1))(h1:Ih P f1):JR P f:=by
 intro d D dv LD n hD hs hn1 hn2;have hD0:=hD;obtain⟨bd, -, -, -, -, -, -,rfl, -⟩:=hD;refine ES hd (Ada rfl) ?_;show xwp P _ _ _ _ _;(apply BQ;apply x_g;apply AB;apply Am;rfl;apply Ab;rfl;apply Aa;apply BQ;apply x_g;apply Ay;apply Af;apply AB;apply Am;rfl);refine M3 (A:=LD) (B:=[]) (by rw[Aed]) rfl (h1 hD0) ?_;(refine AO rfl rfl<|Ae rfl<|Aa<|Ar rfl (by omega)<|Ad<|Ab rfl<|AE rfl rfl<|Ae rfl<|Bf rfl (by omega)<|Ah rfl<|Ab rfl<|Ah rfl<|BW rfl rfl<|Aw rfl rfl<|Ae rfl<|Aa<|Ar rfl (by omega)<|Ak ?_;apply BQ;apply x_g);refine AcC (fun ρ d' L'=>d'=d∧∃b T bf Tf cb,BI ρ [(1,vZ n),(6,pZ b)]∧
  L'=[bx b T [pZ bd,.slice (some ⟨bf,0,none⟩) n n,.chan (some cb),vZ 0,vZ 0,vZ 0],bx bf Tf (Bq [.bool false,vZ 0,vZ 0,.bool false,.slice none 0 0] (n*5)),sg cb (.chan n #[] false 0 0 false)]++LD) ?_ ?_
 ·refine Bv [] _ rfl ?_;(refine Am rfl<|Ab rfl<|Ab rfl ?_);refine EK ?_ ?_
  ·refine HT rfl rfl (Adi n) (by omega) (by omega) (fun bf Tf=>?_);refine Aaf rfl (by omega) (by omega) (fun cb=>?_);refine BR (cs:=[pZ bd,.slice (some ⟨bf,0,none⟩) n n,.chan (some cb),vZ 0,vZ 0,vZ 0]) rfl ?_;refine Cx rfl (fun b T=>?_);(refine Ch<|Am rfl ?_);exact FR ⟨d,_::_::_::LD,Vs.perm ((List.Perm.swap _ _ LD).cons _),rfl,b,T,bf,Tf,cb,⟨rfl,rfl,trivial⟩,rfl⟩
  ·refine Aaf rfl (by omega) (by omega) (fun cb=>?_);refine HT rfl rfl (Adi n) (by omega) (by omega) (fun bf Tf=>?_);refine BR (cs:=[pZ bd,.slice (some ⟨bf,0,none⟩) n n,.chan (some cb),vZ 0,vZ 0,vZ 0]) rfl ?_;refine Cx rfl (fun b T=>?_);(refine Ch<|Am rfl ?_);exact FR ⟨d,[_,_,_]++LD,Vs.refl _ _,rfl,b,T,bf,Tf,cb,⟨rfl,rfl,trivial⟩,rfl⟩
 ·rintro ρ d' L' ⟨rfl,b,T,bf,Tf,cb,hsl,rfl⟩;refine PZ _ hsl ?_;(apply BQ;apply BQ;apply x_g;apply AB;apply Ab;rfl;apply Ab;rfl;apply Aa;apply GD);refine P7 (α:=Nat) (fun i=>[(6,pZ b),(26,vZ n),(27,vZ i)])
   (fun i d2 L'=>d2=d'∧i≤n∧L'=[bx b T [pZ bd,.slice (some ⟨bf,0,none⟩) n n,.chan (some cb),vZ 0,vZ 0,vZ 0],bx bf Tf (Bq [.bool false,vZ 0,vZ 0,.bool false,.slice none 0 0] (n*5)),sg cb (.chan n ((Aek i).map fun i:Nat=>Value.int .i64 i).toArray false i 0 false)]++LD)
   (fun i=>n - i) 0 ⟨rfl,rfl,rfl,trivial⟩ ⟨rfl,by omega,rfl⟩ ?_
  rintro i ρ d2 L2 ⟨rfl,hi,rfl⟩;by_cases e:i<n
  ·(apply BQ;apply x_g;apply AB;apply AE;rfl;rfl;apply Aa;apply BQ;apply x_g;refine Ax rfl (by omega) ?_;apply Ak;apply BQ;apply GD;apply BQ;apply x_g;apply AB;apply Ab;rfl;apply Ab;rfl;apply Aa;apply Aac;apply Am;rfl;apply Au;rfl;apply Ai;rfl;apply Ag;rfl;exact Aj 0 rfl rfl;apply Ab;rfl;apply Aa);refine XP (cap:=n) (buf:=(Aek i).map fun i:Nat=>Value.int .i64 i) (v:=vZ i) 2 rfl rfl (by simpa using e) rfl ?_;(apply Aa;apply x_g;refine AB<|AL rfl rfl (by omega) (by omega)<|Ab rfl<|Aa ?_);refine⟨i+1,by omega,⟨rfl,rfl,rfl,trivial⟩,rfl,e,?_⟩
   rw[List.range_succ,Ahb];rfl
  ·(apply BQ;apply x_g;apply AB;apply AE;rfl;rfl;apply Aa;apply BQ;apply x_g;refine Ar rfl (by omega) ?_;apply Bg;apply x_g;apply Af;apply AB;apply Am;rfl;apply Am;rfl;apply Ab;rfl;apply Aa;apply An);have ei:i=n:=by omega
   subst ei;refine CO rfl rfl (Adb _) ⟨rfl,_,_,rfl,rfl,?_⟩;have hw0:wr 0=0:=rfl;have:=Ca.mk (c:=⟨Adx i fz,Aek i,0,0,0⟩) (d:=d2) (b:=b) (T:=T) (cb:=cb) (s:=i) (r:=0) (bd:=bd) (n:=i) (by simp) (Ap.zero (b:=bf) (T:=Tf) (R:=RFr) (x:=fz) rfl (by omega) ⟨none,0,0,rfl,RSl.nil⟩ (by omega)) hn1 hn2 hn1 (fun j hj=>by simpa using hj);exact this
end Go.Gk.Cch
end
section
namespace Go.Gk.Node
open Go Go.Gk
attribute [local irreducible] gwp gws
def Ef{α}(R:Ac→List Value→α→Prop)(by_:Nat)(P:Program)(f:FuncId):Prop:=∀{d v}{xs:List α},RSl 1 R d v xs→xs.length*by_≤140737488355328→
 Av P f [v] d [] (Ret fun r d' L'=>d'=d∧∃h,L'=[h]∧Ap 1 R d r xs h)
def Iq:A5:=⟨8,[(.tmp 2)],(sR (o1 2 (.mv nS) .done) (.seq (sR (om 3 0<|o1 4 (.eqs false 3 nS) .done) (.cond 4 (sR (o1 2 (.mv nS) .done) .ret) .skip)) (sR (o1 5 (.bsl 0 1 [(.int .u8 0)] [])<|om 6 0<|o1 7 (.app 1 1 [(.int .u8 0)] 5 6)<|om 2 7 .done) .ret)))⟩
def O0{P f}(hd:dec P f=some Iq):Ef AP 1 P f:=by
 intro d v xs hv hb;have hv':=hv;have hxl:=RSl.B3 hv;obtain⟨a,c,b,o,rfl,h2,h3,h4,h5,_⟩:=hv;refine AF hd (Ada rfl) ?_;show gwp P _ _ _ _ _;cases a with
 |none=>
  have:xs=[]:=Adn (by have:=h4 rfl;omega)
  subst this
  apply Af;apply AB
  refine B9 d [emp] Vs.emp ?_
  (refine Al rfl<|Aa<|Af<|Ad<|Al rfl<|Tc rfl rfl<|Aa<|Bj rfl<|Ad<|Al rfl<|Aa<|An ?_)
  exact BO (L':=[emp]) rfl (Adb _) ⟨rfl,emp,rfl,Ap.nil⟩
 |some a=>
  (refine Ad<|Al rfl<|Aa<|Af<|Ad<|Al rfl<|TI rfl rfl<|Aa<|AS rfl<|Ak<|Ad ?_)
  refine DE (cs:=[]) (by omega) rfl (fun b8 T8=>?_)
  (apply Al;rfl)
  refine EL 0 rfl rfl (Ap.KZ (R:=AP) (sz:=1)) rfl (RSl.src (R:=AP) (xs:=xs) hv' GR (by omega) _) (by omega) (by simp;omega) (by simp;omega) (fun v5 h5 hrow5=>?_)
  (refine AJ<|Aa<|An ?_)
  exact BO (L':=[h5]) rfl (Adb _) ⟨rfl,h5,rfl,hrow5⟩
def I7:A5:=⟨8,[(.tmp 2)],(sR (o1 2 (.mv nS) .done) (.seq (sR (om 3 0<|o1 4 (.eqs false 3 nS) .done) (.cond 4 (sR (o1 2 (.mv nS) .done) .ret) .skip)) (sR (o1 5 (.bsl 0 1 [(vZ 0)] [])<|om 6 0<|o1 7 (.app 1 8 [(vZ 0)] 5 6)<|om 2 7 .done) .ret)))⟩
def Rr{P f}(hd:dec P f=some I7):Ef Bb 8 P f:=by
 intro d v xs hv hb;have hv':=hv;have hxl:=RSl.B3 hv;obtain⟨a,c,b,o,rfl,h2,h3,h4,h5,_⟩:=hv;refine AF hd (Ada rfl) ?_;show gwp P _ _ _ _ _;cases a with
 |none=>
  have:xs=[]:=Adn (by have:=h4 rfl;omega)
  subst this
  apply Af;apply AB
  refine B9 d [emp] Vs.emp ?_
  (refine Al rfl<|Aa<|Af<|Ad<|Al rfl<|Tc rfl rfl<|Aa<|Bj rfl<|Ad<|Al rfl<|Aa<|An ?_)
  exact BO (L':=[emp]) rfl (Adb _) ⟨rfl,emp,rfl,Ap.nil⟩
 |some a=>
  (refine Ad<|Al rfl<|Aa<|Af<|Ad<|Al rfl<|TI rfl rfl<|Aa<|AS rfl<|Ak<|Ad ?_)
  refine DE (cs:=[]) (by omega) rfl (fun b8 T8=>?_)
  (apply Al;rfl)
  refine EL 0 rfl rfl (Ap.KZ (R:=Bb) (sz:=1)) rfl (RSl.src (R:=Bb) (xs:=xs) hv' CX (by omega) _) (by omega) (by simp;omega) (by simp;omega) (fun v5 h5 hrow5=>?_)
  (refine AJ<|Aa<|An ?_)
  exact BO (L':=[h5]) rfl (Adb _) ⟨rfl,h5,rfl,hrow5⟩
end Go.Gk.Node
end
section
namespace Go.Gk.Pgr
open Go Go.Gk Go.Gk.Dev Go.Gk.Cch Go.Gk.Node
attribute [local irreducible] gwp gws xwp
variable{d:Ac}{s:PD}
abbrev kI(k:Int):Value:=.int .i64 k
abbrev mpI(mb:Nat)(ms:List (Int×Value×Nat))(clk:Nat):Ac:=mp kI id mb ms clk
def MH(d:Ac)(frm:Nat)(kinds:List Int)(fb:Nat→Sec)(ms:List (Int×Value×Nat)):Prop:=∀i,i<kinds.length→kinds.getD i 0=1→∃v,ET ((frm+i:Nat):Int) ms=some v∧AM d v (fb i)∧(fb i).length=256
def MH.mono{d'}{frm:Nat}{kinds:List Int}{fb:Nat→Sec}{ms:List (Int×Value×Nat)}(h:MH d frm kinds fb ms)(hl:Le d d'):MH d' frm kinds fb ms:=fun i hi hk=>
 let ⟨v,h1,h2,h3⟩:=h i hi hk
 ⟨v,h1,h2.mono hl,h3⟩
def Pg(d:Ac)(s:PD)(dv pv:Value)(L:List Ac):Prop:=
 ∃b T cv bk cp hk mb ms clk c LC LD bd,pv=pZ b∧dv=pZ bd∧
  L=bx b T [dv,cv,vZ s.frm,.slice (some ⟨bk,0,none⟩) s.kinds.length cp,.map (some mb),vZ (wr s.round),vZ (wr s.tc)]::hk::mpI mb ms clk::(LC++LD)∧
  Ap 1 Bb d (.slice (some ⟨bk,0,none⟩) s.kinds.length cp) s.kinds hk∧MH d s.frm s.kinds s.fb ms∧Ca d c dv cv LC∧Dv d ⟨s.syn,[]⟩ dv LD∧CJ s c∧Good s
def Pg.mono{d' dv pv L}(h:Pg d s dv pv L)(hl:Le d d'):Pg d' s dv pv L:=
 let ⟨b,T,cv,bk,cp,hk,mb,ms,clk,c,LC,LD,bd,h1,h2,h3,h4,h5,h6,h7,h8,h9⟩:=h
 ⟨b,T,cv,bk,cp,hk,mb,ms,clk,c,LC,LD,bd,h1,h2,h3,Ap.mono (R:=Bb) B2 h4 hl,h5.mono hl,h6.mono hl,h7.mono hl,h8,h9⟩
def Pg.ptr{dv pv L}(h:Pg d s dv pv L):∃b,pv=pZ b:=let ⟨b,_,_,_,_,_,_,_,_,_,_,_,_,h1,_⟩:=h;⟨b,h1⟩
def Pg.Fm{dv pv L}(h:Pg d s dv pv L):Good s:=let ⟨_,_,_,_,_,_,_,_,_,_,_,_,_,_,_,_,_,_,_,_,_,h9⟩:=h;h9
def Pg.mk{b:Nat}{T cv}{bk cp n:Nat}{hk}{mb:Nat}{ms:List (Int×Value×Nat)}{clk:Nat}{c:CD}{LC LD}{bd:Nat}(hn:s.kinds.length=n)
  (h4:Ap 1 Bb d (.slice (some ⟨bk,0,none⟩) n cp) s.kinds hk) (h5:MH d s.frm s.kinds s.fb ms) (h6:Ca d c (pZ bd) cv LC) (h7:Dv d ⟨s.syn,[]⟩ (pZ bd) LD) (h8:CJ s c) (h9:Good s):
  Pg d s (pZ bd) (pZ b) (bx b T [pZ bd,cv,vZ s.frm,.slice (some ⟨bk,0,none⟩) n cp,.map (some mb),vZ (wr s.round),vZ (wr s.tc)]::hk::mpI mb ms clk::(LC++LD)):=by
 subst hn
 exact⟨b,T,cv,bk,cp,hk,mb,ms,clk,c,LC,LD,bd,rfl,rfl,rfl,h4,h5,h6,h7,h8,h9⟩
def EH(P:Program)(f:FuncId):Prop:=∀{d}{b bd:Nat}{T l},CV P f [pZ b] d [bx b T (.pointer (some ⟨bd,0,none⟩)::l)] (.bool false)
def LJ:A5:=⟨12,[(.tmp 2)],(sR (o1 2 (.mv (.const (.bool false))) .done) (sR (om 3 0<|o1 4 (.eqp false 3 (.const (.pointer none)))<|om 5 4<|gF 6 5 0<|oF 7 5 (.nilc 6)<|oF 8 5 (.fld 0 7)<|oF 9 5 (.ld none 8)<|oF 10 5 (.eqp false 9 (.const (.pointer none)))<|o1 11 (.pick 5 (.const (.bool true)) 10)<|om 2 11 .done) .ret))⟩
def YM{P f}(hd:dec P f=some LJ):EH P f:=by
 intro d b bd T l;refine AF hd (Ada rfl) ?_;show gwp P _ _ _ _ _;(refine Ad<|Ae rfl<|Aa<|Ad<|Am rfl<|Dk rfl rfl<|Ae rfl<|Ah rfl<|Am rfl<|Ah rfl<|Au rfl<|Ah rfl<|Ai rfl<|Ah rfl<|Ag rfl (Aj 0 rfl rfl)<|Ah rfl<|Dk rfl rfl<|Aw rfl rfl<|Ae rfl<|Aa<|An ?_);exact JY rfl (Adb _)
def Hl(frm:Nat)(ks:List Int)(k:Int):Int:=if (frm:Int)≤k∧k<(frm:Int)+ks.length then ks.getD (k - frm).toNat 0 else -1
def Ju(P:Program)(f:FuncId):Prop:=∀{d}{b bk cp frm:Nat}{T x0 x1 x4 x5 x6 hk}{ks:List Int}{k:Int},Ap 1 Bb d (.slice (some ⟨bk,0,none⟩) ks.length cp) ks hk→frm≤8192→
 CV P f [pZ b,vZ k] d [bx b T [x0,x1,vZ frm,.slice (some ⟨bk,0,none⟩) ks.length cp,x4,x5,x6],hk] (vZ (Hl frm ks k))
def K0:A5:=⟨37,[(.tmp 4)],(sR (o1 4 (.mv z0) .done) (.seq (.seq (.reg true (pm 5 1<|pm 6 0<|p1 7 (.nilc 6)<|p1 8 (.fld 2 7)<|pl 9 8<|p1 10 (.bin .lss 5 9)<|pm 11 10 (.op true ⟨(some 12),(some (11,false)),(.mv 1)⟩ (.op true ⟨(some 13),(some (11,false)),(.mv 0)⟩ (.op true ⟨(some 14),(some (11,false)),(.nilc 13)⟩ (.op true ⟨(some 15),(some (11,false)),(.fld 2 14)⟩ (.op true ⟨(some 16),(some (11,false)),(.ld none 15)⟩ (.op true ⟨(some 17),(some (11,false)),(.mv 0)⟩ (.op true ⟨(some 18),(some (11,false)),(.nilc 17)⟩ (.op true ⟨(some 19),(some (11,false)),(.fld 3 18)⟩ (.op true ⟨(some 20),(some (11,false)),(.ld none 19)⟩ (.op true ⟨(some 21),(some (11,false)),(.len 20)⟩ (.op true ⟨(some 22),(some (11,false)),(.bin .add 16 21)⟩ (.op true ⟨(some 23),(some (11,false)),(.bin .geq 12 22)⟩ (p1 24 (.pick 11 (.const (.bool true)) 23) .done))))))))))))))) (.cond 24 (sR (o1 4 (.mv (kZ (-1))) .done) .ret) .skip)) (.seq (.reg true (pm 25 0<|p1 26 (.nilc 25)<|p1 27 (.fld 3 26)<|pl 28 27<|pm 29 1<|pm 30 0<|p1 31 (.nilc 30)<|p1 32 (.fld 2 31)<|pl 33 32<|p1 34 (.bin .sub 29 33)<|p1 35 (.idx 1 28 34)<|pl 36 35 (.bar (pm 4 36 .done)))) .ret)))⟩
def Aay{P f}(hd:dec P f=some K0):Ju P f:=by
 intro d b bk cp frm T x0 x1 x4 x5 x6 hk ks k hg hf;have hlen:=hg.B3;refine AF hd (Ada rfl) ?_;show gwp P _ _ _ _ _;by_cases h1:k<frm
 ·(refine Ad<|Ab rfl<|Aa<|Af<|Af<|Bu<|Ab rfl<|Am rfl<|Au rfl<|Ai rfl<|Ag rfl (Aj 0 rfl rfl)<|AE rfl rfl<|Ae rfl<|Bp rfl (by omega)<|Aq rfl<|Aq rfl<|Aq rfl<|Aq rfl<|Aq rfl<|Aq rfl<|Aq rfl<|Aq rfl<|Aq rfl<|Aq rfl<|Aq rfl<|Aq rfl<|AI rfl rfl<|A9<|Bj rfl<|Ad<|Ab rfl<|Aa<|An ?_);rw[show Hl frm ks k= -1 by unfold Hl;rw[if_neg (by omega)]];exact JY rfl (Adb _)
 ·by_cases h2:k<(frm:Int)+ks.length
  ·obtain⟨m,hm⟩:∃m:Nat,k=(frm:Int)+m:=⟨(k - frm).toNat,by omega⟩
   subst hm;have hml:m<ks.length:=by omega
   obtain⟨b1,T1,l1,c1,cs,q1,rfl,hcl,hcs,hle,⟨rfl, -, -⟩, -⟩:=Ap.at (by omega) hg hml;cases q1;have c0:=hcs 0 _ rfl;rw[show Hl frm ks ((frm:Int)+m)=ks[m] by
    unfold Hl;rw[if_pos (by omega),show((frm:Int)+m - frm).toNat=m by omega,Adh,Ade hml];rfl]
   (refine Ad<|Ab rfl<|Aa<|Af<|Af<|Bu<|Ab rfl<|Am rfl<|Au rfl<|Ai rfl<|Ag rfl (Aj 0 rfl rfl)<|AE rfl rfl<|Ae rfl<|Bf rfl (by omega)<|Ah rfl<|Ab rfl<|Ah rfl<|Am rfl<|Ah rfl<|Au rfl<|Ah rfl<|Ai rfl<|Ah rfl<|Ag rfl (Aj 0 rfl rfl)<|Ah rfl<|Am rfl<|Ah rfl<|Au rfl<|Ah rfl<|Ai rfl<|Ah rfl<|Ag rfl (Aj 0 rfl rfl)<|Ah rfl<|AK rfl<|Ah rfl<|AL rfl rfl (by omega) (by omega)<|Ah rfl<|DV rfl rfl<|Aw rfl rfl<|A9<|Ar rfl (by omega)<|Ak<|Af<|Bu<|Am rfl<|Au rfl<|Ai rfl<|Ag rfl (Aj 0 rfl rfl)<|Ab rfl<|Am rfl<|Au rfl<|Ai rfl<|Ag rfl (Aj 0 rfl rfl)<|C6 rfl rfl (by omega) (by omega) ?_);refine Bz m rfl rfl (by omega) hml ?_;(refine Ag rfl (Aj 1 rfl (by assumption))<|Ch<|Ab rfl<|Aa<|An ?_);exact JY rfl (Adb _)
  ·(refine Ad<|Ab rfl<|Aa<|Af<|Af<|Bu<|Ab rfl<|Am rfl<|Au rfl<|Ai rfl<|Ag rfl (Aj 0 rfl rfl)<|AE rfl rfl<|Ae rfl<|Bf rfl (by omega)<|Ah rfl<|Ab rfl<|Ah rfl<|Am rfl<|Ah rfl<|Au rfl<|Ah rfl<|Ai rfl<|Ah rfl<|Ag rfl (Aj 0 rfl rfl)<|Ah rfl<|Am rfl<|Ah rfl<|Au rfl<|Ah rfl<|Ai rfl<|Ah rfl<|Ag rfl (Aj 0 rfl rfl)<|Ah rfl<|AK rfl<|Ah rfl<|AL rfl rfl (by omega) (by omega)<|Ah rfl<|DV rfl rfl<|Aw rfl rfl<|A9<|Ax rfl (by omega)<|Ad<|Ab rfl<|Aa<|An ?_);rw[show Hl frm ks k= -1 by unfold Hl;rw[if_neg (by omega)]];exact JY rfl (Adb _)
def Qf(P:Program)(f:FuncId):Prop:=∀{d v}{xs:List Int}{x:Int},RSl 1 Bb d v xs→C2 P f [v,vZ x] d (vZ (match Db x xs with|some i=>(i:Int)|none=> -1))
def Jh:A5:=⟨19,[(.tmp 4)],(sR (o1 4 (.mv z0) .done) (.seq (sR (om 6 0<|oL 7 6<|o1 8 (.mv z0) .done) (.block 0 (.loop (sR (ob 9 .lss 8 7 .done) (.seq (.cond 9 .skip (.exit 0)) (.seq (.block 1 (sR (om 10 8<|om 5 10 .done) (sR (om 11 1<|om 12 0<|om 13 5<|oI 14 1 12 13<|ol 15 14<|ob 16 .eql 11 15 .done) (.cond 16 (sR (om 17 5<|om 4 17 .done) .ret) .skip)))) (rG (ob 18 .add 8 z1<|om 8 18 .done)))))))) (sR (o1 4 (.mv (kZ (-1))) .done) .ret)))⟩
def Zz{P f}(hd:dec P f=some Jh):Qf P f:=by
 intro d v xs x hv;have hlen:=hv.B3;refine AF hd (Ada rfl) ?_;show gwp P _ _ _ _ _;(refine Ad<|Ab rfl<|Aa<|Af<|Ad<|AJ<|BL rfl (by assumption)<|Ab rfl<|Aa<|Ay ?_);refine C8 (α:=Nat) (fun i=>[(0,v),(1,vZ x),(7,vZ xs.length),(8,vZ i)]) (fun _=>[]) (fun i=>i≤xs.length∧Db x xs=(Db x (xs.drop i)).map (·+i)) (fun i=>xs.length - i) 0 ⟨rfl,rfl,rfl,rfl,trivial⟩ rfl ⟨by omega,by simp⟩ ?_;rintro i ρ ⟨hi,hF⟩;by_cases e:i<xs.length
 ·rw[Ue e] at hF;by_cases hx:x=xs[i]
  ·(refine Ad<|AE rfl rfl<|Aa<|Af<|Ax rfl (by omega)<|Ak<|Af<|Ay<|Ad<|Ab rfl<|Ab rfl<|Aa<|Ad<|Ab rfl<|AJ<|Ab rfl<|BM (sz:=1) (R:=Bb) (by rfl) (by assumption) (by rfl) rfl (by omega) ?_;rintro _ _ _ _ _ ⟨rfl,_,_⟩;refine Ag rfl (B4 (by assumption) rfl)<|AO rfl rfl<|Aa<|Ax rfl (by omega)<|Ad<|Ab rfl<|Ab rfl<|Aa<|An ?_);rw[if_pos hx,Aga,Afj] at hF;refine HV rfl ?_;rw[hF]
  ·(refine Ad<|AE rfl rfl<|Aa<|Af<|Ax rfl (by omega)<|Ak<|Af<|Ay<|Ad<|Ab rfl<|Ab rfl<|Aa<|Ad<|Ab rfl<|AJ<|Ab rfl<|BM (sz:=1) (R:=Bb) (by rfl) (by assumption) (by rfl) rfl (by omega) ?_;rintro _ _ _ _ _ ⟨rfl,_,_⟩;refine Ag rfl (B4 (by assumption) rfl)<|AO rfl rfl<|Aa<|Ar rfl (by omega)<|Ak<|AB<|AL rfl rfl (by omega) (by omega)<|Ab rfl<|Aa ?_);rw[if_neg hx,Option.map_map] at hF;exact⟨i+1,by omega,⟨rfl,rfl,rfl,rfl,trivial⟩,rfl,rfl,e,by rw[hF];congr 1;funext z;simp only[Function.comp];omega⟩
 ·(refine Ad<|AE rfl rfl<|Aa<|Af<|Ar rfl (by omega)<|Bg<|Ad<|Ab rfl<|Aa<|An ?_);have:Db x xs=none:=by rw[hF,Agc (by omega)];rfl
  refine HV rfl ?_;rw[this]
def HP(P:Program)(f:FuncId):Prop:=∀{d}{mb clk:Nat}{ms:List (Int×Value×Nat)},Le (mpI mb ms clk) d→Av P f [.map (some mb)] d [] (Ret fun r d' L'=>d'=d∧∃q,r=.map (some q)∧L'=[mpI q ms clk])
def F2(a0:Nat):A5:=⟨9,[(.tmp 2)],(sR (o1 2 (.mv (.const (.map none))) .done) (.seq (sR (om 3 0<|o1 4 (.eqm false 3 (.const (.map none))) .done) (.cond 4 (sR (o1 2 (.mv (.const (.map none))) .done) .ret) .skip)) (sR (om 5 0<|o1 6 (.mki a0 5)<|o1 7 (.mop (.cln 6))<|o1 8 (.tas a0 7)<|om 2 8 .done) .ret)))⟩
def Uo{P f}{t1:Nat}(hd:dec P f=some (F2 t1)):HP P f:=by
 intro d mb clk ms hm;refine AF hd (Ada rfl) ?_;show gwp P _ _ _ _ _;(refine Ad<|AJ<|Aa<|Af<|Ad<|AJ ?_);refine AbL rfl rfl ?_;(refine Aa<|AS rfl<|Ak<|Ad<|AJ<|AcJ ?_);refine AcK rfl ⟨d,.inl rfl,hm _ _ (Cv _ _)⟩ (fun q=>?_);refine AcD rfl ?_;(refine AJ<|Aa<|An ?_);exact BO rfl (Adb _) ⟨rfl,q,rfl,rfl⟩
end Go.Gk.Pgr
end
