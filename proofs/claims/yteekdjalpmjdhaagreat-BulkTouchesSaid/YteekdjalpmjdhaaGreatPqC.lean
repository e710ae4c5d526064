/-
  Our own texts, one behind the other: Gk13 Gk14 Gk15 Gk39 Gk16 Gk17 Gk18 Gk23 Gk30 Gk31 Gk24 GkE0 GkE1 GkC0 GkC4 GkPg0 GkE2 GkC1 GkC2 GkC3 GkCl GkPg1.
-/
import Derived.Test.YteekdjalpmjdhaaGreatPqB
set_option linter.defProp false
set_option linter.unusedVariables false
set_option linter.unusedSimpArgs false
open Nat renaming le_of_ble_eq_true→Aea,le_refl→Aef,mul_le_mul_right→Afs,zero_add→Agg,mul_one→Agn,le_trans→Agp,add_mul→Agt,not_lt_zero→Ahc,mod_eq_of_lt→Ahl,mod_lt→Ahp,sub_self→Aia,one_mul→Aih
open List.Sublist renaming refl→Aeb,cons_cons→Agi
open Bool renaming false_eq_true→Aeh
open List renaming getElem?_eq_getElem→Aed,getD_eq_getElem?_getD→Aee,append_assoc→Aeg,perm_append_comm→Aei,mem_append→Aej,length_append→Aek,eq_nil_of_length_eq_zero→Ael,length_drop→Aen,mem_cons_self→Aeo,length_cons→Aep,getElem?_eq_some_iff→Aeq,length_take→Aer,take_succ_eq_append_getElem→Aes,all_eq_true→Aet,replicate→Aeu,mem_cons_of_mem→Aev,mem_singleton→Aew,mem_cons→Aex,getElem_mem→Aey,range→Afb,sublist_cons_self→Afd,length_set→Aff,append_nil→Afh,nil_append→Afi,length_replicate→Afk,drop_eq_getElem_cons→Afl,getElem?_eq_none→Afo,take_length→Afq,take_of_length_le→Afu,length_map→Afv,getElem?_append_left→Afy,cons_append→Afz,getElem_of_mem→Aga,getElem?_drop→Agb,getElem?_append_right→Agc,getElem?_take_of_lt→Agd,map_append→Agj,getElem?_map→Ags,map_cons→Agw,getD_cons_succ→Agx,drop_of_length_le→Aha,getD_cons_zero→Ahd,drop_length→Ahg,mem_range→Ahj,ext_getElem?→Ahm,set_eq_of_length_le→Ahn,nodup_cons→Aht,set_cons_succ→Aif,getElem_append_right→Aii,sublist_append_left→Aim,getElem_append_left→Ain,foldl_cons→Aix,ext_getElem→Ajf,all_cons→Ajq,map_drop→Ajr,map_take→Ajs
open Option renaming bind_some→Age,getD_some→Ahf,map_some→Ahi,isSome_none→Aiv
section
namespace Go.Gk
open Go
variable{T:TypeId}{x y ch:Operand}{j:Int}{f:FuncId}{v z:Value}{a b:Ee}{pre post:GS}{dst:Option Nat}{cap:Nat}{tm:Bool}
section
def chunk(cs:List Value)(i sz:Nat):List Value:=(cs.drop (i*sz)).take sz
def As{α}(sz:Nat)(R:Ac→List Value→α→Prop)(d:Ac)(v:Value)(xs:List α)(h:Ac):Prop:=
 ∃cs,BV sz v xs.length cs h∧∀i (hi:i<xs.length),R d (chunk cs i sz) xs[i]
def Src{α}(sz:Nat)(R:Ac→List Value→α→Prop)(d:Ac)(Lk:List Ac)(w:Value)(ys:List α):Prop:=
 ∃news,RdX d Lk w ys.length sz news∧(news.all (·.oneCell'))=true∧∀i (hi:i<ys.length),R d (chunk news i sz) ys[i]
def FC{α}(R:Ac→List Value→α→Prop):Prop:=∀d cs x,R d cs x→(cs.all (·.oneCell'))=true
def FZ{α}(R:Ac→List Value→α→Prop):Prop:=∀{d d' cs x},Le d d'→R d cs x→R d' cs x
def ES:FC AH:=fun _ _ _ h=>by cases h;rfl
def DF:FC Bh:=fun _ _ _ h=>by obtain⟨rfl,_⟩:=h;rfl
def Zm:FC Me:=fun _ _ _ h=>by obtain⟨rfl,_⟩:=h;rfl
def E6:FC RBs:=fun _ _ _ h=>by obtain⟨_,rfl,_,_,_,_,rfl,_⟩:=h;rfl
def AL:FZ AH:=fun _ h=>h
def B6:FZ Bh:=fun _ h=>h
def AaL:FZ Me:=fun _ h=>h
def C6:FZ RBs:=fun hl ⟨u,h1,h2⟩=>⟨u,h1,h2.mono hl⟩
section
variable {α:Type}{sz:Nat}{R:Ac→List Value→α→Prop}{d:Ac}{v:Value}{xs:List α}{h:Ac}
def Jy{cs}{n i:Nat}(hl:cs.length=n*sz)(hi:i<n):(chunk cs i sz).length=sz:=by
 have:(i+1)*sz≤n*sz:=Afs sz hi;rw[Agt,Aih] at this;simp only[chunk,Aer,Aen,hl];omega
def F9{cs ds}{n i:Nat}(hl:cs.length=n*sz)(hi:i<n):chunk (cs++ds) i sz=chunk cs i sz:=by
 have:(i+1)*sz≤n*sz:=Afs sz hi;rw[Agt,Aih] at this;simp only[chunk];rw[List.drop_append_of_le_length (by omega),List.take_append_of_le_length (by simp only[Aen];omega)]
def FR{cs ds}{n i:Nat}(hl:cs.length=n*sz)(hi:n≤i):chunk (cs++ds) i sz=chunk ds (i - n) sz:=by
 have h1:n*sz≤i*sz:=Afs sz hi;simp only[chunk];rw[List.drop_append,Aha (by omega),Afi,hl,Nat.sub_mul]
def As.nil:As sz R d nV [] emp:=⟨[],BV.nil sz,fun i hi=>absurd hi (Ahc i)⟩
def As.JR{b:Nat}:As sz R d (.slice (some ⟨b,0,none⟩) 0 0) [] (bx b T []):=⟨[],BV.lit (by simp) (by simp),fun i hi=>absurd hi (Ahc i)⟩
def As.mono(hR:FZ R)(o:As sz R d v xs h){d'}(hl:Le d d'):As sz R d' v xs h:=
 let ⟨cs,h1,h2⟩:=o
 ⟨cs,h1,fun i hi=>hR hl (h2 i hi)⟩
def As.BF(o:As sz R d v xs h):xs.length≤140737488355328:=let ⟨_,h1,_⟩:=o;h1.2.1
def As.val(o:As sz R d v xs h):∃a c,v=.slice a xs.length c:=by
 obtain⟨cs,h1,_⟩:=o;obtain⟨a,b,c,e,_⟩:=h1.slice;exact⟨a,c,e⟩
def RSl.val(o:RSl sz R d v xs):∃a c,v=.slice a xs.length c:=let ⟨a,c,_,_,e,_⟩:=o;⟨a,c,e⟩
def As.rsl(o:As sz R d v xs h)(hR:FZ R)(hsz:0<sz){d'}(hl:Le d d')(hh:Le h d'):RSl sz R d' v xs:=by
 obtain⟨cs,h1,h2⟩:=o;exact h1.rsl hh Z hsz (fun i hi=>hR hl (h2 i hi))
def As.src(o:As sz R d v xs h)(hc:FC R){Lk}(hk:h∈Lk):Src sz R d Lk v xs:=by
 obtain⟨cs,h1,h2⟩:=o;refine⟨cs,h1.rdx hk,?_,h2⟩
 have hl:=h1.1;rw[Aet];intro u hu;obtain⟨j,hj,rfl⟩:=Aga hu;by_cases h0:sz=0
 ·subst h0;simp at hl;subst hl;simp at hj
 ·have hq:j / sz<xs.length:=by rw[Nat.div_lt_iff_lt_mul (by omega)];omega
  have:=Aet.1 (hc _ _ _ (h2 _ hq)) cs[j] (by
   have hdm:=Nat.div_add_mod' j sz;have hm:=Ahp j (show 0<sz by omega);rw[List.mem_iff_getElem?];refine⟨j % sz,?_⟩
   rw[chunk,Agd hm,Agb,hdm,Aed hj])
  exact this
def RSl.src(o:RSl sz R d v xs)(hc:FC R)(_:0<sz)(Lk:List Ac):Src sz R d Lk v xs:=by
 obtain⟨a,c,b,o,rfl,h2,h3,h4,h5,h6,h7,h8⟩:=o;have key:∀n,n≤xs.length→∃news:List Value,news.length=n*sz∧(∀j u,news[j]?=some u→DC d b (o+j) u)∧(news.all (·.oneCell'))=true∧∀i (hi:i<n) (hi':i<xs.length),R d (chunk news i sz) xs[i]:=by
  intro n;induction n with
  |zero=>exact fun _=>⟨[],by simp,fun j u hu=>by simp at hu,Z,fun i hi=>absurd hi (Ahc i)⟩
  |succ n ih=>
   intro hn
   obtain⟨news,k1,k2,k3,k4⟩:=ih (by omega)
   obtain⟨cs,m1,m2,m3⟩:=h8 n (by omega)
   refine⟨news++cs,by simp[k1,m1,Agt],fun j u hu=>?_,?_,fun i hi hi'=>?_⟩
   ·rw[List.getElem?_append] at hu
    split at hu
    ·exact k2 j u hu
    ·rename_i hj
     have:=m2.at hu
     rw[k1] at this
     rw[show o+j=o+n*sz+(j - n*sz) by omega]
     exact this
   ·rw[List.all_append,k3,hc _ _ _ m3];rfl
   ·by_cases e:i<n
    ·rw[F9 k1 e];exact k4 i e hi'
    ·obtain rfl:i=n:=by omega
     rw[FR k1 (Aef _),Aia]
     have:chunk cs 0 sz=cs:=by simp[chunk,←m1]
     rw[this];exact m3
 obtain⟨news,k1,k2,k3,k4⟩:=key xs.length (Aef _);refine⟨news,⟨a,c,Z,k1,fun e=>?_,fun a' ha i u hu=>?_⟩,k3,fun i hi=>k4 i hi hi⟩
 ·cases xs with
  |nil=>exact Ael (by simpa using k1)
  |cons x xs=>have:=h2 (by simp);rw[e] at this;cases this
 ·have h0:xs.length≠0:=by
   intro h0;rw[h0,Nat.zero_mul] at k1;rw[Ael k1] at hu;simp at hu
  have e:=h2 h0;rw[ha] at e;cases e;rw[Addr.add_lit];exact BB (k2 i u hu)
def Src.lit{Lk}{b c n:Nat}{cs}{ys:List α}(i:Nat)(hi:Lk[i]?=some (bx b T cs))(hn:n=ys.length)(hl:cs.length=ys.length*sz)(h1:(cs.all (·.oneCell'))=true)
  (h2:∀i (hi:i<ys.length),R d (chunk cs i sz) ys[i]):Src sz R d Lk (.slice (some ⟨b,0,none⟩) n c) ys:=by
 subst hn
 exact⟨cs,RdX.lit i hi hl,h1,h2⟩
def As.lit{b n:Nat}{cs}(hn:n=xs.length)(hl:cs.length=xs.length*sz)(hx:xs.length≤140737488355328)(h2:∀i (hi:i<xs.length),R d (chunk cs i sz) xs[i]):
  As sz R d (.slice (some ⟨b,0,none⟩) n n) xs (bx b T cs):=by
 subst hn
 exact⟨cs,BV.lit hl hx,h2⟩
def As.D2{b:Nat}{cs}{x:α}(hl:cs.length=sz)(h2:R d cs x):As sz R d (.slice (some ⟨b,0,none⟩) 1 1) [x] (bx b T cs):=
 As.lit Z (by simp[hl]) (by simp) (fun i hi=>by
  obtain rfl:i=0:=by simpa using hi
  have:chunk cs 0 sz=cs:=by simp[chunk,←hl]
  rw[this];exact h2)
end
def As.QW{d}{b n:Nat}{cs l}(e:cs=l.map Av)(hn:n=l.length)(hx:l.length≤140737488355328):As 1 AH d (.slice (some ⟨b,0,none⟩) n n) l (bx b T cs):=by
 subst e;refine As.lit hn (by simp) hx (fun i hi=>?_);simp only[AH,chunk,Agn,←Ajr,←Ajs];rw[Afl hi];rfl
def As.AdK{d}{b n:Nat}{cs}{l:List Int}(e:cs=l.map (Value.int .i64))(hb:∀x∈l, -9223372036854775808≤x∧x≤9223372036854775807)(hn:n=l.length)(hx:l.length≤140737488355328):As 1 Bh d (.slice (some ⟨b,0,none⟩) n n) l (bx b T cs):=by
 subst e;refine As.lit hn (by simp) hx (fun i hi=>?_);simp only[Bh,chunk,Agn,←Ajr,←Ajs];rw[Afl hi];exact⟨Z,hb _ (Aey hi)⟩
def As.bytes{d v xs h}(o:As 1 AH d v xs h):BV 1 v xs.length (xs.map Av) h:=by
 obtain⟨cs,h1,h2⟩:=o;have hl:=h1.1;have:cs=xs.map Av:=by
  apply Ajf
  ·simp at hl⊢;exact hl
  ·intro i h3 h4;have h5:i<xs.length:=by simpa using h4
   have h6:chunk cs i 1=[Av xs[i]]:=h2 i h5;simp only[chunk,Agn] at h6;have h7:=congrArg (·[0]?) h6;simp only[Agd (show 0<1 by omega),Agb,Nat.add_zero,Aed h3,List.getElem?_cons_zero,Option.some.injEq] at h7;simp[h7]
 rw[←this];exact h1
section
variable {P:Program}{pan:List PanicEntry→AU}{Qn:Env→AU}{Ls L:List Ac}{ρ:Env}{d:Ac}{s:GS}{t:Nat}{tk:Bool}
def Fk{α}{sz by_:Nat}{R z}(i:Nat){v w}{xs ys:List α}{h}(ex:ev ρ x=v)(hi:L[i]?=some h)(ho:As sz R d v xs h)
  (ey:ev ρ y=w) (hs:Src sz R d (Ls++L++L) w ys) (hsz:0<sz) (hm:xs.length+ys.length≤140737488355328) (hb:(xs.length+ys.length)*by_≤140737488355328)
  (k:∀v' h',As sz R d v' (xs++ys) h'→gws P pan Qn s Ls (upd ρ t v') d (L.set i h')):gws P pan Qn (.op false ⟨some t,none,.app sz by_ z x y⟩ s) Ls ρ d L:=by
 obtain⟨cs,h1,h2⟩:=ho
 obtain⟨news,k1,k2,k3⟩:=hs
 have hl:=h1.1
 refine Adu i ex hi h1 ey k1 k2 hsz hm hb (fun v' h' o=>k v' h' ⟨cs++news,by rw[Aek];exact o,fun j hj=>?_⟩)
 by_cases e:j<xs.length
 ·rw[F9 hl e,Ain e];exact h2 j e
 ·rw[FR hl (by omega),Aii (by omega)]
  exact k3 _ (by simp at hj;omega)
def Dj{α:Type}{sz by_:Nat}{R:Ac→List Value→α→Prop}{z:List Value}{x y:Operand}(i:Nat){v w:Value}{xs ys:List α}{h g:Ac}(ex:ev ρ x=v)(hi:L[i]?=some h)(ho:As sz R d v xs h)
  (ey:ev ρ y=w) (hs:As sz R d w ys g) (hc:FC R) (hsz:0<sz) (hm:xs.length+ys.length≤140737488355328) (hb:(xs.length+ys.length)*by_≤140737488355328)
  (k:∀v' h',As sz R d v' (xs++ys) h'→gws P pan Qn s Ls (upd ρ t v') d (L.set i h')):gws P pan Qn (.op false ⟨some t,none,.app sz by_ z x y⟩ s) Ls ρ d (g::L):=by
 obtain⟨cs,h1,h2⟩:=ho
 obtain⟨news,k1,k2,k3⟩:=(hs.src hc (by simp):Src sz R d (Ls++(g::L)++(g::L)) w ys)
 have hl:=h1.1
 refine Qz (i+1) ex (by simpa using hi) h1 ey k1 k2 hsz hm hb (fun v' h' o=>⟨d,L.set i h',?_,k v' h' ⟨cs++news,by rw[Aek];exact o,fun j hj=>?_⟩⟩)
 ·rw[Aif]
  exact Vs.drop (Afd _ _)
 ·by_cases e:j<xs.length
  ·rw[F9 hl e,Ain e];exact h2 j e
  ·rw[FR hl (by omega),Aii (by omega)]
   exact k3 _ (by simp at hj;omega)
def Y3{α:Type}{sz:Nat}{R:Ac→List Value→α→Prop}{x:Operand}{v:Value}{xs:List α}{h:Ac}(ex:ev ρ x=v)(hr:As sz R d v xs h)(k:gws P pan Qn s Ls (upd ρ t (vZ xs.length)) d L):
  gws P pan Qn (.op tk ⟨some t,none,.len x⟩ s) Ls ρ d L:=by
 obtain⟨a,c,rfl⟩:=hr.val
 exact AI ex k
def Bg{α}{sz:Nat}{R i v}{xs:List α}{k}{m:Nat}(ex:ev ρ x=v)(hr:RSl sz R d v xs)(ei:ev ρ i=.int k j)(hm:j=(m:Int))(hl:m<xs.length)
  (h:∀b o cs,cs.length=sz→DCs d b o cs→R d cs xs[m]→gws P pan Qn s Ls (upd ρ t (.pointer (some ⟨b,o,none⟩))) d L):gws P pan Qn (.op tk ⟨some t,none,.idx sz x i⟩ s) Ls ρ d L:=by
 obtain⟨a,c,b,o,rfl,h2,h3,h4,h5,h6,h7,h8⟩:=hr
 obtain⟨cs,k1,k2,k3⟩:=h8 m hl
 exact BL m ex ei hm hl h2 (h b _ cs k1 k2 k3)
end
section
variable {P:Program}{Q:B5}{ρ:Env}{d:Ac}{L:List Ac}
def Ab0{α:Type}{a:Cm}(slots:α→Value→List (Nat×Value))(inv:α→Value→Ac→Ac→List Ac→Prop)(meas:α→Nat)(x0:α)(v0:Value)(h0:Ac)(hs:BG ρ (slots x0 v0))(i0:inv x0 v0 h0 d L)
  (round:∀x v h ρ d L,inv x v h d L→gwp P a {Q with n:=fun ρ d L=>∃x' v' h',meas x'<meas x∧BG ρ (slots x' v')∧inv x' v' h' d L} (JV ρ (slots x v)) d L):gwp P (.loop a) Q ρ d L:=
 B8 (α:=α×Value×Ac) (fun x=>slots x.1 x.2.1) (fun x d L=>inv x.1 x.2.1 x.2.2 d L) (fun x=>meas x.1) (x0,v0,h0) hs i0
  (fun x ρ d L hi=>K2 (fun _ _ _ ⟨x',v',h',a,b,c⟩=>⟨(x',v',h'),a,b,c⟩) (round x.1 x.2.1 x.2.2 ρ d L hi))
end
section
variable {P:Program}{pan:List PanicEntry→AU}{Qn:Env→AU}{Ls L:List Ac}{ρ:Env}{d:Ac}{s t:GS}{g:GOp}
def EP(h1:gws P pan Qn (.op false g s) Ls ρ d L)(h2:gws P pan Qn t Ls ρ d L):gws P pan Qn (.alt g s t) Ls ρ d L:=⟨h1,h2⟩
def Acy(is:List Nat)(hp:is.isPerm (Afb L.length)=true)(h:gws P pan Qn (.op false g s) Ls ρ d (pick L is)):gws P pan Qn (.op false g s) Ls ρ d L:=BS d _ (Vs.pick is hp) h
def F7(h:∃d1 L1,Vs d L d1 L1∧Qn ρ d1 L1):gws P pan Qn .done [] ρ d L:=h
def Aq{C:Addr→Value→Prop}{t:Nat}{v}(e:ρ t=v):Mr ρ C (.tmp t) v:=e.symm
def AW{t n b:Nat}{l}(i:Nat)(e:ρ t=pZ b)(hi:L[i]?=some (bx b T l))(hn:l.length=n):Mr ρ (HC d L) (.cell t (some n)) (.agg l.toArray):=
 ⟨b,0,l,e,hn,fun j u hu=>by rw[Agg];exact Al i hi hu,Z⟩
def XM{res:List GB}{R}(vs:List Value)(hr:GY ρ (HC d L) res vs)(h:∀d',Le d d'→(∀k∈L,Le k d')→R (.returned (Lo vs)) d' []):CL res R ρ d L:=
 let ⟨d',h1,h2,h3⟩:=Vs.HL d L
 ⟨vs,hr,d',[],h1,h d' h2 h3⟩
def Dc{res:List GB}{R}(vs:List Value){L'}(hr:GY ρ (HC d L) res vs)(hs:L'.Sublist L)(h:R (.returned (Lo vs)) d L'):CL res R ρ d L:=
 ⟨vs,hr,d,L',Vs.drop hs,h⟩
end
section
variable {P:Program}{pan:List PanicEntry→AU}{Qn:Env→AU}{Ls L:List Ac}{ρ:Env}{d:Ac}{s:GS}{t:Nat}{tk:Bool}
end
def AA.AdA{P args d L R R'}
  (h:AA P f args d L R) (hr:∀e d' L',Le d d'→R e d' L'→∃d2 L2,Vs d' L' d2 L2∧R' e d2 L2):AA P f args d L R':=
 ⟨h.1,fun F W x=>(h.2 F W x).mono fun e W' ⟨d',L',a,b,c,r⟩=>let ⟨d2,L2,v,r2⟩:=hr e d' L' b r;⟨d2,L2,v.2 F W' a,b.trans v.1,c,r2⟩⟩
def AA.DU{P args d L R R'}
  (h:AA P f args d L (Ret R)) (hr:∀v d' L',Le d d'→R v d' L'→∃d2 L2,Vs d' L' d2 L2∧R' v d2 L2):AA P f args d L (Ret R'):=
 h.AdA (fun e d' L' hl r=>by
  cases e with
  |returned v=>exact hr v d' L' hl r
  |panicked c=>exact r.elim
  |outgrown=>exact r.elim)
def EJ.grow{N:Nat}{v c h d}(r:EJ N v c h)(hN:N≤140737488355328):As 1 AH d v c h:=by
 obtain⟨hc,b,T,rfl,rfl⟩:=r;refine⟨c.map Av,BV.mk (by simp) (by omega) hc (by omega) (by simp;omega) (by simp),fun i hi=>?_⟩
 simp only[AH,chunk,Agn,←Ajr,←Ajs];rw[Afl hi];rfl
end
section
def H9:List Ac→Ac
 |[]=>emp
 |h::L=>join h (H9 L)
def IZ:∀{L h},h∈L→Le h (H9 L)
 |k::L,h,hm=>by
  rcases Aex.1 hm with rfl|hm
  ·exact Le.Az _ _
  ·exact(IZ hm).trans (Le.A6 _ _)
def Py{k}:∀{L},(∀h∈L,E5 k h)→E5 k (H9 L)
 |[],_=>fun _ _ _ _ e=>e.elim
 |h::_,hd=>fun b o o' e e'=>e'.elim (hd h (Aeo ..) b o o' e) (Py (fun h' hm=>hd h' (Aev _ hm)) b o o' e)
def Vs.cons{d d' h L L'}(v:Vs d L d' L'):Vs d (h::L) d' (h::L'):=
 ⟨v.1,fun F W x=>(v.2 (h::F) W (x.perm (List.perm_middle.symm.cons d))).perm (List.perm_middle.cons d')⟩
def Vs.Yr{d L0}:∀{L},L.Pairwise E5→Vs d (H9 L::L0) d (L++L0)
 |[],_=>Vs.drop (Afd _ _)
 |h::L,hp=>by
  rw[List.pairwise_cons] at hp;exact(Vs.split (Py hp.1)).trans (Vs.cons (Vs.Yr hp.2))
def Vs.X5{d L0}:∀{L},Vs d (L++L0) d (H9 L::L0)
 |[]=>Vs.emp
 |_::L=>(Vs.cons (Vs.X5 (L:=L))).trans Vs.join
def Ok.pw{d L F W}(x:Ok (d::(L++F)) W):(d::L).Pairwise E5:=x.1.sublist ((Aim L F).cons_cons d)
def CP.borrow{P vs d L v}(h:∀d1,Le d d1→(∀k∈L,Le k d1)→CP P f vs d1 v):
  AA P f vs d L (Ret fun r d' L'=>r=v∧d'=d∧L'=L):=by
 have h:=h (H9 (d::L)) (IZ (Aeo ..)) (fun k hk=>IZ (Aev _ hk))
 refine⟨h.1,fun F W x=>?_⟩
 have hp:=x.pw
 have y:Ok (H9 (d::L)::([]++F)) W:=by
  have:=(Vs.X5 (d:=emp) (L0:=F) (L:=d::L)).2 [] W (by simpa using x.emp);simpa using this.tail
 refine(h.2 F W y).mono fun e W' ⟨d',L',a,b,c,r⟩=>?_
 cases e with
 |panicked c=>exact r.elim
 |outgrown=>exact r.elim
 |returned u=>
  obtain⟨rfl,rfl,rfl⟩:=r
  refine⟨d,L,?_,Le.refl d,c,Z,Z,Z⟩
  have:=(Vs.Yr (d:=emp) (L0:=F) hp).2 [] W' (by simpa using a.emp)
  simpa using this.tail
section
variable {P:Program}{pan:List PanicEntry→AU}{Qn:Env→AU}{Ls L:List Ac}{ρ:Env}{d:Ac}{s:GS}{t:Nat}{tk:Bool}
def Iz{args vs v}(ea:args.map (ev ρ)=vs)(hc:∀d1,Le d d1→(∀k∈L,Le k d1)→CP P f vs d1 v)
  (h:gws P pan Qn s Ls (upd ρ t v) d L):gws P pan Qn (.op false ⟨some t,none,.call f args⟩ s) Ls ρ d L:=by
 refine FI (R:=fun r d' L'=>r=v∧d'=d∧L'=L) L.length ea (by rw[Afq];exact CP.borrow hc) (fun r d' L' _ ⟨h1,h2,h3⟩=>?_)
 subst h1;subst h2;subst h3
 rw[Ahg,Afh];exact h
def DY{args R vs A B}(hL:L=A++B)(ea:args.map (ev ρ)=vs)(hc:AA P f vs d A (Ret R))
  (h:∀v d' L',Le d d'→R v d' L'→gws P pan Qn s Ls (upd ρ t v) d' (L'++B)):gws P pan Qn (.op false ⟨some t,none,.call f args⟩ s) Ls ρ d L:=by
 subst hL
 refine FI A.length ea (by rw[List.take_left];exact hc) (fun v d' L' hl hr=>?_)
 rw[List.drop_left];exact h v d' L' hl hr
end
def RSl.cut{α}{sz:Nat}{R d a}{n c:Nat}{xs:List α}(hr:RSl sz R d (.slice a n c) xs){l h m:Nat}(h1:l≤h)(h2:h≤m)(h3:m≤c)(h4:h≤xs.length):
  RSl sz R d (.slice (if m=l then a else a.map fun a=>⟨a.block,a.off+l*sz,none⟩) (h - l) (m - l)) ((xs.drop l).take (h - l)):=by
 obtain⟨a',c',b,o,e,k2,k3,k4,k5,k6,k7,k8⟩:=hr
 cases e
 have hl:((xs.drop l).take (h - l)).length=h - l:=by simp;omega
 refine⟨_,m - l,b,o+l*sz,by rw[hl],fun h0=>?_,fun h0 a' ha=>?_,fun h0=>?_,by omega,by omega,by omega,fun i hi=>?_⟩
 ·rw[hl] at h0
  rw[if_neg (by omega),k2 (by omega)];rfl
 ·rw[if_neg (by omega)] at ha
  cases a with
  |none=>cases ha
  |some a=>cases ha;rfl
 ·split at h0
  ·omega
  ·cases a with
   |none=>have:=k4 Z;omega
   |some a=>cases h0
 ·rw[hl] at hi
  obtain⟨cs,j1,j2,j3⟩:=k8 (l+i) (by omega)
  refine⟨cs,j1,?_,?_⟩
  ·rw[Agt,←Nat.add_assoc] at j2;exact j2
  ·simpa using j3
section
variable {P:Program}{pan:List PanicEntry→AU}{Qn:Env→AU}{Ls L:List Ac}{ρ:Env}{d:Ac}{s:GS}{t:Nat}{tk:Bool}{α:Type}{sz:Nat}{R:Ac→List Value→α→Prop}{x y z:Operand}{v:Value}{xs:List α}{kk kk':IntKind}{n m:Nat}
def Qt(ex:ev ρ x=v)(hr:RSl sz R d v xs)(ey:ev ρ y=.int kk j)(hj:j=(n:Int))(hn:n≤xs.length)(k:∀v',RSl sz R d v' (xs.take n)→gws P pan Qn s Ls (upd ρ t v') d L):
  gws P pan Qn (.op tk ⟨some t,none,.sl sz x none (some y) none⟩ s) Ls ρ d L:=by
 subst hj
 have hr':=hr
 obtain⟨a,c,b,o,rfl,h2,h3,h4,h5,h6,h7,h8⟩:=hr
 have hc:Ea xs.length c none (some (ev ρ y)) none=some (0,n,c):=by
  simp only[Ea,Hl,GX,Hr,Age,Ahi,ey,bnd];rw[if_pos (by omega)];simp
 refine w_q Z ⟨a,xs.length,c,0,n,c,ex,h3,hc,Z⟩ (k _ ?_)
 simpa using hr'.cut (l:=0) (h:=n) (m:=c) (by omega) (by omega) (Aef c) hn
def Nj{j':Int}(ex:ev ρ x=v)(hr:RSl sz R d v xs)(ey:ev ρ y=.int kk j)(ez:ev ρ z=.int kk' j')(hj:j=(n:Int))(hj':j'=(n:Int))(hn:n≤xs.length)(k:∀v',RSl sz R d v' (xs.take n)→gws P pan Qn s Ls (upd ρ t v') d L):
  gws P pan Qn (.op tk ⟨some t,none,.sl sz x none (some y) (some z)⟩ s) Ls ρ d L:=by
 subst hj;subst hj'
 have hr':=hr
 obtain⟨a,c,b,o,rfl,h2,h3,h4,h5,h6,h7,h8⟩:=hr
 have hc:Ea xs.length c none (some (ev ρ y)) (some (ev ρ z))=some (0,n,n):=by
  simp only[Ea,Hl,GX,Hr,ey,ez,bnd];rw[if_pos (by omega)];simp
 refine w_q Z ⟨a,xs.length,c,0,n,n,ex,fun h0=>h3 (by omega),hc,Z⟩ (k _ ?_)
 simpa using hr'.cut (l:=0) (h:=n) (m:=n) (by omega) (by omega) (by omega) hn
def Eb(ex:ev ρ x=v)(hr:RSl sz R d v xs)(ey:ev ρ y=.int kk j)(hj:j=(n:Int))(hn:n≤xs.length)(k:∀v',RSl sz R d v' (xs.drop n)→gws P pan Qn s Ls (upd ρ t v') d L):
  gws P pan Qn (.op tk ⟨some t,none,.sl sz x (some y) none none⟩ s) Ls ρ d L:=by
 subst hj
 have hr':=hr
 obtain⟨a,c,b,o,rfl,h2,h3,h4,h5,h6,h7,h8⟩:=hr
 have hc:Ea xs.length c (some (ev ρ y)) none none=some (n,xs.length,c):=by
  simp only[Ea,Hl,GX,Hr,Aiv,Aeh,if_false,Age,ey,bnd];rw[if_pos (by omega)];simp
 refine w_q Z ⟨a,xs.length,c,n,xs.length,c,ex,fun(h0:c≠n)=>h3 (by omega),hc,Z⟩ (k _ ?_)
 have:=hr'.cut (l:=n) (h:=xs.length) (m:=c) (by omega) (by omega) (Aef c) (Aef _)
 rwa [Afu (by simp)] at this
def Aci{j':Int}(ex:ev ρ x=v)(hr:RSl sz R d v xs)(ey:ev ρ y=.int kk j)(ez:ev ρ z=.int kk' j')(hj:j=(n:Int))(hj':j'=(m:Int))(hnm:n≤m)(hn:m≤xs.length)(k:∀v',RSl sz R d v' ((xs.drop n).take (m - n))→gws P pan Qn s Ls (upd ρ t v') d L):
  gws P pan Qn (.op tk ⟨some t,none,.sl sz x (some y) (some z) none⟩ s) Ls ρ d L:=by
 subst hj;subst hj'
 have hr':=hr
 obtain⟨a,c,b,o,rfl,h2,h3,h4,h5,h6,h7,h8⟩:=hr
 have hc:Ea xs.length c (some (ev ρ y)) (some (ev ρ z)) none=some (n,m,c):=by
  simp only[Ea,Hl,GX,Hr,Age,ey,ez,bnd];rw[if_pos (by omega)];simp only[Age,Int.toNat_natCast];rw[if_pos (by omega)];simp
 exact w_q Z ⟨a,xs.length,c,n,m,c,ex,fun(h0:c≠n)=>h3 (by omega),hc,Z⟩ (k _ (hr'.cut (l:=n) (h:=m) (m:=c) hnm (by omega) (Aef c) hn))
end
section
variable {P:Program}{pan:List PanicEntry→AU}{Qn:Env→AU}{Ls L:List Ac}{ρ:Env}{d:Ac}{s:GS}{t:Nat}
def Xy{sz by_:Nat}{z x y}(i:Nat){v}{n m b:Nat}{xs cs h}(ex:ev ρ x=v)(hi:L[i]?=some h)(ho:BV sz v n xs h)
  (ey:ev ρ y=.slice (some ⟨b,0,none⟩) m m) (hl:cs.length=m*sz) (h1:(cs.all (·.oneCell'))=true) (hsz:0<sz) (hm:n+m≤140737488355328) (hb:(n+m)*by_≤140737488355328)
  (k:∀v' h',BV sz v' (n+m) (xs++cs) h'→gws P pan Qn s Ls (upd ρ t v') d (L.set i h')):gws P pan Qn (.op false ⟨some t,none,.app sz by_ z x y⟩ s) Ls ρ d (bx b T cs::L):=by
 have hrd:RdX d (Ls++(bx b T cs::L)++(bx b T cs::L)) (.slice (some ⟨b,0,none⟩) m m) m sz cs:=
  RdX.lit (T:=T) (Ls.length) (by rw[Aeg,Agc (Aef _)];simp) hl
 refine Qz (i+1) ex (by simpa using hi) ho ey hrd h1 hsz hm hb (fun v' h' o=>⟨d,L.set i h',?_,k v' h' o⟩)
 rw[Aif]
 exact Vs.drop (Afd _ _)
end
def Vs.Yx{d}(Ls:List (List Ac))(is js:List Nat)(hp:(is++js).isPerm (Afb Ls.length)=true):Vs d Ls.flatten d ((is.map fun i=>Ls.getD i []).flatten):=by
 have hp:(is++js).Perm (Afb Ls.length):=List.isPerm_iff.1 hp;have h1:=hp.symm.map fun i=>Ls.getD i [];have h0:(Afb Ls.length).map (fun i=>Ls.getD i [])=Ls:=by
  apply Ajf
  ·simp
  ·intro i h1 h2;simp[List.getD,h2]
 rw[h0,Agj] at h1;have h2:=h1.flatten;rw[List.flatten_append] at h2;exact(Vs.perm h2).trans (Vs.drop (Aim _ _))
section
variable {P:Program}{Q:B5}{ρ:Env}{d:Ac}{L:List Ac}
def Bw{s}(Ls L1:List Ac)(hL:L=Ls++L1)(h:gws P Q.pan Q.n s Ls ρ d L1):gwp P (.reg true s) Q ρ d L:=⟨d,Ls,L1,by rw[hL];exact Vs.refl d _,h⟩
def A4{res:List GB}{R}(vs:List Value){d' L'}(hr:GY ρ (HC d L) res vs)(hs:Vs d L d' L')(h:R (.returned (Lo vs)) d' L'):CL res R ρ d L:=
 ⟨vs,hr,d',L',hs,h⟩
end
def Y7{l}{m:Nat}{x}(h:m<l.length):patch l m [x]=l.set m x:=by
 rw[List.set_eq_take_append_cons_drop,if_pos h];simp[patch]
def BV.Ac6{n:Nat}{v us h}(o:BV 1 v n us h){m:Nat}(hm:m<n):
  ∃b T l c,v=.slice (some ⟨b,0,none⟩) n c∧h=bx b T l∧m<l.length∧(∀u,us[m]?=some u→l[m]?=some u)∧∀x,BV 1 v n (us.set m x) (bx b T (patch l m [x])):=by
 obtain⟨h1,h2,⟨rfl,rfl,rfl⟩|⟨b,T,l,c,rfl,rfl,h3,h4,h5,h6⟩⟩:=o
 ·omega
 ·have hml:m<l.length:=by omega
  refine⟨b,T,l,c,Z,Z,hml,fun u hu=>?_,fun x=>?_⟩
  ·rw[←h6] at hu
   rw[Agd (by omega)] at hu
   exact hu
  ·rw[Y7 hml]
   refine⟨by simpa using h1,h2,.inr ⟨b,T,l.set m x,c,Z,Z,h3,h4,by simpa using h5,?_⟩⟩
   rw[Aff,List.take_set,h6]
def As.Dn{d v xs h}(o:As 1 AH d v xs h){m:Nat}(hm:m<xs.length):
  ∃b T l c,v=.slice (some ⟨b,0,none⟩) xs.length c∧h=bx b T l∧m<l.length∧l[m]?=some (Av xs[m])∧∀y,As 1 AH d v (xs.set m y) (bx b T (patch l m [Av y])):=by
 obtain⟨b,T,l,c,h1,h2,h3,h4,h5⟩:=o.bytes.Ac6 hm
 refine⟨b,T,l,c,h1,h2,h3,h4 _ (by simp[hm]),fun y=>?_⟩
 have:=h5 (Av y)
 rw[←List.map_set] at this
 refine⟨(xs.set m y).map Av,by rw[Aff];exact this,fun i hi=>?_⟩
 simp only[AH,chunk,Agn,←Ajr,←Ajs]
 rw[Afl hi];rfl
section
variable {P:Program}{pan:List PanicEntry→AU}{Qn:Env→AU}{Ls L:List Ac}{ρ:Env}{d:Ac}{s:GS}{t:Nat}{tk:Bool}
def Ms{x i}{b n c:Nat}{k}(m:Nat)(ex:ev ρ x=.slice (some ⟨b,0,none⟩) n c)(ei:ev ρ i=.int k j)(hm:j=(m:Int))(hl:m<n)
  (h:gws P pan Qn s Ls (upd ρ t (.pointer (some ⟨b,m,none⟩))) d L):gws P pan Qn (.op tk ⟨some t,none,.idx 1 x i⟩ s) Ls ρ d L:=
 BL (o:=0) m ex ei hm hl (SAd.some n b 0) (by rw[Agg,Agn];exact h)
end
end
section
def flat:List (List Ac)→List Ac
 |[]=>[]
 |[l]=>l
 |l::m::Ls=>l++flat (m::Ls)
def WK:∀Ls:List (List Ac),flat Ls=Ls.flatten
 |[]=>rfl
 |[l]=>by simp[flat]
 |l::m::Ls=>by simp only[flat];rw[WK (m::Ls)];simp
def Vs.Ux{d L L'}(Ls:List (List Ac))(is js:List Nat)(hp:(is++js).isPerm (Afb Ls.length)=true)(hL:L=flat Ls)(hL':(is.map fun i=>Ls.getD i []).flatten=L'):Vs d L d L':=by
 subst hL';rw[hL,WK];exact Vs.Yx Ls is js hp
def AA.borrow{P vs d L}{Q:Value→List Ac→Prop}(h:∀d1,Le d d1→(∀k∈L,Le k d1)→AA P f vs d1 [] (Ret fun r d' L'=>d'=d1∧Q r L')):
  AA P f vs d L (Ret fun r d' L'=>d'=d∧∃L1,L'=L1++L∧Q r L1):=by
 have h:=h (H9 (d::L)) (IZ (Aeo ..)) (fun k hk=>IZ (Aev _ hk))
 refine⟨h.1,fun F W x=>?_⟩
 have hp:=x.pw
 have y:Ok (H9 (d::L)::([]++F)) W:=by
  have:=(Vs.X5 (d:=emp) (L0:=F) (L:=d::L)).2 [] W (by simpa using x.emp);simpa using this.tail
 refine(h.2 F W y).mono fun e W' ⟨d',L',a,b,c,r⟩=>?_
 cases e with
 |panicked c=>exact r.elim
 |outgrown=>exact r.elim
 |returned u=>
  obtain⟨rfl,r⟩:=r
  refine⟨d,L'++L,?_,Le.refl d,c,Z,L',Z,r⟩
  have:=(Vs.Yr (d:=emp) (L0:=L'++F) hp).2 [] W' (by simpa using a.emp)
  have z:Ok ((d::L)++(L'++F)) W':=by simpa using this.tail
  refine z.perm ?_
  simp only[Afz,Aeg]
  refine List.Perm.cons d ?_
  rw[←Aeg,←Aeg]
  exact List.Perm.append_right F Aei
section
variable {P:Program}{pan:List PanicEntry→AU}{Qn:Env→AU}{Ls L:List Ac}{ρ:Env}{d:Ac}{s:GS}{t:Nat}{tk:Bool}
def A7{n:Nat}{b o:Nat}{l}(i:Nat)(l':List Value)(hi:L[i]?=some (bx b T l))(ex:ev ρ x=.pointer (some ⟨b,o,none⟩))(ey:ev ρ y=v)
  (hn:v.cells.size=n) (hl:o+n≤l.length) (h1:(v.cells.toList.all (·.oneCell'))=true) (hp:patch l o v.cells.toList=l') (h:gws P pan Qn s Ls ρ d (L.set i (bx b T l'))):
  gws P pan Qn (.op false ⟨none,none,.st n x y⟩ s) Ls ρ d L:=by subst hp;exact BW i hi ex ey hn hl h1 h
def Kj{args}{Q:Value→List Ac→Prop}{vs}(ea:args.map (ev ρ)=vs)(hc:∀d1,Le d d1→(∀k∈L,Le k d1)→AA P f vs d1 [] (Ret fun r d' L'=>d'=d1∧Q r L'))
  (h:∀r L',Q r L'→gws P pan Qn s Ls (upd ρ t r) d (L'++L)):gws P pan Qn (.op false ⟨some t,none,.call f args⟩ s) Ls ρ d L:=by
 refine FI (R:=fun r d' L'=>d'=d∧∃L1,L'=L1++L∧Q r L1) L.length ea (by rw[Afq];exact AA.borrow hc) (fun r d' L' _ ⟨h1,L1,h2,h3⟩=>?_)
 subst h1;subst h2
 rw[Ahg,Afh];exact h r L1 h3
def UL{k'}{a:Nat}(ex:ev ρ x=vZ a)(ey:ev ρ y=.int k' 8)(ha:a≤1000000000000)(h:gws P pan Qn s Ls (upd ρ t (vZ (a*256:Nat))) d L):
  gws P pan Qn (.op tk ⟨some t,none,.bin .shl x y⟩ s) Ls ρ d L:=by
 refine C9 ?_ h
 have h1:min (Int.toNat 8) IntKind.i64.bits=8:=by simp[IntKind.bits]
 rw[ex,ey]
 simp only[C2,h1]
 rw[if_neg (by omega),DG (by omega) (by omega)]
 congr 2
def SU{a b:Nat}(ex:ev ρ x=vZ (a*256:Nat))(ey:ev ρ y=vZ b)(ha:a≤1000000000000)(hb:b<256)(h:gws P pan Qn s Ls (upd ρ t (vZ (a*256+b:Nat))) d L):
  gws P pan Qn (.op tk ⟨some t,none,.bin .or x y⟩ s) Ls ρ d L:=by
 refine C9 ?_ h
 have e:(BitVec.ofInt IntKind.i64.bits ((a*256:Nat):Int)|||BitVec.ofInt IntKind.i64.bits ((b:Nat):Int)).toNat=a*256+b:=by
  have h1:=Nat.shiftLeft_add_eq_or_of_lt (i:=8) hb a;rw[Nat.shiftLeft_eq] at h1;show((BitVec.ofInt 64 ((a*256:Nat):Int):BitVec 64)|||(BitVec.ofInt 64 ((b:Nat):Int):BitVec 64)).toNat=_;rw[BitVec.toNat_or,BitVec.ofInt_natCast,BitVec.ofInt_natCast,BitVec.toNat_ofNat,BitVec.toNat_ofNat];rw[Ahl (by omega),Ahl (by omega)];exact h1.symm
 rw[ex,ey]
 simp only[C2,e]
 rw[DG (by omega) (by omega)]
 simp
def ZD{a b:Int}(ex:ev ρ x=.int .u8 a)(ey:ev ρ y=.int .u8 b)(h1:0≤a+b)(h2:a+b≤255)
  (h:gws P pan Qn s Ls (upd ρ t (.int .u8 (a+b))) d L):gws P pan Qn (.op tk ⟨some t,none,.bin .add x y⟩ s) Ls ρ d L:=
 C9 (by
  have e:IntKind.u8.wrap (a+b)=a+b:=by simp[IntKind.wrap,IntKind.signed,IntKind.bits];omega
  rw[ex,ey];simp[C2,e]) h
end
def O4{P}{Q:B5}{ρ d L s d1}(Ls L1:List Ac)(hv:Vs d L d1 (Ls++L1))(h:gws P Q.pan Q.n s Ls ρ d1 L1):gwp P (.reg true s) Q ρ d L:=⟨d1,Ls,L1,hv,h⟩
def As.DI{d d' xs h}(o:As 1 RBs d v xs h)(hl:Le d d'):As 1 RBs d' v xs h:=As.mono (R:=RBs) C6 o hl
def As.JF{d d'}{xs:List Int}{h}(o:As 1 Bh d v xs h)(hl:Le d d'):As 1 Bh d' v xs h:=As.mono (R:=Bh) B6 o hl
end
section
section
variable {P:Program}{Q:B5}{ρ:Env}{d:Ac}{L:List Ac}
def BU(h:xwp P a {Q with n:=xwp P b Q} ρ d L):xwp P (.seq a b) Q ρ d L:=h
def x_g{c:Cm}(h:gwp P c Q ρ d L):xwp P (.g c) Q ρ d L:=h
def AdG{c}(e:ev ρ c=.bool true)(h:xwp P a Q ρ d L):xwp P (.cond c a b) Q ρ d L:=⟨true,e,fun _=>h,fun q=>by cases q⟩
def Abx{c}(e:ev ρ c=.bool false)(h:xwp P b Q ρ d L):xwp P (.cond c a b) Q ρ d L:=⟨false,e,fun q=>(by cases q),fun _=>h⟩
def GR{id:Nat}(h:xwp P a {Q with ex:=fun j=>if j=id then Q.n else Q.ex j} ρ d L):xwp P (.block id a) Q ρ d L:=h
def Q6{c:Ee}(l:List (Nat×Value))(e:BG ρ l)(h:xwp P c Q (JV ρ l) d L):xwp P c Q ρ d L:=by rwa [Jx e] at h
end
def FY{P}:∀(c:Ee) {Q Q':B5}{ρ d L},xwp P c Q ρ d L→(∀ρ d L,Q.n ρ d L→Q'.n ρ d L)→(∀i ρ d L,Q.ex i ρ d L→Q'.ex i ρ d L)→
  (∀ρ d L,Q.ret ρ d L→Q'.ret ρ d L)→Q.pan=Q'.pan→xwp P c Q' ρ d L
 |.g c,_,_,_,_,_,h,h1,h2,h3,h4=>EY c h h1 h2 h3 h4
 |.seq a b,_,_,_,_,_,h,h1,h2,h3,h4=>FY a h (fun _ _ _ h=>FY b h h1 h2 h3 h4) h2 h3 h4
 |.cond c a b,_,_,_,_,_,⟨t,e,k1,k2⟩,h1,h2,h3,h4=>⟨t,e,fun q=>FY a (k1 q) h1 h2 h3 h4,fun q=>FY b (k2 q) h1 h2 h3 h4⟩
 |.block id a,Q,Q',_,_,_,h,h1,h2,h3,h4=>by
  refine FY a (Q:={Q with ex:=fun j=>if j=id then Q.n else Q.ex j}) (Q':={Q' with ex:=fun j=>if j=id then Q'.n else Q'.ex j}) h h1 (fun i ρ d L hq=>?_) h3 h4;simp only at hq⊢;split at hq
  ·rename_i e;rw[if_pos e];exact h1 _ _ _ hq
  ·rename_i e;rw[if_neg e];exact h2 _ _ _ _ hq
 |.loop a,Q,Q',_,_,_,⟨I,⟨m,hI⟩,round⟩,h1,h2,h3,h4=>
  ⟨I,⟨m,hI⟩,fun m ρ d L hi=>FY a (Q:={Q with n:=_}) (Q':={Q' with n:=_}) (round m ρ d L hi) (fun _ _ _ h=>h) h2 h3 h4⟩
 |.yl pre dst f args post,Q,Q',_,_,_,h,h1,_,_,h4=>by
  simp only[xwp] at h⊢;rw[←h4];refine DD (fun ρ d L hm=>?_) pre h;obtain⟨l,A,B,R,e1,e2,hy,hR⟩:=hm;exact⟨l,A,B,R,e1,e2,hy,fun v d2 L2 hl hr=>by rw[←h4];exact DD h1 post (hR v d2 L2 hl hr)⟩
 |.snd pre dst ch x post,Q,Q',_,_,_,h,h1,_,_,h4=>by
  simp only[xwp] at h⊢;rw[←h4];refine DD (fun ρ d L hm=>?_) pre h;obtain⟨i,c,cap,buf,s,r,tm,e1,e2,e3,hR⟩:=hm;exact⟨i,c,cap,buf,s,r,tm,e1,e2,e3,by rw[←h4];exact DD h1 post hR⟩
 |.sel pre dst ch z post,Q,Q',_,_,_,h,h1,_,_,h4=>by
  simp only[xwp] at h⊢;rw[←h4];refine DD (fun ρ d L hm=>?_) pre h;obtain⟨i,c,cap,buf,s,r,tm,e1,e2,k1,k2⟩:=hm;exact⟨i,c,cap,buf,s,r,tm,e1,e2,fun v rest e=>by rw[←h4];exact DD h1 post (k1 v rest e),fun e=>by rw[←h4];exact DD h1 post (k2 e)⟩
 |.rf f ps as bd,_,_,_,_,_,⟨g,first,cap,e1,hit⟩,h1,h2,h3,h4=>by
  refine⟨g,first,cap,e1,fun l rc k1 k2 k3=>?_⟩
  obtain⟨R,hc,hR⟩:=hit l rc k1 k2 k3;refine⟨R,hc,fun e d' L' hl hr=>?_⟩
  obtain⟨v,rc',L'',q1,q2,q3,q4⟩:=hR e d' L' hl hr;refine⟨v,rc',L'',q1,q2,q3,?_⟩
  cases hp:rc'.pending with
  |none=>rw[hp] at q4;exact h1 _ _ _ q4
  |some j=>
   rw[hp] at q4
   cases j with
   |exit id=>exact h2 _ _ _ _ q4
   |ret=>exact h3 _ _ _ q4
   |_=>exact q4
def VJ{P}{c:Ee}{Q:B5}{N N':Env→AU}(hn:∀ρ d L,N ρ d L→N' ρ d L){ρ d L}(h:xwp P c {Q with n:=N} ρ d L):xwp P c {Q with n:=N'} ρ d L:=
 FY c h hn (fun _ _ _ _ h=>h) (fun _ _ _ h=>h) Z
section
variable {P:Program}{Q:B5}{ρ:Env}{d:Ac}{L:List Ac}
def AdE(M:Env→AU)(h1:xwp P a {Q with n:=M} ρ d L)(h2:∀ρ d L,M ρ d L→xwp P b Q ρ d L):xwp P (.seq a b) Q ρ d L:=
 BU (VJ h2 h1)
def QU{α}(slots:α→List (Nat×Value))(inv:α→Ac→List Ac→Prop)(meas:α→Nat)(x0:α)(h0:BG ρ (slots x0))(i0:inv x0 d L)
  (round:∀x ρ d L,inv x d L→xwp P a {Q with n:=fun ρ d L=>∃x',meas x'<meas x∧BG ρ (slots x')∧inv x' d L} (JV ρ (slots x)) d L):xwp P (.loop a) Q ρ d L:=by
 refine⟨fun m ρ d L=>∃x,meas x=m∧BG ρ (slots x)∧inv x d L,⟨meas x0,x0,Z,h0,i0⟩,?_⟩
 rintro m ρ d L ⟨x,rfl,h1,h2⟩
 exact Q6 _ h1 (VJ (fun ρ' d' L' ⟨x',k1,k2,k3⟩=>⟨meas x',k1,x',Z,k2,k3⟩) (round x ρ d L h2))
def Aa6{f args}(h:gws P Q.pan (SN P Q dst f args post) pre [] ρ d L):xwp P (.yl pre dst f args post) Q ρ d L:=h
def Abk(h:gws P Q.pan (Pw P Q dst ch x post) pre [] ρ d L):xwp P (.snd pre dst ch x post) Q ρ d L:=h
def Adt(h:gws P Q.pan (MN P Q dst ch z post) pre [] ρ d L):xwp P (.sel pre dst ch z post) Q ρ d L:=h
def QK{f args}{l:Nat}{vs}(A B:List Ac){R}(ef:ev ρ f=.func (.yield l) #[] #[])(hL:L=A++B)(ea:args.map (ev ρ)=vs)(hy:J9 P l vs d A R)
  (k:∀v d2 L2,Le d d2→R v d2 L2→gws P Q.pan Q.n post [] (put ρ dst v) d2 (L2++B)):SN P Q dst f args post ρ d L:=
 ⟨l,A,B,R,ef,hL,ea▸hy,k⟩
def YJ(i:Nat){c:Nat}{buf}{s r:Nat}(ec:ev ρ ch=.chan (some c))(hi:L[i]?=some (sg c (.chan cap buf.toArray false s r tm)))(hroom:buf.length<cap)(ex:ev ρ x=v)
  (k:gws P Q.pan Q.n post [] (put ρ dst undef) d (L.set i (sg c (.chan cap (buf++[v]).toArray false (s+1) r tm)))):Pw P Q dst ch x post ρ d L:=
 ⟨i,c,cap,buf,s,r,tm,ec,hi,hroom,ex▸k⟩
def ZH(i:Nat){c:Nat}{buf}{s r:Nat}(ec:ev ρ ch=.chan (some c))(hi:L[i]?=some (sg c (.chan cap (v::buf).toArray false s r tm)))
  (k:gws P Q.pan Q.n post [] (put ρ dst (.tuple #[vZ 0,.bool true,v])) d (L.set i (sg c (.chan cap buf.toArray false s (r+1) tm)))):MN P Q dst ch z post ρ d L:=
 ⟨i,c,cap,v::buf,s,r,tm,ec,hi,fun v' rest e=>by cases e;exact k,fun e=>by cases e⟩
def ZS(i:Nat){c:Nat}{s r:Nat}(ec:ev ρ ch=.chan (some c))(hi:L[i]?=some (sg c (.chan cap #[] false s r tm)))
  (k:gws P Q.pan Q.n post [] (put ρ dst (.tuple #[vZ (-1),.bool false,z])) d L):MN P Q dst ch z post ρ d L:=
 ⟨i,c,cap,[],s,r,tm,ec,hi,(fun v' rest e=>by cases e),fun _=>k⟩
end
end
section
section
variable {P:Program}{pan:List PanicEntry→AU}{Qn:Env→AU}{Ls L:List Ac}{ρ:Env}{d:Ac}{s:GS}{t:Nat}{tk:Bool}
def Aa8(a:Int):IntKind.u64.wrap a=a % 18446744073709551616:=by simp[IntKind.wrap,IntKind.signed,IntKind.bits]
def AcT{j}{a:Int}(ex:ev ρ x=.int j a)(h:gws P pan Qn s Ls (upd ρ t (.int .u64 (a % 18446744073709551616))) d L):gws P pan Qn (.op tk ⟨some t,none,.cvi .u64 x⟩ s) Ls ρ d L:=
 Yc ex (by rw[Aa8];exact h)
def Dq{x0 v0}(e0:ev ρ x0=v0)(c0:v0.cells= #[v0])(h:∀b T,gws P pan Qn s Ls (upd ρ t (.slice (some ⟨b,0,none⟩) 1 1)) d (bx b T [v0]::L)):
  gws P pan Qn (.op false ⟨some t,none,.bsl 1 1 [z] [(0,x0)]⟩ s) Ls ρ d L:=by
 refine CZ (by omega) ?_ h
 simp[Instr.fill,Bq,Afb,List.range.loop,e0,c0]
def Adw{x0 x1 v0 v1}(e0:ev ρ x0=v0)(c0:v0.cells= #[v0])(e1:ev ρ x1=v1)(c1:v1.cells= #[v1])(h:∀b T,gws P pan Qn s Ls (upd ρ t (.slice (some ⟨b,0,none⟩) 2 2)) d (bx b T [v0,v1]::L)):
  gws P pan Qn (.op false ⟨some t,none,.bsl 2 1 [z] [(0,x0),(1,x1)]⟩ s) Ls ρ d L:=by
 refine CZ (by omega) ?_ h
 simp[Instr.fill,Bq,Afb,List.range.loop,e0,c0,e1,c1]
def AcZ{a b:Int}(ex:ev ρ x=vZ a)(ey:ev ρ y=vZ b)(h1: -9223372036854775808≤a)(h2:a≤9223372036854775807)(h3:2≤b)(h:gws P pan Qn s Ls (upd ρ t (vZ (a.tdiv b))) d L):
  gws P pan Qn (.op tk ⟨some t,none,.bin .quo x y⟩ s) Ls ρ d L:=by
 refine C9 ?_ h
 have h4:¬b=0:=by omega
 have h5:(a.tdiv b).natAbs≤a.natAbs:=by rw[Int.natAbs_tdiv];exact Nat.div_le_self _ _
 have h6:a= -9223372036854775808→(a.tdiv b).natAbs≤9223372036854775807:=by
  intro e;rw[Int.natAbs_tdiv,e];have:2≤b.natAbs:=by omega
  have e2:(-9223372036854775808:Int).natAbs=9223372036854775808:=by decide
  rw[e2];have:=Nat.div_le_div_left (a:=9223372036854775808) this (by omega);exact Agp this (by decide)
 rw[ex,ey];simp[C2,h4];exact DG (by omega) (by omega)
def H0{i}{len sz b o:Nat}{k}(m:Nat)(ex:ev ρ x=.pointer (some ⟨b,o,none⟩))(ei:ev ρ i=.int k j)(hm:j=(m:Int))(hl:m<len)(h:gws P pan Qn s Ls (upd ρ t (.pointer (some ⟨b,o+m*sz,none⟩))) d L):
  gws P pan Qn (.op tk ⟨some t,none,.idxa len sz x i⟩ s) Ls ρ d L:=by
 subst hm
 exact w_q Z ⟨b,o,k,m,ex,ei,by omega,by omega,Z⟩ h
end
def AA.forget{P args d L}{Q:Value→List Ac→Prop}(h:AA P f args d L (Ret fun r _ L'=>Q r L')):AA P f args d L (Ret fun r d' L'=>d'=d∧Q r L'):=
 ⟨h.1,fun F W x=>(h.2 F W x).mono fun e W' ⟨d',L',a,b,c,r⟩=>⟨d,L',a.le b,Le.refl d,c,by
  cases e with
  |returned v=>exact⟨Z,r⟩
  |panicked c=>exact r.elim
  |outgrown=>exact r.elim⟩⟩
def CP.of{P args d}(h:AA P f args d [] (Ret fun r _ L'=>r=v∧L'=[])):CP P f args d v:=
 (AA.forget (Q:=fun r L'=>r=v∧L'=[]) h).mono fun e d' L' _ r=>by
  cases e with
  |returned v=>exact⟨r.2.1,r.1,r.2.2⟩
  |panicked c=>exact r.elim
  |outgrown=>exact r.elim
section
variable {ρ:Env}{d:Ac}{L:List Ac}{t u:Nat}
end
end
section
section
variable {P:Program}{pan:List PanicEntry→AU}{Qn:Env→AU}{Ls L:List Ac}{ρ:Env}{d:Ac}{s:GS}{t:Nat}{tk:Bool}
end
end
section
section
variable {P:Program}{pan:List PanicEntry→AU}{Qn:Env→AU}{Ls L:List Ac}{ρ:Env}{d:Ac}{s:GS}{t:Nat}{tk:Bool}
end
end
end Go.Gk
end
section
namespace Go.Gk
open Go
section
variable {P:Program}{pan:List PanicEntry→AU}{Qn:Env→AU}{Ls L:List Ac}{ρ:Env}{d:Ac}{s:GS}
def IL{α:Type}{sz by_ t:Nat}{R:Ac→List Value→α→Prop}{z:List Value}{x y:Operand}{v w:Value}{xs ys:List α}{h:Ac}(hR:FZ R)(ex:ev ρ x=v)(ho:As sz R d v xs h)
  (ey:ev ρ y=w) (hs:Src sz R d (Ls++(h::L)++(h::L)) w ys) (hsz:0<sz) (hm:xs.length+ys.length≤140737488355328) (hb:(xs.length+ys.length)*by_≤140737488355328)
  (k:∀a c d',Le d d'→RSl sz R d' (.slice a (xs++ys).length c) (xs++ys)→gws P pan Qn s Ls (upd ρ t (.slice a (xs++ys).length c)) d' L):gws P pan Qn (.op false ⟨some t,none,.app sz by_ z x y⟩ s) Ls ρ d (h::L):=by
 obtain⟨cs,h1,h2⟩:=ho
 obtain⟨news,k1,k2,k3⟩:=hs
 have hl:=h1.1
 refine Qz 0 ex Z h1 ey k1 k2 hsz hm hb (fun v' h' o=>⟨join d h',L,Vs.freeze,?_⟩)
 have hg:As sz R d v' (xs++ys) h':=by
  refine⟨cs++news,by rw[Aek];exact o,fun j hj=>?_⟩
  by_cases e:j<xs.length
  ·rw[F9 hl e,Ain e];exact h2 j e
  ·rw[FR hl (by omega),Aii (by omega)];exact k3 _ (by simp at hj;omega)
 have hr:=hg.rsl hR hsz (Le.Az d h') (Le.A6 d h')
 obtain⟨a,c,rfl⟩:=hr.val
 exact k a c _ (Le.Az d h') hr
def AcI{α:Type}{sz by_ t0 t1 t2:Nat}{R:Ac→List Value→α→Prop}{z:List Value}{x y:Operand}{vx vy:Value}{xs ys:List α}(hR:FZ R)(hc:FC R)(hsz:0<sz)(_:(t0==t1)=false)
  (rx:RSl sz R d vx xs) (ry:RSl sz R d vy ys) (ex:∀u,ev (upd ρ t0 u) x=vx) (ey:∀u w,ev (upd (upd ρ t0 u) t1 w) y=vy) (hb:(xs.length+ys.length)*by_≤140737488355328) (hm:xs.length+ys.length≤140737488355328)
  (k:∀v0 v1 a c d',Le d d'→RSl sz R d' (.slice a (xs++ys).length c) (xs++ys)→gws P pan Qn s Ls (upd (upd (upd ρ t0 v0) t1 v1) t2 (.slice a (xs++ys).length c)) d' L):
  gws P pan Qn (.op false ⟨some t0,none,.bsl 0 sz z []⟩ (.op false ⟨some t1,none,.app sz by_ z (.tmp t0) x⟩ (.op false ⟨some t2,none,.app sz by_ z (.tmp t1) y⟩ s))) Ls ρ d L:=by
 have up:∀(ρ:Env) (t:Nat) (v:Value),ev (upd ρ t v) (.tmp t)=v:=fun ρ t v=>by simp[ev,upd]
 refine CZ (cs:=[]) (by simp) (by simp[Instr.fill,Bq]) (fun b T=>?_)
 have hm1:xs.length*by_≤140737488355328:=Agp (Afs _ (by omega)) hb
 refine Fk (R:=R) 0 (up _ _ _) Z (As.JR (R:=R) (sz:=sz)) (ex _) (rx.src hc hsz _) hsz (by simp;omega) (by simpa using hm1) (fun v1 h1 o1=>?_)
 rw[Afi] at o1
 exact IL (R:=R) hR (up _ _ _) o1 (ey _ _) (ry.src hc hsz _) hsz hm hb (fun a c d' hl hr=>k _ _ a c d' hl hr)
def Acu{α:Type}{sz by_ t0 t1:Nat}{R:Ac→List Value→α→Prop}{z:List Value}{x:Operand}{vx:Value}{xs:List α}(_:FZ R)(hc:FC R)(hsz:0<sz)
  (rx:RSl sz R d vx xs) (ex:∀u,ev (upd ρ t0 u) x=vx) (hb:xs.length*by_≤140737488355328) (hm:xs.length≤140737488355328)
  (k:∀v0 v1 h1,As sz R d v1 xs h1→gws P pan Qn s Ls (upd (upd ρ t0 v0) t1 v1) d (h1::L)):
  gws P pan Qn (.op false ⟨some t0,none,.bsl 0 sz z []⟩ (.op false ⟨some t1,none,.app sz by_ z (.tmp t0) x⟩ s)) Ls ρ d L:=by
 have up:∀(ρ:Env) (t:Nat) (v:Value),ev (upd ρ t v) (.tmp t)=v:=fun ρ t v=>by simp[ev,upd]
 refine CZ (cs:=[]) (by simp) (by simp[Instr.fill,Bq]) (fun b T=>?_)
 refine Fk (R:=R) 0 (up _ _ _) Z (As.JR (R:=R) (sz:=sz)) (ex _) (rx.src hc hsz _) hsz (by simp;omega) (by simpa using hb) (fun v1 h1 o1=>?_)
 rw[Afi] at o1
 exact k _ _ _ o1
end
end Go.Gk
namespace Go.Gk
open Go
section
variable {P:Program}{pan:List PanicEntry→AU}{Qn:Env→AU}{Ls L:List Ac}{ρ:Env}{d:Ac}{s:GS}{t:Nat}{tk:Bool}
def Acr{x y}{a b:Int}(ex:ev ρ x=vZ a)(ey:ev ρ y=vZ b)(h:∀u,(-9223372036854775808≤a+b→a+b≤9223372036854775807→u=a+b)→gws P pan Qn s Ls (upd ρ t (vZ u)) d L):
  gws P pan Qn (.op tk ⟨some t,none,.bin .add x y⟩ s) Ls ρ d L:=
 C9 (by rw[ex,ey];simp[C2]) (h (IntKind.i64.wrap (a+b)) (fun h1 h2=>DG h1 h2))
end
end Go.Gk
namespace Go.Gk
open Go
def CM{l vs}{o k:Nat}(h:o+vs.length≤l.length):(patch l o vs)[k]?=if o≤k∧k<o+vs.length then vs[k - o]? else l[k]?:=by
 unfold patch;have hl:(l.take o).length=o:=by rw[Aer];omega
 by_cases h1:k<o
 ·rw[if_neg (by omega),Aeg,Afy (by omega),Agd h1]
 by_cases h2:k<o+vs.length
 ·rw[if_pos ⟨by omega,h2⟩,Afy (by rw[Aek];omega),Agc (by omega),hl]
 ·rw[if_neg (by omega),Agc (by rw[Aek];omega),Agb,Aek,hl];congr 1;omega
def Bt{l vs}{o:Nat}(h:o+vs.length≤l.length):(patch l o vs).length=l.length:=by
 unfold patch;simp only[Aek,Aer,Aen];omega
def XS{l vs}{o n:Nat}(h:o+vs.length≤n)(hn:n≤l.length):(patch l o vs).take n=patch (l.take n) o vs:=by
 refine Ahm fun k=>?_;have hl:(l.take n).length=n:=by rw[Aer];omega
 rw[CM (by omega)];by_cases hk:k<n
 ·rw[Agd hk,Agd hk,CM (by omega)]
 ·rw[if_neg (by omega),Afo (by rw[Aer];omega),Afo (by omega)]
def JG{cs}{i sz k:Nat}:(chunk cs i sz)[k]?=if k<sz then cs[i*sz+k]? else none:=by
 unfold chunk;by_cases h:k<sz
 ·rw[Agd h,Agb,if_pos h]
 ·rw[if_neg h,Afo (by rw[Aer];omega)]
def V4{cs vs}{i m sz n:Nat}(hl:cs.length=n*sz)(hv:vs.length=sz)(hm:m<n):chunk (patch cs (m*sz) vs) i sz=if i=m then vs else chunk cs i sz:=by
 have h1:m*sz+sz≤n*sz:=by have:=Afs sz (show m+1≤n from hm);rwa [Agt,Aih] at this
 refine Ahm fun k=>?_;rw[JG];by_cases e:i=m
 ·subst e;rw[if_pos Z];by_cases hk:k<sz
  ·rw[if_pos hk,CM (by omega),if_pos (by omega)];congr 1;omega
  ·rw[if_neg hk,Afo (by omega)]
 ·rw[if_neg e,JG];by_cases hk:k<sz
  ·rw[if_pos hk,if_pos hk,CM (by omega),if_neg];rintro⟨a,b⟩;rcases Nat.lt_or_gt_of_ne e with q|q
   ·have:=Afs sz (show i+1≤m from q);rw[Agt,Aih] at this;omega
   ·have:=Afs sz (show m+1≤i from q);rw[Agt,Aih] at this;omega
  ·rw[if_neg hk,if_neg hk]
def As.Adk{α}{sz:Nat}{R d v}{xs:List α}{h}(_:0<sz)(o:As sz R d v xs h){m:Nat}(hm:m<xs.length):
  ∃b T l c,v=.slice (some ⟨b,0,none⟩) xs.length c∧h=bx b T l∧m*sz+sz≤l.length∧∀cs' x,cs'.length=sz→R d cs' x→As sz R d v (xs.set m x) (bx b T (patch l (m*sz) cs')):=by
 obtain⟨cs,⟨h1,h2,⟨rfl,h0,rfl⟩|⟨b,T,l,c,rfl,rfl,h3,h4,h5,h6⟩⟩,hr⟩:=o
 ·omega
 ·have hmz:m*sz+sz≤xs.length*sz:=by have:=Afs sz (show m+1≤xs.length from hm);rwa [Agt,Aih] at this
  have hcz:xs.length*sz≤c*sz:=Afs sz h3
  refine⟨b,T,l,c,Z,Z,by omega,fun cs' x hl hx=>⟨patch cs (m*sz) cs',?_,fun i hi=>?_⟩⟩
  ·have hp:(patch cs (m*sz) cs').length=cs.length:=Bt (by omega)
   refine⟨by rw[hp,Aff,h1],by rw[Aff];exact h2,.inr ⟨b,T,_,c,by rw[Aff],Z,by rw[Aff];exact h3,h4,by rw[Bt (by omega)];exact h5,?_⟩⟩
   rw[hp,XS (by omega) (by omega),h6]
  ·rw[V4 h1 hl hm]
   rw[Aff] at hi
   by_cases e:i=m
   ·subst e
    rw[if_pos Z,List.getElem_set_self];exact hx
   ·rw[if_neg e,List.getElem_set_ne (fun q=>e q.symm)];exact hr i hi
end Go.Gk
end
section
namespace Go.Gk
open Go
section
section
variable {P:Program}{pan:List PanicEntry→AU}{Qn:Env→AU}{Ls L:List Ac}{ρ:Env}{d:Ac}{s:GS}{t:Nat}{tk:Bool}
def Adq{Q:B5}{c:Cm}(M:Env→AU)(h:gwp P c {Q with n:=M} ρ d L)(k:∀ρ d L,M ρ d L→Q.n ρ d L):gwp P c Q ρ d L:=
 EY c h k (fun _ _ _ _ h=>h) (fun _ _ _ h=>h) Z
end
end
section
section
variable {P:Program}{pan:List PanicEntry→AU}{Qn:Env→AU}{Ls L:List Ac}{ρ:Env}{d:Ac}{s:GS}{t:Nat}{tk:Bool}
end
end
section
section
variable {κ ν:Type}(kE:κ→Value) (vE:ν→Value)
def EF(ms:List (κ×ν×Nat)):List MapEntry:=ms.map fun p=>⟨kE p.1,vE p.2.1,p.2.2⟩
def mp(b:Nat)(ms:List (κ×ν×Nat))(c:Nat):Ac:=sg b (.map (EF kE vE ms).toArray c)
end
section
variable {κ ν:Type} [DecidableEq κ]
def mIx(k:κ):List (κ×ν×Nat)→Nat→Option (Nat×ν)
 |[],_=>none
 |p::ms,i=>if k=p.1 then some (i,p.2.1) else mIx k ms (i+1)
def E0(k:κ):List (κ×ν×Nat)→Option ν
 |[]=>none
 |p::ms=>if k=p.1 then some p.2.1 else E0 k ms
def Ho(k:κ)(v:ν)(c:Nat):List (κ×ν×Nat)→List (κ×ν×Nat)
 |[]=>[(k,v,c)]
 |p::ms=>if k=p.1 then(p.1,v,p.2.2)::ms else p::Ho k v c ms
def Rc(k:κ)(c:Nat)(ms:List (κ×ν×Nat)):Nat:=if (E0 k ms).isSome then c else c+1
def JN(k:κ):List (κ×ν×Nat)→List (κ×ν×Nat)
 |[]=>[]
 |p::ms=>if k=p.1 then ms else p::JN k ms
def QZ(kd:Nat)(kE:κ→Value):Prop:=∀a b,eq1 kd (kE a) (kE b)=some (decide (a=b))
def Ij{kd:Nat}{kE:κ→Value}{vE:ν→Value}(hk:QZ kd kE)(k:κ):∀(ms:List (κ×ν×Nat)) (i:Nat),Bz kd (kE k) (EF kE vE ms) i=some ((mIx k ms i).map fun p=>(p.1,vE p.2))
 |[],i=>rfl
 |p::ms,i=>by
  have ih:=Ij (vE:=vE) hk k ms (i+1);have e:eq1 kd (kE k) (kE p.1)=some (decide (k=p.1)):=hk k p.1;show Bz kd (kE k) (⟨kE p.1,vE p.2.1,p.2.2⟩::EF kE vE ms) i=_;rw[Bz,mIx];simp only[e];by_cases h:k=p.1
  ·simp only[h,decide_true,if_true];rfl
  ·simp only[h,decide_false,if_false];exact ih
def QL(k:κ):∀(ms:List (κ×ν×Nat)) (i:Nat),(mIx k ms i).map (·.2)=E0 k ms
 |[],_=>rfl
 |p::ms,i=>by
  rw[mIx,E0];by_cases h:k=p.1
  ·simp[h]
  ·rw[if_neg h,if_neg h];exact QL k ms (i+1)
def Aar{kE:κ→Value}{vE:ν→Value}(k:κ)(v:ν)(c:Nat)(ms:List (κ×ν×Nat)):
  upO (EF kE vE ms) c (kE k) (vE v) ((mIx k ms 0).map fun p=>(p.1,vE p.2))=.map (EF kE vE (Ho k v c ms)).toArray (Rc k c ms):=by
 have key:∀(ms:List (κ×ν×Nat)) (i:Nat),(∀j u,mIx k ms i=some (j,u)→i≤j∧(EF kE vE ms).modify (j - i) (fun e:MapEntry=>{e with val:=vE v})=EF kE vE (Ho k v c ms))∧
   (mIx k ms i=none→EF kE vE ms++[(⟨kE k,vE v,c⟩:MapEntry)]=EF kE vE (Ho k v c ms)):=by
  intro ms
  induction ms with
  |nil=>intro i;exact⟨fun j u h=>(by cases h),fun _=>Z⟩
  |cons p ms ih=>
   intro i
   rw[mIx,Ho]
   by_cases h:k=p.1
   ·rw[if_pos h,if_pos h]
    refine⟨fun j u e=>?_,fun e=>by cases e⟩
    cases e
    refine⟨Aef _,?_⟩
    rw[Aia];simp[EF]
   ·rw[if_neg h,if_neg h]
    obtain⟨h1,h2⟩:=ih (i+1)
    refine⟨fun j u e=>?_,fun e=>?_⟩
    ·obtain⟨h3,h4⟩:=h1 j u e
     refine⟨by omega,?_⟩
     rw[show j - i=(j - (i+1))+1 by omega]
     simp only[EF,Agw,List.modify_succ_cons] at h4⊢
     rw[h4]
    ·have:=h2 e
     simp only[EF,Agw,Afz] at this⊢
     rw[this]
 have hg:=QL k ms 0
 cases hq:mIx k ms 0 with
 |none=>
  rw[hq] at hg
  simp only[Option.map_none,upO,Rc,←hg,Aiv,Aeh,if_false]
  rw[(key ms 0).2 hq]
 |some p=>
  obtain⟨j,u⟩:=p
  rw[hq] at hg
  simp only[Ahi,upO,Rc,←hg,Option.isSome_some,if_true]
  have:=((key ms 0).1 j u hq).2
  rw[Nat.sub_zero] at this
  rw[this]
def Zh{kE:κ→Value}{vE:ν→Value}(k:κ)(c:Nat)(ms:List (κ×ν×Nat)):
  MZ (EF kE vE ms) c ((mIx k ms 0).map fun p=>(p.1,vE p.2))=.map (EF kE vE (JN k ms)).toArray c:=by
 have key:∀(ms:List (κ×ν×Nat)) (i:Nat),(∀j u,mIx k ms i=some (j,u)→i≤j∧(EF kE vE ms).eraseIdx (j - i)=EF kE vE (JN k ms))∧(mIx k ms i=none→JN k ms=ms):=by
  intro ms;induction ms with
  |nil=>intro i;exact⟨fun j u h=>(by cases h),fun _=>Z⟩
  |cons p ms ih=>
   intro i
   rw[mIx,JN]
   by_cases h:k=p.1
   ·rw[if_pos h,if_pos h]
    refine⟨fun j u e=>?_,fun e=>by cases e⟩
    cases e
    refine⟨Aef _,?_⟩
    rw[Aia];simp[EF]
   ·rw[if_neg h,if_neg h]
    obtain⟨h1,h2⟩:=ih (i+1)
    refine⟨fun j u e=>?_,fun e=>by rw[h2 e]⟩
    obtain⟨h3,h4⟩:=h1 j u e
    refine⟨by omega,?_⟩
    rw[show j - i=(j - (i+1))+1 by omega]
    simp only[EF,Agw,List.eraseIdx_cons_succ] at h4⊢
    rw[h4]
 cases hq:mIx k ms 0 with
 |none=>simp only[Option.map_none,MZ];rw[(key ms 0).2 hq]
 |some p=>
  obtain⟨j,u⟩:=p
  have:=((key ms 0).1 j u hq).2
  rw[Nat.sub_zero] at this
  simp only[Ahi,MZ,this]
def AcG:QZ 0 (fun i:Int=>Value.int .i64 i):=fun a b=>by
 show some (a==b)=_;by_cases e:a=b<;>simp[e]
end
section
variable {κ ν:Type}{kE:κ→Value}{vE:ν→Value}
variable {P:Program}{pan:List PanicEntry→AU}{Qn:Env→AU}{Ls L:List Ac}{ρ:Env}{d:Ac}{s:GS}{t:Nat}
def Ado(kE:κ→Value)(vE:ν→Value)(h:∀b,gws P pan Qn s Ls (upd ρ t (.map (some b))) d (mp kE vE b [] 0::L)):gws P pan Qn (.op false ⟨some t,none,.mop .mk⟩ s) Ls ρ d L:=
 ⟨d,L,Vs.refl d L,fun b=>⟨_,_,Vs.refl _ _,h b⟩⟩
def Abj [DecidableEq κ] {kd:Nat}{x y z}{b c:Nat}{ms:List (κ×ν×Nat)}{k:κ}{v:ν}(hk:QZ kd kE) (i:Nat) (hi:L[i]?=some (mp kE vE b ms c)) (ex:ev ρ x=.map (some b)) (ey:ev ρ y=kE k) (ez:ev ρ z=vE v)
  (h:gws P pan Qn s Ls ρ d (L.set i (mp kE vE b (Ho k v c ms) (Rc k c ms)))):gws P pan Qn (.op false ⟨none,none,.mop (.up kd x y z)⟩ s) Ls ρ d L:=
 ⟨d,L,Vs.refl d L,i,b,EF kE vE ms,c,_,hi,ex,by rw[ey];exact Ij hk k ms 0,_,_,Vs.refl _ _,by rw[ey,ez,Aar];exact h⟩
def Ac7 [DecidableEq κ] {kd:Nat}{x y}{b c:Nat}{ms:List (κ×ν×Nat)}{k:κ}{t:Option Nat}(hk:QZ kd kE) (i:Nat) (hi:L[i]?=some (mp kE vE b ms c)) (ex:ev ρ x=.map (some b)) (ey:ev ρ y=kE k)
  (h:gws P pan Qn s Ls (put ρ t (.tuple #[])) d (L.set i (mp kE vE b (JN k ms) c))):gws P pan Qn (.op false ⟨t,none,.mop (.del kd x y)⟩ s) Ls ρ d L:=
 ⟨d,L,Vs.refl d L,i,b,EF kE vE ms,c,_,hi,ex,by rw[ey];exact Ij hk k ms 0,_,_,Vs.refl _ _,by rw[Zh];exact h⟩
def AdC{x}{b c:Nat}{ms:List (κ×ν×Nat)}{t:Option Nat}(i:Nat)(hi:L[i]?=some (mp kE vE b ms c))(ex:ev ρ x=.map (some b))
  (h:gws P pan Qn s Ls (put ρ t (.tuple #[])) d (L.set i (mp kE vE b [] c))):gws P pan Qn (.op false ⟨t,none,.mop (.clr x)⟩ s) Ls ρ d L:=
 ⟨d,L,Vs.refl d L,i,b,(EF kE vE ms).toArray,c,hi,ex,_,_,Vs.refl _ _,h⟩
def Aa4{b c i:Nat}{ms:List (κ×ν×Nat)}(hi:(Ls++L)[i]?=some (mp kE vE b ms c)):Io d ((Ls++L)++L) (.map (some b)) (EF kE vE ms):=
 .inr ⟨b,c,Z,_,.inr (List.mem_append_left _ (List.mem_of_getElem? hi)),CN _ _⟩
def Abq [DecidableEq κ] {kd:Nat}{z x y}{b c:Nat}{ms:List (κ×ν×Nat)}{k:κ}{v:ν}(hk:QZ kd kE) (i:Nat) (hi:(Ls++L)[i]?=some (mp kE vE b ms c)) (ex:ev ρ x=.map (some b)) (ey:ev ρ y=kE k) (hg:E0 k ms=some v)
  (h:gws P pan Qn s Ls (upd ρ t (vE v)) d L):gws P pan Qn (.op false ⟨some t,none,.mop (.lk kd z false x y)⟩ s) Ls ρ d L:=by
 refine⟨d,L,Vs.refl d L,EF kE vE ms,_,by rw[ex];exact Aa4 hi,by rw[ey];exact Ij hk k ms 0,_,_,Vs.refl _ _,?_⟩
 have:=QL k ms 0
 rw[hg] at this
 cases hq:mIx k ms 0 with
 |none=>rw[hq] at this;cases this
 |some p=>rw[hq] at this;simp at this;subst this;exact h
end
end
end Go.Gk
end
section
namespace Go.Gk
open Go
def Cc:List Value:=Aeu 256 (.int .u8 0)
def CI:Cc.length=256:=Afk
def U9:∀(cs:List Value) (k off:Nat) (a:Array Value),off+k+cs.length≤a.size→(cs.zipIdx k).foldl (fun(a:Array Value) (p:Value×Nat)=>a.setIfInBounds (off+p.2) p.1) a=(patch a.toList (off+k) cs).toArray
 |[],k,off,a,h=>by simp[patch]
 |c::cs,k,off,a,h=>by
  simp only[Aep] at h;rw[List.zipIdx_cons,Aix,U9 cs (k+1) off _ (by simp;omega)];congr 1;have h1:off+k<a.toList.length:=by simp;omega
  simp only[Array.toList_setIfInBounds];apply Ahm;intro i;rw[CM (by simp;omega),CM (by simp;omega)];simp only[Aep];by_cases e:i=off+k
  ·subst e;rw[if_neg (by omega),if_pos ⟨by omega,by omega⟩,Aia,List.getElem?_set_self h1];rfl
  ·by_cases e2:off+(k+1)≤i∧i<off+(k+1)+cs.length
   ·rw[if_pos e2,if_pos ⟨by omega,by omega⟩,show i - (off+k)=(i - (off+(k+1)))+1 by omega,List.getElem?_cons_succ]
   ·rw[if_neg e2,if_neg (by omega),List.getElem?_set_ne (by omega)]
def MB{place:Nat→Option (Nat×Nat)}{a}{i off sz:Nat}{v}{ps:List (Nat×Value)}(hp:place i=some (off,sz))(hs:v.cells.size=sz)(ho:off+sz≤a.length):
  Instr.fill place a.toArray ((i,v)::ps)=Instr.fill place (patch a off v.cells.toList).toArray ps:=by
 rw[Instr.fill]
 simp only[hp]
 rw[if_neg (by simp[hs];omega)]
 congr 1
 have:=U9 v.cells.toList 0 off a.toArray (by simp[hs];omega)
 rw[Nat.add_zero] at this
 have e:v.cells.zipIdx.foldl (fun cs (c,j)=>cs.setIfInBounds (off+j) c) a.toArray=(v.cells.toList.zipIdx 0).foldl (fun(a:Array Value) (p:Value×Nat)=>a.setIfInBounds (off+p.2) p.1) a.toArray:=by
  rw[←Array.foldl_toList,Array.toList_zipIdx]
 exact e.trans this
def Sj{l cs}(h:l.length=cs.length):patch l 0 cs=cs:=by simp[patch,h]
section
variable {P:Program}{pan:List PanicEntry→AU}{Qn:Env→AU}{Ls L:List Ac}{ρ:Env}{d:Ac}{s:GS}{t:Nat}{tk:Bool}
def BP{l}(h:∀b T,gws P pan Qn s Ls (upd ρ t (pZ b)) d (bx b T l::L)):
  gws P pan Qn (.op false ⟨some t,none,.alo (.agg l.toArray)⟩ s) Ls ρ d L:=Dg h
def EV{n:Nat}{x y}{b:Nat}{T l cs}(i:Nat)(hi:L[i]?=some (bx b T l))(ex:ev ρ x=pZ b)(ey:ev ρ y=.agg cs.toArray)(hn:cs.length=n)(hl:l.length=n)(h1:(cs.all (·.oneCell'))=true)
  (h:gws P pan Qn s Ls ρ d (L.set i (bx b T cs))):gws P pan Qn (.op false ⟨none,none,.st n x y⟩ s) Ls ρ d L:=
 BW (v:=.agg cs.toArray) i hi ex ey (by simpa [Value.cells] using hn) (by omega) (by simpa [Value.cells] using h1) (by
  have:patch l 0 (Value.agg cs.toArray).cells.toList=cs:=by simp only[Value.cells];exact Sj (by omega)
  rw[this];exact h)
def Br{n:Nat}{x y}{b o:Nat}{T l cs}(i:Nat)(hi:L[i]?=some (bx b T l))(ex:ev ρ x=.pointer (some ⟨b,o,none⟩))(ey:ev ρ y=.agg cs.toArray)(hn:cs.length=n)(hl:o+n≤l.length)(h1:(cs.all (·.oneCell'))=true)
  (h:gws P pan Qn s Ls ρ d (L.set i (bx b T (patch l o cs)))):gws P pan Qn (.op false ⟨none,none,.st n x y⟩ s) Ls ρ d L:=
 BW (v:=.agg cs.toArray) i hi ex ey (by simpa [Value.cells] using hn) hl (by simpa [Value.cells] using h1) h
def Lq{x}{n b o:Nat}{T l}(cs:List Value)(i:Nat)(e:ev ρ x=.pointer (some ⟨b,o,none⟩))(hi:(lk tk Ls L)[i]?=some (bx b T l))(hn:cs.length=n)(hc:∀j u,cs[j]?=some u→l[o+j]?=some u)
  (h:gws P pan Qn s Ls (upd ρ t (.agg cs.toArray)) d L):gws P pan Qn (.op tk ⟨some t,none,.ld (some n) x⟩ s) Ls ρ d L:=
 w_q Z ⟨b,o,cs,e,hn,fun j u hu=>Al i hi (hc j u hu),Z⟩ h
def BD{x i}{sz b n c:Nat}{k}{j:Int}(m:Nat)(ex:ev ρ x=.slice (some ⟨b,0,none⟩) n c)(ei:ev ρ i=.int k j)(hm:j=(m:Int))(hl:m<n)
  (h:gws P pan Qn s Ls (upd ρ t (.pointer (some ⟨b,m*sz,none⟩))) d L):gws P pan Qn (.op tk ⟨some t,none,.idx sz x i⟩ s) Ls ρ d L:=
 BL (o:=0) m ex ei hm hl (SAd.some n b 0) (by rw[Agg];exact h)
def VB{sz:Nat}{z cs x}(ex:ev ρ x=.agg cs.toArray)(hz:z.length=sz)(hc:cs.length=sz)(hs:sz≤16777216)(h:∀b T,gws P pan Qn s Ls (upd ρ t (.slice (some ⟨b,0,none⟩) 1 1)) d (bx b T cs::L)):
  gws P pan Qn (.op false ⟨some t,none,.bsl 1 sz z [(0,x)]⟩ s) Ls ρ d L:=by
 refine CZ (cs:=cs) (by omega) ?_ h
 simp only[Agw,List.map_nil,ex]
 rw[MB (off:=0) (sz:=sz) (by simp) (by simpa [Value.cells] using hc) (by simp[Bq])]
 rw[Instr.fill,show(Value.agg cs.toArray).cells.toList=cs from Z,Sj (by simp[Bq,hc])]
def Adf{x y k}{a:Int}{cs}(ex:ev ρ x=.int k a)(ey:ev ρ y=.agg cs.toArray)(hc:cs.length=256)(h:gws P pan Qn s Ls (upd ρ t (.agg (Value.int k a::cs).toArray)) d L):
  gws P pan Qn (.op tk ⟨some t,none,.bld [(0,1),(1,256)] (Value.int .i64 0::Cc) [(0,x),(1,y)]⟩ s) Ls ρ d L:=by
 refine BJ ?_ h
 simp only[Agw,List.map_nil,ex,ey]
 have e0:patch (Value.int .i64 0::Cc) 0 (Value.int k a).cells.toList=Value.int k a::Cc:=Z
 have e2:patch (Value.int k a::Cc) 1 (Value.agg cs.toArray).cells.toList=Value.int k a::cs:=by
  show List.take 1 (Value.int k a::Cc)++cs++List.drop (1+cs.length) (Value.int k a::Cc)=_;rw[Aha (by rw[Aep,CI];omega),Afh];rfl
 rw[MB (off:=0) (sz:=1) Z Z (by rw[Aep];omega),e0,MB (off:=1) (sz:=256) Z (by simpa only[Value.cells,List.size_toArray] using hc) (by rw[Aep,CI];omega),e2]
 rfl
def Acz{x}{n t1 t2:Nat}{v l}(tk2:Bool)(ex:ev ρ x=v)(hr:AJ d v l)(hl:l.length=n)(hn:n≠0)(k:∀p,gws P pan Qn s Ls (upd (upd ρ t1 p) t2 (.agg (l.map Av).toArray)) d L):
  gws P pan Qn (.op tk ⟨some t1,none,.s2a n x⟩ (.op tk2 ⟨some t2,none,.ld (some n) (.tmp t1)⟩ s)) Ls ρ d L:=by
 obtain⟨a,c,b,o,rfl,h2,h3,h4,h5,h6,h7,h8⟩:=hr
 have ha:=h2 (by omega)
 subst ha
 refine w_q (v:=.pointer (some ⟨b,o,none⟩)) Z ⟨_,_,_,ex,by omega,Z⟩ ?_
 refine w_q Z ⟨b,o,l.map Av,by simp[ev,upd],by simpa using hl,fun i u hu=>?_,Z⟩ (k _)
 rw[Ags] at hu
 cases hi:l[i]? with
 |none=>rw[hi] at hu;cases hu
 |some w=>
  rw[hi] at hu;cases hu
  obtain⟨hi',rfl⟩:=Aeq.1 hi
  obtain⟨cs,k1,k2,k3⟩:=h8 i hi'
  have k3:cs=[Av l[i]]:=k3
  subst k3
  rw[Agn] at k2
  exact BB k2.one
end
def As.at{α}{sz:Nat}{R d v}{xs:List α}{h}(hsz:0<sz)(o:As sz R d v xs h){m:Nat}(hm:m<xs.length):
  ∃b T l c cs,v=.slice (some ⟨b,0,none⟩) xs.length c∧h=bx b T l∧cs.length=sz∧(∀j u,cs[j]?=some u→l[m*sz+j]?=some u)∧m*sz+sz≤l.length∧R d cs xs[m]∧
   ∀cs' x,cs'.length=sz→R d cs' x→As sz R d v (xs.set m x) (bx b T (patch l (m*sz) cs')):=by
 obtain⟨b,T,l,c,e1,e2,e3,e4⟩:=o.Adk hsz hm
 obtain⟨cs,⟨h1,h2,⟨q1,h0,q2⟩|⟨b',T',l',c',q1,q2,h3,h4,h5,h6⟩⟩,hr⟩:=o
 ·omega
 ·have hmz:m*sz+sz≤xs.length*sz:=by have:=Afs sz (show m+1≤xs.length from hm);rwa [Agt,Aih] at this
  have hbl:l'.toArray=l.toArray∧b'=b:=by
   rw[e2] at q2;have:=(congrFun (congrFun q2 b) (.cells l.toArray T (0,0))).mp (CN _ _);obtain⟨z1,z2⟩:=Hx this;injection z2 with z3
   exact⟨z3.symm,z1.symm⟩
  have hl':l'=l:=by simpa using hbl.1
  subst hl'
  refine⟨b,T,l',c,chunk cs m sz,e1,e2,?_,fun j u hu=>?_,e3,hr m hm,e4⟩
  ·exact Jy h1 hm
  ·rw[JG] at hu
   split at hu
   ·rename_i hj
    rw[←h6,List.getElem?_take] at hu
    split at hu
    ·exact hu
    ·cases hu
   ·cases hu
def As.zero{α:Type}{sz:Nat}{R:Ac→List Value→α→Prop}{d:Ac}{b n:Nat}{T:TypeId}{z:List Value}{x:α}(hz:z.length=sz)(_:0<sz)(hx:R d z x)(hn:n≤140737488355328):
  As sz R d (.slice (some ⟨b,0,none⟩) n n) (Aeu n x) (bx b T (Bq z (n*sz))):=by
 refine As.lit (by simp) (by simp[Bq]) (by simpa using hn) (fun i hi=>?_)
 have hin:i<n:=by simpa using hi
 have:chunk (Bq z (n*sz)) i sz=z:=by
  refine Ahm fun k=>?_;rw[JG];by_cases hk:k<sz
  ·have h1:(i+1)*sz≤n*sz:=Afs sz hin;rw[Agt,Aih] at h1;rw[if_pos hk,Bq,Ags,List.getElem?_range (by omega),Ahi,hz,show i*sz+k=k+sz*i by rw[Nat.mul_comm];omega,Nat.add_mul_mod_self_left,Ahl hk];rw[Aee,Aed (by omega)];simp
  ·rw[if_neg hk,Afo (by omega)]
 rw[this]
 simpa using hx
def Ie{l cs:List Value}{o j:Nat}{x:Value}(hc:∀i u,cs[i]?=some u→l[o+i]?=some u)(hj:j<cs.length)(hl:o+cs.length≤l.length):patch l (o+j) [x]=patch l o (cs.set j x):=by
 refine Ahm fun k=>?_;rw[CM (by simp;omega),CM (by simp;omega)];simp only[Aep,List.length_nil,Aff];by_cases h1:o≤k∧k<o+cs.length
 ·rw[if_pos h1];by_cases h2:k=o+j
  ·subst h2;rw[if_pos (by omega),Aia,show o+j - o=j by omega,List.getElem?_set_self hj];rfl
  ·rw[if_neg (by omega),List.getElem?_set_ne (by omega)];have:=hc (k - o) cs[k - o] (Aed (by omega));rw[show o+(k - o)=k by omega] at this;rw[this,Aed (by omega)]
 ·rw[if_neg h1,if_neg (by omega)]
def AA.reorder{P f args d L L1 R}(p:L.Perm L1)(h:AA P f args d L1 R):AA P f args d L R:=AA.vs (Vs.perm p) h
end Go.Gk
namespace Go.Gk
open Go
def Du(P:Program)(f:FuncId)(args:List Value)(d:Ac)(L:List Ac)(v:Value):Prop:=AA P f args d L (Ret fun r d' L'=>r=v∧d'=d∧L'=L)
section
variable {P:Program}{pan:List PanicEntry→AU}{Qn:Env→AU}{Ls L:List Ac}{ρ:Env}{d:Ac}{s:GS}{t:Nat}
def CR{f args vs v A B}(hL:L=A++B)(ea:args.map (ev ρ)=vs)(hc:Du P f vs d A v)(h:gws P pan Qn s Ls (upd ρ t v) d L):
  gws P pan Qn (.op false ⟨some t,none,.call f args⟩ s) Ls ρ d L:=
 DY hL ea hc (fun r d' L' _ ⟨h1,h2,h3⟩=>by subst h1;subst h2;subst h3;rw[←hL];exact h)
def Rf{f args R vs A B}(hL:L=A++B)(ea:args.map (ev ρ)=vs)(hc:AA P f vs d A (Ret R))
  (h:∀v d' L',Le d d'→R v d' L'→gws P pan Qn s Ls (upd ρ t v) d' (L'++B)):gws P pan Qn (.op false ⟨some t,none,.call f args⟩ s) Ls ρ d L:=DY hL ea hc h
def K4{v L1}(e:ρ t=v)(hs:L1.Sublist L):CL [.tmp t] (Ret fun r d' L'=>r=v∧d'=d∧L'=L1) ρ d L:=BO e hs ⟨Z,Z,Z⟩
def Abr{u:Nat}{v w L1}(e:ρ t=v)(e':ρ u=w)(hs:L1.Sublist L):CL [.tmp t,.tmp u] (Ret fun r d' L'=>r=.tuple #[v,w]∧d'=d∧L'=L1) ρ d L:=Cw e e' hs ⟨Z,Z,Z⟩
end
end Go.Gk
namespace Go.Gk
open Go
def Acx{P}{Q:B5}{ρ d L f}{ps:List Nat}{as bd:Cm}{g}{first cap:Array Value}(ef:ev ρ f=.func (.func g) first cap)
  (h:∀l rc,S3 P ρ ps as bd rc→rc.state=.ready→rc.pending=none→AA P g (first.toList++[.func (.yield l) #[] #[]]++cap.toList) d (sg l (.loop rc)::L)
   (Ret fun _ d' L'=>∃rc' L'',L'=sg l (.loop rc')::L''∧rc'.state≠.busy∧(match rc'.pending with|none=>Q.n ρ d' L''|some (.exit id)=>Q.ex id ρ d' L''|some .ret=>Q.ret ρ d' L''|_=>False))):xwp P (.rf f ps as bd) Q ρ d L:=
 ⟨g,first,cap,ef,fun l rc h1 h2 h3=>⟨_,h l rc h1 h2 h3,fun e d' L' _ hr=>by
  cases e with
  |returned v=>obtain⟨rc',L'',k1,k2,k3⟩:=hr;exact⟨v,rc',L'',Z,k1,k2,k3⟩
  |panicked c=>exact hr.elim
  |outgrown=>exact hr.elim⟩⟩
def Xq{rc:Loop}(h1:rc.state=.ready)(h2:rc.pending=none):{rc with state:=.ready,pending:=none}=rc:=by
 cases rc;simp only at h1 h2;subst h1;subst h2;rfl
end Go.Gk
namespace Go.Gk
open Go
section
variable {P:Program}{pan:List PanicEntry→AU}{Qn:Env→AU}{Ls L:List Ac}{ρ:Env}{d:Ac}{s:GS}{t:Nat}
def Ro{f args R vs A B}(hp:L.Perm (A++B))(ea:args.map (ev ρ)=vs)(hc:AA P f vs d A (Ret R))
  (h:∀v d' L',Le d d'→R v d' L'→∃d2 L2,Vs d' (L'++B) d2 L2∧gws P pan Qn s Ls (upd ρ t v) d2 L2):gws P pan Qn (.op false ⟨some t,none,.call f args⟩ s) Ls ρ d L:=by
 refine BS d (A++B) (Vs.perm hp) ⟨d,A++B,Vs.refl d _,.inl ⟨A,B,Ret R,Z,by rw[ea];exact hc,fun e d' L' hl hr=>?_⟩⟩
 cases e with
 |returned v=>exact h v d' L' hl hr
 |panicked c=>exact hr.elim
 |outgrown=>exact hr
def Ds{f args R vs A B}(hc:AA P f vs d A (Ret R))(hp:L.Perm (A++B))(ea:args.map (ev ρ)=vs)
  (h:∀v d' L',Le d d'→R v d' L'→∃d2 L2,Vs d' (L'++B) d2 L2∧gws P pan Qn s Ls (upd ρ t v) d2 L2):gws P pan Qn (.op false ⟨some t,none,.call f args⟩ s) Ls ρ d L:=Ro hp ea hc h
def CA{f args R vs}(hc:AA P f vs d L (Ret R))(ea:args.map (ev ρ)=vs)
  (h:∀v d' L',Le d d'→R v d' L'→gws P pan Qn s Ls (upd ρ t v) d' L'):gws P pan Qn (.op false ⟨some t,none,.call f args⟩ s) Ls ρ d L:=
 DY (B:=[]) (Afh _).symm ea hc (fun v d' L' hl hr=>by rw[Afh];exact h v d' L' hl hr)
def Nz{f args vs v A B}(hp:L.Perm (A++B))(ea:args.map (ev ρ)=vs)(hc:Du P f vs d A v)(h:gws P pan Qn s Ls (upd ρ t v) d L):
  gws P pan Qn (.op false ⟨some t,none,.call f args⟩ s) Ls ρ d L:=
 Ro hp ea hc (fun r d' L' _ ⟨h1,h2,h3⟩=>by subst h1;subst h2;subst h3;exact⟨d',L,Vs.perm hp.symm,h⟩)
end
def UG{l cs}{o j:Nat}{u}(hl:o+cs.length≤l.length)(hu:cs[j]?=some u):(patch l o cs)[o+j]?=some u:=by
 have:=(Aeq.1 hu).1;rw[CM hl,if_pos (by omega),show o+j - o=j by omega,hu]
def VR{l cs ds}{o:Nat}(hl:o+cs.length≤l.length)(he:ds.length=cs.length):patch (patch l o cs) o ds=patch l o ds:=by
 refine Ahm fun k=>?_;rw[CM (l:=patch l o cs) (by rw[Bt hl];omega),CM (l:=l) (vs:=cs) hl,CM (l:=l) (vs:=ds) (by omega)];by_cases h:o≤k∧k<o+ds.length
 ·rw[if_pos h,if_pos h]
 ·rw[if_neg h,if_neg h,if_neg (by omega)]
def X6{l cs:List Value}{o j:Nat}{x:Value}(hj:j<cs.length)(hl:o+cs.length≤l.length):patch (patch l o cs) (o+j) [x]=patch l o (cs.set j x):=by
 rw[Ie (cs:=cs) (fun i u hu=>UG hl hu) hj (by rw[Bt hl];exact hl),VR hl (by simp)]
end Go.Gk
namespace Go.Gk
open Go
section
variable {P:Program}{pan:List PanicEntry→AU}{Qn:Env→AU}{Ls L:List Ac}{ρ:Env}{d:Ac}{s:GS}{t:Nat}
def Abn{by_:Nat}{x k}{n:Nat}(ex:ev ρ x=.int k (n:Nat))(h1:by_*n+112≤281474976710656)(h2:n<9223372036854775808)
  (h:∀b,gws P pan Qn s Ls (upd ρ t (.chan (some b))) d (sg b (.chan n #[] false 0 0 false)::L)):gws P pan Qn (.op false ⟨some t,none,.mop (.mkc by_ x)⟩ s) Ls ρ d L:=
 ⟨d,L,Vs.refl d L,by simp only[gop,gi,mi];exact⟨k,n,ex,h1,h2,fun b=>⟨_,_,Vs.refl _ _,h b⟩⟩⟩
end
end Go.Gk
namespace Go.Gk
open Go
section
variable {P:Program}{pan:List PanicEntry→AU}{Qn:Env→AU}{Ls L:List Ac}{ρ:Env}{d:Ac}{s:GS}{t:Nat}
end
end Go.Gk
namespace Go.Gk
open Go
section
variable {P:Program}{pan:List PanicEntry→AU}{Qn:Env→AU}{Ls L:List Ac}{ρ:Env}{d:Ac}{s:GS}{t:Nat}{tk:Bool}
def Ac0{neg:Bool}{x y a}(ex:ev ρ x=.pointer a)(ey:ev ρ y=.pointer a)(h:gws P pan Qn s Ls (upd ρ t (.bool (!neg))) d L):
  gws P pan Qn (.op tk ⟨some t,none,.eqp neg x y⟩ s) Ls ρ d L:=w_q Z ⟨a,a,ex,ey,by cases a;exact .inl Z;exact .inr (.inr Z),by cases neg<;>simp⟩ h
def Acq{neg:Bool}{x y}{b:Nat}(ex:ev ρ x=.map (some b))(ey:ev ρ y=.map none)(h:gws P pan Qn s Ls (upd ρ t (.bool neg)) d L):
  gws P pan Qn (.op tk ⟨some t,none,.eqm neg x y⟩ s) Ls ρ d L:=w_q Z ⟨some b,ex,ey,by cases neg<;>rfl⟩ h
def AdD{T x v}(ex:ev ρ x=.iface T v)(h:gws P pan Qn s Ls (upd ρ t v) d L):
  gws P pan Qn (.op tk ⟨some t,none,.tas T x⟩ s) Ls ρ d L:=w_q Z ex h
def Ac8{x T}{b c:Nat}{es:Array MapEntry}(ex:ev ρ x=.iface T (.map (some b)))(hm:HO d (Ls++L++L) b (.map es c))(h:∀q,gws P pan Qn s Ls (upd ρ t (.iface T (.map (some q)))) d (sg q (.map es c)::L)):
  gws P pan Qn (.op false ⟨some t,none,.mop (.cln x)⟩ s) Ls ρ d L:=
 ⟨d,L,Vs.refl d L,by simp only[gop,gi,mi];exact⟨T,b,es,c,ex,hm,fun q=>⟨_,_,Vs.refl _ _,h q⟩⟩⟩
end
end Go.Gk
namespace Go.Gk
open Go
def IG{P}{pan:List PanicEntry→AU}{Qn:Env→AU}{Ls L ρ d}(h:∃d1 L1,Vs d (Ls++L) d1 L1∧Qn ρ d1 L1):gws P pan Qn .done Ls ρ d L:=h
end Go.Gk
end
section
namespace Go.Gk.Dev
open Go Go.Gk
attribute [local irreducible] gwp gws xwp
variable{P:Program}{f:FuncId}
abbrev Sec:=List UInt8
structure EK where
 syn:List Sec
 opn:List (Nat×Sec)
def U2(_:Ac)(cs:List Value)(x:Sec):Prop:=cs=x.map Av∧x.length=256
def RWr(_:Ac)(cs:List Value)(x:Nat×Sec):Prop:=cs=vZ x.1::x.2.map Av∧x.2.length=256
def AaU:FZ U2:=fun _ h=>h
def Ab6:FZ RWr:=fun _ h=>h
def TV:FC RWr:=fun _ _ _ h=>by obtain⟨rfl,_⟩:=h;rw[Ajq,CB];rfl
def JP:Sec:=Aeu 256 0
def Ac3{d}:U2 d Cc JP:=⟨by rw[JP,List.map_replicate];rfl,Afk⟩
def Gc(k:Nat):List (Nat×Sec)→Option Sec
 |[]=>none
 |w::l=>match Gc k l with|some b=>some b|none=>if w.1=k then some w.2 else none
def EK.cur(D:EK)(k:Nat):Sec:=(Gc k D.opn).getD (D.syn.getD k [])
def synced(l:List (Nat×Sec))(s:List Sec):List Sec:=l.foldl (fun s w=>s.set w.1 w.2) s
def EX(l:List (Nat×Sec)):∀s,(synced l s).length=s.length:=by
 induction l with
 |nil=>exact fun _=>Z
 |cons w l ih=>intro s;rw[synced,Aix];exact(ih _).trans (Aff ..)
def JO(l:List (Nat×Sec))(w:Nat×Sec)(s:List Sec):synced (l++[w]) s=(synced l s).set w.1 w.2:=by simp[synced]
def Dv(d:Ac)(D:EK)(v:Value)(L:List Ac):Prop:=
 ∃b T vs vo r hs ho,v=pZ b∧L=[bx b T [vs,vo,vZ r,vZ 0],hs,ho]∧As 256 U2 d vs D.syn hs∧As 257 RWr d vo D.opn ho∧(∀w∈D.opn,w.1<D.syn.length)∧D.syn.length≤8192
def Dv.mono{d d'}{D:EK}{v L}(h:Dv d D v L)(hl:Le d d'):Dv d' D v L:=
 let ⟨b,T,vs,vo,r,hs,ho,h1,h2,h3,h4,h5,h6⟩:=h
 ⟨b,T,vs,vo,r,hs,ho,h1,h2,As.mono (R:=U2) AaU h3 hl,As.mono (R:=RWr) Ab6 h4 hl,h5,h6⟩
def Hf(P:Program)(f:FuncId):Prop:=∀{d}{D:EK}{v L},Dv d D v L→Du P f [v] d L (vZ D.syn.length)
def KF:A0:=⟨10,[(.tmp 2)],(sR (o1 2 (.mv z0) .done) (.seq (sR (om 3 0<|o1 4 (.eqp false 3 (.const (.pointer none))) .done) (.cond 4 (sR (o1 2 (.mv z0) .done) .ret) .skip)) (sR (om 5 0<|o1 6 (.nilc 5)<|oj 7 0 6<|ol 8 7<|oL 9 8<|om 2 9 .done) .ret)))⟩
def UN(hd:dec P f=some KF):Hf P f:=by
 intro d D v L h;obtain⟨b,T,vs,vo,r,hs,ho,rfl,rfl,h3,h4,h5,h6⟩:=h;refine AG hd (Aea Z) ?_;show gwp P _ _ _ _ _;(refine Ad<|Ab Z<|Aa<|Ag<|Ad<|Am Z<|Cg Z Z<|Aa<|AS Z<|Ak<|Ad<|Am Z<|AF Z<|Ai Z<|Ah Z (Al 0 Z Z)<|Y3 Z (by assumption)<|Ab Z<|Aa<|Ap ?_);exact K4 Z (Aeb _)
def Hi(P:Program)(f:FuncId):Prop:=∀{d}{D:EK}{v L}{k n:Nat},Dv d D v L→k<D.syn.length→n=256→Du P f [v,vZ k,vZ n] d L (vZ 0)
def Kv(a0:Nat):A0:=⟨32,[(.tmp 6)],(sR (o1 6 (.mv z0) .done) (.seq (.block 0 (sR (om 8 0<|oc 9 a0 [8]<|ob 10 .eql 9 z0<|om 7 10 .done) (.cond 7 (sR (o1 6 (.mv z1) .done) .ret) (sR (om 12 1<|ob 13 .lss 12 z0<|om 14 13<|gF 15 14 1<|gF 16 14 0<|oF 17 14 (.nilc 16)<|oF 18 14 (.fld 0 17)<|oF 19 14 (.ld none 18)<|oF 20 14 (.len 19)<|oF 21 14 (.bin .geq 15 20)<|o1 22 (.pick 14 (.const (.bool true)) 21)<|om 11 22 .done) (.cond 11 (sR (o1 6 (.mv (kZ 4)) .done) .ret) (sR (om 24 2<|ob 25 .neq 24 (kZ 256)<|om 23 25 .done) (.cond 23 (sR (o1 6 (.mv z2) .done) .ret) (sR (om 27 0<|o1 28 (.nilc 27)<|oj 29 3 28<|ol 30 29<|ob 31 .eql 30 z1<|om 26 31 .done) (.cond 26 (sR (o1 6 (.mv (kZ 150)) .done) .ret) .skip))))))))) (sR (o1 6 (.mv z0) .done) .ret)))⟩
def RK{f1}(hd:dec P f=some (Kv f1))(h1:Hf P f1):Hi P f:=by
 intro d D v L k n h hk hn;have h0:=h;obtain⟨b,T,vs,vo,r,hs,ho,rfl,rfl,h3,h4,h5,h6⟩:=h;refine AG hd (Aea Z) ?_;show gwp P _ _ _ _ _;refine Ad<|Ab Z<|Aa<|Ag<|Ax<|Ad<|Am Z<|CR (B:=[]) Z Z (h1 h0) ?_;(refine AN Z Z<|Ae Z<|Aa<|Ar Z (by omega)<|Ad<|Ab Z<|AB Z Z<|Ae Z<|A3 Z (by omega)<|Af Z<|Ab Z<|Af Z<|Am Z<|Af Z<|AF Z<|Af Z<|Ai Z<|Af Z<|Ah Z (Al 0 Z Z)<|Af Z<|Y3 Z (by assumption)<|Af Z<|Da Z Z<|Au Z Z<|Ae Z<|Aa<|Ar Z (by omega)<|Ad<|Ab Z<|AO Z Z<|Ae Z<|Aa<|Ar Z (by omega)<|Ad<|Am Z<|AF Z<|Ai Z<|Ah Z (Al 0 Z Z)<|AN Z Z<|Ae Z<|Aa<|Ar Z (by omega)<|Ak<|Ad<|Ab Z<|Aa<|Ap ?_);exact K4 Z (Aeb _)
def Kc(P:Program)(f:FuncId):Prop:=∀{d}{D:EK}{v L},Dv d D v L→AA P f [v] d L (Ret fun _ d' L'=>d'=d∧L'=L)
def KH:A0:=⟨14,[],(sR (om 2 0<|o1 3 (.nilc 2)<|oj 4 3 3<|ol 5 4<|ob 6 .gtr 5 z1 .done) (.cond 6 (rG (om 7 0<|o1 8 (.nilc 7)<|oj 9 3 8<|ol 10 9<|ob 11 .sub 10 z1<|o1 12 (.nilc 7)<|oj 13 3 12<|o0 (.st 1 13 11) .done)) .skip))⟩
def TZ(hd:dec P f=some KH):Kc P f:=by
 intro d D v L h;obtain⟨b,T,vs,vo,r,hs,ho,rfl,rfl,h3,h4,h5,h6⟩:=h;refine AG hd (Aea Z) ?_;show gwp P _ _ _ _ _;(refine Ad<|Am Z<|AF Z<|Ai Z<|Ah Z (Al 0 Z Z)<|Bx Z Z<|Aa<|Ar Z (by omega)<|Ak ?_);exact Dc [] trivial (Aeb _) ⟨Z,Z⟩
def KW(P:Program)(f:FuncId):Prop:=∀{d}{n:Nat},1≤n→n≤8192→AA P f [vZ n] d [] (Ret fun r d' L'=>∃v,r=.tuple #[v,vZ 0]∧d'=d∧Dv d ⟨Aeu n JP,[]⟩ v L')
def Va:A0:=⟨14,[(.tmp 2),(.tmp 3)],(sR (o1 2 (.mv (.const (.pointer none)))<|o1 3 (.mv z0) .done) (.seq (sR (om 4 0<|ob 5 .lss 4 z1<|om 6 5<|gF 7 6 0<|oF 8 6 (.bin .gtr 7 (kZ 8192))<|o1 9 (.pick 6 (.const (.bool true)) 8) .done) (.cond 9 (sR (o1 2 (.mv (.const (.pointer none)))<|o1 3 (.mv z2) .done) .ret) .skip)) (sR (om 10 0<|o1 11 (.mks 256 256 Cc 10 10)<|o1 12 (.bld [(0,1),(1,1),(2,1),(3,1)] [nV,nV,(vZ 0),(vZ 0)] [(0,11)])<|o1 13 (.box 12)<|om 2 13<|o1 3 (.mv z0) .done) .ret)))⟩
def Wr(hd:dec P f=some Va):KW P f:=by
 intro d n h1 h2;refine AG hd (Aea Z) ?_;show gwp P _ _ _ _ _;refine Ad<|Am Z<|Ab Z<|Aa<|Ag<|Ad<|Ab Z<|AB Z Z<|Ae Z<|A3 Z (by omega)<|Af Z<|Ab Z<|Af Z<|Bx Z Z<|Au Z Z<|Aa<|Ar Z (by omega)<|Ak<|Ad<|Ab Z<|It Z Z (Aef n) (by omega) (by omega) (fun b T=>?_);(refine BJ Z<|Ck Z (fun _ _=>Am Z<|Ab Z<|Aa<|Ap ?_));rename_i b2 T2;refine A4 [_,_] ⟨Z,Z,trivial⟩ (d':=d) (L':=[bx b2 T2 [.slice (some ⟨b,0,none⟩) n n,nV,vZ 0,vZ 0],bx b T (Bq Cc (n*256)),emp]) ?_ ⟨_,Z,Z,_,_,_,_,_,_,_,Z,Z,?_,As.nil,fun w hw=>(by cases hw),by simpa using h2⟩
 ·exact(Vs.emp).trans (Vs.perm (Aei (l₁:=[emp])))
 ·exact As.zero CI (by omega) Ac3 (by omega)
def K9(P:Program)(f:FuncId):Prop:=∀{d}{D:EK}{v w L}{k:Nat}{l:Sec},Dv d D v L→k<D.syn.length→AJ d w l→l.length=256→D.opn.length≤1000000→
 AA P f [v,vZ k,w] d L (Ret fun r d' L'=>r=vZ 0∧d'=d∧Dv d ⟨D.syn,D.opn++[(k,l)]⟩ v L')
def J0(a0 a1:Nat):A0:=⟨32,[(.tmp 6)],(sR (o1 6 (.mv z0) .done) (.seq (sR (om 8 0<|om 9 1<|om 10 2<|oL 11 10<|oc 12 a0 [8,9,11]<|om 7 12 .done) (sR (om 13 7<|ob 14 .neq 13 z0 .done) (.cond 14 (sR (om 15 7<|om 6 15 .done) .ret) .skip))) (.seq (.reg true (pm 16 0<|pm 17 0<|p1 18 (.nilc 17)<|p1 19 (.fld 1 18)<|pm 21 1<|pm 22 2<|p1 23 (.s2a 256 22)<|p1 24 (.ld (some 256) 23)<|p1 25 (.bld [(0,1),(1,256)] (Value.int .i64 0::Cc) [(0,21),(1,24)]) (.alt ⟨(some 20),none,(.ld none 19)⟩ (o1 26 (.bsl 1 257 (Value.int .i64 0::Cc) [(0,25)]) (o1 27 (.app 257 264 (Value.int .i64 0::Cc) 20 26) (p1 28 (.nilc 16) (p1 29 (.fld 1 28) (o0 (.st 1 29 27) .done))))) (o1 26 (.bsl 1 257 (Value.int .i64 0::Cc) [(0,25)]) (ol 20 19 (o1 27 (.app 257 264 (Value.int .i64 0::Cc) 20 26) (p1 28 (.nilc 16) (p1 29 (.fld 1 28) (o0 (.st 1 29 27) .done))))))))) (sR (om 30 0<|oc 31 a1 [30] .done) (sR (o1 6 (.mv z0) .done) .ret)))))⟩
def RC{f1 f2}(hd:dec P f=some (J0 f1 f2))(h1:Hi P f1)(h2:Kc P f2):K9 P f:=by
 intro d D v w L k l h hk hw hl hn;have h0:=h;obtain⟨b,T,vs,vo,r,hs,ho,rfl,rfl,h3,h4,h5,h6⟩:=h;refine AG hd (Aea Z) ?_;show gwp P _ _ _ _ _;refine Ad<|Ab Z<|Aa<|Ag<|Ad<|Am Z<|Ab Z<|AR<|BI Z (by assumption)<|CR (B:=[]) Z Z (h1 h0 hk hl) ?_;refine Ab Z<|Aa<|Ad<|Ab Z<|AO Z Z<|Aa<|Ar Z (by omega)<|Ak<|Ag<|Bw [] _ Z ?_;refine Am Z<|Am Z<|AF Z<|Ai Z<|Ab Z<|AR<|Acz true Z hw hl (by omega) (fun p=>?_);refine Adf Z Z (by rw[Afv];exact hl) ?_;have hcl:(Value.int .i64 (k:Int)::l.map Av).length=257:=by rw[Aep,Afv];omega
 have hwr:RWr d (Value.int .i64 (k:Int)::l.map Av) (k,l):=⟨Z,hl⟩
 refine EP ?_ ?_
 ·(apply Ah;rfl;exact Al 0 Z Z);refine VB Z (by rw[Aep,CI]) hcl (by omega) (fun b2 T2=>?_);skip;refine Dj (R:=RWr) 2 Z Z h4 Z (As.D2 hcl hwr) TV (by omega) (by simp;omega) (by simp;omega) (fun v' h' ho'=>?_);(refine AF Z<|Ai Z ?_);obtain⟨av,cv,rfl⟩:=ho'.val;refine A7 0 [vs,.slice av (D.opn++[(k,l)]).length cv,vZ r,vZ 0] Z Z Z Z (Aea Z) Z Z ?_;have hD:Dv d ⟨D.syn,D.opn++[(k,l)]⟩ (pZ b) [bx b T [vs,.slice av (D.opn++[(k,l)]).length cv,vZ r,vZ 0],hs,h']:=
   ⟨b,T,vs,_,r,hs,h',Z,Z,h3,ho',fun w hw=>by
    rcases Aej.1 hw with hw|hw
    ·exact h5 w hw
    ·cases Aew.1 hw;exact hk,h6⟩
  refine Aa<|Ad<|Am Z<|Rf (B:=[]) Z Z (h2 hD) (fun u d' L' _ ⟨e1,e2⟩=>?_);subst e1;subst e2;(refine Aa<|Ad<|Ab Z<|Aa<|Ap ?_);exact BO Z (Aeb _) ⟨Z,Z,hD⟩
 ·refine VB Z (by rw[Aep,CI]) hcl (by omega) (fun b2 T2=>?_);(apply Ah;rfl;exact Al 1 Z Z);refine Dj (R:=RWr) 2 Z Z h4 Z (As.D2 hcl hwr) TV (by omega) (by simp;omega) (by simp;omega) (fun v' h' ho'=>?_);(refine AF Z<|Ai Z ?_);obtain⟨av,cv,rfl⟩:=ho'.val;refine A7 0 [vs,.slice av (D.opn++[(k,l)]).length cv,vZ r,vZ 0] Z Z Z Z (Aea Z) Z Z ?_;have hD:Dv d ⟨D.syn,D.opn++[(k,l)]⟩ (pZ b) [bx b T [vs,.slice av (D.opn++[(k,l)]).length cv,vZ r,vZ 0],hs,h']:=
   ⟨b,T,vs,_,r,hs,h',Z,Z,h3,ho',fun w hw=>by
    rcases Aej.1 hw with hw|hw
    ·exact h5 w hw
    ·cases Aew.1 hw;exact hk,h6⟩
  refine Aa<|Ad<|Am Z<|Rf (B:=[]) Z Z (h2 hD) (fun u d' L' _ ⟨e1,e2⟩=>?_);subst e1;subst e2;(refine Aa<|Ad<|Ab Z<|Aa<|Ap ?_);exact BO Z (Aeb _) ⟨Z,Z,hD⟩
def ND(P:Program)(f:FuncId):Prop:=∀{d}{D:EK}{v L},Dv d D v L→1≤D.syn.length→
 AA P f [v] d L (Ret fun r d' L'=>r=vZ 0∧d'=d∧Dv d ⟨synced D.opn D.syn,[]⟩ v L')
def K6(a0 a1:Nat):A0:=⟨35,[(.tmp 2)],(sR (o1 2 (.mv z0) .done) (.seq (sR (om 6 0<|oc 7 a0 [6,z0,(kZ 256)]<|om 3 7 .done) (sR (om 8 3<|ob 9 .neq 8 z0 .done) (.cond 9 (sR (om 10 3<|om 2 10 .done) .ret) .skip))) (.seq (sR (om 11 0<|o1 12 (.nilc 11)<|oj 13 1 12<|ol 14 13<|oL 15 14<|o1 16 (.mv z0) .done) (.block 0 (.loop (sR (ob 17 .lss 16 15 .done) (.seq (.cond 17 .skip (.exit 0)) (.seq (.block 1 (sR (oI 18 257 14 16<|o1 19 (.ld (some 257) 18)<|o1 5 (.alo (.agg (Value.int .i64 0::Cc).toArray))<|o0 (.st 257 5 19) .done) (.reg true (pm 20 0<|p1 21 (.nilc 20)<|p1 22 (.fld 0 21)<|pl 23 22<|p1 24 (.fld 0 5)<|pl 25 24<|p1 26 (.fld 1 5)<|p1 27 (.ld (some 256) 26)<|p1 28 (.idx 256 23 25) (.bar (o0 (.st 256 28 27) .done)))))) (rG (ob 29 .add 16 z1<|om 16 29 .done)))))))) (sR (om 30 0<|o1 31 (.nilc 30)<|oj 32 1 31<|o0 (.st 1 32 nS) .done) (sR (om 33 0<|oc 34 a1 [33] .done) (sR (o1 2 (.mv z0) .done) .ret))))))⟩
def Uq{f1 f2}(hd:dec P f=some (K6 f1 f2))(h1:Hi P f1)(h2:Kc P f2):ND P f:=by
 intro d D v L h hk;have h0:=h;obtain⟨b,T,vs,vo,r,hs,ho,rfl,rfl,h3,h4,h5,h6⟩:=h;obtain⟨ao,co,rfl⟩:=h4.val;have hlen:=h4.BF;refine AG hd (Aea Z) ?_;show gwp P _ _ _ _ _;refine Ad<|Ab Z<|Aa<|Ag<|Ad<|Am Z<|CR (B:=[]) Z Z (h1 (n:=256) (k:=0) h0 hk Z) ?_;refine Ab Z<|Aa<|Ad<|Ab Z<|AO Z Z<|Aa<|Ar Z (by omega)<|Ak<|Ag<|Ad<|Am Z<|AF Z<|Ai Z<|Ah Z (Al 0 Z Z)<|AI Z<|Ab Z<|Aa<|Ax<|B8 (α:=Nat×Ac) (fun x=>[(0,pZ b),(14,.slice ao D.opn.length co),(15,vZ D.opn.length),(16,vZ x.1)])
  (fun x d' L'=>d'=d∧x.1≤D.opn.length∧L'=[bx b T [vs,.slice ao D.opn.length co,vZ r,vZ 0],x.2,ho]∧As 256 U2 d vs (synced (D.opn.take x.1) D.syn) x.2) (fun x=>D.opn.length - x.1) (0,hs)
  ⟨Z,Z,Z,Z,trivial⟩ ⟨Z,by omega,Z,h3⟩ ?_
 rintro⟨i,hs'⟩ ρ d' L' ⟨rfl,hi,rfl,hg⟩;simp only at hi hg⊢;by_cases e:i<D.opn.length
 ·obtain⟨bo,To,lo,co',cs,e1,e2,hcl,hcs,hle,hr, -⟩:=As.at (by omega) h4 e;cases e1;subst e2;obtain⟨rfl,hbl⟩:=hr;have hin:D.opn[i].1<(synced (D.opn.take i) D.syn).length:=by rw[EX];exact h5 _ (Aey e)
  obtain⟨bs,Ts,ls,cs',us,rfl,rfl,hul,hus,hsle, -,hset⟩:=As.at (by omega) hg hin;refine Ad<|AB Z Z<|Aa<|Ag<|Aw Z (by omega)<|Ak<|Ag<|Ax<|Ad<|BD _ Z Z Z (by omega)<|Lq _ 2 Z Z hcl hcs ?_;(apply BP;intro _ _);refine EV 0 Z Z Z hcl (by rw[Aep,CI]) (by rw[Ajq,CB];rfl) ?_;refine Aa<|Bv<|Am Z<|AF Z<|Ai Z<|Ah Z (Al 1 Z Z)<|Ai Z<|Ah Z (Al 0 Z Z)<|Ai Z<|Lq (D.opn[i].2.map Av) 0 Z Z (by rw[Afv];exact hbl) (fun j u hu=>by rw[Nat.add_comm];simpa using hu) ?_;refine BD _ Z Z Z (by omega)<|Cd<|Br 2 Z Z Z (by rw[Afv];exact hbl) hsle (CB _) ?_;refine F7 ⟨_,[_,_,_],Vs.drop (Afd _ _),?_⟩;(refine AE<|AM Z Z (by omega) (by omega)<|Ab Z<|Aa ?_);refine⟨(i+1,_),by simp only;omega,⟨Z,Z,Z,Z,trivial⟩,Z,e,Z,?_⟩
  have:=hset _ D.opn[i].2 (by rw[Afv];exact hbl) ⟨Z,hbl⟩;rw[Aes e];rw[JO];exact this
 ·refine Ad<|AB Z Z<|Aa<|Ag<|Ar Z (by omega)<|Bd<|Ad<|Am Z<|AF Z<|Ai Z<|A7 0 [vs,nV,vZ r,vZ 0] Z Z Z Z (Aea Z) Z Z ?_;have ei:i=D.opn.length:=by omega
  subst ei;rw[Afq] at hg;have hD:Dv d' ⟨synced D.opn D.syn,[]⟩ (pZ b) [bx b T [vs,nV,vZ r,vZ 0],hs',emp]:=
   ⟨b,T,vs,_,r,hs',emp,Z,Z,hg,As.nil,fun w hw=>(by cases hw),by rw[EX];exact h6⟩
  refine F7 ⟨d',[bx b T [vs,nV,vZ r,vZ 0],hs',emp],?_,?_⟩
  ·exact((Vs.drop (by exact Agi _ (Agi _ (List.Sublist.cons _ List.Sublist.slnil)))).trans Vs.emp).trans (Vs.perm (Aei (l₁:=[emp])))
  refine Ad<|Am Z<|Rf (B:=[]) Z Z (h2 hD) (fun u d' L' _ ⟨e1,e2⟩=>?_);subst e1;subst e2;(refine Aa<|Ad<|Ab Z<|Aa<|Ap ?_);exact BO Z (Aeb _) ⟨Z,Z,hD⟩
end Go.Gk.Dev
end
section
namespace Go.Gk.Cch
open Go Go.Gk Go.Gk.Dev
structure Fr where
 held:Bool
 sec:Nat
 pins:Nat
 late:Bool
 b:Sec
def fz:Fr:=⟨false,0,0,false,[]⟩
structure CD where
 fr:List Fr
 free:List Nat
 hand:Nat
 hits:Nat
 miss:Nat
def findF(k:Nat):List Fr→Option Nat
 |[]=>none
 |f::l=>if f.held=true∧f.sec=k then some 0 else(findF k l).map (·+1)
def XG{k:Nat}{l:List Fr}{i:Nat}(hi:i<l.length):findF k (l.drop i)=if l[i].held=true∧l[i].sec=k then some 0 else(findF k (l.drop (i+1))).map (·+1):=by
 rw[Afl hi];rfl
def FB{k:Nat}:∀{l:List Fr}{i:Nat},findF k l=some i→∃h:i<l.length,l[i].held=true∧l[i].sec=k
 |[],i,h=>by cases h
 |f::l,i,h=>by
  rw[findF] at h;split at h
  ·rename_i e;cases h;exact⟨by simp,e⟩
  ·cases hf:findF k l with
   |none=>rw[hf] at h;cases h
   |some j=>
    rw[hf] at h;cases h
    obtain⟨h1,h2⟩:=FB hf
    exact⟨by simpa using h1,by simpa using h2⟩
def Qw{k:Nat}:∀{l:List Fr},findF k l=none→∀f∈l,¬(f.held=true∧f.sec=k)
 |f::l,h,g,hg=>by
  rw[findF] at h;split at h
  ·cases h
  ·rename_i e;rcases Aex.1 hg with rfl|hg
   ·exact e
   ·refine Qw ?_ g hg;cases hf:findF k l with
    |none=>rfl
    |some j=>rw[hf] at h;cases h
def Co(l:List Fr):Bool:=l.all fun f=>f.pins !=0
def Bu(l:List Fr)(h:Nat):Bool:=(l.getD h fz).pins==0 && !(l.getD h fz).late
def DO(l:List Fr)(h:Nat):List Fr:=if (l.getD h fz).pins=0 then l.set h {l.getD h fz with late:=false} else l
def CH(l:List Fr)(h:Nat):Nat:=(h+1) % l.length
def Cx:Nat→List Fr→Nat→List Fr×Nat×Nat
 |0,l,h=>(l,CH l h,h)
 |n+1,l,h=>if Bu l h then(l,CH l h,h) else Cx n (DO l h) (CH l h)
def Fv(l:List Fr)(h:Nat):(DO l h).length=l.length:=by unfold DO;split<;>simp
def SZ(l:List Fr):Nat:=l.countP fun f=>f.pins==0 && f.late
def Gz(l:List Fr):Nat→Nat→Nat
 |0,_=>0
 |n+1,h=>if (l.getD h fz).pins=0 then 0 else Gz l n (CH l h)+1
def Dx(l:List Fr)(h:Nat):Nat:=SZ l*(l.length+1)+Gz l l.length h
def WZ(l:List Fr):∀n h,Gz l n h≤n
 |0,_=>Aef _
 |n+1,h=>by rw[Gz];split;omega;have:=WZ l n (CH l h);omega
def O0{l:List Fr}{j:Nat}(hj:j<l.length)(hp:(l.getD j fz).pins=0):∀(n h:Nat),h<l.length→(h+n) % l.length=j→∀m,n<m→Gz l m h=Gz l (n+1) h
 |0,h,hh,e,m,hm=>by
  rw[Nat.add_zero,Ahl hh] at e;subst e;cases m with
  |zero=>omega
  |succ m=>rw[Gz,Gz,if_pos hp,if_pos hp]
 |n+1,h,hh,e,m,hm=>by
  cases m with
  |zero=>omega
  |succ m=>
   rw[Gz,Gz]
   by_cases q:(l.getD h fz).pins=0
   ·rw[if_pos q,if_pos q]
   ·rw[if_neg q,if_neg q]
    have h1:CH l h<l.length:=Ahp _ (by omega)
    have h2:(CH l h+n) % l.length=j:=by
     rw[CH,Nat.mod_add_mod,←e];congr 1;omega
    rw[O0 hj hp n (CH l h) h1 h2 m (by omega)]
def Zv{l:List Fr}{h:Nat}(hh:h<l.length)(hn:Co l=false)(hp:(l.getD h fz).pins≠0):Gz l l.length (CH l h)<Gz l l.length h:=by
 obtain⟨f,hf,hq⟩:=by simpa [Co] using hn
 obtain⟨j,hj,rfl⟩:=Aga hf;have hj0:(l.getD j fz).pins=0:=by rw[Aee,Aed hj];exact hq
 have hpos:0<l.length:=by omega
 have key:∃n,n<l.length∧(CH l h+n) % l.length=j:=by
  have h1:CH l h<l.length:=Ahp _ hpos;refine⟨(j+l.length - CH l h) % l.length,Ahp _ hpos,?_⟩
  rw[Nat.add_mod_mod,show CH l h+(j+l.length - CH l h)=j+l.length by omega,Nat.add_mod_right,Ahl hj]
 obtain⟨n,hn1,hn2⟩:=key;have h1:CH l h<l.length:=Ahp _ hpos;have hn3:n≠l.length - 1:=by
  intro e;subst e;rw[CH,Nat.mod_add_mod,show h+1+(l.length - 1)=h+l.length by omega,Nat.add_mod_right,Ahl hh] at hn2;subst hn2;exact hp hj0
 obtain⟨m,hm⟩:∃m,l.length=m+1:=⟨l.length - 1,by omega⟩
 have e1:=O0 hj hj0 n (CH l h) h1 hn2 l.length hn1;have e2:=O0 hj hj0 n (CH l h) h1 hn2 m (by omega);have e3:Gz l l.length h=Gz l m (CH l h)+1:=by
  rw[hm,Gz,if_neg hp]
 rw[e3,e1,e2];omega
def YX{l:List Fr}{h:Nat}(hh:h<l.length)(hp:(l.getD h fz).pins=0)(hl:(l.getD h fz).late=true):SZ (l.set h {l.getD h fz with late:=false})+1=SZ l:=by
 unfold SZ;have e:l.getD h fz=l[h]:=by rw[Aee,Aed hh];rfl
 rw[e] at hp hl⊢;rw[List.countP_set hh];simp only[hp,hl];have:0<l.countP fun f=>f.pins==0 && f.late:=List.countP_pos_iff.2 ⟨l[h],Aey hh,by simp[hp,hl]⟩;simp;omega
def HT{l:List Fr}{h:Nat}(hh:h<l.length)(hn:Co l=false)(ht:Bu l h=false):Dx (DO l h) (CH l h)<Dx l h:=by
 have hd:=WZ (DO l h) (DO l h).length (CH l h);rw[Fv] at hd;unfold Dx;rw[Fv];by_cases hp:(l.getD h fz).pins=0
 ·have hl:(l.getD h fz).late=true:=by
   unfold Bu at ht;rw[hp] at ht;simpa using ht
  have:=YX hh hp hl;have e:DO l h=l.set h {l.getD h fz with late:=false}:=by rw[DO,if_pos hp]
  rw[e] at hd⊢;rw[←this,Agt,Aih];omega
 ·have e:DO l h=l:=by rw[DO,if_neg hp]
  rw[e];have:=Zv hh hn hp;omega
def HA{l:List Fr}{h:Nat}:Co (DO l h)=Co l:=by
 unfold DO;split
 ·rename_i hp;by_cases hh:h<l.length
  ·have e:l.getD h fz=l[h]:=by rw[Aee,Aed hh];rfl
   rw[e] at hp⊢;have h1:Co l=false:=by
    unfold Co;rw[List.all_eq_false];exact⟨l[h],Aey hh,by simp[hp]⟩
   have h2:Co (l.set h {l[h] with late:=false})=false:=by
    unfold Co;rw[List.all_eq_false];exact⟨_,List.mem_set hh _,by simp[hp]⟩
   rw[h1,h2]
  ·rw[Ahn (by omega)]
 ·rfl
def Nh:∀(n:Nat) {l:List Fr}{h:Nat},h<l.length→Co l=false→Dx l h<n→∀m,n≤m→Cx m l h=Cx n l h
 |0,l,h,_,_,hm,_,_=>by omega
 |n+1,l,h,hh,hn,hm,m,hle=>by
  cases m with
  |zero=>omega
  |succ m=>
   rw[Cx,Cx]
   cases ht:Bu l h with
   |true=>rfl
   |false=>
    simp only[Aeh,if_false]
    exact Nh n (by rw[Fv];exact Ahp _ (by omega)) (by rw[HA];exact hn) (by have:=HT hh hn ht;omega) m (by omega)
def Qk{l:List Fr}{h:Nat}(hh:h<l.length)(hn:Co l=false)(ht:Bu l h=false):Cx (Dx (DO l h) (CH l h)+1) (DO l h) (CH l h)=Cx (Dx l h+1) l h:=by
 rw[show Cx (Dx l h+1) l h=Cx (Dx l h) (DO l h) (CH l h) by rw[Cx,ht];rfl];have h1:=HT hh hn ht;exact(Nh _ (by rw[Fv];exact Ahp _ (by omega)) (by rw[HA];exact hn) (Nat.lt_succ_self _) _ (by omega)).symm
def Fa(c:CD):CD×Option Nat:=
 match c.free with
 |i::r=>({c with free:=r},some i)
 |[]=>if Co c.fr then(c,none) else let s:=Cx (Dx c.fr c.hand+1) c.fr c.hand;({c with fr:=s.1,hand:=s.2.1},some s.2.2)
def E7(b:Sec)(c:CD)(k:Nat):CD×Option Sec:=
 match findF k c.fr with
 |some i=>({c with fr:=c.fr.set i {c.fr.getD i fz with pins:=(c.fr.getD i fz).pins+1,late:=true},hits:=c.hits+1},some (c.fr.getD i fz).b)
 |none=>match Fa c with
  |(c',none)=>(c',none)
  |(c',some i)=>({c' with fr:=c'.fr.set i ⟨true,k,1,true,b⟩,miss:=c'.miss+1},some b)
def Di(c:CD)(k:Nat):CD×Int:=
 match findF k c.fr with
 |none=>(c,240)
 |some i=>if (c.fr.getD i fz).pins=0 then(c,180) else({c with fr:=c.fr.set i {c.fr.getD i fz with pins:=(c.fr.getD i fz).pins - 1}},0)
def De(c:CD)(k:Nat):CD×Int:=
 match findF k c.fr with
 |none=>(c,240)
 |some i=>if (c.fr.getD i fz).pins>0 then(c,180) else({c with fr:=c.fr.set i fz,free:=c.free++[i]},0)
def Ed(c:CD):List Int:=c.fr.map fun f=>if f.held then(f.sec:Int) else -1
end Go.Gk.Cch
namespace Go.Gk.Cch
open Go Go.Gk Go.Gk.Dev
def MP(c:CD)(n:Nat):Prop:=∀f∈c.fr,f.pins≤n
def OK:∀(n:Nat) {l:List Fr}{h:Nat},h<l.length→(Cx n l h).1.length=l.length∧(Cx n l h).2.2<l.length∧(Cx n l h).2.1<l.length
 |0,l,h,hh=>⟨Z,hh,Ahp _ (by omega)⟩
 |n+1,l,h,hh=>by
  rw[Cx];split
  ·exact⟨Z,hh,Ahp _ (by omega)⟩
  ·have:=OK n (l:=DO l h) (h:=CH l h) (by rw[Fv];exact Ahp _ (by omega));rw[Fv] at this;exact this
def Xw{c c1:CD}{i:Nat}(hh:c.hand<c.fr.length)(hf:∀i∈c.free,i<c.fr.length)(h:Fa c=(c1,some i)):i<c1.fr.length:=by
 unfold Fa at h;split at h
 ·rename_i j r e;cases h;exact hf _ (by rw[e];exact Aeo ..)
 ·split at h
  ·cases h
  ·cases h;have:=OK (Dx c.fr c.hand+1) hh;simp only;omega
end Go.Gk.Cch
end
section
namespace Go.Gk.Cch
open Go Go.Gk Go.Gk.Dev
variable{i k N:Nat}{c c':CD}{cur:Nat→Sec}
def H2:∀{l m:List Nat},l.Nodup→(∀x∈l,x∈m)→l.length≤m.length
 |[],_,_,_=>Nat.zero_le _
 |x::l,m,h,hs=>by
  have hx:=hs x (Aeo ..);have:=H2 (l:=l) (m:=m.erase x) (Aht.1 h).2 (fun y hy=>by
   have hne:y≠x:=fun e=>(Aht.1 h).1 (e▸hy);exact(List.mem_erase_of_ne hne).2 (hs y (Aev _ hy)))
  rw[List.length_erase_of_mem hx] at this;have:=List.length_pos_of_mem hx;simp only[Aep];omega
abbrev CD.at(c:CD)(i:Nat):Fr:=c.fr.getD i fz
structure Inv (cur:Nat→Sec) (N:Nat) (c:CD):Prop where
 n1:1≤c.fr.length
 n2:c.fr.length≤64
 hd:c.hand<c.fr.length
 fl:∀i∈c.free,i<c.fr.length
 nd:c.free.Nodup
 fh:∀i,i<c.fr.length→((c.at i).held=false↔i∈c.free)
 ds:∀i j,i<c.fr.length→j<c.fr.length→(c.at i).held=true→(c.at j).held=true→(c.at i).sec=(c.at j).sec→i=j
 vl:∀i,i<c.fr.length→(c.at i).held=true→(c.at i).sec<N∧(c.at i).b=cur (c.at i).sec
 pz:∀i,i<c.fr.length→(c.at i).held=false→(c.at i).pins=0∧(c.at i).sec=0
def CE(c:CD)(k:Nat):Nat:=match findF k c.fr with|some i=>(c.at i).pins|none=>0
def at_set{l:List Fr}{j:Nat}{f:Fr}(hi:i<l.length):(l.set i f).getD j fz=if j=i then f else l.getD j fz:=by
 simp only[Aee,List.getElem?_set];by_cases e:i=j
 ·subst e;simp[hi]
 ·rw[if_neg e,if_neg (fun h=>e h.symm)]
def CW{l:List Fr}{i:Nat}(hi:i<l.length):l.getD i fz=l[i]:=by rw[Aee,Aed hi];rfl
def Dm(h:findF k c.fr=some i):i<c.fr.length∧(c.at i).held=true∧(c.at i).sec=k:=by
 obtain⟨h1,h2,h3⟩:=FB h;exact⟨h1,by rw[CD.at,CW h1];exact h2,by rw[CD.at,CW h1];exact h3⟩
def GK(h:findF k c.fr=none)(hi:i<c.fr.length)(hh:(c.at i).held=true):(c.at i).sec≠k:=by
 intro e;rw[CD.at,CW hi] at hh e;exact Qw h _ (Aey hi) ⟨hh,e⟩
def Inv.find(h:Inv cur N c)(hi:i<c.fr.length)(hh:(c.at i).held=true)(hs:(c.at i).sec=k):findF k c.fr=some i:=by
 cases hf:findF k c.fr with
 |none=>exact absurd hs (GK hf hi hh)
 |some j=>
  obtain⟨h1,h2,h3⟩:=Dm hf
  rw[h.ds j i h1 hi h2 hh (h3.trans hs.symm)]
def Ui(h:Inv cur N c)(hi:i<c.fr.length)(hh:(c.at i).held=true):CE c (c.at i).sec=(c.at i).pins:=by
 rw[CE,h.find hi hh Z]
def EH(l m:List Fr):Prop:=l.length=m.length∧∀i,(l.getD i fz).held=(m.getD i fz).held∧(l.getD i fz).sec=(m.getD i fz).sec∧(l.getD i fz).pins=(m.getD i fz).pins∧(l.getD i fz).b=(m.getD i fz).b
def EH.refl(l:List Fr):EH l l:=⟨Z,fun _=>⟨Z,Z,Z,Z⟩⟩
def EH.trans{a b c:List Fr}(h:EH a b)(k:EH b c):EH a c:=
 ⟨h.1.trans k.1,fun i=>let ⟨x,y,z,w⟩:=h.2 i;let ⟨x',y',z',w'⟩:=k.2 i;⟨x.trans x',y.trans y',z.trans z',w.trans w'⟩⟩
def RV(l:List Fr)(h:Nat):EH (DO l h) l:=by
 unfold DO;split
 ·by_cases hh:h<l.length
  ·refine⟨by simp,fun i=>?_⟩
   rw[at_set hh];by_cases e:i=h
   ·subst e;rw[if_pos Z];exact⟨Z,Z,Z,Z⟩
   ·rw[if_neg e];exact⟨Z,Z,Z,Z⟩
  ·rw[Ahn (by omega)];exact EH.refl l
 ·exact EH.refl l
def KY:∀(n:Nat) (l:List Fr) (h:Nat),EH (Cx n l h).1 l
 |0,l,_=>EH.refl l
 |n+1,l,h=>by
  rw[Cx];split
  ·exact EH.refl l
  ·exact(KY n _ _).trans (RV l h)
def Qu:∀(n:Nat) {l:List Fr}{h:Nat},h<l.length→Co l=false→Dx l h<n→(l.getD (Cx n l h).2.2 fz).pins=0
 |0,_,_,_,_,hm=>by omega
 |n+1,l,h,hh,hn,hm=>by
  rw[Cx];cases ht:Bu l h with
  |true=>
   simp only[if_true]
   unfold Bu at ht
   simp only[Bool.and_eq_true,beq_iff_eq] at ht
   exact ht.1
  |false=>
   simp only[Aeh,if_false]
   have:=Qu n (l:=DO l h) (h:=CH l h) (by rw[Fv];exact Ahp _ (by omega)) (by rw[HA];exact hn) (by have:=HT hh hn ht;omega)
   rw[((RV l h).2 _).2.2.1] at this
   exact this
def Inv.same(h:Inv cur N c)(hl:c'.fr.length=c.fr.length)(hf:c'.free=c.free)(hh:c'.hand<c.fr.length)
  (he:∀i,(c'.at i).held=(c.at i).held∧(c'.at i).sec=(c.at i).sec∧(c'.at i).b=(c.at i).b∧((c.at i).held=false→(c'.at i).pins=(c.at i).pins)):Inv cur N c' where
 n1:=by rw[hl];exact h.n1
 n2:=by rw[hl];exact h.n2
 hd:=by rw[hl];exact hh
 fl:=by rw[hl,hf];exact h.fl
 nd:=by rw[hf];exact h.nd
 fh:=fun i hi=>by rw[(he i).1,hf];exact h.fh i (hl▸hi)
 ds:=fun i j hi hj h1 h2 h3=>by rw[(he i).1] at h1;rw[(he j).1] at h2;rw[(he i).2.1,(he j).2.1] at h3;exact h.ds i j (hl▸hi) (hl▸hj) h1 h2 h3
 vl:=fun i hi h1=>by rw[(he i).1] at h1;rw[(he i).2.1,(he i).2.2.1];exact h.vl i (hl▸hi) h1
 pz:=fun i hi h1=>by rw[(he i).1] at h1;rw[(he i).2.2.2 h1,(he i).2.1];exact h.pz i (hl▸hi) h1
def Inv.take{c1:CD}(h:Inv cur N c)(hl:EH c1.fr c.fr)(hh:c1.hand<c.fr.length)(hi:i<c.fr.length)(hk:k<N)(hn:findF k c.fr=none)
  (hf:(c.free=i::c1.free)∨(c.free=[]∧c1.free=[]∧(c.at i).pins=0)) {m:Nat}(c2:CD) (e:c2={c1 with fr:=c1.fr.set i ⟨true,k,1,true,cur k⟩,miss:=m}):
  Inv cur N c2∧(∀s,CE c2 s=if s=k then CE c s+1 else CE c s)∧findF k c2.fr=some i:=by
 have hi1:i<c1.fr.length:=by rw[hl.1];exact hi
 have hlen:c2.fr.length=c.fr.length:=by subst e;simp[hl.1]
 have hat:∀j,c2.at j=if j=i then⟨true,k,1,true,cur k⟩ else c1.fr.getD j fz:=fun j=>by subst e;exact at_set hi1
 have hsame:∀j,j≠i→(c2.at j).held=(c.at j).held∧(c2.at j).sec=(c.at j).sec∧(c2.at j).pins=(c.at j).pins∧(c2.at j).b=(c.at j).b:=fun j hj=>by
  rw[hat,if_neg hj];exact hl.2 j
 have hself:c2.at i=⟨true,k,1,true,cur k⟩:=by rw[hat,if_pos Z]
 have hfree:c2.free=c1.free:=by subst e;rfl
 have hsub:∀j,j≠i→(j∈c1.free↔j∈c.free):=fun j hj=>by
  rcases hf with hf|⟨hf1,hf2,_⟩
  ·rw[hf];simp[hj]
  ·rw[hf1,hf2]
 have hni:i∉c1.free:=by
  rcases hf with hf|⟨_,hf2,_⟩
  ·have:=h.nd;rw[hf] at this;exact(Aht.1 this).1
  ·rw[hf2];exact List.not_mem_nil
 have hpi:(c.at i).pins=0:=by
  rcases hf with hf|⟨_,_,hp⟩
  ·exact(h.pz i hi ((h.fh i hi).2 (by rw[hf];exact Aeo ..))).1
  ·exact hp
 have I:Inv cur N c2:=
 {n1:=by rw[hlen];exact h.n1
  n2:=by rw[hlen];exact h.n2
  hd:=by rw[hlen];subst e;exact hh
  fl:=fun j hj=>by
   rw[hfree] at hj;rw[hlen];by_cases q:j=i
   ·subst q;exact absurd hj hni
   ·exact h.fl j ((hsub j q).1 hj)
  nd:=by
   rw[hfree];rcases hf with hf|⟨_,hf2,_⟩
   ·have:=h.nd;rw[hf] at this;exact(Aht.1 this).2
   ·rw[hf2];exact List.nodup_nil
  fh:=fun j hj=>by
   rw[hlen] at hj;rw[hfree];by_cases q:j=i
   ·subst q;rw[hself];exact⟨(fun z=>by cases z),fun z=>absurd z hni⟩
   ·rw[(hsame j q).1,hsub j q];exact h.fh j hj
  ds:=fun a b ha hb h1 h2 h3=>by
   rw[hlen] at ha hb;by_cases qa:a=i
   ·by_cases qb:b=i
    ·omega
    ·subst qa;rw[hself,(hsame b qb).2.1] at h3;rw[(hsame b qb).1] at h2;exact absurd h3.symm (GK hn hb h2)
   ·by_cases qb:b=i
    ·subst qb;rw[hself,(hsame a qa).2.1] at h3;rw[(hsame a qa).1] at h1;exact absurd h3 (GK hn ha h1)
    ·rw[(hsame a qa).1] at h1;rw[(hsame b qb).1] at h2;rw[(hsame a qa).2.1,(hsame b qb).2.1] at h3;exact h.ds a b ha hb h1 h2 h3
  vl:=fun a ha h1=>by
   rw[hlen] at ha;by_cases qa:a=i
   ·subst qa;rw[hself];exact⟨hk,Z⟩
   ·rw[(hsame a qa).1] at h1;rw[(hsame a qa).2.1,(hsame a qa).2.2.2];exact h.vl a ha h1
  pz:=fun a ha h1=>by
   rw[hlen] at ha;by_cases qa:a=i
   ·subst qa;rw[hself] at h1;cases h1
   ·rw[(hsame a qa).1] at h1;rw[(hsame a qa).2.2.1,(hsame a qa).2.1];exact h.pz a ha h1}
 have hfk:findF k c2.fr=some i:=I.find (by rw[hlen];exact hi) (by rw[hself]) (by rw[hself])
 refine⟨I,fun s=>?_,hfk⟩
 by_cases q:s=k
 ·subst q
  rw[if_pos Z,CE,hfk,CE,hn]
  show(c2.at i).pins=_
  rw[hself]
 ·rw[if_neg q]
  cases hs:findF s c.fr with
  |some j=>
   obtain⟨h1,h2,h3⟩:=Dm hs
   by_cases qj:j=i
   ·subst qj
    have e1:CE c s=0:=by rw[CE,hs];exact hpi
    rw[e1,CE]
    cases ht:findF s c2.fr with
    |none=>rfl
    |some a=>
     obtain⟨g1,g2,g3⟩:=Dm ht
     by_cases qa:a=j
     ·subst qa;rw[hself] at g3;exact absurd g3.symm q
     ·rw[hlen] at g1
      rw[(hsame a qa).1] at g2;rw[(hsame a qa).2.1] at g3
      exact absurd (h.ds a j g1 h1 g2 h2 (g3.trans h3.symm)) qa
   ·have:findF s c2.fr=some j:=I.find (by rw[hlen];exact h1) (by rw[(hsame j qj).1];exact h2) (by rw[(hsame j qj).2.1];exact h3)
    rw[CE,this,CE,hs]
    exact(hsame j qj).2.2.1
  |none=>
   have e1:CE c s=0:=by rw[CE,hs]
   rw[e1,CE]
   cases ht:findF s c2.fr with
   |none=>rfl
   |some a=>
    obtain⟨g1,g2,g3⟩:=Dm ht
    rw[hlen] at g1
    by_cases qa:a=i
    ·subst qa;rw[hself] at g3;exact absurd g3.symm q
    ·rw[(hsame a qa).1] at g2;rw[(hsame a qa).2.1] at g3
     exact absurd g3 (GK hs g1 g2)
def get_some{b:Sec}(h:Inv cur N c)(hk:k<N)(hg:E7 (cur k) c k=(c',some b)):
  Inv cur N c'∧b=cur k∧(∀s,CE c' s=if s=k then CE c s+1 else CE c s)∧(∃i,findF k c'.fr=some i)∧c'.fr.length=c.fr.length∧
   (match findF k c.fr with|some _=>c'.hits=c.hits+1∧c'.miss=c.miss|none=>c'.hits=c.hits∧c'.miss=c.miss+1)∧
   (c.free≠[]∨findF k c.fr≠none→∀s,s≠k→(findF s c'.fr=none↔findF s c.fr=none)):=by
 unfold E7 at hg
 cases hf:findF k c.fr with
 |some i=>
  rw[hf] at hg
  cases hg
  obtain⟨h1,h2,h3⟩:=Dm hf
  have hat:∀j,((c.fr.set i {c.fr.getD i fz with pins:=(c.fr.getD i fz).pins+1,late:=true}).getD j fz)=if j=i then{c.fr.getD i fz with pins:=(c.fr.getD i fz).pins+1,late:=true} else c.fr.getD j fz:=fun j=>at_set h1
  have hsame:EH (c.fr.set i {c.fr.getD i fz with pins:=(c.fr.getD i fz).pins,late:=true}) c.fr:=⟨by simp,fun j=>by
   rw[at_set h1];by_cases q:j=i
   ·subst q;rw[if_pos Z];exact⟨Z,Z,Z,Z⟩
   ·rw[if_neg q];exact⟨Z,Z,Z,Z⟩⟩
  have hfind:∀s,findF s (c.fr.set i {c.fr.getD i fz with pins:=(c.fr.getD i fz).pins+1,late:=true})=findF s c.fr:=by
   intro s;have gen:∀(l:List Fr) (i:Nat) (f:Fr),f.held=(l.getD i fz).held→f.sec=(l.getD i fz).sec→findF s (l.set i f)=findF s l:=by
    intro l;induction l with
    |nil=>intro i f _ _;rfl
    |cons g l ih=>
     intro i f e1 e2
     cases i with
     |zero=>simp only[Ahd] at e1 e2;rw[List.set_cons_zero,findF,findF,e1,e2]
     |succ i=>simp only[Agx] at e1 e2;rw[Aif,findF,findF,ih i f e1 e2]
   exact gen c.fr i _ Z Z
  refine⟨h.same (by simp) Z h.hd (fun j=>?_),?_,fun s=>?_,⟨i,by rw[hfind];exact hf⟩,by simp,⟨Z,Z⟩,fun _ s _=>by rw[hfind]⟩
  ·simp only[CD.at,hat]
   by_cases q:j=i
   ·subst q;rw[if_pos Z];exact⟨Z,Z,Z,fun z=>by rw[CD.at] at h2;rw[h2] at z;cases z⟩
   ·rw[if_neg q];exact⟨Z,Z,Z,fun _=>Z⟩
  ·rw[(h.vl i h1 h2).2,h3]
  ·simp only[CE,hfind,CD.at]
   by_cases q:s=k
   ·subst q
    rw[if_pos Z,hf]
    simp only[hat,if_true]
   ·rw[if_neg q]
    cases hs:findF s c.fr with
    |none=>rfl
    |some j=>
     have hj:j≠i:=by
      rintro rfl;obtain⟨_,_,g3⟩:=Dm hs;exact q (g3.symm.trans h3)
     simp only[hat,if_neg hj]
 |none=>
  rw[hf] at hg
  simp only at hg
  unfold Fa at hg
  cases hfr:c.free with
  |cons i r=>
   rw[hfr] at hg
   simp only at hg
   cases hg
   have hi:=h.fl i (by rw[hfr];exact Aeo ..)
   obtain⟨g1,g2,g3⟩:=h.take (c1:={c with free:=r}) (EH.refl _) h.hd hi hk hf (.inl hfr) _ Z
   refine⟨g1,Z,g2,⟨i,g3⟩,by simp,⟨Z,Z⟩,fun _ s hs=>?_⟩
   have hnh:(c.at i).held=false:=(h.fh i hi).2 (by rw[hfr];exact Aeo ..)
   constructor
   ·intro z
    cases q:findF s c.fr with
    |none=>rfl
    |some j=>
     obtain⟨y1,y2,y3⟩:=Dm q
     have hj:j≠i:=by rintro rfl;rw[hnh] at y2;cases y2
     have e:(c.fr.set i ⟨true,k,1,true,cur k⟩).getD j fz=c.fr.getD j fz:=by rw[at_set hi,if_neg hj]
     have:=g1.find (k:=s) (i:=j) (by simpa using y1) (by simp only[CD.at];rw[e];exact y2) (by simp only[CD.at];rw[e];exact y3)
     rw[this] at z;cases z
   ·intro z
    cases q:findF s (c.fr.set i ⟨true,k,1,true,cur k⟩) with
    |none=>rfl
    |some j=>
     obtain⟨y1,y2,y3⟩:=Dm (c:={c with free:=r,fr:=c.fr.set i ⟨true,k,1,true,cur k⟩}) q
     simp only[CD.at] at y2 y3
     rw[at_set hi] at y2 y3
     by_cases hj:j=i
     ·rw[if_pos hj] at y3;exact absurd y3.symm hs
     ·rw[if_neg hj] at y2 y3
      exact absurd y3 (GK z (by simpa using y1) y2)
  |nil=>
   rw[hfr] at hg
   simp only at hg
   cases hp:Co c.fr with
   |true=>rw[hp] at hg;simp only[if_true] at hg;cases hg
   |false=>
    rw[hp] at hg
    simp only[Aeh,if_false] at hg
    cases hg
    have hs:=KY (Dx c.fr c.hand+1) c.fr c.hand
    have hl:=OK (Dx c.fr c.hand+1) h.hd
    have hpz:=Qu _ h.hd hp (Nat.lt_succ_self _)
    obtain⟨g1,g2,g3⟩:=h.take (c1:=⟨(Cx (Dx c.fr c.hand+1) c.fr c.hand).1,[],(Cx (Dx c.fr c.hand+1) c.fr c.hand).2.1,c.hits,c.miss⟩) hs hl.2.2 hl.2.1 hk hf (.inr ⟨hfr,Z,hpz⟩) _ Z
    exact⟨g1,Z,g2,⟨_,g3⟩,by simp[hl.1],⟨Z,Z⟩,fun z=>by rcases z with z|z<;>exact absurd Z z⟩
def get_none(_:Inv cur N c)(hg:E7 (cur k) c k=(c',none)):c'=c∧findF k c.fr=none∧c.free=[]∧Co c.fr=true:=by
 unfold E7 at hg;cases hf:findF k c.fr with
 |some i=>rw[hf] at hg;cases hg
 |none=>
  rw[hf] at hg
  simp only at hg
  unfold Fa at hg
  cases hfr:c.free with
  |cons i r=>rw[hfr] at hg;cases hg
  |nil=>
   rw[hfr] at hg
   simp only at hg
   cases hp:Co c.fr with
   |true=>rw[hp] at hg;simp only[if_true] at hg;cases hg;exact⟨Z,Z,Z,Z⟩
   |false=>rw[hp] at hg;simp only[Aeh,if_false] at hg;cases hg
def Inv.full(h:Inv cur N c)(hf:c.free=[]){S:List Nat}(hS:∀i,i<c.fr.length→(c.at i).sec∈S):c.fr.length≤S.length:=by
 have hheld:∀i,i<c.fr.length→(c.at i).held=true:=fun i hi=>by
  cases q:(c.at i).held with
  |true=>rfl
  |false=>have:=(h.fh i hi).1 q;rw[hf] at this;cases this
 have hn:((Afb c.fr.length).map fun i=>(c.at i).sec).Nodup:=by
  refine List.pairwise_map.2 (List.Pairwise.imp_of_mem (fun{a b} ha hb hne e=>hne ?_) List.nodup_range);exact h.ds a b (Ahj.1 ha) (Ahj.1 hb) (hheld a (Ahj.1 ha)) (hheld b (Ahj.1 hb)) e
 have:=H2 hn (m:=S) (fun x hx=>by
  obtain⟨i,hi,rfl⟩:=List.mem_map.1 hx;exact hS i (Ahj.1 hi))
 simpa using this
def YL(h:Inv cur N c)(hp:CE c k≠0):
  Inv cur N (Di c k).1∧(Di c k).2=0∧(∀s,CE (Di c k).1 s=if s=k then CE c s - 1 else CE c s)∧(Di c k).1.fr.length=c.fr.length∧(Di c k).1.hits=c.hits∧(Di c k).1.miss=c.miss∧(Di c k).1.free=c.free∧
   ∀s,findF s (Di c k).1.fr=findF s c.fr:=by
 unfold Di
 cases hf:findF k c.fr with
 |none=>rw[CE,hf] at hp;exact absurd Z hp
 |some i=>
  have hpi:(c.fr.getD i fz).pins≠0:=by rw[CE,hf] at hp;exact hp
  simp only[if_neg hpi]
  obtain⟨h1,h2,h3⟩:=Dm hf
  have hfind:∀s,findF s (c.fr.set i {c.fr.getD i fz with pins:=(c.fr.getD i fz).pins - 1})=findF s c.fr:=by
   intro s;have gen:∀(l:List Fr) (i:Nat) (f:Fr),f.held=(l.getD i fz).held→f.sec=(l.getD i fz).sec→findF s (l.set i f)=findF s l:=by
    intro l;induction l with
    |nil=>intro i f _ _;rfl
    |cons g l ih=>
     intro i f e1 e2
     cases i with
     |zero=>simp only[Ahd] at e1 e2;rw[List.set_cons_zero,findF,findF,e1,e2]
     |succ i=>simp only[Agx] at e1 e2;rw[Aif,findF,findF,ih i f e1 e2]
   exact gen c.fr i _ Z Z
  refine⟨h.same (by simp) Z h.hd (fun j=>?_),trivial,fun s=>?_,by simp,trivial,trivial,trivial,hfind⟩
  ·simp only[CD.at,at_set h1]
   by_cases q:j=i
   ·subst q;rw[if_pos Z];exact⟨Z,Z,Z,fun z=>by rw[CD.at] at h2;rw[h2] at z;cases z⟩
   ·rw[if_neg q];exact⟨Z,Z,Z,fun _=>Z⟩
  ·simp only[CE,hfind,CD.at]
   by_cases q:s=k
   ·subst q
    rw[if_pos Z,hf]
    simp only[at_set h1,if_true]
   ·rw[if_neg q]
    cases hs:findF s c.fr with
    |none=>rfl
    |some j=>
     have hj:j≠i:=by
      rintro rfl;obtain⟨_,_,g3⟩:=Dm hs;exact q (g3.symm.trans h3)
     simp only[at_set h1,if_neg hj]
def AbZ(cur:Nat→Sec)(N n:Nat)(h1:1≤n)(h2:n≤64):Inv cur N ⟨Aeu n fz,Afb n,0,0,0⟩:=by
 have hat:∀i,(Aeu n fz).getD i fz=fz:=fun i=>by
  rw[Aee,List.getElem?_replicate];split<;>rfl
 exact
 {n1:=by simpa using h1
  n2:=by simpa using h2
  hd:=by simp only[Afk];omega
  fl:=fun i hi=>by simpa using hi
  nd:=List.nodup_range
  fh:=fun i hi=>by simp only[CD.at,hat];simp at hi;simpa [fz] using hi
  ds:=fun i j _ _ hh _ _=>by simp only[CD.at,hat] at hh;cases hh
  vl:=fun i _ hh=>by simp only[CD.at,hat] at hh;cases hh
  pz:=fun i _ _=>by simp only[CD.at,hat];exact⟨Z,Z⟩}
def OT(n k:Nat):findF k (Aeu n fz)=none:=by
 induction n with
 |zero=>rfl
 |succ n ih=>rw[List.replicate_succ,findF,ih];simp[fz]
def Inv.held(h:Inv cur N c):∀i (hi:i<(Ed c).length),(Ed c)[i]<N∧(∀j (hj:j<i),0≤(Ed c)[i]→(Ed c)[j]≠(Ed c)[i]):=by
 have hlen:(Ed c).length=c.fr.length:=by simp[Ed]
 have hget:∀i (hi:i<(Ed c).length),(Ed c)[i]=if (c.at i).held then((c.at i).sec:Int) else -1:=fun i hi=>by
  have e:c.at i=c.fr[i]'(hlen▸hi):=CW _;rw[e];simp[Ed]
 intro i hi;rw[hget i hi];cases q:(c.at i).held with
 |false=>exact⟨by simp only[Aeh,if_false];omega,fun j _ z=>by simp at z⟩
 |true=>
  refine⟨by simp only[if_true];have:=(h.vl i (hlen▸hi) q).1;omega,fun j hj _ e=>?_⟩
  rw[hget j (by omega)] at e
  cases q':(c.at j).held with
  |false=>rw[q'] at e;simp at e
  |true=>
   rw[q'] at e
   simp only[if_true] at e
   have:=h.ds j i (by omega) (hlen▸hi) q' q (by omega)
   omega
def AbG(h:Inv cur N c){m:Nat}(hp:∀s,CE c s≤m):∀f∈c.fr,f.pins≤m:=by
 intro f hf;obtain⟨i,hi,rfl⟩:=Aga hf;have e:c.at i=c.fr[i]:=CW hi;cases q:(c.at i).held with
 |true=>have:=Ui h hi q;have:=hp (c.at i).sec;rw[←e];omega
 |false=>have:=(h.pz i hi q).1;rw[e] at this;omega
def Rz(h:Inv cur N c)(hf:findF k c.fr=some i)(s:Nat):findF s (c.fr.set i fz)=if s=k then none else findF s c.fr:=by
 obtain⟨h1,h2,h3⟩:=Dm hf;have gen:∀(l:List Fr) (i:Nat),i<l.length→(∀j,j<l.length→j≠i→¬((l.getD j fz).held=true∧(l.getD j fz).sec=k))→(l.getD i fz).sec=k→findF s (l.set i fz)=if s=k then none else findF s l:=by
  intro l;induction l with
  |nil=>intro i hi;simp at hi
  |cons g l ih=>
   intro i hi hj hk
   cases i with
   |zero=>
    simp only[Ahd] at hk
    rw[List.set_cons_zero,findF,if_neg (by simp[fz]),findF]
    by_cases q:s=k
    ·subst q
     rw[if_pos Z]
     cases hs:findF s l with
     |none=>rfl
     |some j=>
      obtain⟨g1,g2,g3⟩:=FB hs
      refine absurd ?_ (hj (j+1) (by simpa using g1) (by omega))
      rw[Agx,CW g1]
      exact⟨g2,g3⟩
    ·rw[if_neg q,if_neg (fun z=>q (z.2.symm.trans hk))]
   |succ i=>
    simp only[Agx] at hk
    have h0:=hj 0 (by simp) (by omega)
    simp only[Ahd] at h0
    rw[Aif,findF,findF,ih i (by simpa using hi) (fun j g1 g2=>by have:=hj (j+1) (by simpa using g1) (by omega);simpa only[Agx] using this) hk]
    by_cases q:s=k
    ·subst q;rw[if_pos Z,if_neg h0,if_pos Z];rfl
    ·rw[if_neg q,if_neg q]
 refine gen c.fr i h1 (fun j hj hne z=>hne ?_) h3;exact h.ds j i hj h1 z.1 h2 (z.2.trans h3.symm)
def VX(h:Inv cur N c)(hf:findF k c.fr=some i)(hp:CE c k=0):
  De c k=({c with fr:=c.fr.set i fz,free:=c.free++[i]},0)∧Inv cur N (De c k).1∧(∀s,findF s (De c k).1.fr=if s=k then none else findF s c.fr)∧(∀s,CE (De c k).1 s=CE c s):=by
 obtain⟨h1,h2,h3⟩:=Dm hf
 have hpi:(c.fr.getD i fz).pins=0:=by rw[CE,hf] at hp;exact hp
 have e:De c k=({c with fr:=c.fr.set i fz,free:=c.free++[i]},0):=by unfold De;rw[hf];simp only;rw[if_neg (by omega)]
 have hni:i∉c.free:=fun z=>by rw[(h.fh i h1).2 z] at h2;cases h2
 rw[e]
 have hat:∀j,(c.fr.set i fz).getD j fz=if j=i then fz else c.fr.getD j fz:=fun j=>at_set h1
 have I:Inv cur N {c with fr:=c.fr.set i fz,free:=c.free++[i]}:=
 {n1:=by simpa using h.n1
  n2:=by simpa using h.n2
  hd:=by simpa using h.hd
  fl:=fun j hj=>by
   simp only[Aff];rcases Aej.1 hj with hj|hj
   ·exact h.fl j hj
   ·rw[Aew.1 hj];exact h1
  nd:=by
   rw[List.nodup_append];exact⟨h.nd,by simp,fun a ha b hb z=>by rw[Aew.1 hb] at z;exact hni (z▸ha)⟩
  fh:=fun j hj=>by
   simp only[Aff] at hj;simp only[CD.at,hat,Aej,Aew];by_cases q:j=i
   ·subst q;simp[fz]
   ·rw[if_neg q];have:=h.fh j hj;simp only[CD.at] at this;rw[this];simp[q]
  ds:=fun a b ha hb g1 g2 g3=>by
   simp only[Aff] at ha hb;simp only[CD.at,hat] at g1 g2 g3;by_cases qa:a=i
   ·rw[if_pos qa] at g1;cases g1
   ·by_cases qb:b=i
    ·rw[if_pos qb] at g2;cases g2
    ·rw[if_neg qa] at g1 g3;rw[if_neg qb] at g2 g3;exact h.ds a b ha hb g1 g2 g3
  vl:=fun a ha g1=>by
   simp only[Aff] at ha;simp only[CD.at,hat] at g1⊢;by_cases qa:a=i
   ·rw[if_pos qa] at g1;cases g1
   ·rw[if_neg qa] at g1⊢;exact h.vl a ha g1
  pz:=fun a ha g1=>by
   simp only[Aff] at ha;simp only[CD.at,hat] at g1⊢;by_cases qa:a=i
   ·rw[if_pos qa];exact⟨Z,Z⟩
   ·rw[if_neg qa] at g1⊢;exact h.pz a ha g1}
 refine⟨Z,I,fun s=>Rz h hf s,fun s=>?_⟩
 simp only[CE]
 rw[Rz h hf s]
 by_cases q:s=k
 ·subst q;rw[if_pos Z,hf];exact hpi.symm
 ·rw[if_neg q]
  cases hs:findF s c.fr with
  |none=>rfl
  |some j=>
   obtain⟨g1,g2,g3⟩:=Dm hs
   have hj:j≠i:=by rintro rfl;exact q (g3.symm.trans h3)
   simp only[CD.at,hat,if_neg hj]
def Aco(h:Inv cur N c)(hf:findF k c.fr=some i):c.free.length<c.fr.length:=by
 obtain⟨h1,h2,h3⟩:=Dm hf;have hni:i∉c.free:=fun z=>by rw[(h.fh i h1).2 z] at h2;cases h2
 have:=H2 (l:=i::c.free) (m:=Afb c.fr.length) (Aht.2 ⟨hni,h.nd⟩) (fun x hx=>by
  rcases Aex.1 hx with rfl|hx
  ·exact Ahj.2 h1
  ·exact Ahj.2 (h.fl x hx))
 simp only[Aep,List.length_range] at this;omega
end Go.Gk.Cch
end
section
namespace Go.Gk.Pgr
open Go Go.Gk Go.Gk.Dev Go.Gk.Cch
structure PD where
 frm:Nat
 kinds:List Int
 fb:Nat→Sec
 syn:List Sec
 round:Nat
 tc:Nat
abbrev PD.kd(s:PD)(i:Nat):Int:=s.kinds.getD i 0
def PD.kind(s:PD)(k:Int):Int:=if (s.frm:Int)≤k∧k<(s.frm:Int)+s.kinds.length then s.kd (k - s.frm).toNat else -1
def EE(fb:Nat→Sec)(i:Nat)(b:Sec):Nat→Sec:=fun j=>if j=i then b else fb j
def Dk(x:Int):List Int→Option Nat
 |[]=>none
 |y::l=>if x=y then some 0 else(Dk x l).map (·+1)
def PD.HX(s:PD)(i:Nat):PD:={s with kinds:=s.kinds.set i 1,fb:=EE s.fb i JP}
def PD.take(s:PD):Option (Nat×PD):=(Dk 0 s.kinds).map fun i=>(s.frm+i,s.HX i)
def PD.put(s:PD)(k:Int)(b:Sec):PD×Int:=if s.kind k=1 then(if b.length=256 then({s with fb:=EE s.fb (k - s.frm).toNat b},0) else(s,2)) else(s,240)
def PD.get(s:PD)(k:Int):PD×Option Sec:=
 if s.kind k=1 then({s with tc:=s.tc+1},some (s.fb (k - s.frm).toNat)) else if s.kind k=2 then({s with tc:=s.tc+1},some (s.syn.getD k.toNat [])) else(s,none)
def PD.drop(s:PD)(k:Int):PD×Int:=
 if s.kind k=1 then({s with kinds:=s.kinds.set (k - s.frm).toNat 0},0) else if s.kind k=2 then({s with kinds:=s.kinds.set (k - s.frm).toNat 3},0) else(s,240)
def PD.writes(s:PD):Nat→List (Nat×Sec)
 |0=>[]
 |n+1=>s.writes n++(if s.kd n=1 then [(s.frm+n,s.fb n)] else [])
def PD.flush(s:PD):PD:={s with syn:=synced (s.writes s.kinds.length) s.syn}
def Dp(x:Int):Int:=if x=3 then 0 else if x=1 then 2 else x
def PD.done(s:PD):PD:={s with kinds:=s.kinds.map Dp,round:=s.round+1}
structure MD where
 kinds:List Int
 fb:Nat→Sec
 round:Nat
def PD.mark(s:PD):MD:=⟨s.kinds,s.fb,s.round⟩
def PD.back(s:PD)(m:MD):PD:={s with kinds:=m.kinds,fb:=m.fb}
def PD.free(s:PD):Nat:=s.kinds.countP (·==0)
def Ym(frm:Nat):List Int→Nat→List Int
 |[],_=>[]
 |x::l,i=>if x=2 then((frm+i:Nat):Int)::Ym frm l (i+1) else Ym frm l (i+1)
def PD.Cz(s:PD):List Int:=Ym s.frm s.kinds 0
structure Good (s:PD):Prop where
 one:1≤s.kinds.length
 len:s.kinds.length≤8192
 inn:s.frm+s.kinds.length≤s.syn.length
 syn:s.syn.length≤8192
 kd:∀i,0≤s.kd i∧s.kd i≤3
structure CK (s:PD) (c:CD):Prop where
 inv:Inv (fun k=>s.syn.getD k []) s.syn.length c
 zer:∀k,CE c k=0
 hold:∀k,findF k c.fr≠none→s.frm≤k∧k<s.frm+s.kinds.length∧2≤s.kd (k - s.frm)
def Gj{x:Int}:∀{l:List Int}{i:Nat},Dk x l=some i→∃h:i<l.length,l[i]=x
 |y::l,i,h=>by
  rw[Dk] at h;split at h
  ·rename_i e;cases h;exact⟨by simp,by simp[e]⟩
  ·cases q:Dk x l with
   |none=>rw[q] at h;cases h
   |some j=>
    rw[q] at h;cases h
    obtain⟨h1,h2⟩:=Gj q
    exact⟨by simpa using h1,by simpa using h2⟩
def VM{x:Int}{l:List Int}{i:Nat}(hi:i<l.length):Dk x (l.drop i)=if x=l[i] then some 0 else(Dk x (l.drop (i+1))).map (·+1):=by
 rw[Afl hi];rfl
def Kq{s:PD}{i:Nat}(h:i<s.kinds.length):s.kd i=s.kinds[i]:=by rw[PD.kd,Aee,Aed h];rfl
def Dl{l:List Int}{i j:Nat}{x:Int}(hi:i<l.length):(l.set i x).getD j 0=if j=i then x else l.getD j 0:=by
 simp only[Aee,List.getElem?_set];by_cases e:i=j
 ·subst e;simp[hi]
 ·rw[if_neg e,if_neg (fun h=>e h.symm)]
def C0{s:PD}{k:Int}{x:Int}(h:s.kind k=x)(hx:0≤x):∃i,i<s.kinds.length∧k=((s.frm+i:Nat):Int)∧s.kd i=x∧(k - s.frm).toNat=i:=by
 unfold PD.kind at h;split at h
 ·rename_i e;exact⟨(k - s.frm).toNat,by omega,by omega,h,Z⟩
 ·omega
def Ns{s:PD}{i:Nat}(hi:i<s.kinds.length):s.kind ((s.frm+i:Nat):Int)=s.kd i:=by
 unfold PD.kind;rw[if_pos (by omega)];congr 1;omega
def Good.kds{s}(h:Good s){ks:List Int}{i:Nat}{x:Int}(e:ks=s.kinds.set i x)(h0:0≤x)(h3:x≤3):Good {s with kinds:=ks}:=by
 subst e;refine⟨by simpa using h.one,by simpa using h.len,by simpa using h.inn,h.syn,fun j=>?_⟩
 simp only[PD.kd];by_cases hi:i<s.kinds.length
 ·rw[Dl hi];split
  ·omega
  ·exact h.kd j
 ·rw[Ahn (by omega)];exact h.kd j
def Og(l m:List Int):Prop:=l.length=m.length∧∀i,2≤l.getD i 0↔2≤m.getD i 0
def Og.refl(l:List Int):Og l l:=⟨Z,fun _=>Iff.rfl⟩
def Og.trans{a b c:List Int}(h:Og a b)(k:Og b c):Og a c:=⟨h.1.trans k.1,fun i=>(h.2 i).trans (k.2 i)⟩
def Og.symm{a b:List Int}(h:Og a b):Og b a:=⟨h.1.symm,fun i=>(h.2 i).symm⟩
def Og.set{l:List Int}{i:Nat}{x:Int}(h:2≤x↔2≤l.getD i 0):Og (l.set i x) l:=by
 refine⟨by simp,fun j=>?_⟩
 by_cases hi:i<l.length
 ·rw[Dl hi];by_cases e:j=i
  ·subst e;rw[if_pos Z];exact h
  ·rw[if_neg e]
 ·rw[Ahn (by omega)]
def CK.og{s}{c:CD}(h:CK s c){ks:List Int}(ho:Og ks s.kinds):CK {s with kinds:=ks} c:=
 ⟨h.inv,h.zer,fun k hk=>by
  obtain⟨h1,h2,h3⟩:=h.hold k hk;exact⟨h1,by rw[ho.1];exact h2,(ho.2 _).2 h3⟩⟩
def X7{b b':Sec}{c c':CD}{k:Nat}(hf:∀i∈c.free,i<c.fr.length)(hh:c.hand<c.fr.length)(h:E7 b c k=(c',some b')):∃m i f,c'.fr=m.set i f∧EH m c.fr∧i<m.length∧f.sec=k:=by
 unfold E7 at h;cases hq:findF k c.fr with
 |some i=>
  rw[hq] at h
  cases h
  obtain⟨h1,h2,h3⟩:=Dm hq
  exact⟨c.fr,i,_,Z,EH.refl _,h1,h3⟩
 |none=>
  rw[hq] at h
  simp only at h
  cases hr:Fa c with
  |mk c1 o=>
  rw[hr] at h
  cases o with
  |none=>cases h
  |some i=>
   cases h
   have hi:=Xw hh hf hr
   refine⟨c1.fr,i,_,Z,?_,hi,Z⟩
   unfold Fa at hr
   split at hr
   ·cases hr;exact EH.refl _
   ·split at hr
    ·cases hr
    ·cases hr;exact KY _ _ _
def Ab9{cur:Nat→Sec}{N:Nat}{c c':CD}{k:Nat}{b b':Sec}(h:Inv cur N c)(hg:E7 b c k=(c',some b')){s:Nat}(hs:s≠k)(hn:findF s c.fr=none):findF s c'.fr=none:=by
 obtain⟨m,i,f,e1,e2,e3,e4⟩:=X7 h.fl h.hd hg;cases q:findF s c'.fr with
 |none=>rfl
 |some j=>
  obtain⟨g1,g2,g3⟩:=Dm q
  simp only[CD.at,e1] at g1 g2 g3
  rw[at_set e3] at g2 g3
  by_cases hj:j=i
  ·rw[if_pos hj] at g3;exact absurd (g3.symm.trans e4) hs
  ·rw[if_neg hj] at g2 g3
   rw[(e2.2 j).1] at g2;rw[(e2.2 j).2.1] at g3
   exact absurd g3 (GK hn (by rw[←e2.1];simpa using g1) g2)
def CK.get{s}{c:CD}(h:CK s c){k:Nat}(hk:k<s.syn.length)(h1:s.frm≤k)(h2:k<s.frm+s.kinds.length)(h3:2≤s.kd (k - s.frm)):
  ∃c',E7 (s.syn.getD k []) c k=(c',some (s.syn.getD k []))∧MP c 4611686018427387904∧MP c' 4611686018427387904∧(Di c' k).2=0∧CK s (Di c' k).1:=by
 have hpb:∀{c:CD}{n:Nat},Inv (fun k=>s.syn.getD k []) s.syn.length c→(∀s,CE c s≤n)→n≤1000→MP c 4611686018427387904:=fun hi hz hn f hf=>by
  have:=AbG hi hz f hf;omega
 cases hr:E7 (s.syn.getD k []) c k with
 |mk c' o=>
 cases o with
 |none=>
  obtain⟨-,g2,g3,g4⟩:=get_none (cur:=fun k=>s.syn.getD k []) h.inv hr
  exfalso
  have h0:=h.inv.n1
  have hheld:(c.at 0).held=true:=by
   cases q:(c.at 0).held with
   |true=>rfl
   |false=>have:=(h.inv.fh 0 h0).1 q;rw[g3] at this;cases this
  have e:=Ui h.inv h0 hheld
  rw[h.zer] at e
  have:=Aet.1 g4 _ (Aey h0)
  rw[show c.at 0=c.fr[0] from CW h0] at e
  simp[←e] at this
 |some b'=>
  obtain⟨g1,rfl,g3,g4,g5,g6,g7⟩:=get_some (cur:=fun k=>s.syn.getD k []) h.inv hk hr
  obtain⟨q1,q2,q3,q4,q5,q6,q7,q8⟩:=YL g1 (k:=k) (by rw[g3,if_pos Z];omega)
  refine⟨c',Z,hpb h.inv (n:=0) (fun s=>by rw[h.zer];omega) (by omega),hpb g1 (n:=1) (fun s=>by rw[g3,h.zer];split<;>omega) (by omega),q2,q1,fun s=>?_,fun t ht=>?_⟩
  ·rw[q3,g3,h.zer];split<;>omega
  ·rw[q8] at ht
   by_cases e:t=k
   ·subst e;exact⟨h1,h2,h3⟩
   ·exact h.hold t (fun z=>ht (Ab9 h.inv hr e z))
end Go.Gk.Pgr
namespace Go.Gk.Pgr
open Go Go.Gk Go.Gk.Dev Go.Gk.Cch
def get_put{ν}{k k':Int}{v:ν}{c:Nat}:∀{ms:List (Int×ν×Nat)},E0 k' (Ho k v c ms)=if k'=k then some v else E0 k' ms
 |[]=>by simp[Ho,E0]
 |p::ms=>by
  rw[Ho];by_cases e:k=p.1
  ·rw[if_pos e,E0,E0];by_cases q:k'=k
   ·rw[if_pos (q.trans e),if_pos q]
   ·rw[if_neg (fun z=>q (z.trans e.symm)),if_neg q,if_neg (fun z=>q (z.trans e.symm))]
  ·rw[if_neg e,E0,get_put,E0];by_cases q:k'=p.1
   ·rw[if_pos q,if_pos q,if_neg (fun z=>e (z.symm.trans q))]
   ·rw[if_neg q,if_neg q]
def Xa{ν}{k k':Int}(h:k'≠k):∀{ms:List (Int×ν×Nat)},E0 k' (JN k ms)=E0 k' ms
 |[]=>rfl
 |p::ms=>by
  rw[JN];by_cases e:k=p.1
  ·rw[if_pos e,E0,if_neg (fun z=>h (z.trans e.symm))]
  ·rw[if_neg e,E0,Xa h,E0]
def PD.AV(s:PD):PD×Int×Int:=match Dk 0 s.kinds with|some i=>(s.HX i,((s.frm+i:Nat):Int),0)|none=>(s,0,190)
def CK.to{s s'}{c:CD}(h:CK s c)(h1:s'.frm=s.frm)(h2:s'.syn=s.syn)(ho:Og s'.kinds s.kinds):CK s' c:=
 ⟨by rw[h2];exact h.inv,h.zer,fun k hk=>by
  obtain⟨q1,q2,q3⟩:=h.hold k hk;rw[h1,ho.1];exact⟨q1,q2,(ho.2 _).2 q3⟩⟩
def Good.to{s s'}(h:Good s)(h1:s'.frm=s.frm)(h2:s'.syn.length=s.syn.length){i:Nat}{x:Int}(e:s'.kinds=s.kinds.set i x)(h0:0≤x)(h3:x≤3):Good s':=by
 have g:=h.kds (ks:=s'.kinds) e h0 h3;exact⟨g.one,g.len,by rw[h1,h2];exact g.inn,by rw[h2];exact g.syn,g.kd⟩
def Good.to'{s s'}(h:Good s)(h1:s'.frm=s.frm)(h2:s'.syn.length=s.syn.length)(e:s'.kinds=s.kinds):Good s':=
 ⟨by rw[e];exact h.one,by rw[e];exact h.len,by rw[h1,h2,e];exact h.inn,by rw[h2];exact h.syn,fun i=>by rw[PD.kd,e];exact h.kd i⟩
end Go.Gk.Pgr
namespace Go.Gk.Pgr
open Go Go.Gk Go.Gk.Dev Go.Gk.Cch
def Na{k:Nat}:∀{l:List (Nat×Sec)}{s:List Sec},(∀w∈l,w.1≠k)→(synced l s).getD k []=s.getD k []
 |[],_,_=>rfl
 |w::l,s,h=>by
  have e:synced (w::l) s=synced l (s.set w.1 w.2):=by simp[synced]
  rw[e,Na (fun w' hw=>h w' (Aev _ hw)),Aee,List.getElem?_set,if_neg (h w (Aeo ..)),←Aee]
def KP{s:PD}:∀{n:Nat}{w:Nat×Sec},w∈s.writes n→∃i,i<n∧s.kd i=1∧w=(s.frm+i,s.fb i)
 |n+1,w,h=>by
  rw[PD.writes,Aej] at h;rcases h with h|h
  ·obtain⟨i,h1,h2⟩:=KP h;exact⟨i,by omega,h2⟩
  ·split at h
   ·rename_i e;rw[Aew] at h;exact⟨n,by omega,e,h⟩
   ·cases h
def P4{s:PD}:∀{n:Nat},(s.writes n).length≤n
 |0=>Aef _
 |n+1=>by
  have:=P4 (s:=s) (n:=n);rw[PD.writes,Aek];split<;>simp<;>omega
def Inv.AcY{cur cur':Nat→Sec}{N:Nat}{c:CD}(h:Inv cur N c)(he:∀k,findF k c.fr≠none→cur' k=cur k):Inv cur' N c:=
 {h with vl:=fun i hi hh=>⟨(h.vl i hi hh).1,by rw[(h.vl i hi hh).2,he _ (by rw[h.find hi hh Z];simp)]⟩}
def CK.flush{s:PD}{c:CD}(h:CK s c):CK s.flush c:=by
 refine⟨?_,h.zer,h.hold⟩
 have hl:s.flush.syn.length=s.syn.length:=EX _ _;rw[hl];refine Inv.AcY h.inv (fun k hk=>?_);obtain⟨h1,h2,h3⟩:=h.hold k hk;refine Na (fun w hw e=>?_);obtain⟨i,h4,h5,rfl⟩:=KP hw;simp only at e;rw[←e,show s.frm+i - s.frm=i by omega] at h3;omega
def Good.flush{s}(h:Good s):Good s.flush:=h.to' Z (EX _ _) Z
def Mid(i:Nat)(l m:List Int):Prop:=m.length=l.length∧∀j,m.getD j 0=if j<i then Dp (l.getD j 0) else l.getD j 0
def Mid.zero(l:List Int):Mid 0 l l:=⟨Z,fun j=>by rw[if_neg (by omega)]⟩
def Mid.next{i:Nat}{l m:List Int}(h:Mid i l m)(hi:i<l.length):Mid (i+1) l (m.set i (Dp (l.getD i 0))):=by
 refine⟨by simpa using h.1,fun j=>?_⟩
 rw[Dl (by rw[h.1];exact hi),h.2];by_cases e:j=i
 ·subst e;rw[if_pos Z,if_pos (by omega)]
 ·rw[if_neg e];by_cases q:j<i
  ·rw[if_pos q,if_pos (by omega)]
  ·rw[if_neg q,if_neg (by omega)]
def Mid.same{i:Nat}{l m:List Int}(h:Mid i l m)(hi:i<l.length)(hs:Dp (l.getD i 0)=l.getD i 0):Mid (i+1) l m:=by
 refine⟨h.1,fun j=>?_⟩
 rw[h.2];by_cases e:j=i
 ·subst e;rw[if_neg (by omega),if_pos (by omega),hs]
 ·by_cases q:j<i
  ·rw[if_pos q,if_pos (by omega)]
  ·rw[if_neg q,if_neg (by omega)]
def AaM{l m:List Int}(h:l.length=m.length)(he:∀j,l.getD j 0=m.getD j 0):l=m:=by
 refine Ajf h (fun j h1 h2=>?_);have:=he j;rwa [Aee,Aee,Aed h1,Aed h2] at this
def getD_map{l:List Int}{j:Nat}:(l.map Dp).getD j 0=Dp (l.getD j 0):=by
 simp only[Aee,Ags];cases l[j]?<;>rfl
def Mid.done{i:Nat}{l m:List Int}(h:Mid i l m)(hi:l.length≤i):m=l.map Dp:=by
 refine AaM (by simpa using h.1) (fun j=>?_);rw[h.2,getD_map];by_cases e:j<i
 ·rw[if_pos e]
 ·rw[if_neg e,Aee,Afo (by omega)];rfl
def CK.gone{s}{c:CD}(h:CK s c){i:Nat}(hi:i<s.kinds.length)(_:s.kd i=3):CK {s with kinds:=s.kinds.set i 0} (De c (s.frm+i)).1:=by
 have key:∀{c':CD},(∀t,findF t c'.fr≠none→t≠s.frm+i∧findF t c.fr≠none)→∀t,findF t c'.fr≠none→s.frm≤t∧t<s.frm+(s.kinds.set i 0).length∧2≤(s.kinds.set i 0).getD (t - s.frm) 0:=fun hh t ht=>by
  obtain⟨h1,h2⟩:=hh t ht;obtain⟨h3,h4,h5⟩:=h.hold t h2;refine⟨h3,by simpa using h4,?_⟩
  rw[Dl hi,if_neg (by omega)];exact h5
 cases hf:findF (s.frm+i) c.fr with
 |none=>
  have e:(De c (s.frm+i)).1=c:=by unfold De;rw[hf]
  rw[e]
  exact⟨h.inv,h.zer,key (fun t ht=>⟨fun q=>ht (by rw[q];exact hf),ht⟩)⟩
 |some j=>
  obtain⟨-,h2,h3,h4⟩:=VX h.inv hf (h.zer _)
  exact⟨h2,fun t=>by rw[h4];exact h.zer t,key (fun t ht=>by
   rw[h3] at ht;by_cases e:t=s.frm+i
   ·rw[if_pos e] at ht;exact absurd Z ht
   ·rw[if_neg e] at ht;exact⟨e,ht⟩)⟩
def CK.AdP{s}{c:CD}(h:CK s c){i:Nat}(hi:i<s.kinds.length):CK {s with kinds:=s.kinds.set i 2} c:=
 ⟨h.inv,h.zer,fun t ht=>by
  obtain⟨h3,h4,h5⟩:=h.hold t ht;refine⟨h3,by simpa using h4,?_⟩
  simp only[PD.kd];rw[Dl hi];split
  ·omega
  ·exact h5⟩
end Go.Gk.Pgr
namespace Go.Gk.Pgr
def YI{x:Int}(h:0≤x∧x≤3):0≤Dp x∧Dp x≤3:=by
 unfold Dp;by_cases h1:x=3
 ·rw[if_pos h1];omega
 ·rw[if_neg h1];by_cases h2:x=1
  ·rw[if_pos h2];omega
  ·rw[if_neg h2];omega
end Go.Gk.Pgr
namespace Go.Gk.Pgr
open Go Go.Gk Go.Gk.Dev Go.Gk.Cch
end Go.Gk.Pgr
namespace Go.Gk.Pgr
open Go Go.Gk Go.Gk.Dev Go.Gk.Cch
def DV(n:Nat)(l:List Nat):List Int:=l.foldl (fun ks k=>ks.set k 2) (Aeu n 0)
def Yf{n k:Nat}{l:List Nat}:DV n (l++[k])=(DV n l).set k 2:=by simp[DV]
def SA{l:List Nat}:∀{ks:List Int},(l.foldl (fun ks k=>ks.set k 2) ks).length=ks.length:=by
 induction l with
 |nil=>intro ks;rfl
 |cons x l ih=>intro ks;rw[Aix,ih,Aff]
def GO{n:Nat}{l:List Nat}:(DV n l).length=n:=by rw[DV,SA,Afk]
def UH{l:List Nat}{j:Nat}:∀{ks:List Int},j<ks.length→(l.foldl (fun ks k=>ks.set k 2) ks).getD j 0=if j∈l then 2 else ks.getD j 0:=by
 induction l with
 |nil=>intro ks _;simp
 |cons x l ih=>
  intro ks hj
  rw[Aix,ih (by rw[Aff];exact hj)]
  by_cases h:j∈l
  ·rw[if_pos h,if_pos (Aev _ h)]
  ·rw[if_neg h]
   by_cases e:j=x
   ·subst e;rw[Dl hj,if_pos Z,if_pos (Aeo ..)]
   ·rw[if_neg (by simp[e,h])]
    by_cases hx:x<ks.length
    ·rw[Dl hx,if_neg e]
    ·rw[Ahn (by omega)]
def Ly{n j:Nat}{l:List Nat}:(DV n l).getD j 0=if j<n∧j∈l then 2 else 0:=by
 by_cases hj:j<n
 ·rw[DV,UH (by rw[Afk];exact hj)];by_cases h:j∈l
  ·rw[if_pos h,if_pos ⟨hj,h⟩]
  ·rw[if_neg h,if_neg (fun q=>h q.2),Aee,List.getElem?_replicate];split<;>rfl
 ·rw[if_neg (fun q=>hj q.1),Aee,Afo (by rw[GO];omega)];rfl
def OT{k m:Nat}:findF k (Aeu m fz)=none:=by
 cases h:findF k (Aeu m fz) with
 |none=>rfl
 |some i=>
  obtain⟨h1,h2, -⟩:=FB h
  rw[List.getElem_replicate] at h2
  cases h2
def CK.new{s}{m:Nat}(h1:1≤m)(h2:m≤64):CK s ⟨Aeu m fz,Afb m,0,0,0⟩:=
 ⟨AbZ _ _ m h1 h2,fun k=>by rw[CE,OT],fun k hk=>absurd OT hk⟩
def Good.new{frm n:Nat}{l:List Nat}{fb:Nat→Sec}{syn:List Sec}(h1:1≤n)(h2:frm+n≤syn.length)(h3:syn.length≤8192):Good ⟨frm,DV n l,fb,syn,0,0⟩:=
 ⟨by rw[GO];exact h1,by rw[GO];omega,by rw[GO];exact h2,h3,fun i=>by
  show 0≤(DV n l).getD i 0∧(DV n l).getD i 0≤3;rw[Ly];split<;>decide⟩
end Go.Gk.Pgr
end
section
namespace Go.Gk.Dev
open Go Go.Gk
attribute [local irreducible] gwp gws xwp
def EC:GW:=(.mk 24 [] (.seq (.g (rG (ol 4 1<|o1 5 (.nilc 4)<|oj 6 1 5<|ol 7 6<|oL 8 7<|ob 9 .sub 8 z1<|om 3 9 .done))) (.block 0 (.loop (.seq (.g (sR (om 10 3<|ob 11 .geq 10 z0 .done) (.cond 11 .skip (.exit 0)))) (.seq (.block 1 (.seq (.yl (om 14 0<|ol 15 1<|o1 16 (.nilc 15)<|oj 17 1 16<|ol 18 17<|om 19 3<|oI 20 257 18 19<|o1 21 (.ld (some 257) 20) .done) (some 22) 14 [21] (o1 23 (.un .not 22) .done)) (.g (.cond 23 .ret .skip)))) (.g (rG (om 12 3<|ob 13 .sub 12 z1<|om 3 13 .done)))))))))
def XP{P f}(hd:FL true false P f=some EC){D:EK}{v LD}{bb l:Nat}{rc:Loop}(J:Nat→Ac→List Ac→Prop)(Jf:Loop→Ac→List Ac→Prop){d E}
  (hD:Dv d D v LD) (hb:DC d bb 0 v) (h0:J D.opn.length d E)
  (hround:∀i (hi:i<D.opn.length) d1 E1,Le d d1→J (i+1) d1 E1→J9 P l [.agg (Value.int .i64 D.opn[i].1::D.opn[i].2.map Av).toArray] d1 (sg l (.loop rc)::E1)
   (fun u d' L'=>(u=.bool true∧∃E',L'=sg l (.loop rc)::E'∧J i d' E')∨(u=.bool false∧∃rc' E',L'=sg l (.loop rc')::E'∧Jf rc' d' E'))):
  AA P f [.func (.yield l) #[] #[],pZ bb] d (LD++(sg l (.loop rc)::E)) (Ret fun _ d' L'=>∃E' rc',L'=LD++(sg l (.loop rc')::E')∧((rc'=rc∧J 0 d' E')∨Jf rc' d' E')):=by
 obtain⟨b,T,vs,vo,r,hs,ho,rfl,rfl,h3,h4,h5,h6⟩:=hD
 have hlen:=h4.BF
 obtain⟨ao,co,rfl⟩:=h4.val
 refine ER hd (Aea Z) ?_
 show xwp P _ _ _ _ _
 (apply BU;apply x_g;apply AE;apply Ah;rfl;exact BB (by assumption);apply AF;rfl;apply Ai;rfl;apply Ah;rfl;exact Al 0 Z Z;apply AI;rfl;apply CV;rfl;rfl;omega;omega;apply Ab;rfl;apply Aa;apply GR)
 refine QU (α:=Nat) (fun i=>[(0,.func (.yield l) #[] #[]),(1,pZ bb),(3,vZ ((i:Int) - 1))])
  (fun i d' L'=>Le d d'∧i≤D.opn.length∧∃E',L'=[bx b T [vs,.slice ao D.opn.length co,vZ r,vZ 0],hs,ho]++(sg l (.loop rc)::E')∧J i d' E') (fun i=>i) D.opn.length
  ⟨Z,Z,Z,trivial⟩ ⟨Le.refl d,Aef _,E,Z,h0⟩ ?_
 rintro i ρ d1 L1 ⟨hl1,hi,E1,rfl,hJ⟩
 replace hb:=hb.mono hl1
 cases i with
 |zero=>
  (apply BU;apply x_g;apply Ag;apply AE;apply Ab;rfl;apply Da;rfl;rfl;apply Aa;refine Ar Z (by omega) ?_;apply Bd)
  exact Dc [] trivial (Aeb _) ⟨E1,rc,Z,.inl ⟨Z,hJ⟩⟩
 |succ i=>
  obtain⟨bo,To,lo,co',cs,e1,e2,hcl,hcs,hle,hr, -⟩:=As.at (by omega) h4 (show i<D.opn.length from hi)
  cases e1;subst e2
  obtain⟨rfl,hbl⟩:=hr
  (apply BU;apply x_g;apply Ag;apply AE;apply Ab;rfl;apply Da;rfl;rfl;apply Aa;refine Aw Z (by omega) ?_;apply Ak;apply BU;apply GR;apply BU;apply Aa6;apply FE;rfl;apply Ah;rfl;exact BB (by assumption);apply AF;rfl;apply Ai;rfl;apply Ah;rfl;exact Al 0 Z Z;apply Ab;rfl)
  refine BD i Z Z (by omega) hi ?_
  refine Lq _ 2 Z Z hcl hcs ?_
  refine F7 ⟨d1,(sg l (.loop rc)::E1)++[bx b T [vs,.slice (some ⟨bo,0,none⟩) D.opn.length co,vZ r,vZ 0],hs,bx bo To lo],Vs.perm Aei,?_⟩
  refine QK _ _ Z Z Z (hround i hi d1 E1 hl1 hJ) (fun u d2 L2 hl2 hr2=>?_)
  rcases hr2 with ⟨rfl,E2,rfl,hJ2⟩|⟨rfl,rc2,E2,rfl,hJ2⟩
  ·refine BS d2 ([bx b T [vs,.slice (some ⟨bo,0,none⟩) D.opn.length co,vZ r,vZ 0],hs,bx bo To lo]++(sg l (.loop rc)::E2)) (Vs.perm Aei) ?_
   (refine Bn Z<|Aa ?_;apply x_g;refine AS Z<|Ak ?_;apply x_g;refine AE<|Ab Z<|CV Z Z (by omega) (by omega)<|Ab Z<|Aa ?_)
   exact⟨i,by omega,⟨Z,Z,int_eq (by omega),trivial⟩,hl1.trans hl2,by omega,E2,Z,hJ2⟩
  ·refine BS d2 ([bx b T [vs,.slice (some ⟨bo,0,none⟩) D.opn.length co,vZ r,vZ 0],hs,bx bo To lo]++(sg l (.loop rc2)::E2)) (Vs.perm Aei) ?_
   (refine Bn Z<|Aa ?_;apply x_g;refine Bc Z<|Ap ?_)
   exact Dc [] trivial (Aeb _) ⟨E2,rc2,Z,.inr hJ2⟩
def E9(a0:Nat):A0:=⟨4,[(.tmp 2)],(sR (o1 1 (.box 0)<|o1 2 (.mv (.const .nilFunc)) .done) (sR (o1 3 (.mkf (.func a0) [] [1])<|om 2 3 .done) .ret))⟩
def Zu{P f f1}(hd:dec P f=some (E9 f1)){d}{b:Nat}:AA P f [pZ b] d [] (Ret fun r d' L'=>∃bb,r=.func (.func f1) #[] #[pZ bb]∧DC d' bb 0 (pZ b)∧L'=[]):=by
 refine AG hd (Aea Z) ?_;show gwp P _ _ _ _ _;refine Ad<|Fb Z (fun bb T=>?_);refine AR<|Aa<|Ad<|Nk<|FE Z<|Aa<|Ap<|Adj Z (fun d' _ hk=>⟨bb,Z,?_,Z⟩);exact(Qs (hk _ (Aeo ..))).at (i:=0) Z
def Qa(P:Program)(f:FuncId):Prop:=∃f1,dec P f=some (E9 f1)∧FL true false P f1=some EC
def W7{P f f1}(hd:dec P f=some (E9 f1))(h:FL true false P f1=some EC):Qa P f:=⟨f1,hd,h⟩
def NL(P:Program)(f:FuncId):Prop:=∀{d}{D:EK}{v L}{k:Nat},Dv d D v L→k<D.syn.length→
 AA P f [v,vZ k] d L (Ret fun r d' L'=>∃u,r=.tuple #[u,vZ 0]∧AJ d' u (D.cur k)∧Dv d' D v L')
def XZ{k:Nat}{l:List (Nat×Sec)}{i:Nat}(hi:i<l.length):Gc k (l.drop i)=match Gc k (l.drop (i+1)) with|some b=>some b|none=>if l[i].1=k then some l[i].2 else none:=by
 rw[Afl hi];rfl
def Sm{k:Nat}{b:Sec}:∀{l:List (Nat×Sec)},Gc k l=some b→∃w∈l,w.2=b
 |w::l,h=>by
  rw[Gc] at h;cases hw:Gc k l with
  |some q=>rw[hw] at h;cases h;obtain⟨x,hx,e⟩:=Sm hw;exact⟨x,Aev _ hx,e⟩
  |none=>
   rw[hw] at h
   simp only at h
   split at h
   ·cases h;exact⟨w,Aeo ..,Z⟩
   ·cases h
def LN{k:Nat}{b:Sec}:∀{l:List (Nat×Sec)}{i:Nat},Gc k (l.drop i)=some b→Gc k l=some b
 |_,0,h=>h
 |[],i+1,h=>h
 |w::l,i+1,h=>by
  rw[List.drop_succ_cons] at h;rw[Gc,LN h]
def Ld(a0 a1:Nat):GW:=(.mk 41 [(.tmp 4),(.tmp 5)] (.seq (.g (rG (o1 3 (.box 1)<|o1 4 (.mv nS)<|o1 5 (.mv z0) .done))) (.seq (.g (sR (om 9 0<|ol 10 3<|oc 11 a0 [9,10,(kZ 256)]<|om 6 11 .done) (sR (om 12 6<|ob 13 .neq 12 z0 .done) (.cond 13 (sR (om 14 6<|o1 4 (.mv nS)<|om 5 14 .done) .ret) .skip)))) (.seq (.g (rG (om 15 0<|o1 16 (.nilc 15)<|oj 17 2 16<|ol 18 17<|ob 19 .add 18 z1<|o1 20 (.nilc 15)<|oj 21 2 20<|o0 (.st 1 21 19) .done))) (.seq (.g (.reg true (pm 22 0<|p1 23 (.nilc 22)<|p1 24 (.fld 0 23)<|pl 25 24<|pl 26 3<|p1 27 (.idx 256 25 26)<|p1 28 (.ld (some 256) 27)<|o1 7 (.alo (.agg Cc.toArray)) (.bar (o0 (.st 256 7 28) .done))))) (.seq (.seq (.g (rG (om 29 0<|oc 30 a1 [29] .done))) (.block 0 (.rf 30 [31] (rG (o1 8 (.alo (.agg (Value.int .i64 0::Cc).toArray))<|o0 (.st 257 8 31) .done)) (.block 1 (sR (oj 32 0 8<|ol 33 32<|ol 34 3<|ob 35 .eql 33 34 .done) (.cond 35 (sR (oj 36 1 8<|o1 37 (.ld (some 256) 36)<|o0 (.st 256 7 37) .done) (.exit 0)) .skip)))))) (.g (sR (o1 38 (.bsl 0 1 [(.int .u8 0)] [])<|o1 39 (.sla 256 1 7 none none none)<|o1 40 (.app 1 1 [(.int .u8 0)] 38 39)<|om 4 40<|o1 5 (.mv z0) .done) .ret))))))))
def Tj{P f f1 f2}(hd:FL false false P f=some (Ld f1 f2))(h1:Hi P f1)(h2:Qa P f2):NL P f:=by
 obtain⟨f3,h2,h3⟩:=h2;intro d D v L k h hk;have h0:=h;obtain⟨b,T,vs,vo,r,hs,ho,rfl,rfl,g3,g4,g5,g6⟩:=h;obtain⟨bs,Ts,ls,cs',us,rfl,rfl,hul,hus,hsle,hrs, -⟩:=As.at (by omega) g3 hk;obtain⟨rfl,hsl⟩:=hrs;refine ER hd (Aea Z) ?_;show xwp P _ _ _ _ _;(apply BU;apply x_g;apply AE);refine Fb Z (fun kb Tk=>?_);(refine Aj Z<|Ab Z<|Aa ?_;apply BU;apply x_g;refine Ad<|Am Z<|Ah Z (Al 0 Z Z) ?_);refine BS d ([bx b T [.slice (some ⟨bs,0,none⟩) D.syn.length cs',vo,vZ r,vZ 0],bx bs Ts ls,ho]++[bx kb Tk [vZ k]]) (Vs.pick [1,2,3,0] Z) ?_;refine CR (A:=[_,_,_]) (B:=[_]) Z Z (h1 (n:=256) h0 hk Z) ?_;(refine Ab Z<|Aa<|Ad<|Ab Z<|AO Z Z<|Aa<|Ar Z (by omega)<|Ak ?_;apply BU;apply x_g;refine AE<|Am Z<|AF Z<|Ai Z<|Ah Z (Al 0 Z Z) ?_);refine Acr Z Z (fun r2 _=>?_);refine AF Z<|Ai Z<|A7 0 [.slice (some ⟨bs,0,none⟩) D.syn.length cs',vo,vZ r2,vZ 0] Z Z Z Z (Aea Z) Z Z ?_;have hD:Dv d D (pZ b) [bx b T [.slice (some ⟨bs,0,none⟩) D.syn.length cs',vo,vZ r2,vZ 0],bx bs Ts ls,ho]:=⟨b,T,_,vo,r2,_,ho,Z,Z,g3,g4,g5,g6⟩
 (apply Aa;apply BU;apply x_g;refine Bv<|Am Z<|AF Z<|Ai Z<|Ah Z (Al 0 Z Z)<|Ah Z (Al 3 Z Z)<|BD _ Z Z Z (by omega) ?_);refine Lq _ 1 Z Z hul hus ?_;(refine BP (fun _ _=>Cd ?_));rename_i ob Tob;refine EV 4 Z Z Z hul CI (CB _) ?_;(apply Aa);refine AdE (fun ρ d2 L2=>Le d d2∧BG ρ [(7,pZ ob)]∧L2=[bx b T [.slice (some ⟨bs,0,none⟩) D.syn.length cs',vo,vZ r2,vZ 0],bx bs Ts ls,ho,bx kb Tk [vZ k],bx ob Tob ((D.cur k).map Av)]) ?_ ?_
 ·(apply BU;apply x_g;apply AE;apply Am;rfl);refine DY (A:=[]) Z Z (Zu h2) (fun u d2 L2 hl2 ⟨bb,e1,e2,e3⟩=>?_);subst e1;subst e3;(apply Aa;apply GR);refine Acx Z (fun l rc hrec hst hpd=>?_);refine AA.reorder (L1:=[bx b T [.slice (some ⟨bs,0,none⟩) D.syn.length cs',vo,vZ r2,vZ 0],bx bs Ts ls,ho]++(sg l (.loop rc)::[bx kb Tk [vZ k],bx ob Tob (D.syn[k].map Av)])) ?_ (AA.DU
   (XP h3 (rc:=rc) (l:=l) (fun i d3 E=>E=[bx kb Tk [vZ k],bx ob Tob (D.syn[k].map Av)]∧Gc k (D.opn.drop i)=none)
    (fun rc' d3 E=>rc'={rc with state:=.done,pending:=some (.exit 0)}∧E=[bx kb Tk [vZ k],bx ob Tob ((D.cur k).map Av)]) (hD.mono hl2) e2 ⟨Z,by rw[Ahg];rfl⟩ ?_) ?_)
  ·exact(Aei (l₁:=[_,_,_]) (l₂:=[_])).append_right [_,_]|>.symm
  ·rintro i hi d3 E3 hl3 ⟨rfl,hno⟩;refine MY hrec hst Z ?_;have hbl:D.opn[i].2.length=256:=by
    obtain⟨bo,To,lo,co',cs,e1,e2,hcl,hcs,hle,hr, -⟩:=As.at (by omega) g4 hi;exact hr.2
   have hno':=XZ (k:=k) hi;rw[hno] at hno';by_cases e:D.opn[i].1=k
   ·(refine AE<|BP (fun _ _=>?_));refine EV 0 Z Z Z (by rw[Aep,Afv,hbl]) (by rw[Aep,CI]) (by rw[Ajq,CB];rfl) ?_;refine Aa<|Ax<|Ad<|Ai Z<|Ah Z (Al 0 Z Z)<|Ah Z (Al 1 Z Z)<|AN Z Z<|Aa<|Aw Z (by omega)<|Ad<|Ai Z<|Lq (D.opn[i].2.map Av) 0 Z Z (by rw[Afv];exact hbl) (fun j u hu=>by rw[Nat.add_comm];simpa using hu) ?_;skip;refine EV 2 Z Z Z (by rw[Afv];exact hbl) (by rw[Afv];exact hsl) (CB _) ?_;refine F7 ⟨_,[_,_],Vs.drop (Afd _ _),?_⟩;(apply Bd);refine Or.inr ⟨Z,_,_,Z,Z,?_⟩;rw[if_pos e] at hno';rw[EK.cur,LN hno',Ahf]
   ·(refine AE<|BP (fun _ _=>?_));refine EV 0 Z Z Z (by rw[Aep,Afv,hbl]) (by rw[Aep,CI]) (by rw[Ajq,CB];rfl) ?_;refine Aa<|Ax<|Ad<|Ai Z<|Ah Z (Al 0 Z Z)<|Ah Z (Al 1 Z Z)<|BS d3 [_,_] (Vs.drop (Afd _ _)) ?_;(refine AN Z Z<|Aa<|Ar Z (by omega)<|Ak ?_);rw[if_neg e] at hno';exact Or.inl ⟨Z,_,by rw[Xq hst hpd],Z,hno'⟩
  ·rintro u d3 L3 hl3 ⟨E',rc',rfl,h⟩;refine⟨d3,sg l (.loop rc')::([bx b T [.slice (some ⟨bs,0,none⟩) D.syn.length cs',vo,vZ r2,vZ 0],bx bs Ts ls,ho]++E'),Vs.perm ((Aei (l₁:=[_,_,_]) (l₂:=[_])).append_right E'|>fun p=>by simpa using p),rc',_,Z,?_⟩
   rcases h with ⟨rfl,rfl,h⟩|⟨rfl,rfl⟩
   ·refine⟨(by rw[hst];intro q;cases q),?_⟩
    rw[hpd];refine⟨hl2.trans hl3,⟨Z,trivial⟩,?_⟩
    rw[EK.cur,show Gc k D.opn=none from h,Option.getD_none,Aee,Aed hk];rfl
   ·refine⟨(fun q=>by cases q),?_⟩
    exact⟨hl2.trans hl3,⟨Z,trivial⟩,Z⟩
 ·rintro ρ d2 L2 ⟨hl2,hs2,rfl⟩;refine Q6 _ hs2 ?_;have hcl:(D.cur k).length=256:=by
   unfold EK.cur;cases hw:Gc k D.opn with
   |none=>rw[Option.getD_none,Aee,Aed hk];exact hsl
   |some q=>
    obtain⟨w,hm,e⟩:=Sm hw
    obtain⟨i,hi,rfl⟩:=Aga hm
    obtain⟨bo,To,lo,co',cs,e1,e2,hcl,hcs,hle,hr, -⟩:=As.at (by omega) g4 hi
    rw[Ahf,←e];exact hr.2
  (apply x_g;apply Ag;apply AE);refine CZ (cs:=[]) (by simp) (by simp[Instr.fill,Bq]) (fun b3 T3=>?_);refine w_q (v:=.slice (some ⟨ob,0,none⟩) 256 256) Z ⟨ob,0,0,256,256,Z,Z,Z⟩ ?_;refine Fk (R:=AH) 0 Z Z (As.JR (R:=AH) (sz:=1)) Z (Src.lit (ys:=D.cur k) 5 Z hcl.symm (by simp) (CB _) (fun i hi=>?_)) (by omega) (by simp;omega) (by simp;omega) (fun v' h' ho'=>?_)
  ·simp only[AH,chunk,Agn,←Ajr,←Ajs];rw[Afl hi];rfl
  rw[Afi] at ho';refine AR<|Ab Z<|Aa<|Ap<|A4 [v',vZ 0] ⟨Z,Z,trivial⟩ (d':=join d2 h') (L':=[bx b T [.slice (some ⟨bs,0,none⟩) D.syn.length cs',vo,vZ r2,vZ 0],bx bs Ts ls,ho]) ?_ ⟨v',Z,?_,?_⟩
  ·exact Vs.freeze.trans (Vs.drop (Aim [_,_,_] [_,_]))
  ·exact As.rsl (R:=AH) ho' AL (by omega) (Le.Az _ _) (Le.A6 _ _)
  ·exact(hD.mono hl2).mono (Le.Az _ _)
end Go.Gk.Dev
end
section
namespace Go.Gk.Cch
open Go Go.Gk Go.Gk.Dev
attribute [local irreducible] gwp gws xwp
variable{f f1:FuncId}{P:Program}
section
def RFr(d:Ac)(cs:List Value)(f:Fr):Prop:=∃a n c,cs=[.bool f.held,vZ f.sec,vZ f.pins,.bool f.late,.slice a n c]∧AJ d (.slice a n c) f.b
def Nl:FZ RFr:=fun hl ⟨a,n,c,h1,h2⟩=>⟨a,n,c,h1,h2.mono hl⟩
def wr(n:Nat):Int:=IntKind.i64.wrap (n:Int)
def AbL(n:Nat):IntKind.i64.wrap (wr n+1)=wr (n+1):=by
 simp[wr,IntKind.wrap,IntKind.signed,IntKind.bits];omega
section
variable {P:Program}{pan:List PanicEntry→AU}{Qn:Env→AU}{Ls L:List Ac}{ρ:Env}{d:Ac}{s:GS}{t:Nat}{tk:Bool}
def MM{x y}{n:Nat}(ex:ev ρ x=vZ (wr n))(ey:ev ρ y=vZ 1)(h:gws P pan Qn s Ls (upd ρ t (vZ (wr (n+1)))) d L):
  gws P pan Qn (.op tk ⟨some t,none,.bin .add x y⟩ s) Ls ρ d L:=C9 (by rw[ex,ey];simp[C2,AbL]) h
end
def Ca(d:Ac)(c:CD)(dv cv:Value)(L:List Ac):Prop:=
 ∃b T bf cp cb hf s r bd,cv=pZ b∧dv=pZ bd∧
  L=[bx b T [dv,.slice (some ⟨bf,0,none⟩) c.fr.length cp,.chan (some cb),vZ c.hand,vZ (wr c.hits),vZ (wr c.miss)],hf,sg cb (.chan c.fr.length (c.free.map fun i:Nat=>Value.int .i64 i).toArray false s r false)]∧
  As 5 RFr d (.slice (some ⟨bf,0,none⟩) c.fr.length cp) c.fr hf∧1≤c.fr.length∧c.fr.length≤64∧c.hand<c.fr.length∧∀i∈c.free,i<c.fr.length
def Ca.mono{d d'}{c:CD}{dv cv L}(h:Ca d c dv cv L)(hl:Le d d'):Ca d' c dv cv L:=
 let ⟨b,T,bf,cp,cb,hf,s,r,bd,h1,h2,h3,h4,h5⟩:=h
 ⟨b,T,bf,cp,cb,hf,s,r,bd,h1,h2,h3,As.mono (R:=RFr) Nl h4 hl,h5⟩
def Ca.mk{d}{c:CD}{b bf cp cb s r bd n:Nat}{T hf}(hn:c.fr.length=n)(hg:As 5 RFr d (.slice (some ⟨bf,0,none⟩) n cp) c.fr hf)(h1:1≤n)(h2:n≤64)(h3:c.hand<n)(h4:∀i∈c.free,i<n):
  Ca d c (pZ bd) (pZ b) [bx b T [pZ bd,.slice (some ⟨bf,0,none⟩) n cp,.chan (some cb),vZ c.hand,vZ (wr c.hits),vZ (wr c.miss)],hf,
   sg cb (.chan n (c.free.map fun i:Nat=>Value.int .i64 i).toArray false s r false)]:=by
 subst hn
 exact⟨b,T,bf,cp,cb,hf,s,r,bd,Z,Z,Z,hg,h1,h2,h3,h4⟩
def Hm(P:Program)(f:FuncId):Prop:=∀{d}{b bd:Nat}{T l},Du P f [pZ b] d [bx b T (.pointer (some ⟨bd,0,none⟩)::l)] (.bool false)
def Mz:A0:=⟨12,[(.tmp 2)],(sR (o1 2 (.mv (.const (.bool false))) .done) (sR (om 3 0<|o1 4 (.eqp false 3 (.const (.pointer none)))<|om 5 4<|gF 6 5 0<|oF 7 5 (.nilc 6)<|oF 8 5 (.fld 0 7)<|oF 9 5 (.ld none 8)<|oF 10 5 (.eqp false 9 (.const (.pointer none)))<|o1 11 (.pick 5 (.const (.bool true)) 10)<|om 2 11 .done) .ret))⟩
def UB{P}(hd:dec P f=some Mz):Hm P f:=by
 intro d b bd T l;refine AG hd (Aea Z) ?_;show gwp P _ _ _ _ _;(refine Ad<|Ae Z<|Aa<|Ad<|Am Z<|Cg Z Z<|Ae Z<|Af Z<|Am Z<|Af Z<|AF Z<|Af Z<|Ai Z<|Af Z<|Ah Z (Al 0 Z Z)<|Af Z<|Cg Z Z<|Au Z Z<|Ae Z<|Aa<|Ap ?_);exact K4 Z (Aeb _)
def IJ(P:Program)(f:FuncId):Prop:=∀{d}{b bf cp:Nat}{T x0 x1 x2 x3 x4 hf}{fs:List Fr}{k:Nat},As 5 RFr d (.slice (some ⟨bf,0,none⟩) fs.length cp) fs hf→
 Du P f [pZ b,vZ k] d [bx b T [x0,.slice (some ⟨bf,0,none⟩) fs.length cp,x1,x2,x3,x4],hf]
  (match findF k fs with|some i=>.tuple #[.pointer (some ⟨bf,i*5,none⟩),vZ i]|none=>.tuple #[.pointer none,vZ 0])
def Md:A0:=⟨43,[(.tmp 4),(.tmp 5)],(sR (o1 4 (.mv (.const (.pointer none)))<|o1 5 (.mv z0) .done) (.seq (sR (om 7 0<|o1 8 (.nilc 7)<|oj 9 1 8<|ol 10 9<|oL 11 10<|o1 12 (.mv z0) .done) (.block 0 (.loop (sR (ob 13 .lss 12 11 .done) (.seq (.cond 13 .skip (.exit 0)) (.seq (.block 1 (sR (om 14 12<|om 6 14 .done) (sR (om 15 0<|o1 16 (.nilc 15)<|oj 17 1 16<|ol 18 17<|om 19 6<|oI 20 5 18 19<|oj 21 0 20<|ol 22 21<|om 23 22<|gT 24 23 0<|oT 25 23 (.nilc 24)<|oT 26 23 (.fld 1 25)<|oT 27 23 (.ld none 26)<|gT 28 23 6<|oT 29 23 (.idx 5 27 28)<|oT 30 23 (.fld 1 29)<|oT 31 23 (.ld none 30)<|gT 32 23 1<|oT 33 23 (.bin .eql 31 32)<|gP 34 23 33 .done) (.cond 34 (sR (om 35 0<|o1 36 (.nilc 35)<|oj 37 1 36<|ol 38 37<|om 39 6<|oI 40 5 38 39<|om 41 6<|om 4 40<|om 5 41 .done) .ret) .skip)))) (rG (ob 42 .add 12 z1<|om 12 42 .done)))))))) (sR (o1 4 (.mv (.const (.pointer none)))<|o1 5 (.mv z0) .done) .ret)))⟩
def Vt{P}(hd:dec P f=some Md):IJ P f:=by
 intro d b bf cp T x0 x1 x2 x3 x4 hf fs k h;have hlen:=h.BF;refine AG hd (Aea Z) ?_;show gwp P _ _ _ _ _;refine Ad<|Am Z<|Ab Z<|Aa<|Ag<|Ad<|Am Z<|AF Z<|Ai Z<|Ah Z (Al 0 Z Z)<|AI Z<|Ab Z<|Aa<|Ax<|Dd (α:=Nat) (fun i=>[(0,pZ b),(1,vZ k),(11,vZ fs.length),(12,vZ i)]) (fun _=>[bx b T [x0,.slice (some ⟨bf,0,none⟩) fs.length cp,x1,x2,x3,x4],hf])
  (fun i=>i≤fs.length∧findF k fs=(findF k (fs.drop i)).map (·+i)) (fun i=>fs.length - i) 0 ⟨Z,Z,Z,Z,trivial⟩ Z ⟨by omega,by simp⟩ ?_
 rintro i ρ ⟨hi,hF⟩;by_cases e:i<fs.length
 ·obtain⟨b1,T1,l1,c1,cs,q1,rfl,hcl,hcs,hle,⟨a,n,c,rfl,hb⟩, -⟩:=As.at (by omega) h e;cases q1;have c0:=hcs 0 _ Z;have c1:=hcs 1 _ Z;rw[XG e] at hF;have hnext:¬(fs[i].held=true∧fs[i].sec=k)→findF k fs=(findF k (fs.drop (i+1))).map (·+(i+1)):=fun q=>by
   rw[hF,if_neg q,Option.map_map];congr 1;funext x;simp only[Function.comp];omega
  cases hh:fs[i].held with
  |false=>
   rw[hh] at c0
   (refine Ad<|AB Z Z<|Aa<|Ag<|Aw Z (by omega)<|Ak<|Ag<|Ax<|Ad<|Ab Z<|Ab Z<|Aa<|Ad<|Am Z<|AF Z<|Ai Z<|Ah Z (Al 0 Z Z)<|Ab Z<|BD _ Z Z Z (by omega)<|Ai Z<|Ah Z (Al 1 Z (by assumption))<|Ae Z<|An Z<|An Z<|An Z<|An Z<|An Z<|An Z<|An Z<|An Z<|An Z<|An Z<|Au Z Z<|Aa<|AS Z<|Ak<|AE<|AM Z Z (by omega) (by omega)<|Ab Z<|Aa ?_)
   exact⟨i+1,by omega,⟨Z,Z,Z,Z,trivial⟩,Z,Z,e,hnext (by rw[hh];rintro⟨q,_⟩;cases q)⟩
  |true=>
   rw[hh] at c0
   by_cases hs:fs[i].sec=k
   ·(refine Ad<|AB Z Z<|Aa<|Ag<|Aw Z (by omega)<|Ak<|Ag<|Ax<|Ad<|Ab Z<|Ab Z<|Aa<|Ad<|Am Z<|AF Z<|Ai Z<|Ah Z (Al 0 Z Z)<|Ab Z<|BD _ Z Z Z (by omega)<|Ai Z<|Ah Z (Al 1 Z (by assumption))<|Ae Z<|Af Z<|Am Z<|Af Z<|AF Z<|Af Z<|Ai Z<|Af Z<|Ah Z (Al 0 Z Z)<|Af Z<|Ab Z<|Af Z<|BD _ Z Z Z (by omega)<|Af Z<|Ai Z<|Af Z<|Ah Z (Al 1 Z (by assumption))<|Af Z<|Ab Z<|Af Z<|AN Z Z<|Ay Z Z<|Aa<|Aw Z (by omega)<|Ad<|Am Z<|AF Z<|Ai Z<|Ah Z (Al 0 Z Z)<|Ab Z<|BD _ Z Z Z (by omega)<|Ab Z<|Am Z<|Ab Z<|Aa<|Ap ?_)
    rw[show findF k fs=some i by rw[hF,if_pos ⟨hh,hs⟩,Ahi,Agg]]
    exact Abr Z Z (Aeb _)
   ·(refine Ad<|AB Z Z<|Aa<|Ag<|Aw Z (by omega)<|Ak<|Ag<|Ax<|Ad<|Ab Z<|Ab Z<|Aa<|Ad<|Am Z<|AF Z<|Ai Z<|Ah Z (Al 0 Z Z)<|Ab Z<|BD _ Z Z Z (by omega)<|Ai Z<|Ah Z (Al 1 Z (by assumption))<|Ae Z<|Af Z<|Am Z<|Af Z<|AF Z<|Af Z<|Ai Z<|Af Z<|Ah Z (Al 0 Z Z)<|Af Z<|Ab Z<|Af Z<|BD _ Z Z Z (by omega)<|Af Z<|Ai Z<|Af Z<|Ah Z (Al 1 Z (by assumption))<|Af Z<|Ab Z<|Af Z<|AN Z Z<|Ay Z Z<|Aa<|Ar Z (by omega)<|Ak<|AE<|AM Z Z (by omega) (by omega)<|Ab Z<|Aa ?_)
    exact⟨i+1,by omega,⟨Z,Z,Z,Z,trivial⟩,Z,Z,e,hnext (by rintro⟨_,q⟩;exact hs q)⟩
 ·(refine Ad<|AB Z Z<|Aa<|Ag<|Ar Z (by omega)<|Bd<|Ad<|Am Z<|Ab Z<|Aa<|Ap ?_);have:findF k fs=none:=by
   rw[hF,Aha (by omega)];rfl
  rw[this];exact Abr Z Z (Aeb _)
def JB(P:Program)(f:FuncId):Prop:=∀{d}{b bf cp:Nat}{T x0 x1 x2 x3 x4 hf}{fs:List Fr},As 5 RFr d (.slice (some ⟨bf,0,none⟩) fs.length cp) fs hf→
 Du P f [pZ b] d [bx b T [x0,.slice (some ⟨bf,0,none⟩) fs.length cp,x1,x2,x3,x4],hf] (.bool (Co fs))
def VD{fs:List Fr}{i:Nat}(hi:i<fs.length)(h:fs[i].pins=0):Co fs=false:=by
 unfold Co;rw[List.all_eq_false];exact⟨_,Aey hi,by simp[h]⟩
def Lh:A0:=⟨18,[(.tmp 2)],(sR (o1 2 (.mv (.const (.bool false))) .done) (.seq (sR (om 5 0<|o1 6 (.nilc 5)<|oj 7 1 6<|ol 8 7<|oL 9 8<|o1 10 (.mv z0) .done) (.block 0 (.loop (sR (ob 11 .lss 10 9 .done) (.seq (.cond 11 .skip (.exit 0)) (.seq (.block 1 (sR (oI 12 5 8 10<|o1 13 (.ld (some 5) 12)<|o1 4 (.alo (.agg #[(.bool false),(vZ 0),(vZ 0),(.bool false),nV]))<|o0 (.st 5 4 13) .done) (sR (oj 14 2 4<|ol 15 14<|ob 16 .eql 15 z0 .done) (.cond 16 (sR (o1 2 (.mv (.const (.bool false))) .done) .ret) .skip)))) (rG (ob 17 .add 10 z1<|om 10 17 .done)))))))) (sR (o1 2 (.mv (.const (.bool true))) .done) .ret)))⟩
def Qe{P}(hd:dec P f=some Lh):JB P f:=by
 intro d b bf cp T x0 x1 x2 x3 x4 hf fs h;have hlen:=h.BF;refine AG hd (Aea Z) ?_;show gwp P _ _ _ _ _;refine Ad<|Ae Z<|Aa<|Ag<|Ad<|Am Z<|AF Z<|Ai Z<|Ah Z (Al 0 Z Z)<|AI Z<|Ab Z<|Aa<|Ax<|Dd (α:=Nat) (fun i=>[(8,.slice (some ⟨bf,0,none⟩) fs.length cp),(9,vZ fs.length),(10,vZ i)]) (fun _=>[bx b T [x0,.slice (some ⟨bf,0,none⟩) fs.length cp,x1,x2,x3,x4],hf])
  (fun i=>i≤fs.length∧Co (fs.take i)=true) (fun i=>fs.length - i) 0 ⟨Z,Z,Z,trivial⟩ Z ⟨by omega,by simp[Co]⟩ ?_
 rintro i ρ ⟨hi,hF⟩;by_cases e:i<fs.length
 ·obtain⟨b1,T1,l1,c1,cs,q1,rfl,hcl,hcs,hle,⟨a,n,c,rfl,hb⟩, -⟩:=As.at (by omega) h e;cases q1;refine Ad<|AB Z Z<|Aa<|Ag<|Aw Z (by omega)<|Ak<|Ag<|Ax<|Ad<|BD _ Z Z Z (by omega)<|Lq _ 1 Z Z hcl hcs ?_;(apply BP;intro _ _);refine EV 0 Z Z Z Z Z Z ?_;by_cases hp:fs[i].pins=0
  ·refine Aa<|Ad<|Ai Z<|Ah Z (Al 0 Z Z)<|AN Z Z<|Aa<|Aw Z (by omega)<|Ad<|Ae Z<|Aa<|Ap<|BO Z (L':=[_,_]) (Afd _ _) ⟨?_,Z,Z⟩;rw[VD e hp];rfl
  ·refine Aa<|Ad<|Ai Z<|Ah Z (Al 0 Z Z)<|BS d [_,_] (Vs.drop (Afd _ _)) ?_;(refine AN Z Z<|Aa<|Ar Z (by omega)<|Ak<|AE<|AM Z Z (by omega) (by omega)<|Ab Z<|Aa ?_);refine⟨i+1,by omega,⟨Z,Z,Z,trivial⟩,Z,Z,e,?_⟩
   rw[Aes e];unfold Co at hF⊢;rw[List.all_append,hF];simp[hp]
 ·(refine Ad<|AB Z Z<|Aa<|Ag<|Ar Z (by omega)<|Bd<|Ad<|Ae Z<|Aa<|Ap ?_);rw[Afu (by omega)] at hF;rw[hF];exact K4 Z (Aeb _)
def Lj(P:Program)(f:FuncId):Prop:=∀{d}{c:CD}{dv cv L},Ca d c dv cv L→(∀f∈c.fr,f.pins≤4611686018427387904)→
 AA P f [cv] d L (Ret fun r d' L'=>d'=d∧(Co c.fr=true→r=.tuple #[vZ 0,.bool false]∧L'=L)∧
  (Co c.fr=false→r=.tuple #[vZ (Cx (Dx c.fr c.hand+1) c.fr c.hand).2.2,.bool true]∧Ca d {c with fr:=(Cx (Dx c.fr c.hand+1) c.fr c.hand).1,hand:=(Cx (Dx c.fr c.hand+1) c.fr c.hand).2.1} dv cv L'))
def JJ{l:List Fr}{h:Nat}(hh:h<l.length):l.getD h fz=l[h]:=by rw[Aee,Aed hh];rfl
def LR(a0:Nat):A0:=⟨47,[(.tmp 2),(.tmp 3)],(sR (o1 2 (.mv z0)<|o1 3 (.mv (.const (.bool false))) .done) (.seq (sR (om 6 0<|oc 7 a0 [6] .done) (.cond 7 (sR (o1 2 (.mv z0)<|o1 3 (.mv (.const (.bool false))) .done) .ret) .skip)) (.block 0 (.loop (.block 1 (sR (om 8 0<|o1 9 (.nilc 8)<|oj 10 3 9<|ol 11 10<|om 4 11 .done) (.seq (.reg true (pm 12 0<|pm 13 0<|p1 14 (.nilc 13)<|p1 15 (.fld 3 14)<|pm 18 0<|p1 19 (.nilc 18)<|p1 20 (.fld 1 19) (.alt ⟨(some 16),none,(.ld none 15)⟩ (p1 17 (.bin .add 16 z1) (ol 21 20 (p1 22 (.len 21) (p1 23 (.bin .rem 17 22) (p1 24 (.nilc 12) (p1 25 (.fld 3 24) (o0 (.st 1 25 23) .done))))))) (ol 21 20 (p1 22 (.len 21) (ol 16 15 (p1 17 (.bin .add 16 z1) (p1 23 (.bin .rem 17 22) (p1 24 (.nilc 12) (p1 25 (.fld 3 24) (o0 (.st 1 25 23) .done))))))))))) (sR (om 26 0<|o1 27 (.nilc 26)<|oj 28 1 27<|ol 29 28<|om 30 4<|oI 31 5 29 30<|om 5 31 .done) (.block 2 (sR (om 34 5<|o1 35 (.nilc 34)<|oj 36 2 35<|ol 37 36<|ob 38 .gtr 37 z0<|om 33 38 .done) (.cond 33 .skip (sR (om 40 5<|o1 41 (.nilc 40)<|oj 42 3 41<|ol 43 42<|om 39 43 .done) (.cond 39 (rG (om 44 5<|o1 45 (.nilc 44)<|oj 46 3 45<|o0 (.st 1 46 (.const (.bool false))) .done)) (sR (om 32 4<|om 2 32<|o1 3 (.mv (.const (.bool true))) .done) .ret))))))))))))))⟩
def Sp{P}(hd:dec P f=some (LR f1))(h1:JB P f1):Lj P f:=by
 intro d c dv cv L h hpb;obtain⟨b,T,bf,cp,cb,hf,s,r,bd,rfl,rfl,rfl,hg,hl1,hl2,hh,hfr⟩:=h;refine AG hd (Aea Z) ?_;show gwp P _ _ _ _ _;refine Ad<|Ab Z<|Ae Z<|Aa<|Ag<|Ad<|Am Z<|CR (A:=[_,_]) (B:=[_]) Z Z (h1 hg) ?_;cases hp:Co c.fr with
 |true=>
  (refine Aa<|Bc Z<|Ad<|Ab Z<|Ae Z<|Aa<|Ap ?_)
  exact Cw Z Z (Aeb _) ⟨Z,fun _=>⟨Z,Z⟩,fun q=>by cases q⟩
 |false=>
  (refine Aa<|AS Z<|Ak<|Ax ?_)
  refine B8 (α:=List Fr×Nat×Ac) (fun x=>[(0,pZ b)])
   (fun x d' L'=>d'=d∧x.1.length=c.fr.length∧x.2.1<c.fr.length∧Co x.1=false∧(∀f∈x.1,f.pins≤4611686018427387904)∧Cx (Dx x.1 x.2.1+1) x.1 x.2.1=Cx (Dx c.fr c.hand+1) c.fr c.hand∧
    L'=[bx b T [pZ bd,.slice (some ⟨bf,0,none⟩) c.fr.length cp,.chan (some cb),vZ x.2.1,vZ (wr c.hits),vZ (wr c.miss)],x.2.2,sg cb (.chan c.fr.length (c.free.map fun i:Nat=>Value.int .i64 i).toArray false s r false)]∧
    As 5 RFr d (.slice (some ⟨bf,0,none⟩) c.fr.length cp) x.1 x.2.2) (fun x=>Dx x.1 x.2.1) (c.fr,c.hand,hf) ⟨Z,trivial⟩ ⟨Z,Z,hh,hp,hpb,Z,Z,hg⟩ ?_
  rintro⟨fs,hand,hf'⟩ ρ d' L' ⟨rfl,hlen,hhand,hpin,hpb',hsw,rfl,hg'⟩
  simp only at hlen hhand hpin hpb' hsw hg'⊢
  rw[←hlen] at hg'
  obtain⟨b1,T1,l1,c1,cs,q1,rfl,hcl,hcs,hle,⟨a,n,c',rfl,hb⟩,hset⟩:=As.at (by omega) hg' (show hand<fs.length by omega)
  cases q1
  have c2:=hcs 2 _ Z
  have c3:=hcs 3 _ Z
  have hgd:fs.getD hand fz=fs[hand]:=JJ (by omega)
  (refine Ax<|Ad ?_)
  (refine Am Z<|AF Z<|Ai Z<|Ah Z (Al 0 Z Z)<|Ab Z<|Aa ?_)
  refine Gw (fun ρ d2 L'=>BG ρ [(0,pZ b),(4,vZ hand)]∧d2=d'∧L'=[bx b T [pZ bd,.slice (some ⟨bf,0,none⟩) c.fr.length cp,.chan (some cb),vZ (CH fs hand:Nat),vZ (wr c.hits),vZ (wr c.miss)],bx bf T1 l1,sg cb (.chan c.fr.length (c.free.map fun i:Nat=>Value.int .i64 i).toArray false s r false)]) ?_ ?_
  ·refine Bw [] _ Z ?_
   have en:((hand:Int)+1) % (c.fr.length:Int)=(CH fs hand:Nat):=by unfold CH;rw[hlen];simp
   (refine Am Z<|Am Z<|AF Z<|Ai Z<|Am Z<|AF Z<|Ai Z ?_)
   refine EP ?_ ?_
   ·(refine Ah Z (Al 0 Z Z)<|AM Z Z (by omega) (by omega)<|Ah Z (Al 0 Z Z)<|AI Z<|YB Z Z (by omega) (by omega)<|AF Z<|Ai Z ?_)
    refine A7 0 [pZ bd,.slice (some ⟨bf,0,none⟩) c.fr.length cp,.chan (some cb),vZ (CH fs hand:Nat),vZ (wr c.hits),vZ (wr c.miss)] Z Z Z Z (Aea Z) Z (by rw[←en];rfl) ?_
    exact Aa ⟨⟨Z,Z,trivial⟩,Z,Z⟩
   ·(refine Ah Z (Al 0 Z Z)<|AI Z<|Ah Z (Al 0 Z Z)<|AM Z Z (by omega) (by omega)<|YB Z Z (by omega) (by omega)<|AF Z<|Ai Z ?_)
    refine A7 0 [pZ bd,.slice (some ⟨bf,0,none⟩) c.fr.length cp,.chan (some cb),vZ (CH fs hand:Nat),vZ (wr c.hits),vZ (wr c.miss)] Z Z Z Z (Aea Z) Z (by rw[←en];rfl) ?_
    exact Aa ⟨⟨Z,Z,trivial⟩,Z,Z⟩
  ·rintro ρ d2 L2 ⟨hs2,rfl,rfl⟩
   refine C1 _ hs2 ?_
   by_cases hp0:fs[hand].pins=0
   ·cases hla:fs[hand].late with
    |false=>
     rw[hla] at c3
     have ht:Bu fs hand=true:=by unfold Bu;rw[hgd,hp0,hla];rfl
     (refine Ad<|Am Z<|AF Z<|Ai Z<|Ah Z (Al 0 Z Z)<|Ab Z<|BD _ Z Z Z (by omega)<|Am Z<|Aa<|Ax<|Ad<|Am Z<|AF Z<|Ai Z<|Ah Z (Al 1 Z (by assumption))<|Bx Z Z<|Ae Z<|Aa<|Ar Z (by omega)<|Ad<|Am Z<|AF Z<|Ai Z<|Ah Z (Al 1 Z (by assumption))<|Ae Z<|Aa<|AS Z<|Ad<|Ab Z<|Ab Z<|Ae Z<|Aa<|Ap ?_)
     have hres:Cx (Dx c.fr c.hand+1) c.fr c.hand=(fs,CH fs hand,hand):=by rw[←hsw,Cx,ht];rfl
     rw[hres]
     refine Cw Z Z (Aeb _) ⟨Z,(fun q=>nomatch q),fun _=>⟨Z,?_⟩⟩
     refine⟨b,T,bf,cp,cb,_,s,r,bd,Z,Z,?_,hg',by simp only;omega,by simp only;omega,Ahp _ (by omega),by rw[hlen];exact hfr⟩
     simp only[hlen]
    |true=>
     rw[hla] at c3
     have ht:Bu fs hand=false:=by unfold Bu;rw[hgd,hp0,hla];rfl
     have hpass:DO fs hand=fs.set hand {fs[hand] with late:=false}:=by rw[DO,hgd,if_pos hp0]
     have hg2:=hset [.bool fs[hand].held,vZ fs[hand].sec,vZ fs[hand].pins,.bool false,.slice a n c'] {fs[hand] with late:=false} Z ⟨a,n,c',Z,hb⟩
     rw[←hpass] at hg2
     (refine Ad<|Am Z<|AF Z<|Ai Z<|Ah Z (Al 0 Z Z)<|Ab Z<|BD _ Z Z Z (by omega)<|Am Z<|Aa<|Ax<|Ad<|Am Z<|AF Z<|Ai Z<|Ah Z (Al 1 Z (by assumption))<|Bx Z Z<|Ae Z<|Aa<|Ar Z (by omega)<|Ad<|Am Z<|AF Z<|Ai Z<|Ah Z (Al 1 Z (by assumption))<|Ae Z<|Aa<|Bc Z<|AE<|Am Z<|AF Z<|Ai Z ?_)
     refine A7 1 _ Z Z Z Z (by omega) Z (Ie (cs:=[.bool fs[hand].held,vZ fs[hand].sec,vZ fs[hand].pins,.bool true,.slice a n c']) (fun j u hu=>hcs j u (by rw[hla];exact hu)) (by simp) (by simp;omega)) ?_
     (apply Aa)
     refine⟨(DO fs hand,CH fs hand,_),HT (by omega) hpin ht,⟨Z,trivial⟩,Z,by rw[Fv];exact hlen,by simp only;rw[←hlen];exact Ahp _ (by omega),by rw[HA];exact hpin,?_,(Qk (by omega) hpin ht).trans hsw,Z,by simp only;rw[←hlen];exact hg2⟩
     intro f hf
     rw[hpass] at hf
     rcases List.mem_or_eq_of_mem_set hf with hf|rfl
     ·exact hpb' f hf
     ·simp only;omega
   ·have ht:Bu fs hand=false:=by unfold Bu;rw[hgd];simp[hp0]
    have hpass:DO fs hand=fs:=by rw[DO,hgd,if_neg hp0]
    (refine Ad<|Am Z<|AF Z<|Ai Z<|Ah Z (Al 0 Z Z)<|Ab Z<|BD _ Z Z Z (by omega)<|Am Z<|Aa<|Ax<|Ad<|Am Z<|AF Z<|Ai Z<|Ah Z (Al 1 Z (by assumption))<|Bx Z Z<|Ae Z<|Aa<|Aw Z (by omega)<|Ak ?_)
    have h1:=HT (by omega) hpin ht
    have h2:=(Qk (by omega) hpin ht).trans hsw
    rw[hpass] at h1 h2
    exact⟨(fs,CH fs hand,_),h1,⟨Z,trivial⟩,Z,hlen,by simp only;rw[←hlen];exact Ahp _ (by omega),hpin,hpb',h2,Z,by simp only;rw[←hlen];exact hg'⟩
end
def AdH(o:Option Nat):Value:=match o with|some i=>.tuple #[vZ i,.bool true]|none=>.tuple #[vZ 0,.bool false]
def NQ(P:Program)(f:FuncId):Prop:=∀{d}{c:CD}{dv cv L},Ca d c dv cv L→MP c 4611686018427387904→
 AA P f [cv] d L (Ret fun r d' L'=>d'=d∧r=AdH (Fa c).2∧Ca d (Fa c).1 dv cv L')
def MS(a0:Nat):GW:=(.mk 18 [(.tmp 2),(.tmp 3)] (.seq (.g (rG (o1 2 (.mv z0)<|o1 3 (.mv (.const (.bool false))) .done))) (.seq (.g (rG (om 5 0<|o1 6 (.nilc 5)<|oj 7 2 6<|ol 8 7 .done))) (.seq (.sel .done (some 9) 8 (vZ 0) (oe 10 9 0<|ob 11 .eql 10 z0 .done)) (.g (.block 0 (.cond 11 (sR (oe 16 9 2<|om 4 16 .done) (sR (om 17 4<|om 2 17<|o1 3 (.mv (.const (.bool true))) .done) .ret)) (sR (om 12 0<|oc 13 a0 [12]<|oe 14 13 0<|oe 15 13 1<|om 2 14<|om 3 15 .done) .ret))))))))
def TY(hd:FL false false P f=some (MS f1))(h1:Lj P f1):NQ P f:=by
 intro d c dv cv L h hpb;have h0:=h;obtain⟨b,T,bf,cp,cb,hf,s,r,bd,rfl,rfl,rfl,hg,hl1,hl2,hh,hfr⟩:=h;refine ER hd (Aea Z) ?_;show xwp P _ _ _ _ _;(apply BU;apply x_g;apply AE;apply Ab;rfl;apply Ae;rfl;apply Aa;apply BU;apply x_g;apply AE;apply Am;rfl;apply AF;rfl;apply Ai;rfl;apply Ah;rfl;exact Al 0 Z Z;apply Aa;apply BU;apply Adt;apply Aa);have hcase:c.free=[]∨∃i rest,c.free=i::rest:=by cases c.free with|nil=>exact .inl Z|cons i r=>exact .inr ⟨i,r,Z⟩
 rcases hcase with hfe|⟨i,rest,hfe⟩
 ·refine ZS 2 Z (by rw[hfe];rfl) ?_;(refine Ao Z Z<|AN Z Z<|Aa ?_;apply x_g;refine Ax<|Ar Z (by omega)<|Ad<|Am Z ?_);refine DY (B:=[]) Z Z (h1 h0 hpb) (fun u d' L' _ ⟨e1,e2,e3⟩=>?_);subst e1;cases hp:Co c.fr with
  |true=>
   obtain⟨rfl,rfl⟩:=e2 hp
   (refine Ao Z Z<|Ao Z Z<|Ab Z<|Ae Z<|Aa<|Ap ?_)
   have hr:Fa c=(c,none):=by unfold Fa;rw[hfe];simp only[hp,if_true]
   rw[hr]
   exact Cw Z Z (Aeb _) ⟨Z,Z,h0⟩
  |false=>
   obtain⟨rfl,hc⟩:=e3 hp
   (refine Ao Z Z<|Ao Z Z<|Ab Z<|Ae Z<|Aa<|Ap ?_)
   have hr:Fa c=({c with fr:=(Cx (Dx c.fr c.hand+1) c.fr c.hand).1,hand:=(Cx (Dx c.fr c.hand+1) c.fr c.hand).2.1},some (Cx (Dx c.fr c.hand+1) c.fr c.hand).2.2):=by
    unfold Fa;rw[hfe];simp only[hp,Aeh,if_false]
   rw[hr]
   exact Cw Z Z (Aeb _) ⟨Z,Z,by rw[Afh];exact hc⟩
 ·refine ZH (v:=vZ i) (buf:=rest.map fun i:Nat=>Value.int .i64 i) 2 Z (by rw[hfe];rfl) ?_;(refine Ao Z Z<|AN Z Z<|Aa ?_;apply x_g;refine Ax<|Aw Z (by omega)<|Ad<|Ao Z Z<|Ab Z<|Aa<|Ad<|Ab Z<|Ab Z<|Ae Z<|Aa<|Ap ?_);have hr:Fa c=({c with free:=rest},some i):=by unfold Fa;rw[hfe]
  rw[hr];exact Cw Z Z (Aeb _) ⟨Z,Z,b,T,bf,cp,cb,hf,s,r+1,bd,Z,Z,Z,hg,hl1,hl2,hh,fun j hj=>hfr j (by rw[hfe];exact Aev _ hj)⟩
def Acw(d:Ac)(r:Value)(o:Option Sec):Prop:=match o with|some b=>∃u,r=.tuple #[u,vZ 0]∧AJ d u b|none=>r=.tuple #[nV,vZ 180]
def J2(P:Program)(f:FuncId):Prop:=∀{d}{c:CD}{D:EK}{dv cv LC LD}{k:Nat},Ca d c dv cv LC→Dv d D dv LD→MP c 4611686018427387904→k<D.syn.length→
 AA P f [cv,vZ k] d (LC++LD) (Ret fun r d' L'=>∃LC' LD',L'=LC'++LD'∧Ca d' (E7 (D.cur k) c k).1 dv cv LC'∧Dv d' D dv LD'∧Acw d' r (E7 (D.cur k) c k).2)
def NY(a0 a1 a2 a3 a4:Nat):GW:=(.mk 108 [(.tmp 4),(.tmp 5)] (.seq (.g (rG (o1 4 (.mv nS)<|o1 5 (.mv z0) .done))) (.seq (.g (.block 0 (sR (om 13 0<|oc 14 a0 [13]<|om 12 14 .done) (.cond 12 (sR (o1 4 (.mv nS)<|o1 5 (.mv z1) .done) .ret) (sR (om 16 1<|ob 17 .lss 16 z0<|om 18 17<|gF 19 18 1<|gF 20 18 0<|oF 21 18 (.nilc 20)<|oF 22 18 (.fld 0 21)<|oF 23 18 (.ld none 22)<|oF 24 18 (.call a1 [23])<|oF 25 18 (.bin .geq 19 24)<|o1 26 (.pick 18 (.const (.bool true)) 25)<|om 15 26 .done) (.cond 15 (sR (o1 4 (.mv nS)<|o1 5 (.mv (kZ 4)) .done) .ret) .skip)))))) (.seq (.g (sR (om 28 0<|om 29 1<|oc 30 a2 [28,29]<|om 27 30<|oe 31 27 0<|oe 32 27 1<|om 6 31<|om 7 32 .done) (sR (om 33 6<|o1 34 (.eqp true 33 (.const (.pointer none))) .done) (.cond 34 (sR (om 35 6<|o1 36 (.nilc 35)<|oj 37 2 36<|ol 38 37<|ob 39 .add 38 z1<|o1 40 (.nilc 35)<|oj 41 2 40<|o0 (.st 1 41 39) .done) (sR (om 42 6<|o1 43 (.nilc 42)<|oj 44 3 43<|o0 (.st 1 44 (.const (.bool true))) .done) (sR (om 45 0<|o1 46 (.nilc 45)<|oj 47 4 46<|ol 48 47<|ob 49 .add 48 z1<|o1 50 (.nilc 45)<|oj 51 4 50<|o0 (.st 1 51 49) .done) (sR (o1 52 (.bsl 0 1 [(.int .u8 0)] [])<|om 53 6<|o1 54 (.nilc 53)<|oj 55 4 54<|ol 56 55<|o1 57 (.app 1 1 [(.int .u8 0)] 52 56)<|om 4 57<|o1 5 (.mv z0) .done) .ret)))) .skip)))) (.seq (.g (rG (om 59 0<|oc 60 a3 [59]<|om 58 60<|oe 61 58 0<|oe 62 58 1<|om 8 61<|om 9 62 .done))) (.seq (.g (sR (om 63 9<|o1 64 (.un .not 63) .done) (.cond 64 (sR (o1 4 (.mv nS)<|o1 5 (.mv (kZ 180)) .done) .ret) .skip))) (.seq (.g (rG (om 66 0<|o1 67 (.nilc 66)<|oj 68 0 67<|ol 69 68<|om 70 1<|oc 71 a4 [69,70]<|om 65 71<|oe 72 65 0<|oe 73 65 1<|om 10 72<|om 11 73 .done))) (.seq (.seq (.g (rG (om 74 11<|ob 75 .neq 74 z0 .done))) (.cond 75 (.seq (.g (rG (om 76 0<|o1 77 (.nilc 76)<|oj 78 1 77<|ol 79 78<|om 80 8<|o1 81 (.bld [(0,1),(1,1),(2,1),(3,1),(4,1)] [(.bool false),(vZ 0),(vZ 0),(.bool false),nV] [])<|oI 82 5 79 80<|o0 (.st 5 82 81) .done))) (.seq (.snd (om 83 0<|o1 84 (.nilc 83)<|oj 85 2 84<|ol 86 85<|om 87 8 .done) none 86 87 .done) (.g (sR (om 88 11<|o1 4 (.mv nS)<|om 5 88 .done) .ret)))) (.g .skip))) (.g (sR (om 89 0<|o1 90 (.nilc 89)<|oj 91 1 90<|ol 92 91<|om 93 8<|om 94 1<|om 95 10<|o1 96 (.bld [(0,1),(1,1),(2,1),(3,1),(4,1)] [(.bool false),(vZ 0),(vZ 0),(.bool false),nV] [(0,(.const (.bool true))),(1,94),(2,z1),(3,(.const (.bool true))),(4,95)])<|oI 97 5 92 93<|o0 (.st 5 97 96) .done) (sR (om 98 0<|o1 99 (.nilc 98)<|oj 100 5 99<|ol 101 100<|ob 102 .add 101 z1<|o1 103 (.nilc 98)<|oj 104 5 103<|o0 (.st 1 104 102) .done) (sR (o1 105 (.bsl 0 1 [(.int .u8 0)] [])<|om 106 10<|o1 107 (.app 1 1 [(.int .u8 0)] 105 106)<|om 4 107<|o1 5 (.mv z0) .done) .ret))))))))))))
set_option maxHeartbeats 1000000 in
def WN{f2 f3 f4 f5}(hd:FL false false P f=some (NY f1 f2 f3 f4 f5))(h1:Hm P f1)(h2:Hf P f2)(h3:IJ P f3)(h4:NQ P f4)(h5:NL P f5):J2 P f:=by
 intro d c D dv cv LC LD k h hD hpb hk;have h0:=h;obtain⟨b,T,bf,cp,cb,hf,s,r,bd,rfl,rfl,rfl,hg,hl1,hl2,hh,hfr⟩:=h;refine ER hd (Aea Z) ?_;show xwp P _ _ _ _ _;(apply BU;apply x_g;apply AE;apply Aj;rfl;apply Ab;rfl;apply Aa;apply BU;apply x_g;apply Ax;apply Ag;apply AE;apply Am;rfl);refine CR (A:=[_]) (B:=_::_::LD) Z Z h1 ?_;refine Ae Z<|Aa<|AS Z<|Ad<|Ab Z<|AB Z Z<|Ae Z<|A3 Z (by omega)<|Af Z<|Ab Z<|Af Z<|Am Z<|Af Z<|AF Z<|Af Z<|Ai Z<|Af Z<|Ah Z (Al 0 Z Z)<|Af Z<|Nz (A:=LD) Aei Z (h2 hD) ?_;(refine Af Z<|Da Z Z<|Au Z Z<|Ae Z<|Aa<|Ar Z (by omega)<|Ak ?_;apply BU;apply x_g;refine Ad<|Am Z<|Ab Z ?_);refine CR (A:=[_,_]) (B:=_::LD) Z Z (h3 hg) ?_;cases hF:findF k c.fr with
 |some i=>
  obtain⟨hi,hheld,hsec⟩:=FB hF
  obtain⟨b1,T1,l1,c1,cs,q1,rfl,hcl,hcs,hle,⟨a,n,c',rfl,hb⟩,hset⟩:=As.at (by omega) hg hi
  cases q1
  have hpi:=hpb _ (Aey hi)
  have c2:=hcs 2 _ Z
  have hgd:c.fr.getD i fz=c.fr[i]:=JJ hi
  have hres:E7 (D.cur k) c k=({c with fr:=c.fr.set i {c.fr[i] with pins:=c.fr[i].pins+1,late:=true},hits:=c.hits+1},some c.fr[i].b):=by
   unfold E7;rw[hF];simp only[hgd]
  rw[hres]
  (refine AT Z<|Ao Z Z<|Ao Z Z<|Am Z<|Ab Z<|Aa<|Ad<|Am Z<|Cg Z Z<|Aa<|Bc Z<|Ad<|Am Z<|AF Z<|Ai Z<|Ah Z (Al 1 Z (by assumption))<|AM Z Z (by omega) (by omega)<|AF Z<|Ai Z ?_)
  refine A7 1 (patch l1 (i*5) [.bool c.fr[i].held,vZ c.fr[i].sec,vZ ((c.fr[i].pins:Int)+1),.bool c.fr[i].late,.slice a n c']) Z Z Z Z (by omega) Z (Ie hcs (by simp) (by simp;omega)) ?_
  (refine Aa<|Ad<|Am Z<|AF Z<|Ai Z ?_)
  refine A7 1 (patch l1 (i*5) [.bool c.fr[i].held,vZ c.fr[i].sec,vZ ((c.fr[i].pins:Int)+1),.bool true,.slice a n c']) Z Z Z Z (by rw[Bt (by simp;omega)];omega) Z (X6 (cs:=[.bool c.fr[i].held,vZ c.fr[i].sec,vZ ((c.fr[i].pins:Int)+1),.bool c.fr[i].late,.slice a n c']) (by simp) (by simp;omega)) ?_
  (refine Aa<|Ad<|Am Z<|AF Z<|Ai Z<|Ah Z (Al 0 Z Z) ?_)
  refine MM Z Z ?_
  (refine AF Z<|Ai Z ?_)
  refine A7 0 [pZ bd,.slice (some ⟨bf,0,none⟩) c.fr.length cp,.chan (some cb),vZ c.hand,vZ (wr (c.hits+1)),vZ (wr c.miss)] Z Z Z Z (Aea Z) Z Z ?_
  have c4:(patch l1 (i*5) [.bool c.fr[i].held,vZ c.fr[i].sec,vZ ((c.fr[i].pins:Int)+1),.bool true,.slice a n c'])[i*5+4]?=some (.slice a n c'):=UG (by simp;omega) Z
  (refine Aa<|Ad ?_)
  refine CZ (cs:=[]) (by simp) (by simp[Instr.fill,Bq]) (fun b3 T3=>?_)
  (refine AR<|AF Z<|Ai Z ?_)
  refine Ah Z (Al 2 Z c4) ?_
  have hbl:=hb.BF
  refine Fk (R:=AH) 0 Z Z (As.JR (R:=AH) (sz:=1)) Z (RSl.src hb ES (by omega) _) (by omega) (by simp;omega) (by simp;omega) (fun v' h' ho'=>?_)
  rw[Afi] at ho'
  (refine AR<|Ab Z<|Aa<|Ap ?_)
  have hg2:=hset [.bool c.fr[i].held,vZ c.fr[i].sec,vZ ((c.fr[i].pins:Int)+1),.bool true,.slice a n c'] {c.fr[i] with pins:=c.fr[i].pins+1,late:=true} Z ⟨a,n,c',Z,hb⟩
  refine A4 [v',vZ 0] ⟨Z,Z,trivial⟩ (d':=join d h') (L':=[bx b T [pZ bd,.slice (some ⟨bf,0,none⟩) c.fr.length cp,.chan (some cb),vZ c.hand,vZ (wr (c.hits+1)),vZ (wr c.miss)],
   bx bf T1 (patch l1 (i*5) [.bool c.fr[i].held,vZ c.fr[i].sec,vZ ((c.fr[i].pins:Int)+1),.bool true,.slice a n c']),sg cb (.chan c.fr.length (c.free.map fun i:Nat=>Value.int .i64 i).toArray false s r false)]++LD) Vs.freeze
   ⟨_,_,Z,?_,hD.mono (Le.Az _ _),v',Z,As.rsl (R:=AH) ho' AL (by omega) (Le.Az _ _) (Le.A6 _ _)⟩
  exact Ca.mk (by simp) (As.mono (R:=RFr) Nl hg2 (Le.Az _ _)) hl1 hl2 hh hfr
 |none=>
  (refine AT Z<|Ao Z Z<|Ao Z Z<|Am Z<|Ab Z<|Aa<|Ad<|Am Z<|PV Z Z<|Aa<|AS Z<|Ak ?_;apply BU;apply x_g;refine AE<|Am Z ?_)
  refine DY (A:=[_,_,_]) (B:=LD) Z Z (h4 h0 hpb) (fun u d' L' _ ⟨e1,e2,e3⟩=>?_)
  subst e1
  subst e2
  cases hr:Fa c with
  |mk c1 o=>
  rw[hr] at e3
  simp only at e3
  have e3':=e3
  obtain⟨b',T',bf',cp',cb',hf',s',r',bd',q1,q2,rfl,hg',hl1',hl2',hh',hfr'⟩:=e3
  cases q1;cases q2
  cases o with
  |none=>
   have hres:E7 (D.cur k) c k=(c1,none):=by unfold E7;rw[hF,hr]
   rw[hres]
   (refine AT Z<|Ao Z Z<|Ao Z Z<|Ab Z<|Ae Z<|Aa ?_;apply BU;apply x_g;refine Ad<|Ae Z<|Bn Z<|Aa<|Bc Z<|Ad<|Aj Z<|Ab Z<|Aa<|Ap ?_)
   exact Cw Z Z (Aeb _) ⟨_,_,Z,e3',hD,Z⟩
  |some i=>
   have hres:E7 (D.cur k) c k=({c1 with fr:=c1.fr.set i ⟨true,k,1,true,D.cur k⟩,miss:=c1.miss+1},some (D.cur k)):=by unfold E7;rw[hF,hr]
   rw[hres]
   have hi:=Xw hh hfr hr
   (refine AT Z<|Ao Z Z<|Ao Z Z<|Ab Z<|Ae Z<|Aa ?_;apply BU;apply x_g;refine Ad<|Ae Z<|Bn Z<|Aa<|AS Z<|Ak ?_;apply BU;apply x_g;refine AE<|Am Z<|AF Z<|Ai Z<|Ah Z (Al 0 Z Z)<|Ab Z ?_)
   refine Ro (A:=LD) Aei Z (h5 hD hk) (fun w d2 LD' hld ⟨u,e1,hu,hD'⟩=>⟨d2,[_,_,_]++LD',Vs.perm Aei,?_⟩)
   subst e1
   obtain⟨au,cu,rfl⟩:=RSl.val hu
   obtain⟨b1,T1,l1,x1,cs,q1,rfl,hcl,hcs,hle, -,hset⟩:=As.at (by omega) (As.mono (R:=RFr) Nl hg' hld) hi
   cases q1
   (refine AT Z<|Ao Z Z<|Ao Z Z<|Aj Z<|Ab Z<|Aa ?_;apply BU;apply BU;apply x_g;refine AE<|Ab Z<|AO Z Z<|Aa ?_;apply Abx;rfl;apply x_g;apply Ak;apply x_g;refine Ad<|Am Z<|AF Z<|Ai Z<|Ah Z (Al 0 Z Z)<|Ab Z<|Ab Z<|Aj Z<|BJ Z<|BD _ Z Z Z (by omega) ?_)
   refine Br (cs:=[.bool true,vZ k,vZ 1,.bool true,.slice au (D.cur k).length cu]) 1 Z Z Z Z hle Z ?_
   (refine Aa<|Ad<|Am Z<|AF Z<|Ai Z<|Ah Z (Al 0 Z Z) ?_)
   refine MM Z Z ?_
   (refine AF Z<|Ai Z ?_)
   refine A7 0 [pZ bd,.slice (some ⟨bf',0,none⟩) c1.fr.length cp',.chan (some cb'),vZ c1.hand,vZ (wr c1.hits),vZ (wr (c1.miss+1))] Z Z Z Z (Aea Z) Z Z ?_
   (refine Aa<|Ad ?_)
   refine CZ (cs:=[]) (by simp) (by simp[Instr.fill,Bq]) (fun b3 T3=>?_)
   (apply AR)
   have hbl:=hu.BF
   refine Fk (R:=AH) 0 Z Z (As.JR (R:=AH) (sz:=1)) Z (RSl.src hu ES (by omega) _) (by omega) (by simp;omega) (by simp;omega) (fun v' h' ho'=>?_)
   rw[Afi] at ho'
   (refine AR<|Ab Z<|Aa<|Ap ?_)
   refine A4 [v',vZ 0] ⟨Z,Z,trivial⟩ (d':=join d2 h') (L':=[bx b T' [pZ bd,.slice (some ⟨bf',0,none⟩) c1.fr.length cp',.chan (some cb'),vZ c1.hand,vZ (wr c1.hits),vZ (wr (c1.miss+1))],
    bx bf' T1 (patch l1 (i*5) [.bool true,vZ k,vZ 1,.bool true,.slice au (D.cur k).length cu]),sg cb' (.chan c1.fr.length (c1.free.map fun i:Nat=>Value.int .i64 i).toArray false s' r' false)]++LD') Vs.freeze
    ⟨_,_,Z,?_,hD'.mono (Le.Az _ _),v',Z,As.rsl (R:=AH) ho' AL (by omega) (Le.Az _ _) (Le.A6 _ _)⟩
   exact Ca.mk (by simp) (As.mono (R:=RFr) Nl (hset _ ⟨true,k,1,true,D.cur k⟩ Z ⟨au,_,cu,Z,hu⟩) (Le.Az _ _)) hl1' hl2' hh' hfr'
def Hq(P:Program)(f:FuncId):Prop:=∀{d}{c:CD}{dv cv L}{k:Nat},Ca d c dv cv L→MP c 4611686018427387904→
 AA P f [cv,vZ k] d L (Ret fun r d' L'=>d'=d∧r=vZ (Di c k).2∧Ca d (Di c k).1 dv cv L')
def LV(a0 a1:Nat):A0:=⟨31,[(.tmp 4)],(sR (o1 4 (.mv z0) .done) (.seq (sR (om 7 0<|oc 8 a0 [7] .done) (.cond 8 (sR (o1 4 (.mv z1) .done) .ret) .skip)) (sR (om 10 0<|om 11 1<|oc 12 a1 [10,11]<|om 9 12<|oe 13 9 0<|oe 14 9 1<|om 5 13<|om 6 14 .done) (.seq (.block 0 (sR (om 16 5<|o1 17 (.eqp false 16 (.const (.pointer none)))<|om 15 17 .done) (.cond 15 (sR (o1 4 (.mv (kZ 240)) .done) .ret) (sR (om 19 5<|o1 20 (.nilc 19)<|oj 21 2 20<|ol 22 21<|ob 23 .eql 22 z0<|om 18 23 .done) (.cond 18 (sR (o1 4 (.mv (kZ 180)) .done) .ret) .skip))))) (sR (om 24 5<|o1 25 (.nilc 24)<|oj 26 2 25<|ol 27 26<|ob 28 .sub 27 z1<|o1 29 (.nilc 24)<|oj 30 2 29<|o0 (.st 1 30 28) .done) (sR (o1 4 (.mv z0) .done) .ret))))))⟩
def RH{f2}(hd:dec P f=some (LV f1 f2))(h1:Hm P f1)(h2:IJ P f2):Hq P f:=by
 intro d c dv cv L k h hpb;have h0:=h;obtain⟨b,T,bf,cp,cb,hf,s,r,bd,rfl,rfl,rfl,hg,hl1,hl2,hh,hfr⟩:=h;refine AG hd (Aea Z) ?_;show gwp P _ _ _ _ _;refine Ad<|Ab Z<|Aa<|Ag<|Ad<|Am Z<|CR (A:=[_]) (B:=[_,_]) Z Z h1 ?_;refine Aa<|AS Z<|Ak<|Ad<|Am Z<|Ab Z<|CR (A:=[_,_]) (B:=[_]) Z Z (h2 hg) ?_;cases hF:findF k c.fr with
 |none=>
  (refine AT Z<|Ao Z Z<|Ao Z Z<|Am Z<|Ab Z<|Aa<|Ag<|Ax<|Ad<|Am Z<|PV Z Z<|Ae Z<|Aa<|Bc Z<|Ad<|Ab Z<|Aa<|Ap ?_)
  have hr:Di c k=(c,240):=by unfold Di;rw[hF]
  rw[hr]
  exact BO Z (Aeb _) ⟨Z,Z,h0⟩
 |some i=>
  obtain⟨hi,hheld,hsec⟩:=FB hF
  obtain⟨b1,T1,l1,c1,cs,q1,rfl,hcl,hcs,hle,⟨a,n,c',rfl,hb⟩,hset⟩:=As.at (by omega) hg hi
  cases q1
  have hpi:=hpb _ (Aey hi)
  have c2:=hcs 2 _ Z
  have hgd:c.fr.getD i fz=c.fr[i]:=JJ hi
  by_cases hp:c.fr[i].pins=0
  ·(refine AT Z<|Ao Z Z<|Ao Z Z<|Am Z<|Ab Z<|Aa<|Ag<|Ax<|Ad<|Am Z<|Cg Z Z<|Ae Z<|Aa<|AS Z<|Ad<|Am Z<|AF Z<|Ai Z<|Ah Z (Al 1 Z (by assumption))<|AN Z Z<|Ae Z<|Aa<|Aw Z (by omega)<|Ad<|Ab Z<|Aa<|Ap ?_)
   have hr:Di c k=(c,180):=by unfold Di;rw[hF];simp only[hgd];rw[if_pos hp]
   rw[hr]
   exact BO Z (Aeb _) ⟨Z,Z,h0⟩
  ·(refine AT Z<|Ao Z Z<|Ao Z Z<|Am Z<|Ab Z<|Aa<|Ag<|Ax<|Ad<|Am Z<|Cg Z Z<|Ae Z<|Aa<|AS Z<|Ad<|Am Z<|AF Z<|Ai Z<|Ah Z (Al 1 Z (by assumption))<|AN Z Z<|Ae Z<|Aa<|Ar Z (by omega)<|Ak<|Ad<|Am Z<|AF Z<|Ai Z<|Ah Z (Al 1 Z (by assumption))<|CV Z Z (by omega) (by omega)<|AF Z<|Ai Z ?_)
   refine A7 1 (patch l1 (i*5) [.bool c.fr[i].held,vZ c.fr[i].sec,vZ ((c.fr[i].pins:Int) - 1),.bool c.fr[i].late,.slice a n c']) Z Z Z Z (by omega) Z (Ie hcs (by simp) (by simp;omega)) ?_
   (refine Aa<|Ad<|Ab Z<|Aa<|Ap ?_)
   have hr:Di c k=({c with fr:=c.fr.set i {c.fr[i] with pins:=c.fr[i].pins - 1}},0):=by unfold Di;rw[hF];simp only[hgd];rw[if_neg hp]
   rw[hr]
   refine BO Z (Aeb _) ⟨Z,Z,?_⟩
   exact Ca.mk (by simp) (hset _ {c.fr[i] with pins:=c.fr[i].pins - 1} Z ⟨a,n,c',by simp only;rw[Int.ofNat_sub (by omega)];rfl,hb⟩) hl1 hl2 hh hfr
def GF(P:Program)(f:FuncId):Prop:=∀{d}{c:CD}{dv cv L}{k:Nat},Ca d c dv cv L→(∀i,findF k c.fr=some i→c.free.length<c.fr.length)→
 AA P f [cv,vZ k] d L (Ret fun r d' L'=>d'=d∧r=vZ (De c k).2∧Ca d (De c k).1 dv cv L')
def KS(a0 a1:Nat):GW:=(.mk 32 [(.tmp 4)] (.seq (.g (rG (o1 4 (.mv z0) .done))) (.seq (.g (sR (om 7 0<|oc 8 a0 [7] .done) (.cond 8 (sR (o1 4 (.mv z1) .done) .ret) .skip))) (.seq (.g (rG (om 10 0<|om 11 1<|oc 12 a1 [10,11]<|om 9 12<|oe 13 9 0<|oe 14 9 1<|om 5 13<|om 6 14 .done))) (.seq (.g (.block 0 (sR (om 16 5<|o1 17 (.eqp false 16 (.const (.pointer none)))<|om 15 17 .done) (.cond 15 (sR (o1 4 (.mv (kZ 240)) .done) .ret) (sR (om 19 5<|o1 20 (.nilc 19)<|oj 21 2 20<|ol 22 21<|ob 23 .gtr 22 z0<|om 18 23 .done) (.cond 18 (sR (o1 4 (.mv (kZ 180)) .done) .ret) .skip)))))) (.seq (.g (rG (om 24 5<|o1 25 (.bld [(0,1),(1,1),(2,1),(3,1),(4,1)] [(.bool false),(vZ 0),(vZ 0),(.bool false),nV] [])<|o1 26 (.nilc 24)<|o0 (.st 5 26 25) .done))) (.seq (.snd (om 27 0<|o1 28 (.nilc 27)<|oj 29 2 28<|ol 30 29<|om 31 6 .done) none 30 31 .done) (.g (sR (o1 4 (.mv z0) .done) .ret)))))))))
def Ql{f2}(hd:FL false false P f=some (KS f1 f2))(h1:Hm P f1)(h2:IJ P f2):GF P f:=by
 intro d c dv cv L k h hroom;have h0:=h;obtain⟨b,T,bf,cp,cb,hf,s,r,bd,rfl,rfl,rfl,hg,hl1,hl2,hh,hfr⟩:=h;refine ER hd (Aea Z) ?_;show xwp P _ _ _ _ _;(apply BU;apply x_g;apply AE;apply Ab;rfl;apply Aa;apply BU;apply x_g;apply Ag;apply AE;apply Am;rfl);refine CR (A:=[_]) (B:=[_,_]) Z Z h1 ?_;(refine Aa<|AS Z<|Ak ?_;apply BU;apply x_g;refine AE<|Am Z<|Ab Z ?_);refine CR (A:=[_,_]) (B:=[_]) Z Z (h2 hg) ?_;cases hF:findF k c.fr with
 |none=>
  (refine AT Z<|Ao Z Z<|Ao Z Z<|Am Z<|Ab Z<|Aa ?_;apply BU;apply x_g;refine Ax<|Ad<|Am Z<|PV Z Z<|Ae Z<|Aa<|Bc Z<|Ad<|Ab Z<|Aa<|Ap ?_)
  have hr:De c k=(c,240):=by unfold De;rw[hF]
  rw[hr]
  exact BO Z (Aeb _) ⟨Z,Z,h0⟩
 |some i=>
  obtain⟨hi,hheld,hsec⟩:=FB hF
  have hroom:=hroom i hF
  obtain⟨b1,T1,l1,c1,cs,q1,rfl,hcl,hcs,hle,⟨a,n,c',rfl,hb⟩,hset⟩:=As.at (by omega) hg hi
  cases q1
  have c2:=hcs 2 _ Z
  have hgd:c.fr.getD i fz=c.fr[i]:=JJ hi
  by_cases hp:c.fr[i].pins=0
  ·(refine AT Z<|Ao Z Z<|Ao Z Z<|Am Z<|Ab Z<|Aa ?_;apply BU;apply x_g;refine Ax<|Ad<|Am Z<|Cg Z Z<|Ae Z<|Aa<|AS Z<|Ad<|Am Z<|AF Z<|Ai Z<|Ah Z (Al 1 Z (by assumption))<|Bx Z Z<|Ae Z<|Aa<|Ar Z (by omega)<|Ak ?_;apply BU;apply x_g;refine AE<|Am Z<|BJ Z<|AF Z ?_)
   have hr:De c k=({c with fr:=c.fr.set i fz,free:=c.free++[i]},0):=by unfold De;rw[hF];simp only[hgd];rw[if_neg (by omega)]
   rw[hr]
   refine Br (cs:=[.bool false,vZ 0,vZ 0,.bool false,nV]) 1 Z Z Z Z hle Z ?_
   (apply Aa;apply BU;apply Abk;refine Am Z<|AF Z<|Ai Z<|Ah Z (Al 0 Z Z)<|Ab Z<|Aa ?_)
   refine YJ (cap:=c.fr.length) (buf:=c.free.map fun i:Nat=>Value.int .i64 i) (v:=vZ i) 2 Z Z (by rw[Afv];exact hroom) Z ?_
   (apply Aa;apply x_g;refine Ad<|Ab Z<|Aa<|Ap ?_)
   refine BO Z (Aeb _) ⟨Z,Z,?_⟩
   have:=Ca.mk (c:={c with fr:=c.fr.set i fz,free:=c.free++[i]}) (d:=d) (b:=b) (T:=T) (cb:=cb) (s:=s+1) (r:=r) (bd:=bd) (by simp) (hset _ fz Z ⟨none,0,0,Z,RSl.nil⟩) hl1 hl2 hh (fun j hj=>by
    rcases Aej.1 hj with hj|hj
    ·exact hfr j hj
    ·rw[Aew.1 hj];exact hi)
   simp only[Agj,Agw,List.map_nil] at this
   exact this
  ·(refine AT Z<|Ao Z Z<|Ao Z Z<|Am Z<|Ab Z<|Aa ?_;apply BU;apply x_g;refine Ax<|Ad<|Am Z<|Cg Z Z<|Ae Z<|Aa<|AS Z<|Ad<|Am Z<|AF Z<|Ai Z<|Ah Z (Al 1 Z (by assumption))<|Bx Z Z<|Ae Z<|Aa<|Aw Z (by omega)<|Ad<|Ab Z<|Aa<|Ap ?_)
   have hr:De c k=(c,180):=by unfold De;rw[hF];simp only[hgd];rw[if_pos (by omega)]
   rw[hr]
   exact BO Z (Aeb _) ⟨Z,Z,h0⟩
def IS(P:Program)(f:FuncId):Prop:=∀{d}{c:CD}{dv cv L},Ca d c dv cv L→(∀f∈c.fr,f.sec≤8192)→
 AA P f [cv] d L (Ret fun r d' L'=>L'=L∧DS d' r (Ed c))
def Mb(a0:Nat):A0:=⟨29,[(.tmp 2)],(sR (o1 2 (.mv nS) .done) (.seq (sR (om 6 0<|oc 7 a0 [6] .done) (.cond 7 (sR (o1 2 (.mv nS) .done) .ret) .skip)) (sR (o1 3 (.mv nS) .done) (.seq (sR (om 8 0<|o1 9 (.nilc 8)<|oj 10 1 9<|ol 11 10<|oL 12 11<|o1 13 (.mv z0) .done) (.block 0 (.loop (sR (ob 14 .lss 13 12 .done) (.seq (.cond 14 .skip (.exit 0)) (.seq (.block 1 (sR (oI 15 5 11 13<|o1 16 (.ld (some 5) 15)<|o1 5 (.alo (.agg #[(.bool false),(vZ 0),(vZ 0),(.bool false),nV]))<|o0 (.st 5 5 16) .done) (sR (oj 17 0 5<|ol 18 17 .done) (.cond 18 (rG (om 19 3<|oj 20 1 5<|ol 21 20<|o1 22 (.bsl 1 1 [(vZ 0)] [(0,21)])<|o1 23 (.app 1 8 [(vZ 0)] 19 22)<|om 3 23 .done)) (rG (om 24 3<|o1 25 (.bsl 1 1 [(vZ 0)] [(0,(kZ (-1)))])<|o1 26 (.app 1 8 [(vZ 0)] 24 25)<|om 3 26 .done)))))) (rG (ob 27 .add 13 z1<|om 13 27 .done)))))))) (sR (om 28 3<|om 2 28 .done) .ret)))))⟩
def UO(hd:dec P f=some (Mb f1))(h1:Hm P f1):IS P f:=by
 intro d c dv cv L h hsec;obtain⟨b,T,bf,cp,cb,hf,s,r,bd,rfl,rfl,rfl,hg,hl1,hl2,hh,hfr⟩:=h;refine AG hd (Aea Z) ?_;show gwp P _ _ _ _ _;refine Ad<|Aj Z<|Aa<|Ag<|Ad<|Am Z<|CR (A:=[_]) (B:=[_,_]) Z Z h1 ?_;refine F7 ⟨d,emp::[bx b T [pZ bd,.slice (some ⟨bf,0,none⟩) c.fr.length cp,.chan (some cb),vZ c.hand,vZ (wr c.hits),vZ (wr c.miss)],hf,sg cb (.chan c.fr.length (c.free.map fun i:Nat=>Value.int .i64 i).toArray false s r false)],Vs.emp,?_⟩;(refine AS Z<|Ak<|Ad<|Aj Z<|Aa<|Ag<|Ad<|Am Z<|AF Z<|Ai Z<|Ah Z (Al 1 Z Z)<|AI Z<|Ab Z<|Aa<|Ax ?_);have hlen:(Ed c).length=c.fr.length:=by simp[Ed]
 refine B8 (α:=Nat×Value×Ac) (fun x=>[(3,x.2.1),(11,.slice (some ⟨bf,0,none⟩) c.fr.length cp),(12,vZ c.fr.length),(13,vZ x.1)])
  (fun x d' L'=>d'=d∧x.1≤c.fr.length∧As 1 Bh d x.2.1 ((Ed c).take x.1) x.2.2∧L'=x.2.2::[bx b T [pZ bd,.slice (some ⟨bf,0,none⟩) c.fr.length cp,.chan (some cb),vZ c.hand,vZ (wr c.hits),vZ (wr c.miss)],hf,sg cb (.chan c.fr.length (c.free.map fun i:Nat=>Value.int .i64 i).toArray false s r false)])
  (fun x=>c.fr.length - x.1) (0,nV,emp) ⟨Z,Z,Z,Z,trivial⟩ ⟨Z,by omega,As.nil,Z⟩ ?_
 rintro⟨i,v,hv⟩ ρ d' L' ⟨rfl,hi,hrow,rfl⟩;simp only at hi hrow⊢;by_cases e:i<c.fr.length
 ·obtain⟨b1,T1,l1,c1,cs,q1,rfl,hcl,hcs,hle,⟨a,n,c',rfl,hb⟩,hset⟩:=As.at (by omega) hg e;cases q1;have hsi:=hsec _ (Aey e);have htl:((Ed c).take i).length=i:=by rw[Aer];omega
  have hnext:(Ed c).take (i+1)=(Ed c).take i++[if c.fr[i].held then(c.fr[i].sec:Int) else -1]:=by
   rw[Aes (by omega)];simp[Ed]
  refine Ad<|AB Z Z<|Aa<|Ag<|Aw Z (by omega)<|Ak<|Ag<|Ax<|Ad<|BD _ Z Z Z (by omega)<|Lq _ 2 Z Z hcl hcs ?_;(apply BP;intro _ _);refine EV 0 Z Z Z Z Z Z ?_;cases hh:c.fr[i].held with
  |true=>
   (refine Aa<|Ad<|Ai Z<|Ah Z (Al 0 Z Z)<|Aa<|Bc Z<|AE<|AR<|Ai Z<|Ah Z (Al 0 Z Z) ?_)
   refine Dq Z Z (fun b3 T3=>?_)
   refine Dj (R:=Bh) 1 Z Z hrow Z (As.D2 (x:=(c.fr[i].sec:Int)) Z ⟨Z,by omega,by omega⟩) DF (by omega) (by rw[htl];simp;omega) (by rw[htl];simp;omega) (fun v' h' ho'=>?_)
   refine BS d' (h'::[_,_,_]) (Vs.drop (Afd _ _)) ?_
   (refine AR<|Aa<|AE<|AM Z Z (by omega) (by omega)<|Ab Z<|Aa ?_)
   rw[hh] at hnext
   exact⟨(i+1,v',h'),by simp only;omega,⟨Z,Z,Z,Z,trivial⟩,Z,e,by simp only[hnext];exact ho',Z⟩
  |false=>
   (refine Aa<|Ad<|Ai Z<|Ah Z (Al 0 Z Z)<|Aa<|AS Z<|AE<|AR ?_)
   refine Dq Z Z (fun b3 T3=>?_)
   refine Dj (R:=Bh) 1 Z Z hrow Z (As.D2 (x:=(-1:Int)) Z ⟨Z,by omega,by omega⟩) DF (by omega) (by rw[htl];simp;omega) (by rw[htl];simp;omega) (fun v' h' ho'=>?_)
   refine BS d' (h'::[_,_,_]) (Vs.drop (Afd _ _)) ?_
   (refine AR<|Aa<|AE<|AM Z Z (by omega) (by omega)<|Ab Z<|Aa ?_)
   rw[hh] at hnext
   exact⟨(i+1,v',h'),by simp only;omega,⟨Z,Z,Z,Z,trivial⟩,Z,e,by simp only[hnext];exact ho',Z⟩
 ·(refine Ad<|AB Z Z<|Aa<|Ag<|Ar Z (by omega)<|Bd<|Ad<|AR<|AR<|Aa<|Ap ?_);rw[Afu (by omega)] at hrow;exact A4 [v] ⟨Z,trivial⟩ Vs.freeze ⟨Z,As.rsl (R:=Bh) hrow B6 (by omega) (Le.Az _ _) (Le.A6 _ _)⟩
def YS(P:Program)(f:FuncId):Prop:=∀{d}{c:CD}{dv cv L},Ca d c dv cv L→Du P f [cv] d L (vZ (wr c.hits))
def Tc(P:Program)(f:FuncId):Prop:=∀{d}{c:CD}{dv cv L},Ca d c dv cv L→Du P f [cv] d L (vZ (wr c.miss))
def Ik(P:Program)(f:FuncId):Prop:=∀{d}{D:EK}{dv LD}{n:Nat},Dv d D dv LD→1≤D.syn.length→1≤n→n≤64→
 AA P f [dv,vZ n] d LD (Ret fun r d' L'=>d'=d∧∃cv LC,r=.tuple #[cv,vZ 0]∧L'=LC++LD∧Ca d ⟨Aeu n fz,Afb n,0,0,0⟩ dv cv LC)
def Wf(a0:Nat):GW:=(.mk 37 [(.tmp 4),(.tmp 5)] (.seq (.g (rG (o1 4 (.mv (.const (.pointer none)))<|o1 5 (.mv z0) .done))) (.seq (.g (.block 0 (sR (om 9 0<|oc 10 a0 [9]<|ob 11 .eql 10 z0<|om 8 11 .done) (.cond 8 (sR (o1 4 (.mv (.const (.pointer none)))<|o1 5 (.mv z1) .done) .ret) (sR (om 13 1<|ob 14 .lss 13 z1<|om 15 14<|gF 16 15 1<|oF 17 15 (.bin .gtr 16 (kZ 64))<|o1 18 (.pick 15 (.const (.bool true)) 17)<|om 12 18 .done) (.cond 12 (sR (o1 4 (.mv (.const (.pointer none)))<|o1 5 (.mv z2) .done) .ret) .skip)))))) (.seq (.g (.reg true (pm 19 0<|pm 20 1<|pm 22 1 (.alt ⟨(some 21),none,(.mks 5 56 [(.bool false),(vZ 0),(vZ 0),(.bool false),nV] 20 20)⟩ (o1 23 (.mop (.mkc 8 22)) (p1 24 (.bld [(0,1),(1,1),(2,1),(3,1),(4,1),(5,1)] [(.pointer none),nV,(.chan none),(vZ 0),(vZ 0),(vZ 0)] [(0,19),(1,21),(2,23)]) (o1 25 (.box 24) (.bar (pm 6 25 .done))))) (o1 23 (.mop (.mkc 8 22)) (o1 21 (.mks 5 56 [(.bool false),(vZ 0),(vZ 0),(.bool false),nV] 20 20) (p1 24 (.bld [(0,1),(1,1),(2,1),(3,1),(4,1),(5,1)] [(.pointer none),nV,(.chan none),(vZ 0),(vZ 0),(vZ 0)] [(0,19),(1,21),(2,23)]) (o1 25 (.box 24) (.bar (pm 6 25 .done)))))))))) (.seq (.seq (.g (rG (om 26 1<|o1 27 (.mv z0) .done))) (.block 1 (.loop (.seq (.g (rG (ob 28 .lss 27 26 .done))) (.seq (.g (.cond 28 .skip (.exit 1))) (.seq (.block 2 (.seq (.g (rG (om 29 27<|om 7 29 .done))) (.snd (om 30 6<|o1 31 (.nilc 30)<|oj 32 2 31<|ol 33 32<|om 34 7 .done) none 33 34 .done))) (.g (rG (ob 35 .add 27 z1<|om 27 35 .done))))))))) (.g (sR (om 36 6<|om 4 36<|o1 5 (.mv z0) .done) .ret)))))))
def W6(hd:FL false false P f=some (Wf f1))(h1:Hf P f1):Ik P f:=by
 intro d D dv LD n hD hs hn1 hn2;have hD0:=hD;obtain⟨bd, -, -, -, -, -, -,rfl, -⟩:=hD;refine ER hd (Aea Z) ?_;show xwp P _ _ _ _ _;(apply BU;apply x_g;apply AE;apply Am;rfl;apply Ab;rfl;apply Aa;apply BU;apply x_g;apply Ax;apply Ag;apply AE;apply Am;rfl);refine Nz (A:=LD) (B:=[]) (by rw[Afh]) Z (h1 hD0) ?_;(refine AN Z Z<|Ae Z<|Aa<|Ar Z (by omega)<|Ad<|Ab Z<|AB Z Z<|Ae Z<|A3 Z (by omega)<|Af Z<|Ab Z<|Af Z<|Bx Z Z<|Au Z Z<|Ae Z<|Aa<|Ar Z (by omega)<|Ak ?_;apply BU;apply x_g);refine Adq (fun ρ d' L'=>d'=d∧∃b T bf Tf cb,BG ρ [(1,vZ n),(6,pZ b)]∧
  L'=[bx b T [pZ bd,.slice (some ⟨bf,0,none⟩) n n,.chan (some cb),vZ 0,vZ 0,vZ 0],bx bf Tf (Bq [.bool false,vZ 0,vZ 0,.bool false,nV] (n*5)),sg cb (.chan n #[] false 0 0 false)]++LD) ?_ ?_
 ·refine Bw [] _ Z ?_;refine Am Z<|Ab Z<|Ab Z<|EP ?_ ?_
  ·refine It Z Z (Aef n) (by omega) (by omega) (fun bf Tf=>?_);refine Abn Z (by omega) (by omega) (fun cb=>?_);refine BJ (cs:=[pZ bd,.slice (some ⟨bf,0,none⟩) n n,.chan (some cb),vZ 0,vZ 0,vZ 0]) Z ?_;refine Ck Z (fun b T=>?_);(refine Cd<|Am Z ?_);exact F7 ⟨d,_::_::_::LD,Vs.perm ((List.Perm.swap _ _ LD).cons _),Z,b,T,bf,Tf,cb,⟨Z,Z,trivial⟩,Z⟩
  ·refine Abn Z (by omega) (by omega) (fun cb=>?_);refine It Z Z (Aef n) (by omega) (by omega) (fun bf Tf=>?_);refine BJ (cs:=[pZ bd,.slice (some ⟨bf,0,none⟩) n n,.chan (some cb),vZ 0,vZ 0,vZ 0]) Z ?_;refine Ck Z (fun b T=>?_);(refine Cd<|Am Z ?_);exact F7 ⟨d,[_,_,_]++LD,Vs.refl _ _,Z,b,T,bf,Tf,cb,⟨Z,Z,trivial⟩,Z⟩
 ·rintro ρ d' L' ⟨rfl,b,T,bf,Tf,cb,hsl,rfl⟩;refine Q6 _ hsl ?_;(apply BU;apply BU;apply x_g;apply AE;apply Ab;rfl;apply Ab;rfl;apply Aa;apply GR);refine QU (α:=Nat) (fun i=>[(6,pZ b),(26,vZ n),(27,vZ i)])
   (fun i d2 L'=>d2=d'∧i≤n∧L'=[bx b T [pZ bd,.slice (some ⟨bf,0,none⟩) n n,.chan (some cb),vZ 0,vZ 0,vZ 0],bx bf Tf (Bq [.bool false,vZ 0,vZ 0,.bool false,nV] (n*5)),sg cb (.chan n ((Afb i).map fun i:Nat=>Value.int .i64 i).toArray false i 0 false)]++LD)
   (fun i=>n - i) 0 ⟨Z,Z,Z,trivial⟩ ⟨Z,by omega,Z⟩ ?_
  rintro i ρ d2 L2 ⟨rfl,hi,rfl⟩;by_cases e:i<n
  ·(apply BU;apply x_g;apply AE;apply AB;rfl;rfl;apply Aa;apply BU;apply x_g;refine Aw Z (by omega) ?_;apply Ak;apply BU;apply GR;apply BU;apply x_g;apply AE;apply Ab;rfl;apply Ab;rfl;apply Aa;apply Abk;apply Am;rfl;apply AF;rfl;apply Ai;rfl;apply Ah;rfl;exact Al 0 Z Z;apply Ab;rfl;apply Aa);refine YJ (cap:=n) (buf:=(Afb i).map fun i:Nat=>Value.int .i64 i) (v:=vZ i) 2 Z Z (by simpa using e) Z ?_;(apply Aa;apply x_g;refine AE<|AM Z Z (by omega) (by omega)<|Ab Z<|Aa ?_);refine⟨i+1,by omega,⟨Z,Z,Z,trivial⟩,Z,e,?_⟩
   rw[List.range_succ,Agj];rfl
  ·(apply BU;apply x_g;apply AE;apply AB;rfl;rfl;apply Aa;apply BU;apply x_g;refine Ar Z (by omega) ?_;apply Bd;apply x_g;apply Ag;apply AE;apply Am;rfl;apply Am;rfl;apply Ab;rfl;apply Aa;apply Ap);have ei:i=n:=by omega
   subst ei;refine Cw Z Z (Aeb _) ⟨Z,_,_,Z,Z,?_⟩;have hw0:wr 0=0:=Z;have:=Ca.mk (c:=⟨Aeu i fz,Afb i,0,0,0⟩) (d:=d2) (b:=b) (T:=T) (cb:=cb) (s:=i) (r:=0) (bd:=bd) (n:=i) (by simp) (As.zero (b:=bf) (T:=Tf) (R:=RFr) (x:=fz) Z (by omega) ⟨none,0,0,Z,RSl.nil⟩ (by omega)) hn1 hn2 hn1 (fun j hj=>by simpa using hj);exact this
end Go.Gk.Cch
end
section
namespace Go.Gk.Node
open Go Go.Gk
attribute [local irreducible] gwp gws
def DX{α}(R:Ac→List Value→α→Prop)(by_:Nat)(P:Program)(f:FuncId):Prop:=∀{d v}{xs:List α},RSl 1 R d v xs→xs.length*by_≤140737488355328→
 AA P f [v] d [] (Ret fun r d' L'=>d'=d∧∃h,L'=[h]∧As 1 R d r xs h)
def I5:A0:=⟨8,[(.tmp 2)],(sR (o1 2 (.mv nS) .done) (.seq (sR (om 3 0<|o1 4 (.eqs false 3 nS) .done) (.cond 4 (sR (o1 2 (.mv nS) .done) .ret) .skip)) (sR (o1 5 (.bsl 0 1 [(.int .u8 0)] [])<|om 6 0<|o1 7 (.app 1 1 [(.int .u8 0)] 5 6)<|om 2 7 .done) .ret)))⟩
def Jp{P f}(hd:dec P f=some I5):DX AH 1 P f:=by
 intro d v xs hv hb;have hv':=hv;have hxl:=RSl.BF hv;obtain⟨a,c,b,o,rfl,h2,h3,h4,h5,_⟩:=hv;refine AG hd (Aea Z) ?_;show gwp P _ _ _ _ _;cases a with
 |none=>
  have:xs=[]:=Ael (by have:=h4 Z;omega)
  subst this
  apply Ag;apply AE
  refine BS d [emp] Vs.emp ?_
  (refine Aj Z<|Aa<|Ag<|Ad<|Aj Z<|Ut Z Z<|Aa<|Bc Z<|Ad<|Aj Z<|Aa<|Ap ?_)
  exact BO (L':=[emp]) Z (Aeb _) ⟨Z,emp,Z,As.nil⟩
 |some a=>
  (refine Ad<|Aj Z<|Aa<|Ag<|Ad<|Aj Z<|TL Z Z<|Aa<|AS Z<|Ak<|Ad ?_)
  refine CZ (cs:=[]) (by omega) Z (fun b8 T8=>?_)
  (apply Aj;rfl)
  refine Fk 0 Z Z (As.JR (R:=AH) (sz:=1)) Z (RSl.src (R:=AH) (xs:=xs) hv' ES (by omega) _) (by omega) (by simp;omega) (by simp;omega) (fun v5 h5 hrow5=>?_)
  (refine AR<|Aa<|Ap ?_)
  exact BO (L':=[h5]) Z (Aeb _) ⟨Z,h5,Z,hrow5⟩
def JQ:A0:=⟨8,[(.tmp 2)],(sR (o1 2 (.mv nS) .done) (.seq (sR (om 3 0<|o1 4 (.eqs false 3 nS) .done) (.cond 4 (sR (o1 2 (.mv nS) .done) .ret) .skip)) (sR (o1 5 (.bsl 0 1 [(vZ 0)] [])<|om 6 0<|o1 7 (.app 1 8 [(vZ 0)] 5 6)<|om 2 7 .done) .ret)))⟩
def LQ{P f}(hd:dec P f=some JQ):DX Bh 8 P f:=by
 intro d v xs hv hb;have hv':=hv;have hxl:=RSl.BF hv;obtain⟨a,c,b,o,rfl,h2,h3,h4,h5,_⟩:=hv;refine AG hd (Aea Z) ?_;show gwp P _ _ _ _ _;cases a with
 |none=>
  have:xs=[]:=Ael (by have:=h4 Z;omega)
  subst this
  apply Ag;apply AE
  refine BS d [emp] Vs.emp ?_
  (refine Aj Z<|Aa<|Ag<|Ad<|Aj Z<|Ut Z Z<|Aa<|Bc Z<|Ad<|Aj Z<|Aa<|Ap ?_)
  exact BO (L':=[emp]) Z (Aeb _) ⟨Z,emp,Z,As.nil⟩
 |some a=>
  (refine Ad<|Aj Z<|Aa<|Ag<|Ad<|Aj Z<|TL Z Z<|Aa<|AS Z<|Ak<|Ad ?_)
  refine CZ (cs:=[]) (by omega) Z (fun b8 T8=>?_)
  (apply Aj;rfl)
  refine Fk 0 Z Z (As.JR (R:=Bh) (sz:=1)) Z (RSl.src (R:=Bh) (xs:=xs) hv' DF (by omega) _) (by omega) (by simp;omega) (by simp;omega) (fun v5 h5 hrow5=>?_)
  (refine AR<|Aa<|Ap ?_)
  exact BO (L':=[h5]) Z (Aeb _) ⟨Z,h5,Z,hrow5⟩
end Go.Gk.Node
end
section
namespace Go.Gk.Pgr
open Go Go.Gk Go.Gk.Dev Go.Gk.Cch Go.Gk.Node
attribute [local irreducible] gwp gws xwp
variable{d:Ac}{s:PD}
abbrev kI(k:Int):Value:=.int .i64 k
abbrev mpI(mb:Nat)(ms:List (Int×Value×Nat))(clk:Nat):Ac:=mp kI id mb ms clk
def Nt(d:Ac)(frm:Nat)(kinds:List Int)(fb:Nat→Sec)(ms:List (Int×Value×Nat)):Prop:=∀i,i<kinds.length→kinds.getD i 0=1→∃v,E0 ((frm+i:Nat):Int) ms=some v∧AJ d v (fb i)∧(fb i).length=256
def Nt.mono{d'}{frm:Nat}{kinds:List Int}{fb:Nat→Sec}{ms:List (Int×Value×Nat)}(h:Nt d frm kinds fb ms)(hl:Le d d'):Nt d' frm kinds fb ms:=fun i hi hk=>
 let ⟨v,h1,h2,h3⟩:=h i hi hk
 ⟨v,h1,h2.mono hl,h3⟩
def Pg(d:Ac)(s:PD)(dv pv:Value)(L:List Ac):Prop:=
 ∃b T cv bk cp hk mb ms clk c LC LD bd,pv=pZ b∧dv=pZ bd∧
  L=bx b T [dv,cv,vZ s.frm,.slice (some ⟨bk,0,none⟩) s.kinds.length cp,.map (some mb),vZ (wr s.round),vZ (wr s.tc)]::hk::mpI mb ms clk::(LC++LD)∧
  As 1 Bh d (.slice (some ⟨bk,0,none⟩) s.kinds.length cp) s.kinds hk∧Nt d s.frm s.kinds s.fb ms∧Ca d c dv cv LC∧Dv d ⟨s.syn,[]⟩ dv LD∧CK s c∧Good s
def Pg.mono{d' dv pv L}(h:Pg d s dv pv L)(hl:Le d d'):Pg d' s dv pv L:=
 let ⟨b,T,cv,bk,cp,hk,mb,ms,clk,c,LC,LD,bd,h1,h2,h3,h4,h5,h6,h7,h8,h9⟩:=h
 ⟨b,T,cv,bk,cp,hk,mb,ms,clk,c,LC,LD,bd,h1,h2,h3,As.mono (R:=Bh) B6 h4 hl,h5.mono hl,h6.mono hl,h7.mono hl,h8,h9⟩
def Pg.ptr{dv pv L}(h:Pg d s dv pv L):∃b,pv=pZ b:=let ⟨b,_,_,_,_,_,_,_,_,_,_,_,_,h1,_⟩:=h;⟨b,h1⟩
def Pg.EL{dv pv L}(h:Pg d s dv pv L):Good s:=let ⟨_,_,_,_,_,_,_,_,_,_,_,_,_,_,_,_,_,_,_,_,_,h9⟩:=h;h9
def Pg.mk{b:Nat}{T cv}{bk cp n:Nat}{hk}{mb:Nat}{ms:List (Int×Value×Nat)}{clk:Nat}{c:CD}{LC LD}{bd:Nat}(hn:s.kinds.length=n)
  (h4:As 1 Bh d (.slice (some ⟨bk,0,none⟩) n cp) s.kinds hk) (h5:Nt d s.frm s.kinds s.fb ms) (h6:Ca d c (pZ bd) cv LC) (h7:Dv d ⟨s.syn,[]⟩ (pZ bd) LD) (h8:CK s c) (h9:Good s):
  Pg d s (pZ bd) (pZ b) (bx b T [pZ bd,cv,vZ s.frm,.slice (some ⟨bk,0,none⟩) n cp,.map (some mb),vZ (wr s.round),vZ (wr s.tc)]::hk::mpI mb ms clk::(LC++LD)):=by
 subst hn
 exact⟨b,T,cv,bk,cp,hk,mb,ms,clk,c,LC,LD,bd,Z,Z,Z,h4,h5,h6,h7,h8,h9⟩
def EA(P:Program)(f:FuncId):Prop:=∀{d}{b bd:Nat}{T l},Du P f [pZ b] d [bx b T (.pointer (some ⟨bd,0,none⟩)::l)] (.bool false)
def Mo:A0:=⟨12,[(.tmp 2)],(sR (o1 2 (.mv (.const (.bool false))) .done) (sR (om 3 0<|o1 4 (.eqp false 3 (.const (.pointer none)))<|om 5 4<|gF 6 5 0<|oF 7 5 (.nilc 6)<|oF 8 5 (.fld 0 7)<|oF 9 5 (.ld none 8)<|oF 10 5 (.eqp false 9 (.const (.pointer none)))<|o1 11 (.pick 5 (.const (.bool true)) 10)<|om 2 11 .done) .ret))⟩
def UP{P f}(hd:dec P f=some Mo):EA P f:=by
 intro d b bd T l;refine AG hd (Aea Z) ?_;show gwp P _ _ _ _ _;(refine Ad<|Ae Z<|Aa<|Ad<|Am Z<|Cg Z Z<|Ae Z<|Af Z<|Am Z<|Af Z<|AF Z<|Af Z<|Ai Z<|Af Z<|Ah Z (Al 0 Z Z)<|Af Z<|Cg Z Z<|Au Z Z<|Ae Z<|Aa<|Ap ?_);exact K4 Z (Aeb _)
def HD(frm:Nat)(ks:List Int)(k:Int):Int:=if (frm:Int)≤k∧k<(frm:Int)+ks.length then ks.getD (k - frm).toNat 0 else -1
def I0(P:Program)(f:FuncId):Prop:=∀{d}{b bk cp frm:Nat}{T x0 x1 x4 x5 x6 hk}{ks:List Int}{k:Int},As 1 Bh d (.slice (some ⟨bk,0,none⟩) ks.length cp) ks hk→frm≤8192→
 Du P f [pZ b,vZ k] d [bx b T [x0,x1,vZ frm,.slice (some ⟨bk,0,none⟩) ks.length cp,x4,x5,x6],hk] (vZ (HD frm ks k))
def M3:A0:=⟨37,[(.tmp 4)],(sR (o1 4 (.mv z0) .done) (.seq (.seq (.reg true (pm 5 1<|pm 6 0<|p1 7 (.nilc 6)<|p1 8 (.fld 2 7)<|pl 9 8<|p1 10 (.bin .lss 5 9)<|pm 11 10 (.op true ⟨(some 12),(some (11,false)),(.mv 1)⟩ (.op true ⟨(some 13),(some (11,false)),(.mv 0)⟩ (.op true ⟨(some 14),(some (11,false)),(.nilc 13)⟩ (.op true ⟨(some 15),(some (11,false)),(.fld 2 14)⟩ (.op true ⟨(some 16),(some (11,false)),(.ld none 15)⟩ (.op true ⟨(some 17),(some (11,false)),(.mv 0)⟩ (.op true ⟨(some 18),(some (11,false)),(.nilc 17)⟩ (.op true ⟨(some 19),(some (11,false)),(.fld 3 18)⟩ (.op true ⟨(some 20),(some (11,false)),(.ld none 19)⟩ (.op true ⟨(some 21),(some (11,false)),(.len 20)⟩ (.op true ⟨(some 22),(some (11,false)),(.bin .add 16 21)⟩ (.op true ⟨(some 23),(some (11,false)),(.bin .geq 12 22)⟩ (p1 24 (.pick 11 (.const (.bool true)) 23) .done))))))))))))))) (.cond 24 (sR (o1 4 (.mv (kZ (-1))) .done) .ret) .skip)) (.seq (.reg true (pm 25 0<|p1 26 (.nilc 25)<|p1 27 (.fld 3 26)<|pl 28 27<|pm 29 1<|pm 30 0<|p1 31 (.nilc 30)<|p1 32 (.fld 2 31)<|pl 33 32<|p1 34 (.bin .sub 29 33)<|p1 35 (.idx 1 28 34)<|pl 36 35 (.bar (pm 4 36 .done)))) .ret)))⟩
def Xx{P f}(hd:dec P f=some M3):I0 P f:=by
 intro d b bk cp frm T x0 x1 x4 x5 x6 hk ks k hg hf;have hlen:=hg.BF;refine AG hd (Aea Z) ?_;show gwp P _ _ _ _ _;by_cases h1:k<frm
 ·(refine Ad<|Ab Z<|Aa<|Ag<|Ag<|Bv<|Ab Z<|Am Z<|AF Z<|Ai Z<|Ah Z (Al 0 Z Z)<|AB Z Z<|Ae Z<|A8 Z (by omega)<|An Z<|An Z<|An Z<|An Z<|An Z<|An Z<|An Z<|An Z<|An Z<|An Z<|An Z<|An Z<|Ay Z Z<|AZ<|Bc Z<|Ad<|Ab Z<|Aa<|Ap ?_);rw[show HD frm ks k= -1 by unfold HD;rw[if_neg (by omega)]];exact K4 Z (Aeb _)
 ·by_cases h2:k<(frm:Int)+ks.length
  ·obtain⟨m,hm⟩:∃m:Nat,k=(frm:Int)+m:=⟨(k - frm).toNat,by omega⟩
   subst hm;have hml:m<ks.length:=by omega
   obtain⟨b1,T1,l1,c1,cs,q1,rfl,hcl,hcs,hle,⟨rfl, -, -⟩, -⟩:=As.at (by omega) hg hml;cases q1;have c0:=hcs 0 _ Z;rw[show HD frm ks ((frm:Int)+m)=ks[m] by
    unfold HD;rw[if_pos (by omega),show((frm:Int)+m - frm).toNat=m by omega,Aee,Aed hml];rfl]
   refine Ad<|Ab Z<|Aa<|Ag<|Ag<|Bv<|Ab Z<|Am Z<|AF Z<|Ai Z<|Ah Z (Al 0 Z Z)<|AB Z Z<|Ae Z<|A3 Z (by omega)<|Af Z<|Ab Z<|Af Z<|Am Z<|Af Z<|AF Z<|Af Z<|Ai Z<|Af Z<|Ah Z (Al 0 Z Z)<|Af Z<|Am Z<|Af Z<|AF Z<|Af Z<|Ai Z<|Af Z<|Ah Z (Al 0 Z Z)<|Af Z<|AI Z<|Af Z<|AM Z Z (by omega) (by omega)<|Af Z<|Da Z Z<|Au Z Z<|AZ<|Ar Z (by omega)<|Ak<|Ag<|Bv<|Am Z<|AF Z<|Ai Z<|Ah Z (Al 0 Z Z)<|Ab Z<|Am Z<|AF Z<|Ai Z<|Ah Z (Al 0 Z Z)<|CV Z Z (by omega) (by omega)<|BD m Z Z (by omega) hml ?_;(refine Ah Z (Al 1 Z (by assumption))<|Cd<|Ab Z<|Aa<|Ap ?_);exact K4 Z (Aeb _)
  ·(refine Ad<|Ab Z<|Aa<|Ag<|Ag<|Bv<|Ab Z<|Am Z<|AF Z<|Ai Z<|Ah Z (Al 0 Z Z)<|AB Z Z<|Ae Z<|A3 Z (by omega)<|Af Z<|Ab Z<|Af Z<|Am Z<|Af Z<|AF Z<|Af Z<|Ai Z<|Af Z<|Ah Z (Al 0 Z Z)<|Af Z<|Am Z<|Af Z<|AF Z<|Af Z<|Ai Z<|Af Z<|Ah Z (Al 0 Z Z)<|Af Z<|AI Z<|Af Z<|AM Z Z (by omega) (by omega)<|Af Z<|Da Z Z<|Au Z Z<|AZ<|Aw Z (by omega)<|Ad<|Ab Z<|Aa<|Ap ?_);rw[show HD frm ks k= -1 by unfold HD;rw[if_neg (by omega)]];exact K4 Z (Aeb _)
def NG(P:Program)(f:FuncId):Prop:=∀{d v}{xs:List Int}{x:Int},RSl 1 Bh d v xs→CP P f [v,vZ x] d (vZ (match Dk x xs with|some i=>(i:Int)|none=> -1))
def JX:A0:=⟨19,[(.tmp 4)],(sR (o1 4 (.mv z0) .done) (.seq (sR (om 6 0<|oL 7 6<|o1 8 (.mv z0) .done) (.block 0 (.loop (sR (ob 9 .lss 8 7 .done) (.seq (.cond 9 .skip (.exit 0)) (.seq (.block 1 (sR (om 10 8<|om 5 10 .done) (sR (om 11 1<|om 12 0<|om 13 5<|oI 14 1 12 13<|ol 15 14<|ob 16 .eql 11 15 .done) (.cond 16 (sR (om 17 5<|om 4 17 .done) .ret) .skip)))) (rG (ob 18 .add 8 z1<|om 8 18 .done)))))))) (sR (o1 4 (.mv (kZ (-1))) .done) .ret)))⟩
def TF{P f}(hd:dec P f=some JX):NG P f:=by
 intro d v xs x hv;have hlen:=hv.BF;refine AG hd (Aea Z) ?_;show gwp P _ _ _ _ _;refine Ad<|Ab Z<|Aa<|Ag<|Ad<|AR<|BI Z (by assumption)<|Ab Z<|Aa<|Ax<|Dd (α:=Nat) (fun i=>[(0,v),(1,vZ x),(7,vZ xs.length),(8,vZ i)]) (fun _=>[]) (fun i=>i≤xs.length∧Dk x xs=(Dk x (xs.drop i)).map (·+i)) (fun i=>xs.length - i) 0 ⟨Z,Z,Z,Z,trivial⟩ Z ⟨by omega,by simp⟩ ?_;rintro i ρ ⟨hi,hF⟩;by_cases e:i<xs.length
 ·rw[VM e] at hF;by_cases hx:x=xs[i]
  ·(refine Ad<|AB Z Z<|Aa<|Ag<|Aw Z (by omega)<|Ak<|Ag<|Ax<|Ad<|Ab Z<|Ab Z<|Aa<|Ad<|Ab Z<|AR<|Ab Z<|Bg (sz:=1) (R:=Bh) (by rfl) (by assumption) (by rfl) Z (by omega) ?_;rintro _ _ _ _ _ ⟨rfl,_,_⟩;refine Ah Z (BQ (by assumption) Z)<|AN Z Z<|Aa<|Aw Z (by omega)<|Ad<|Ab Z<|Ab Z<|Aa<|Ap ?_);rw[if_pos hx,Ahi,Agg] at hF;refine Iw Z ?_;rw[hF]
  ·(refine Ad<|AB Z Z<|Aa<|Ag<|Aw Z (by omega)<|Ak<|Ag<|Ax<|Ad<|Ab Z<|Ab Z<|Aa<|Ad<|Ab Z<|AR<|Ab Z<|Bg (sz:=1) (R:=Bh) (by rfl) (by assumption) (by rfl) Z (by omega) ?_;rintro _ _ _ _ _ ⟨rfl,_,_⟩;refine Ah Z (BQ (by assumption) Z)<|AN Z Z<|Aa<|Ar Z (by omega)<|Ak<|AE<|AM Z Z (by omega) (by omega)<|Ab Z<|Aa ?_);rw[if_neg hx,Option.map_map] at hF;exact⟨i+1,by omega,⟨Z,Z,Z,Z,trivial⟩,Z,Z,e,by rw[hF];congr 1;funext z;simp only[Function.comp];omega⟩
 ·(refine Ad<|AB Z Z<|Aa<|Ag<|Ar Z (by omega)<|Bd<|Ad<|Ab Z<|Aa<|Ap ?_);have:Dk x xs=none:=by rw[hF,Aha (by omega)];rfl
  refine Iw Z ?_;rw[this]
def G1(P:Program)(f:FuncId):Prop:=∀{d}{mb clk:Nat}{ms:List (Int×Value×Nat)},Le (mpI mb ms clk) d→AA P f [.map (some mb)] d [] (Ret fun r d' L'=>d'=d∧∃q,r=.map (some q)∧L'=[mpI q ms clk])
def Gg(a0:Nat):A0:=⟨9,[(.tmp 2)],(sR (o1 2 (.mv (.const (.map none))) .done) (.seq (sR (om 3 0<|o1 4 (.eqm false 3 (.const (.map none))) .done) (.cond 4 (sR (o1 2 (.mv (.const (.map none))) .done) .ret) .skip)) (sR (om 5 0<|o1 6 (.mki a0 5)<|o1 7 (.mop (.cln 6))<|o1 8 (.tas a0 7)<|om 2 8 .done) .ret)))⟩
def Ob{P f}{t1:Nat}(hd:dec P f=some (Gg t1)):G1 P f:=by
 intro d mb clk ms hm;refine AG hd (Aea Z) ?_;show gwp P _ _ _ _ _;refine Ad<|AR<|Aa<|Ag<|Ad<|AR<|Acq Z Z ?_;refine Aa<|AS Z<|Ak<|Ad<|AR<|Ada<|Ac8 Z ⟨d,.inl Z,hm _ _ (CN _ _)⟩ (fun q=>?_);refine AdD Z ?_;(refine AR<|Aa<|Ap ?_);exact BO Z (Aeb _) ⟨Z,q,Z,Z⟩
end Go.Gk.Pgr
end
