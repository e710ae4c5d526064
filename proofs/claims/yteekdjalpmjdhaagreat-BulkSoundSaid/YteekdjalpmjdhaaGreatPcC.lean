/-
  Our own texts, one behind the other: Gk13 GkCo Gk14 Gk15 Gk39 Gk16 Gk17 Gk18 Gk23 Gk30 Gk31 Gk24 GkE0 GkE1 GkC0 GkC4 GkPg0 GkE2 GkC1 GkC2 GkC3 GkCl.
-/
import Derived.Test.YteekdjalpmjdhaaGreatPcB
set_option linter.defProp false
set_option linter.unusedVariables false
set_option linter.unusedSimpArgs false
open List.Sublist renaming refl→Afa,cons_cons→Ahj
open Bool renaming false_eq_true→Afh
open List renaming getElem?_eq_getElem→Afc,getD_eq_getElem?_getD→Afd,append_assoc→Afg,perm_append_comm→Afi,mem_append→Afj,length_append→Afk,eq_nil_of_length_eq_zero→Afl,mem_cons_self→Afn,length_drop→Afo,getElem?_eq_some_iff→Afp,length_cons→Afq,mem_cons_of_mem→Afr,all_eq_true→Afs,length_take→Aft,replicate→Afu,mem_cons→Afv,take_succ_eq_append_getElem→Afw,drop_eq_getElem_cons→Afy,mem_singleton→Afz,getElem_mem→Agb,sublist_cons_self→Age,range→Agf,length_set→Agg,nil_append→Agh,append_nil→Agj,length_replicate→Agk,getElem?_eq_none→Ago,take_of_length_le→Agt,length_map→Agu,getElem?_append_left→Agx,cons_append→Agy,take_length→Agz,getElem?_drop→Aha,getElem?_append_right→Ahb,getElem?_take_of_lt→Ahc,getElem_of_mem→Ahe,map_append→Ahk,getElem?_map→Ahs,map_cons→Ahv,getD_cons_succ→Ahw,drop_of_length_le→Aia,getD_cons_zero→Aid,drop_length→Aig,mem_range→Aik,nodup_cons→Aim,ext_getElem?→Aio,set_eq_of_length_le→Aip,set_cons_succ→Aje,getElem_append_right→Ajh,sublist_append_left→Ajl,getElem_append_left→Ajm,foldl_cons→Ajx,ext_getElem→Akg,all_cons→Akp,map_drop→Akq,map_take→Akr
open Nat renaming le_refl→Afe,le_of_ble_eq_true→Aff,mul_le_mul_right→Agr,zero_add→Ahg,mul_one→Aho,le_trans→Ahq,add_mul→Aht,not_lt_zero→Aic,mod_eq_of_lt→Ain,mod_lt→Aiq,sub_self→Aiz,one_mul→Ajg
open Option renaming bind_some→Ahd,getD_some→Aif,map_some→Aij,isSome_none→Ajv
section
namespace Go.Gk
open Go
variable{T:TypeId}{x y ch:Operand}{k:IntKind}{j:Int}{f:FuncId}{i:GI}{v z:Value}{a b:EH}{pre post:GS}{dst:Option Nat}{cap:Nat}{tm:Bool}
section
def chunk(cs:List Value)(i sz:Nat):List Value:=(cs.drop (i*sz)).take sz
def Ai{α}(sz:Nat)(R:Aa→List Value→α→Prop)(d:Aa)(v:Value)(xs:List α)(h:Aa):Prop:=
 ∃cs,Cf sz v xs.length cs h∧∀i (hi:i<xs.length),R d (chunk cs i sz) xs[i]
def Src{α}(sz:Nat)(R:Aa→List Value→α→Prop)(d:Aa)(Lk:List Aa)(w:Value)(ys:List α):Prop:=
 ∃news,RdX d Lk w ys.length sz news∧(news.all (·.oneCell'))=true∧∀i (hi:i<ys.length),R d (chunk news i sz) ys[i]
def F1{α}(R:Aa→List Value→α→Prop):Prop:=∀d cs x,R d cs x→(cs.all (·.oneCell'))=true
def Gu{α}(R:Aa→List Value→α→Prop):Prop:=∀{d d' cs x},Le d d'→R d cs x→R d' cs x
def Fx:F1 Ax:=fun _ _ _ h=>by cases h;rfl
def D1:F1 Bh:=fun _ _ _ h=>by obtain⟨rfl,_⟩:=h;rfl
def Zf:F1 Mh:=fun _ _ _ h=>by obtain⟨rfl,_⟩:=h;rfl
def FA:F1 RBs:=fun _ _ _ h=>by obtain⟨_,rfl,_,_,_,_,rfl,_⟩:=h;rfl
def AF:Gu Ax:=fun _ h=>h
def Ck:Gu Bh:=fun _ h=>h
def Abh:Gu Mh:=fun _ h=>h
def CY:Gu RBs:=fun hl ⟨u,h1,h2⟩=>⟨u,h1,h2.mono hl⟩
section
variable {α:Type}{sz:Nat}{R:Aa→List Value→α→Prop}{d:Aa}{v:Value}{xs:List α}{h:Aa}
def JI{cs}{n i:Nat}(hl:cs.length=n*sz)(hi:i<n):(chunk cs i sz).length=sz:=by
 have:(i+1)*sz≤n*sz:=Agr sz hi;rw[Aht,Ajg] at this;simp only[chunk,Aft,Afo,hl];omega
def GK{cs ds}{n i:Nat}(hl:cs.length=n*sz)(hi:i<n):chunk (cs++ds) i sz=chunk cs i sz:=by
 have:(i+1)*sz≤n*sz:=Agr sz hi;rw[Aht,Ajg] at this;simp only[chunk];rw[List.drop_append_of_le_length (by omega),List.take_append_of_le_length (by simp only[Afo];omega)]
def Gi{cs ds}{n i:Nat}(hl:cs.length=n*sz)(hi:n≤i):chunk (cs++ds) i sz=chunk ds (i - n) sz:=by
 have h1:n*sz≤i*sz:=Agr sz hi;simp only[chunk];rw[List.drop_append,Aia (by omega),Agh,hl,Nat.sub_mul]
def Ai.nil:Ai sz R d nV [] emp:=⟨[],Cf.nil sz,fun i hi=>absurd hi (Aic i)⟩
def Ai.J8{b:Nat}:Ai sz R d (.slice (some ⟨b,0,none⟩) 0 0) [] (bx b T []):=⟨[],Cf.lit (by simp) (by simp),fun i hi=>absurd hi (Aic i)⟩
def Ai.mono(hR:Gu R)(o:Ai sz R d v xs h){d'}(hl:Le d d'):Ai sz R d' v xs h:=
 let ⟨cs,h1,h2⟩:=o
 ⟨cs,h1,fun i hi=>hR hl (h2 i hi)⟩
def Ai.BW(o:Ai sz R d v xs h):xs.length≤140737488355328:=let ⟨_,h1,_⟩:=o;h1.2.1
def Ai.val(o:Ai sz R d v xs h):∃a c,v=.slice a xs.length c:=by
 obtain⟨cs,h1,_⟩:=o;obtain⟨a,b,c,e,_⟩:=h1.slice;exact⟨a,c,e⟩
def RSl.val(o:RSl sz R d v xs):∃a c,v=.slice a xs.length c:=let ⟨a,c,_,_,e,_⟩:=o;⟨a,c,e⟩
def Ai.rsl(o:Ai sz R d v xs h)(hR:Gu R)(hsz:0<sz){d'}(hl:Le d d')(hh:Le h d'):RSl sz R d' v xs:=by
 obtain⟨cs,h1,h2⟩:=o;exact h1.rsl hh Z hsz (fun i hi=>hR hl (h2 i hi))
def Ai.src(o:Ai sz R d v xs h)(hc:F1 R){Lk}(hk:h∈Lk):Src sz R d Lk v xs:=by
 obtain⟨cs,h1,h2⟩:=o;refine⟨cs,h1.rdx hk,?_,h2⟩
 have hl:=h1.1;rw[Afs];intro u hu;obtain⟨j,hj,rfl⟩:=Ahe hu;by_cases h0:sz=0
 ·subst h0;simp at hl;subst hl;simp at hj
 ·have hq:j / sz<xs.length:=by rw[Nat.div_lt_iff_lt_mul (by omega)];omega
  have:=Afs.1 (hc _ _ _ (h2 _ hq)) cs[j] (by
   have hdm:=Nat.div_add_mod' j sz;have hm:=Aiq j (show 0<sz by omega);rw[List.mem_iff_getElem?];refine⟨j % sz,?_⟩
   rw[chunk,Ahc hm,Aha,hdm,Afc hj])
  exact this
def RSl.src(o:RSl sz R d v xs)(hc:F1 R)(_:0<sz)(Lk:List Aa):Src sz R d Lk v xs:=by
 obtain⟨a,c,b,o,rfl,h2,h3,h4,h5,h6,h7,h8⟩:=o;have key:∀n,n≤xs.length→∃news:List Value,news.length=n*sz∧(∀j u,news[j]?=some u→DC d b (o+j) u)∧(news.all (·.oneCell'))=true∧∀i (hi:i<n) (hi':i<xs.length),R d (chunk news i sz) xs[i]:=by
  intro n;induction n with
  |zero=>exact fun _=>⟨[],by simp,fun j u hu=>by simp at hu,Z,fun i hi=>absurd hi (Aic i)⟩
  |succ n ih=>
   intro hn
   obtain⟨news,k1,k2,k3,k4⟩:=ih (by omega)
   obtain⟨cs,m1,m2,m3⟩:=h8 n (by omega)
   refine⟨news++cs,by simp[k1,m1,Aht],fun j u hu=>?_,?_,fun i hi hi'=>?_⟩
   ·rw[List.getElem?_append] at hu
    split at hu
    ·exact k2 j u hu
    ·rename_i hj
     have:=m2.at hu
     rw[k1] at this
     rw[show o+j=o+n*sz+(j - n*sz) by omega]
     exact this
   ·rw[List.all_append,k3,hc _ _ _ m3];rfl
   ·by_cases e:i<n
    ·rw[GK k1 e];exact k4 i e hi'
    ·obtain rfl:i=n:=by omega
     rw[Gi k1 (Afe _),Aiz]
     have:chunk cs 0 sz=cs:=by simp[chunk,←m1]
     rw[this];exact m3
 obtain⟨news,k1,k2,k3,k4⟩:=key xs.length (Afe _);refine⟨news,⟨a,c,Z,k1,fun e=>?_,fun a' ha i u hu=>?_⟩,k3,fun i hi=>k4 i hi hi⟩
 ·cases xs with
  |nil=>exact Afl (by simpa using k1)
  |cons x xs=>have:=h2 (by simp);rw[e] at this;cases this
 ·have h0:xs.length≠0:=by
   intro h0;rw[h0,Nat.zero_mul] at k1;rw[Afl k1] at hu;simp at hu
  have e:=h2 h0;rw[ha] at e;cases e;rw[Addr.add_lit];exact BR (k2 i u hu)
def Src.lit{Lk}{b c n:Nat}{cs}{ys:List α}(i:Nat)(hi:Lk[i]?=some (bx b T cs))(hn:n=ys.length)(hl:cs.length=ys.length*sz)(h1:(cs.all (·.oneCell'))=true)
  (h2:∀i (hi:i<ys.length),R d (chunk cs i sz) ys[i]):Src sz R d Lk (.slice (some ⟨b,0,none⟩) n c) ys:=by
 subst hn
 exact⟨cs,RdX.lit i hi hl,h1,h2⟩
def Ai.lit{b n:Nat}{cs}(hn:n=xs.length)(hl:cs.length=xs.length*sz)(hx:xs.length≤140737488355328)(h2:∀i (hi:i<xs.length),R d (chunk cs i sz) xs[i]):
  Ai sz R d (.slice (some ⟨b,0,none⟩) n n) xs (bx b T cs):=by
 subst hn
 exact⟨cs,Cf.lit hl hx,h2⟩
def Ai.EL{b:Nat}{cs}{x:α}(hl:cs.length=sz)(h2:R d cs x):Ai sz R d (.slice (some ⟨b,0,none⟩) 1 1) [x] (bx b T cs):=
 Ai.lit Z (by simp[hl]) (by simp) (fun i hi=>by
  obtain rfl:i=0:=by simpa using hi
  have:chunk cs 0 sz=cs:=by simp[chunk,←hl]
  rw[this];exact h2)
end
def Ai.QE{d}{b n:Nat}{cs l}(e:cs=l.map Al)(hn:n=l.length)(hx:l.length≤140737488355328):Ai 1 Ax d (.slice (some ⟨b,0,none⟩) n n) l (bx b T cs):=by
 subst e;refine Ai.lit hn (by simp) hx (fun i hi=>?_);simp only[Ax,chunk,Aho,←Akq,←Akr];rw[Afy hi];rfl
def Ai.AeB{d}{b n:Nat}{cs}{l:List Int}(e:cs=l.map (Value.int .i64))(hb:∀x∈l, -9223372036854775808≤x∧x≤9223372036854775807)(hn:n=l.length)(hx:l.length≤140737488355328):Ai 1 Bh d (.slice (some ⟨b,0,none⟩) n n) l (bx b T cs):=by
 subst e;refine Ai.lit hn (by simp) hx (fun i hi=>?_);simp only[Bh,chunk,Aho,←Akq,←Akr];rw[Afy hi];exact⟨Z,hb _ (Agb hi)⟩
def Ai.bytes{d v xs h}(o:Ai 1 Ax d v xs h):Cf 1 v xs.length (xs.map Al) h:=by
 obtain⟨cs,h1,h2⟩:=o;have hl:=h1.1;have:cs=xs.map Al:=by
  apply Akg
  ·simp at hl⊢;exact hl
  ·intro i h3 h4;have h5:i<xs.length:=by simpa using h4
   have h6:chunk cs i 1=[Al xs[i]]:=h2 i h5;simp only[chunk,Aho] at h6;have h7:=congrArg (·[0]?) h6;simp only[Ahc (show 0<1 by omega),Aha,Nat.add_zero,Afc h3,List.getElem?_cons_zero,Option.some.injEq] at h7;simp[h7]
 rw[←this];exact h1
section
variable {P:Program}{pan:List PanicEntry→AP}{Qn:Env→AP}{Ls L:List Aa}{ρ:Env}{d:Aa}{s:GS}{t:Nat}{tk:Bool}
def FR{α}{sz by_:Nat}{R z}(i:Nat){v w}{xs ys:List α}{h}(ex:ev ρ x=v)(hi:L[i]?=some h)(ho:Ai sz R d v xs h)
  (ey:ev ρ y=w) (hs:Src sz R d (Ls++L++L) w ys) (hsz:0<sz) (hm:xs.length+ys.length≤140737488355328) (hb:(xs.length+ys.length)*by_≤140737488355328)
  (k:∀v' h',Ai sz R d v' (xs++ys) h'→gws P pan Qn s Ls (upd ρ t v') d (L.set i h')):gws P pan Qn (.op false ⟨some t,none,.app sz by_ z x y⟩ s) Ls ρ d L:=by
 obtain⟨cs,h1,h2⟩:=ho
 obtain⟨news,k1,k2,k3⟩:=hs
 have hl:=h1.1
 refine Aeq i ex hi h1 ey k1 k2 hsz hm hb (fun v' h' o=>k v' h' ⟨cs++news,by rw[Afk];exact o,fun j hj=>?_⟩)
 by_cases e:j<xs.length
 ·rw[GK hl e,Ajm e];exact h2 j e
 ·rw[Gi hl (by omega),Ajh (by omega)]
  exact k3 _ (by simp at hj;omega)
def D4{α:Type}{sz by_:Nat}{R:Aa→List Value→α→Prop}{z:List Value}{x y:Operand}(i:Nat){v w:Value}{xs ys:List α}{h g:Aa}(ex:ev ρ x=v)(hi:L[i]?=some h)(ho:Ai sz R d v xs h)
  (ey:ev ρ y=w) (hs:Ai sz R d w ys g) (hc:F1 R) (hsz:0<sz) (hm:xs.length+ys.length≤140737488355328) (hb:(xs.length+ys.length)*by_≤140737488355328)
  (k:∀v' h',Ai sz R d v' (xs++ys) h'→gws P pan Qn s Ls (upd ρ t v') d (L.set i h')):gws P pan Qn (.op false ⟨some t,none,.app sz by_ z x y⟩ s) Ls ρ d (g::L):=by
 obtain⟨cs,h1,h2⟩:=ho
 obtain⟨news,k1,k2,k3⟩:=(hs.src hc (by simp):Src sz R d (Ls++(g::L)++(g::L)) w ys)
 have hl:=h1.1
 refine Qx (i+1) ex (by simpa using hi) h1 ey k1 k2 hsz hm hb (fun v' h' o=>⟨d,L.set i h',?_,k v' h' ⟨cs++news,by rw[Afk];exact o,fun j hj=>?_⟩⟩)
 ·rw[Aje]
  exact Vs.drop (Age _ _)
 ·by_cases e:j<xs.length
  ·rw[GK hl e,Ajm e];exact h2 j e
  ·rw[Gi hl (by omega),Ajh (by omega)]
   exact k3 _ (by simp at hj;omega)
def XX{α:Type}{sz:Nat}{R:Aa→List Value→α→Prop}{x:Operand}{v:Value}{xs:List α}{h:Aa}(ex:ev ρ x=v)(hr:Ai sz R d v xs h)(k:gws P pan Qn s Ls (upd ρ t (vZ xs.length)) d L):
  gws P pan Qn (.op tk ⟨some t,none,.len x⟩ s) Ls ρ d L:=by
 obtain⟨a,c,rfl⟩:=hr.val
 exact AA ex k
def Bq{α}{sz:Nat}{R i v}{xs:List α}{m:Nat}(ex:ev ρ x=v)(hr:RSl sz R d v xs)(ei:ev ρ i=.int k j)(hm:j=(m:Int))(hl:m<xs.length)
  (h:∀b o cs,cs.length=sz→DCs d b o cs→R d cs xs[m]→gws P pan Qn s Ls (upd ρ t (.pointer (some ⟨b,o,none⟩))) d L):gws P pan Qn (.op tk ⟨some t,none,.idx sz x i⟩ s) Ls ρ d L:=by
 obtain⟨a,c,b,o,rfl,h2,h3,h4,h5,h6,h7,h8⟩:=hr
 obtain⟨cs,k1,k2,k3⟩:=h8 m hl
 exact B3 m ex ei hm hl h2 (h b _ cs k1 k2 k3)
end
section
variable {P:Program}{Q:Co}{ρ:Env}{d:Aa}{L:List Aa}
def AcU{α:Type}{a:CC}(slots:α→Value→List (Nat×Value))(inv:α→Value→Aa→Aa→List Aa→Prop)(meas:α→Nat)(x0:α)(v0:Value)(h0:Aa)(hs:BN ρ (slots x0 v0))(i0:inv x0 v0 h0 d L)
  (round:∀x v h ρ d L,inv x v h d L→gwp P a {Q with n:=fun ρ d L=>∃x' v' h',meas x'<meas x∧BN ρ (slots x' v')∧inv x' v' h' d L} (J4 ρ (slots x v)) d L):gwp P (.loop a) Q ρ d L:=
 Cs (α:=α×Value×Aa) (fun x=>slots x.1 x.2.1) (fun x d L=>inv x.1 x.2.1 x.2.2 d L) (fun x=>meas x.1) (x0,v0,h0) hs i0
  (fun x ρ d L hi=>KW (fun _ _ _ ⟨x',v',h',a,b,c⟩=>⟨(x',v',h'),a,b,c⟩) (round x.1 x.2.1 x.2.2 ρ d L hi))
end
section
variable {P:Program}{pan:List PanicEntry→AP}{Qn:Env→AP}{Ls L:List Aa}{ρ:Env}{d:Aa}{s t:GS}{g:GOp}
def Fw(h1:gws P pan Qn (.op false g s) Ls ρ d L)(h2:gws P pan Qn t Ls ρ d L):gws P pan Qn (.alt g s t) Ls ρ d L:=⟨h1,h2⟩
def Adn(is:List Nat)(hp:is.isPerm (Agf L.length)=true)(h:gws P pan Qn (.op false g s) Ls ρ d (pick L is)):gws P pan Qn (.op false g s) Ls ρ d L:=B1 d _ (Vs.pick is hp) h
def GJ(h:∃d1 L1,Vs d L d1 L1∧Qn ρ d1 L1):gws P pan Qn .done [] ρ d L:=h
def Af{C:Addr→Value→Prop}{t:Nat}{v}(e:ρ t=v):MU ρ C (.tmp t) v:=e.symm
def AY{t n b:Nat}{l}(i:Nat)(e:ρ t=pZ b)(hi:L[i]?=some (bx b T l))(hn:l.length=n):MU ρ (HC d L) (.cell t (some n)) (.agg l.toArray):=
 ⟨b,0,l,e,hn,fun j u hu=>by rw[Ahg];exact AG i hi hu,Z⟩
def Adj{res:List Hc}{R}(vs:List Value)(hr:Hq ρ (HC d L) res vs)(h:∀d',Le d d'→(∀k∈L,Le k d')→R (.returned (Lh vs)) d' []):C9 res R ρ d L:=
 let ⟨d',h1,h2,h3⟩:=Vs.Ii d L
 ⟨vs,hr,d',[],h1,h d' h2 h3⟩
def Ed{res:List Hc}{R}(vs:List Value){L'}(hr:Hq ρ (HC d L) res vs)(hs:L'.Sublist L)(h:R (.returned (Lh vs)) d L'):C9 res R ρ d L:=
 ⟨vs,hr,d,L',Vs.drop hs,h⟩
end
section
variable {P:Program}{pan:List PanicEntry→AP}{Qn:Env→AP}{Ls L:List Aa}{ρ:Env}{d:Aa}{s:GS}{t:Nat}{tk:Bool}
end
def Ao.Ad1{P args d L R R'}
  (h:Ao P f args d L R) (hr:∀e d' L',Le d d'→R e d' L'→∃d2 L2,Vs d' L' d2 L2∧R' e d2 L2):Ao P f args d L R':=
 ⟨h.1,fun F W x=>(h.2 F W x).mono fun e W' ⟨d',L',a,b,c,r⟩=>let ⟨d2,L2,v,r2⟩:=hr e d' L' b r;⟨d2,L2,v.2 F W' a,b.trans v.1,c,r2⟩⟩
def Ao.Eb{P args d L R R'}
  (h:Ao P f args d L (Ret R)) (hr:∀v d' L',Le d d'→R v d' L'→∃d2 L2,Vs d' L' d2 L2∧R' v d2 L2):Ao P f args d L (Ret R'):=
 h.Ad1 (fun e d' L' hl r=>by
  cases e with
  |returned v=>exact hr v d' L' hl r
  |panicked c=>exact r.elim
  |outgrown=>exact r.elim)
def Fg.grow{N:Nat}{v c h d}(r:Fg N v c h)(hN:N≤140737488355328):Ai 1 Ax d v c h:=by
 obtain⟨hc,b,T,rfl,rfl⟩:=r;refine⟨c.map Al,Cf.mk (by simp) (by omega) hc (by omega) (by simp;omega) (by simp),fun i hi=>?_⟩
 simp only[Ax,chunk,Aho,←Akq,←Akr];rw[Afy hi];rfl
end
section
section
variable {P:Program}{Q:Co}{pan:List PanicEntry→AP}{Qn:Env→AP}{Ls L:List Aa}{ρ:Env}{d:Aa}{s:GS}{t u:Nat}{tk:Bool}{a b c:CC}
def Bj{pr:Bool}{g:A9}(hd:Jk pr P f=some g){args R}(h:gwp P g.code (mkPost g.res R) (GP args) d L)(ha:args.length≤g.n:=by exact Aff Z):Ao P f args d L R:=Dp hd ha h
def Bo(h:gws P Q.pan (gwp P b Q) s [] ρ d L):gws P pan (gwp P (.seq (.reg false s) b) Q) .done [] ρ d L:=An (Ak h)
def By(h:gwp P a {Q with n:=gwp P b Q} ρ d L):gws P pan (gwp P (.seq a b) Q) .done [] ρ d L:=An (Aw h)
def AZ(h:gws P Q.pan (gwp P b {Q with n:=gwp P c Q}) s [] ρ d L):gwp P (.seq (.seq (.reg false s) b) c) Q ρ d L:=Aw (Ak h)
def BG(h:gws P Q.pan (gwp P b {Q with n:=gwp P c Q}) s [] ρ d L):gws P pan (gwp P (.seq (.seq (.reg false s) b) c) Q) .done [] ρ d L:=An (Aw (Ak h))
def BJ(h:Q.ret ρ d L):gws P pan (gwp P .ret Q) .done [] ρ d L:=An (DE h)
def AeI(h:gwp P a {Q with n:=gwp P b Q} ρ d L):gwp P .skip {Q with n:=gwp P (.seq a b) Q} ρ d L:=AH (Aw h)
section
variable {x:Operand}{p:Prop} [Decidable p]
def BM(e:ev ρ x=.bool (decide p))(h:gwp P b Q ρ d L)(hp:¬p:=by omega):gwp P (.cond x a b) Q ρ d L:=Fs e hp h
def B2(e:ev ρ x=.bool (decide p))(h:gwp P a Q ρ d L)(hp:p:=by omega):gwp P (.cond x a b) Q ρ d L:=EO e hp h
def EY(e:ev ρ x=.bool (decide p))(h:gwp P b Q ρ d L)(hp:¬p:=by omega):gws P pan (gwp P (.cond x a b) Q) .done [] ρ d L:=An (Fs e hp h)
def AT(e:ev ρ x=.bool (decide p))(h:Q.n ρ d L)(hp:¬p:=by omega):gws P pan (gwp P (.cond x a .skip) Q) .done [] ρ d L:=An (Fs e hp (AH h))
def A5(e:ev ρ x=.bool (decide p))(h:gwp P a Q ρ d L)(hp:p:=by omega):gws P pan (gwp P (.cond x a b) Q) .done [] ρ d L:=An (EO e hp h)
def Jq(e:ev ρ x=.bool false)(h:gwp P b Q ρ d L):gws P pan (gwp P (.cond x a b) Q) .done [] ρ d L:=An (Cn e h)
def Be(e:ev ρ x=.bool false)(h:Q.n ρ d L):gws P pan (gwp P (.cond x a .skip) Q) .done [] ρ d L:=An (Cn e (AH h))
def B7(e:ev ρ x=.bool true)(h:gwp P a Q ρ d L):gws P pan (gwp P (.cond x a b) Q) .done [] ρ d L:=An (Er e h)
end
def Bx{g:Nat}{want:Bool}{dst:Option Nat}{p:Prop}[Decidable p](e:ρ g=.bool (decide p))(h:gws P pan Qn (.op tk ⟨dst,some (g,want),i⟩ s) Ls (upd ρ g (.bool true)) d L)(hp:p:=by omega):gws P pan Qn (.op tk ⟨dst,some (g,want),i⟩ s) Ls ρ d L:=Nv e hp h
def Bs{g:Nat}{want:Bool}{dst:Option Nat}{p:Prop}[Decidable p](e:ρ g=.bool (decide p))(h:gws P pan Qn (.op tk ⟨dst,some (g,want),i⟩ s) Ls (upd ρ g (.bool false)) d L)(hp:¬p:=by omega):gws P pan Qn (.op tk ⟨dst,some (g,want),i⟩ s) Ls ρ d L:=Is e hp h
section
variable {x y:Operand}{m n:Int}
def A4(ex:ev ρ x=vZ m)(ey:ev ρ y=vZ n)(h:gws P pan Qn s Ls (upd ρ t (vZ (m+n))) d L)(h1: -9223372036854775808≤m+n:=by omega)(h2:m+n≤9223372036854775807:=by omega):gws P pan Qn (.op tk ⟨some t,none,.bin .add x y⟩ s) Ls ρ d L:=LA ex ey h1 h2 h
def DT(ex:ev ρ x=vZ m)(ey:ev ρ y=vZ n)(h:gws P pan Qn s Ls (upd ρ t (vZ (m - n))) d L)(h1: -9223372036854775808≤m - n:=by omega)(h2:m - n≤9223372036854775807:=by omega):gws P pan Qn (.op tk ⟨some t,none,.bin .sub x y⟩ s) Ls ρ d L:=XH ex ey h1 h2 h
end
section
variable {x:Operand}
def AU{m:Int}(e:ev ρ x=.int k m)(h:Qn (upd ρ t (.int k m)) d L):gws P pan Qn (.op tk ⟨some t,none,.mv x⟩ .done) [] ρ d L:=Ab e (An h)
def A7{m:Int}(e:ev ρ x=.int k m)(h:gws P Q.pan (gwp P b Q) s [] (upd ρ t (.int k m)) d L):gws P pan (gwp P (.seq (.reg false s) b) Q) (.op tk ⟨some t,none,.mv x⟩ .done) [] ρ d L:=Ab e (Bo h)
def AR{m:Int}(e:ev ρ x=.int k m)(h:gws P Q.pan (gwp P b {Q with n:=gwp P c Q}) s [] (upd ρ t (.int k m)) d L):gws P pan (gwp P (.seq (.seq (.reg false s) b) c) Q) (.op tk ⟨some t,none,.mv x⟩ .done) [] ρ d L:=Ab e (BG h)
def AS{m:Int}(e:ev ρ x=.int k m)(h:Q.ret (upd ρ t (.int k m)) d L):gws P pan (gwp P .ret Q) (.op tk ⟨some t,none,.mv x⟩ .done) [] ρ d L:=Ab e (BJ h)
def AV{m:Bool}(e:ev ρ x=.bool m)(h:Qn (upd ρ t (.bool m)) d L):gws P pan Qn (.op tk ⟨some t,none,.mv x⟩ .done) [] ρ d L:=Ad e (An h)
def Cc{m:Bool}(e:ev ρ x=.bool m)(h:Q.ret (upd ρ t (.bool m)) d L):gws P pan (gwp P .ret Q) (.op tk ⟨some t,none,.mv x⟩ .done) [] ρ d L:=Ad e (BJ h)
def AE{m:Int}(e:ev ρ x=.int k m)(h:gws P Q.pan (gwp P b Q) s [] (upd ρ t (.int k m)) d L):gwp P (.seq (.reg false (.op false ⟨some t,none,.mv x⟩ s)) b) Q ρ d L:=Ak (Ab e h)
def A3{m}(e:ev ρ x=.pointer m)(h:gws P Q.pan (gwp P b Q) s [] (upd ρ t (.pointer m)) d L):gwp P (.seq (.reg false (.op false ⟨some t,none,.mv x⟩ s)) b) Q ρ d L:=Ak (Ag e h)
def Br{m}{n k:Nat}(e:ev ρ x=.slice m n k)(h:gws P Q.pan (gwp P b Q) s [] (upd ρ t (.slice m n k)) d L):gwp P (.seq (.reg false (.op false ⟨some t,none,.mv x⟩ s)) b) Q ρ d L:=Ak (Ae e h)
def AW{y}{i j:Nat}{vs ws:Array Value}{w}(ex:ev ρ x=.tuple vs)(e:vs[i]?=some v)(ey:ev (upd ρ t v) y=.tuple ws)(f:ws[j]?=some w)(h:gws P pan Qn s Ls (upd (upd ρ t v) u w) d L):
  gws P pan Qn (.op tk ⟨some t,none,.ext x i⟩ (.op tk ⟨some u,none,.ext y j⟩ s)) Ls ρ d L:=Dl ex e (Dl ey f h)
def Az{off q o:Nat}{l}(e:ev ρ x=.pointer (some ⟨q,o,none⟩))(hi:(lk tk Ls L)[0]?=some (bx q T l))(ho:l[o+off]?=some v)(h:gws P pan Qn s Ls (upd (upd ρ t (.pointer (some ⟨q,o+off,none⟩))) u v) d L):
  gws P pan Qn (.op tk ⟨some t,none,.fld off x⟩ (.op tk ⟨some u,none,.ld none (.tmp t)⟩ s)) Ls ρ d L:=Am e (Ah (by simp[ev,upd]) (AG 0 hi ho) h)
def c_l{q o:Nat}{l}(e:ev ρ x=.pointer (some ⟨q,o,none⟩))(hi:(lk tk Ls L)[0]?=some (bx q T l))(ho:l[o]?=some v)(h:gws P pan Qn s Ls (upd ρ t v) d L):
  gws P pan Qn (.op tk ⟨some t,none,.ld none x⟩ s) Ls ρ d L:=Ah e (AG 0 hi ho) h
def AQ{g g':Nat}{w w':Bool}{i':GI}(e:ρ g=.bool (!w))(e':upd ρ t undef g'=.bool (!w'))(h:gws P pan Qn s Ls (upd (upd ρ t undef) u undef) d L):gws P pan Qn (.op tk ⟨some t,some (g,w),i⟩ (.op tk ⟨some u,some (g',w'),i'⟩ s)) Ls ρ d L:=BP e (BP e' h)
end
end
end
section
def IE:List Aa→Aa
 |[]=>emp
 |h::L=>join h (IE L)
def Jt:∀{L h},h∈L→Le h (IE L)
 |k::L,h,hm=>by
  rcases Afv.1 hm with rfl|hm
  ·exact Le.Ar _ _
  ·exact(Jt hm).trans (Le.Bc _ _)
def Qj{k}:∀{L},(∀h∈L,FC k h)→FC k (IE L)
 |[],_=>fun _ _ _ _ e=>e.elim
 |h::_,hd=>fun b o o' e e'=>e'.elim (hd h (Afn ..) b o o' e) (Qj (fun h' hm=>hd h' (Afr _ hm)) b o o' e)
def Vs.cons{d d' h L L'}(v:Vs d L d' L'):Vs d (h::L) d' (h::L'):=
 ⟨v.1,fun F W x=>(v.2 (h::F) W (x.perm (List.perm_middle.symm.cons d))).perm (List.perm_middle.cons d')⟩
def Vs.W4{d L0}:∀{L},L.Pairwise FC→Vs d (IE L::L0) d (L++L0)
 |[],_=>Vs.drop (Age _ _)
 |h::L,hp=>by
  rw[List.pairwise_cons] at hp;exact(Vs.split (Qj hp.1)).trans (Vs.cons (Vs.W4 hp.2))
def Vs.Xh{d L0}:∀{L},Vs d (L++L0) d (IE L::L0)
 |[]=>Vs.emp
 |_::L=>(Vs.cons (Vs.Xh (L:=L))).trans Vs.join
def Ok.pw{d L F W}(x:Ok (d::(L++F)) W):(d::L).Pairwise FC:=x.1.sublist ((Ajl L F).cons_cons d)
def Dj.borrow{P vs d L v}(h:∀d1,Le d d1→(∀k∈L,Le k d1)→Dj P f vs d1 v):
  Ao P f vs d L (Ret fun r d' L'=>r=v∧d'=d∧L'=L):=by
 have h:=h (IE (d::L)) (Jt (Afn ..)) (fun k hk=>Jt (Afr _ hk))
 refine⟨h.1,fun F W x=>?_⟩
 have hp:=x.pw
 have y:Ok (IE (d::L)::([]++F)) W:=by
  have:=(Vs.Xh (d:=emp) (L0:=F) (L:=d::L)).2 [] W (by simpa using x.emp);simpa using this.tail
 refine(h.2 F W y).mono fun e W' ⟨d',L',a,b,c,r⟩=>?_
 cases e with
 |panicked c=>exact r.elim
 |outgrown=>exact r.elim
 |returned u=>
  obtain⟨rfl,rfl,rfl⟩:=r
  refine⟨d,L,?_,Le.refl d,c,Z,Z,Z⟩
  have:=(Vs.W4 (d:=emp) (L0:=F) hp).2 [] W' (by simpa using a.emp)
  simpa using this.tail
section
variable {P:Program}{pan:List PanicEntry→AP}{Qn:Env→AP}{Ls L:List Aa}{ρ:Env}{d:Aa}{s:GS}{t:Nat}{tk:Bool}
def IY{args vs v}(ea:args.map (ev ρ)=vs)(hc:∀d1,Le d d1→(∀k∈L,Le k d1)→Dj P f vs d1 v)
  (h:gws P pan Qn s Ls (upd ρ t v) d L):gws P pan Qn (.op false ⟨some t,none,.call f args⟩ s) Ls ρ d L:=by
 refine Gb (R:=fun r d' L'=>r=v∧d'=d∧L'=L) L.length ea (by rw[Agz];exact Dj.borrow hc) (fun r d' L' _ ⟨h1,h2,h3⟩=>?_)
 subst h1;subst h2;subst h3
 rw[Aig,Agj];exact h
def Ek{args R vs A B}(hL:L=A++B)(ea:args.map (ev ρ)=vs)(hc:Ao P f vs d A (Ret R))
  (h:∀v d' L',Le d d'→R v d' L'→gws P pan Qn s Ls (upd ρ t v) d' (L'++B)):gws P pan Qn (.op false ⟨some t,none,.call f args⟩ s) Ls ρ d L:=by
 subst hL
 refine Gb A.length ea (by rw[List.take_left];exact hc) (fun v d' L' hl hr=>?_)
 rw[List.drop_left];exact h v d' L' hl hr
end
def RSl.cut{α}{sz:Nat}{R d a}{n c:Nat}{xs:List α}(hr:RSl sz R d (.slice a n c) xs){l h m:Nat}(h1:l≤h)(h2:h≤m)(h3:m≤c)(h4:h≤xs.length):
  RSl sz R d (.slice (if m=l then a else a.map fun a=>⟨a.block,a.off+l*sz,none⟩) (h - l) (m - l)) ((xs.drop l).take (h - l)):=by
 obtain⟨a',c',b,o,e,k2,k3,k4,k5,k6,k7,k8⟩:=hr
 cases e
 have hl:((xs.drop l).take (h - l)).length=h - l:=by simp;omega
 refine⟨_,m - l,b,o+l*sz,by rw[hl],fun h0=>?_,fun h0 a' ha=>?_,fun h0=>?_,by omega,by omega,by omega,fun i hi=>?_⟩
 ·rw[hl] at h0
  rw[if_neg (by omega),k2 (by omega)];rfl
 ·rw[if_neg (by omega)] at ha
  cases a with
  |none=>cases ha
  |some a=>cases ha;rfl
 ·split at h0
  ·omega
  ·cases a with
   |none=>have:=k4 Z;omega
   |some a=>cases h0
 ·rw[hl] at hi
  obtain⟨cs,j1,j2,j3⟩:=k8 (l+i) (by omega)
  refine⟨cs,j1,?_,?_⟩
  ·rw[Aht,←Nat.add_assoc] at j2;exact j2
  ·simpa using j3
section
variable {P:Program}{pan:List PanicEntry→AP}{Qn:Env→AP}{Ls L:List Aa}{ρ:Env}{d:Aa}{s:GS}{t:Nat}{tk:Bool}{α:Type}{sz:Nat}{R:Aa→List Value→α→Prop}{x y z:Operand}{v:Value}{xs:List α}{kk kk':IntKind}{n m:Nat}
def P5(ex:ev ρ x=v)(hr:RSl sz R d v xs)(ey:ev ρ y=.int kk j)(hj:j=(n:Int))(hn:n≤xs.length)(k:∀v',RSl sz R d v' (xs.take n)→gws P pan Qn s Ls (upd ρ t v') d L):
  gws P pan Qn (.op tk ⟨some t,none,.sl sz x none (some y) none⟩ s) Ls ρ d L:=by
 subst hj
 have hr':=hr
 obtain⟨a,c,b,o,rfl,h2,h3,h4,h5,h6,h7,h8⟩:=hr
 have hc:EA xs.length c none (some (ev ρ y)) none=some (0,n,c):=by
  simp only[EA,HH,HB,HM,Ahd,Aij,ey,bnd];rw[if_pos (by omega)];simp
 refine w_q Z ⟨a,xs.length,c,0,n,c,ex,h3,hc,Z⟩ (k _ ?_)
 simpa using hr'.cut (l:=0) (h:=n) (m:=c) (by omega) (by omega) (Afe c) hn
def NM{j':Int}(ex:ev ρ x=v)(hr:RSl sz R d v xs)(ey:ev ρ y=.int kk j)(ez:ev ρ z=.int kk' j')(hj:j=(n:Int))(hj':j'=(n:Int))(hn:n≤xs.length)(k:∀v',RSl sz R d v' (xs.take n)→gws P pan Qn s Ls (upd ρ t v') d L):
  gws P pan Qn (.op tk ⟨some t,none,.sl sz x none (some y) (some z)⟩ s) Ls ρ d L:=by
 subst hj;subst hj'
 have hr':=hr
 obtain⟨a,c,b,o,rfl,h2,h3,h4,h5,h6,h7,h8⟩:=hr
 have hc:EA xs.length c none (some (ev ρ y)) (some (ev ρ z))=some (0,n,n):=by
  simp only[EA,HH,HB,HM,ey,ez,bnd];rw[if_pos (by omega)];simp
 refine w_q Z ⟨a,xs.length,c,0,n,n,ex,fun h0=>h3 (by omega),hc,Z⟩ (k _ ?_)
 simpa using hr'.cut (l:=0) (h:=n) (m:=n) (by omega) (by omega) (by omega) hn
def Ex(ex:ev ρ x=v)(hr:RSl sz R d v xs)(ey:ev ρ y=.int kk j)(hj:j=(n:Int))(hn:n≤xs.length)(k:∀v',RSl sz R d v' (xs.drop n)→gws P pan Qn s Ls (upd ρ t v') d L):
  gws P pan Qn (.op tk ⟨some t,none,.sl sz x (some y) none none⟩ s) Ls ρ d L:=by
 subst hj
 have hr':=hr
 obtain⟨a,c,b,o,rfl,h2,h3,h4,h5,h6,h7,h8⟩:=hr
 have hc:EA xs.length c (some (ev ρ y)) none none=some (n,xs.length,c):=by
  simp only[EA,HH,HB,HM,Ajv,Afh,if_false,Ahd,ey,bnd];rw[if_pos (by omega)];simp
 refine w_q Z ⟨a,xs.length,c,n,xs.length,c,ex,fun(h0:c≠n)=>h3 (by omega),hc,Z⟩ (k _ ?_)
 have:=hr'.cut (l:=n) (h:=xs.length) (m:=c) (by omega) (by omega) (Afe c) (Afe _)
 rwa [Agt (by simp)] at this
def AcY{j':Int}(ex:ev ρ x=v)(hr:RSl sz R d v xs)(ey:ev ρ y=.int kk j)(ez:ev ρ z=.int kk' j')(hj:j=(n:Int))(hj':j'=(m:Int))(hnm:n≤m)(hn:m≤xs.length)(k:∀v',RSl sz R d v' ((xs.drop n).take (m - n))→gws P pan Qn s Ls (upd ρ t v') d L):
  gws P pan Qn (.op tk ⟨some t,none,.sl sz x (some y) (some z) none⟩ s) Ls ρ d L:=by
 subst hj;subst hj'
 have hr':=hr
 obtain⟨a,c,b,o,rfl,h2,h3,h4,h5,h6,h7,h8⟩:=hr
 have hc:EA xs.length c (some (ev ρ y)) (some (ev ρ z)) none=some (n,m,c):=by
  simp only[EA,HH,HB,HM,Ahd,ey,ez,bnd];rw[if_pos (by omega)];simp only[Ahd,Int.toNat_natCast];rw[if_pos (by omega)];simp
 exact w_q Z ⟨a,xs.length,c,n,m,c,ex,fun(h0:c≠n)=>h3 (by omega),hc,Z⟩ (k _ (hr'.cut (l:=n) (h:=m) (m:=c) hnm (by omega) (Afe c) hn))
end
section
variable {P:Program}{pan:List PanicEntry→AP}{Qn:Env→AP}{Ls L:List Aa}{ρ:Env}{d:Aa}{s:GS}{t:Nat}
def VK{sz by_:Nat}{z x y}(i:Nat){v}{n m b:Nat}{xs cs h}(ex:ev ρ x=v)(hi:L[i]?=some h)(ho:Cf sz v n xs h)
  (ey:ev ρ y=.slice (some ⟨b,0,none⟩) m m) (hl:cs.length=m*sz) (h1:(cs.all (·.oneCell'))=true) (hsz:0<sz) (hm:n+m≤140737488355328) (hb:(n+m)*by_≤140737488355328)
  (k:∀v' h',Cf sz v' (n+m) (xs++cs) h'→gws P pan Qn s Ls (upd ρ t v') d (L.set i h')):gws P pan Qn (.op false ⟨some t,none,.app sz by_ z x y⟩ s) Ls ρ d (bx b T cs::L):=by
 have hrd:RdX d (Ls++(bx b T cs::L)++(bx b T cs::L)) (.slice (some ⟨b,0,none⟩) m m) m sz cs:=
  RdX.lit (T:=T) (Ls.length) (by rw[Afg,Ahb (Afe _)];simp) hl
 refine Qx (i+1) ex (by simpa using hi) ho ey hrd h1 hsz hm hb (fun v' h' o=>⟨d,L.set i h',?_,k v' h' o⟩)
 rw[Aje]
 exact Vs.drop (Age _ _)
end
def Vs.WG{d}(Ls:List (List Aa))(is js:List Nat)(hp:(is++js).isPerm (Agf Ls.length)=true):Vs d Ls.flatten d ((is.map fun i=>Ls.getD i []).flatten):=by
 have hp:(is++js).Perm (Agf Ls.length):=List.isPerm_iff.1 hp;have h1:=hp.symm.map fun i=>Ls.getD i [];have h0:(Agf Ls.length).map (fun i=>Ls.getD i [])=Ls:=by
  apply Akg
  ·simp
  ·intro i h1 h2;simp[List.getD,h2]
 rw[h0,Ahk] at h1;have h2:=h1.flatten;rw[List.flatten_append] at h2;exact(Vs.perm h2).trans (Vs.drop (Ajl _ _))
section
variable {P:Program}{Q:Co}{ρ:Env}{d:Aa}{L:List Aa}
def BE{s}(Ls L1:List Aa)(hL:L=Ls++L1)(h:gws P Q.pan Q.n s Ls ρ d L1):gwp P (.reg true s) Q ρ d L:=⟨d,Ls,L1,by rw[hL];exact Vs.refl d _,h⟩
def A6{res:List Hc}{R}(vs:List Value){d' L'}(hr:Hq ρ (HC d L) res vs)(hs:Vs d L d' L')(h:R (.returned (Lh vs)) d' L'):C9 res R ρ d L:=
 ⟨vs,hr,d',L',hs,h⟩
end
def Zl{l}{m:Nat}{x}(h:m<l.length):patch l m [x]=l.set m x:=by
 rw[List.set_eq_take_append_cons_drop,if_pos h];simp[patch]
def Cf.Aet{n:Nat}{v us h}(o:Cf 1 v n us h){m:Nat}(hm:m<n):
  ∃b T l c,v=.slice (some ⟨b,0,none⟩) n c∧h=bx b T l∧m<l.length∧(∀u,us[m]?=some u→l[m]?=some u)∧∀x,Cf 1 v n (us.set m x) (bx b T (patch l m [x])):=by
 obtain⟨h1,h2,⟨rfl,rfl,rfl⟩|⟨b,T,l,c,rfl,rfl,h3,h4,h5,h6⟩⟩:=o
 ·omega
 ·have hml:m<l.length:=by omega
  refine⟨b,T,l,c,Z,Z,hml,fun u hu=>?_,fun x=>?_⟩
  ·rw[←h6] at hu
   rw[Ahc (by omega)] at hu
   exact hu
  ·rw[Zl hml]
   refine⟨by simpa using h1,h2,.inr ⟨b,T,l.set m x,c,Z,Z,h3,h4,by simpa using h5,?_⟩⟩
   rw[Agg,List.take_set,h6]
def Ai.CE{d v xs h}(o:Ai 1 Ax d v xs h){m:Nat}(hm:m<xs.length):
  ∃b T l c,v=.slice (some ⟨b,0,none⟩) xs.length c∧h=bx b T l∧m<l.length∧l[m]?=some (Al xs[m])∧∀y,Ai 1 Ax d v (xs.set m y) (bx b T (patch l m [Al y])):=by
 obtain⟨b,T,l,c,h1,h2,h3,h4,h5⟩:=o.bytes.Aet hm
 refine⟨b,T,l,c,h1,h2,h3,h4 _ (by simp[hm]),fun y=>?_⟩
 have:=h5 (Al y)
 rw[←List.map_set] at this
 refine⟨(xs.set m y).map Al,by rw[Agg];exact this,fun i hi=>?_⟩
 simp only[Ax,chunk,Aho,←Akq,←Akr]
 rw[Afy hi];rfl
section
variable {P:Program}{pan:List PanicEntry→AP}{Qn:Env→AP}{Ls L:List Aa}{ρ:Env}{d:Aa}{s:GS}{t:Nat}{tk:Bool}
def ML{x i}{b n c:Nat}{k}(m:Nat)(ex:ev ρ x=.slice (some ⟨b,0,none⟩) n c)(ei:ev ρ i=.int k j)(hm:j=(m:Int))(hl:m<n)
  (h:gws P pan Qn s Ls (upd ρ t (.pointer (some ⟨b,m,none⟩))) d L):gws P pan Qn (.op tk ⟨some t,none,.idx 1 x i⟩ s) Ls ρ d L:=
 B3 (o:=0) m ex ei hm hl (SAd.some n b 0) (by rw[Ahg,Aho];exact h)
end
end
section
def flat:List (List Aa)→List Aa
 |[]=>[]
 |[l]=>l
 |l::m::Ls=>l++flat (m::Ls)
def VM:∀Ls:List (List Aa),flat Ls=Ls.flatten
 |[]=>rfl
 |[l]=>by simp[flat]
 |l::m::Ls=>by simp only[flat];rw[VM (m::Ls)];simp
def Vs.TR{d L L'}(Ls:List (List Aa))(is js:List Nat)(hp:(is++js).isPerm (Agf Ls.length)=true)(hL:L=flat Ls)(hL':(is.map fun i=>Ls.getD i []).flatten=L'):Vs d L d L':=by
 subst hL';rw[hL,VM];exact Vs.WG Ls is js hp
def Ao.borrow{P vs d L}{Q:Value→List Aa→Prop}(h:∀d1,Le d d1→(∀k∈L,Le k d1)→Ao P f vs d1 [] (Ret fun r d' L'=>d'=d1∧Q r L')):
  Ao P f vs d L (Ret fun r d' L'=>d'=d∧∃L1,L'=L1++L∧Q r L1):=by
 have h:=h (IE (d::L)) (Jt (Afn ..)) (fun k hk=>Jt (Afr _ hk))
 refine⟨h.1,fun F W x=>?_⟩
 have hp:=x.pw
 have y:Ok (IE (d::L)::([]++F)) W:=by
  have:=(Vs.Xh (d:=emp) (L0:=F) (L:=d::L)).2 [] W (by simpa using x.emp);simpa using this.tail
 refine(h.2 F W y).mono fun e W' ⟨d',L',a,b,c,r⟩=>?_
 cases e with
 |panicked c=>exact r.elim
 |outgrown=>exact r.elim
 |returned u=>
  obtain⟨rfl,r⟩:=r
  refine⟨d,L'++L,?_,Le.refl d,c,Z,L',Z,r⟩
  have:=(Vs.W4 (d:=emp) (L0:=L'++F) hp).2 [] W' (by simpa using a.emp)
  have z:Ok ((d::L)++(L'++F)) W':=by simpa using this.tail
  refine z.perm ?_
  simp only[Agy,Afg]
  refine List.Perm.cons d ?_
  rw[←Afg,←Afg]
  exact List.Perm.append_right F Afi
section
variable {P:Program}{pan:List PanicEntry→AP}{Qn:Env→AP}{Ls L:List Aa}{ρ:Env}{d:Aa}{s:GS}{t:Nat}{tk:Bool}
def Bb{n:Nat}{b o:Nat}{l}(i:Nat)(l':List Value)(hi:L[i]?=some (bx b T l))(ex:ev ρ x=.pointer (some ⟨b,o,none⟩))(ey:ev ρ y=v)
  (hn:v.cells.size=n) (hl:o+n≤l.length) (h1:(v.cells.toList.all (·.oneCell'))=true) (hp:patch l o v.cells.toList=l') (h:gws P pan Qn s Ls ρ d (L.set i (bx b T l'))):
  gws P pan Qn (.op false ⟨none,none,.st n x y⟩ s) Ls ρ d L:=by subst hp;exact Cg i hi ex ey hn hl h1 h
def Ka{args}{Q:Value→List Aa→Prop}{vs}(ea:args.map (ev ρ)=vs)(hc:∀d1,Le d d1→(∀k∈L,Le k d1)→Ao P f vs d1 [] (Ret fun r d' L'=>d'=d1∧Q r L'))
  (h:∀r L',Q r L'→gws P pan Qn s Ls (upd ρ t r) d (L'++L)):gws P pan Qn (.op false ⟨some t,none,.call f args⟩ s) Ls ρ d L:=by
 refine Gb (R:=fun r d' L'=>d'=d∧∃L1,L'=L1++L∧Q r L1) L.length ea (by rw[Agz];exact Ao.borrow hc) (fun r d' L' _ ⟨h1,L1,h2,h3⟩=>?_)
 subst h1;subst h2
 rw[Aig,Agj];exact h r L1 h3
def TS{k'}{a:Nat}(ex:ev ρ x=vZ a)(ey:ev ρ y=.int k' 8)(ha:a≤1000000000000)(h:gws P pan Qn s Ls (upd ρ t (vZ (a*256:Nat))) d L):
  gws P pan Qn (.op tk ⟨some t,none,.bin .shl x y⟩ s) Ls ρ d L:=by
 refine DQ ?_ h
 have h1:min (Int.toNat 8) IntKind.i64.bits=8:=by simp[IntKind.bits]
 rw[ex,ey]
 simp only[Dz,h1]
 rw[if_neg (by omega),D3 (by omega) (by omega)]
 congr 2
def Su{a b:Nat}(ex:ev ρ x=vZ (a*256:Nat))(ey:ev ρ y=vZ b)(ha:a≤1000000000000)(hb:b<256)(h:gws P pan Qn s Ls (upd ρ t (vZ (a*256+b:Nat))) d L):
  gws P pan Qn (.op tk ⟨some t,none,.bin .or x y⟩ s) Ls ρ d L:=by
 refine DQ ?_ h
 have e:(BitVec.ofInt IntKind.i64.bits ((a*256:Nat):Int)|||BitVec.ofInt IntKind.i64.bits ((b:Nat):Int)).toNat=a*256+b:=by
  have h1:=Nat.shiftLeft_add_eq_or_of_lt (i:=8) hb a;rw[Nat.shiftLeft_eq] at h1;show((BitVec.ofInt 64 ((a*256:Nat):Int):BitVec 64)|||(BitVec.ofInt 64 ((b:Nat):Int):BitVec 64)).toNat=_;rw[BitVec.toNat_or,BitVec.ofInt_natCast,BitVec.ofInt_natCast,BitVec.toNat_ofNat,BitVec.toNat_ofNat];rw[Ain (by omega),Ain (by omega)];exact h1.symm
 rw[ex,ey]
 simp only[Dz,e]
 rw[D3 (by omega) (by omega)]
 simp
def Yu{a b:Int}(ex:ev ρ x=.int .u8 a)(ey:ev ρ y=.int .u8 b)(h1:0≤a+b)(h2:a+b≤255)
  (h:gws P pan Qn s Ls (upd ρ t (.int .u8 (a+b))) d L):gws P pan Qn (.op tk ⟨some t,none,.bin .add x y⟩ s) Ls ρ d L:=
 DQ (by
  have e:IntKind.u8.wrap (a+b)=a+b:=by simp[IntKind.wrap,IntKind.signed,IntKind.bits];omega
  rw[ex,ey];simp[Dz,e]) h
end
def LM{P}{Q:Co}{ρ d L s d1}(Ls L1:List Aa)(hv:Vs d L d1 (Ls++L1))(h:gws P Q.pan Q.n s Ls ρ d1 L1):gwp P (.reg true s) Q ρ d L:=⟨d1,Ls,L1,hv,h⟩
def Ai.DY{d d' xs h}(o:Ai 1 RBs d v xs h)(hl:Le d d'):Ai 1 RBs d' v xs h:=Ai.mono (R:=RBs) CY o hl
def Ai.JJ{d d'}{xs:List Int}{h}(o:Ai 1 Bh d v xs h)(hl:Le d d'):Ai 1 Bh d' v xs h:=Ai.mono (R:=Bh) Ck o hl
end
section
section
variable {P:Program}{Q:Co}{ρ:Env}{d:Aa}{L:List Aa}
def Cd(h:xwp P a {Q with n:=xwp P b Q} ρ d L):xwp P (.seq a b) Q ρ d L:=h
def x_g{c:CC}(h:gwp P c Q ρ d L):xwp P (.g c) Q ρ d L:=h
def Aem{c}(e:ev ρ c=.bool true)(h:xwp P a Q ρ d L):xwp P (.cond c a b) Q ρ d L:=⟨true,e,fun _=>h,fun q=>by cases q⟩
def AbH{c}(e:ev ρ c=.bool false)(h:xwp P b Q ρ d L):xwp P (.cond c a b) Q ρ d L:=⟨false,e,fun q=>(by cases q),fun _=>h⟩
def He{id:Nat}(h:xwp P a {Q with ex:=fun j=>if j=id then Q.n else Q.ex j} ρ d L):xwp P (.block id a) Q ρ d L:=h
def QK{c:EH}(l:List (Nat×Value))(e:BN ρ l)(h:xwp P c Q (J4 ρ l) d L):xwp P c Q ρ d L:=by rwa [JG e] at h
end
def Gm{P}:∀(c:EH) {Q Q':Co}{ρ d L},xwp P c Q ρ d L→(∀ρ d L,Q.n ρ d L→Q'.n ρ d L)→(∀i ρ d L,Q.ex i ρ d L→Q'.ex i ρ d L)→
  (∀ρ d L,Q.ret ρ d L→Q'.ret ρ d L)→Q.pan=Q'.pan→xwp P c Q' ρ d L
 |.g c,_,_,_,_,_,h,h1,h2,h3,h4=>Fk c h h1 h2 h3 h4
 |.seq a b,_,_,_,_,_,h,h1,h2,h3,h4=>Gm a h (fun _ _ _ h=>Gm b h h1 h2 h3 h4) h2 h3 h4
 |.cond c a b,_,_,_,_,_,⟨t,e,k1,k2⟩,h1,h2,h3,h4=>⟨t,e,fun q=>Gm a (k1 q) h1 h2 h3 h4,fun q=>Gm b (k2 q) h1 h2 h3 h4⟩
 |.block id a,Q,Q',_,_,_,h,h1,h2,h3,h4=>by
  refine Gm a (Q:={Q with ex:=fun j=>if j=id then Q.n else Q.ex j}) (Q':={Q' with ex:=fun j=>if j=id then Q'.n else Q'.ex j}) h h1 (fun i ρ d L hq=>?_) h3 h4;simp only at hq⊢;split at hq
  ·rename_i e;rw[if_pos e];exact h1 _ _ _ hq
  ·rename_i e;rw[if_neg e];exact h2 _ _ _ _ hq
 |.loop a,Q,Q',_,_,_,⟨I,⟨m,hI⟩,round⟩,h1,h2,h3,h4=>
  ⟨I,⟨m,hI⟩,fun m ρ d L hi=>Gm a (Q:={Q with n:=_}) (Q':={Q' with n:=_}) (round m ρ d L hi) (fun _ _ _ h=>h) h2 h3 h4⟩
 |.yl pre dst f args post,Q,Q',_,_,_,h,h1,_,_,h4=>by
  simp only[xwp] at h⊢;rw[←h4];refine DX (fun ρ d L hm=>?_) pre h;obtain⟨l,A,B,R,e1,e2,hy,hR⟩:=hm;exact⟨l,A,B,R,e1,e2,hy,fun v d2 L2 hl hr=>by rw[←h4];exact DX h1 post (hR v d2 L2 hl hr)⟩
 |.snd pre dst ch x post,Q,Q',_,_,_,h,h1,_,_,h4=>by
  simp only[xwp] at h⊢;rw[←h4];refine DX (fun ρ d L hm=>?_) pre h;obtain⟨i,c,cap,buf,s,r,tm,e1,e2,e3,hR⟩:=hm;exact⟨i,c,cap,buf,s,r,tm,e1,e2,e3,by rw[←h4];exact DX h1 post hR⟩
 |.sel pre dst ch z post,Q,Q',_,_,_,h,h1,_,_,h4=>by
  simp only[xwp] at h⊢;rw[←h4];refine DX (fun ρ d L hm=>?_) pre h;obtain⟨i,c,cap,buf,s,r,tm,e1,e2,k1,k2⟩:=hm;exact⟨i,c,cap,buf,s,r,tm,e1,e2,fun v rest e=>by rw[←h4];exact DX h1 post (k1 v rest e),fun e=>by rw[←h4];exact DX h1 post (k2 e)⟩
 |.rf f ps as bd,_,_,_,_,_,⟨g,first,cap,e1,hit⟩,h1,h2,h3,h4=>by
  refine⟨g,first,cap,e1,fun l rc k1 k2 k3=>?_⟩
  obtain⟨R,hc,hR⟩:=hit l rc k1 k2 k3;refine⟨R,hc,fun e d' L' hl hr=>?_⟩
  obtain⟨v,rc',L'',q1,q2,q3,q4⟩:=hR e d' L' hl hr;refine⟨v,rc',L'',q1,q2,q3,?_⟩
  cases hp:rc'.pending with
  |none=>rw[hp] at q4;exact h1 _ _ _ q4
  |some j=>
   rw[hp] at q4
   cases j with
   |exit id=>exact h2 _ _ _ _ q4
   |ret=>exact h3 _ _ _ q4
   |_=>exact q4
def UE{P}{c:EH}{Q:Co}{N N':Env→AP}(hn:∀ρ d L,N ρ d L→N' ρ d L){ρ d L}(h:xwp P c {Q with n:=N} ρ d L):xwp P c {Q with n:=N'} ρ d L:=
 Gm c h hn (fun _ _ _ _ h=>h) (fun _ _ _ h=>h) Z
section
variable {P:Program}{Q:Co}{ρ:Env}{d:Aa}{L:List Aa}
def Aed(M:Env→AP)(h1:xwp P a {Q with n:=M} ρ d L)(h2:∀ρ d L,M ρ d L→xwp P b Q ρ d L):xwp P (.seq a b) Q ρ d L:=
 Cd (UE h2 h1)
def Q3{α}(slots:α→List (Nat×Value))(inv:α→Aa→List Aa→Prop)(meas:α→Nat)(x0:α)(h0:BN ρ (slots x0))(i0:inv x0 d L)
  (round:∀x ρ d L,inv x d L→xwp P a {Q with n:=fun ρ d L=>∃x',meas x'<meas x∧BN ρ (slots x')∧inv x' d L} (J4 ρ (slots x)) d L):xwp P (.loop a) Q ρ d L:=by
 refine⟨fun m ρ d L=>∃x,meas x=m∧BN ρ (slots x)∧inv x d L,⟨meas x0,x0,Z,h0,i0⟩,?_⟩
 rintro m ρ d L ⟨x,rfl,h1,h2⟩
 exact QK _ h1 (UE (fun ρ' d' L' ⟨x',k1,k2,k3⟩=>⟨meas x',k1,x',Z,k2,k3⟩) (round x ρ d L h2))
def AaU{f args}(h:gws P Q.pan (Sx P Q dst f args post) pre [] ρ d L):xwp P (.yl pre dst f args post) Q ρ d L:=h
def AbM(h:gws P Q.pan (PK P Q dst ch x post) pre [] ρ d L):xwp P (.snd pre dst ch x post) Q ρ d L:=h
def Ad3(h:gws P Q.pan (Mo P Q dst ch z post) pre [] ρ d L):xwp P (.sel pre dst ch z post) Q ρ d L:=h
def Q8{f args}{l:Nat}{vs}(A B:List Aa){R}(ef:ev ρ f=.func (.yield l) #[] #[])(hL:L=A++B)(ea:args.map (ev ρ)=vs)(hy:Kg P l vs d A R)
  (k:∀v d2 L2,Le d d2→R v d2 L2→gws P Q.pan Q.n post [] (put ρ dst v) d2 (L2++B)):Sx P Q dst f args post ρ d L:=
 ⟨l,A,B,R,ef,hL,ea▸hy,k⟩
def XU(i:Nat){c:Nat}{buf}{s r:Nat}(ec:ev ρ ch=.chan (some c))(hi:L[i]?=some (sg c (.chan cap buf.toArray false s r tm)))(hroom:buf.length<cap)(ex:ev ρ x=v)
  (k:gws P Q.pan Q.n post [] (put ρ dst undef) d (L.set i (sg c (.chan cap (buf++[v]).toArray false (s+1) r tm)))):PK P Q dst ch x post ρ d L:=
 ⟨i,c,cap,buf,s,r,tm,ec,hi,hroom,ex▸k⟩
def Yw(i:Nat){c:Nat}{buf}{s r:Nat}(ec:ev ρ ch=.chan (some c))(hi:L[i]?=some (sg c (.chan cap (v::buf).toArray false s r tm)))
  (k:gws P Q.pan Q.n post [] (put ρ dst (.tuple #[vZ 0,.bool true,v])) d (L.set i (sg c (.chan cap buf.toArray false s (r+1) tm)))):Mo P Q dst ch z post ρ d L:=
 ⟨i,c,cap,v::buf,s,r,tm,ec,hi,fun v' rest e=>by cases e;exact k,fun e=>by cases e⟩
def YZ(i:Nat){c:Nat}{s r:Nat}(ec:ev ρ ch=.chan (some c))(hi:L[i]?=some (sg c (.chan cap #[] false s r tm)))
  (k:gws P Q.pan Q.n post [] (put ρ dst (.tuple #[vZ (-1),.bool false,z])) d L):Mo P Q dst ch z post ρ d L:=
 ⟨i,c,cap,[],s,r,tm,ec,hi,(fun v' rest e=>by cases e),fun _=>k⟩
end
end
section
section
variable {P:Program}{pan:List PanicEntry→AP}{Qn:Env→AP}{Ls L:List Aa}{ρ:Env}{d:Aa}{s:GS}{t:Nat}{tk:Bool}
def Z3(a:Int):IntKind.u64.wrap a=a % 18446744073709551616:=by simp[IntKind.wrap,IntKind.signed,IntKind.bits]
def AdD{j}{a:Int}(ex:ev ρ x=.int j a)(h:gws P pan Qn s Ls (upd ρ t (.int .u64 (a % 18446744073709551616))) d L):gws P pan Qn (.op tk ⟨some t,none,.cvi .u64 x⟩ s) Ls ρ d L:=
 Xn ex (by rw[Z3];exact h)
def DN{x0 v0}(e0:ev ρ x0=v0)(c0:v0.cells= #[v0])(h:∀b T,gws P pan Qn s Ls (upd ρ t (.slice (some ⟨b,0,none⟩) 1 1)) d (bx b T [v0]::L)):
  gws P pan Qn (.op false ⟨some t,none,.bsl 1 1 [z] [(0,x0)]⟩ s) Ls ρ d L:=by
 refine Dq (by omega) ?_ h
 simp[Instr.fill,BD,Agf,List.range.loop,e0,c0]
def Aes{x0 x1 v0 v1}(e0:ev ρ x0=v0)(c0:v0.cells= #[v0])(e1:ev ρ x1=v1)(c1:v1.cells= #[v1])(h:∀b T,gws P pan Qn s Ls (upd ρ t (.slice (some ⟨b,0,none⟩) 2 2)) d (bx b T [v0,v1]::L)):
  gws P pan Qn (.op false ⟨some t,none,.bsl 2 1 [z] [(0,x0),(1,x1)]⟩ s) Ls ρ d L:=by
 refine Dq (by omega) ?_ h
 simp[Instr.fill,BD,Agf,List.range.loop,e0,c0,e1,c1]
def Ac9{a b:Int}(ex:ev ρ x=vZ a)(ey:ev ρ y=vZ b)(h1: -9223372036854775808≤a)(h2:a≤9223372036854775807)(h3:2≤b)(h:gws P pan Qn s Ls (upd ρ t (vZ (a.tdiv b))) d L):
  gws P pan Qn (.op tk ⟨some t,none,.bin .quo x y⟩ s) Ls ρ d L:=by
 refine DQ ?_ h
 have h4:¬b=0:=by omega
 have h5:(a.tdiv b).natAbs≤a.natAbs:=by rw[Int.natAbs_tdiv];exact Nat.div_le_self _ _
 have h6:a= -9223372036854775808→(a.tdiv b).natAbs≤9223372036854775807:=by
  intro e;rw[Int.natAbs_tdiv,e];have:2≤b.natAbs:=by omega
  have e2:(-9223372036854775808:Int).natAbs=9223372036854775808:=by decide
  rw[e2];have:=Nat.div_le_div_left (a:=9223372036854775808) this (by omega);exact Ahq this (by decide)
 rw[ex,ey];simp[Dz,h4];exact D3 (by omega) (by omega)
def H5{i}{len sz b o:Nat}(m:Nat)(ex:ev ρ x=.pointer (some ⟨b,o,none⟩))(ei:ev ρ i=.int k j)(hm:j=(m:Int))(hl:m<len)(h:gws P pan Qn s Ls (upd ρ t (.pointer (some ⟨b,o+m*sz,none⟩))) d L):
  gws P pan Qn (.op tk ⟨some t,none,.idxa len sz x i⟩ s) Ls ρ d L:=by
 subst hm
 exact w_q Z ⟨b,o,k,m,ex,ei,by omega,by omega,Z⟩ h
end
def Ao.forget{P args d L}{Q:Value→List Aa→Prop}(h:Ao P f args d L (Ret fun r _ L'=>Q r L')):Ao P f args d L (Ret fun r d' L'=>d'=d∧Q r L'):=
 ⟨h.1,fun F W x=>(h.2 F W x).mono fun e W' ⟨d',L',a,b,c,r⟩=>⟨d,L',a.le b,Le.refl d,c,by
  cases e with
  |returned v=>exact⟨Z,r⟩
  |panicked c=>exact r.elim
  |outgrown=>exact r.elim⟩⟩
def Dj.of{P args d}(h:Ao P f args d [] (Ret fun r _ L'=>r=v∧L'=[])):Dj P f args d v:=
 (Ao.forget (Q:=fun r L'=>r=v∧L'=[]) h).mono fun e d' L' _ r=>by
  cases e with
  |returned v=>exact⟨r.2.1,r.1,r.2.2⟩
  |panicked c=>exact r.elim
  |outgrown=>exact r.elim
section
variable {ρ:Env}{d:Aa}{L:List Aa}{t u:Nat}
end
end
section
section
variable {P:Program}{pan:List PanicEntry→AP}{Qn:Env→AP}{Ls L:List Aa}{ρ:Env}{d:Aa}{s:GS}{t:Nat}{tk:Bool}
end
end
section
section
variable {P:Program}{pan:List PanicEntry→AP}{Qn:Env→AP}{Ls L:List Aa}{ρ:Env}{d:Aa}{s:GS}{t:Nat}{tk:Bool}
end
end
end Go.Gk
end
section
namespace Go.Gk
open Go
section
variable {P:Program}{pan:List PanicEntry→AP}{Qn:Env→AP}{Ls L:List Aa}{ρ:Env}{d:Aa}{s:GS}
def I1{α:Type}{sz by_ t:Nat}{R:Aa→List Value→α→Prop}{z:List Value}{x y:Operand}{v w:Value}{xs ys:List α}{h:Aa}(hR:Gu R)(ex:ev ρ x=v)(ho:Ai sz R d v xs h)
  (ey:ev ρ y=w) (hs:Src sz R d (Ls++(h::L)++(h::L)) w ys) (hsz:0<sz) (hm:xs.length+ys.length≤140737488355328) (hb:(xs.length+ys.length)*by_≤140737488355328)
  (k:∀a c d',Le d d'→RSl sz R d' (.slice a (xs++ys).length c) (xs++ys)→gws P pan Qn s Ls (upd ρ t (.slice a (xs++ys).length c)) d' L):gws P pan Qn (.op false ⟨some t,none,.app sz by_ z x y⟩ s) Ls ρ d (h::L):=by
 obtain⟨cs,h1,h2⟩:=ho
 obtain⟨news,k1,k2,k3⟩:=hs
 have hl:=h1.1
 refine Qx 0 ex Z h1 ey k1 k2 hsz hm hb (fun v' h' o=>⟨join d h',L,Vs.freeze,?_⟩)
 have hg:Ai sz R d v' (xs++ys) h':=by
  refine⟨cs++news,by rw[Afk];exact o,fun j hj=>?_⟩
  by_cases e:j<xs.length
  ·rw[GK hl e,Ajm e];exact h2 j e
  ·rw[Gi hl (by omega),Ajh (by omega)];exact k3 _ (by simp at hj;omega)
 have hr:=hg.rsl hR hsz (Le.Ar d h') (Le.Bc d h')
 obtain⟨a,c,rfl⟩:=hr.val
 exact k a c _ (Le.Ar d h') hr
def Ado{α:Type}{sz by_ t0 t1 t2:Nat}{R:Aa→List Value→α→Prop}{z:List Value}{x y:Operand}{vx vy:Value}{xs ys:List α}(hR:Gu R)(hc:F1 R)(hsz:0<sz)(_:(t0==t1)=false)
  (rx:RSl sz R d vx xs) (ry:RSl sz R d vy ys) (ex:∀u,ev (upd ρ t0 u) x=vx) (ey:∀u w,ev (upd (upd ρ t0 u) t1 w) y=vy) (hb:(xs.length+ys.length)*by_≤140737488355328) (hm:xs.length+ys.length≤140737488355328)
  (k:∀v0 v1 a c d',Le d d'→RSl sz R d' (.slice a (xs++ys).length c) (xs++ys)→gws P pan Qn s Ls (upd (upd (upd ρ t0 v0) t1 v1) t2 (.slice a (xs++ys).length c)) d' L):
  gws P pan Qn (.op false ⟨some t0,none,.bsl 0 sz z []⟩ (.op false ⟨some t1,none,.app sz by_ z (.tmp t0) x⟩ (.op false ⟨some t2,none,.app sz by_ z (.tmp t1) y⟩ s))) Ls ρ d L:=by
 have up:∀(ρ:Env) (t:Nat) (v:Value),ev (upd ρ t v) (.tmp t)=v:=fun ρ t v=>by simp[ev,upd]
 refine Dq (cs:=[]) (by simp) (by simp[Instr.fill,BD]) (fun b T=>?_)
 have hm1:xs.length*by_≤140737488355328:=Ahq (Agr _ (by omega)) hb
 refine FR (R:=R) 0 (up _ _ _) Z (Ai.J8 (R:=R) (sz:=sz)) (ex _) (rx.src hc hsz _) hsz (by simp;omega) (by simpa using hm1) (fun v1 h1 o1=>?_)
 rw[Agh] at o1
 exact I1 (R:=R) hR (up _ _ _) o1 (ey _ _) (ry.src hc hsz _) hsz hm hb (fun a c d' hl hr=>k _ _ a c d' hl hr)
def Ads{α:Type}{sz by_ t0 t1:Nat}{R:Aa→List Value→α→Prop}{z:List Value}{x:Operand}{vx:Value}{xs:List α}(_:Gu R)(hc:F1 R)(hsz:0<sz)
  (rx:RSl sz R d vx xs) (ex:∀u,ev (upd ρ t0 u) x=vx) (hb:xs.length*by_≤140737488355328) (hm:xs.length≤140737488355328)
  (k:∀v0 v1 h1,Ai sz R d v1 xs h1→gws P pan Qn s Ls (upd (upd ρ t0 v0) t1 v1) d (h1::L)):
  gws P pan Qn (.op false ⟨some t0,none,.bsl 0 sz z []⟩ (.op false ⟨some t1,none,.app sz by_ z (.tmp t0) x⟩ s)) Ls ρ d L:=by
 have up:∀(ρ:Env) (t:Nat) (v:Value),ev (upd ρ t v) (.tmp t)=v:=fun ρ t v=>by simp[ev,upd]
 refine Dq (cs:=[]) (by simp) (by simp[Instr.fill,BD]) (fun b T=>?_)
 refine FR (R:=R) 0 (up _ _ _) Z (Ai.J8 (R:=R) (sz:=sz)) (ex _) (rx.src hc hsz _) hsz (by simp;omega) (by simpa using hb) (fun v1 h1 o1=>?_)
 rw[Agh] at o1
 exact k _ _ _ o1
end
end Go.Gk
namespace Go.Gk
open Go
section
variable {P:Program}{pan:List PanicEntry→AP}{Qn:Env→AP}{Ls L:List Aa}{ρ:Env}{d:Aa}{s:GS}{t:Nat}{tk:Bool}
def AdH{x y}{a b:Int}(ex:ev ρ x=vZ a)(ey:ev ρ y=vZ b)(h:∀u,(-9223372036854775808≤a+b→a+b≤9223372036854775807→u=a+b)→gws P pan Qn s Ls (upd ρ t (vZ u)) d L):
  gws P pan Qn (.op tk ⟨some t,none,.bin .add x y⟩ s) Ls ρ d L:=
 DQ (by rw[ex,ey];simp[Dz]) (h (IntKind.i64.wrap (a+b)) (fun h1 h2=>D3 h1 h2))
end
end Go.Gk
namespace Go.Gk
open Go
def Da{l vs}{o k:Nat}(h:o+vs.length≤l.length):(patch l o vs)[k]?=if o≤k∧k<o+vs.length then vs[k - o]? else l[k]?:=by
 unfold patch;have hl:(l.take o).length=o:=by rw[Aft];omega
 by_cases h1:k<o
 ·rw[if_neg (by omega),Afg,Agx (by omega),Ahc h1]
 by_cases h2:k<o+vs.length
 ·rw[if_pos ⟨by omega,h2⟩,Agx (by rw[Afk];omega),Ahb (by omega),hl]
 ·rw[if_neg (by omega),Ahb (by rw[Afk];omega),Aha,Afk,hl];congr 1;omega
def BC{l vs}{o:Nat}(h:o+vs.length≤l.length):(patch l o vs).length=l.length:=by
 unfold patch;simp only[Afk,Aft,Afo];omega
def WQ{l vs}{o n:Nat}(h:o+vs.length≤n)(hn:n≤l.length):(patch l o vs).take n=patch (l.take n) o vs:=by
 refine Aio fun k=>?_;have hl:(l.take n).length=n:=by rw[Aft];omega
 rw[Da (by omega)];by_cases hk:k<n
 ·rw[Ahc hk,Ahc hk,Da (by omega)]
 ·rw[if_neg (by omega),Ago (by rw[Aft];omega),Ago (by omega)]
def JC{cs}{i sz k:Nat}:(chunk cs i sz)[k]?=if k<sz then cs[i*sz+k]? else none:=by
 unfold chunk;by_cases h:k<sz
 ·rw[Ahc h,Aha,if_pos h]
 ·rw[if_neg h,Ago (by rw[Aft];omega)]
def Vf{cs vs}{i m sz n:Nat}(hl:cs.length=n*sz)(hv:vs.length=sz)(hm:m<n):chunk (patch cs (m*sz) vs) i sz=if i=m then vs else chunk cs i sz:=by
 have h1:m*sz+sz≤n*sz:=by have:=Agr sz (show m+1≤n from hm);rwa [Aht,Ajg] at this
 refine Aio fun k=>?_;rw[JC];by_cases e:i=m
 ·subst e;rw[if_pos Z];by_cases hk:k<sz
  ·rw[if_pos hk,Da (by omega),if_pos (by omega)];congr 1;omega
  ·rw[if_neg hk,Ago (by omega)]
 ·rw[if_neg e,JC];by_cases hk:k<sz
  ·rw[if_pos hk,if_pos hk,Da (by omega),if_neg];rintro⟨a,b⟩;rcases Nat.lt_or_gt_of_ne e with q|q
   ·have:=Agr sz (show i+1≤m from q);rw[Aht,Ajg] at this;omega
   ·have:=Agr sz (show m+1≤i from q);rw[Aht,Ajg] at this;omega
  ·rw[if_neg hk,if_neg hk]
def Ai.Aeg{α}{sz:Nat}{R d v}{xs:List α}{h}(_:0<sz)(o:Ai sz R d v xs h){m:Nat}(hm:m<xs.length):
  ∃b T l c,v=.slice (some ⟨b,0,none⟩) xs.length c∧h=bx b T l∧m*sz+sz≤l.length∧∀cs' x,cs'.length=sz→R d cs' x→Ai sz R d v (xs.set m x) (bx b T (patch l (m*sz) cs')):=by
 obtain⟨cs,⟨h1,h2,⟨rfl,h0,rfl⟩|⟨b,T,l,c,rfl,rfl,h3,h4,h5,h6⟩⟩,hr⟩:=o
 ·omega
 ·have hmz:m*sz+sz≤xs.length*sz:=by have:=Agr sz (show m+1≤xs.length from hm);rwa [Aht,Ajg] at this
  have hcz:xs.length*sz≤c*sz:=Agr sz h3
  refine⟨b,T,l,c,Z,Z,by omega,fun cs' x hl hx=>⟨patch cs (m*sz) cs',?_,fun i hi=>?_⟩⟩
  ·have hp:(patch cs (m*sz) cs').length=cs.length:=BC (by omega)
   refine⟨by rw[hp,Agg,h1],by rw[Agg];exact h2,.inr ⟨b,T,_,c,by rw[Agg],Z,by rw[Agg];exact h3,h4,by rw[BC (by omega)];exact h5,?_⟩⟩
   rw[hp,WQ (by omega) (by omega),h6]
  ·rw[Vf h1 hl hm]
   rw[Agg] at hi
   by_cases e:i=m
   ·subst e
    rw[if_pos Z,List.getElem_set_self];exact hx
   ·rw[if_neg e,List.getElem_set_ne (fun q=>e q.symm)];exact hr i hi
end Go.Gk
end
section
namespace Go.Gk
open Go
section
section
variable {P:Program}{pan:List PanicEntry→AP}{Qn:Env→AP}{Ls L:List Aa}{ρ:Env}{d:Aa}{s:GS}{t:Nat}{tk:Bool}
def Aek{Q:Co}{c:CC}(M:Env→AP)(h:gwp P c {Q with n:=M} ρ d L)(k:∀ρ d L,M ρ d L→Q.n ρ d L):gwp P c Q ρ d L:=
 Fk c h k (fun _ _ _ _ h=>h) (fun _ _ _ h=>h) Z
end
end
section
section
variable {P:Program}{pan:List PanicEntry→AP}{Qn:Env→AP}{Ls L:List Aa}{ρ:Env}{d:Aa}{s:GS}{t:Nat}{tk:Bool}
end
end
section
section
variable {κ ν:Type}(kE:κ→Value) (vE:ν→Value)
def E0(ms:List (κ×ν×Nat)):List MapEntry:=ms.map fun p=>⟨kE p.1,vE p.2.1,p.2.2⟩
def mp(b:Nat)(ms:List (κ×ν×Nat))(c:Nat):Aa:=sg b (.map (E0 kE vE ms).toArray c)
end
section
variable {κ ν:Type} [DecidableEq κ]
def mIx(k:κ):List (κ×ν×Nat)→Nat→Option (Nat×ν)
 |[],_=>none
 |p::ms,i=>if k=p.1 then some (i,p.2.1) else mIx k ms (i+1)
def DV(k:κ):List (κ×ν×Nat)→Option ν
 |[]=>none
 |p::ms=>if k=p.1 then some p.2.1 else DV k ms
def GO(k:κ)(v:ν)(c:Nat):List (κ×ν×Nat)→List (κ×ν×Nat)
 |[]=>[(k,v,c)]
 |p::ms=>if k=p.1 then(p.1,v,p.2.2)::ms else p::GO k v c ms
def QN(k:κ)(c:Nat)(ms:List (κ×ν×Nat)):Nat:=if (DV k ms).isSome then c else c+1
def J2(k:κ):List (κ×ν×Nat)→List (κ×ν×Nat)
 |[]=>[]
 |p::ms=>if k=p.1 then ms else p::J2 k ms
def O0(kd:Nat)(kE:κ→Value):Prop:=∀a b,eq1 kd (kE a) (kE b)=some (decide (a=b))
def HD{kd:Nat}{kE:κ→Value}{vE:ν→Value}(hk:O0 kd kE)(k:κ):∀(ms:List (κ×ν×Nat)) (i:Nat),BL kd (kE k) (E0 kE vE ms) i=some ((mIx k ms i).map fun p=>(p.1,vE p.2))
 |[],i=>rfl
 |p::ms,i=>by
  have ih:=HD (vE:=vE) hk k ms (i+1);have e:eq1 kd (kE k) (kE p.1)=some (decide (k=p.1)):=hk k p.1;show BL kd (kE k) (⟨kE p.1,vE p.2.1,p.2.2⟩::E0 kE vE ms) i=_;rw[BL,mIx];simp only[e];by_cases h:k=p.1
  ·simp only[h,decide_true,if_true];rfl
  ·simp only[h,decide_false,if_false];exact ih
def Nt(k:κ):∀(ms:List (κ×ν×Nat)) (i:Nat),(mIx k ms i).map (·.2)=DV k ms
 |[],_=>rfl
 |p::ms,i=>by
  rw[mIx,DV];by_cases h:k=p.1
  ·simp[h]
  ·rw[if_neg h,if_neg h];exact Nt k ms (i+1)
def Abo{kE:κ→Value}{vE:ν→Value}(k:κ)(v:ν)(c:Nat)(ms:List (κ×ν×Nat)):
  upO (E0 kE vE ms) c (kE k) (vE v) ((mIx k ms 0).map fun p=>(p.1,vE p.2))=.map (E0 kE vE (GO k v c ms)).toArray (QN k c ms):=by
 have key:∀(ms:List (κ×ν×Nat)) (i:Nat),(∀j u,mIx k ms i=some (j,u)→i≤j∧(E0 kE vE ms).modify (j - i) (fun e:MapEntry=>{e with val:=vE v})=E0 kE vE (GO k v c ms))∧
   (mIx k ms i=none→E0 kE vE ms++[(⟨kE k,vE v,c⟩:MapEntry)]=E0 kE vE (GO k v c ms)):=by
  intro ms
  induction ms with
  |nil=>intro i;exact⟨fun j u h=>(by cases h),fun _=>Z⟩
  |cons p ms ih=>
   intro i
   rw[mIx,GO]
   by_cases h:k=p.1
   ·rw[if_pos h,if_pos h]
    refine⟨fun j u e=>?_,fun e=>by cases e⟩
    cases e
    refine⟨Afe _,?_⟩
    rw[Aiz];simp[E0]
   ·rw[if_neg h,if_neg h]
    obtain⟨h1,h2⟩:=ih (i+1)
    refine⟨fun j u e=>?_,fun e=>?_⟩
    ·obtain⟨h3,h4⟩:=h1 j u e
     refine⟨by omega,?_⟩
     rw[show j - i=(j - (i+1))+1 by omega]
     simp only[E0,Ahv,List.modify_succ_cons] at h4⊢
     rw[h4]
    ·have:=h2 e
     simp only[E0,Ahv,Agy] at this⊢
     rw[this]
 have hg:=Nt k ms 0
 cases hq:mIx k ms 0 with
 |none=>
  rw[hq] at hg
  simp only[Option.map_none,upO,QN,←hg,Ajv,Afh,if_false]
  rw[(key ms 0).2 hq]
 |some p=>
  obtain⟨j,u⟩:=p
  rw[hq] at hg
  simp only[Aij,upO,QN,←hg,Option.isSome_some,if_true]
  have:=((key ms 0).1 j u hq).2
  rw[Nat.sub_zero] at this
  rw[this]
def X8{kE:κ→Value}{vE:ν→Value}(k:κ)(c:Nat)(ms:List (κ×ν×Nat)):
  Mw (E0 kE vE ms) c ((mIx k ms 0).map fun p=>(p.1,vE p.2))=.map (E0 kE vE (J2 k ms)).toArray c:=by
 have key:∀(ms:List (κ×ν×Nat)) (i:Nat),(∀j u,mIx k ms i=some (j,u)→i≤j∧(E0 kE vE ms).eraseIdx (j - i)=E0 kE vE (J2 k ms))∧(mIx k ms i=none→J2 k ms=ms):=by
  intro ms;induction ms with
  |nil=>intro i;exact⟨fun j u h=>(by cases h),fun _=>Z⟩
  |cons p ms ih=>
   intro i
   rw[mIx,J2]
   by_cases h:k=p.1
   ·rw[if_pos h,if_pos h]
    refine⟨fun j u e=>?_,fun e=>by cases e⟩
    cases e
    refine⟨Afe _,?_⟩
    rw[Aiz];simp[E0]
   ·rw[if_neg h,if_neg h]
    obtain⟨h1,h2⟩:=ih (i+1)
    refine⟨fun j u e=>?_,fun e=>by rw[h2 e]⟩
    obtain⟨h3,h4⟩:=h1 j u e
    refine⟨by omega,?_⟩
    rw[show j - i=(j - (i+1))+1 by omega]
    simp only[E0,Ahv,List.eraseIdx_cons_succ] at h4⊢
    rw[h4]
 cases hq:mIx k ms 0 with
 |none=>simp only[Option.map_none,Mw];rw[(key ms 0).2 hq]
 |some p=>
  obtain⟨j,u⟩:=p
  have:=((key ms 0).1 j u hq).2
  rw[Nat.sub_zero] at this
  simp only[Aij,Mw,this]
def AdN:O0 0 (fun i:Int=>Value.int .i64 i):=fun a b=>by
 show some (a==b)=_;by_cases e:a=b<;>simp[e]
end
section
variable {κ ν:Type}{kE:κ→Value}{vE:ν→Value}
variable {P:Program}{pan:List PanicEntry→AP}{Qn:Env→AP}{Ls L:List Aa}{ρ:Env}{d:Aa}{s:GS}{t:Nat}
def AbJ(kE:κ→Value)(vE:ν→Value)(h:∀b,gws P pan Qn s Ls (upd ρ t (.map (some b))) d (mp kE vE b [] 0::L)):gws P pan Qn (.op false ⟨some t,none,.mop .mk⟩ s) Ls ρ d L:=
 ⟨d,L,Vs.refl d L,fun b=>⟨_,_,Vs.refl _ _,h b⟩⟩
def SB [DecidableEq κ] {kd:Nat}{x y z}{b c:Nat}{ms:List (κ×ν×Nat)}{k:κ}{v:ν}(hk:O0 kd kE) (i:Nat) (hi:L[i]?=some (mp kE vE b ms c)) (ex:ev ρ x=.map (some b)) (ey:ev ρ y=kE k) (ez:ev ρ z=vE v)
  (h:gws P pan Qn s Ls ρ d (L.set i (mp kE vE b (GO k v c ms) (QN k c ms)))):gws P pan Qn (.op false ⟨none,none,.mop (.up kd x y z)⟩ s) Ls ρ d L:=
 ⟨d,L,Vs.refl d L,i,b,E0 kE vE ms,c,_,hi,ex,by rw[ey];exact HD hk k ms 0,_,_,Vs.refl _ _,by rw[ey,ez,Abo];exact h⟩
def Ad7 [DecidableEq κ] {kd:Nat}{x y}{b c:Nat}{ms:List (κ×ν×Nat)}{k:κ}{t:Option Nat}(hk:O0 kd kE) (i:Nat) (hi:L[i]?=some (mp kE vE b ms c)) (ex:ev ρ x=.map (some b)) (ey:ev ρ y=kE k)
  (h:gws P pan Qn s Ls (put ρ t (.tuple #[])) d (L.set i (mp kE vE b (J2 k ms) c))):gws P pan Qn (.op false ⟨t,none,.mop (.del kd x y)⟩ s) Ls ρ d L:=
 ⟨d,L,Vs.refl d L,i,b,E0 kE vE ms,c,_,hi,ex,by rw[ey];exact HD hk k ms 0,_,_,Vs.refl _ _,by rw[X8];exact h⟩
def Ael{x}{b c:Nat}{ms:List (κ×ν×Nat)}{t:Option Nat}(i:Nat)(hi:L[i]?=some (mp kE vE b ms c))(ex:ev ρ x=.map (some b))
  (h:gws P pan Qn s Ls (put ρ t (.tuple #[])) d (L.set i (mp kE vE b [] c))):gws P pan Qn (.op false ⟨t,none,.mop (.clr x)⟩ s) Ls ρ d L:=
 ⟨d,L,Vs.refl d L,i,b,(E0 kE vE ms).toArray,c,hi,ex,_,_,Vs.refl _ _,h⟩
def S8{b c i:Nat}{ms:List (κ×ν×Nat)}(hi:(Ls++L)[i]?=some (mp kE vE b ms c)):Iy d ((Ls++L)++L) (.map (some b)) (E0 kE vE ms):=
 .inr ⟨b,c,Z,_,.inr (List.mem_append_left _ (List.mem_of_getElem? hi)),Db _ _⟩
def PB [DecidableEq κ] {kd:Nat}{z x y}{b c:Nat}{ms:List (κ×ν×Nat)}{k:κ}{v:ν}(hk:O0 kd kE) (i:Nat) (hi:(Ls++L)[i]?=some (mp kE vE b ms c)) (ex:ev ρ x=.map (some b)) (ey:ev ρ y=kE k) (hg:DV k ms=some v)
  (h:gws P pan Qn s Ls (upd ρ t (vE v)) d L):gws P pan Qn (.op false ⟨some t,none,.mop (.lk kd z false x y)⟩ s) Ls ρ d L:=by
 refine⟨d,L,Vs.refl d L,E0 kE vE ms,_,by rw[ex];exact S8 hi,by rw[ey];exact HD hk k ms 0,_,_,Vs.refl _ _,?_⟩
 have:=Nt k ms 0
 rw[hg] at this
 cases hq:mIx k ms 0 with
 |none=>rw[hq] at this;cases this
 |some p=>rw[hq] at this;simp at this;subst this;exact h
def AdK [DecidableEq κ] {kd:Nat}{z x y}{b c:Nat}{ms:List (κ×ν×Nat)}{k:κ}(hk:O0 kd kE) (i:Nat) (hi:(Ls++L)[i]?=some (mp kE vE b ms c)) (ex:ev ρ x=.map (some b)) (ey:ev ρ y=kE k) (hg:DV k ms=none)
  (h:gws P pan Qn s Ls (upd ρ t z) d L):gws P pan Qn (.op false ⟨some t,none,.mop (.lk kd z false x y)⟩ s) Ls ρ d L:=by
 refine⟨d,L,Vs.refl d L,E0 kE vE ms,_,by rw[ex];exact S8 hi,by rw[ey];exact HD hk k ms 0,_,_,Vs.refl _ _,?_⟩
 have:=Nt k ms 0
 rw[hg] at this
 cases hq:mIx k ms 0 with
 |none=>exact h
 |some p=>rw[hq] at this;cases this
end
end
end Go.Gk
end
section
namespace Go.Gk
open Go
def Ct:List Value:=Afu 256 (.int .u8 0)
def C6:Ct.length=256:=Agk
def Uy:∀(cs:List Value) (k off:Nat) (a:Array Value),off+k+cs.length≤a.size→(cs.zipIdx k).foldl (fun(a:Array Value) (p:Value×Nat)=>a.setIfInBounds (off+p.2) p.1) a=(patch a.toList (off+k) cs).toArray
 |[],k,off,a,h=>by simp[patch]
 |c::cs,k,off,a,h=>by
  simp only[Afq] at h;rw[List.zipIdx_cons,Ajx,Uy cs (k+1) off _ (by simp;omega)];congr 1;have h1:off+k<a.toList.length:=by simp;omega
  simp only[Array.toList_setIfInBounds];apply Aio;intro i;rw[Da (by simp;omega),Da (by simp;omega)];simp only[Afq];by_cases e:i=off+k
  ·subst e;rw[if_neg (by omega),if_pos ⟨by omega,by omega⟩,Aiz,List.getElem?_set_self h1];rfl
  ·by_cases e2:off+(k+1)≤i∧i<off+(k+1)+cs.length
   ·rw[if_pos e2,if_pos ⟨by omega,by omega⟩,show i - (off+k)=(i - (off+(k+1)))+1 by omega,List.getElem?_cons_succ]
   ·rw[if_neg e2,if_neg (by omega),List.getElem?_set_ne (by omega)]
def Na{place:Nat→Option (Nat×Nat)}{a}{i off sz:Nat}{v}{ps:List (Nat×Value)}(hp:place i=some (off,sz))(hs:v.cells.size=sz)(ho:off+sz≤a.length):
  Instr.fill place a.toArray ((i,v)::ps)=Instr.fill place (patch a off v.cells.toList).toArray ps:=by
 rw[Instr.fill]
 simp only[hp]
 rw[if_neg (by simp[hs];omega)]
 congr 1
 have:=Uy v.cells.toList 0 off a.toArray (by simp[hs];omega)
 rw[Nat.add_zero] at this
 have e:v.cells.zipIdx.foldl (fun cs (c,j)=>cs.setIfInBounds (off+j) c) a.toArray=(v.cells.toList.zipIdx 0).foldl (fun(a:Array Value) (p:Value×Nat)=>a.setIfInBounds (off+p.2) p.1) a.toArray:=by
  rw[←Array.foldl_toList,Array.toList_zipIdx]
 exact e.trans this
def RL{l cs}(h:l.length=cs.length):patch l 0 cs=cs:=by simp[patch,h]
section
variable {P:Program}{pan:List PanicEntry→AP}{Qn:Env→AP}{Ls L:List Aa}{ρ:Env}{d:Aa}{s:GS}{t:Nat}{tk:Bool}
def B8{l}(h:∀b T,gws P pan Qn s Ls (upd ρ t (pZ b)) d (bx b T l::L)):
  gws P pan Qn (.op false ⟨some t,none,.alo (.agg l.toArray)⟩ s) Ls ρ d L:=DD h
def Ft{n:Nat}{x y}{b:Nat}{T l cs}(i:Nat)(hi:L[i]?=some (bx b T l))(ex:ev ρ x=pZ b)(ey:ev ρ y=.agg cs.toArray)(hn:cs.length=n)(hl:l.length=n)(h1:(cs.all (·.oneCell'))=true)
  (h:gws P pan Qn s Ls ρ d (L.set i (bx b T cs))):gws P pan Qn (.op false ⟨none,none,.st n x y⟩ s) Ls ρ d L:=
 Cg (v:=.agg cs.toArray) i hi ex ey (by simpa [Value.cells] using hn) (by omega) (by simpa [Value.cells] using h1) (by
  have:patch l 0 (Value.agg cs.toArray).cells.toList=cs:=by simp only[Value.cells];exact RL (by omega)
  rw[this];exact h)
def BA{n:Nat}{x y}{b o:Nat}{T l cs}(i:Nat)(hi:L[i]?=some (bx b T l))(ex:ev ρ x=.pointer (some ⟨b,o,none⟩))(ey:ev ρ y=.agg cs.toArray)(hn:cs.length=n)(hl:o+n≤l.length)(h1:(cs.all (·.oneCell'))=true)
  (h:gws P pan Qn s Ls ρ d (L.set i (bx b T (patch l o cs)))):gws P pan Qn (.op false ⟨none,none,.st n x y⟩ s) Ls ρ d L:=
 Cg (v:=.agg cs.toArray) i hi ex ey (by simpa [Value.cells] using hn) hl (by simpa [Value.cells] using h1) h
def KK{x}{n b o:Nat}{T l}(cs:List Value)(i:Nat)(e:ev ρ x=.pointer (some ⟨b,o,none⟩))(hi:(lk tk Ls L)[i]?=some (bx b T l))(hn:cs.length=n)(hc:∀j u,cs[j]?=some u→l[o+j]?=some u)
  (h:gws P pan Qn s Ls (upd ρ t (.agg cs.toArray)) d L):gws P pan Qn (.op tk ⟨some t,none,.ld (some n) x⟩ s) Ls ρ d L:=
 w_q Z ⟨b,o,cs,e,hn,fun j u hu=>AG i hi (hc j u hu),Z⟩ h
def BT{x i}{sz b n c:Nat}{k}{j:Int}(m:Nat)(ex:ev ρ x=.slice (some ⟨b,0,none⟩) n c)(ei:ev ρ i=.int k j)(hm:j=(m:Int))(hl:m<n)
  (h:gws P pan Qn s Ls (upd ρ t (.pointer (some ⟨b,m*sz,none⟩))) d L):gws P pan Qn (.op tk ⟨some t,none,.idx sz x i⟩ s) Ls ρ d L:=
 B3 (o:=0) m ex ei hm hl (SAd.some n b 0) (by rw[Ahg];exact h)
def SP{sz:Nat}{z cs x}(ex:ev ρ x=.agg cs.toArray)(hz:z.length=sz)(hc:cs.length=sz)(hs:sz≤16777216)(h:∀b T,gws P pan Qn s Ls (upd ρ t (.slice (some ⟨b,0,none⟩) 1 1)) d (bx b T cs::L)):
  gws P pan Qn (.op false ⟨some t,none,.bsl 1 sz z [(0,x)]⟩ s) Ls ρ d L:=by
 refine Dq (cs:=cs) (by omega) ?_ h
 simp only[Ahv,List.map_nil,ex]
 rw[Na (off:=0) (sz:=sz) (by simp) (by simpa [Value.cells] using hc) (by simp[BD])]
 rw[Instr.fill,show(Value.agg cs.toArray).cells.toList=cs from Z,RL (by simp[BD,hc])]
def Aer{x y k}{a:Int}{cs}(ex:ev ρ x=.int k a)(ey:ev ρ y=.agg cs.toArray)(hc:cs.length=256)(h:gws P pan Qn s Ls (upd ρ t (.agg (Value.int k a::cs).toArray)) d L):
  gws P pan Qn (.op tk ⟨some t,none,.bld [(0,1),(1,256)] (Value.int .i64 0::Ct) [(0,x),(1,y)]⟩ s) Ls ρ d L:=by
 refine BY ?_ h
 simp only[Ahv,List.map_nil,ex,ey]
 have e0:patch (Value.int .i64 0::Ct) 0 (Value.int k a).cells.toList=Value.int k a::Ct:=Z
 have e2:patch (Value.int k a::Ct) 1 (Value.agg cs.toArray).cells.toList=Value.int k a::cs:=by
  show List.take 1 (Value.int k a::Ct)++cs++List.drop (1+cs.length) (Value.int k a::Ct)=_;rw[Aia (by rw[Afq,C6];omega),Agj];rfl
 rw[Na (off:=0) (sz:=1) Z Z (by rw[Afq];omega),e0,Na (off:=1) (sz:=256) Z (by simpa only[Value.cells,List.size_toArray] using hc) (by rw[Afq,C6];omega),e2]
 rfl
def Ada{x}{n t1 t2:Nat}{v l}(tk2:Bool)(ex:ev ρ x=v)(hr:Ay d v l)(hl:l.length=n)(hn:n≠0)(k:∀p,gws P pan Qn s Ls (upd (upd ρ t1 p) t2 (.agg (l.map Al).toArray)) d L):
  gws P pan Qn (.op tk ⟨some t1,none,.s2a n x⟩ (.op tk2 ⟨some t2,none,.ld (some n) (.tmp t1)⟩ s)) Ls ρ d L:=by
 obtain⟨a,c,b,o,rfl,h2,h3,h4,h5,h6,h7,h8⟩:=hr
 have ha:=h2 (by omega)
 subst ha
 refine w_q (v:=.pointer (some ⟨b,o,none⟩)) Z ⟨_,_,_,ex,by omega,Z⟩ ?_
 refine w_q Z ⟨b,o,l.map Al,by simp[ev,upd],by simpa using hl,fun i u hu=>?_,Z⟩ (k _)
 rw[Ahs] at hu
 cases hi:l[i]? with
 |none=>rw[hi] at hu;cases hu
 |some w=>
  rw[hi] at hu;cases hu
  obtain⟨hi',rfl⟩:=Afp.1 hi
  obtain⟨cs,k1,k2,k3⟩:=h8 i hi'
  have k3:cs=[Al l[i]]:=k3
  subst k3
  rw[Aho] at k2
  exact BR k2.one
end
def Ai.at{α}{sz:Nat}{R d v}{xs:List α}{h}(hsz:0<sz)(o:Ai sz R d v xs h){m:Nat}(hm:m<xs.length):
  ∃b T l c cs,v=.slice (some ⟨b,0,none⟩) xs.length c∧h=bx b T l∧cs.length=sz∧(∀j u,cs[j]?=some u→l[m*sz+j]?=some u)∧m*sz+sz≤l.length∧R d cs xs[m]∧
   ∀cs' x,cs'.length=sz→R d cs' x→Ai sz R d v (xs.set m x) (bx b T (patch l (m*sz) cs')):=by
 obtain⟨b,T,l,c,e1,e2,e3,e4⟩:=o.Aeg hsz hm
 obtain⟨cs,⟨h1,h2,⟨q1,h0,q2⟩|⟨b',T',l',c',q1,q2,h3,h4,h5,h6⟩⟩,hr⟩:=o
 ·omega
 ·have hmz:m*sz+sz≤xs.length*sz:=by have:=Agr sz (show m+1≤xs.length from hm);rwa [Aht,Ajg] at this
  have hbl:l'.toArray=l.toArray∧b'=b:=by
   rw[e2] at q2;have:=(congrFun (congrFun q2 b) (.cells l.toArray T (0,0))).mp (Db _ _);obtain⟨z1,z2⟩:=HP this;injection z2 with z3
   exact⟨z3.symm,z1.symm⟩
  have hl':l'=l:=by simpa using hbl.1
  subst hl'
  refine⟨b,T,l',c,chunk cs m sz,e1,e2,?_,fun j u hu=>?_,e3,hr m hm,e4⟩
  ·exact JI h1 hm
  ·rw[JC] at hu
   split at hu
   ·rename_i hj
    rw[←h6,List.getElem?_take] at hu
    split at hu
    ·exact hu
    ·cases hu
   ·cases hu
def Ai.zero{α:Type}{sz:Nat}{R:Aa→List Value→α→Prop}{d:Aa}{b n:Nat}{T:TypeId}{z:List Value}{x:α}(hz:z.length=sz)(_:0<sz)(hx:R d z x)(hn:n≤140737488355328):
  Ai sz R d (.slice (some ⟨b,0,none⟩) n n) (Afu n x) (bx b T (BD z (n*sz))):=by
 refine Ai.lit (by simp) (by simp[BD]) (by simpa using hn) (fun i hi=>?_)
 have hin:i<n:=by simpa using hi
 have:chunk (BD z (n*sz)) i sz=z:=by
  refine Aio fun k=>?_;rw[JC];by_cases hk:k<sz
  ·have h1:(i+1)*sz≤n*sz:=Agr sz hin;rw[Aht,Ajg] at h1;rw[if_pos hk,BD,Ahs,List.getElem?_range (by omega),Aij,hz,show i*sz+k=k+sz*i by rw[Nat.mul_comm];omega,Nat.add_mul_mod_self_left,Ain hk];rw[Afd,Afc (by omega)];simp
  ·rw[if_neg hk,Ago (by omega)]
 rw[this]
 simpa using hx
def Ix{l cs:List Value}{o j:Nat}{x:Value}(hc:∀i u,cs[i]?=some u→l[o+i]?=some u)(hj:j<cs.length)(hl:o+cs.length≤l.length):patch l (o+j) [x]=patch l o (cs.set j x):=by
 refine Aio fun k=>?_;rw[Da (by simp;omega),Da (by simp;omega)];simp only[Afq,List.length_nil,Agg];by_cases h1:o≤k∧k<o+cs.length
 ·rw[if_pos h1];by_cases h2:k=o+j
  ·subst h2;rw[if_pos (by omega),Aiz,show o+j - o=j by omega,List.getElem?_set_self hj];rfl
  ·rw[if_neg (by omega),List.getElem?_set_ne (by omega)];have:=hc (k - o) cs[k - o] (Afc (by omega));rw[show o+(k - o)=k by omega] at this;rw[this,Afc (by omega)]
 ·rw[if_neg h1,if_neg (by omega)]
def Ao.reorder{P f args d L L1 R}(p:L.Perm L1)(h:Ao P f args d L1 R):Ao P f args d L R:=Ao.vs (Vs.perm p) h
end Go.Gk
namespace Go.Gk
open Go
def Ea(P:Program)(f:FuncId)(args:List Value)(d:Aa)(L:List Aa)(v:Value):Prop:=Ao P f args d L (Ret fun r d' L'=>r=v∧d'=d∧L'=L)
section
variable {P:Program}{pan:List PanicEntry→AP}{Qn:Env→AP}{Ls L:List Aa}{ρ:Env}{d:Aa}{s:GS}{t:Nat}
def Di{f args vs v A B}(hL:L=A++B)(ea:args.map (ev ρ)=vs)(hc:Ea P f vs d A v)(h:gws P pan Qn s Ls (upd ρ t v) d L):
  gws P pan Qn (.op false ⟨some t,none,.call f args⟩ s) Ls ρ d L:=
 Ek hL ea hc (fun r d' L' _ ⟨h1,h2,h3⟩=>by subst h1;subst h2;subst h3;rw[←hL];exact h)
def Rs{f args R vs A B}(hL:L=A++B)(ea:args.map (ev ρ)=vs)(hc:Ao P f vs d A (Ret R))
  (h:∀v d' L',Le d d'→R v d' L'→gws P pan Qn s Ls (upd ρ t v) d' (L'++B)):gws P pan Qn (.op false ⟨some t,none,.call f args⟩ s) Ls ρ d L:=Ek hL ea hc h
def LL{v L1}(e:ρ t=v)(hs:L1.Sublist L):C9 [.tmp t] (Ret fun r d' L'=>r=v∧d'=d∧L'=L1) ρ d L:=BZ e hs ⟨Z,Z,Z⟩
def AbQ{u:Nat}{v w L1}(e:ρ t=v)(e':ρ u=w)(hs:L1.Sublist L):C9 [.tmp t,.tmp u] (Ret fun r d' L'=>r=.tuple #[v,w]∧d'=d∧L'=L1) ρ d L:=CJ e e' hs ⟨Z,Z,Z⟩
end
end Go.Gk
namespace Go.Gk
open Go
def Adb{P}{Q:Co}{ρ d L f}{ps:List Nat}{as bd:CC}{g}{first cap:Array Value}(ef:ev ρ f=.func (.func g) first cap)
  (h:∀l rc,Sz P ρ ps as bd rc→rc.state=.ready→rc.pending=none→Ao P g (first.toList++[.func (.yield l) #[] #[]]++cap.toList) d (sg l (.loop rc)::L)
   (Ret fun _ d' L'=>∃rc' L'',L'=sg l (.loop rc')::L''∧rc'.state≠.busy∧(match rc'.pending with|none=>Q.n ρ d' L''|some (.exit id)=>Q.ex id ρ d' L''|some .ret=>Q.ret ρ d' L''|_=>False))):xwp P (.rf f ps as bd) Q ρ d L:=
 ⟨g,first,cap,ef,fun l rc h1 h2 h3=>⟨_,h l rc h1 h2 h3,fun e d' L' _ hr=>by
  cases e with
  |returned v=>obtain⟨rc',L'',k1,k2,k3⟩:=hr;exact⟨v,rc',L'',Z,k1,k2,k3⟩
  |panicked c=>exact hr.elim
  |outgrown=>exact hr.elim⟩⟩
def Wg{rc:Loop}(h1:rc.state=.ready)(h2:rc.pending=none):{rc with state:=.ready,pending:=none}=rc:=by
 cases rc;simp only at h1 h2;subst h1;subst h2;rfl
end Go.Gk
namespace Go.Gk
open Go
section
variable {P:Program}{pan:List PanicEntry→AP}{Qn:Env→AP}{Ls L:List Aa}{ρ:Env}{d:Aa}{s:GS}{t:Nat}
def Rn{f args R vs A B}(hp:L.Perm (A++B))(ea:args.map (ev ρ)=vs)(hc:Ao P f vs d A (Ret R))
  (h:∀v d' L',Le d d'→R v d' L'→∃d2 L2,Vs d' (L'++B) d2 L2∧gws P pan Qn s Ls (upd ρ t v) d2 L2):gws P pan Qn (.op false ⟨some t,none,.call f args⟩ s) Ls ρ d L:=by
 refine B1 d (A++B) (Vs.perm hp) ⟨d,A++B,Vs.refl d _,.inl ⟨A,B,Ret R,Z,by rw[ea];exact hc,fun e d' L' hl hr=>?_⟩⟩
 cases e with
 |returned v=>exact h v d' L' hl hr
 |panicked c=>exact hr.elim
 |outgrown=>exact hr
def DO{f args R vs A B}(hc:Ao P f vs d A (Ret R))(hp:L.Perm (A++B))(ea:args.map (ev ρ)=vs)
  (h:∀v d' L',Le d d'→R v d' L'→∃d2 L2,Vs d' (L'++B) d2 L2∧gws P pan Qn s Ls (upd ρ t v) d2 L2):gws P pan Qn (.op false ⟨some t,none,.call f args⟩ s) Ls ρ d L:=Rn hp ea hc h
def CX{f args R vs}(hc:Ao P f vs d L (Ret R))(ea:args.map (ev ρ)=vs)
  (h:∀v d' L',Le d d'→R v d' L'→gws P pan Qn s Ls (upd ρ t v) d' L'):gws P pan Qn (.op false ⟨some t,none,.call f args⟩ s) Ls ρ d L:=
 Ek (B:=[]) (Agj _).symm ea hc (fun v d' L' hl hr=>by rw[Agj];exact h v d' L' hl hr)
def NB{f args vs v A B}(hp:L.Perm (A++B))(ea:args.map (ev ρ)=vs)(hc:Ea P f vs d A v)(h:gws P pan Qn s Ls (upd ρ t v) d L):
  gws P pan Qn (.op false ⟨some t,none,.call f args⟩ s) Ls ρ d L:=
 Rn hp ea hc (fun r d' L' _ ⟨h1,h2,h3⟩=>by subst h1;subst h2;subst h3;exact⟨d',L,Vs.perm hp.symm,h⟩)
end
def UP{l cs}{o j:Nat}{u}(hl:o+cs.length≤l.length)(hu:cs[j]?=some u):(patch l o cs)[o+j]?=some u:=by
 have:=(Afp.1 hu).1;rw[Da hl,if_pos (by omega),show o+j - o=j by omega,hu]
def U0{l cs ds}{o:Nat}(hl:o+cs.length≤l.length)(he:ds.length=cs.length):patch (patch l o cs) o ds=patch l o ds:=by
 refine Aio fun k=>?_;rw[Da (l:=patch l o cs) (by rw[BC hl];omega),Da (l:=l) (vs:=cs) hl,Da (l:=l) (vs:=ds) (by omega)];by_cases h:o≤k∧k<o+ds.length
 ·rw[if_pos h,if_pos h]
 ·rw[if_neg h,if_neg h,if_neg (by omega)]
def WS{l cs:List Value}{o j:Nat}{x:Value}(hj:j<cs.length)(hl:o+cs.length≤l.length):patch (patch l o cs) (o+j) [x]=patch l o (cs.set j x):=by
 rw[Ix (cs:=cs) (fun i u hu=>UP hl hu) hj (by rw[BC hl];exact hl),U0 hl (by simp)]
end Go.Gk
namespace Go.Gk
open Go
section
variable {P:Program}{pan:List PanicEntry→AP}{Qn:Env→AP}{Ls L:List Aa}{ρ:Env}{d:Aa}{s:GS}{t:Nat}
def AbA{by_:Nat}{x k}{n:Nat}(ex:ev ρ x=.int k (n:Nat))(h1:by_*n+112≤281474976710656)(h2:n<9223372036854775808)
  (h:∀b,gws P pan Qn s Ls (upd ρ t (.chan (some b))) d (sg b (.chan n #[] false 0 0 false)::L)):gws P pan Qn (.op false ⟨some t,none,.mop (.mkc by_ x)⟩ s) Ls ρ d L:=
 ⟨d,L,Vs.refl d L,by simp only[gop,gi,mi];exact⟨k,n,ex,h1,h2,fun b=>⟨_,_,Vs.refl _ _,h b⟩⟩⟩
end
end Go.Gk
namespace Go.Gk
open Go
section
variable {P:Program}{pan:List PanicEntry→AP}{Qn:Env→AP}{Ls L:List Aa}{ρ:Env}{d:Aa}{s:GS}{t:Nat}
end
end Go.Gk
namespace Go.Gk
open Go
section
variable {P:Program}{pan:List PanicEntry→AP}{Qn:Env→AP}{Ls L:List Aa}{ρ:Env}{d:Aa}{s:GS}{t:Nat}{tk:Bool}
def AdX{neg:Bool}{x y a}(ex:ev ρ x=.pointer a)(ey:ev ρ y=.pointer a)(h:gws P pan Qn s Ls (upd ρ t (.bool (!neg))) d L):
  gws P pan Qn (.op tk ⟨some t,none,.eqp neg x y⟩ s) Ls ρ d L:=w_q Z ⟨a,a,ex,ey,by cases a;exact .inl Z;exact .inr (.inr Z),by cases neg<;>simp⟩ h
def AdL{neg:Bool}{x y}{b:Nat}(ex:ev ρ x=.map (some b))(ey:ev ρ y=.map none)(h:gws P pan Qn s Ls (upd ρ t (.bool neg)) d L):
  gws P pan Qn (.op tk ⟨some t,none,.eqm neg x y⟩ s) Ls ρ d L:=w_q Z ⟨some b,ex,ey,by cases neg<;>rfl⟩ h
def Aeo{T x v}(ex:ev ρ x=.iface T v)(h:gws P pan Qn s Ls (upd ρ t v) d L):
  gws P pan Qn (.op tk ⟨some t,none,.tas T x⟩ s) Ls ρ d L:=w_q Z ex h
def Aea{x T}{b c:Nat}{es:Array MapEntry}(ex:ev ρ x=.iface T (.map (some b)))(hm:HO d (Ls++L++L) b (.map es c))(h:∀q,gws P pan Qn s Ls (upd ρ t (.iface T (.map (some q)))) d (sg q (.map es c)::L)):
  gws P pan Qn (.op false ⟨some t,none,.mop (.cln x)⟩ s) Ls ρ d L:=
 ⟨d,L,Vs.refl d L,by simp only[gop,gi,mi];exact⟨T,b,es,c,ex,hm,fun q=>⟨_,_,Vs.refl _ _,h q⟩⟩⟩
end
end Go.Gk
namespace Go.Gk
open Go
def IN{P}{pan:List PanicEntry→AP}{Qn:Env→AP}{Ls L ρ d}(h:∃d1 L1,Vs d (Ls++L) d1 L1∧Qn ρ d1 L1):gws P pan Qn .done Ls ρ d L:=h
end Go.Gk
end
section
namespace Go.Gk.Dev
open Go Go.Gk
attribute [local irreducible] gwp gws xwp
variable{P:Program}{f:FuncId}
abbrev Sec:=List UInt8
structure Ff where
 syn:List Sec
 opn:List (Nat×Sec)
def Ux(_:Aa)(cs:List Value)(x:Sec):Prop:=cs=x.map Al∧x.length=256
def RWr(_:Aa)(cs:List Value)(x:Nat×Sec):Prop:=cs=vZ x.1::x.2.map Al∧x.2.length=256
def Aas:Gu Ux:=fun _ h=>h
def AcE:Gu RWr:=fun _ h=>h
def UM:F1 RWr:=fun _ _ _ h=>by obtain⟨rfl,_⟩:=h;rw[Akp,CZ];rfl
def J0:Sec:=Afu 256 0
def AdE{d}:Ux d Ct J0:=⟨by rw[J0,List.map_replicate];rfl,Agk⟩
def GA(k:Nat):List (Nat×Sec)→Option Sec
 |[]=>none
 |w::l=>match GA k l with|some b=>some b|none=>if w.1=k then some w.2 else none
def Ff.cur(D:Ff)(k:Nat):Sec:=(GA k D.opn).getD (D.syn.getD k [])
def synced(l:List (Nat×Sec))(s:List Sec):List Sec:=l.foldl (fun s w=>s.set w.1 w.2) s
def Fq(l:List (Nat×Sec)):∀s,(synced l s).length=s.length:=by
 induction l with
 |nil=>exact fun _=>Z
 |cons w l ih=>intro s;rw[synced,Ajx];exact(ih _).trans (Agg ..)
def J3(l:List (Nat×Sec))(w:Nat×Sec)(s:List Sec):synced (l++[w]) s=(synced l s).set w.1 w.2:=by simp[synced]
def Dv(d:Aa)(D:Ff)(v:Value)(L:List Aa):Prop:=
 ∃b T vs vo r hs ho,v=pZ b∧L=[bx b T [vs,vo,vZ r,vZ 0],hs,ho]∧Ai 256 Ux d vs D.syn hs∧Ai 257 RWr d vo D.opn ho∧(∀w∈D.opn,w.1<D.syn.length)∧D.syn.length≤8192
def Dv.mono{d d'}{D:Ff}{v L}(h:Dv d D v L)(hl:Le d d'):Dv d' D v L:=
 let ⟨b,T,vs,vo,r,hs,ho,h1,h2,h3,h4,h5,h6⟩:=h
 ⟨b,T,vs,vo,r,hs,ho,h1,h2,Ai.mono (R:=Ux) Aas h3 hl,Ai.mono (R:=RWr) AcE h4 hl,h5,h6⟩
def I0(P:Program)(f:FuncId):Prop:=∀{d}{D:Ff}{v L},Dv d D v L→Ea P f [v] d L (vZ D.syn.length)
def KE:A9:=⟨10,[(.tmp 2)],(sR (o1 2 (.mv z0) .done) (.seq (sR (om 3 0<|o1 4 (.eqp false 3 (.const (.pointer none))) .done) (.cond 4 (sR (o1 2 (.mv z0) .done) .ret) .skip)) (sR (om 5 0<|o1 6 (.nilc 5)<|oj 7 0 6<|ol 8 7<|oL 9 8<|om 2 9 .done) .ret)))⟩
def Z9(hd:dec P f=some KE):I0 P f:=by
 intro d D v L h;obtain⟨b,T,vs,vo,r,hs,ho,rfl,rfl,h3,h4,h5,h6⟩:=h;refine Bj hd<|AE Z<|BG<|Ag Z<|CG Z Z<|Be Z<|A3 Z<|Ap Z<|Az Z Z Z<|XX Z (by assumption)<|AS Z<|LL Z (Afa _)
def Jg(P:Program)(f:FuncId):Prop:=∀{d}{D:Ff}{v L}{k n:Nat},Dv d D v L→k<D.syn.length→n=256→Ea P f [v,vZ k,vZ n] d L (vZ 0)
def Kr(a0:Nat):A9:=⟨32,[(.tmp 6)],(sR (o1 6 (.mv z0) .done) (.seq (.block 0 (sR (om 8 0<|oc 9 a0 [8]<|ob 10 .eql 9 z0<|om 7 10 .done) (.cond 7 (sR (o1 6 (.mv z1) .done) .ret) (sR (om 12 1<|ob 13 .lss 12 z0<|om 14 13<|gF 15 14 1<|gF 16 14 0<|oF 17 14 (.nilc 16)<|oF 18 14 (.fld 0 17)<|oF 19 14 (.ld none 18)<|oF 20 14 (.len 19)<|oF 21 14 (.bin .geq 15 20)<|o1 22 (.pick 14 (.const (.bool true)) 21)<|om 11 22 .done) (.cond 11 (sR (o1 6 (.mv (kZ 4)) .done) .ret) (sR (om 24 2<|ob 25 .neq 24 (kZ 256)<|om 23 25 .done) (.cond 23 (sR (o1 6 (.mv z2) .done) .ret) (sR (om 27 0<|o1 28 (.nilc 27)<|oj 29 3 28<|ol 30 29<|ob 31 .eql 30 z1<|om 26 31 .done) (.cond 26 (sR (o1 6 (.mv (kZ 150)) .done) .ret) .skip))))))))) (sR (o1 6 (.mv z0) .done) .ret)))⟩
def Zj{f1}(hd:dec P f=some (Kr f1))(h1:I0 P f1):Jg P f:=by
 intro d D v L k n h hk hn;have h0:=h;obtain⟨b,T,vs,vo,r,hs,ho,rfl,rfl,h3,h4,h5,h6⟩:=h;refine Bj hd<|AE Z<|By<|Aq<|A3 Z<|Di (B:=[]) Z Z (h1 h0)<|AI Z Z<|AV Z<|BM Z<|AE Z<|Au Z Z<|Ad Z<|Bs Z<|Ac Z<|Ab Z<|Ac Z<|Ag Z<|Ac Z<|Ap Z<|Ac Z<|Am Z<|Ac Z<|c_l Z Z Z<|Ac Z<|XX Z (by assumption)<|Ac Z<|Dk Z Z<|Aj Z Z<|AV Z<|BM Z<|AE Z<|AJ Z Z<|AV Z<|BM Z<|A3 Z<|Ap Z<|Az Z Z Z<|AI Z Z<|AV Z<|BM Z<|AH<|AE Z<|BJ<|LL Z (Afa _)
def NS(P:Program)(f:FuncId):Prop:=∀{d}{D:Ff}{v L},Dv d D v L→Ao P f [v] d L (Ret fun _ d' L'=>d'=d∧L'=L)
def Lz:A9:=⟨14,[],(sR (om 2 0<|o1 3 (.nilc 2)<|oj 4 3 3<|ol 5 4<|ob 6 .gtr 5 z1 .done) (.cond 6 (rG (om 7 0<|o1 8 (.nilc 7)<|oj 9 3 8<|ol 10 9<|ob 11 .sub 10 z1<|o1 12 (.nilc 7)<|oj 13 3 12<|o0 (.st 1 13 11) .done)) .skip))⟩
def Abc(hd:dec P f=some Lz):NS P f:=by
 intro d D v L h;obtain⟨b,T,vs,vo,r,hs,ho,rfl,rfl,h3,h4,h5,h6⟩:=h;refine Bj hd<|A3 Z<|Ap Z<|Az Z Z Z<|Bu Z Z<|AT Z<|Ed [] trivial (Afa _) ⟨Z,Z⟩
def Ow(P:Program)(f:FuncId):Prop:=∀{d}{n:Nat},1≤n→n≤8192→Ao P f [vZ n] d [] (Ret fun r d' L'=>∃v,r=.tuple #[v,vZ 0]∧d'=d∧Dv d ⟨Afu n J0,[]⟩ v L')
def SQ:A9:=⟨14,[(.tmp 2),(.tmp 3)],(sR (o1 2 (.mv (.const (.pointer none)))<|o1 3 (.mv z0) .done) (.seq (sR (om 4 0<|ob 5 .lss 4 z1<|om 6 5<|gF 7 6 0<|oF 8 6 (.bin .gtr 7 (kZ 8192))<|o1 9 (.pick 6 (.const (.bool true)) 8) .done) (.cond 9 (sR (o1 2 (.mv (.const (.pointer none)))<|o1 3 (.mv z2) .done) .ret) .skip)) (sR (om 10 0<|o1 11 (.mks 256 256 Ct 10 10)<|o1 12 (.bld [(0,1),(1,1),(2,1),(3,1)] [nV,nV,(vZ 0),(vZ 0)] [(0,11)])<|o1 13 (.box 12)<|om 2 13<|o1 3 (.mv z0) .done) .ret)))⟩
def Ac1(hd:dec P f=some SQ):Ow P f:=by
 intro d n h1 h2;refine Bj hd<|A3 Z<|AR Z<|Ab Z<|Au Z Z<|Ad Z<|Bs Z<|Ac Z<|Ab Z<|Ac Z<|Bu Z Z<|Aj Z Z<|AT Z<|AE Z<|Iv Z Z (Afe n) (by omega) (by omega) (fun b T=>?_);(refine BY Z<|CF Z (fun _ _=>Ag Z<|AS Z ?_));rename_i b2 T2;refine A6 [_,_] ⟨Z,Z,trivial⟩ (d':=d) (L':=[bx b2 T2 [.slice (some ⟨b,0,none⟩) n n,nV,vZ 0,vZ 0],bx b T (BD Ct (n*256)),emp]) ?_ ⟨_,Z,Z,_,_,_,_,_,_,_,Z,Z,?_,Ai.nil,fun w hw=>(by cases hw),by simpa using h2⟩
 ·exact(Vs.emp).trans (Vs.perm (Afi (l₁:=[emp])))
 ·exact Ai.zero C6 (by omega) AdE (by omega)
def OK(P:Program)(f:FuncId):Prop:=∀{d}{D:Ff}{v w L}{k:Nat}{l:Sec},Dv d D v L→k<D.syn.length→Ay d w l→l.length=256→D.opn.length≤1000000→
 Ao P f [v,vZ k,w] d L (Ret fun r d' L'=>r=vZ 0∧d'=d∧Dv d ⟨D.syn,D.opn++[(k,l)]⟩ v L')
def Kf(a0 a1:Nat):A9:=⟨32,[(.tmp 6)],(sR (o1 6 (.mv z0) .done) (.seq (sR (om 8 0<|om 9 1<|om 10 2<|oL 11 10<|oc 12 a0 [8,9,11]<|om 7 12 .done) (sR (om 13 7<|ob 14 .neq 13 z0 .done) (.cond 14 (sR (om 15 7<|om 6 15 .done) .ret) .skip))) (.seq (.reg true (pm 16 0<|pm 17 0<|p1 18 (.nilc 17)<|p1 19 (.fld 1 18)<|pm 21 1<|pm 22 2<|p1 23 (.s2a 256 22)<|p1 24 (.ld (some 256) 23)<|p1 25 (.bld [(0,1),(1,256)] (Value.int .i64 0::Ct) [(0,21),(1,24)]) (.alt ⟨(some 20),none,(.ld none 19)⟩ (o1 26 (.bsl 1 257 (Value.int .i64 0::Ct) [(0,25)]) (o1 27 (.app 257 264 (Value.int .i64 0::Ct) 20 26) (p1 28 (.nilc 16) (p1 29 (.fld 1 28) (o0 (.st 1 29 27) .done))))) (o1 26 (.bsl 1 257 (Value.int .i64 0::Ct) [(0,25)]) (ol 20 19 (o1 27 (.app 257 264 (Value.int .i64 0::Ct) 20 26) (p1 28 (.nilc 16) (p1 29 (.fld 1 28) (o0 (.st 1 29 27) .done))))))))) (sR (om 30 0<|oc 31 a1 [30] .done) (sR (o1 6 (.mv z0) .done) .ret)))))⟩
def Zx{f1 f2}(hd:dec P f=some (Kf f1 f2))(h1:Jg P f1)(h2:NS P f2):OK P f:=by
 intro d D v w L k l h hk hw hl hn;have h0:=h;obtain⟨b,T,vs,vo,r,hs,ho,rfl,rfl,h3,h4,h5,h6⟩:=h;refine Bj hd<|AE Z<|BG<|Ag Z<|Ab Z<|AK<|BX Z (by assumption)<|Di (B:=[]) Z Z (h1 h0 hk hl)<|A7 Z<|Ab Z<|AJ Z Z<|AT Z<|Aw<|BE [] _ Z<|Ag Z<|Ag Z<|Ap Z<|Am Z<|Ab Z<|AK<|Ada true Z hw hl (by omega) (fun p=>?_);refine Aer Z Z (by rw[Agu];exact hl) ?_;have hcl:(Value.int .i64 (k:Int)::l.map Al).length=257:=by rw[Afq,Agu];omega
 have hwr:RWr d (Value.int .i64 (k:Int)::l.map Al) (k,l):=⟨Z,hl⟩
 refine Fw ?_ ?_
 ·(apply Ah;rfl;exact AG 0 Z Z);refine SP Z (by rw[Afq,C6]) hcl (by omega) (fun b2 T2=>?_);skip;refine D4 (R:=RWr) 2 Z Z h4 Z (Ai.EL hcl hwr) UM (by omega) (by simp;omega) (by simp;omega) (fun v' h' ho'=>?_);(refine Ap Z<|Am Z ?_);obtain⟨av,cv,rfl⟩:=ho'.val;refine Bb 0 [vs,.slice av (D.opn++[(k,l)]).length cv,vZ r,vZ 0] Z Z Z Z (Aff Z) Z Z ?_;have hD:Dv d ⟨D.syn,D.opn++[(k,l)]⟩ (pZ b) [bx b T [vs,.slice av (D.opn++[(k,l)]).length cv,vZ r,vZ 0],hs,h']:=
   ⟨b,T,vs,_,r,hs,h',Z,Z,h3,ho',fun w hw=>by
    rcases Afj.1 hw with hw|hw
    ·exact h5 w hw
    ·cases Afz.1 hw;exact hk,h6⟩
  refine Bo<|Ag Z<|Rs (B:=[]) Z Z (h2 hD) (fun u d' L' _ ⟨e1,e2⟩=>?_);subst e1;subst e2;refine Bo<|AS Z<|BZ Z (Afa _) ⟨Z,Z,hD⟩
 ·refine SP Z (by rw[Afq,C6]) hcl (by omega) (fun b2 T2=>?_);(apply Ah;rfl;exact AG 1 Z Z);refine D4 (R:=RWr) 2 Z Z h4 Z (Ai.EL hcl hwr) UM (by omega) (by simp;omega) (by simp;omega) (fun v' h' ho'=>?_);(refine Ap Z<|Am Z ?_);obtain⟨av,cv,rfl⟩:=ho'.val;refine Bb 0 [vs,.slice av (D.opn++[(k,l)]).length cv,vZ r,vZ 0] Z Z Z Z (Aff Z) Z Z ?_;have hD:Dv d ⟨D.syn,D.opn++[(k,l)]⟩ (pZ b) [bx b T [vs,.slice av (D.opn++[(k,l)]).length cv,vZ r,vZ 0],hs,h']:=
   ⟨b,T,vs,_,r,hs,h',Z,Z,h3,ho',fun w hw=>by
    rcases Afj.1 hw with hw|hw
    ·exact h5 w hw
    ·cases Afz.1 hw;exact hk,h6⟩
  refine Bo<|Ag Z<|Rs (B:=[]) Z Z (h2 hD) (fun u d' L' _ ⟨e1,e2⟩=>?_);subst e1;subst e2;refine Bo<|AS Z<|BZ Z (Afa _) ⟨Z,Z,hD⟩
def QR(P:Program)(f:FuncId):Prop:=∀{d}{D:Ff}{v L},Dv d D v L→1≤D.syn.length→
 Ao P f [v] d L (Ret fun r d' L'=>r=vZ 0∧d'=d∧Dv d ⟨synced D.opn D.syn,[]⟩ v L')
def K9(a0 a1:Nat):A9:=⟨35,[(.tmp 2)],(sR (o1 2 (.mv z0) .done) (.seq (sR (om 6 0<|oc 7 a0 [6,z0,(kZ 256)]<|om 3 7 .done) (sR (om 8 3<|ob 9 .neq 8 z0 .done) (.cond 9 (sR (om 10 3<|om 2 10 .done) .ret) .skip))) (.seq (sR (om 11 0<|o1 12 (.nilc 11)<|oj 13 1 12<|ol 14 13<|oL 15 14<|o1 16 (.mv z0) .done) (.block 0 (.loop (sR (ob 17 .lss 16 15 .done) (.seq (.cond 17 .skip (.exit 0)) (.seq (.block 1 (sR (oI 18 257 14 16<|o1 19 (.ld (some 257) 18)<|o1 5 (.alo (.agg (Value.int .i64 0::Ct).toArray))<|o0 (.st 257 5 19) .done) (.reg true (pm 20 0<|p1 21 (.nilc 20)<|p1 22 (.fld 0 21)<|pl 23 22<|p1 24 (.fld 0 5)<|pl 25 24<|p1 26 (.fld 1 5)<|p1 27 (.ld (some 256) 26)<|p1 28 (.idx 256 23 25) (.bar (o0 (.st 256 28 27) .done)))))) (rG (ob 29 .add 16 z1<|om 16 29 .done)))))))) (sR (om 30 0<|o1 31 (.nilc 30)<|oj 32 1 31<|o0 (.st 1 32 nS) .done) (sR (om 33 0<|oc 34 a1 [33] .done) (sR (o1 2 (.mv z0) .done) .ret))))))⟩
def AaR{f1 f2}(hd:dec P f=some (K9 f1 f2))(h1:Jg P f1)(h2:NS P f2):QR P f:=by
 intro d D v L h hk;have h0:=h;obtain⟨b,T,vs,vo,r,hs,ho,rfl,rfl,h3,h4,h5,h6⟩:=h;obtain⟨ao,co,rfl⟩:=h4.val;have hlen:=h4.BW;refine Bj hd<|AE Z<|BG<|Ag Z<|Di (B:=[]) Z Z (h1 (n:=256) (k:=0) h0 hk Z)<|A7 Z<|Ab Z<|AJ Z Z<|AT Z<|AZ<|Ag Z<|Ap Z<|Az Z Z Z<|AA Z<|AU Z<|Aq<|Cs (α:=Nat×Aa) (fun x=>[(0,pZ b),(14,.slice ao D.opn.length co),(15,vZ D.opn.length),(16,vZ x.1)])
  (fun x d' L'=>d'=d∧x.1≤D.opn.length∧L'=[bx b T [vs,.slice ao D.opn.length co,vZ r,vZ 0],x.2,ho]∧Ai 256 Ux d vs (synced (D.opn.take x.1) D.syn) x.2) (fun x=>D.opn.length - x.1) (0,hs)
  ⟨Z,Z,Z,Z,trivial⟩ ⟨Z,by omega,Z,h3⟩ ?_
 rintro⟨i,hs'⟩ ρ d' L' ⟨rfl,hi,rfl,hg⟩;simp only at hi hg⊢;by_cases e:i<D.opn.length
 ·obtain⟨bo,To,lo,co',cs,e1,e2,hcl,hcs,hle,hr, -⟩:=Ai.at (by omega) h4 e;cases e1;subst e2;obtain⟨rfl,hbl⟩:=hr;have hin:D.opn[i].1<(synced (D.opn.take i) D.syn).length:=by rw[Fq];exact h5 _ (Agb e)
  obtain⟨bs,Ts,ls,cs',us,rfl,rfl,hul,hus,hsle, -,hset⟩:=Ai.at (by omega) hg hin;refine Ak<|Au Z Z<|By<|B2 Z<|AH<|Aw<|Aq<|Ak<|BT _ Z Z Z (by omega)<|KK _ 2 Z Z hcl hcs ?_;(apply B8;intro _ _);refine Ft 0 Z Z Z hcl (by rw[Afq,C6]) (by rw[Akp,CZ];rfl)<|An<|BI<|Ag Z<|Ap Z<|Am Z<|Ah Z (AG 1 Z Z)<|Az Z Z Z<|Am Z<|KK (D.opn[i].2.map Al) 0 Z Z (by rw[Agu];exact hbl) (fun j u hu=>by rw[Nat.add_comm];simpa using hu)<|BT _ Z Z Z (by omega)<|Cw<|BA 2 Z Z Z (by rw[Agu];exact hbl) hsle (CZ _)<|GJ ⟨_,[_,_,_],Vs.drop (Age _ _),?_⟩;(refine Av<|A4 Z Z<|AU Z ?_);refine⟨(i+1,_),by simp only;omega,⟨Z,Z,Z,Z,trivial⟩,Z,e,Z,?_⟩
  have:=hset _ D.opn[i].2 (by rw[Agu];exact hbl) ⟨Z,hbl⟩;rw[Afw e];rw[J3];exact this
 ·refine Ak<|Au Z Z<|By<|BM Z<|Bl<|A3 Z<|Ap Z<|Am Z<|Bb 0 [vs,nV,vZ r,vZ 0] Z Z Z Z (Aff Z) Z Z ?_;have ei:i=D.opn.length:=by omega
  subst ei;rw[Agz] at hg;have hD:Dv d' ⟨synced D.opn D.syn,[]⟩ (pZ b) [bx b T [vs,nV,vZ r,vZ 0],hs',emp]:=
   ⟨b,T,vs,_,r,hs',emp,Z,Z,hg,Ai.nil,fun w hw=>(by cases hw),by rw[Fq];exact h6⟩
  refine GJ ⟨d',[bx b T [vs,nV,vZ r,vZ 0],hs',emp],?_,?_⟩
  ·exact((Vs.drop (by exact Ahj _ (Ahj _ (List.Sublist.cons _ List.Sublist.slnil)))).trans Vs.emp).trans (Vs.perm (Afi (l₁:=[emp])))
  refine A3 Z<|Rs (B:=[]) Z Z (h2 hD) (fun u d' L' _ ⟨e1,e2⟩=>?_);subst e1;subst e2;refine Bo<|AS Z<|BZ Z (Afa _) ⟨Z,Z,hD⟩
end Go.Gk.Dev
end
section
namespace Go.Gk.Cch
open Go Go.Gk Go.Gk.Dev
structure Fr where
 held:Bool
 sec:Nat
 pins:Nat
 late:Bool
 b:Sec
def fz:Fr:=⟨false,0,0,false,[]⟩
structure CD where
 fr:List Fr
 free:List Nat
 hand:Nat
 hits:Nat
 miss:Nat
def findF(k:Nat):List Fr→Option Nat
 |[]=>none
 |f::l=>if f.held=true∧f.sec=k then some 0 else(findF k l).map (·+1)
def WO{k:Nat}{l:List Fr}{i:Nat}(hi:i<l.length):findF k (l.drop i)=if l[i].held=true∧l[i].sec=k then some 0 else(findF k (l.drop (i+1))).map (·+1):=by
 rw[Afy hi];rfl
def F0{k:Nat}:∀{l:List Fr}{i:Nat},findF k l=some i→∃h:i<l.length,l[i].held=true∧l[i].sec=k
 |[],i,h=>by cases h
 |f::l,i,h=>by
  rw[findF] at h;split at h
  ·rename_i e;cases h;exact⟨by simp,e⟩
  ·cases hf:findF k l with
   |none=>rw[hf] at h;cases h
   |some j=>
    rw[hf] at h;cases h
    obtain⟨h1,h2⟩:=F0 hf
    exact⟨by simpa using h1,by simpa using h2⟩
def P8{k:Nat}:∀{l:List Fr},findF k l=none→∀f∈l,¬(f.held=true∧f.sec=k)
 |f::l,h,g,hg=>by
  rw[findF] at h;split at h
  ·cases h
  ·rename_i e;rcases Afv.1 hg with rfl|hg
   ·exact e
   ·refine P8 ?_ g hg;cases hf:findF k l with
    |none=>rfl
    |some j=>rw[hf] at h;cases h
def CK(l:List Fr):Bool:=l.all fun f=>f.pins !=0
def BF(l:List Fr)(h:Nat):Bool:=(l.getD h fz).pins==0 && !(l.getD h fz).late
def D8(l:List Fr)(h:Nat):List Fr:=if (l.getD h fz).pins=0 then l.set h {l.getD h fz with late:=false} else l
def C1(l:List Fr)(h:Nat):Nat:=(h+1) % l.length
def CT:Nat→List Fr→Nat→List Fr×Nat×Nat
 |0,l,h=>(l,C1 l h,h)
 |n+1,l,h=>if BF l h then(l,C1 l h,h) else CT n (D8 l h) (C1 l h)
def FV(l:List Fr)(h:Nat):(D8 l h).length=l.length:=by unfold D8;split<;>simp
def SJ(l:List Fr):Nat:=l.countP fun f=>f.pins==0 && f.late
def G7(l:List Fr):Nat→Nat→Nat
 |0,_=>0
 |n+1,h=>if (l.getD h fz).pins=0 then 0 else G7 l n (C1 l h)+1
def DR(l:List Fr)(h:Nat):Nat:=SJ l*(l.length+1)+G7 l l.length h
def VL(l:List Fr):∀n h,G7 l n h≤n
 |0,_=>Afe _
 |n+1,h=>by rw[G7];split;omega;have:=VL l n (C1 l h);omega
def OQ{l:List Fr}{j:Nat}(hj:j<l.length)(hp:(l.getD j fz).pins=0):∀(n h:Nat),h<l.length→(h+n) % l.length=j→∀m,n<m→G7 l m h=G7 l (n+1) h
 |0,h,hh,e,m,hm=>by
  rw[Nat.add_zero,Ain hh] at e;subst e;cases m with
  |zero=>omega
  |succ m=>rw[G7,G7,if_pos hp,if_pos hp]
 |n+1,h,hh,e,m,hm=>by
  cases m with
  |zero=>omega
  |succ m=>
   rw[G7,G7]
   by_cases q:(l.getD h fz).pins=0
   ·rw[if_pos q,if_pos q]
   ·rw[if_neg q,if_neg q]
    have h1:C1 l h<l.length:=Aiq _ (by omega)
    have h2:(C1 l h+n) % l.length=j:=by
     rw[C1,Nat.mod_add_mod,←e];congr 1;omega
    rw[OQ hj hp n (C1 l h) h1 h2 m (by omega)]
def Zz{l:List Fr}{h:Nat}(hh:h<l.length)(hn:CK l=false)(hp:(l.getD h fz).pins≠0):G7 l l.length (C1 l h)<G7 l l.length h:=by
 obtain⟨f,hf,hq⟩:=by simpa [CK] using hn
 obtain⟨j,hj,rfl⟩:=Ahe hf;have hj0:(l.getD j fz).pins=0:=by rw[Afd,Afc hj];exact hq
 have hpos:0<l.length:=by omega
 have key:∃n,n<l.length∧(C1 l h+n) % l.length=j:=by
  have h1:C1 l h<l.length:=Aiq _ hpos;refine⟨(j+l.length - C1 l h) % l.length,Aiq _ hpos,?_⟩
  rw[Nat.add_mod_mod,show C1 l h+(j+l.length - C1 l h)=j+l.length by omega,Nat.add_mod_right,Ain hj]
 obtain⟨n,hn1,hn2⟩:=key;have h1:C1 l h<l.length:=Aiq _ hpos;have hn3:n≠l.length - 1:=by
  intro e;subst e;rw[C1,Nat.mod_add_mod,show h+1+(l.length - 1)=h+l.length by omega,Nat.add_mod_right,Ain hh] at hn2;subst hn2;exact hp hj0
 obtain⟨m,hm⟩:∃m,l.length=m+1:=⟨l.length - 1,by omega⟩
 have e1:=OQ hj hj0 n (C1 l h) h1 hn2 l.length hn1;have e2:=OQ hj hj0 n (C1 l h) h1 hn2 m (by omega);have e3:G7 l l.length h=G7 l m (C1 l h)+1:=by
  rw[hm,G7,if_neg hp]
 rw[e3,e1,e2];omega
def Zu{l:List Fr}{h:Nat}(hh:h<l.length)(hp:(l.getD h fz).pins=0)(hl:(l.getD h fz).late=true):SJ (l.set h {l.getD h fz with late:=false})+1=SJ l:=by
 unfold SJ;have e:l.getD h fz=l[h]:=by rw[Afd,Afc hh];rfl
 rw[e] at hp hl⊢;rw[List.countP_set hh];simp only[hp,hl];have:0<l.countP fun f=>f.pins==0 && f.late:=List.countP_pos_iff.2 ⟨l[h],Agb hh,by simp[hp,hl]⟩;simp;omega
def Ic{l:List Fr}{h:Nat}(hh:h<l.length)(hn:CK l=false)(ht:BF l h=false):DR (D8 l h) (C1 l h)<DR l h:=by
 have hd:=VL (D8 l h) (D8 l h).length (C1 l h);rw[FV] at hd;unfold DR;rw[FV];by_cases hp:(l.getD h fz).pins=0
 ·have hl:(l.getD h fz).late=true:=by
   unfold BF at ht;rw[hp] at ht;simpa using ht
  have:=Zu hh hp hl;have e:D8 l h=l.set h {l.getD h fz with late:=false}:=by rw[D8,if_pos hp]
  rw[e] at hd⊢;rw[←this,Aht,Ajg];omega
 ·have e:D8 l h=l:=by rw[D8,if_neg hp]
  rw[e];have:=Zz hh hn hp;omega
def H0{l:List Fr}{h:Nat}:CK (D8 l h)=CK l:=by
 unfold D8;split
 ·rename_i hp;by_cases hh:h<l.length
  ·have e:l.getD h fz=l[h]:=by rw[Afd,Afc hh];rfl
   rw[e] at hp⊢;have h1:CK l=false:=by
    unfold CK;rw[List.all_eq_false];exact⟨l[h],Agb hh,by simp[hp]⟩
   have h2:CK (l.set h {l[h] with late:=false})=false:=by
    unfold CK;rw[List.all_eq_false];exact⟨_,List.mem_set hh _,by simp[hp]⟩
   rw[h1,h2]
  ·rw[Aip (by omega)]
 ·rfl
def Ni:∀(n:Nat) {l:List Fr}{h:Nat},h<l.length→CK l=false→DR l h<n→∀m,n≤m→CT m l h=CT n l h
 |0,l,h,_,_,hm,_,_=>by omega
 |n+1,l,h,hh,hn,hm,m,hle=>by
  cases m with
  |zero=>omega
  |succ m=>
   rw[CT,CT]
   cases ht:BF l h with
   |true=>rfl
   |false=>
    simp only[Afh,if_false]
    exact Ni n (by rw[FV];exact Aiq _ (by omega)) (by rw[H0];exact hn) (by have:=Ic hh hn ht;omega) m (by omega)
def PX{l:List Fr}{h:Nat}(hh:h<l.length)(hn:CK l=false)(ht:BF l h=false):CT (DR (D8 l h) (C1 l h)+1) (D8 l h) (C1 l h)=CT (DR l h+1) l h:=by
 rw[show CT (DR l h+1) l h=CT (DR l h) (D8 l h) (C1 l h) by rw[CT,ht];rfl];have h1:=Ic hh hn ht;exact(Ni _ (by rw[FV];exact Aiq _ (by omega)) (by rw[H0];exact hn) (Nat.lt_succ_self _) _ (by omega)).symm
def FG(c:CD):CD×Option Nat:=
 match c.free with
 |i::r=>({c with free:=r},some i)
 |[]=>if CK c.fr then(c,none) else let s:=CT (DR c.fr c.hand+1) c.fr c.hand;({c with fr:=s.1,hand:=s.2.1},some s.2.2)
def FD(b:Sec)(c:CD)(k:Nat):CD×Option Sec:=
 match findF k c.fr with
 |some i=>({c with fr:=c.fr.set i {c.fr.getD i fz with pins:=(c.fr.getD i fz).pins+1,late:=true},hits:=c.hits+1},some (c.fr.getD i fz).b)
 |none=>match FG c with
  |(c',none)=>(c',none)
  |(c',some i)=>({c' with fr:=c'.fr.set i ⟨true,k,1,true,b⟩,miss:=c'.miss+1},some b)
def DI(c:CD)(k:Nat):CD×Int:=
 match findF k c.fr with
 |none=>(c,240)
 |some i=>if (c.fr.getD i fz).pins=0 then(c,180) else({c with fr:=c.fr.set i {c.fr.getD i fz with pins:=(c.fr.getD i fz).pins - 1}},0)
def DH(c:CD)(k:Nat):CD×Int:=
 match findF k c.fr with
 |none=>(c,240)
 |some i=>if (c.fr.getD i fz).pins>0 then(c,180) else({c with fr:=c.fr.set i fz,free:=c.free++[i]},0)
def EI(c:CD):List Int:=c.fr.map fun f=>if f.held then(f.sec:Int) else -1
end Go.Gk.Cch
namespace Go.Gk.Cch
open Go Go.Gk Go.Gk.Dev
def MR(c:CD)(n:Nat):Prop:=∀f∈c.fr,f.pins≤n
def OA:∀(n:Nat) {l:List Fr}{h:Nat},h<l.length→(CT n l h).1.length=l.length∧(CT n l h).2.2<l.length∧(CT n l h).2.1<l.length
 |0,l,h,hh=>⟨Z,hh,Aiq _ (by omega)⟩
 |n+1,l,h,hh=>by
  rw[CT];split
  ·exact⟨Z,hh,Aiq _ (by omega)⟩
  ·have:=OA n (l:=D8 l h) (h:=C1 l h) (by rw[FV];exact Aiq _ (by omega));rw[FV] at this;exact this
def Wf{c c1:CD}{i:Nat}(hh:c.hand<c.fr.length)(hf:∀i∈c.free,i<c.fr.length)(h:FG c=(c1,some i)):i<c1.fr.length:=by
 unfold FG at h;split at h
 ·rename_i j r e;cases h;exact hf _ (by rw[e];exact Afn ..)
 ·split at h
  ·cases h
  ·cases h;have:=OA (DR c.fr c.hand+1) hh;simp only;omega
end Go.Gk.Cch
end
section
namespace Go.Gk.Cch
open Go Go.Gk Go.Gk.Dev
variable{i k N:Nat}{c c':CD}{cur:Nat→Sec}
def Im:∀{l m:List Nat},l.Nodup→(∀x∈l,x∈m)→l.length≤m.length
 |[],_,_,_=>Nat.zero_le _
 |x::l,m,h,hs=>by
  have hx:=hs x (Afn ..);have:=Im (l:=l) (m:=m.erase x) (Aim.1 h).2 (fun y hy=>by
   have hne:y≠x:=fun e=>(Aim.1 h).1 (e▸hy);exact(List.mem_erase_of_ne hne).2 (hs y (Afr _ hy)))
  rw[List.length_erase_of_mem hx] at this;have:=List.length_pos_of_mem hx;simp only[Afq];omega
abbrev CD.at(c:CD)(i:Nat):Fr:=c.fr.getD i fz
structure Inv (cur:Nat→Sec) (N:Nat) (c:CD):Prop where
 n1:1≤c.fr.length
 n2:c.fr.length≤64
 hd:c.hand<c.fr.length
 fl:∀i∈c.free,i<c.fr.length
 nd:c.free.Nodup
 fh:∀i,i<c.fr.length→((c.at i).held=false↔i∈c.free)
 ds:∀i j,i<c.fr.length→j<c.fr.length→(c.at i).held=true→(c.at j).held=true→(c.at i).sec=(c.at j).sec→i=j
 vl:∀i,i<c.fr.length→(c.at i).held=true→(c.at i).sec<N∧(c.at i).b=cur (c.at i).sec
 pz:∀i,i<c.fr.length→(c.at i).held=false→(c.at i).pins=0∧(c.at i).sec=0
def C3(c:CD)(k:Nat):Nat:=match findF k c.fr with|some i=>(c.at i).pins|none=>0
def at_set{l:List Fr}{j:Nat}{f:Fr}(hi:i<l.length):(l.set i f).getD j fz=if j=i then f else l.getD j fz:=by
 simp only[Afd,List.getElem?_set];by_cases e:i=j
 ·subst e;simp[hi]
 ·rw[if_neg e,if_neg (fun h=>e h.symm)]
def C5{l:List Fr}{i:Nat}(hi:i<l.length):l.getD i fz=l[i]:=by rw[Afd,Afc hi];rfl
def DL(h:findF k c.fr=some i):i<c.fr.length∧(c.at i).held=true∧(c.at i).sec=k:=by
 obtain⟨h1,h2,h3⟩:=F0 h;exact⟨h1,by rw[CD.at,C5 h1];exact h2,by rw[CD.at,C5 h1];exact h3⟩
def Hg(h:findF k c.fr=none)(hi:i<c.fr.length)(hh:(c.at i).held=true):(c.at i).sec≠k:=by
 intro e;rw[CD.at,C5 hi] at hh e;exact P8 h _ (Agb hi) ⟨hh,e⟩
def Inv.find(h:Inv cur N c)(hi:i<c.fr.length)(hh:(c.at i).held=true)(hs:(c.at i).sec=k):findF k c.fr=some i:=by
 cases hf:findF k c.fr with
 |none=>exact absurd hs (Hg hf hi hh)
 |some j=>
  obtain⟨h1,h2,h3⟩:=DL hf
  rw[h.ds j i h1 hi h2 hh (h3.trans hs.symm)]
def UQ(h:Inv cur N c)(hi:i<c.fr.length)(hh:(c.at i).held=true):C3 c (c.at i).sec=(c.at i).pins:=by
 rw[C3,h.find hi hh Z]
def Fb(l m:List Fr):Prop:=l.length=m.length∧∀i,(l.getD i fz).held=(m.getD i fz).held∧(l.getD i fz).sec=(m.getD i fz).sec∧(l.getD i fz).pins=(m.getD i fz).pins∧(l.getD i fz).b=(m.getD i fz).b
def Fb.refl(l:List Fr):Fb l l:=⟨Z,fun _=>⟨Z,Z,Z,Z⟩⟩
def Fb.trans{a b c:List Fr}(h:Fb a b)(k:Fb b c):Fb a c:=
 ⟨h.1.trans k.1,fun i=>let ⟨x,y,z,w⟩:=h.2 i;let ⟨x',y',z',w'⟩:=k.2 i;⟨x.trans x',y.trans y',z.trans z',w.trans w'⟩⟩
def RK(l:List Fr)(h:Nat):Fb (D8 l h) l:=by
 unfold D8;split
 ·by_cases hh:h<l.length
  ·refine⟨by simp,fun i=>?_⟩
   rw[at_set hh];by_cases e:i=h
   ·subst e;rw[if_pos Z];exact⟨Z,Z,Z,Z⟩
   ·rw[if_neg e];exact⟨Z,Z,Z,Z⟩
  ·rw[Aip (by omega)];exact Fb.refl l
 ·exact Fb.refl l
def KG:∀(n:Nat) (l:List Fr) (h:Nat),Fb (CT n l h).1 l
 |0,l,_=>Fb.refl l
 |n+1,l,h=>by
  rw[CT];split
  ·exact Fb.refl l
  ·exact(KG n _ _).trans (RK l h)
def Qd:∀(n:Nat) {l:List Fr}{h:Nat},h<l.length→CK l=false→DR l h<n→(l.getD (CT n l h).2.2 fz).pins=0
 |0,_,_,_,_,hm=>by omega
 |n+1,l,h,hh,hn,hm=>by
  rw[CT];cases ht:BF l h with
  |true=>
   simp only[if_true]
   unfold BF at ht
   simp only[Bool.and_eq_true,beq_iff_eq] at ht
   exact ht.1
  |false=>
   simp only[Afh,if_false]
   have:=Qd n (l:=D8 l h) (h:=C1 l h) (by rw[FV];exact Aiq _ (by omega)) (by rw[H0];exact hn) (by have:=Ic hh hn ht;omega)
   rw[((RK l h).2 _).2.2.1] at this
   exact this
def Inv.same(h:Inv cur N c)(hl:c'.fr.length=c.fr.length)(hf:c'.free=c.free)(hh:c'.hand<c.fr.length)
  (he:∀i,(c'.at i).held=(c.at i).held∧(c'.at i).sec=(c.at i).sec∧(c'.at i).b=(c.at i).b∧((c.at i).held=false→(c'.at i).pins=(c.at i).pins)):Inv cur N c' where
 n1:=by rw[hl];exact h.n1
 n2:=by rw[hl];exact h.n2
 hd:=by rw[hl];exact hh
 fl:=by rw[hl,hf];exact h.fl
 nd:=by rw[hf];exact h.nd
 fh:=fun i hi=>by rw[(he i).1,hf];exact h.fh i (hl▸hi)
 ds:=fun i j hi hj h1 h2 h3=>by rw[(he i).1] at h1;rw[(he j).1] at h2;rw[(he i).2.1,(he j).2.1] at h3;exact h.ds i j (hl▸hi) (hl▸hj) h1 h2 h3
 vl:=fun i hi h1=>by rw[(he i).1] at h1;rw[(he i).2.1,(he i).2.2.1];exact h.vl i (hl▸hi) h1
 pz:=fun i hi h1=>by rw[(he i).1] at h1;rw[(he i).2.2.2 h1,(he i).2.1];exact h.pz i (hl▸hi) h1
def Inv.take{c1:CD}(h:Inv cur N c)(hl:Fb c1.fr c.fr)(hh:c1.hand<c.fr.length)(hi:i<c.fr.length)(hk:k<N)(hn:findF k c.fr=none)
  (hf:(c.free=i::c1.free)∨(c.free=[]∧c1.free=[]∧(c.at i).pins=0)) {m:Nat}(c2:CD) (e:c2={c1 with fr:=c1.fr.set i ⟨true,k,1,true,cur k⟩,miss:=m}):
  Inv cur N c2∧(∀s,C3 c2 s=if s=k then C3 c s+1 else C3 c s)∧findF k c2.fr=some i:=by
 have hi1:i<c1.fr.length:=by rw[hl.1];exact hi
 have hlen:c2.fr.length=c.fr.length:=by subst e;simp[hl.1]
 have hat:∀j,c2.at j=if j=i then⟨true,k,1,true,cur k⟩ else c1.fr.getD j fz:=fun j=>by subst e;exact at_set hi1
 have hsame:∀j,j≠i→(c2.at j).held=(c.at j).held∧(c2.at j).sec=(c.at j).sec∧(c2.at j).pins=(c.at j).pins∧(c2.at j).b=(c.at j).b:=fun j hj=>by
  rw[hat,if_neg hj];exact hl.2 j
 have hself:c2.at i=⟨true,k,1,true,cur k⟩:=by rw[hat,if_pos Z]
 have hfree:c2.free=c1.free:=by subst e;rfl
 have hsub:∀j,j≠i→(j∈c1.free↔j∈c.free):=fun j hj=>by
  rcases hf with hf|⟨hf1,hf2,_⟩
  ·rw[hf];simp[hj]
  ·rw[hf1,hf2]
 have hni:i∉c1.free:=by
  rcases hf with hf|⟨_,hf2,_⟩
  ·have:=h.nd;rw[hf] at this;exact(Aim.1 this).1
  ·rw[hf2];exact List.not_mem_nil
 have hpi:(c.at i).pins=0:=by
  rcases hf with hf|⟨_,_,hp⟩
  ·exact(h.pz i hi ((h.fh i hi).2 (by rw[hf];exact Afn ..))).1
  ·exact hp
 have I:Inv cur N c2:=
 {n1:=by rw[hlen];exact h.n1
  n2:=by rw[hlen];exact h.n2
  hd:=by rw[hlen];subst e;exact hh
  fl:=fun j hj=>by
   rw[hfree] at hj;rw[hlen];by_cases q:j=i
   ·subst q;exact absurd hj hni
   ·exact h.fl j ((hsub j q).1 hj)
  nd:=by
   rw[hfree];rcases hf with hf|⟨_,hf2,_⟩
   ·have:=h.nd;rw[hf] at this;exact(Aim.1 this).2
   ·rw[hf2];exact List.nodup_nil
  fh:=fun j hj=>by
   rw[hlen] at hj;rw[hfree];by_cases q:j=i
   ·subst q;rw[hself];exact⟨(fun z=>by cases z),fun z=>absurd z hni⟩
   ·rw[(hsame j q).1,hsub j q];exact h.fh j hj
  ds:=fun a b ha hb h1 h2 h3=>by
   rw[hlen] at ha hb;by_cases qa:a=i
   ·by_cases qb:b=i
    ·omega
    ·subst qa;rw[hself,(hsame b qb).2.1] at h3;rw[(hsame b qb).1] at h2;exact absurd h3.symm (Hg hn hb h2)
   ·by_cases qb:b=i
    ·subst qb;rw[hself,(hsame a qa).2.1] at h3;rw[(hsame a qa).1] at h1;exact absurd h3 (Hg hn ha h1)
    ·rw[(hsame a qa).1] at h1;rw[(hsame b qb).1] at h2;rw[(hsame a qa).2.1,(hsame b qb).2.1] at h3;exact h.ds a b ha hb h1 h2 h3
  vl:=fun a ha h1=>by
   rw[hlen] at ha;by_cases qa:a=i
   ·subst qa;rw[hself];exact⟨hk,Z⟩
   ·rw[(hsame a qa).1] at h1;rw[(hsame a qa).2.1,(hsame a qa).2.2.2];exact h.vl a ha h1
  pz:=fun a ha h1=>by
   rw[hlen] at ha;by_cases qa:a=i
   ·subst qa;rw[hself] at h1;cases h1
   ·rw[(hsame a qa).1] at h1;rw[(hsame a qa).2.2.1,(hsame a qa).2.1];exact h.pz a ha h1}
 have hfk:findF k c2.fr=some i:=I.find (by rw[hlen];exact hi) (by rw[hself]) (by rw[hself])
 refine⟨I,fun s=>?_,hfk⟩
 by_cases q:s=k
 ·subst q
  rw[if_pos Z,C3,hfk,C3,hn]
  show(c2.at i).pins=_
  rw[hself]
 ·rw[if_neg q]
  cases hs:findF s c.fr with
  |some j=>
   obtain⟨h1,h2,h3⟩:=DL hs
   by_cases qj:j=i
   ·subst qj
    have e1:C3 c s=0:=by rw[C3,hs];exact hpi
    rw[e1,C3]
    cases ht:findF s c2.fr with
    |none=>rfl
    |some a=>
     obtain⟨g1,g2,g3⟩:=DL ht
     by_cases qa:a=j
     ·subst qa;rw[hself] at g3;exact absurd g3.symm q
     ·rw[hlen] at g1
      rw[(hsame a qa).1] at g2;rw[(hsame a qa).2.1] at g3
      exact absurd (h.ds a j g1 h1 g2 h2 (g3.trans h3.symm)) qa
   ·have:findF s c2.fr=some j:=I.find (by rw[hlen];exact h1) (by rw[(hsame j qj).1];exact h2) (by rw[(hsame j qj).2.1];exact h3)
    rw[C3,this,C3,hs]
    exact(hsame j qj).2.2.1
  |none=>
   have e1:C3 c s=0:=by rw[C3,hs]
   rw[e1,C3]
   cases ht:findF s c2.fr with
   |none=>rfl
   |some a=>
    obtain⟨g1,g2,g3⟩:=DL ht
    rw[hlen] at g1
    by_cases qa:a=i
    ·subst qa;rw[hself] at g3;exact absurd g3.symm q
    ·rw[(hsame a qa).1] at g2;rw[(hsame a qa).2.1] at g3
     exact absurd g3 (Hg hs g1 g2)
def get_some{b:Sec}(h:Inv cur N c)(hk:k<N)(hg:FD (cur k) c k=(c',some b)):
  Inv cur N c'∧b=cur k∧(∀s,C3 c' s=if s=k then C3 c s+1 else C3 c s)∧(∃i,findF k c'.fr=some i)∧c'.fr.length=c.fr.length∧
   (match findF k c.fr with|some _=>c'.hits=c.hits+1∧c'.miss=c.miss|none=>c'.hits=c.hits∧c'.miss=c.miss+1)∧
   (c.free≠[]∨findF k c.fr≠none→∀s,s≠k→(findF s c'.fr=none↔findF s c.fr=none)):=by
 unfold FD at hg
 cases hf:findF k c.fr with
 |some i=>
  rw[hf] at hg
  cases hg
  obtain⟨h1,h2,h3⟩:=DL hf
  have hat:∀j,((c.fr.set i {c.fr.getD i fz with pins:=(c.fr.getD i fz).pins+1,late:=true}).getD j fz)=if j=i then{c.fr.getD i fz with pins:=(c.fr.getD i fz).pins+1,late:=true} else c.fr.getD j fz:=fun j=>at_set h1
  have hsame:Fb (c.fr.set i {c.fr.getD i fz with pins:=(c.fr.getD i fz).pins,late:=true}) c.fr:=⟨by simp,fun j=>by
   rw[at_set h1];by_cases q:j=i
   ·subst q;rw[if_pos Z];exact⟨Z,Z,Z,Z⟩
   ·rw[if_neg q];exact⟨Z,Z,Z,Z⟩⟩
  have hfind:∀s,findF s (c.fr.set i {c.fr.getD i fz with pins:=(c.fr.getD i fz).pins+1,late:=true})=findF s c.fr:=by
   intro s;have gen:∀(l:List Fr) (i:Nat) (f:Fr),f.held=(l.getD i fz).held→f.sec=(l.getD i fz).sec→findF s (l.set i f)=findF s l:=by
    intro l;induction l with
    |nil=>intro i f _ _;rfl
    |cons g l ih=>
     intro i f e1 e2
     cases i with
     |zero=>simp only[Aid] at e1 e2;rw[List.set_cons_zero,findF,findF,e1,e2]
     |succ i=>simp only[Ahw] at e1 e2;rw[Aje,findF,findF,ih i f e1 e2]
   exact gen c.fr i _ Z Z
  refine⟨h.same (by simp) Z h.hd (fun j=>?_),?_,fun s=>?_,⟨i,by rw[hfind];exact hf⟩,by simp,⟨Z,Z⟩,fun _ s _=>by rw[hfind]⟩
  ·simp only[CD.at,hat]
   by_cases q:j=i
   ·subst q;rw[if_pos Z];exact⟨Z,Z,Z,fun z=>by rw[CD.at] at h2;rw[h2] at z;cases z⟩
   ·rw[if_neg q];exact⟨Z,Z,Z,fun _=>Z⟩
  ·rw[(h.vl i h1 h2).2,h3]
  ·simp only[C3,hfind,CD.at]
   by_cases q:s=k
   ·subst q
    rw[if_pos Z,hf]
    simp only[hat,if_true]
   ·rw[if_neg q]
    cases hs:findF s c.fr with
    |none=>rfl
    |some j=>
     have hj:j≠i:=by
      rintro rfl;obtain⟨_,_,g3⟩:=DL hs;exact q (g3.symm.trans h3)
     simp only[hat,if_neg hj]
 |none=>
  rw[hf] at hg
  simp only at hg
  unfold FG at hg
  cases hfr:c.free with
  |cons i r=>
   rw[hfr] at hg
   simp only at hg
   cases hg
   have hi:=h.fl i (by rw[hfr];exact Afn ..)
   obtain⟨g1,g2,g3⟩:=h.take (c1:={c with free:=r}) (Fb.refl _) h.hd hi hk hf (.inl hfr) _ Z
   refine⟨g1,Z,g2,⟨i,g3⟩,by simp,⟨Z,Z⟩,fun _ s hs=>?_⟩
   have hnh:(c.at i).held=false:=(h.fh i hi).2 (by rw[hfr];exact Afn ..)
   constructor
   ·intro z
    cases q:findF s c.fr with
    |none=>rfl
    |some j=>
     obtain⟨y1,y2,y3⟩:=DL q
     have hj:j≠i:=by rintro rfl;rw[hnh] at y2;cases y2
     have e:(c.fr.set i ⟨true,k,1,true,cur k⟩).getD j fz=c.fr.getD j fz:=by rw[at_set hi,if_neg hj]
     have:=g1.find (k:=s) (i:=j) (by simpa using y1) (by simp only[CD.at];rw[e];exact y2) (by simp only[CD.at];rw[e];exact y3)
     rw[this] at z;cases z
   ·intro z
    cases q:findF s (c.fr.set i ⟨true,k,1,true,cur k⟩) with
    |none=>rfl
    |some j=>
     obtain⟨y1,y2,y3⟩:=DL (c:={c with free:=r,fr:=c.fr.set i ⟨true,k,1,true,cur k⟩}) q
     simp only[CD.at] at y2 y3
     rw[at_set hi] at y2 y3
     by_cases hj:j=i
     ·rw[if_pos hj] at y3;exact absurd y3.symm hs
     ·rw[if_neg hj] at y2 y3
      exact absurd y3 (Hg z (by simpa using y1) y2)
  |nil=>
   rw[hfr] at hg
   simp only at hg
   cases hp:CK c.fr with
   |true=>rw[hp] at hg;simp only[if_true] at hg;cases hg
   |false=>
    rw[hp] at hg
    simp only[Afh,if_false] at hg
    cases hg
    have hs:=KG (DR c.fr c.hand+1) c.fr c.hand
    have hl:=OA (DR c.fr c.hand+1) h.hd
    have hpz:=Qd _ h.hd hp (Nat.lt_succ_self _)
    obtain⟨g1,g2,g3⟩:=h.take (c1:=⟨(CT (DR c.fr c.hand+1) c.fr c.hand).1,[],(CT (DR c.fr c.hand+1) c.fr c.hand).2.1,c.hits,c.miss⟩) hs hl.2.2 hl.2.1 hk hf (.inr ⟨hfr,Z,hpz⟩) _ Z
    exact⟨g1,Z,g2,⟨_,g3⟩,by simp[hl.1],⟨Z,Z⟩,fun z=>by rcases z with z|z<;>exact absurd Z z⟩
def get_none(_:Inv cur N c)(hg:FD (cur k) c k=(c',none)):c'=c∧findF k c.fr=none∧c.free=[]∧CK c.fr=true:=by
 unfold FD at hg;cases hf:findF k c.fr with
 |some i=>rw[hf] at hg;cases hg
 |none=>
  rw[hf] at hg
  simp only at hg
  unfold FG at hg
  cases hfr:c.free with
  |cons i r=>rw[hfr] at hg;cases hg
  |nil=>
   rw[hfr] at hg
   simp only at hg
   cases hp:CK c.fr with
   |true=>rw[hp] at hg;simp only[if_true] at hg;cases hg;exact⟨Z,Z,Z,Z⟩
   |false=>rw[hp] at hg;simp only[Afh,if_false] at hg;cases hg
def Inv.full(h:Inv cur N c)(hf:c.free=[]){S:List Nat}(hS:∀i,i<c.fr.length→(c.at i).sec∈S):c.fr.length≤S.length:=by
 have hheld:∀i,i<c.fr.length→(c.at i).held=true:=fun i hi=>by
  cases q:(c.at i).held with
  |true=>rfl
  |false=>have:=(h.fh i hi).1 q;rw[hf] at this;cases this
 have hn:((Agf c.fr.length).map fun i=>(c.at i).sec).Nodup:=by
  refine List.pairwise_map.2 (List.Pairwise.imp_of_mem (fun{a b} ha hb hne e=>hne ?_) List.nodup_range);exact h.ds a b (Aik.1 ha) (Aik.1 hb) (hheld a (Aik.1 ha)) (hheld b (Aik.1 hb)) e
 have:=Im hn (m:=S) (fun x hx=>by
  obtain⟨i,hi,rfl⟩:=List.mem_map.1 hx;exact hS i (Aik.1 hi))
 simpa using this
def Yi(h:Inv cur N c)(hp:C3 c k≠0):
  Inv cur N (DI c k).1∧(DI c k).2=0∧(∀s,C3 (DI c k).1 s=if s=k then C3 c s - 1 else C3 c s)∧(DI c k).1.fr.length=c.fr.length∧(DI c k).1.hits=c.hits∧(DI c k).1.miss=c.miss∧(DI c k).1.free=c.free∧
   ∀s,findF s (DI c k).1.fr=findF s c.fr:=by
 unfold DI
 cases hf:findF k c.fr with
 |none=>rw[C3,hf] at hp;exact absurd Z hp
 |some i=>
  have hpi:(c.fr.getD i fz).pins≠0:=by rw[C3,hf] at hp;exact hp
  simp only[if_neg hpi]
  obtain⟨h1,h2,h3⟩:=DL hf
  have hfind:∀s,findF s (c.fr.set i {c.fr.getD i fz with pins:=(c.fr.getD i fz).pins - 1})=findF s c.fr:=by
   intro s;have gen:∀(l:List Fr) (i:Nat) (f:Fr),f.held=(l.getD i fz).held→f.sec=(l.getD i fz).sec→findF s (l.set i f)=findF s l:=by
    intro l;induction l with
    |nil=>intro i f _ _;rfl
    |cons g l ih=>
     intro i f e1 e2
     cases i with
     |zero=>simp only[Aid] at e1 e2;rw[List.set_cons_zero,findF,findF,e1,e2]
     |succ i=>simp only[Ahw] at e1 e2;rw[Aje,findF,findF,ih i f e1 e2]
   exact gen c.fr i _ Z Z
  refine⟨h.same (by simp) Z h.hd (fun j=>?_),trivial,fun s=>?_,by simp,trivial,trivial,trivial,hfind⟩
  ·simp only[CD.at,at_set h1]
   by_cases q:j=i
   ·subst q;rw[if_pos Z];exact⟨Z,Z,Z,fun z=>by rw[CD.at] at h2;rw[h2] at z;cases z⟩
   ·rw[if_neg q];exact⟨Z,Z,Z,fun _=>Z⟩
  ·simp only[C3,hfind,CD.at]
   by_cases q:s=k
   ·subst q
    rw[if_pos Z,hf]
    simp only[at_set h1,if_true]
   ·rw[if_neg q]
    cases hs:findF s c.fr with
    |none=>rfl
    |some j=>
     have hj:j≠i:=by
      rintro rfl;obtain⟨_,_,g3⟩:=DL hs;exact q (g3.symm.trans h3)
     simp only[at_set h1,if_neg hj]
def Acu(cur:Nat→Sec)(N n:Nat)(h1:1≤n)(h2:n≤64):Inv cur N ⟨Afu n fz,Agf n,0,0,0⟩:=by
 have hat:∀i,(Afu n fz).getD i fz=fz:=fun i=>by
  rw[Afd,List.getElem?_replicate];split<;>rfl
 exact
 {n1:=by simpa using h1
  n2:=by simpa using h2
  hd:=by simp only[Agk];omega
  fl:=fun i hi=>by simpa using hi
  nd:=List.nodup_range
  fh:=fun i hi=>by simp only[CD.at,hat];simp at hi;simpa [fz] using hi
  ds:=fun i j _ _ hh _ _=>by simp only[CD.at,hat] at hh;cases hh
  vl:=fun i _ hh=>by simp only[CD.at,hat] at hh;cases hh
  pz:=fun i _ _=>by simp only[CD.at,hat];exact⟨Z,Z⟩}
def OY(n k:Nat):findF k (Afu n fz)=none:=by
 induction n with
 |zero=>rfl
 |succ n ih=>rw[List.replicate_succ,findF,ih];simp[fz]
def Inv.held(h:Inv cur N c):∀i (hi:i<(EI c).length),(EI c)[i]<N∧(∀j (hj:j<i),0≤(EI c)[i]→(EI c)[j]≠(EI c)[i]):=by
 have hlen:(EI c).length=c.fr.length:=by simp[EI]
 have hget:∀i (hi:i<(EI c).length),(EI c)[i]=if (c.at i).held then((c.at i).sec:Int) else -1:=fun i hi=>by
  have e:c.at i=c.fr[i]'(hlen▸hi):=C5 _;rw[e];simp[EI]
 intro i hi;rw[hget i hi];cases q:(c.at i).held with
 |false=>exact⟨by simp only[Afh,if_false];omega,fun j _ z=>by simp at z⟩
 |true=>
  refine⟨by simp only[if_true];have:=(h.vl i (hlen▸hi) q).1;omega,fun j hj _ e=>?_⟩
  rw[hget j (by omega)] at e
  cases q':(c.at j).held with
  |false=>rw[q'] at e;simp at e
  |true=>
   rw[q'] at e
   simp only[if_true] at e
   have:=h.ds j i (by omega) (hlen▸hi) q' q (by omega)
   omega
def AbT(h:Inv cur N c){m:Nat}(hp:∀s,C3 c s≤m):∀f∈c.fr,f.pins≤m:=by
 intro f hf;obtain⟨i,hi,rfl⟩:=Ahe hf;have e:c.at i=c.fr[i]:=C5 hi;cases q:(c.at i).held with
 |true=>have:=UQ h hi q;have:=hp (c.at i).sec;rw[←e];omega
 |false=>have:=(h.pz i hi q).1;rw[e] at this;omega
def Sd(h:Inv cur N c)(hf:findF k c.fr=some i)(s:Nat):findF s (c.fr.set i fz)=if s=k then none else findF s c.fr:=by
 obtain⟨h1,h2,h3⟩:=DL hf;have gen:∀(l:List Fr) (i:Nat),i<l.length→(∀j,j<l.length→j≠i→¬((l.getD j fz).held=true∧(l.getD j fz).sec=k))→(l.getD i fz).sec=k→findF s (l.set i fz)=if s=k then none else findF s l:=by
  intro l;induction l with
  |nil=>intro i hi;simp at hi
  |cons g l ih=>
   intro i hi hj hk
   cases i with
   |zero=>
    simp only[Aid] at hk
    rw[List.set_cons_zero,findF,if_neg (by simp[fz]),findF]
    by_cases q:s=k
    ·subst q
     rw[if_pos Z]
     cases hs:findF s l with
     |none=>rfl
     |some j=>
      obtain⟨g1,g2,g3⟩:=F0 hs
      refine absurd ?_ (hj (j+1) (by simpa using g1) (by omega))
      rw[Ahw,C5 g1]
      exact⟨g2,g3⟩
    ·rw[if_neg q,if_neg (fun z=>q (z.2.symm.trans hk))]
   |succ i=>
    simp only[Ahw] at hk
    have h0:=hj 0 (by simp) (by omega)
    simp only[Aid] at h0
    rw[Aje,findF,findF,ih i (by simpa using hi) (fun j g1 g2=>by have:=hj (j+1) (by simpa using g1) (by omega);simpa only[Ahw] using this) hk]
    by_cases q:s=k
    ·subst q;rw[if_pos Z,if_neg h0,if_pos Z];rfl
    ·rw[if_neg q,if_neg q]
 refine gen c.fr i h1 (fun j hj hne z=>hne ?_) h3;exact h.ds j i hj h1 z.1 h2 (z.2.trans h3.symm)
def Vm(h:Inv cur N c)(hf:findF k c.fr=some i)(hp:C3 c k=0):
  DH c k=({c with fr:=c.fr.set i fz,free:=c.free++[i]},0)∧Inv cur N (DH c k).1∧(∀s,findF s (DH c k).1.fr=if s=k then none else findF s c.fr)∧(∀s,C3 (DH c k).1 s=C3 c s):=by
 obtain⟨h1,h2,h3⟩:=DL hf
 have hpi:(c.fr.getD i fz).pins=0:=by rw[C3,hf] at hp;exact hp
 have e:DH c k=({c with fr:=c.fr.set i fz,free:=c.free++[i]},0):=by unfold DH;rw[hf];simp only;rw[if_neg (by omega)]
 have hni:i∉c.free:=fun z=>by rw[(h.fh i h1).2 z] at h2;cases h2
 rw[e]
 have hat:∀j,(c.fr.set i fz).getD j fz=if j=i then fz else c.fr.getD j fz:=fun j=>at_set h1
 have I:Inv cur N {c with fr:=c.fr.set i fz,free:=c.free++[i]}:=
 {n1:=by simpa using h.n1
  n2:=by simpa using h.n2
  hd:=by simpa using h.hd
  fl:=fun j hj=>by
   simp only[Agg];rcases Afj.1 hj with hj|hj
   ·exact h.fl j hj
   ·rw[Afz.1 hj];exact h1
  nd:=by
   rw[List.nodup_append];exact⟨h.nd,by simp,fun a ha b hb z=>by rw[Afz.1 hb] at z;exact hni (z▸ha)⟩
  fh:=fun j hj=>by
   simp only[Agg] at hj;simp only[CD.at,hat,Afj,Afz];by_cases q:j=i
   ·subst q;simp[fz]
   ·rw[if_neg q];have:=h.fh j hj;simp only[CD.at] at this;rw[this];simp[q]
  ds:=fun a b ha hb g1 g2 g3=>by
   simp only[Agg] at ha hb;simp only[CD.at,hat] at g1 g2 g3;by_cases qa:a=i
   ·rw[if_pos qa] at g1;cases g1
   ·by_cases qb:b=i
    ·rw[if_pos qb] at g2;cases g2
    ·rw[if_neg qa] at g1 g3;rw[if_neg qb] at g2 g3;exact h.ds a b ha hb g1 g2 g3
  vl:=fun a ha g1=>by
   simp only[Agg] at ha;simp only[CD.at,hat] at g1⊢;by_cases qa:a=i
   ·rw[if_pos qa] at g1;cases g1
   ·rw[if_neg qa] at g1⊢;exact h.vl a ha g1
  pz:=fun a ha g1=>by
   simp only[Agg] at ha;simp only[CD.at,hat] at g1⊢;by_cases qa:a=i
   ·rw[if_pos qa];exact⟨Z,Z⟩
   ·rw[if_neg qa] at g1⊢;exact h.pz a ha g1}
 refine⟨Z,I,fun s=>Sd h hf s,fun s=>?_⟩
 simp only[C3]
 rw[Sd h hf s]
 by_cases q:s=k
 ·subst q;rw[if_pos Z,hf];exact hpi.symm
 ·rw[if_neg q]
  cases hs:findF s c.fr with
  |none=>rfl
  |some j=>
   obtain⟨g1,g2,g3⟩:=DL hs
   have hj:j≠i:=by rintro rfl;exact q (g3.symm.trans h3)
   simp only[CD.at,hat,if_neg hj]
def Ac6(h:Inv cur N c)(hf:findF k c.fr=some i):c.free.length<c.fr.length:=by
 obtain⟨h1,h2,h3⟩:=DL hf;have hni:i∉c.free:=fun z=>by rw[(h.fh i h1).2 z] at h2;cases h2
 have:=Im (l:=i::c.free) (m:=Agf c.fr.length) (Aim.2 ⟨hni,h.nd⟩) (fun x hx=>by
  rcases Afv.1 hx with rfl|hx
  ·exact Aik.2 h1
  ·exact Aik.2 (h.fl x hx))
 simp only[Afq,List.length_range] at this;omega
end Go.Gk.Cch
end
section
namespace Go.Gk.Pgr
open Go Go.Gk Go.Gk.Dev Go.Gk.Cch
structure PD where
 frm:Nat
 kinds:List Int
 fb:Nat→Sec
 syn:List Sec
 round:Nat
 tc:Nat
abbrev PD.kd(s:PD)(i:Nat):Int:=s.kinds.getD i 0
def PD.kind(s:PD)(k:Int):Int:=if (s.frm:Int)≤k∧k<(s.frm:Int)+s.kinds.length then s.kd (k - s.frm).toNat else -1
def E7(fb:Nat→Sec)(i:Nat)(b:Sec):Nat→Sec:=fun j=>if j=i then b else fb j
def DJ(x:Int):List Int→Option Nat
 |[]=>none
 |y::l=>if x=y then some 0 else(DJ x l).map (·+1)
def PD.Ik(s:PD)(i:Nat):PD:={s with kinds:=s.kinds.set i 1,fb:=E7 s.fb i J0}
def PD.take(s:PD):Option (Nat×PD):=(DJ 0 s.kinds).map fun i=>(s.frm+i,s.Ik i)
def PD.put(s:PD)(k:Int)(b:Sec):PD×Int:=if s.kind k=1 then(if b.length=256 then({s with fb:=E7 s.fb (k - s.frm).toNat b},0) else(s,2)) else(s,240)
def PD.get(s:PD)(k:Int):PD×Option Sec:=
 if s.kind k=1 then({s with tc:=s.tc+1},some (s.fb (k - s.frm).toNat)) else if s.kind k=2 then({s with tc:=s.tc+1},some (s.syn.getD k.toNat [])) else(s,none)
def PD.drop(s:PD)(k:Int):PD×Int:=
 if s.kind k=1 then({s with kinds:=s.kinds.set (k - s.frm).toNat 0},0) else if s.kind k=2 then({s with kinds:=s.kinds.set (k - s.frm).toNat 3},0) else(s,240)
def PD.writes(s:PD):Nat→List (Nat×Sec)
 |0=>[]
 |n+1=>s.writes n++(if s.kd n=1 then [(s.frm+n,s.fb n)] else [])
def PD.flush(s:PD):PD:={s with syn:=synced (s.writes s.kinds.length) s.syn}
def DM(x:Int):Int:=if x=3 then 0 else if x=1 then 2 else x
def PD.done(s:PD):PD:={s with kinds:=s.kinds.map DM,round:=s.round+1}
structure MD where
 kinds:List Int
 fb:Nat→Sec
 round:Nat
def PD.mark(s:PD):MD:=⟨s.kinds,s.fb,s.round⟩
def PD.back(s:PD)(m:MD):PD:={s with kinds:=m.kinds,fb:=m.fb}
def PD.free(s:PD):Nat:=s.kinds.countP (·==0)
def WK(frm:Nat):List Int→Nat→List Int
 |[],_=>[]
 |x::l,i=>if x=2 then((frm+i:Nat):Int)::WK frm l (i+1) else WK frm l (i+1)
def PD.CV(s:PD):List Int:=WK s.frm s.kinds 0
structure Good (s:PD):Prop where
 one:1≤s.kinds.length
 len:s.kinds.length≤8192
 inn:s.frm+s.kinds.length≤s.syn.length
 syn:s.syn.length≤8192
 kd:∀i,0≤s.kd i∧s.kd i≤3
structure C8 (s:PD) (c:CD):Prop where
 inv:Inv (fun k=>s.syn.getD k []) s.syn.length c
 zer:∀k,C3 c k=0
 hold:∀k,findF k c.fr≠none→s.frm≤k∧k<s.frm+s.kinds.length∧2≤s.kd (k - s.frm)
def GW{x:Int}:∀{l:List Int}{i:Nat},DJ x l=some i→∃h:i<l.length,l[i]=x
 |y::l,i,h=>by
  rw[DJ] at h;split at h
  ·rename_i e;cases h;exact⟨by simp,by simp[e]⟩
  ·cases q:DJ x l with
   |none=>rw[q] at h;cases h
   |some j=>
    rw[q] at h;cases h
    obtain⟨h1,h2⟩:=GW q
    exact⟨by simpa using h1,by simpa using h2⟩
def Vi{x:Int}{l:List Int}{i:Nat}(hi:i<l.length):DJ x (l.drop i)=if x=l[i] then some 0 else(DJ x (l.drop (i+1))).map (·+1):=by
 rw[Afy hi];rfl
def J9{s:PD}{i:Nat}(h:i<s.kinds.length):s.kd i=s.kinds[i]:=by rw[PD.kd,Afd,Afc h];rfl
def DK{l:List Int}{i j:Nat}{x:Int}(hi:i<l.length):(l.set i x).getD j 0=if j=i then x else l.getD j 0:=by
 simp only[Afd,List.getElem?_set];by_cases e:i=j
 ·subst e;simp[hi]
 ·rw[if_neg e,if_neg (fun h=>e h.symm)]
def Dm{s:PD}{k:Int}{x:Int}(h:s.kind k=x)(hx:0≤x):∃i,i<s.kinds.length∧k=((s.frm+i:Nat):Int)∧s.kd i=x∧(k - s.frm).toNat=i:=by
 unfold PD.kind at h;split at h
 ·rename_i e;exact⟨(k - s.frm).toNat,by omega,by omega,h,Z⟩
 ·omega
def NR{s:PD}{i:Nat}(hi:i<s.kinds.length):s.kind ((s.frm+i:Nat):Int)=s.kd i:=by
 unfold PD.kind;rw[if_pos (by omega)];congr 1;omega
def Good.kds{s}(h:Good s){ks:List Int}{i:Nat}{x:Int}(e:ks=s.kinds.set i x)(h0:0≤x)(h3:x≤3):Good {s with kinds:=ks}:=by
 subst e;refine⟨by simpa using h.one,by simpa using h.len,by simpa using h.inn,h.syn,fun j=>?_⟩
 simp only[PD.kd];by_cases hi:i<s.kinds.length
 ·rw[DK hi];split
  ·omega
  ·exact h.kd j
 ·rw[Aip (by omega)];exact h.kd j
def Og(l m:List Int):Prop:=l.length=m.length∧∀i,2≤l.getD i 0↔2≤m.getD i 0
def Og.refl(l:List Int):Og l l:=⟨Z,fun _=>Iff.rfl⟩
def Og.trans{a b c:List Int}(h:Og a b)(k:Og b c):Og a c:=⟨h.1.trans k.1,fun i=>(h.2 i).trans (k.2 i)⟩
def Og.symm{a b:List Int}(h:Og a b):Og b a:=⟨h.1.symm,fun i=>(h.2 i).symm⟩
def Og.set{l:List Int}{i:Nat}{x:Int}(h:2≤x↔2≤l.getD i 0):Og (l.set i x) l:=by
 refine⟨by simp,fun j=>?_⟩
 by_cases hi:i<l.length
 ·rw[DK hi];by_cases e:j=i
  ·subst e;rw[if_pos Z];exact h
  ·rw[if_neg e]
 ·rw[Aip (by omega)]
def C8.og{s}{c:CD}(h:C8 s c){ks:List Int}(ho:Og ks s.kinds):C8 {s with kinds:=ks} c:=
 ⟨h.inv,h.zer,fun k hk=>by
  obtain⟨h1,h2,h3⟩:=h.hold k hk;exact⟨h1,by rw[ho.1];exact h2,(ho.2 _).2 h3⟩⟩
def WC{b b':Sec}{c c':CD}{k:Nat}(hf:∀i∈c.free,i<c.fr.length)(hh:c.hand<c.fr.length)(h:FD b c k=(c',some b')):∃m i f,c'.fr=m.set i f∧Fb m c.fr∧i<m.length∧f.sec=k:=by
 unfold FD at h;cases hq:findF k c.fr with
 |some i=>
  rw[hq] at h
  cases h
  obtain⟨h1,h2,h3⟩:=DL hq
  exact⟨c.fr,i,_,Z,Fb.refl _,h1,h3⟩
 |none=>
  rw[hq] at h
  simp only at h
  cases hr:FG c with
  |mk c1 o=>
  rw[hr] at h
  cases o with
  |none=>cases h
  |some i=>
   cases h
   have hi:=Wf hh hf hr
   refine⟨c1.fr,i,_,Z,?_,hi,Z⟩
   unfold FG at hr
   split at hr
   ·cases hr;exact Fb.refl _
   ·split at hr
    ·cases hr
    ·cases hr;exact KG _ _ _
def Aco{cur:Nat→Sec}{N:Nat}{c c':CD}{k:Nat}{b b':Sec}(h:Inv cur N c)(hg:FD b c k=(c',some b')){s:Nat}(hs:s≠k)(hn:findF s c.fr=none):findF s c'.fr=none:=by
 obtain⟨m,i,f,e1,e2,e3,e4⟩:=WC h.fl h.hd hg;cases q:findF s c'.fr with
 |none=>rfl
 |some j=>
  obtain⟨g1,g2,g3⟩:=DL q
  simp only[CD.at,e1] at g1 g2 g3
  rw[at_set e3] at g2 g3
  by_cases hj:j=i
  ·rw[if_pos hj] at g3;exact absurd (g3.symm.trans e4) hs
  ·rw[if_neg hj] at g2 g3
   rw[(e2.2 j).1] at g2;rw[(e2.2 j).2.1] at g3
   exact absurd g3 (Hg hn (by rw[←e2.1];simpa using g1) g2)
def C8.get{s}{c:CD}(h:C8 s c){k:Nat}(hk:k<s.syn.length)(h1:s.frm≤k)(h2:k<s.frm+s.kinds.length)(h3:2≤s.kd (k - s.frm)):
  ∃c',FD (s.syn.getD k []) c k=(c',some (s.syn.getD k []))∧MR c 4611686018427387904∧MR c' 4611686018427387904∧(DI c' k).2=0∧C8 s (DI c' k).1:=by
 have hpb:∀{c:CD}{n:Nat},Inv (fun k=>s.syn.getD k []) s.syn.length c→(∀s,C3 c s≤n)→n≤1000→MR c 4611686018427387904:=fun hi hz hn f hf=>by
  have:=AbT hi hz f hf;omega
 cases hr:FD (s.syn.getD k []) c k with
 |mk c' o=>
 cases o with
 |none=>
  obtain⟨-,g2,g3,g4⟩:=get_none (cur:=fun k=>s.syn.getD k []) h.inv hr
  exfalso
  have h0:=h.inv.n1
  have hheld:(c.at 0).held=true:=by
   cases q:(c.at 0).held with
   |true=>rfl
   |false=>have:=(h.inv.fh 0 h0).1 q;rw[g3] at this;cases this
  have e:=UQ h.inv h0 hheld
  rw[h.zer] at e
  have:=Afs.1 g4 _ (Agb h0)
  rw[show c.at 0=c.fr[0] from C5 h0] at e
  simp[←e] at this
 |some b'=>
  obtain⟨g1,rfl,g3,g4,g5,g6,g7⟩:=get_some (cur:=fun k=>s.syn.getD k []) h.inv hk hr
  obtain⟨q1,q2,q3,q4,q5,q6,q7,q8⟩:=Yi g1 (k:=k) (by rw[g3,if_pos Z];omega)
  refine⟨c',Z,hpb h.inv (n:=0) (fun s=>by rw[h.zer];omega) (by omega),hpb g1 (n:=1) (fun s=>by rw[g3,h.zer];split<;>omega) (by omega),q2,q1,fun s=>?_,fun t ht=>?_⟩
  ·rw[q3,g3,h.zer];split<;>omega
  ·rw[q8] at ht
   by_cases e:t=k
   ·subst e;exact⟨h1,h2,h3⟩
   ·exact h.hold t (fun z=>ht (Aco h.inv hr e z))
end Go.Gk.Pgr
namespace Go.Gk.Pgr
open Go Go.Gk Go.Gk.Dev Go.Gk.Cch
def get_put{ν}{k k':Int}{v:ν}{c:Nat}:∀{ms:List (Int×ν×Nat)},DV k' (GO k v c ms)=if k'=k then some v else DV k' ms
 |[]=>by simp[GO,DV]
 |p::ms=>by
  rw[GO];by_cases e:k=p.1
  ·rw[if_pos e,DV,DV];by_cases q:k'=k
   ·rw[if_pos (q.trans e),if_pos q]
   ·rw[if_neg (fun z=>q (z.trans e.symm)),if_neg q,if_neg (fun z=>q (z.trans e.symm))]
  ·rw[if_neg e,DV,get_put,DV];by_cases q:k'=p.1
   ·rw[if_pos q,if_pos q,if_neg (fun z=>e (z.symm.trans q))]
   ·rw[if_neg q,if_neg q]
def Wd{ν}{k k':Int}(h:k'≠k):∀{ms:List (Int×ν×Nat)},DV k' (J2 k ms)=DV k' ms
 |[]=>rfl
 |p::ms=>by
  rw[J2];by_cases e:k=p.1
  ·rw[if_pos e,DV,if_neg (fun z=>h (z.trans e.symm))]
  ·rw[if_neg e,DV,Wd h,DV]
def PD.AX(s:PD):PD×Int×Int:=match DJ 0 s.kinds with|some i=>(s.Ik i,((s.frm+i:Nat):Int),0)|none=>(s,0,190)
def C8.to{s s'}{c:CD}(h:C8 s c)(h1:s'.frm=s.frm)(h2:s'.syn=s.syn)(ho:Og s'.kinds s.kinds):C8 s' c:=
 ⟨by rw[h2];exact h.inv,h.zer,fun k hk=>by
  obtain⟨q1,q2,q3⟩:=h.hold k hk;rw[h1,ho.1];exact⟨q1,q2,(ho.2 _).2 q3⟩⟩
def Good.to{s s'}(h:Good s)(h1:s'.frm=s.frm)(h2:s'.syn.length=s.syn.length){i:Nat}{x:Int}(e:s'.kinds=s.kinds.set i x)(h0:0≤x)(h3:x≤3):Good s':=by
 have g:=h.kds (ks:=s'.kinds) e h0 h3;exact⟨g.one,g.len,by rw[h1,h2];exact g.inn,by rw[h2];exact g.syn,g.kd⟩
def Good.to'{s s'}(h:Good s)(h1:s'.frm=s.frm)(h2:s'.syn.length=s.syn.length)(e:s'.kinds=s.kinds):Good s':=
 ⟨by rw[e];exact h.one,by rw[e];exact h.len,by rw[h1,h2,e];exact h.inn,by rw[h2];exact h.syn,fun i=>by rw[PD.kd,e];exact h.kd i⟩
end Go.Gk.Pgr
namespace Go.Gk.Pgr
open Go Go.Gk Go.Gk.Dev Go.Gk.Cch
def MJ{k:Nat}:∀{l:List (Nat×Sec)}{s:List Sec},(∀w∈l,w.1≠k)→(synced l s).getD k []=s.getD k []
 |[],_,_=>rfl
 |w::l,s,h=>by
  have e:synced (w::l) s=synced l (s.set w.1 w.2):=by simp[synced]
  rw[e,MJ (fun w' hw=>h w' (Afr _ hw)),Afd,List.getElem?_set,if_neg (h w (Afn ..)),←Afd]
def LN{s:PD}:∀{n:Nat}{w:Nat×Sec},w∈s.writes n→∃i,i<n∧s.kd i=1∧w=(s.frm+i,s.fb i)
 |n+1,w,h=>by
  rw[PD.writes,Afj] at h;rcases h with h|h
  ·obtain⟨i,h1,h2⟩:=LN h;exact⟨i,by omega,h2⟩
  ·split at h
   ·rename_i e;rw[Afz] at h;exact⟨n,by omega,e,h⟩
   ·cases h
def Qs{s:PD}:∀{n:Nat},(s.writes n).length≤n
 |0=>Afe _
 |n+1=>by
  have:=Qs (s:=s) (n:=n);rw[PD.writes,Afk];split<;>simp<;>omega
def Inv.Adf{cur cur':Nat→Sec}{N:Nat}{c:CD}(h:Inv cur N c)(he:∀k,findF k c.fr≠none→cur' k=cur k):Inv cur' N c:=
 {h with vl:=fun i hi hh=>⟨(h.vl i hi hh).1,by rw[(h.vl i hi hh).2,he _ (by rw[h.find hi hh Z];simp)]⟩}
def C8.flush{s:PD}{c:CD}(h:C8 s c):C8 s.flush c:=by
 refine⟨?_,h.zer,h.hold⟩
 have hl:s.flush.syn.length=s.syn.length:=Fq _ _;rw[hl];refine Inv.Adf h.inv (fun k hk=>?_);obtain⟨h1,h2,h3⟩:=h.hold k hk;refine MJ (fun w hw e=>?_);obtain⟨i,h4,h5,rfl⟩:=LN hw;simp only at e;rw[←e,show s.frm+i - s.frm=i by omega] at h3;omega
def Good.flush{s}(h:Good s):Good s.flush:=h.to' Z (Fq _ _) Z
def Mid(i:Nat)(l m:List Int):Prop:=m.length=l.length∧∀j,m.getD j 0=if j<i then DM (l.getD j 0) else l.getD j 0
def Mid.zero(l:List Int):Mid 0 l l:=⟨Z,fun j=>by rw[if_neg (by omega)]⟩
def Mid.next{i:Nat}{l m:List Int}(h:Mid i l m)(hi:i<l.length):Mid (i+1) l (m.set i (DM (l.getD i 0))):=by
 refine⟨by simpa using h.1,fun j=>?_⟩
 rw[DK (by rw[h.1];exact hi),h.2];by_cases e:j=i
 ·subst e;rw[if_pos Z,if_pos (by omega)]
 ·rw[if_neg e];by_cases q:j<i
  ·rw[if_pos q,if_pos (by omega)]
  ·rw[if_neg q,if_neg (by omega)]
def Mid.same{i:Nat}{l m:List Int}(h:Mid i l m)(hi:i<l.length)(hs:DM (l.getD i 0)=l.getD i 0):Mid (i+1) l m:=by
 refine⟨h.1,fun j=>?_⟩
 rw[h.2];by_cases e:j=i
 ·subst e;rw[if_neg (by omega),if_pos (by omega),hs]
 ·by_cases q:j<i
  ·rw[if_pos q,if_pos (by omega)]
  ·rw[if_neg q,if_neg (by omega)]
def Aag{l m:List Int}(h:l.length=m.length)(he:∀j,l.getD j 0=m.getD j 0):l=m:=by
 refine Akg h (fun j h1 h2=>?_);have:=he j;rwa [Afd,Afd,Afc h1,Afc h2] at this
def getD_map{l:List Int}{j:Nat}:(l.map DM).getD j 0=DM (l.getD j 0):=by
 simp only[Afd,Ahs];cases l[j]?<;>rfl
def Mid.done{i:Nat}{l m:List Int}(h:Mid i l m)(hi:l.length≤i):m=l.map DM:=by
 refine Aag (by simpa using h.1) (fun j=>?_);rw[h.2,getD_map];by_cases e:j<i
 ·rw[if_pos e]
 ·rw[if_neg e,Afd,Ago (by omega)];rfl
def C8.gone{s}{c:CD}(h:C8 s c){i:Nat}(hi:i<s.kinds.length)(_:s.kd i=3):C8 {s with kinds:=s.kinds.set i 0} (DH c (s.frm+i)).1:=by
 have key:∀{c':CD},(∀t,findF t c'.fr≠none→t≠s.frm+i∧findF t c.fr≠none)→∀t,findF t c'.fr≠none→s.frm≤t∧t<s.frm+(s.kinds.set i 0).length∧2≤(s.kinds.set i 0).getD (t - s.frm) 0:=fun hh t ht=>by
  obtain⟨h1,h2⟩:=hh t ht;obtain⟨h3,h4,h5⟩:=h.hold t h2;refine⟨h3,by simpa using h4,?_⟩
  rw[DK hi,if_neg (by omega)];exact h5
 cases hf:findF (s.frm+i) c.fr with
 |none=>
  have e:(DH c (s.frm+i)).1=c:=by unfold DH;rw[hf]
  rw[e]
  exact⟨h.inv,h.zer,key (fun t ht=>⟨fun q=>ht (by rw[q];exact hf),ht⟩)⟩
 |some j=>
  obtain⟨-,h2,h3,h4⟩:=Vm h.inv hf (h.zer _)
  exact⟨h2,fun t=>by rw[h4];exact h.zer t,key (fun t ht=>by
   rw[h3] at ht;by_cases e:t=s.frm+i
   ·rw[if_pos e] at ht;exact absurd Z ht
   ·rw[if_neg e] at ht;exact⟨e,ht⟩)⟩
def C8.AeF{s}{c:CD}(h:C8 s c){i:Nat}(hi:i<s.kinds.length):C8 {s with kinds:=s.kinds.set i 2} c:=
 ⟨h.inv,h.zer,fun t ht=>by
  obtain⟨h3,h4,h5⟩:=h.hold t ht;refine⟨h3,by simpa using h4,?_⟩
  simp only[PD.kd];rw[DK hi];split
  ·omega
  ·exact h5⟩
end Go.Gk.Pgr
namespace Go.Gk.Pgr
def XS{x:Int}(h:0≤x∧x≤3):0≤DM x∧DM x≤3:=by
 unfold DM;by_cases h1:x=3
 ·rw[if_pos h1];omega
 ·rw[if_neg h1];by_cases h2:x=1
  ·rw[if_pos h2];omega
  ·rw[if_neg h2];omega
end Go.Gk.Pgr
namespace Go.Gk.Pgr
open Go Go.Gk Go.Gk.Dev Go.Gk.Cch
end Go.Gk.Pgr
namespace Go.Gk.Pgr
open Go Go.Gk Go.Gk.Dev Go.Gk.Cch
def Ei(n:Nat)(l:List Nat):List Int:=l.foldl (fun ks k=>ks.set k 2) (Afu n 0)
def Wy{n k:Nat}{l:List Nat}:Ei n (l++[k])=(Ei n l).set k 2:=by simp[Ei]
def Sj{l:List Nat}:∀{ks:List Int},(l.foldl (fun ks k=>ks.set k 2) ks).length=ks.length:=by
 induction l with
 |nil=>intro ks;rfl
 |cons x l ih=>intro ks;rw[Ajx,ih,Agg]
def Hh{n:Nat}{l:List Nat}:(Ei n l).length=n:=by rw[Ei,Sj,Agk]
def TF{l:List Nat}{j:Nat}:∀{ks:List Int},j<ks.length→(l.foldl (fun ks k=>ks.set k 2) ks).getD j 0=if j∈l then 2 else ks.getD j 0:=by
 induction l with
 |nil=>intro ks _;simp
 |cons x l ih=>
  intro ks hj
  rw[Ajx,ih (by rw[Agg];exact hj)]
  by_cases h:j∈l
  ·rw[if_pos h,if_pos (Afr _ h)]
  ·rw[if_neg h]
   by_cases e:j=x
   ·subst e;rw[DK hj,if_pos Z,if_pos (Afn ..)]
   ·rw[if_neg (by simp[e,h])]
    by_cases hx:x<ks.length
    ·rw[DK hx,if_neg e]
    ·rw[Aip (by omega)]
def KI{n j:Nat}{l:List Nat}:(Ei n l).getD j 0=if j<n∧j∈l then 2 else 0:=by
 by_cases hj:j<n
 ·rw[Ei,TF (by rw[Agk];exact hj)];by_cases h:j∈l
  ·rw[if_pos h,if_pos ⟨hj,h⟩]
  ·rw[if_neg h,if_neg (fun q=>h q.2),Afd,List.getElem?_replicate];split<;>rfl
 ·rw[if_neg (fun q=>hj q.1),Afd,Ago (by rw[Hh];omega)];rfl
def OY{k m:Nat}:findF k (Afu m fz)=none:=by
 cases h:findF k (Afu m fz) with
 |none=>rfl
 |some i=>
  obtain⟨h1,h2, -⟩:=F0 h
  rw[List.getElem_replicate] at h2
  cases h2
def C8.new{s}{m:Nat}(h1:1≤m)(h2:m≤64):C8 s ⟨Afu m fz,Agf m,0,0,0⟩:=
 ⟨Acu _ _ m h1 h2,fun k=>by rw[C3,OY],fun k hk=>absurd OY hk⟩
def Good.new{frm n:Nat}{l:List Nat}{fb:Nat→Sec}{syn:List Sec}(h1:1≤n)(h2:frm+n≤syn.length)(h3:syn.length≤8192):Good ⟨frm,Ei n l,fb,syn,0,0⟩:=
 ⟨by rw[Hh];exact h1,by rw[Hh];omega,by rw[Hh];exact h2,h3,fun i=>by
  show 0≤(Ei n l).getD i 0∧(Ei n l).getD i 0≤3;rw[KI];split<;>decide⟩
end Go.Gk.Pgr
end
section
namespace Go.Gk.Dev
open Go Go.Gk
attribute [local irreducible] gwp gws xwp
def E6:Hn:=(.mk 24 [] (.seq (.g (rG (ol 4 1<|o1 5 (.nilc 4)<|oj 6 1 5<|ol 7 6<|oL 8 7<|ob 9 .sub 8 z1<|om 3 9 .done))) (.block 0 (.loop (.seq (.g (sR (om 10 3<|ob 11 .geq 10 z0 .done) (.cond 11 .skip (.exit 0)))) (.seq (.block 1 (.seq (.yl (om 14 0<|ol 15 1<|o1 16 (.nilc 15)<|oj 17 1 16<|ol 18 17<|om 19 3<|oI 20 257 18 19<|o1 21 (.ld (some 257) 20) .done) (some 22) 14 [21] (o1 23 (.un .not 22) .done)) (.g (.cond 23 .ret .skip)))) (.g (rG (om 12 3<|ob 13 .sub 12 z1<|om 3 13 .done)))))))))
def XF{P f}(hd:Gf true false P f=some E6){D:Ff}{v LD}{bb l:Nat}{rc:Loop}(J:Nat→Aa→List Aa→Prop)(Jf:Loop→Aa→List Aa→Prop){d E}
  (hD:Dv d D v LD) (hb:DC d bb 0 v) (h0:J D.opn.length d E)
  (hround:∀i (hi:i<D.opn.length) d1 E1,Le d d1→J (i+1) d1 E1→Kg P l [.agg (Value.int .i64 D.opn[i].1::D.opn[i].2.map Al).toArray] d1 (sg l (.loop rc)::E1)
   (fun u d' L'=>(u=.bool true∧∃E',L'=sg l (.loop rc)::E'∧J i d' E')∨(u=.bool false∧∃rc' E',L'=sg l (.loop rc')::E'∧Jf rc' d' E'))):
  Ao P f [.func (.yield l) #[] #[],pZ bb] d (LD++(sg l (.loop rc)::E)) (Ret fun _ d' L'=>∃E' rc',L'=LD++(sg l (.loop rc')::E')∧((rc'=rc∧J 0 d' E')∨Jf rc' d' E')):=by
 obtain⟨b,T,vs,vo,r,hs,ho,rfl,rfl,h3,h4,h5,h6⟩:=hD
 have hlen:=h4.BW
 obtain⟨ao,co,rfl⟩:=h4.val
 refine Fl hd (Aff Z) ?_
 show xwp P _ _ _ _ _
 (apply Cd;apply x_g;apply Av;apply Ah;rfl;exact BR (by assumption);apply Ap;rfl;apply Am;rfl;apply Ah;rfl;exact AG 0 Z Z;apply AA;rfl;apply XH;rfl;rfl;omega;omega;apply Ab;rfl;apply An;apply He)
 refine Q3 (α:=Nat) (fun i=>[(0,.func (.yield l) #[] #[]),(1,pZ bb),(3,vZ ((i:Int) - 1))])
  (fun i d' L'=>Le d d'∧i≤D.opn.length∧∃E',L'=[bx b T [vs,.slice ao D.opn.length co,vZ r,vZ 0],hs,ho]++(sg l (.loop rc)::E')∧J i d' E') (fun i=>i) D.opn.length
  ⟨Z,Z,Z,trivial⟩ ⟨Le.refl d,Afe _,E,Z,h0⟩ ?_
 rintro i ρ d1 L1 ⟨hl1,hi,E1,rfl,hJ⟩
 replace hb:=hb.mono hl1
 cases i with
 |zero=>
  (apply Cd;apply x_g;apply Aw;apply Av;apply Ab;rfl;apply Dk;rfl;rfl;apply An;refine Fs Z (by omega) ?_;apply Bl)
  exact Ed [] trivial (Afa _) ⟨E1,rc,Z,.inl ⟨Z,hJ⟩⟩
 |succ i=>
  obtain⟨bo,To,lo,co',cs,e1,e2,hcl,hcs,hle,hr, -⟩:=Ai.at (by omega) h4 (show i<D.opn.length from hi)
  cases e1;subst e2
  obtain⟨rfl,hbl⟩:=hr
  (apply Cd;apply x_g;apply Aw;apply Av;apply Ab;rfl;apply Dk;rfl;rfl;apply An;refine EO Z (by omega) ?_;apply AH;apply Cd;apply He;apply Cd;apply AaU;apply FZ;rfl;apply Ah;rfl;exact BR (by assumption);apply Ap;rfl;apply Am;rfl;apply Ah;rfl;exact AG 0 Z Z;apply Ab;rfl)
  refine BT i Z Z (by omega) hi ?_
  refine KK _ 2 Z Z hcl hcs ?_
  refine GJ ⟨d1,(sg l (.loop rc)::E1)++[bx b T [vs,.slice (some ⟨bo,0,none⟩) D.opn.length co,vZ r,vZ 0],hs,bx bo To lo],Vs.perm Afi,?_⟩
  refine Q8 _ _ Z Z Z (hround i hi d1 E1 hl1 hJ) (fun u d2 L2 hl2 hr2=>?_)
  rcases hr2 with ⟨rfl,E2,rfl,hJ2⟩|⟨rfl,rc2,E2,rfl,hJ2⟩
  ·refine B1 d2 ([bx b T [vs,.slice (some ⟨bo,0,none⟩) D.opn.length co,vZ r,vZ 0],hs,bx bo To lo]++(sg l (.loop rc)::E2)) (Vs.perm Afi) ?_
   (refine Bm Z<|An ?_;apply x_g;refine Cn Z<|AH ?_;apply x_g;refine Av<|Ab Z<|DT Z Z<|AU Z ?_)
   exact⟨i,by omega,⟨Z,Z,int_eq (by omega),trivial⟩,hl1.trans hl2,by omega,E2,Z,hJ2⟩
  ·refine B1 d2 ([bx b T [vs,.slice (some ⟨bo,0,none⟩) D.opn.length co,vZ r,vZ 0],hs,bx bo To lo]++(sg l (.loop rc2)::E2)) (Vs.perm Afi) ?_
   (refine Bm Z<|An ?_;apply x_g;refine Er Z<|DE ?_)
   exact Ed [] trivial (Afa _) ⟨E2,rc2,Z,.inr hJ2⟩
def FE(a0:Nat):A9:=⟨4,[(.tmp 2)],(sR (o1 1 (.box 0)<|o1 2 (.mv (.const .nilFunc)) .done) (sR (o1 3 (.mkf (.func a0) [] [1])<|om 2 3 .done) .ret))⟩
def X9{P f f1}(hd:dec P f=some (FE f1)){d}{b:Nat}:Ao P f [pZ b] d [] (Ret fun r d' L'=>∃bb,r=.func (.func f1) #[] #[pZ bb]∧DC d' bb 0 (pZ b)∧L'=[]):=by
 refine Bj hd<|Ak<|Fv Z (fun bb T=>?_);refine AK<|Bo<|ND<|FZ Z<|BJ<|Aex Z (fun d' _ hk=>⟨bb,Z,?_,Z⟩);exact(Nf (hk _ (Afn ..))).at (i:=0) Z
def Ub(P:Program)(f:FuncId):Prop:=∃f1,dec P f=some (FE f1)∧Gf true false P f1=some E6
def AcT{P f f1}(hd:dec P f=some (FE f1))(h:Gf true false P f1=some E6):Ub P f:=⟨f1,hd,h⟩
def QF(P:Program)(f:FuncId):Prop:=∀{d}{D:Ff}{v L}{k:Nat},Dv d D v L→k<D.syn.length→
 Ao P f [v,vZ k] d L (Ret fun r d' L'=>∃u,r=.tuple #[u,vZ 0]∧Ay d' u (D.cur k)∧Dv d' D v L')
def WX{k:Nat}{l:List (Nat×Sec)}{i:Nat}(hi:i<l.length):GA k (l.drop i)=match GA k (l.drop (i+1)) with|some b=>some b|none=>if l[i].1=k then some l[i].2 else none:=by
 rw[Afy hi];rfl
def RA{k:Nat}{b:Sec}:∀{l:List (Nat×Sec)},GA k l=some b→∃w∈l,w.2=b
 |w::l,h=>by
  rw[GA] at h;cases hw:GA k l with
  |some q=>rw[hw] at h;cases h;obtain⟨x,hx,e⟩:=RA hw;exact⟨x,Afr _ hx,e⟩
  |none=>
   rw[hw] at h
   simp only at h
   split at h
   ·cases h;exact⟨w,Afn ..,Z⟩
   ·cases h
def LU{k:Nat}{b:Sec}:∀{l:List (Nat×Sec)}{i:Nat},GA k (l.drop i)=some b→GA k l=some b
 |_,0,h=>h
 |[],i+1,h=>h
 |w::l,i+1,h=>by
  rw[List.drop_succ_cons] at h;rw[GA,LU h]
def KH(a0 a1:Nat):Hn:=(.mk 41 [(.tmp 4),(.tmp 5)] (.seq (.g (rG (o1 3 (.box 1)<|o1 4 (.mv nS)<|o1 5 (.mv z0) .done))) (.seq (.g (sR (om 9 0<|ol 10 3<|oc 11 a0 [9,10,(kZ 256)]<|om 6 11 .done) (sR (om 12 6<|ob 13 .neq 12 z0 .done) (.cond 13 (sR (om 14 6<|o1 4 (.mv nS)<|om 5 14 .done) .ret) .skip)))) (.seq (.g (rG (om 15 0<|o1 16 (.nilc 15)<|oj 17 2 16<|ol 18 17<|ob 19 .add 18 z1<|o1 20 (.nilc 15)<|oj 21 2 20<|o0 (.st 1 21 19) .done))) (.seq (.g (.reg true (pm 22 0<|p1 23 (.nilc 22)<|p1 24 (.fld 0 23)<|pl 25 24<|pl 26 3<|p1 27 (.idx 256 25 26)<|p1 28 (.ld (some 256) 27)<|o1 7 (.alo (.agg Ct.toArray)) (.bar (o0 (.st 256 7 28) .done))))) (.seq (.seq (.g (rG (om 29 0<|oc 30 a1 [29] .done))) (.block 0 (.rf 30 [31] (rG (o1 8 (.alo (.agg (Value.int .i64 0::Ct).toArray))<|o0 (.st 257 8 31) .done)) (.block 1 (sR (oj 32 0 8<|ol 33 32<|ol 34 3<|ob 35 .eql 33 34 .done) (.cond 35 (sR (oj 36 1 8<|o1 37 (.ld (some 256) 36)<|o0 (.st 256 7 37) .done) (.exit 0)) .skip)))))) (.g (sR (o1 38 (.bsl 0 1 [(.int .u8 0)] [])<|o1 39 (.sla 256 1 7 none none none)<|o1 40 (.app 1 1 [(.int .u8 0)] 38 39)<|om 4 40<|o1 5 (.mv z0) .done) .ret))))))))
def AaW{P f f1 f2}(hd:Gf false false P f=some (KH f1 f2))(h1:Jg P f1)(h2:Ub P f2):QF P f:=by
 obtain⟨f3,h2,h3⟩:=h2;intro d D v L k h hk;have h0:=h;obtain⟨b,T,vs,vo,r,hs,ho,rfl,rfl,g3,g4,g5,g6⟩:=h;obtain⟨bs,Ts,ls,cs',us,rfl,rfl,hul,hus,hsle,hrs, -⟩:=Ai.at (by omega) g3 hk;obtain⟨rfl,hsl⟩:=hrs;refine Fl hd (Aff Z) ?_;show xwp P _ _ _ _ _;(apply Cd;apply x_g;apply Av);refine Fv Z (fun kb Tk=>?_);(refine Ae Z<|AU Z ?_;apply Cd;apply x_g;refine A3 Z<|c_l Z Z Z ?_);refine B1 d ([bx b T [.slice (some ⟨bs,0,none⟩) D.syn.length cs',vo,vZ r,vZ 0],bx bs Ts ls,ho]++[bx kb Tk [vZ k]]) (Vs.pick [1,2,3,0] Z)<|Di (A:=[_,_,_]) (B:=[_]) Z Z (h1 (n:=256) h0 hk Z) ?_;(refine A7 Z<|Ab Z<|AJ Z Z<|AT Z ?_;apply Cd;apply x_g;refine Av<|Ag Z<|Ap Z<|Az Z Z Z ?_);refine AdH Z Z (fun r2 _=>?_);refine Ap Z<|Am Z<|Bb 0 [.slice (some ⟨bs,0,none⟩) D.syn.length cs',vo,vZ r2,vZ 0] Z Z Z Z (Aff Z) Z Z ?_;have hD:Dv d D (pZ b) [bx b T [.slice (some ⟨bs,0,none⟩) D.syn.length cs',vo,vZ r2,vZ 0],bx bs Ts ls,ho]:=⟨b,T,_,vo,r2,_,ho,Z,Z,g3,g4,g5,g6⟩
 (apply An;apply Cd;apply x_g;refine BI<|Ag Z<|Ap Z<|Az Z Z Z<|Ah Z (AG 3 Z Z)<|BT _ Z Z Z (by omega) ?_);refine KK _ 1 Z Z hul hus<|B8 (fun _ _=>Cw ?_);rename_i ob Tob;refine Ft 4 Z Z Z hul C6 (CZ _) ?_;(apply An);refine Aed (fun ρ d2 L2=>Le d d2∧BN ρ [(7,pZ ob)]∧L2=[bx b T [.slice (some ⟨bs,0,none⟩) D.syn.length cs',vo,vZ r2,vZ 0],bx bs Ts ls,ho,bx kb Tk [vZ k],bx ob Tob ((D.cur k).map Al)]) ?_ ?_
 ·(apply Cd;apply x_g;apply Av;apply Ag;rfl);refine Ek (A:=[]) Z Z (X9 h2) (fun u d2 L2 hl2 ⟨bb,e1,e2,e3⟩=>?_);subst e1;subst e3;(apply An;apply He);refine Adb Z (fun l rc hrec hst hpd=>?_);refine Ao.reorder (L1:=[bx b T [.slice (some ⟨bs,0,none⟩) D.syn.length cs',vo,vZ r2,vZ 0],bx bs Ts ls,ho]++(sg l (.loop rc)::[bx kb Tk [vZ k],bx ob Tob (D.syn[k].map Al)])) ?_ (Ao.Eb
   (XF h3 (rc:=rc) (l:=l) (fun i d3 E=>E=[bx kb Tk [vZ k],bx ob Tob (D.syn[k].map Al)]∧GA k (D.opn.drop i)=none)
    (fun rc' d3 E=>rc'={rc with state:=.done,pending:=some (.exit 0)}∧E=[bx kb Tk [vZ k],bx ob Tob ((D.cur k).map Al)]) (hD.mono hl2) e2 ⟨Z,by rw[Aig];rfl⟩ ?_) ?_)
  ·exact(Afi (l₁:=[_,_,_]) (l₂:=[_])).append_right [_,_]|>.symm
  ·rintro i hi d3 E3 hl3 ⟨rfl,hno⟩;refine MG hrec hst Z ?_;have hbl:D.opn[i].2.length=256:=by
    obtain⟨bo,To,lo,co',cs,e1,e2,hcl,hcs,hle,hr, -⟩:=Ai.at (by omega) g4 hi;exact hr.2
   have hno':=WX (k:=k) hi;rw[hno] at hno';by_cases e:D.opn[i].1=k
   ·(refine Av<|B8 (fun _ _=>?_));refine Ft 0 Z Z Z (by rw[Afq,Agu,hbl]) (by rw[Afq,C6]) (by rw[Akp,CZ];rfl)<|An<|Aq<|Ak<|Az Z Z Z<|Ah Z (AG 1 Z Z)<|AI Z Z<|A5 Z<|Ak<|Am Z<|KK (D.opn[i].2.map Al) 0 Z Z (by rw[Agu];exact hbl) (fun j u hu=>by rw[Nat.add_comm];simpa using hu) ?_;skip;refine Ft 2 Z Z Z (by rw[Agu];exact hbl) (by rw[Agu];exact hsl) (CZ _)<|GJ ⟨_,[_,_],Vs.drop (Age _ _),?_⟩;(apply Bl);refine Or.inr ⟨Z,_,_,Z,Z,?_⟩;rw[if_pos e] at hno';rw[Ff.cur,LU hno',Aif]
   ·(refine Av<|B8 (fun _ _=>?_));refine Ft 0 Z Z Z (by rw[Afq,Agu,hbl]) (by rw[Afq,C6]) (by rw[Akp,CZ];rfl)<|An<|Aq<|Ak<|Az Z Z Z<|Ah Z (AG 1 Z Z)<|B1 d3 [_,_] (Vs.drop (Age _ _))<|AI Z Z<|AT Z ?_;rw[if_neg e] at hno';exact Or.inl ⟨Z,_,by rw[Wg hst hpd],Z,hno'⟩
  ·rintro u d3 L3 hl3 ⟨E',rc',rfl,h⟩;refine⟨d3,sg l (.loop rc')::([bx b T [.slice (some ⟨bs,0,none⟩) D.syn.length cs',vo,vZ r2,vZ 0],bx bs Ts ls,ho]++E'),Vs.perm ((Afi (l₁:=[_,_,_]) (l₂:=[_])).append_right E'|>fun p=>by simpa using p),rc',_,Z,?_⟩
   rcases h with ⟨rfl,rfl,h⟩|⟨rfl,rfl⟩
   ·refine⟨(by rw[hst];intro q;cases q),?_⟩
    rw[hpd];refine⟨hl2.trans hl3,⟨Z,trivial⟩,?_⟩
    rw[Ff.cur,show GA k D.opn=none from h,Option.getD_none,Afd,Afc hk];rfl
   ·refine⟨(fun q=>by cases q),?_⟩
    exact⟨hl2.trans hl3,⟨Z,trivial⟩,Z⟩
 ·rintro ρ d2 L2 ⟨hl2,hs2,rfl⟩;refine QK _ hs2 ?_;have hcl:(D.cur k).length=256:=by
   unfold Ff.cur;cases hw:GA k D.opn with
   |none=>rw[Option.getD_none,Afd,Afc hk];exact hsl
   |some q=>
    obtain⟨w,hm,e⟩:=RA hw
    obtain⟨i,hi,rfl⟩:=Ahe hm
    obtain⟨bo,To,lo,co',cs,e1,e2,hcl,hcs,hle,hr, -⟩:=Ai.at (by omega) g4 hi
    rw[Aif,←e];exact hr.2
  (apply x_g;apply Aw;apply Av);refine Dq (cs:=[]) (by simp) (by simp[Instr.fill,BD]) (fun b3 T3=>?_);refine w_q (v:=.slice (some ⟨ob,0,none⟩) 256 256) Z ⟨ob,0,0,256,256,Z,Z,Z⟩<|FR (R:=Ax) 0 Z Z (Ai.J8 (R:=Ax) (sz:=1)) Z (Src.lit (ys:=D.cur k) 5 Z hcl.symm (by simp) (CZ _) (fun i hi=>?_)) (by omega) (by simp;omega) (by simp;omega) (fun v' h' ho'=>?_)
  ·simp only[Ax,chunk,Aho,←Akq,←Akr];rw[Afy hi];rfl
  rw[Agh] at ho';refine AK<|AS Z<|A6 [v',vZ 0] ⟨Z,Z,trivial⟩ (d':=join d2 h') (L':=[bx b T [.slice (some ⟨bs,0,none⟩) D.syn.length cs',vo,vZ r2,vZ 0],bx bs Ts ls,ho]) ?_ ⟨v',Z,?_,?_⟩
  ·exact Vs.freeze.trans (Vs.drop (Ajl [_,_,_] [_,_]))
  ·exact Ai.rsl (R:=Ax) ho' AF (by omega) (Le.Ar _ _) (Le.Bc _ _)
  ·exact(hD.mono hl2).mono (Le.Ar _ _)
end Go.Gk.Dev
end
section
namespace Go.Gk.Cch
open Go Go.Gk Go.Gk.Dev
attribute [local irreducible] gwp gws xwp
variable{f f1:FuncId}{P:Program}
section
def RFr(d:Aa)(cs:List Value)(f:Fr):Prop:=∃a n c,cs=[.bool f.held,vZ f.sec,vZ f.pins,.bool f.late,.slice a n c]∧Ay d (.slice a n c) f.b
def NG:Gu RFr:=fun hl ⟨a,n,c,h1,h2⟩=>⟨a,n,c,h1,h2.mono hl⟩
def wr(n:Nat):Int:=IntKind.i64.wrap (n:Int)
def AcN(n:Nat):IntKind.i64.wrap (wr n+1)=wr (n+1):=by
 simp[wr,IntKind.wrap,IntKind.signed,IntKind.bits];omega
section
variable {P:Program}{pan:List PanicEntry→AP}{Qn:Env→AP}{Ls L:List Aa}{ρ:Env}{d:Aa}{s:GS}{t:Nat}{tk:Bool}
def KB{x y}{n:Nat}(ex:ev ρ x=vZ (wr n))(ey:ev ρ y=vZ 1)(h:gws P pan Qn s Ls (upd ρ t (vZ (wr (n+1)))) d L):
  gws P pan Qn (.op tk ⟨some t,none,.bin .add x y⟩ s) Ls ρ d L:=DQ (by rw[ex,ey];simp[Dz,AcN]) h
end
def Ca(d:Aa)(c:CD)(dv cv:Value)(L:List Aa):Prop:=
 ∃b T bf cp cb hf s r bd,cv=pZ b∧dv=pZ bd∧
  L=[bx b T [dv,.slice (some ⟨bf,0,none⟩) c.fr.length cp,.chan (some cb),vZ c.hand,vZ (wr c.hits),vZ (wr c.miss)],hf,sg cb (.chan c.fr.length (c.free.map fun i:Nat=>Value.int .i64 i).toArray false s r false)]∧
  Ai 5 RFr d (.slice (some ⟨bf,0,none⟩) c.fr.length cp) c.fr hf∧1≤c.fr.length∧c.fr.length≤64∧c.hand<c.fr.length∧∀i∈c.free,i<c.fr.length
def Ca.mono{d d'}{c:CD}{dv cv L}(h:Ca d c dv cv L)(hl:Le d d'):Ca d' c dv cv L:=
 let ⟨b,T,bf,cp,cb,hf,s,r,bd,h1,h2,h3,h4,h5⟩:=h
 ⟨b,T,bf,cp,cb,hf,s,r,bd,h1,h2,h3,Ai.mono (R:=RFr) NG h4 hl,h5⟩
def Ca.mk{d}{c:CD}{b bf cp cb s r bd n:Nat}{T hf}(hn:c.fr.length=n)(hg:Ai 5 RFr d (.slice (some ⟨bf,0,none⟩) n cp) c.fr hf)(h1:1≤n)(h2:n≤64)(h3:c.hand<n)(h4:∀i∈c.free,i<n):
  Ca d c (pZ bd) (pZ b) [bx b T [pZ bd,.slice (some ⟨bf,0,none⟩) n cp,.chan (some cb),vZ c.hand,vZ (wr c.hits),vZ (wr c.miss)],hf,
   sg cb (.chan n (c.free.map fun i:Nat=>Value.int .i64 i).toArray false s r false)]:=by
 subst hn
 exact⟨b,T,bf,cp,cb,hf,s,r,bd,Z,Z,Z,hg,h1,h2,h3,h4⟩
def IU(P:Program)(f:FuncId):Prop:=∀{d}{b bd:Nat}{T l},Ea P f [pZ b] d [bx b T (.pointer (some ⟨bd,0,none⟩)::l)] (.bool false)
def MS:A9:=⟨12,[(.tmp 2)],(sR (o1 2 (.mv (.const (.bool false))) .done) (sR (om 3 0<|o1 4 (.eqp false 3 (.const (.pointer none)))<|om 5 4<|gF 6 5 0<|oF 7 5 (.nilc 6)<|oF 8 5 (.fld 0 7)<|oF 9 5 (.ld none 8)<|oF 10 5 (.eqp false 9 (.const (.pointer none)))<|o1 11 (.pick 5 (.const (.bool true)) 10)<|om 2 11 .done) .ret))⟩
def Aaf{P}(hd:dec P f=some MS):IU P f:=by
 intro d b bd T l;refine Bj hd<|Ak<|AV Z<|A3 Z<|CG Z Z<|Ad Z<|Ac Z<|Ag Z<|Ac Z<|Ap Z<|Ac Z<|Am Z<|Ac Z<|c_l Z Z Z<|Ac Z<|CG Z Z<|Aj Z Z<|Cc Z<|LL Z (Afa _)
def Ks(P:Program)(f:FuncId):Prop:=∀{d}{b bf cp:Nat}{T x0 x1 x2 x3 x4 hf}{fs:List Fr}{k:Nat},Ai 5 RFr d (.slice (some ⟨bf,0,none⟩) fs.length cp) fs hf→
 Ea P f [pZ b,vZ k] d [bx b T [x0,.slice (some ⟨bf,0,none⟩) fs.length cp,x1,x2,x3,x4],hf]
  (match findF k fs with|some i=>.tuple #[.pointer (some ⟨bf,i*5,none⟩),vZ i]|none=>.tuple #[.pointer none,vZ 0])
def M6:A9:=⟨43,[(.tmp 4),(.tmp 5)],(sR (o1 4 (.mv (.const (.pointer none)))<|o1 5 (.mv z0) .done) (.seq (sR (om 7 0<|o1 8 (.nilc 7)<|oj 9 1 8<|ol 10 9<|oL 11 10<|o1 12 (.mv z0) .done) (.block 0 (.loop (sR (ob 13 .lss 12 11 .done) (.seq (.cond 13 .skip (.exit 0)) (.seq (.block 1 (sR (om 14 12<|om 6 14 .done) (sR (om 15 0<|o1 16 (.nilc 15)<|oj 17 1 16<|ol 18 17<|om 19 6<|oI 20 5 18 19<|oj 21 0 20<|ol 22 21<|om 23 22<|gT 24 23 0<|oT 25 23 (.nilc 24)<|oT 26 23 (.fld 1 25)<|oT 27 23 (.ld none 26)<|gT 28 23 6<|oT 29 23 (.idx 5 27 28)<|oT 30 23 (.fld 1 29)<|oT 31 23 (.ld none 30)<|gT 32 23 1<|oT 33 23 (.bin .eql 31 32)<|gP 34 23 33 .done) (.cond 34 (sR (om 35 0<|o1 36 (.nilc 35)<|oj 37 1 36<|ol 38 37<|om 39 6<|oI 40 5 38 39<|om 41 6<|om 4 40<|om 5 41 .done) .ret) .skip)))) (rG (ob 42 .add 12 z1<|om 12 42 .done)))))))) (sR (o1 4 (.mv (.const (.pointer none)))<|o1 5 (.mv z0) .done) .ret)))⟩
def Abr{P}(hd:dec P f=some M6):Ks P f:=by
 intro d b bf cp T x0 x1 x2 x3 x4 hf fs k h;have hlen:=h.BW;refine Bj hd<|A3 Z<|AR Z<|Ag Z<|Ap Z<|Az Z Z Z<|AA Z<|AU Z<|Aq<|DF (α:=Nat) (fun i=>[(0,pZ b),(1,vZ k),(11,vZ fs.length),(12,vZ i)]) (fun _=>[bx b T [x0,.slice (some ⟨bf,0,none⟩) fs.length cp,x1,x2,x3,x4],hf])
  (fun i=>i≤fs.length∧findF k fs=(findF k (fs.drop i)).map (·+i)) (fun i=>fs.length - i) 0 ⟨Z,Z,Z,Z,trivial⟩ Z ⟨by omega,by simp⟩ ?_
 rintro i ρ ⟨hi,hF⟩;by_cases e:i<fs.length
 ·obtain⟨b1,T1,l1,c1,cs,q1,rfl,hcl,hcs,hle,⟨a,n,c,rfl,hb⟩, -⟩:=Ai.at (by omega) h e;cases q1;have c0:=hcs 0 _ Z;have c1:=hcs 1 _ Z;rw[WO e] at hF;have hnext:¬(fs[i].held=true∧fs[i].sec=k)→findF k fs=(findF k (fs.drop (i+1))).map (·+(i+1)):=fun q=>by
   rw[hF,if_neg q,Option.map_map];congr 1;funext x;simp only[Function.comp];omega
  cases hh:fs[i].held with
  |false=>
   rw[hh] at c0
   (refine Ak<|Au Z Z<|By<|B2 Z<|AH<|Aw<|Aq<|AE Z<|A7 Z<|Ag Z<|Ap Z<|Az Z Z Z<|Ab Z<|BT _ Z Z Z (by omega)<|Am Z<|Ah Z (AG 1 Z (by assumption))<|Ad Z<|AQ Z Z<|AQ Z Z<|AQ Z Z<|AQ Z Z<|AQ Z Z<|Aj Z Z<|Be Z<|Av<|A4 Z Z<|AU Z ?_)
   exact⟨i+1,by omega,⟨Z,Z,Z,Z,trivial⟩,Z,Z,e,hnext (by rw[hh];rintro⟨q,_⟩;cases q)⟩
  |true=>
   rw[hh] at c0
   by_cases hs:fs[i].sec=k
   ·(refine Ak<|Au Z Z<|By<|B2 Z<|AH<|Aw<|Aq<|AE Z<|A7 Z<|Ag Z<|Ap Z<|Az Z Z Z<|Ab Z<|BT _ Z Z Z (by omega)<|Am Z<|Ah Z (AG 1 Z (by assumption))<|Ad Z<|Ac Z<|Ag Z<|Ac Z<|Ap Z<|Ac Z<|Am Z<|Ac Z<|c_l Z Z Z<|Ac Z<|Ab Z<|Ac Z<|BT _ Z Z Z (by omega)<|Ac Z<|Am Z<|Ac Z<|Ah Z (AG 1 Z (by assumption))<|Ac Z<|Ab Z<|Ac Z<|AI Z Z<|As Z Z<|A5 Z<|A3 Z<|Ap Z<|Az Z Z Z<|Ab Z<|BT _ Z Z Z (by omega)<|Ab Z<|Ag Z<|AS Z ?_)
    rw[show findF k fs=some i by rw[hF,if_pos ⟨hh,hs⟩,Aij,Ahg]]
    exact AbQ Z Z (Afa _)
   ·(refine Ak<|Au Z Z<|By<|B2 Z<|AH<|Aw<|Aq<|AE Z<|A7 Z<|Ag Z<|Ap Z<|Az Z Z Z<|Ab Z<|BT _ Z Z Z (by omega)<|Am Z<|Ah Z (AG 1 Z (by assumption))<|Ad Z<|Ac Z<|Ag Z<|Ac Z<|Ap Z<|Ac Z<|Am Z<|Ac Z<|c_l Z Z Z<|Ac Z<|Ab Z<|Ac Z<|BT _ Z Z Z (by omega)<|Ac Z<|Am Z<|Ac Z<|Ah Z (AG 1 Z (by assumption))<|Ac Z<|Ab Z<|Ac Z<|AI Z Z<|As Z Z<|AT Z<|Av<|A4 Z Z<|AU Z ?_)
    exact⟨i+1,by omega,⟨Z,Z,Z,Z,trivial⟩,Z,Z,e,hnext (by rintro⟨_,q⟩;exact hs q)⟩
 ·(refine Ak<|Au Z Z<|By<|BM Z<|Bl<|A3 Z<|AS Z ?_);have:findF k fs=none:=by
   rw[hF,Aia (by omega)];rfl
  rw[this];exact AbQ Z Z (Afa _)
def Nk(P:Program)(f:FuncId):Prop:=∀{d}{b bf cp:Nat}{T x0 x1 x2 x3 x4 hf}{fs:List Fr},Ai 5 RFr d (.slice (some ⟨bf,0,none⟩) fs.length cp) fs hf→
 Ea P f [pZ b] d [bx b T [x0,.slice (some ⟨bf,0,none⟩) fs.length cp,x1,x2,x3,x4],hf] (.bool (CK fs))
def TA{fs:List Fr}{i:Nat}(hi:i<fs.length)(h:fs[i].pins=0):CK fs=false:=by
 unfold CK;rw[List.all_eq_false];exact⟨_,Agb hi,by simp[h]⟩
def LF:A9:=⟨18,[(.tmp 2)],(sR (o1 2 (.mv (.const (.bool false))) .done) (.seq (sR (om 5 0<|o1 6 (.nilc 5)<|oj 7 1 6<|ol 8 7<|oL 9 8<|o1 10 (.mv z0) .done) (.block 0 (.loop (sR (ob 11 .lss 10 9 .done) (.seq (.cond 11 .skip (.exit 0)) (.seq (.block 1 (sR (oI 12 5 8 10<|o1 13 (.ld (some 5) 12)<|o1 4 (.alo (.agg #[(.bool false),(vZ 0),(vZ 0),(.bool false),nV]))<|o0 (.st 5 4 13) .done) (sR (oj 14 2 4<|ol 15 14<|ob 16 .eql 15 z0 .done) (.cond 16 (sR (o1 2 (.mv (.const (.bool false))) .done) .ret) .skip)))) (rG (ob 17 .add 10 z1<|om 10 17 .done)))))))) (sR (o1 2 (.mv (.const (.bool true))) .done) .ret)))⟩
def W3{P}(hd:dec P f=some LF):Nk P f:=by
 intro d b bf cp T x0 x1 x2 x3 x4 hf fs h;have hlen:=h.BW;refine Bj hd<|Ak<|AV Z<|AZ<|Ag Z<|Ap Z<|Az Z Z Z<|AA Z<|AU Z<|Aq<|DF (α:=Nat) (fun i=>[(8,.slice (some ⟨bf,0,none⟩) fs.length cp),(9,vZ fs.length),(10,vZ i)]) (fun _=>[bx b T [x0,.slice (some ⟨bf,0,none⟩) fs.length cp,x1,x2,x3,x4],hf])
  (fun i=>i≤fs.length∧CK (fs.take i)=true) (fun i=>fs.length - i) 0 ⟨Z,Z,Z,trivial⟩ Z ⟨by omega,by simp[CK]⟩ ?_
 rintro i ρ ⟨hi,hF⟩;by_cases e:i<fs.length
 ·obtain⟨b1,T1,l1,c1,cs,q1,rfl,hcl,hcs,hle,⟨a,n,c,rfl,hb⟩, -⟩:=Ai.at (by omega) h e;cases q1;refine Ak<|Au Z Z<|By<|B2 Z<|AH<|Aw<|Aq<|Ak<|BT _ Z Z Z (by omega)<|KK _ 1 Z Z hcl hcs ?_;(apply B8;intro _ _);refine Ft 0 Z Z Z Z Z Z ?_;by_cases hp:fs[i].pins=0
  ·refine Bo<|Az Z Z Z<|AI Z Z<|A5 Z<|Ak<|Cc Z<|BZ Z (L':=[_,_]) (Age _ _) ⟨?_,Z,Z⟩;rw[TA e hp];rfl
  ·refine Bo<|Az Z Z Z<|B1 d [_,_] (Vs.drop (Age _ _))<|AI Z Z<|AT Z<|Av<|A4 Z Z<|AU Z ?_;refine⟨i+1,by omega,⟨Z,Z,Z,trivial⟩,Z,Z,e,?_⟩
   rw[Afw e];unfold CK at hF⊢;rw[List.all_append,hF];simp[hp]
 ·(refine Ak<|Au Z Z<|By<|BM Z<|Bl<|Ak<|Cc Z ?_);rw[Agt (by omega)] at hF;rw[hF];exact LL Z (Afa _)
def OE(P:Program)(f:FuncId):Prop:=∀{d}{c:CD}{dv cv L},Ca d c dv cv L→(∀f∈c.fr,f.pins≤4611686018427387904)→
 Ao P f [cv] d L (Ret fun r d' L'=>d'=d∧(CK c.fr=true→r=.tuple #[vZ 0,.bool false]∧L'=L)∧
  (CK c.fr=false→r=.tuple #[vZ (CT (DR c.fr c.hand+1) c.fr c.hand).2.2,.bool true]∧Ca d {c with fr:=(CT (DR c.fr c.hand+1) c.fr c.hand).1,hand:=(CT (DR c.fr c.hand+1) c.fr c.hand).2.1} dv cv L'))
def JK{l:List Fr}{h:Nat}(hh:h<l.length):l.getD h fz=l[h]:=by rw[Afd,Afc hh];rfl
def LY(a0:Nat):A9:=⟨47,[(.tmp 2),(.tmp 3)],(sR (o1 2 (.mv z0)<|o1 3 (.mv (.const (.bool false))) .done) (.seq (sR (om 6 0<|oc 7 a0 [6] .done) (.cond 7 (sR (o1 2 (.mv z0)<|o1 3 (.mv (.const (.bool false))) .done) .ret) .skip)) (.block 0 (.loop (.block 1 (sR (om 8 0<|o1 9 (.nilc 8)<|oj 10 3 9<|ol 11 10<|om 4 11 .done) (.seq (.reg true (pm 12 0<|pm 13 0<|p1 14 (.nilc 13)<|p1 15 (.fld 3 14)<|pm 18 0<|p1 19 (.nilc 18)<|p1 20 (.fld 1 19) (.alt ⟨(some 16),none,(.ld none 15)⟩ (p1 17 (.bin .add 16 z1) (ol 21 20 (p1 22 (.len 21) (p1 23 (.bin .rem 17 22) (p1 24 (.nilc 12) (p1 25 (.fld 3 24) (o0 (.st 1 25 23) .done))))))) (ol 21 20 (p1 22 (.len 21) (ol 16 15 (p1 17 (.bin .add 16 z1) (p1 23 (.bin .rem 17 22) (p1 24 (.nilc 12) (p1 25 (.fld 3 24) (o0 (.st 1 25 23) .done))))))))))) (sR (om 26 0<|o1 27 (.nilc 26)<|oj 28 1 27<|ol 29 28<|om 30 4<|oI 31 5 29 30<|om 5 31 .done) (.block 2 (sR (om 34 5<|o1 35 (.nilc 34)<|oj 36 2 35<|ol 37 36<|ob 38 .gtr 37 z0<|om 33 38 .done) (.cond 33 .skip (sR (om 40 5<|o1 41 (.nilc 40)<|oj 42 3 41<|ol 43 42<|om 39 43 .done) (.cond 39 (rG (om 44 5<|o1 45 (.nilc 44)<|oj 46 3 45<|o0 (.st 1 46 (.const (.bool false))) .done)) (sR (om 32 4<|om 2 32<|o1 3 (.mv (.const (.bool true))) .done) .ret))))))))))))))⟩
def Zg{P}(hd:dec P f=some (LY f1))(h1:Nk P f1):OE P f:=by
 intro d c dv cv L h hpb;obtain⟨b,T,bf,cp,cb,hf,s,r,bd,rfl,rfl,rfl,hg,hl1,hl2,hh,hfr⟩:=h;refine Bj hd<|AE Z<|AV Z<|AZ<|Ag Z<|Di (A:=[_,_]) (B:=[_]) Z Z (h1 hg) ?_;cases hp:CK c.fr with
 |true=>
  (refine B7 Z<|AE Z<|Cc Z ?_)
  exact CJ Z Z (Afa _) ⟨Z,fun _=>⟨Z,Z⟩,fun q=>by cases q⟩
 |false=>
  (refine Be Z<|Aq ?_)
  refine Cs (α:=List Fr×Nat×Aa) (fun x=>[(0,pZ b)])
   (fun x d' L'=>d'=d∧x.1.length=c.fr.length∧x.2.1<c.fr.length∧CK x.1=false∧(∀f∈x.1,f.pins≤4611686018427387904)∧CT (DR x.1 x.2.1+1) x.1 x.2.1=CT (DR c.fr c.hand+1) c.fr c.hand∧
    L'=[bx b T [pZ bd,.slice (some ⟨bf,0,none⟩) c.fr.length cp,.chan (some cb),vZ x.2.1,vZ (wr c.hits),vZ (wr c.miss)],x.2.2,sg cb (.chan c.fr.length (c.free.map fun i:Nat=>Value.int .i64 i).toArray false s r false)]∧
    Ai 5 RFr d (.slice (some ⟨bf,0,none⟩) c.fr.length cp) x.1 x.2.2) (fun x=>DR x.1 x.2.1) (c.fr,c.hand,hf) ⟨Z,trivial⟩ ⟨Z,Z,hh,hp,hpb,Z,Z,hg⟩ ?_
  rintro⟨fs,hand,hf'⟩ ρ d' L' ⟨rfl,hlen,hhand,hpin,hpb',hsw,rfl,hg'⟩
  simp only at hlen hhand hpin hpb' hsw hg'⊢
  rw[←hlen] at hg'
  obtain⟨b1,T1,l1,c1,cs,q1,rfl,hcl,hcs,hle,⟨a,n,c',rfl,hb⟩,hset⟩:=Ai.at (by omega) hg' (show hand<fs.length by omega)
  cases q1
  have c2:=hcs 2 _ Z
  have c3:=hcs 3 _ Z
  have hgd:fs.getD hand fz=fs[hand]:=JK (by omega)
  (refine Aq<|Ak ?_)
  (refine Ag Z<|Ap Z<|Az Z Z Z<|AU Z ?_)
  refine G1 (fun ρ d2 L'=>BN ρ [(0,pZ b),(4,vZ hand)]∧d2=d'∧L'=[bx b T [pZ bd,.slice (some ⟨bf,0,none⟩) c.fr.length cp,.chan (some cb),vZ (C1 fs hand:Nat),vZ (wr c.hits),vZ (wr c.miss)],bx bf T1 l1,sg cb (.chan c.fr.length (c.free.map fun i:Nat=>Value.int .i64 i).toArray false s r false)]) ?_ ?_
  ·refine BE [] _ Z ?_
   have en:((hand:Int)+1) % (c.fr.length:Int)=(C1 fs hand:Nat):=by unfold C1;rw[hlen];simp
   (refine Ag Z<|Ag Z<|Ap Z<|Am Z<|Ag Z<|Ap Z<|Am Z ?_)
   refine Fw ?_ ?_
   ·(refine c_l Z Z Z<|A4 Z Z<|c_l Z Z Z<|AA Z<|WY Z Z (by omega) (by omega)<|Ap Z<|Am Z ?_)
    refine Bb 0 [pZ bd,.slice (some ⟨bf,0,none⟩) c.fr.length cp,.chan (some cb),vZ (C1 fs hand:Nat),vZ (wr c.hits),vZ (wr c.miss)] Z Z Z Z (Aff Z) Z (by rw[←en];rfl) ?_
    exact An ⟨⟨Z,Z,trivial⟩,Z,Z⟩
   ·(refine c_l Z Z Z<|AA Z<|c_l Z Z Z<|A4 Z Z<|WY Z Z (by omega) (by omega)<|Ap Z<|Am Z ?_)
    refine Bb 0 [pZ bd,.slice (some ⟨bf,0,none⟩) c.fr.length cp,.chan (some cb),vZ (C1 fs hand:Nat),vZ (wr c.hits),vZ (wr c.miss)] Z Z Z Z (Aff Z) Z (by rw[←en];rfl) ?_
    exact An ⟨⟨Z,Z,trivial⟩,Z,Z⟩
  ·rintro ρ d2 L2 ⟨hs2,rfl,rfl⟩
   refine CU _ hs2 ?_
   by_cases hp0:fs[hand].pins=0
   ·cases hla:fs[hand].late with
    |false=>
     rw[hla] at c3
     have ht:BF fs hand=true:=by unfold BF;rw[hgd,hp0,hla];rfl
     (refine A3 Z<|Ap Z<|Az Z Z Z<|Ab Z<|BT _ Z Z Z (by omega)<|Ag Z<|An<|Aq<|A3 Z<|Ap Z<|Am Z<|Ah Z (AG 1 Z (by assumption))<|Bu Z Z<|AV Z<|BM Z<|A3 Z<|Ap Z<|Am Z<|Ah Z (AG 1 Z (by assumption))<|AV Z<|Cn Z<|AE Z<|Ab Z<|Cc Z ?_)
     have hres:CT (DR c.fr c.hand+1) c.fr c.hand=(fs,C1 fs hand,hand):=by rw[←hsw,CT,ht];rfl
     rw[hres]
     refine CJ Z Z (Afa _) ⟨Z,(fun q=>nomatch q),fun _=>⟨Z,?_⟩⟩
     refine⟨b,T,bf,cp,cb,_,s,r,bd,Z,Z,?_,hg',by simp only;omega,by simp only;omega,Aiq _ (by omega),by rw[hlen];exact hfr⟩
     simp only[hlen]
    |true=>
     rw[hla] at c3
     have ht:BF fs hand=false:=by unfold BF;rw[hgd,hp0,hla];rfl
     have hpass:D8 fs hand=fs.set hand {fs[hand] with late:=false}:=by rw[D8,hgd,if_pos hp0]
     have hg2:=hset [.bool fs[hand].held,vZ fs[hand].sec,vZ fs[hand].pins,.bool false,.slice a n c'] {fs[hand] with late:=false} Z ⟨a,n,c',Z,hb⟩
     rw[←hpass] at hg2
     (refine A3 Z<|Ap Z<|Az Z Z Z<|Ab Z<|BT _ Z Z Z (by omega)<|Ag Z<|An<|Aq<|A3 Z<|Ap Z<|Am Z<|Ah Z (AG 1 Z (by assumption))<|Bu Z Z<|AV Z<|BM Z<|A3 Z<|Ap Z<|Am Z<|Ah Z (AG 1 Z (by assumption))<|AV Z<|Er Z<|Av<|Ag Z<|Ap Z<|Am Z ?_)
     refine Bb 1 _ Z Z Z Z (by omega) Z (Ix (cs:=[.bool fs[hand].held,vZ fs[hand].sec,vZ fs[hand].pins,.bool true,.slice a n c']) (fun j u hu=>hcs j u (by rw[hla];exact hu)) (by simp) (by simp;omega)) ?_
     (apply An)
     refine⟨(D8 fs hand,C1 fs hand,_),Ic (by omega) hpin ht,⟨Z,trivial⟩,Z,by rw[FV];exact hlen,by simp only;rw[←hlen];exact Aiq _ (by omega),by rw[H0];exact hpin,?_,(PX (by omega) hpin ht).trans hsw,Z,by simp only;rw[←hlen];exact hg2⟩
     intro f hf
     rw[hpass] at hf
     rcases List.mem_or_eq_of_mem_set hf with hf|rfl
     ·exact hpb' f hf
     ·simp only;omega
   ·have ht:BF fs hand=false:=by unfold BF;rw[hgd];simp[hp0]
    have hpass:D8 fs hand=fs:=by rw[D8,hgd,if_neg hp0]
    (refine A3 Z<|Ap Z<|Az Z Z Z<|Ab Z<|BT _ Z Z Z (by omega)<|Ag Z<|An<|Aq<|A3 Z<|Ap Z<|Am Z<|Ah Z (AG 1 Z (by assumption))<|Bu Z Z<|AV Z<|B2 Z<|AH ?_)
    have h1:=Ic (by omega) hpin ht
    have h2:=(PX (by omega) hpin ht).trans hsw
    rw[hpass] at h1 h2
    exact⟨(fs,C1 fs hand,_),h1,⟨Z,trivial⟩,Z,hlen,by simp only;rw[←hlen];exact Aiq _ (by omega),hpin,hpb',h2,Z,by simp only;rw[←hlen];exact hg'⟩
end
def AeD(o:Option Nat):Value:=match o with|some i=>.tuple #[vZ i,.bool true]|none=>.tuple #[vZ 0,.bool false]
def Rh(P:Program)(f:FuncId):Prop:=∀{d}{c:CD}{dv cv L},Ca d c dv cv L→MR c 4611686018427387904→
 Ao P f [cv] d L (Ret fun r d' L'=>d'=d∧r=AeD (FG c).2∧Ca d (FG c).1 dv cv L')
def Nl(a0:Nat):Hn:=(.mk 18 [(.tmp 2),(.tmp 3)] (.seq (.g (rG (o1 2 (.mv z0)<|o1 3 (.mv (.const (.bool false))) .done))) (.seq (.g (rG (om 5 0<|o1 6 (.nilc 5)<|oj 7 2 6<|ol 8 7 .done))) (.seq (.sel .done (some 9) 8 (vZ 0) (oe 10 9 0<|ob 11 .eql 10 z0 .done)) (.g (.block 0 (.cond 11 (sR (oe 16 9 2<|om 4 16 .done) (sR (om 17 4<|om 2 17<|o1 3 (.mv (.const (.bool true))) .done) .ret)) (sR (om 12 0<|oc 13 a0 [12]<|oe 14 13 0<|oe 15 13 1<|om 2 14<|om 3 15 .done) .ret))))))))
def Aao(hd:Gf false false P f=some (Nl f1))(h1:OE P f1):Rh P f:=by
 intro d c dv cv L h hpb;have h0:=h;obtain⟨b,T,bf,cp,cb,hf,s,r,bd,rfl,rfl,rfl,hg,hl1,hl2,hh,hfr⟩:=h;refine Fl hd (Aff Z) ?_;show xwp P _ _ _ _ _;(apply Cd;apply x_g;apply Av;apply Ab;rfl;apply Ad;rfl;apply An;apply Cd;apply x_g;apply Av;apply Ag;rfl;apply Ap;rfl;apply Am;rfl;apply Ah;rfl;exact AG 0 Z Z;apply An;apply Cd;apply Ad3;apply An);have hcase:c.free=[]∨∃i rest,c.free=i::rest:=by cases c.free with|nil=>exact .inl Z|cons i r=>exact .inr ⟨i,r,Z⟩
 rcases hcase with hfe|⟨i,rest,hfe⟩
 ·refine YZ 2 Z (by rw[hfe];rfl) ?_;(refine Dl Z Z<|AI Z Z<|An ?_;apply x_g;refine Aq<|BM Z<|A3 Z ?_);refine Ek (B:=[]) Z Z (h1 h0 hpb) (fun u d' L' _ ⟨e1,e2,e3⟩=>?_);subst e1;cases hp:CK c.fr with
  |true=>
   obtain⟨rfl,rfl⟩:=e2 hp
   (refine AW Z Z Z Z<|Ab Z<|Cc Z ?_)
   have hr:FG c=(c,none):=by unfold FG;rw[hfe];simp only[hp,if_true]
   rw[hr]
   exact CJ Z Z (Afa _) ⟨Z,Z,h0⟩
  |false=>
   obtain⟨rfl,hc⟩:=e3 hp
   (refine AW Z Z Z Z<|Ab Z<|Cc Z ?_)
   have hr:FG c=({c with fr:=(CT (DR c.fr c.hand+1) c.fr c.hand).1,hand:=(CT (DR c.fr c.hand+1) c.fr c.hand).2.1},some (CT (DR c.fr c.hand+1) c.fr c.hand).2.2):=by
    unfold FG;rw[hfe];simp only[hp,Afh,if_false]
   rw[hr]
   exact CJ Z Z (Afa _) ⟨Z,Z,by rw[Agj];exact hc⟩
 ·refine Yw (v:=vZ i) (buf:=rest.map fun i:Nat=>Value.int .i64 i) 2 Z (by rw[hfe];rfl) ?_;(refine Dl Z Z<|AI Z Z<|An ?_;apply x_g;refine Aq<|B2 Z<|Ak<|Dl Z Z<|A7 Z<|Ab Z<|Ab Z<|Cc Z ?_);have hr:FG c=({c with free:=rest},some i):=by unfold FG;rw[hfe]
  rw[hr];exact CJ Z Z (Afa _) ⟨Z,Z,b,T,bf,cp,cb,hf,s,r+1,bd,Z,Z,Z,hg,hl1,hl2,hh,fun j hj=>hfr j (by rw[hfe];exact Afr _ hj)⟩
def AdR(d:Aa)(r:Value)(o:Option Sec):Prop:=match o with|some b=>∃u,r=.tuple #[u,vZ 0]∧Ay d u b|none=>r=.tuple #[nV,vZ 180]
def M8(P:Program)(f:FuncId):Prop:=∀{d}{c:CD}{D:Ff}{dv cv LC LD}{k:Nat},Ca d c dv cv LC→Dv d D dv LD→MR c 4611686018427387904→k<D.syn.length→
 Ao P f [cv,vZ k] d (LC++LD) (Ret fun r d' L'=>∃LC' LD',L'=LC'++LD'∧Ca d' (FD (D.cur k) c k).1 dv cv LC'∧Dv d' D dv LD'∧AdR d' r (FD (D.cur k) c k).2)
def N3(a0 a1 a2 a3 a4:Nat):Hn:=(.mk 108 [(.tmp 4),(.tmp 5)] (.seq (.g (rG (o1 4 (.mv nS)<|o1 5 (.mv z0) .done))) (.seq (.g (.block 0 (sR (om 13 0<|oc 14 a0 [13]<|om 12 14 .done) (.cond 12 (sR (o1 4 (.mv nS)<|o1 5 (.mv z1) .done) .ret) (sR (om 16 1<|ob 17 .lss 16 z0<|om 18 17<|gF 19 18 1<|gF 20 18 0<|oF 21 18 (.nilc 20)<|oF 22 18 (.fld 0 21)<|oF 23 18 (.ld none 22)<|oF 24 18 (.call a1 [23])<|oF 25 18 (.bin .geq 19 24)<|o1 26 (.pick 18 (.const (.bool true)) 25)<|om 15 26 .done) (.cond 15 (sR (o1 4 (.mv nS)<|o1 5 (.mv (kZ 4)) .done) .ret) .skip)))))) (.seq (.g (sR (om 28 0<|om 29 1<|oc 30 a2 [28,29]<|om 27 30<|oe 31 27 0<|oe 32 27 1<|om 6 31<|om 7 32 .done) (sR (om 33 6<|o1 34 (.eqp true 33 (.const (.pointer none))) .done) (.cond 34 (sR (om 35 6<|o1 36 (.nilc 35)<|oj 37 2 36<|ol 38 37<|ob 39 .add 38 z1<|o1 40 (.nilc 35)<|oj 41 2 40<|o0 (.st 1 41 39) .done) (sR (om 42 6<|o1 43 (.nilc 42)<|oj 44 3 43<|o0 (.st 1 44 (.const (.bool true))) .done) (sR (om 45 0<|o1 46 (.nilc 45)<|oj 47 4 46<|ol 48 47<|ob 49 .add 48 z1<|o1 50 (.nilc 45)<|oj 51 4 50<|o0 (.st 1 51 49) .done) (sR (o1 52 (.bsl 0 1 [(.int .u8 0)] [])<|om 53 6<|o1 54 (.nilc 53)<|oj 55 4 54<|ol 56 55<|o1 57 (.app 1 1 [(.int .u8 0)] 52 56)<|om 4 57<|o1 5 (.mv z0) .done) .ret)))) .skip)))) (.seq (.g (rG (om 59 0<|oc 60 a3 [59]<|om 58 60<|oe 61 58 0<|oe 62 58 1<|om 8 61<|om 9 62 .done))) (.seq (.g (sR (om 63 9<|o1 64 (.un .not 63) .done) (.cond 64 (sR (o1 4 (.mv nS)<|o1 5 (.mv (kZ 180)) .done) .ret) .skip))) (.seq (.g (rG (om 66 0<|o1 67 (.nilc 66)<|oj 68 0 67<|ol 69 68<|om 70 1<|oc 71 a4 [69,70]<|om 65 71<|oe 72 65 0<|oe 73 65 1<|om 10 72<|om 11 73 .done))) (.seq (.seq (.g (rG (om 74 11<|ob 75 .neq 74 z0 .done))) (.cond 75 (.seq (.g (rG (om 76 0<|o1 77 (.nilc 76)<|oj 78 1 77<|ol 79 78<|om 80 8<|o1 81 (.bld [(0,1),(1,1),(2,1),(3,1),(4,1)] [(.bool false),(vZ 0),(vZ 0),(.bool false),nV] [])<|oI 82 5 79 80<|o0 (.st 5 82 81) .done))) (.seq (.snd (om 83 0<|o1 84 (.nilc 83)<|oj 85 2 84<|ol 86 85<|om 87 8 .done) none 86 87 .done) (.g (sR (om 88 11<|o1 4 (.mv nS)<|om 5 88 .done) .ret)))) (.g .skip))) (.g (sR (om 89 0<|o1 90 (.nilc 89)<|oj 91 1 90<|ol 92 91<|om 93 8<|om 94 1<|om 95 10<|o1 96 (.bld [(0,1),(1,1),(2,1),(3,1),(4,1)] [(.bool false),(vZ 0),(vZ 0),(.bool false),nV] [(0,(.const (.bool true))),(1,94),(2,z1),(3,(.const (.bool true))),(4,95)])<|oI 97 5 92 93<|o0 (.st 5 97 96) .done) (sR (om 98 0<|o1 99 (.nilc 98)<|oj 100 5 99<|ol 101 100<|ob 102 .add 101 z1<|o1 103 (.nilc 98)<|oj 104 5 103<|o0 (.st 1 104 102) .done) (sR (o1 105 (.bsl 0 1 [(.int .u8 0)] [])<|om 106 10<|o1 107 (.app 1 1 [(.int .u8 0)] 105 106)<|om 4 107<|o1 5 (.mv z0) .done) .ret))))))))))))
set_option maxHeartbeats 1000000 in
def AcO{f2 f3 f4 f5}(hd:Gf false false P f=some (N3 f1 f2 f3 f4 f5))(h1:IU P f1)(h2:I0 P f2)(h3:Ks P f3)(h4:Rh P f4)(h5:QF P f5):M8 P f:=by
 intro d c D dv cv LC LD k h hD hpb hk;have h0:=h;obtain⟨b,T,bf,cp,cb,hf,s,r,bd,rfl,rfl,rfl,hg,hl1,hl2,hh,hfr⟩:=h;refine Fl hd (Aff Z) ?_;show xwp P _ _ _ _ _;(apply Cd;apply x_g;apply Av;apply Ae;rfl;apply Ab;rfl;apply An;apply Cd;apply x_g;apply Aq;apply Aw;apply Av;apply Ag;rfl);refine Di (A:=[_]) (B:=_::_::LD) Z Z h1<|AV Z<|Cn Z<|AE Z<|Au Z Z<|Ad Z<|Bs Z<|Ac Z<|Ab Z<|Ac Z<|Ag Z<|Ac Z<|Ap Z<|Ac Z<|Am Z<|Ac Z<|c_l Z Z Z<|Ac Z<|NB (A:=LD) Afi Z (h2 hD) ?_;(refine Ac Z<|Dk Z Z<|Aj Z Z<|AV Z<|BM Z<|AH ?_;apply Cd;apply x_g;refine A3 Z<|Ab Z ?_);refine Di (A:=[_,_]) (B:=_::LD) Z Z (h3 hg) ?_;cases hF:findF k c.fr with
 |some i=>
  obtain⟨hi,hheld,hsec⟩:=F0 hF
  obtain⟨b1,T1,l1,c1,cs,q1,rfl,hcl,hcs,hle,⟨a,n,c',rfl,hb⟩,hset⟩:=Ai.at (by omega) hg hi
  cases q1
  have hpi:=hpb _ (Agb hi)
  have c2:=hcs 2 _ Z
  have hgd:c.fr.getD i fz=c.fr[i]:=JK hi
  have hres:FD (D.cur k) c k=({c with fr:=c.fr.set i {c.fr[i] with pins:=c.fr[i].pins+1,late:=true},hits:=c.hits+1},some c.fr[i].b):=by
   unfold FD;rw[hF];simp only[hgd]
  rw[hres]
  (refine AO Z<|AW Z Z Z Z<|Ag Z<|A7 Z<|Ag Z<|CG Z Z<|B7 Z<|A3 Z<|Ap Z<|Am Z<|Ah Z (AG 1 Z (by assumption))<|A4 Z Z<|Ap Z<|Am Z ?_)
  refine Bb 1 (patch l1 (i*5) [.bool c.fr[i].held,vZ c.fr[i].sec,vZ ((c.fr[i].pins:Int)+1),.bool c.fr[i].late,.slice a n c']) Z Z Z Z (by omega) Z (Ix hcs (by simp) (by simp;omega)) ?_
  (refine Bo<|Ag Z<|Ap Z<|Am Z ?_)
  refine Bb 1 (patch l1 (i*5) [.bool c.fr[i].held,vZ c.fr[i].sec,vZ ((c.fr[i].pins:Int)+1),.bool true,.slice a n c']) Z Z Z Z (by rw[BC (by simp;omega)];omega) Z (WS (cs:=[.bool c.fr[i].held,vZ c.fr[i].sec,vZ ((c.fr[i].pins:Int)+1),.bool c.fr[i].late,.slice a n c']) (by simp) (by simp;omega)) ?_
  (refine Bo<|Ag Z<|Ap Z<|Az Z Z Z ?_)
  refine KB Z Z ?_
  (refine Ap Z<|Am Z ?_)
  refine Bb 0 [pZ bd,.slice (some ⟨bf,0,none⟩) c.fr.length cp,.chan (some cb),vZ c.hand,vZ (wr (c.hits+1)),vZ (wr c.miss)] Z Z Z Z (Aff Z) Z Z ?_
  have c4:(patch l1 (i*5) [.bool c.fr[i].held,vZ c.fr[i].sec,vZ ((c.fr[i].pins:Int)+1),.bool true,.slice a n c'])[i*5+4]?=some (.slice a n c'):=UP (by simp;omega) Z
  (refine Bo ?_)
  refine Dq (cs:=[]) (by simp) (by simp[Instr.fill,BD]) (fun b3 T3=>?_)
  (refine AK<|Ap Z<|Am Z ?_)
  refine Ah Z (AG 2 Z c4) ?_
  have hbl:=hb.BW
  refine FR (R:=Ax) 0 Z Z (Ai.J8 (R:=Ax) (sz:=1)) Z (RSl.src hb Fx (by omega) _) (by omega) (by simp;omega) (by simp;omega) (fun v' h' ho'=>?_)
  rw[Agh] at ho'
  (refine AK<|AS Z ?_)
  have hg2:=hset [.bool c.fr[i].held,vZ c.fr[i].sec,vZ ((c.fr[i].pins:Int)+1),.bool true,.slice a n c'] {c.fr[i] with pins:=c.fr[i].pins+1,late:=true} Z ⟨a,n,c',Z,hb⟩
  refine A6 [v',vZ 0] ⟨Z,Z,trivial⟩ (d':=join d h') (L':=[bx b T [pZ bd,.slice (some ⟨bf,0,none⟩) c.fr.length cp,.chan (some cb),vZ c.hand,vZ (wr (c.hits+1)),vZ (wr c.miss)],
   bx bf T1 (patch l1 (i*5) [.bool c.fr[i].held,vZ c.fr[i].sec,vZ ((c.fr[i].pins:Int)+1),.bool true,.slice a n c']),sg cb (.chan c.fr.length (c.free.map fun i:Nat=>Value.int .i64 i).toArray false s r false)]++LD) Vs.freeze
   ⟨_,_,Z,?_,hD.mono (Le.Ar _ _),v',Z,Ai.rsl (R:=Ax) ho' AF (by omega) (Le.Ar _ _) (Le.Bc _ _)⟩
  exact Ca.mk (by simp) (Ai.mono (R:=RFr) NG hg2 (Le.Ar _ _)) hl1 hl2 hh hfr
 |none=>
  (refine AO Z<|AW Z Z Z Z<|Ag Z<|A7 Z<|Ag Z<|PC Z Z<|Be Z ?_;apply Cd;apply x_g;refine Av<|Ag Z ?_)
  refine Ek (A:=[_,_,_]) (B:=LD) Z Z (h4 h0 hpb) (fun u d' L' _ ⟨e1,e2,e3⟩=>?_)
  subst e1
  subst e2
  cases hr:FG c with
  |mk c1 o=>
  rw[hr] at e3
  simp only at e3
  have e3':=e3
  obtain⟨b',T',bf',cp',cb',hf',s',r',bd',q1,q2,rfl,hg',hl1',hl2',hh',hfr'⟩:=e3
  cases q1;cases q2
  cases o with
  |none=>
   have hres:FD (D.cur k) c k=(c1,none):=by unfold FD;rw[hF,hr]
   rw[hres]
   (refine AO Z<|AW Z Z Z Z<|Ab Z<|AV Z ?_;apply Cd;apply x_g;refine Ak<|Ad Z<|Bm Z<|B7 Z<|Br Z<|AS Z ?_)
   exact CJ Z Z (Afa _) ⟨_,_,Z,e3',hD,Z⟩
  |some i=>
   have hres:FD (D.cur k) c k=({c1 with fr:=c1.fr.set i ⟨true,k,1,true,D.cur k⟩,miss:=c1.miss+1},some (D.cur k)):=by unfold FD;rw[hF,hr]
   rw[hres]
   have hi:=Wf hh hfr hr
   (refine AO Z<|AW Z Z Z Z<|Ab Z<|AV Z ?_;apply Cd;apply x_g;refine Ak<|Ad Z<|Bm Z<|Be Z ?_;apply Cd;apply x_g;refine Av<|Ag Z<|Ap Z<|Az Z Z Z<|Ab Z ?_)
   refine Rn (A:=LD) Afi Z (h5 hD hk) (fun w d2 LD' hld ⟨u,e1,hu,hD'⟩=>⟨d2,[_,_,_]++LD',Vs.perm Afi,?_⟩)
   subst e1
   obtain⟨au,cu,rfl⟩:=RSl.val hu
   obtain⟨b1,T1,l1,x1,cs,q1,rfl,hcl,hcs,hle, -,hset⟩:=Ai.at (by omega) (Ai.mono (R:=RFr) NG hg' hld) hi
   cases q1
   (refine AO Z<|AW Z Z Z Z<|Ae Z<|AU Z ?_;apply Cd;apply Cd;apply x_g;refine Av<|Ab Z<|AJ Z Z<|An ?_;apply AbH;rfl;apply x_g;apply AH;apply x_g;refine A3 Z<|Ap Z<|Az Z Z Z<|Ab Z<|Ab Z<|Ae Z<|BY Z<|BT _ Z Z Z (by omega) ?_)
   refine BA (cs:=[.bool true,vZ k,vZ 1,.bool true,.slice au (D.cur k).length cu]) 1 Z Z Z Z hle Z ?_
   (refine Bo<|Ag Z<|Ap Z<|Az Z Z Z ?_)
   refine KB Z Z ?_
   (refine Ap Z<|Am Z ?_)
   refine Bb 0 [pZ bd,.slice (some ⟨bf',0,none⟩) c1.fr.length cp',.chan (some cb'),vZ c1.hand,vZ (wr c1.hits),vZ (wr (c1.miss+1))] Z Z Z Z (Aff Z) Z Z ?_
   (refine Bo ?_)
   refine Dq (cs:=[]) (by simp) (by simp[Instr.fill,BD]) (fun b3 T3=>?_)
   (apply AK)
   have hbl:=hu.BW
   refine FR (R:=Ax) 0 Z Z (Ai.J8 (R:=Ax) (sz:=1)) Z (RSl.src hu Fx (by omega) _) (by omega) (by simp;omega) (by simp;omega) (fun v' h' ho'=>?_)
   rw[Agh] at ho'
   (refine AK<|AS Z ?_)
   refine A6 [v',vZ 0] ⟨Z,Z,trivial⟩ (d':=join d2 h') (L':=[bx b T' [pZ bd,.slice (some ⟨bf',0,none⟩) c1.fr.length cp',.chan (some cb'),vZ c1.hand,vZ (wr c1.hits),vZ (wr (c1.miss+1))],
    bx bf' T1 (patch l1 (i*5) [.bool true,vZ k,vZ 1,.bool true,.slice au (D.cur k).length cu]),sg cb' (.chan c1.fr.length (c1.free.map fun i:Nat=>Value.int .i64 i).toArray false s' r' false)]++LD') Vs.freeze
    ⟨_,_,Z,?_,hD'.mono (Le.Ar _ _),v',Z,Ai.rsl (R:=Ax) ho' AF (by omega) (Le.Ar _ _) (Le.Bc _ _)⟩
   exact Ca.mk (by simp) (Ai.mono (R:=RFr) NG (hset _ ⟨true,k,1,true,D.cur k⟩ Z ⟨au,_,cu,Z,hu⟩) (Le.Ar _ _)) hl1' hl2' hh' hfr'
def Js(P:Program)(f:FuncId):Prop:=∀{d}{c:CD}{dv cv L}{k:Nat},Ca d c dv cv L→MR c 4611686018427387904→
 Ao P f [cv,vZ k] d L (Ret fun r d' L'=>d'=d∧r=vZ (DI c k).2∧Ca d (DI c k).1 dv cv L')
def Ma(a0 a1:Nat):A9:=⟨31,[(.tmp 4)],(sR (o1 4 (.mv z0) .done) (.seq (sR (om 7 0<|oc 8 a0 [7] .done) (.cond 8 (sR (o1 4 (.mv z1) .done) .ret) .skip)) (sR (om 10 0<|om 11 1<|oc 12 a1 [10,11]<|om 9 12<|oe 13 9 0<|oe 14 9 1<|om 5 13<|om 6 14 .done) (.seq (.block 0 (sR (om 16 5<|o1 17 (.eqp false 16 (.const (.pointer none)))<|om 15 17 .done) (.cond 15 (sR (o1 4 (.mv (kZ 240)) .done) .ret) (sR (om 19 5<|o1 20 (.nilc 19)<|oj 21 2 20<|ol 22 21<|ob 23 .eql 22 z0<|om 18 23 .done) (.cond 18 (sR (o1 4 (.mv (kZ 180)) .done) .ret) .skip))))) (sR (om 24 5<|o1 25 (.nilc 24)<|oj 26 2 25<|ol 27 26<|ob 28 .sub 27 z1<|o1 29 (.nilc 24)<|oj 30 2 29<|o0 (.st 1 30 28) .done) (sR (o1 4 (.mv z0) .done) .ret))))))⟩
def Y5{f2}(hd:dec P f=some (Ma f1 f2))(h1:IU P f1)(h2:Ks P f2):Js P f:=by
 intro d c dv cv L k h hpb;have h0:=h;obtain⟨b,T,bf,cp,cb,hf,s,r,bd,rfl,rfl,rfl,hg,hl1,hl2,hh,hfr⟩:=h;refine Bj hd<|AE Z<|BG<|Ag Z<|Di (A:=[_]) (B:=[_,_]) Z Z h1<|Be Z<|A3 Z<|Ab Z<|Di (A:=[_,_]) (B:=[_]) Z Z (h2 hg) ?_;cases hF:findF k c.fr with
 |none=>
  (refine AO Z<|AW Z Z Z Z<|Ag Z<|AU Z<|Aw<|Aq<|A3 Z<|PC Z Z<|AV Z<|Er Z<|AE Z<|BJ ?_)
  have hr:DI c k=(c,240):=by unfold DI;rw[hF]
  rw[hr]
  exact BZ Z (Afa _) ⟨Z,Z,h0⟩
 |some i=>
  obtain⟨hi,hheld,hsec⟩:=F0 hF
  obtain⟨b1,T1,l1,c1,cs,q1,rfl,hcl,hcs,hle,⟨a,n,c',rfl,hb⟩,hset⟩:=Ai.at (by omega) hg hi
  cases q1
  have hpi:=hpb _ (Agb hi)
  have c2:=hcs 2 _ Z
  have hgd:c.fr.getD i fz=c.fr[i]:=JK hi
  by_cases hp:c.fr[i].pins=0
  ·(refine AO Z<|AW Z Z Z Z<|Ag Z<|AU Z<|Aw<|Aq<|A3 Z<|CG Z Z<|AV Z<|Cn Z<|A3 Z<|Ap Z<|Am Z<|Ah Z (AG 1 Z (by assumption))<|AI Z Z<|AV Z<|B2 Z<|AE Z<|BJ ?_)
   have hr:DI c k=(c,180):=by unfold DI;rw[hF];simp only[hgd];rw[if_pos hp]
   rw[hr]
   exact BZ Z (Afa _) ⟨Z,Z,h0⟩
  ·(refine AO Z<|AW Z Z Z Z<|Ag Z<|AU Z<|Aw<|Aq<|A3 Z<|CG Z Z<|AV Z<|Cn Z<|A3 Z<|Ap Z<|Am Z<|Ah Z (AG 1 Z (by assumption))<|AI Z Z<|AV Z<|BM Z<|AH<|A3 Z<|Ap Z<|Am Z<|Ah Z (AG 1 Z (by assumption))<|DT Z Z<|Ap Z<|Am Z ?_)
   refine Bb 1 (patch l1 (i*5) [.bool c.fr[i].held,vZ c.fr[i].sec,vZ ((c.fr[i].pins:Int) - 1),.bool c.fr[i].late,.slice a n c']) Z Z Z Z (by omega) Z (Ix hcs (by simp) (by simp;omega)) ?_
   (refine Bo<|AS Z ?_)
   have hr:DI c k=({c with fr:=c.fr.set i {c.fr[i] with pins:=c.fr[i].pins - 1}},0):=by unfold DI;rw[hF];simp only[hgd];rw[if_neg hp]
   rw[hr]
   refine BZ Z (Afa _) ⟨Z,Z,?_⟩
   exact Ca.mk (by simp) (hset _ {c.fr[i] with pins:=c.fr[i].pins - 1} Z ⟨a,n,c',by simp only;rw[Int.ofNat_sub (by omega)];rfl,hb⟩) hl1 hl2 hh hfr
def Ih(P:Program)(f:FuncId):Prop:=∀{d}{c:CD}{dv cv L}{k:Nat},Ca d c dv cv L→(∀i,findF k c.fr=some i→c.free.length<c.fr.length)→
 Ao P f [cv,vZ k] d L (Ret fun r d' L'=>d'=d∧r=vZ (DH c k).2∧Ca d (DH c k).1 dv cv L')
def LG(a0 a1:Nat):Hn:=(.mk 32 [(.tmp 4)] (.seq (.g (rG (o1 4 (.mv z0) .done))) (.seq (.g (sR (om 7 0<|oc 8 a0 [7] .done) (.cond 8 (sR (o1 4 (.mv z1) .done) .ret) .skip))) (.seq (.g (rG (om 10 0<|om 11 1<|oc 12 a1 [10,11]<|om 9 12<|oe 13 9 0<|oe 14 9 1<|om 5 13<|om 6 14 .done))) (.seq (.g (.block 0 (sR (om 16 5<|o1 17 (.eqp false 16 (.const (.pointer none)))<|om 15 17 .done) (.cond 15 (sR (o1 4 (.mv (kZ 240)) .done) .ret) (sR (om 19 5<|o1 20 (.nilc 19)<|oj 21 2 20<|ol 22 21<|ob 23 .gtr 22 z0<|om 18 23 .done) (.cond 18 (sR (o1 4 (.mv (kZ 180)) .done) .ret) .skip)))))) (.seq (.g (rG (om 24 5<|o1 25 (.bld [(0,1),(1,1),(2,1),(3,1),(4,1)] [(.bool false),(vZ 0),(vZ 0),(.bool false),nV] [])<|o1 26 (.nilc 24)<|o0 (.st 5 26 25) .done))) (.seq (.snd (om 27 0<|o1 28 (.nilc 27)<|oj 29 2 28<|ol 30 29<|om 31 6 .done) none 30 31 .done) (.g (sR (o1 4 (.mv z0) .done) .ret)))))))))
def Wz{f2}(hd:Gf false false P f=some (LG f1 f2))(h1:IU P f1)(h2:Ks P f2):Ih P f:=by
 intro d c dv cv L k h hroom;have h0:=h;obtain⟨b,T,bf,cp,cb,hf,s,r,bd,rfl,rfl,rfl,hg,hl1,hl2,hh,hfr⟩:=h;refine Fl hd (Aff Z) ?_;show xwp P _ _ _ _ _;(apply Cd;apply x_g;apply Av;apply Ab;rfl;apply An;apply Cd;apply x_g;apply Aw;apply Av;apply Ag;rfl);refine Di (A:=[_]) (B:=[_,_]) Z Z h1 ?_;(refine Be Z ?_;apply Cd;apply x_g;refine Av<|Ag Z<|Ab Z ?_);refine Di (A:=[_,_]) (B:=[_]) Z Z (h2 hg) ?_;cases hF:findF k c.fr with
 |none=>
  (refine AO Z<|AW Z Z Z Z<|Ag Z<|AU Z ?_;apply Cd;apply x_g;refine Aq<|A3 Z<|PC Z Z<|AV Z<|Er Z<|AE Z<|BJ ?_)
  have hr:DH c k=(c,240):=by unfold DH;rw[hF]
  rw[hr]
  exact BZ Z (Afa _) ⟨Z,Z,h0⟩
 |some i=>
  obtain⟨hi,hheld,hsec⟩:=F0 hF
  have hroom:=hroom i hF
  obtain⟨b1,T1,l1,c1,cs,q1,rfl,hcl,hcs,hle,⟨a,n,c',rfl,hb⟩,hset⟩:=Ai.at (by omega) hg hi
  cases q1
  have c2:=hcs 2 _ Z
  have hgd:c.fr.getD i fz=c.fr[i]:=JK hi
  by_cases hp:c.fr[i].pins=0
  ·(refine AO Z<|AW Z Z Z Z<|Ag Z<|AU Z ?_;apply Cd;apply x_g;refine Aq<|A3 Z<|CG Z Z<|AV Z<|Cn Z<|A3 Z<|Ap Z<|Am Z<|Ah Z (AG 1 Z (by assumption))<|Bu Z Z<|AV Z<|BM Z<|AH ?_;apply Cd;apply x_g;refine Av<|Ag Z<|BY Z<|Ap Z ?_)
   have hr:DH c k=({c with fr:=c.fr.set i fz,free:=c.free++[i]},0):=by unfold DH;rw[hF];simp only[hgd];rw[if_neg (by omega)]
   rw[hr]
   refine BA (cs:=[.bool false,vZ 0,vZ 0,.bool false,nV]) 1 Z Z Z Z hle Z ?_
   (apply An;apply Cd;apply AbM;refine Ag Z<|Ap Z<|Az Z Z Z<|AU Z ?_)
   refine XU (cap:=c.fr.length) (buf:=c.free.map fun i:Nat=>Value.int .i64 i) (v:=vZ i) 2 Z Z (by rw[Agu];exact hroom) Z ?_
   (apply An;apply x_g;refine AE Z<|BJ ?_)
   refine BZ Z (Afa _) ⟨Z,Z,?_⟩
   have:=Ca.mk (c:={c with fr:=c.fr.set i fz,free:=c.free++[i]}) (d:=d) (b:=b) (T:=T) (cb:=cb) (s:=s+1) (r:=r) (bd:=bd) (by simp) (hset _ fz Z ⟨none,0,0,Z,RSl.nil⟩) hl1 hl2 hh (fun j hj=>by
    rcases Afj.1 hj with hj|hj
    ·exact hfr j hj
    ·rw[Afz.1 hj];exact hi)
   simp only[Ahk,Ahv,List.map_nil] at this
   exact this
  ·(refine AO Z<|AW Z Z Z Z<|Ag Z<|AU Z ?_;apply Cd;apply x_g;refine Aq<|A3 Z<|CG Z Z<|AV Z<|Cn Z<|A3 Z<|Ap Z<|Am Z<|Ah Z (AG 1 Z (by assumption))<|Bu Z Z<|AV Z<|B2 Z<|AE Z<|BJ ?_)
   have hr:DH c k=(c,180):=by unfold DH;rw[hF];simp only[hgd];rw[if_pos (by omega)]
   rw[hr]
   exact BZ Z (Afa _) ⟨Z,Z,h0⟩
def Kt(P:Program)(f:FuncId):Prop:=∀{d}{c:CD}{dv cv L},Ca d c dv cv L→(∀f∈c.fr,f.sec≤8192)→
 Ao P f [cv] d L (Ret fun r d' L'=>L'=L∧D9 d' r (EI c))
def MN(a0:Nat):A9:=⟨29,[(.tmp 2)],(sR (o1 2 (.mv nS) .done) (.seq (sR (om 6 0<|oc 7 a0 [6] .done) (.cond 7 (sR (o1 2 (.mv nS) .done) .ret) .skip)) (sR (o1 3 (.mv nS) .done) (.seq (sR (om 8 0<|o1 9 (.nilc 8)<|oj 10 1 9<|ol 11 10<|oL 12 11<|o1 13 (.mv z0) .done) (.block 0 (.loop (sR (ob 14 .lss 13 12 .done) (.seq (.cond 14 .skip (.exit 0)) (.seq (.block 1 (sR (oI 15 5 11 13<|o1 16 (.ld (some 5) 15)<|o1 5 (.alo (.agg #[(.bool false),(vZ 0),(vZ 0),(.bool false),nV]))<|o0 (.st 5 5 16) .done) (sR (oj 17 0 5<|ol 18 17 .done) (.cond 18 (rG (om 19 3<|oj 20 1 5<|ol 21 20<|o1 22 (.bsl 1 1 [(vZ 0)] [(0,21)])<|o1 23 (.app 1 8 [(vZ 0)] 19 22)<|om 3 23 .done)) (rG (om 24 3<|o1 25 (.bsl 1 1 [(vZ 0)] [(0,(kZ (-1)))])<|o1 26 (.app 1 8 [(vZ 0)] 24 25)<|om 3 26 .done)))))) (rG (ob 27 .add 13 z1<|om 13 27 .done)))))))) (sR (om 28 3<|om 2 28 .done) .ret)))))⟩
def ZZ(hd:dec P f=some (MN f1))(h1:IU P f1):Kt P f:=by
 intro d c dv cv L h hsec;obtain⟨b,T,bf,cp,cb,hf,s,r,bd,rfl,rfl,rfl,hg,hl1,hl2,hh,hfr⟩:=h;refine Bj hd<|Br Z<|BG<|Ag Z<|Di (A:=[_]) (B:=[_,_]) Z Z h1<|GJ ⟨d,emp::[bx b T [pZ bd,.slice (some ⟨bf,0,none⟩) c.fr.length cp,.chan (some cb),vZ c.hand,vZ (wr c.hits),vZ (wr c.miss)],hf,sg cb (.chan c.fr.length (c.free.map fun i:Nat=>Value.int .i64 i).toArray false s r false)],Vs.emp,?_⟩;(refine Cn Z<|AH<|Br Z<|BG<|Ag Z<|Ap Z<|Am Z<|Ah Z (AG 1 Z Z)<|AA Z<|AU Z<|Aq ?_);have hlen:(EI c).length=c.fr.length:=by simp[EI]
 refine Cs (α:=Nat×Value×Aa) (fun x=>[(3,x.2.1),(11,.slice (some ⟨bf,0,none⟩) c.fr.length cp),(12,vZ c.fr.length),(13,vZ x.1)])
  (fun x d' L'=>d'=d∧x.1≤c.fr.length∧Ai 1 Bh d x.2.1 ((EI c).take x.1) x.2.2∧L'=x.2.2::[bx b T [pZ bd,.slice (some ⟨bf,0,none⟩) c.fr.length cp,.chan (some cb),vZ c.hand,vZ (wr c.hits),vZ (wr c.miss)],hf,sg cb (.chan c.fr.length (c.free.map fun i:Nat=>Value.int .i64 i).toArray false s r false)])
  (fun x=>c.fr.length - x.1) (0,nV,emp) ⟨Z,Z,Z,Z,trivial⟩ ⟨Z,by omega,Ai.nil,Z⟩ ?_
 rintro⟨i,v,hv⟩ ρ d' L' ⟨rfl,hi,hrow,rfl⟩;simp only at hi hrow⊢;by_cases e:i<c.fr.length
 ·obtain⟨b1,T1,l1,c1,cs,q1,rfl,hcl,hcs,hle,⟨a,n,c',rfl,hb⟩,hset⟩:=Ai.at (by omega) hg e;cases q1;have hsi:=hsec _ (Agb e);have htl:((EI c).take i).length=i:=by rw[Aft];omega
  have hnext:(EI c).take (i+1)=(EI c).take i++[if c.fr[i].held then(c.fr[i].sec:Int) else -1]:=by
   rw[Afw (by omega)];simp[EI]
  refine Ak<|Au Z Z<|By<|B2 Z<|AH<|Aw<|Aq<|Ak<|BT _ Z Z Z (by omega)<|KK _ 2 Z Z hcl hcs ?_;(apply B8;intro _ _);refine Ft 0 Z Z Z Z Z Z ?_;cases hh:c.fr[i].held with
  |true=>
   (refine Bo<|Az Z Z Z<|B7 Z<|Av<|AK<|Az Z Z Z ?_)
   refine DN Z Z (fun b3 T3=>?_)
   refine D4 (R:=Bh) 1 Z Z hrow Z (Ai.EL (x:=(c.fr[i].sec:Int)) Z ⟨Z,by omega,by omega⟩) D1 (by omega) (by rw[htl];simp;omega) (by rw[htl];simp;omega) (fun v' h' ho'=>?_)
   refine B1 d' (h'::[_,_,_]) (Vs.drop (Age _ _)) ?_
   (refine AK<|An<|Av<|A4 Z Z<|AU Z ?_)
   rw[hh] at hnext
   exact⟨(i+1,v',h'),by simp only;omega,⟨Z,Z,Z,Z,trivial⟩,Z,e,by simp only[hnext];exact ho',Z⟩
  |false=>
   (refine Bo<|Az Z Z Z<|Jq Z<|Av<|AK ?_)
   refine DN Z Z (fun b3 T3=>?_)
   refine D4 (R:=Bh) 1 Z Z hrow Z (Ai.EL (x:=(-1:Int)) Z ⟨Z,by omega,by omega⟩) D1 (by omega) (by rw[htl];simp;omega) (by rw[htl];simp;omega) (fun v' h' ho'=>?_)
   refine B1 d' (h'::[_,_,_]) (Vs.drop (Age _ _)) ?_
   (refine AK<|An<|Av<|A4 Z Z<|AU Z ?_)
   rw[hh] at hnext
   exact⟨(i+1,v',h'),by simp only;omega,⟨Z,Z,Z,Z,trivial⟩,Z,e,by simp only[hnext];exact ho',Z⟩
 ·(refine Ak<|Au Z Z<|By<|BM Z<|Bl<|Ak<|AK<|AK<|BJ ?_);rw[Agt (by omega)] at hrow;exact A6 [v] ⟨Z,trivial⟩ Vs.freeze ⟨Z,Ai.rsl (R:=Bh) hrow Ck (by omega) (Le.Ar _ _) (Le.Bc _ _)⟩
def YV(P:Program)(f:FuncId):Prop:=∀{d}{c:CD}{dv cv L},Ca d c dv cv L→Ea P f [cv] d L (vZ (wr c.hits))
def UO(P:Program)(f:FuncId):Prop:=∀{d}{c:CD}{dv cv L},Ca d c dv cv L→Ea P f [cv] d L (vZ (wr c.miss))
def KU(P:Program)(f:FuncId):Prop:=∀{d}{D:Ff}{dv LD}{n:Nat},Dv d D dv LD→1≤D.syn.length→1≤n→n≤64→
 Ao P f [dv,vZ n] d LD (Ret fun r d' L'=>d'=d∧∃cv LC,r=.tuple #[cv,vZ 0]∧L'=LC++LD∧Ca d ⟨Afu n fz,Agf n,0,0,0⟩ dv cv LC)
def Vd(a0:Nat):Hn:=(.mk 37 [(.tmp 4),(.tmp 5)] (.seq (.g (rG (o1 4 (.mv (.const (.pointer none)))<|o1 5 (.mv z0) .done))) (.seq (.g (.block 0 (sR (om 9 0<|oc 10 a0 [9]<|ob 11 .eql 10 z0<|om 8 11 .done) (.cond 8 (sR (o1 4 (.mv (.const (.pointer none)))<|o1 5 (.mv z1) .done) .ret) (sR (om 13 1<|ob 14 .lss 13 z1<|om 15 14<|gF 16 15 1<|oF 17 15 (.bin .gtr 16 (kZ 64))<|o1 18 (.pick 15 (.const (.bool true)) 17)<|om 12 18 .done) (.cond 12 (sR (o1 4 (.mv (.const (.pointer none)))<|o1 5 (.mv z2) .done) .ret) .skip)))))) (.seq (.g (.reg true (pm 19 0<|pm 20 1<|pm 22 1 (.alt ⟨(some 21),none,(.mks 5 56 [(.bool false),(vZ 0),(vZ 0),(.bool false),nV] 20 20)⟩ (o1 23 (.mop (.mkc 8 22)) (p1 24 (.bld [(0,1),(1,1),(2,1),(3,1),(4,1),(5,1)] [(.pointer none),nV,(.chan none),(vZ 0),(vZ 0),(vZ 0)] [(0,19),(1,21),(2,23)]) (o1 25 (.box 24) (.bar (pm 6 25 .done))))) (o1 23 (.mop (.mkc 8 22)) (o1 21 (.mks 5 56 [(.bool false),(vZ 0),(vZ 0),(.bool false),nV] 20 20) (p1 24 (.bld [(0,1),(1,1),(2,1),(3,1),(4,1),(5,1)] [(.pointer none),nV,(.chan none),(vZ 0),(vZ 0),(vZ 0)] [(0,19),(1,21),(2,23)]) (o1 25 (.box 24) (.bar (pm 6 25 .done)))))))))) (.seq (.seq (.g (rG (om 26 1<|o1 27 (.mv z0) .done))) (.block 1 (.loop (.seq (.g (rG (ob 28 .lss 27 26 .done))) (.seq (.g (.cond 28 .skip (.exit 1))) (.seq (.block 2 (.seq (.g (rG (om 29 27<|om 7 29 .done))) (.snd (om 30 6<|o1 31 (.nilc 30)<|oj 32 2 31<|ol 33 32<|om 34 7 .done) none 33 34 .done))) (.g (rG (ob 35 .add 27 z1<|om 27 35 .done))))))))) (.g (sR (om 36 6<|om 4 36<|o1 5 (.mv z0) .done) .ret)))))))
def AcI(hd:Gf false false P f=some (Vd f1))(h1:I0 P f1):KU P f:=by
 intro d D dv LD n hD hs hn1 hn2;have hD0:=hD;obtain⟨bd, -, -, -, -, -, -,rfl, -⟩:=hD;refine Fl hd (Aff Z) ?_;show xwp P _ _ _ _ _;(apply Cd;apply x_g;apply Av;apply Ag;rfl;apply Ab;rfl;apply An;apply Cd;apply x_g;apply Aq;apply Aw;apply Av;apply Ag;rfl);refine NB (A:=LD) (B:=[]) (by rw[Agj]) Z (h1 hD0) ?_;(refine AI Z Z<|AV Z<|BM Z<|AE Z<|Au Z Z<|Ad Z<|Bs Z<|Ac Z<|Ab Z<|Ac Z<|Bu Z Z<|Aj Z Z<|AV Z<|BM Z<|AH ?_;apply Cd;apply x_g);refine Aek (fun ρ d' L'=>d'=d∧∃b T bf Tf cb,BN ρ [(1,vZ n),(6,pZ b)]∧
  L'=[bx b T [pZ bd,.slice (some ⟨bf,0,none⟩) n n,.chan (some cb),vZ 0,vZ 0,vZ 0],bx bf Tf (BD [.bool false,vZ 0,vZ 0,.bool false,nV] (n*5)),sg cb (.chan n #[] false 0 0 false)]++LD) ?_ ?_
 ·refine BE [] _ Z<|Ag Z<|Ab Z<|Ab Z<|Fw ?_ ?_
  ·refine Iv Z Z (Afe n) (by omega) (by omega) (fun bf Tf=>?_);refine AbA Z (by omega) (by omega) (fun cb=>?_);refine BY (cs:=[pZ bd,.slice (some ⟨bf,0,none⟩) n n,.chan (some cb),vZ 0,vZ 0,vZ 0]) Z<|CF Z (fun b T=>?_);refine Cw<|Ag Z<|GJ ⟨d,_::_::_::LD,Vs.perm ((List.Perm.swap _ _ LD).cons _),Z,b,T,bf,Tf,cb,⟨Z,Z,trivial⟩,Z⟩
  ·refine AbA Z (by omega) (by omega) (fun cb=>?_);refine Iv Z Z (Afe n) (by omega) (by omega) (fun bf Tf=>?_);refine BY (cs:=[pZ bd,.slice (some ⟨bf,0,none⟩) n n,.chan (some cb),vZ 0,vZ 0,vZ 0]) Z<|CF Z (fun b T=>?_);refine Cw<|Ag Z<|GJ ⟨d,[_,_,_]++LD,Vs.refl _ _,Z,b,T,bf,Tf,cb,⟨Z,Z,trivial⟩,Z⟩
 ·rintro ρ d' L' ⟨rfl,b,T,bf,Tf,cb,hsl,rfl⟩;refine QK _ hsl ?_;(apply Cd;apply Cd;apply x_g;apply Av;apply Ab;rfl;apply Ab;rfl;apply An;apply He);refine Q3 (α:=Nat) (fun i=>[(6,pZ b),(26,vZ n),(27,vZ i)])
   (fun i d2 L'=>d2=d'∧i≤n∧L'=[bx b T [pZ bd,.slice (some ⟨bf,0,none⟩) n n,.chan (some cb),vZ 0,vZ 0,vZ 0],bx bf Tf (BD [.bool false,vZ 0,vZ 0,.bool false,nV] (n*5)),sg cb (.chan n ((Agf i).map fun i:Nat=>Value.int .i64 i).toArray false i 0 false)]++LD)
   (fun i=>n - i) 0 ⟨Z,Z,Z,trivial⟩ ⟨Z,by omega,Z⟩ ?_
  rintro i ρ d2 L2 ⟨rfl,hi,rfl⟩;by_cases e:i<n
  ·(apply Cd;apply x_g;apply Av;apply Au;rfl;rfl;apply An;apply Cd;apply x_g;refine EO Z (by omega) ?_;apply AH;apply Cd;apply He;apply Cd;apply x_g;apply Av;apply Ab;rfl;apply Ab;rfl;apply An;apply AbM;apply Ag;rfl;apply Ap;rfl;apply Am;rfl;apply Ah;rfl;exact AG 0 Z Z;apply Ab;rfl;apply An);refine XU (cap:=n) (buf:=(Agf i).map fun i:Nat=>Value.int .i64 i) (v:=vZ i) 2 Z Z (by simpa using e) Z ?_;(apply An;apply x_g;refine Av<|A4 Z Z<|AU Z ?_);refine⟨i+1,by omega,⟨Z,Z,Z,trivial⟩,Z,e,?_⟩
   rw[List.range_succ,Ahk];rfl
  ·(apply Cd;apply x_g;apply Av;apply Au;rfl;rfl;apply An;apply Cd;apply x_g;refine Fs Z (by omega) ?_;apply Bl;apply x_g;apply Aw;apply Av;apply Ag;rfl;apply Ag;rfl;apply Ab;rfl;apply An;apply DE);have ei:i=n:=by omega
   subst ei;refine CJ Z Z (Afa _) ⟨Z,_,_,Z,Z,?_⟩;have hw0:wr 0=0:=Z;have:=Ca.mk (c:=⟨Afu i fz,Agf i,0,0,0⟩) (d:=d2) (b:=b) (T:=T) (cb:=cb) (s:=i) (r:=0) (bd:=bd) (n:=i) (by simp) (Ai.zero (b:=bf) (T:=Tf) (R:=RFr) (x:=fz) Z (by omega) ⟨none,0,0,Z,RSl.nil⟩ (by omega)) hn1 hn2 hn1 (fun j hj=>by simpa using hj);exact this
end Go.Gk.Cch
end
section
namespace Go.Gk.Node
open Go Go.Gk
attribute [local irreducible] gwp gws
def ER{α}(R:Aa→List Value→α→Prop)(by_:Nat)(P:Program)(f:FuncId):Prop:=∀{d v}{xs:List α},RSl 1 R d v xs→xs.length*by_≤140737488355328→
 Ao P f [v] d [] (Ret fun r d' L'=>d'=d∧∃h,L'=[h]∧Ai 1 R d r xs h)
def I8:A9:=⟨8,[(.tmp 2)],(sR (o1 2 (.mv nS) .done) (.seq (sR (om 3 0<|o1 4 (.eqs false 3 nS) .done) (.cond 4 (sR (o1 2 (.mv nS) .done) .ret) .skip)) (sR (o1 5 (.bsl 0 1 [(.int .u8 0)] [])<|om 6 0<|o1 7 (.app 1 1 [(.int .u8 0)] 5 6)<|om 2 7 .done) .ret)))⟩
def Qh{P f}(hd:dec P f=some I8):ER Ax 1 P f:=by
 intro d v xs hv hb;have hv':=hv;have hxl:=RSl.BW hv;obtain⟨a,c,b,o,rfl,h2,h3,h4,h5,_⟩:=hv;refine Bj hd ?_;cases a with
 |none=>
  have:xs=[]:=Afl (by have:=h4 Z;omega)
  subst this
  apply Aw;apply Av
  refine B1 d [emp] Vs.emp ?_
  (refine Ae Z<|BG<|Ae Z<|PY Z Z<|B7 Z<|Br Z<|BJ ?_)
  exact BZ (L':=[emp]) Z (Afa _) ⟨Z,emp,Z,Ai.nil⟩
 |some a=>
  (refine Br Z<|BG<|Ae Z<|Nh Z Z<|Be Z<|Ak ?_)
  refine Dq (cs:=[]) (by omega) Z (fun b8 T8=>?_)
  (apply Ae;rfl)
  refine FR 0 Z Z (Ai.J8 (R:=Ax) (sz:=1)) Z (RSl.src (R:=Ax) (xs:=xs) hv' Fx (by omega) _) (by omega) (by simp;omega) (by simp;omega) (fun v5 h5 hrow5=>?_)
  (refine AK<|BJ ?_)
  exact BZ (L':=[h5]) Z (Afa _) ⟨Z,h5,Z,hrow5⟩
def J6:A9:=⟨8,[(.tmp 2)],(sR (o1 2 (.mv nS) .done) (.seq (sR (om 3 0<|o1 4 (.eqs false 3 nS) .done) (.cond 4 (sR (o1 2 (.mv nS) .done) .ret) .skip)) (sR (o1 5 (.bsl 0 1 [(vZ 0)] [])<|om 6 0<|o1 7 (.app 1 8 [(vZ 0)] 5 6)<|om 2 7 .done) .ret)))⟩
def Ss{P f}(hd:dec P f=some J6):ER Bh 8 P f:=by
 intro d v xs hv hb;have hv':=hv;have hxl:=RSl.BW hv;obtain⟨a,c,b,o,rfl,h2,h3,h4,h5,_⟩:=hv;refine Bj hd ?_;cases a with
 |none=>
  have:xs=[]:=Afl (by have:=h4 Z;omega)
  subst this
  apply Aw;apply Av
  refine B1 d [emp] Vs.emp ?_
  (refine Ae Z<|BG<|Ae Z<|PY Z Z<|B7 Z<|Br Z<|BJ ?_)
  exact BZ (L':=[emp]) Z (Afa _) ⟨Z,emp,Z,Ai.nil⟩
 |some a=>
  (refine Br Z<|BG<|Ae Z<|Nh Z Z<|Be Z<|Ak ?_)
  refine Dq (cs:=[]) (by omega) Z (fun b8 T8=>?_)
  (apply Ae;rfl)
  refine FR 0 Z Z (Ai.J8 (R:=Bh) (sz:=1)) Z (RSl.src (R:=Bh) (xs:=xs) hv' D1 (by omega) _) (by omega) (by simp;omega) (by simp;omega) (fun v5 h5 hrow5=>?_)
  (refine AK<|BJ ?_)
  exact BZ (L':=[h5]) Z (Afa _) ⟨Z,h5,Z,hrow5⟩
end Go.Gk.Node
end
