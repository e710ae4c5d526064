/-
  Our own texts, one behind the other: GkWD GkWE GkTrH GkWF GkWG GkTr9 GkTrL GkTrM GkTrN GkTY GkWH GkTrI GkTrJ GkTrO GkWI GkWJ GkX0 GkXK GkX1.
-/
import Derived.Test.YteekdjalpmjdhaaGreatPcF
set_option linter.defProp false
set_option linter.unusedVariables false
set_option linter.unusedSimpArgs false
open List.Sublist renaming refl→Afa
open Bool renaming and_eq_true→Afb,false_eq_true→Afh,true_and→Ais
open List renaming getElem?_eq_getElem→Afc,getD_eq_getElem?_getD→Afd,append_assoc→Afg,perm_append_comm→Afi,mem_append→Afj,length_append→Afk,eq_nil_of_length_eq_zero→Afl,mem_cons_self→Afn,length_cons→Afq,mem_cons_of_mem→Afr,length_take→Aft,mem_cons→Afv,mem_singleton→Afz,mem_append_left→Aga,getElem_mem→Agb,mem_append_right→Agc,length_set→Agg,nil_append→Agh,perm_middle→Agi,append_nil→Agj,perm_iff_count→Ags,getElem_of_mem→Ahe,count_append→Ahf,map_append→Ahk,count_cons→Ahl,mem_map_of_mem→Ahm,length_nil→Ahn,length_singleton→Aie,nodup_append→Aih,exists_cons_of_ne_nil→Aii,nodup_cons→Aim,take_append_drop→Ait,mem_map→Ajc,eraseIdx_sublist→Ajf,count_nil→Ajj,filter_eq_nil_iff→Ajt,filter_append→Ajw
open Nat renaming le_refl→Afe,le_of_ble_eq_true→Aff,zero_le→Agd,succ_ne_zero→Ahi,mul_le_mul_left→Akl
open List.Perm renaming cons→Afm,swap→Afx,refl→Agq,append_left→Ajd
section
namespace Go.Gk.Tre
open Go Go.Gk Go.Gk.Dev Go.Gk.Cch Go.Gk.Pgr Go.Gk.Chn Go.Gk.Node
variable{s t:PD}{R:RT}{n:AB}{l l1:List KV}{Q:List Int}{h z:Nat}{lf:Bool}{key:List UInt8}
def Nd(s:PD)(R:RT)(lf:Bool)(n:AB)(l:List KV)(Q:List Int):Prop:=n.leaf=lf∧if lf=true then Lf s n.keys n.vals l Q else Kd R n.keys n.kids l Q
def Tr(s:PD):Nat→RT
 |0,_,_,_=>False
 |h+1,k,l,P=>∃n Q,At s k n∧n.keys≠[]∧P=k::Q∧Nd s (Tr s h) (decide (h=0)) n l Q
def Nd.leaf(h:Nd s R true n l Q):n.leaf=true∧Lf s n.keys n.vals l Q:=by
 obtain⟨h1,h2⟩:=h;rw[if_pos Z] at h2;exact⟨h1,h2⟩
def Nd.inner(h:Nd s R false n l Q):n.leaf=false∧Kd R n.keys n.kids l Q:=by
 obtain⟨h1,h2⟩:=h;rw[if_neg (by decide)] at h2;exact⟨h1,h2⟩
def Nd.mkl(h1:n.leaf=true)(h2:Lf s n.keys n.vals l Q):Nd s R true n l Q:=⟨h1,by rw[if_pos Z];exact h2⟩
def Nd.mki(h1:n.leaf=false)(h2:Kd R n.keys n.kids l Q):Nd s R false n l Q:=⟨h1,by rw[if_neg (by decide)];exact h2⟩
def Kd.all{S:Int→Prop}(hR:∀c l P,R c l P→∀p∈P,S p):∀{ks}{cs:List Int}{l}{P:List Int},Kd R ks cs l P→∀p∈P,S p
 |[],[c],l,P,h=>hR c l P h
 |[],[],l,P,h=>h.elim
 |[],_::_::_,l,P,h=>h.elim
 |_::_,[],l,P,h=>h.elim
 |k::ks,c::cs,l,P,h=>by
  obtain⟨l1,l2,P1,P2,rfl,rfl,h1,h2,h3,h4⟩:=Kd.cons.1 h;intro p hp;exact(Afj.1 hp).elim (hR _ _ _ h1 p) (Kd.all hR h4 p)
def Tr.live:∀{h:Nat}{k:Int}{l}{P:List Int},Tr s h k l P→∀p∈P,BB s p
 |0,k,l,P,h=>h.elim
 |h+1,k,l,P,⟨n,Q,h1,h2,e,h3⟩=>by
  subst e;intro p hp;rcases Afv.1 hp with rfl|hp
  ·exact h1.liv
  ·by_cases e:h=0
   ·rw[decide_eq_true e] at h3;exact h3.leaf.2.live p hp
   ·rw[decide_eq_false e] at h3;exact Kd.all (fun c l P q=>Tr.live q) h3.inner.2 p hp
def Nd.live(h3:Nd s (Tr s h) lf n l Q):∀p∈Q,BB s p:=by
 cases lf with
 |true=>exact h3.leaf.2.live
 |false=>exact Kd.all (fun c l P q=>Tr.live q) h3.inner.2
def Tr.ne:∀{h:Nat}{k:Int}{l}{P:List Int},Tr s h k l P→l≠[]
 |0,k,l,P,h=>h.elim
 |h+1,k,l,P,⟨n,Q,h1,h2,e,h3⟩=>by
  by_cases e:h=0
  ·rw[decide_eq_true e] at h3;have:=h3.leaf.2.len.2;intro q;rw[q] at this;exact h2 (Afl this.symm)
  ·rw[decide_eq_false e] at h3;exact(Kd.btw (fun c l P q=>Tr.ne q) h3.inner.2).1
def Gd(s t:PD)(P:List Int):Prop:=∀p∈P,t.kind p=s.kind p∧t.bytes p=s.bytes p
def Nd.mono{R':RT}(h:Nd s R lf n l Q)(hs:Gd s t Q)(hR:∀c l P,(∀p∈P,p∈Q)→R c l P→R' c l P):Nd t R' lf n l Q:=by
 cases lf with
 |true=>exact .mkl h.leaf.1 (h.leaf.2.stay hs)
 |false=>exact .mki h.inner.1 (h.inner.2.mono hR)
def Tr.stay:∀{h:Nat}{k:Int}{l}{P:List Int},Tr s h k l P→Gd s t P→Tr t h k l P
 |0,k,l,P,h,_=>h.elim
 |h+1,k,l,P,⟨n,Q,h1,h2,e,h3⟩,hs=>by
  subst e;exact⟨n,Q,h1.stay (hs k (Afn ..)),h2,Z,h3.mono (fun p hp=>hs p (Afr _ hp)) (fun c l P hP q=>q.stay (fun p hp=>hs p (Afr _ (hP p hp))))⟩
def Nd.stay(h3:Nd s (Tr s h) lf n l Q)(hs:Gd s t Q):Nd t (Tr t h) lf n l Q:=
 h3.mono hs (fun _ _ _ hP q=>q.stay (fun p hp=>hs p (hP p hp)))
def KL.stay{ks}{cs:List Int}(h3:KL (Tr s h) ks cs l Q)(hs:Gd s t Q):KL (Tr t h) ks cs l Q:=
 h3.mono (fun _ _ _ hP q=>q.stay (fun p hp=>hs p (hP p hp)))
def KR.stay{ks}{cs:List Int}(h3:KR (Tr s h) ks cs l Q)(hs:Gd s t Q):KR (Tr t h) ks cs l Q:=
 h3.mono (fun _ _ _ hP q=>q.stay (fun p hp=>hs p (hP p hp)))
def Mv.same{A B:List Int}{c:Nat}(h:Mv s t A B c)(h1:∀p∈Q,BB s p)(h2:∀p∈Q,p∉A):Gd s t Q:=fun p hp=>h.st p (h1 p hp) (h2 p hp)
def Nd.join(hR:∀c l P,R c l P→l≠[]){a b:AB}{l2}{Q1 Q2:List Int}(ha:Nd s R lf a l1 Q1)(hb:Nd s R lf b l2 Q2)(sa:Bd a=true)(sb:Bd b=true)
  (h1:∀x∈l1,Lt x.1 key) (h2:∀x∈l2,¬Lt x.1 key) (hk:1≤key.length∧key.length≤64):
  Nd s R lf (CM a b key) (l1++l2) (Q1++Q2)∧Bd (CM a b key)=true∧Bf (CM a b key)+2≤Bf a+Bf b+(if lf=true then 0 else 65)∧(CM a b key).leaf=lf∧
  ((CM a b key).keys=[]→lf=true∧a.keys=[]∧b.keys=[]):=by
 cases lf with
 |true=>
  obtain⟨a1,a2⟩:=ha.leaf
  obtain⟨b1,b2⟩:=hb.leaf
  have ea:=D2 sa a1
  have eb:=D2 sb b1
  have ka:=a2.keys
  have kb:=b2.keys
  have e:CM a b key=⟨true,a.keys++b.keys,a.vals++b.vals,[]⟩:=by unfold CM;rw[if_pos a1]
  rw[ea] at sa
  rw[eb] at sb
  obtain⟨s1,s2,s3⟩:=C2.1 sa
  obtain⟨t1,t2,t3⟩:=C2.1 sb
  have hso:Bd ⟨true,a.keys++b.keys,a.vals++b.vals,[]⟩=true:=by
   refine C2.2 ⟨KO.app.2 ⟨s1,t1,fun x hx y hy=>?_⟩,by simp[s2,t2],fun v hv=>(Afj.1 hv).elim (s3 v) (t3 v)⟩;rw[ka] at hx;rw[kb] at hy;obtain⟨x',hx',rfl⟩:=Ajc.1 hx;obtain⟨y',hy',rfl⟩:=Ajc.1 hy;exact HY (h1 x' hx') (h2 y' hy')
  rw[e]
  refine⟨.mkl Z (a2.join b2),hso,?_,Z,fun q=>⟨Z,List.append_eq_nil_iff.1 q⟩⟩
  have za:=(congrArg Bf ea).trans (size_leaf s2)
  have zb:=(congrArg Bf eb).trans (size_leaf t2)
  rw[za,zb,size_leaf (by simp[s2,t2]),Ef,Ef,Afk,if_pos Z]
  omega
 |false=>
  obtain⟨a1,a2⟩:=ha.inner
  obtain⟨b1,b2⟩:=hb.inner
  have ea:=ED sa a1
  have eb:=ED sb b1
  have e:CM a b key=⟨false,a.keys++[key]++b.keys,[],a.kids++b.kids⟩:=by unfold CM;rw[if_neg (by rw[a1];decide)]
  have ka:=(Kd.btw hR a2).2
  have kb:=(Kd.btw hR b2).2
  rw[ea] at sa
  rw[eb] at sb
  obtain⟨s1,s2,s3⟩:=CA.1 sa
  obtain⟨t1,t2,t3⟩:=CA.1 sb
  have ka':∀k∈a.keys,Lt k key:=fun k q=>by
   obtain⟨-,x,x1,x2⟩:=ka k q;exact K2 x2 (h1 x x1)
  have kb':∀k∈b.keys,Lt key k:=fun k q=>by
   obtain⟨⟨x,x1,x2⟩, -⟩:=kb k q;exact K2 (h2 x x1) x2
  have hso:Bd ⟨false,a.keys++[key]++b.keys,[],a.kids++b.kids⟩=true:=by
   refine CA.2 ⟨?_,by simp[s2,t2];omega,fun v hv=>(Afj.1 hv).elim (s3 v) (t3 v)⟩;rw[Afg];refine KO.app.2 ⟨s1,KO.cons.2 ⟨hk,t1,kb'⟩,fun x hx y hy=>?_⟩;rcases Afv.1 hy with rfl|hy
   ·exact ka' x hx
   ·exact F2 (ka' x hx) (kb' y hy)
  rw[e]
  refine⟨.mki Z ?_,hso,?_,Z,fun q=>by simp at q⟩
  ·show Kd R (a.keys++[key]++b.keys) (a.kids++b.kids) _ _
   rw[Afg]
   exact a2.join b2 ka' h1 h2
  ·have za:=(congrArg Bf ea).trans size_inner
   have zb:=(congrArg Bf eb).trans size_inner
   rw[za,zb,size_inner,Ef,Ef,Afk,Afk,Afk,if_neg (by decide)]
   simp only[Ds,Aie]
   omega
def U4(hc:DP n=true):(Ba n).leaf=n.leaf:=by
 unfold Ba;rw[if_pos hc];cases h:n.leaf<;>simp
def Vc(hc:DP n=true):(Bi n).leaf=n.leaf:=by
 unfold Bi;rw[if_pos hc];cases h:n.leaf<;>simp
def Xf(hc:DP n=true):B4 n∈n.keys:=by
 obtain⟨h1, -⟩:=OU n;unfold B4;rw[if_pos hc];simp only[DP,Afb,decide_eq_true_eq] at hc;have hm:=hc.2;have:(if n.leaf=true then atD n else at2 n - 1)<n.keys.length:=by
  cases hl:n.leaf with
  |true=>rw[hl] at hm;simp only[if_true] at hm⊢;omega
  |false=>rw[hl] at hm;simp only[Afh,if_false,at2] at hm⊢;omega
 rw[Afd,Afc this];exact Agb this
def Oi(h:Bt n=true):Bd n=true:=by simp only[Bt,Afb] at h;exact h.1
def Nd.split(hn:Nd s R lf n l Q)(hs:Bd n=true)(hc:DP n=true)(hH:PL n):
  ∃l1 l2 Q1 Q2,l=l1++l2∧Q=Q1++Q2∧Nd s R lf (Ba n) l1 Q1∧Nd s R lf (Bi n) l2 Q2∧(∀x∈l1,Lt x.1 (B4 n))∧(∀x∈l2,¬Lt x.1 (B4 n))∧1≤(B4 n).length∧(B4 n).length≤64:=by
 have hkm:=Xf hc
 have eL:=U4 hc
 have eR:=Vc hc
 have sL:=Oi hH.r1
 have sR:=Oi hH.r2
 have hall:=hH.all
 have hlo:∀k∈(Ba n).keys,Lt k (B4 n):=fun k hk=>by
  obtain⟨i,hi,rfl⟩:=Ahe hk;exact hH.lo i hi
 have hhi:∀k∈(Bi n).keys,¬Lt k (B4 n):=fun k hk=>by
  obtain⟨i,hi,rfl⟩:=Ahe hk;rcases hH.hi i hi with q|⟨q,_⟩
  ·exact K4 q
  ·rw[q];exact Jp
 cases lf with
 |true=>
  obtain⟨n1,n2⟩:=hn.leaf
  have ho:1≤(B4 n).length∧(B4 n).length≤64:=by
   rw[D2 hs n1] at hs;exact(C2.1 hs).1.1 _ hkm
  rw[n1] at eL eR
  unfold CM at hall
  rw[if_pos eL] at hall
  have k1:(Ba n).keys++(Bi n).keys=n.keys:=congrArg AB.keys hall
  have k2:(Ba n).vals++(Bi n).vals=n.vals:=congrArg AB.vals hall
  rw[←k1,←k2] at n2
  have hL:(Ba n).vals.length=(Ba n).keys.length:=by
   rw[D2 sL eL] at sL;exact(C2.1 sL).2.1
  obtain⟨l1,l2,Q1,Q2,rfl,rfl,g1,g2⟩:=n2.split hL
  refine⟨l1,l2,Q1,Q2,Z,Z,.mkl eL g1,.mkl eR g2,fun x hx=>hlo _ ?_,fun x hx=>hhi _ ?_,ho⟩
  ·rw[g1.keys];exact Ahm hx
  ·rw[g2.keys];exact Ahm hx
 |false=>
  obtain⟨n1,n2⟩:=hn.inner
  have ho:1≤(B4 n).length∧(B4 n).length≤64:=by
   rw[ED hs n1] at hs;exact(CA.1 hs).1.1 _ hkm
  rw[n1] at eL eR
  unfold CM at hall
  rw[if_neg (by rw[eL];decide)] at hall
  have k1:(Ba n).keys++[B4 n]++(Bi n).keys=n.keys:=congrArg AB.keys hall
  have k2:(Ba n).kids++(Bi n).kids=n.kids:=congrArg AB.kids hall
  rw[←k1,←k2,Afg] at n2
  have hL:(Ba n).kids.length=(Ba n).keys.length+1:=by
   rw[ED sL eL] at sL;exact(CA.1 sL).2.1
  obtain⟨l1,l2,Q1,Q2,rfl,rfl,g1,g2,g3,g4⟩:=Kd.split n2 hL hlo
  exact⟨l1,l2,Q1,Q2,Z,Z,.mki eL g1,.mki eR g2,g3,g4,ho⟩
def Out(s:PD)(h z:Nat)(m:MdD)(l:List KV)(P:List Int):Prop:=
 (m.other<0∧∃n Q,At s m.page n∧m.size=Bf n∧P=m.page::Q∧z≤n.keys.length∧Nd s (Tr s h) (decide (h=0)) n l Q)∨
 (0≤m.other∧m.size=256∧∃l1 l2 P1 P2,l=l1++l2∧P=P1++P2∧Tr s (h+1) m.page l1 P1∧Tr s (h+1) m.other l2 P2∧(∀x∈l1,Lt x.1 m.key)∧(∀x∈l2,¬Lt x.1 m.key)∧1≤m.key.length∧m.key.length≤64)
def Out.stay{m:MdD}{P:List Int}(o:Out s h z m l P)(hs:Gd s t P):Out t h z m l P:=by
 rcases o with ⟨h1,n,Q,h2,h3,rfl,h4,h5⟩|⟨h1,h2,l1,l2,P1,P2,rfl,rfl,h3,h4,h5⟩
 ·exact .inl ⟨h1,n,Q,h2.stay (hs _ (Afn ..)),h3,Z,h4,h5.stay (fun p hp=>hs p (Afr _ hp))⟩
 ·exact .inr ⟨h1,h2,l1,l2,P1,P2,Z,Z,h3.stay (fun p hp=>hs p (Aga _ hp)),h4.stay (fun p hp=>hs p (Agc _ hp)),h5⟩
def Out.live{m:MdD}{P:List Int}(o:Out s h z m l P):∀p∈P,BB s p:=by
 rcases o with ⟨h1,n,Q,h2,h3,rfl,h4,h5⟩|⟨h1,h2,l1,l2,P1,P2,rfl,rfl,h3,h4,h5⟩
 ·intro p hp;rcases Afv.1 hp with rfl|hp
  ·exact h2.liv
  ·exact h5.live p hp
 ·exact fun p hp=>(Afj.1 hp).elim (h3.live p) (h4.live p)
def Out.tr{m:MdD}{P:List Int}(o:Out s h z m l P)(h1:m.other<0)(hz:1≤z):Tr s (h+1) m.page l P:=by
 rcases o with ⟨h1,n,Q,h2,h3,rfl,h4,h5⟩|⟨h2,_⟩
 ·exact⟨n,Q,h2,fun e=>by rw[e] at h4;simp at h4;omega,Z,h5⟩
 ·omega
def FM{α}{l:List α}:l≠[]↔1≤l.length:=by cases l<;>simp
def Hd(hG:Pgr.Good s){k:Int}(hn:Nd s (Tr s h) (decide (h=0)) n l Q)(hs:Bd n=true)(hh:Bf n≤if n.leaf=true then 340 else 440)(hk:BB s k)(hz:z≤n.keys.length)
  (hnd:(k::Q).Nodup):
  ((Bp s k n).2.2=0∧∃P',Mv s (Bp s k n).1 (k::Q) P' 2∧Out (Bp s k n).1 h z (Bp s k n).2.1 l P')∨((Bp s k n).2.2=190∧s.free<2):=by
 obtain⟨hkQ,hQ⟩:=Aim.1 hnd
 have hl:=hn.live
 have hkq:∀p∈Q,p∉ [k]:=fun p hp q=>hkQ (Afz.1 q▸hp)
 rcases AbZ hG hs (fun hz=>Acf hh (ZE hs hz)) hk with ⟨h1,⟨p,e,h2,h3⟩|⟨hc,hH,p,q,e,h0,h2,h3,h4⟩⟩|h1
 ·refine .inl ⟨h1,p::Q,h2.frame hl hQ hkq,.inl ?_⟩
  rw[e]
  exact⟨(by show(-1:Int)<0;decide),n,Q,h3,Z,Z,hz,hn.stay (h2.same hl hkq)⟩
 ·obtain⟨l1,l2,Q1,Q2,rfl,rfl,g1,g2,g3,g4,g5⟩:=(hn.stay (h2.same hl hkq)).split hs hc hH
  refine .inl ⟨h1,(p::Q1)++(q::Q2),(h2.frame hl hQ hkq).perm (Agq _) ?_,.inr ?_⟩
  ·refine Ags.2 fun a=>?_
   simp only[Ahf,Ahl,Ajj];omega
  ·rw[e]
   exact⟨h0,Z,l1,l2,_,_,Z,Z,⟨_,Q1,h3,FM.2 hH.n1,Z,g1⟩,⟨_,Q2,h4,FM.2 hH.n2,Z,g2⟩,g3,g4,g5⟩
 ·exact .inr h1
section
section
variable {α:Type}
def Ky(l:List α){i:Nat}(h:i<l.length):∃a x b,l=a++[x]++b∧a.length=i:=⟨l.take i,l[i],l.drop (i+1),by simp,by simp;omega⟩
def FF{a b:List α}{x d:α}:(a++[x]++b).getD a.length d=x:=by simp[List.getD]
def Hk{a b:List α}{x y:α}:(a++[x]++b).set a.length y=a++[y]++b:=by simp
def JU{a b:List α}{x:α}:(a++[x]++b).eraseIdx a.length=a++b:=by simp[List.eraseIdx_append]
def Ox{a b:List α}{y:α}:Cv (a++b) a.length y=a++[y]++b:=by simp[Cv]
def Zp{a b:List α}{x y:α}:Cv (a++[x]++b) (a.length+1) y=a++[x,y]++b:=by
 have e:a.length+1=(a++[x]).length:=by simp
 unfold Cv;rw[e,List.take_left,List.drop_left];simp
end
def TB(hG:Pgr.Good t){k c:Int}{a b}{ca cb:List Int}{md:MdD}{m' l2}{P1 Pm P2:List Int}
  (hat:At t k ⟨false,a++b,[],ca++[c]++cb⟩) (ea:ca.length=a.length) (hne:a++b≠[]) (hl:KL (Tr t (h+1)) a ca l1 P1) (hr:KR (Tr t (h+1)) b cb l2 P2) (ho:Out t h 1 md m' Pm)
  (ba:∀k∈a,∀x∈m',¬Lt x.1 k) (bb:∀k∈b,∀x∈m',Lt x.1 k) (hnd:(k::(P1++Pm++P2)).Nodup):
  ((CS t k ⟨false,a++b,[],ca++[c]++cb⟩ a.length md).2.2=0∧∃P',Mv t (CS t k ⟨false,a++b,[],ca++[c]++cb⟩ a.length md).1 (k::(P1++Pm++P2)) P' 2∧
   Out (CS t k ⟨false,a++b,[],ca++[c]++cb⟩ a.length md).1 (h+1) 1 (CS t k ⟨false,a++b,[],ca++[c]++cb⟩ a.length md).2.1 (l1++m'++l2) P')∨
  ((CS t k ⟨false,a++b,[],ca++[c]++cb⟩ a.length md).2.2=190∧t.free<2):=by
 have hs:=CA.1 hat.sound
 obtain⟨hko,hlen,hrng⟩:=hs
 have hsz:=hat.size
 rw[size_inner] at hsz
 have hd:decide (h+1=0)=false:=decide_eq_false (Ahi _)
 have hkv:∀p∈P1++Pm++P2,BB t p:=fun p hp=>by
  rcases Afj.1 hp with hp|hp
  ·rcases Afj.1 hp with hp|hp
   ·rcases hl with ⟨_,_,_,e⟩|⟨_,_,_,e,_⟩
    ·rw[e] at hp;cases hp
    ·exact Kd.all (fun c l P q=>Tr.live q) e p hp
   ·exact ho.live p hp
  ·rcases hr with ⟨_,_,_,e⟩|⟨_,_,_,e,_⟩
   ·rw[e] at hp;cases hp
   ·exact Kd.all (fun c l P q=>Tr.live q) e p hp
 have hkr:∀p,BB t p→0≤p∧p≤8191:=fun p hp=>Ez hG hp
 have e0:(ca++[c]++cb).getD a.length 0=c:=by rw[←ea];exact FF
 have hz1:1≤(a++b).length:=FM.1 hne
 have hsz':Bf (⟨false,a++b,[],ca++[c]++cb⟩:AB)≤256:=hat.size
 unfold CS
 simp only[e0]
 by_cases h1:c=md.page∧md.other<0
 ·rw[if_pos h1]
  obtain⟨h1,h2⟩:=h1
  subst h1
  refine .inl ⟨Z,k::(P1++Pm++P2),?_,.inl ⟨(by show(-1:Int)<0;decide),_,P1++Pm++P2,hat,Z,Z,hz1,?_⟩⟩
  ·have:=(Mv.refl hG).frame (R:=k::(P1++Pm++P2)) (fun p hp=>(Afv.1 hp).elim (fun e=>e▸hat.liv) (hkv p)) hnd (fun p _ q=>by cases q)
   exact this.mono (by omega)
  ·rw[hd]
   refine .mki Z ?_
   have:=Kd.Kk (km:=[]) (cm:=[md.page]) hl (Kd.one.2 (ho.tr h2 (Afe _))) hr (by simpa using hko) ba bb
   simpa using this
 ·rw[if_neg h1]
  by_cases h2:0≤md.other
  ·rw[if_pos h2]
   rcases ho with ⟨q,_⟩|⟨_,_,m1,m2,Q1,Q2,rfl,rfl,g1,g2,g3,g4,g5,g6⟩
   ·omega
   ·have e1:Cv (a++b) a.length md.key=a++[md.key]++b:=Ox
    have e2:Cv ((ca++[c]++cb).set a.length md.page) (a.length+1) md.other=ca++[md.page,md.other]++cb:=by rw[←ea,Hk,Zp]
    simp only[e1,e2]
    obtain⟨x1,r1,f1⟩:=Aii g1.ne
    obtain⟨x2,r2,f2⟩:=Aii g2.ne
    obtain⟨ko1,ko2,ko3⟩:=KO.app.1 hko
    have ha':∀k∈a,Lt k md.key:=fun p hp=>K2 (ba p hp x1 (by simp[f1])) (g3 x1 (by simp[f1]))
    have hb':∀k∈b,Lt md.key k:=fun p hp=>K2 (g4 x2 (by simp[f2])) (bb p hp x2 (by simp[f2]))
    have hko':KO (a++[md.key]++b):=by
     rw[Afg];refine KO.app.2 ⟨ko1,KO.cons.2 ⟨⟨g5,g6⟩,ko2,hb'⟩,fun x hx y hy=>?_⟩;rcases Afv.1 hy with rfl|hy
     ·exact ha' x hx
     ·exact ko3 x hx y hy
    obtain⟨n1,n1Q,n1a,_,n1e,_⟩:=id g1
    obtain⟨n2,n2Q,n2a,_,n2e,_⟩:=id g2
    have hso:Bd ⟨false,a++[md.key]++b,[],ca++[md.page,md.other]++cb⟩=true:=by
     refine CA.2 ⟨hko',?_,fun p hp=>?_⟩
     ·simp only[Afk,Afq,Ahn] at hlen⊢;omega
     ·rcases Afj.1 hp with hp|hp
      ·rcases Afj.1 hp with hp|hp
       ·exact hrng p (by simp[hp])
       ·rcases Afv.1 hp with rfl|hp
        ·exact hkr _ n1a.liv
        ·rw[Afz.1 hp];exact hkr _ n2a.liv
      ·exact hrng p (by simp[hp])
    refine Hd hG (h:=h+1) (z:=1) ?_ hso ?_ hat.liv ?_ hnd
    ·rw[hd]
     exact .mki Z (Kd.Kk (km:=[md.key]) (cm:=[md.page,md.other]) hl (Kd.cons.2 ⟨m1,m2,Q1,Q2,Z,Z,g1,g3,g4,Kd.one.2 g2⟩) hr hko' ba bb)
    ·simp only[Afh,if_false]
     rw[size_inner]
     simp only[Afk,Afq,Ahn,Ef,Ds] at hsz⊢
     omega
    ·simp;omega
  ·rw[if_neg h2]
   have e2:(ca++[c]++cb).set a.length md.page=ca++[md.page]++cb:=by rw[←ea,Hk]
   simp only[e2]
   have htr:=ho.tr (by omega) (Afe _)
   obtain⟨n1,n1Q,n1a,_,n1e,_⟩:=id htr
   have hso:Bd ⟨false,a++b,[],ca++[md.page]++cb⟩=true:=by
    refine CA.2 ⟨hko,?_,fun p hp=>?_⟩
    ·simp only[Afk,Afq,Ahn] at hlen⊢;omega
    ·rcases Afj.1 hp with hp|hp
     ·rcases Afj.1 hp with hp|hp
      ·exact hrng p (by simp[hp])
      ·rw[Afz.1 hp];exact hkr _ n1a.liv
     ·exact hrng p (by simp[hp])
   refine Hd hG (h:=h+1) (z:=1) ?_ hso ?_ hat.liv hz1 hnd
   ·rw[hd]
    refine .mki Z ?_
    have:=Kd.Kk (km:=[]) (cm:=[md.page]) hl (Kd.one.2 htr) hr (by simpa using hko) ba bb
    simpa using this
   ·simp only[Afh,if_false]
    rw[size_inner]
    simp only[Afk,Afq,Ahn] at hsz⊢
    omega
def KL.live{ks}{cs:List Int}(hl:KL (Tr s h) ks cs l Q):∀p∈Q,BB s p:=by
 rcases hl with ⟨_,_,_,e⟩|⟨_,_,_,e,_⟩
 ·rw[e];exact fun p hp=>by cases hp
 ·exact Kd.all (fun c l P q=>Tr.live q) e
def KR.live{ks}{cs:List Int}(hl:KR (Tr s h) ks cs l Q):∀p∈Q,BB s p:=by
 rcases hl with ⟨_,_,_,e⟩|⟨_,_,_,e,_⟩
 ·rw[e];exact fun p hp=>by cases hp
 ·exact Kd.all (fun c l P q=>Tr.live q) e
def QP{a b vs}(h:Lf s (a++key::b) vs l Q):
  ∃va c vb l1 v0 l2 P1 Pv P2,vs=va++[c]++vb∧va.length=a.length∧l=l1++[(key,v0)]++l2∧Q=P1++Pv++P2∧Lf s a va l1 P1∧Ce s c v0 Pv∧Lf s b vb l2 P2:=by
 have hl:=h.len.1
 obtain⟨va,c,vb,rfl,e⟩:=Ky vs (i:=a.length) (by rw[hl];simp)
 rw[Afg] at h
 obtain⟨l1,l',P1,P',rfl,rfl,h1,h2⟩:=h.split e
 obtain⟨l0,l2,Pv,P2,rfl,rfl,h3,h4⟩:=Lf.split (ks:=[key]) (vs:=[c]) h2 Z
 obtain⟨v0,rfl,h5⟩:=h3.Adr
 exact⟨va,c,vb,l1,v0,l2,P1,Pv,P2,Z,e,by simp,by simp,h1,h5,h4⟩
def QI{a b vs}(h:Lf s (a++b) vs l Q):
  ∃va vb l1 l2 P1 P2,vs=va++vb∧va.length=a.length∧l=l1++l2∧Q=P1++P2∧Lf s a va l1 P1∧Lf s b vb l2 P2:=by
 have hl:=h.len.1
 have e:vs=vs.take a.length++vs.drop a.length:=(Ait _ _).symm
 have e2:(vs.take a.length).length=a.length:=by simp at hl⊢;omega
 rw[e] at h
 obtain⟨l1,l2,P1,P2,rfl,rfl,h1,h2⟩:=h.split e2
 exact⟨_,_,l1,l2,P1,P2,e,e2,Z,Z,h1,h2⟩
def Ki{a va}{P1:List Int}(h:Lf s a va l1 P1)(ha:∀x∈a,Lt x key):∀x∈l1,Lt x.1 key:=fun x hx=>ha _ (by rw[h.keys];exact Ahm hx)
def Kh{a va}{P1:List Int}(h:Lf s a va l1 P1)(ha:∀x∈a,Lt key x):∀x∈l1,Lt key x.1:=fun x hx=>ha _ (by rw[h.keys];exact Ahm hx)
def Y4{cell v}(hk:1≤key.length∧key.length≤64):∀(h:Nat) {s}{k:Int}{l}{P Pc:List Int},Pgr.Good s→Tr s (h+1) k l P→(P++Pc).Nodup→Ce s cell v Pc→
  ((Cu s k key cell (h+1)).2.2.2=0∧(Cu s k key cell (h+1)).2.2.1= !isK l key∧∃P',Mv s (Cu s k key cell (h+1)).1 (P++Pc) P' (2*(h+1))∧Out (Cu s k key cell (h+1)).1 h 1 (Cu s k key cell (h+1)).2.1 (EM l key v) P')∨
  ((Cu s k key cell (h+1)).2.2.2=190∧s.free<2*(h+1))
 |0,s,k,l,P,Pc,hG,⟨n,Q,hat,hne,eP,hn⟩,hnd,hc=>by
  subst eP;rw[decide_eq_true Z] at hn;obtain⟨n1,n2⟩:=hn.leaf;have ef:=D2 hat.sound n1;obtain⟨ks,vs,rfl⟩:∃ks vs,n=⟨true,ks,vs,[]⟩:=⟨_,_,ef⟩
  simp only at n2 hne;obtain⟨hko,hvl,hv16⟩:=C2.1 hat.sound;have hlv:=hat.level (x:=((0+1:Nat):Int)) Z;have hlz:(AM s k ((0+1:Nat):Int)).2=0:=by rw[hlv]
  have hln:(AM s k ((0+1:Nat):Int)).1=⟨true,ks,vs,[]⟩:=by rw[hlv]
  have hsz:=hat.size;rw[size_leaf hvl] at hsz;have hcl:=hc.len;have hQl:=n2.live;have hPl:=hc.live;rcases JS hko (vs:=vs) key with ⟨a,b,rfl,hf,ha,hb⟩|⟨a,b,rfl,hf,ha,hb⟩
  ·rw[VR hlz hln hf];obtain⟨va,c,vb,l1,v0,l2,P1,Pv,P2,rfl,ev,rfl,rfl,g1,g2,g3⟩:=QP n2;have e0:(va++[c]++vb).getD a.length []=c:=by rw[←ev];exact FF
   have e1:(va++[c]++vb).set a.length cell=va++[cell]++vb:=by rw[←ev];exact Hk
   simp only[e0,e1];have hnd':(k::(P1++Pc++P2)).Nodup∧Pv.Nodup∧∀p∈k::(P1++Pc++P2),p∉Pv:=by
    have hp:(k::(P1++Pv++P2)++Pc).Perm ((k::(P1++Pc++P2))++Pv):=Ags.2 fun a=>by
     simp only[Ahf,Ahl];omega
    obtain⟨q1,q2,q3⟩:=Aih.1 (hp.nodup_iff.1 hnd);exact⟨q1,q2,fun p h1 h2=>q3 p h1 p h2 Z⟩
   obtain⟨q1,q2,q3⟩:=hnd';obtain⟨d1,d2⟩:=g2.Adx hG q2;rw[if_neg (by rw[d1];decide)];have hR:∀p∈k::(P1++Pc++P2),BB s p:=fun p hp=>by
    rcases Afv.1 hp with rfl|hp
    ·exact hat.liv
    ·rcases Afj.1 hp with hp|hp
     ·rcases Afj.1 hp with hp|hp
      ·exact hQl p (by simp[hp])
      ·exact hPl p hp
     ·exact hQl p (by simp[hp])
   have hsm:=d2.same hR q3;have hl1:=Ki g1 ha;have hl2:=Kh g3 hb;have hput:EM (l1++[(key,v0)]++l2) key v=l1++[(key,v)]++l2:=by rw[Oy hl1 hl2,Aa3]
   have hisk:isK (l1++[(key,v0)]++l2) key=true:=by rw[FK hl1 hl2,Kx]
   have hLf:Lf (Ci s c).1 (a++key::b) (va++[cell]++vb) (l1++[(key,v)]++l2) (P1++Pc++P2):=by
    have w1:=g1.stay (t:=(Ci s c).1) (fun p hp=>hsm p (by simp[hp]));have w2:=hc.stay (t:=(Ci s c).1) (fun p hp=>hsm p (by simp[hp]));have w3:=g3.stay (t:=(Ci s c).1) (fun p hp=>hsm p (by simp[hp]));have:=w1.join ((Lf.one (k:=key) w2).join w3);simpa using this
   have hso:Bd ⟨true,a++key::b,va++[cell]++vb,[]⟩=true:=by
    refine C2.2 ⟨hko,by simp at hvl⊢;omega,fun x hx=>?_⟩;rcases Afj.1 hx with hx|hx
    ·rcases Afj.1 hx with hx|hx
     ·exact hv16 x (by simp[hx])
     ·rw[Afz.1 hx];exact hcl
    ·exact hv16 x (by simp[hx])
   have hnd2:Nd (Ci s c).1 (Tr (Ci s c).1 0) (decide (0=0)) ⟨true,a++key::b,va++[cell]++vb,[]⟩ (l1++[(key,v)]++l2) (P1++Pc++P2):=by
    rw[decide_eq_true Z];exact .mkl Z hLf
   have hzz:Bf (⟨true,a++key::b,va++[cell]++vb,[]⟩:AB)≤340:=by
    rw[size_leaf (by simp at hvl⊢;omega)];simp only[Afk,Afq,Ef,Ds] at hsz⊢;omega
   rcases Hd d2.gd (h:=0) (z:=1) hnd2 hso hzz (by unfold BB;rw[(hsm k (by simp)).1];exact hat.liv) (by simp;omega) q1 with ⟨w1,P',w2,w3⟩|⟨w1,w2⟩
   ·refine .inl ⟨w1,by rw[hisk];rfl,P',?_,by rw[hput];exact w3⟩;refine((d2.then w2 (Agq _) hR q1 q3).perm ?_ (Agq _)).mono (by omega);refine Ags.2 fun a=>?_;simp only[Ahf,Ahl];omega
   ·exact .inr ⟨w1,by have:=d2.fr;omega⟩
  ·rw[VI hlz hln hf];obtain⟨va,vb,l1,l2,P1,P2,rfl,ev,rfl,rfl,g1,g3⟩:=QI n2;have e0:Cv (a++b) a.length key=a++[key]++b:=Ox;have e1:Cv (va++vb) a.length cell=va++[cell]++vb:=by rw[←ev];exact Ox
   simp only[e0,e1];have hl1:=Ki g1 ha;have hl2:=Kh g3 hb;have hput:EM (l1++l2) key v=l1++[(key,v)]++l2:=by
    have:=Oy (m:=[]) (v:=v) hl1 hl2;rw[Aaj,Agj] at this;exact this
   have hisk:isK (l1++l2) key=false:=by
    have:=FK (m:=[]) hl1 hl2;rw[Q9,Agj] at this;exact this
   have hLf:Lf s (a++[key]++b) (va++[cell]++vb) (l1++[(key,v)]++l2) (P1++Pc++P2):=by
    have:=g1.join ((Lf.one (k:=key) hc).join g3);simpa using this
   have hko':KO (a++[key]++b):=by
    obtain⟨k1,k2,k3⟩:=KO.app.1 hko;rw[Afg];refine KO.app.2 ⟨k1,KO.cons.2 ⟨hk,k2,hb⟩,fun x hx y hy=>?_⟩;rcases Afv.1 hy with rfl|hy
    ·exact ha x hx
    ·exact k3 x hx y hy
   have hso:Bd ⟨true,a++[key]++b,va++[cell]++vb,[]⟩=true:=by
    refine C2.2 ⟨hko',by simp at hvl⊢;omega,fun x hx=>?_⟩;rcases Afj.1 hx with hx|hx
    ·rcases Afj.1 hx with hx|hx
     ·exact hv16 x (by simp[hx])
     ·rw[Afz.1 hx];exact hcl
    ·exact hv16 x (by simp[hx])
   have hnd2:Nd s (Tr s 0) (decide (0=0)) ⟨true,a++[key]++b,va++[cell]++vb,[]⟩ (l1++[(key,v)]++l2) (P1++Pc++P2):=by
    rw[decide_eq_true Z];exact .mkl Z hLf
   have hzz:Bf (⟨true,a++[key]++b,va++[cell]++vb,[]⟩:AB)≤340:=by
    rw[size_leaf (by simp at hvl⊢;omega)];simp only[Afk,Afq,Ahn,Ef,Ds] at hsz⊢;omega
   have hp:(k::(P1++P2)++Pc).Perm (k::(P1++Pc++P2)):=Ags.2 fun a=>by
     simp only[Ahf,Ahl];omega
   rcases Hd hG (h:=0) (z:=1) hnd2 hso hzz hat.liv (by simp;omega) (hp.nodup_iff.1 hnd) with ⟨w1,P',w2,w3⟩|⟨w1,w2⟩
   ·exact .inl ⟨w1,by rw[hisk];rfl,P',(w2.perm hp (Agq _)).mono (by omega),by rw[hput];exact w3⟩
   ·exact .inr ⟨w1,by omega⟩
 |h+1,s,k,l,P,Pc,hG,⟨n,Q,hat,hne,eP,hn⟩,hnd,hc=>by
  subst eP;rw[decide_eq_false (Ahi _)] at hn;obtain⟨n1,n2⟩:=hn.inner;have ef:=ED hat.sound n1;obtain⟨ks,cs,rfl⟩:∃ks cs,n=⟨false,ks,[],cs⟩:=⟨_,_,ef⟩
  simp only at n2 hne;obtain⟨hko,hcl,hrng⟩:=CA.1 hat.sound;have hlv:=hat.level (x:=((h+1+1:Nat):Int)) (by show false=_;exact(decide_eq_false (by omega)).symm);have hlz:(AM s k ((h+1+1:Nat):Int)).2=0:=by rw[hlv]
  have hln:(AM s k ((h+1+1:Nat):Int)).1=⟨false,ks,[],cs⟩:=by rw[hlv]
  obtain⟨a,b,rfl,hf,ha,hb⟩:=Iu hat.sound key;rw[PR hlz hln hf];obtain⟨ca,c,cb,rfl,ec⟩:=Ky cs (i:=a.length) (by rw[hcl];simp;omega);have e0:(ca++[c]++cb).getD a.length 0=c:=by rw[←ec];exact FF
  simp only[e0];have n2':Kd (Tr s (h+1)) (a++[]++b) (ca++[c]++cb) l Q:=by simpa using n2
  obtain⟨l1,m,l2,P1,Pm,P2,rfl,rfl,g1,g2,g3,g4,g5⟩:=n2'.focus (by simpa using hko) ec Z;have hl1:∀x∈l1,Lt x.1 key:=fun x hx=>by
   obtain⟨p,p1,p2⟩:=g1.below x hx;exact HY p2 (ha p p1)
  have hl2:∀x∈l2,Lt key x.1:=fun x hx=>by
   obtain⟨p,p1,p2⟩:=g3.Sw x hx;exact HY (hb p p1) p2
  have hp:(k::(P1++Pm++P2)++Pc).Perm ((Pm++Pc)++(k::(P1++P2))):=Ags.2 fun a=>by
     simp only[Ahf,Ahl];omega
  obtain⟨q1,q2,q3⟩:=Aih.1 (hp.nodup_iff.1 hnd);have q3':∀p∈k::(P1++P2),p∉Pm++Pc:=fun p h1 h2=>q3 p h2 p h1 Z;have hR:∀p∈k::(P1++P2),BB s p:=fun p hp=>by
   rcases Afv.1 hp with rfl|hp
   ·exact hat.liv
   ·exact(Afj.1 hp).elim (g1.live p) (g3.live p)
  rcases Y4 hk h hG g2 q1 hc with ⟨w1,w2,P',w3,w4⟩|⟨w1,w2⟩
  ·rw[if_neg (by rw[w1];decide)];generalize Cu s c key cell (h+1)=u at w1 w2 w3 w4⊢;have hsm:=w3.same hR q3';have hput:EM (l1++m++l2) key v=l1++EM m key v++l2:=Oy hl1 hl2;have hisk:isK (l1++m++l2) key=isK m key:=FK hl1 hl2;have w5:=w3.frame hR q2 q3';have hp2:(P'++(k::(P1++P2))).Perm (k::(P1++P'++P2)):=Ags.2 fun a=>by
     simp only[Ahf,Ahl];omega
   have hat':=hat.stay (hsm k (Afn ..));rcases TB w3.gd hat' ec hne (g1.stay (fun p hp=>hsm p (by simp[hp]))) (g3.stay (fun p hp=>hsm p (by simp[hp]))) w4
    (fun p hp x hx=>by
     rcases O8 hx with rfl|hx
     ·exact ha p hp
     ·exact g4 p hp x hx) (fun p hp x hx=>by
     rcases O8 hx with rfl|hx
     ·exact hb p hp
     ·exact g5 p hp x hx) (hp2.nodup_iff.1 w5.nd) with ⟨y1,P2',y2,y3⟩|⟨y1,y2⟩
   ·refine .inl ⟨y1,by rw[w2,hisk],P2',?_,by rw[hput];exact y3⟩;exact((w5.trans (y2.perm hp2 (Agq _))).perm hp (Agq _)).mono (by omega)
   ·exact .inr ⟨y1,by have:=w3.fr;omega⟩
  ·rw[if_pos (by rw[w1];decide)];exact .inr ⟨w1,by omega⟩
end
end Go.Gk.Tre
end
section
namespace Go.Gk
def TI{b:Nat}{T T' l l'}(h:bx b T l=bx b T' l'):T=T'∧l=l':=by
 have h1:bx b T l b (Obj.cells l.toArray T (0,0)):=Db _ _;rw[h] at h1;have h2:=(HP h1).2;simp only[Obj.cells.injEq] at h2;exact⟨h2.2.1,by simpa using h2.1⟩
def Ai.all{α:Type}{R:Aa→List Value→α→Prop}(hR:Gu R){d:Aa}{v:Value}{xs:List α}{h:Aa}(o:Ai 1 R d v xs h)(hx:0<xs.length):
  ∃b T l c,v=.slice (some ⟨b,0,none⟩) xs.length c∧h=bx b T l∧xs.length≤l.length∧(∀j (hj:j<xs.length),∃u,l[j*1+0]?=some u∧R d [u] xs[j])∧
   ∀d' j u x,Le d d'→j<xs.length→R d' [u] x→Ai 1 R d' v (xs.set j x) (bx b T (patch l (j*1) [u])):=by
 obtain⟨b,T,l,c,cs,e1,e2, -, -, -, -, -⟩:=Ai.at (by omega) o hx
 subst e1;subst e2
 have key:∀j (hj:j<xs.length),j*1+1≤l.length∧(∃u,l[j*1+0]?=some u∧R d [u] xs[j]):=by
  intro j hj;obtain⟨b',T',l',c',cs',q1,q2,q3,q4,q5,q6,q7⟩:=Ai.at (by omega) o hj;cases q1;obtain⟨rfl,rfl⟩:=TI q2;refine⟨q5,?_⟩
  match cs',q3 with
  |[u],_=>exact⟨u,q4 0 u Z,q6⟩
 refine⟨b,T,l,c,Z,Z,?_,fun j hj=>(key j hj).2,fun d' j u x hl hj hu=>?_⟩
 rotate_left
 ·obtain⟨b',T',l',c',cs',q1,q2,q3,q4,q5,q6,q7⟩:=Ai.at (by omega) (Ai.mono (R:=R) hR o hl) hj
  cases q1
  obtain⟨rfl,rfl⟩:=TI q2
  exact q7 [u] x Z hu
 have:=(key (xs.length - 1) (by omega)).1
 omega
def UK{P}{Q:Co}{ρ d L s}(Ls L1:List Aa)(hL:L.Perm (Ls++L1))(h:gws P Q.pan Q.n s Ls ρ d L1):gwp P (.reg true s) Q ρ d L:=⟨d,Ls,L1,Vs.perm hL,h⟩
end Go.Gk
namespace Go.Gk.Tre
open Go Go.Gk Go.Gk.Dev Go.Gk.Cch Go.Gk.Pgr Go.Gk.Chn Go.Gk.Node
def UI{s}{k:Int}{n:AB}{i0 i:Nat}{a b:AB×Int}(hk:n.keys.length≠0)(hi:i=if i0=n.keys.length then i0 - 1 else i0)(ha:Bw s (n.kids.getD i 0)=a)(hb:Bw s (n.kids.getD (i+1) 0)=b):
  Eh s k n i0=if a.2≠0 then(s,CO,a.2) else if b.2≠0 then(s,CO,b.2) else if a.1.leaf≠b.1.leaf then(s,CO,200) else
   let w:=Bp s (n.kids.getD i 0) (CM a.1 b.1 (n.keys.getD i []))
   if w.2.2≠0 then(w.1,CO,w.2.2) else
   let u:=w.1.drop (n.kids.getD (i+1) 0)
   if u.2≠0 then(u.1,CO,u.2) else
   if 0≤w.2.1.other then Bp u.1 k {n with keys:=n.keys.set i w.2.1.key,kids:=(n.kids.set i w.2.1.page).set (i+1) w.2.1.other}
   else Bp u.1 k {n with keys:=n.keys.eraseIdx i,kids:=(n.kids.set i w.2.1.page).eraseIdx (i+1)}:=by
 subst hi;subst ha;subst hb
 unfold Eh
 exact if_neg hk
end Go.Gk.Tre
end
section
namespace Go.Gk.Tre
open Go Go.Gk Go.Gk.Dev Go.Gk.Cch Go.Gk.Pgr Go.Gk.Chn Go.Gk.Node
variable{t:PD}
section
def Gd.trans{s u}{P:List Int}(h:Gd s t P)(k:Gd t u P):Gd s u P:=fun p hp=>⟨(k p hp).1.trans (h p hp).1,(k p hp).2.trans (h p hp).2⟩
def Gd.sub{s}{P Q:List Int}(h:Gd s t P)(hs:∀p∈Q,p∈P):Gd s t Q:=fun p hp=>h p (hs p hp)
def Ab0{n:AB}(hs:Bd n=true)(hz:5≤Bf n):n.keys≠[]:=by
 intro e;cases hl:n.leaf with
 |true=>
  have ef:=D2 hs hl
  rw[ef] at hs
  have h2:=(C2.1 hs).2.1
  have:=(congrArg Bf ef).trans (size_leaf h2)
  rw[e] at this h2
  rw[Afl h2] at this
  simp only[Ds,Ahn] at this;omega
 |false=>
  have ef:=ED hs hl
  rw[ef] at hs
  have h2:=(CA.1 hs).2.1
  have:=(congrArg Bf ef).trans size_inner
  rw[h2,e] at this
  simp only[Ds,Ahn] at this;omega
section
variable {α:Type}
def XO{a b:List α}{x y d:α}:(a++[x,y]++b).getD (a.length+1) d=y:=by
 rw[show a++[x,y]++b=(a++[x])++[y]++b by simp,show a.length+1=(a++[x]).length by simp];exact FF
def Ys{a b:List α}{x y d:α}:(a++[x,y]++b).getD a.length d=x:=by
 rw[show a++[x,y]++b=a++[x]++(y::b) by simp];exact FF
def Aaw{a b:List α}{x y u w:α}:((a++[x,y]++b).set a.length u).set (a.length+1) w=a++[u,w]++b:=by
 rw[show a++[x,y]++b=a++[x]++(y::b) by simp,Hk,show a++[u]++y::b=(a++[u])++[y]++b by simp,show a.length+1=(a++[u]).length by simp,Hk];simp
def Wx{a b:List α}{x y u:α}:((a++[x,y]++b).set a.length u).eraseIdx (a.length+1)=a++[u]++b:=by
 rw[show a++[x,y]++b=a++[x]++(y::b) by simp,Hk,show a++[u]++y::b=(a++[u])++[y]++b by simp,show a.length+1=(a++[u]).length by simp,JU]
end
def VX(hG:Pgr.Good t){h i0:Nat}{k c1 c2:Int}{a b kk}{ca cb:List Int}{n1 n2:AB}{l1 m1 m2 l2}{P1 Q1 Q2 P2:List Int}
  (hk:BB t k) (ea:ca.length=a.length) (eb:cb.length=b.length) (hko:KO (a++[kk]++b)) (hrng:∀c∈ca++cb,0≤c∧c≤8191) (hsz:Bf (⟨false,a++[kk]++b,[],ca++[c1,c2]++cb⟩:AB)≤256)
  (hi:a.length=if i0=(a++[kk]++b).length then i0 - 1 else i0)
  (hl:KL (Tr t (h+1)) a ca l1 P1) (hr:KR (Tr t (h+1)) b cb l2 P2) (a1:At t c1 n1) (d1:Nd t (Tr t h) (decide (h=0)) n1 m1 Q1) (a2:At t c2 n2) (d2:Nd t (Tr t h) (decide (h=0)) n2 m2 Q2)
  (hz:Bf n1+Bf n2≤335) (hne:n1.keys≠[]∨n2.keys≠[]) (b1:∀x∈m1,Lt x.1 kk) (b2:∀x∈m2,¬Lt x.1 kk) (ba:∀k∈a,∀x∈m1++m2,¬Lt x.1 k) (bb:∀k∈b,∀x∈m1++m2,Lt x.1 k)
  (hnd:(k::(P1++(c1::Q1++c2::Q2)++P2)).Nodup):
  ((Eh t k ⟨false,a++[kk]++b,[],ca++[c1,c2]++cb⟩ i0).2.2=0∧∃P',Mv t (Eh t k ⟨false,a++[kk]++b,[],ca++[c1,c2]++cb⟩ i0).1 (k::(P1++(c1::Q1++c2::Q2)++P2)) P' 4∧
   Out (Eh t k ⟨false,a++[kk]++b,[],ca++[c1,c2]++cb⟩ i0).1 (h+1) 0 (Eh t k ⟨false,a++[kk]++b,[],ca++[c1,c2]++cb⟩ i0).2.1 (l1++(m1++m2)++l2) P')∨
  ((Eh t k ⟨false,a++[kk]++b,[],ca++[c1,c2]++cb⟩ i0).2.2=190∧t.free<4):=by
 obtain⟨ko1,ko2,ko3⟩:=KO.app.1 hko
 obtain⟨ko4,ko5,ko6⟩:=KO.app.1 ko1
 have hkk:=ko5.1 kk (by simp)
 have e1:(ca++[c1,c2]++cb).getD a.length 0=c1:=by rw[←ea];exact Ys
 have e2:(ca++[c1,c2]++cb).getD (a.length+1) 0=c2:=by rw[←ea];exact XO
 have e3:(a++[kk]++b).getD a.length []=kk:=FF
 have hm:=UI (s:=t) (k:=k) (n:=⟨false,a++[kk]++b,[],ca++[c1,c2]++cb⟩) (i0:=i0) (i:=a.length) (a:=(n1,0)) (b:=(n2,0)) (by simp) hi (by rw[show(⟨false,a++[kk]++b,[],ca++[c1,c2]++cb⟩:AB).kids.getD a.length 0=c1 from e1];exact a1.read)
  (by rw[show(⟨false,a++[kk]++b,[],ca++[c1,c2]++cb⟩:AB).kids.getD (a.length+1) 0=c2 from e2];exact a2.read)
 rw[hm,if_neg (fun q=>q Z),if_neg (fun q=>q Z),if_neg (fun q=>q (d1.1.trans d2.1.symm))]
 clear hm
 simp only[e1,e2,e3]
 obtain⟨dj,sj,zj,lj,ej⟩:=d1.join (fun c l P q=>Tr.ne q) d2 a1.sound a2.sound b1 b2 hkk
 have hp0:(k::(P1++(c1::Q1++c2::Q2)++P2)).Perm ((c1::(Q1++Q2))++([c2]++(k::(P1++P2)))):=Ags.2 fun a=>by
  simp only[Ahf,Ahl,Ajj];omega
 obtain⟨q1,q2,q3⟩:=Aih.1 (hp0.nodup_iff.1 hnd)
 have q3':∀p∈[c2]++(k::(P1++P2)),p∉c1::(Q1++Q2):=fun p h1 h2=>q3 p h2 p h1 Z
 have hR:∀p∈[c2]++(k::(P1++P2)),BB t p:=fun p hp=>by
  rcases Afj.1 hp with hp|hp
  ·rw[Afz.1 hp];exact a2.liv
  ·rcases Afv.1 hp with rfl|hp
   ·exact hk
   ·exact(Afj.1 hp).elim (hl.live p) (hr.live p)
 have hzj:Bf (CM n1 n2 kk)≤if (CM n1 n2 kk).leaf=true then 340 else 440:=by
  rw[lj];cases hb:decide (h=0) with
  |true=>rw[hb] at zj;simp only[if_true] at zj⊢;omega
  |false=>rw[hb] at zj;simp only[Afh,if_false] at zj⊢;omega
 have hkj:1≤(CM n1 n2 kk).keys.length:=FM.1 fun e=>by
  obtain⟨-,f1,f2⟩:=ej e;exact hne.elim (fun q=>q f1) (fun q=>q f2)
 have hs0:=Hd hG (h:=h) (z:=1) dj sj hzj a1.liv hkj q1
 generalize Bp t c1 (CM n1 n2 kk)=w at hs0⊢
 rcases hs0.symm with ⟨w1,w2⟩|⟨w1,Pj,w2,w3⟩
 ·rw[if_pos (by rw[w1];decide)]
  exact .inr ⟨w1,by omega⟩
 rw[if_neg (by rw[w1];decide)]
 have hsm1:=w2.same hR q3'
 have w4:=w2.frame hR q2 q3'
 have hp1:(Pj++([c2]++(k::(P1++P2)))).Perm ([c2]++(Pj++(k::(P1++P2)))):=Ags.2 fun a=>by
  simp only[Ahf,Ahl,Ajj];omega
 obtain⟨r1,r2,r3⟩:=Aih.1 (hp1.nodup_iff.1 w4.nd)
 have r3':∀p∈Pj++(k::(P1++P2)),p∉ [c2]:=fun p h1 h2=>r3 p h2 p h1 Z
 have hc2:BB w.1 c2:=by unfold BB;rw[(hsm1 c2 (by simp)).1];exact a2.liv
 obtain⟨u1,u2⟩:=JQ w2.gd hc2
 have hR2:∀p∈Pj++(k::(P1++P2)),BB w.1 p:=fun p hp=>(w4.lv p).2 (.inr (by
  rcases Afj.1 hp with q|q
  ·exact Aga _ q
  ·exact Agc _ (Agc _ q)))
 have hsm2:=u2.same hR2 r3'
 have u3:=u2.frame hR2 r2 r3'
 generalize w.1.drop c2=u at u1 u2 u3 hsm2⊢
 rw[if_neg (by rw[u1];decide)]
 have hsm:Gd t u.1 (k::(P1++P2)):=(hsm1.sub (fun p hp=>Agc _ hp)).trans (hsm2.sub (fun p hp=>Agc _ hp))
 have hl':=hl.stay (hsm.sub (fun p hp=>by simp[hp]))
 have hr':=hr.stay (hsm.sub (fun p hp=>by simp[hp]))
 have ho':=w3.stay (hsm2.sub (fun p hp=>Aga _ hp))
 have hk':BB u.1 k:=by unfold BB;rw[(hsm k (by simp)).1];exact hk
 have M:Mv t u.1 (k::(P1++(c1::Q1++c2::Q2)++P2)) (k::(P1++Pj++P2)) 2:=by
  refine((w4.trans (u3.perm hp1 (Agq _))).perm hp0 ?_).mono (by omega);refine Ags.2 fun a=>?_;simp only[Ahf,Ahl,Ajj];omega
 have hd:decide (h+1=0)=false:=decide_eq_false (Ahi _)
 have hGu:=u2.gd
 have hszE:=hsz
 rw[size_inner] at hszE
 have fin:∀{n':AB}{l},n'.leaf=false→Nd u.1 (Tr u.1 (h+1)) (decide (h+1=0)) n' l (P1++Pj++P2)→Bd n'=true→Bf n'≤440→
   ((Bp u.1 k n').2.2=0∧∃P',Mv t (Bp u.1 k n').1 (k::(P1++(c1::Q1++c2::Q2)++P2)) P' 4∧Out (Bp u.1 k n').1 (h+1) 0 (Bp u.1 k n').2.1 l P')∨((Bp u.1 k n').2.2=190∧t.free<4):=by
  intro n' l hlf hnd' hs' hz'
  rcases Hd hGu (h:=h+1) (z:=0) hnd' hs' (by rw[hlf];simpa using hz') hk' (Agd _) M.nd with ⟨y1,P',y2,y3⟩|⟨y1,y2⟩
  ·exact .inl ⟨y1,P',(M.trans y2).mono (by omega),y3⟩
  ·exact .inr ⟨y1,by have:=M.fr;omega⟩
 by_cases h2:0≤w.2.1.other
 ·rw[if_pos h2]
  have f1:(a++[kk]++b).set a.length w.2.1.key=a++[w.2.1.key]++b:=Hk
  have f2:((ca++[c1,c2]++cb).set a.length w.2.1.page).set (a.length+1) w.2.1.other=ca++[w.2.1.page,w.2.1.other]++cb:=by rw[←ea];exact Aaw
  simp only[f1,f2]
  rcases ho' with ⟨q,_⟩|⟨_,_,x1,x2,X1,X2,ex,rfl,g1,g2,g3,g4,g5,g6⟩
  ·omega
  ·obtain⟨y1,t1,f3⟩:=Aii g1.ne
   obtain⟨y2,t2,f4⟩:=Aii g2.ne
   have ha':∀k∈a,Lt k w.2.1.key:=fun p hp=>K2 (ba p hp y1 (by rw[ex,f3];simp)) (g3 y1 (by simp[f3]))
   have hb':∀k∈b,Lt w.2.1.key k:=fun p hp=>K2 (g4 y2 (by simp[f4])) (bb p hp y2 (by rw[ex,f4];simp))
   have hko':KO (a++[w.2.1.key]++b):=by
    rw[Afg];refine KO.app.2 ⟨ko4,KO.cons.2 ⟨⟨g5,g6⟩,ko2,hb'⟩,fun x hx y hy=>?_⟩;rcases Afv.1 hy with rfl|hy
    ·exact ha' x hx
    ·exact ko3 x (Aga _ hx) y hy
   obtain⟨v1,v1Q,v1a,_,v1e,_⟩:=id g1
   obtain⟨v2,v2Q,v2a,_,v2e,_⟩:=id g2
   refine fin Z ?_ (CA.2 ⟨hko',by simp[ea,eb];omega,fun p hp=>?_⟩) ?_
   ·rw[hd]
    have:=Kd.Kk (km:=[w.2.1.key]) (cm:=[w.2.1.page,w.2.1.other]) hl' (Kd.cons.2 ⟨x1,x2,X1,X2,Z,Z,g1,g3,g4,Kd.one.2 g2⟩) hr' hko' (by rw[←ex];exact ba) (by rw[←ex];exact bb)
    rw[←ex] at this
    exact .mki Z this
   ·rcases Afj.1 hp with hp|hp
    ·rcases Afj.1 hp with hp|hp
     ·exact hrng p (by simp[hp])
     ·rcases Afv.1 hp with rfl|hp
      ·exact Ez hGu v1a.liv
      ·rw[Afz.1 hp];exact Ez hGu v2a.liv
    ·exact hrng p (by simp[hp])
   ·rw[size_inner]
    simp only[Afk,Afq,Ahn,Ef,Ds] at hszE⊢
    omega
 ·rw[if_neg h2]
  have f1:(a++[kk]++b).eraseIdx a.length=a++b:=JU
  have f2:((ca++[c1,c2]++cb).set a.length w.2.1.page).eraseIdx (a.length+1)=ca++[w.2.1.page]++cb:=by rw[←ea];exact Wx
  simp only[f1,f2]
  have htr:=ho'.tr (by omega) (Afe _)
  obtain⟨v1,v1Q,v1a,_,v1e,_⟩:=id htr
  have hko':KO (a++b):=KO.app.2 ⟨ko4,ko2,fun x hx y hy=>ko3 x (Aga _ hx) y hy⟩
  refine fin Z ?_ (CA.2 ⟨hko',by simp[ea,eb];omega,fun p hp=>?_⟩) ?_
  ·rw[hd]
   refine .mki Z ?_
   have:=Kd.Kk (km:=[]) (cm:=[w.2.1.page]) hl' (Kd.one.2 htr) hr' (by simpa using hko') ba bb
   simpa using this
  ·rcases Afj.1 hp with hp|hp
   ·rcases Afj.1 hp with hp|hp
    ·exact hrng p (by simp[hp])
    ·rw[Afz.1 hp];exact Ez hGu v1a.liv
   ·exact hrng p (by simp[hp])
  ·rw[size_inner]
   simp only[Afk,Afq,Ahn,Ef,Ds] at hszE⊢
   omega
end
def SK(key:List UInt8)(h:Nat):Prop:=∀{s}{k:Int}{l}{P:List Int},Pgr.Good s→Tr s (h+1) k l P→P.Nodup→
  ((Cm s k key (h+1)).2.2.2=0∧(Cm s k key (h+1)).2.2.1=isK l key∧((isK l key=false∧(Cm s k key (h+1)).1=s)∨
   (isK l key=true∧∃P',Mv s (Cm s k key (h+1)).1 P P' (4*(h+1))∧Out (Cm s k key (h+1)).1 h 0 (Cm s k key (h+1)).2.1 (CH l key).1 P')))∨
  ((Cm s k key (h+1)).2.2.2=190∧s.free<4*(h+1))
def Aa4{key}:SK key 0:=by
  intro s k l P hG ⟨n,Q,hat,hne,eP,hn⟩ hnd;subst eP;rw[decide_eq_true Z] at hn;obtain⟨n1,n2⟩:=hn.leaf;have ef:=D2 hat.sound n1;obtain⟨ks,vs,rfl⟩:∃ks vs,n=⟨true,ks,vs,[]⟩:=⟨_,_,ef⟩
  simp only at n2 hne;obtain⟨hko,hvl,hv16⟩:=C2.1 hat.sound;have hlv:=hat.level (x:=((0+1:Nat):Int)) Z;have hlz:(AM s k ((0+1:Nat):Int)).2=0:=by rw[hlv]
  have hln:(AM s k ((0+1:Nat):Int)).1=⟨true,ks,vs,[]⟩:=by rw[hlv]
  have hsz:=hat.size;rw[size_leaf hvl] at hsz;have hQl:=n2.live;rcases JS hko (vs:=vs) key with ⟨a,b,rfl,hf,ha,hb⟩|⟨a,b,rfl,hf,ha,hb⟩
  ·rw[Wm hlz hln hf];obtain⟨va,c,vb,l1,v0,l2,P1,Pv,P2,rfl,ev,rfl,rfl,g1,g2,g3⟩:=QP n2;have e0:(va++[c]++vb).getD a.length []=c:=by rw[←ev];exact FF
   have e1:(va++[c]++vb).eraseIdx a.length=va++vb:=by rw[←ev];exact JU
   have e2:(a++key::b).eraseIdx a.length=a++b:=by
    have:=JU (a:=a) (b:=b) (x:=key);simpa using this
   simp only[e0,e1,e2];have hp:(k::(P1++Pv++P2)).Perm ((k::(P1++P2))++Pv):=Ags.2 fun a=>by
    simp only[Ahf,Ahl];omega
   obtain⟨q1,q2,q3⟩:=Aih.1 (hp.nodup_iff.1 hnd);have q3':∀p∈k::(P1++P2),p∉Pv:=fun p h1 h2=>q3 p h1 p h2 Z;obtain⟨d1,d2⟩:=g2.Adx hG q2;rw[if_neg (by rw[d1];decide)];have hR:∀p∈k::(P1++P2),BB s p:=fun p hp=>by
    rcases Afv.1 hp with rfl|hp
    ·exact hat.liv
    ·rcases Afj.1 hp with hp|hp
     ·exact hQl p (by simp[hp])
     ·exact hQl p (by simp[hp])
   have hsm:=d2.same hR q3';have hl1:=Ki g1 ha;have hl2:=Kh g3 hb;have hdel:(CH (l1++[(key,v0)]++l2) key).1=l1++l2:=by rw[Ps hl1 hl2,TP];simp
   have hisk:isK (l1++[(key,v0)]++l2) key=true:=by rw[FK hl1 hl2,Kx]
   have hLf:Lf (Ci s c).1 (a++b) (va++vb) (l1++l2) (P1++P2):=by
    have w1:=g1.stay (t:=(Ci s c).1) (fun p hp=>hsm p (by simp[hp]));have w3:=g3.stay (t:=(Ci s c).1) (fun p hp=>hsm p (by simp[hp]));exact w1.join w3
   have hko':KO (a++b):=by
    obtain⟨k1,k2,k3⟩:=KO.app.1 hko;exact KO.app.2 ⟨k1,(KO.cons.1 k2).2.1,fun x hx y hy=>k3 x hx y (Afr _ hy)⟩
   have hso:Bd ⟨true,a++b,va++vb,[]⟩=true:=by
    refine C2.2 ⟨hko',by simp at hvl⊢;omega,fun x hx=>?_⟩;rcases Afj.1 hx with hx|hx
    ·exact hv16 x (by simp[hx])
    ·exact hv16 x (by simp[hx])
   have hnd2:Nd (Ci s c).1 (Tr (Ci s c).1 0) (decide (0=0)) ⟨true,a++b,va++vb,[]⟩ (l1++l2) (P1++P2):=by
    rw[decide_eq_true Z];exact .mkl Z hLf
   have hzz:Bf (⟨true,a++b,va++vb,[]⟩:AB)≤340:=by
    rw[size_leaf (by simp at hvl⊢;omega)];simp only[Afk,Afq,Ef,Ds] at hsz⊢;omega
   rcases Hd d2.gd (h:=0) (z:=0) hnd2 hso hzz (by unfold BB;rw[(hsm k (by simp)).1];exact hat.liv) (Agd _) q1 with ⟨w1,P',w2,w3⟩|⟨w1,w2⟩
   ·refine .inl ⟨w1,by rw[hisk],.inr ⟨hisk,P',?_,by rw[hdel];exact w3⟩⟩;refine((d2.then w2 (Agq _) hR q1 q3').perm ?_ (Agq _)).mono (by omega);refine Ags.2 fun a=>?_;simp only[Ahf,Ahl];omega
   ·exact .inr ⟨w1,by have:=d2.fr;omega⟩
  ·rw[VP hlz hln hf];obtain⟨va,vb,l1,l2,P1,P2,rfl,ev,rfl,rfl,g1,g3⟩:=QI n2;have hl1:=Ki g1 ha;have hl2:=Kh g3 hb;have hisk:isK (l1++l2) key=false:=by
    have:=FK (m:=[]) hl1 hl2;rw[Q9,Agj] at this;exact this
   exact .inl ⟨Z,by rw[hisk],.inl ⟨hisk,Z⟩⟩
def Aa7{key}{h:Nat}(ihh:SK key h):SK key (h+1):=by
  intro s k l P hG ⟨n,Q,hat,hne,eP,hn⟩ hnd;subst eP;rw[decide_eq_false (Ahi _)] at hn;obtain⟨n1,n2⟩:=hn.inner;have ef:=ED hat.sound n1;obtain⟨ks,cs,rfl⟩:∃ks cs,n=⟨false,ks,[],cs⟩:=⟨_,_,ef⟩
  simp only at n2 hne;obtain⟨hko,hcl,hrng⟩:=CA.1 hat.sound;have hlv:=hat.level (x:=((h+1+1:Nat):Int)) (by show false=_;exact(decide_eq_false (by omega)).symm);have hlz:(AM s k ((h+1+1:Nat):Int)).2=0:=by rw[hlv]
  have hln:(AM s k ((h+1+1:Nat):Int)).1=⟨false,ks,[],cs⟩:=by rw[hlv]
  obtain⟨a,b,rfl,hf,ha,hb⟩:=Iu hat.sound key;obtain⟨ca,c,cb,rfl,ec⟩:=Ky cs (i:=a.length) (by rw[hcl];simp;omega);have ecb:cb.length=b.length:=by simp at hcl;omega
  have e0:(⟨false,a++b,[],ca++[c]++cb⟩:AB).kids.getD a.length 0=c:=by show(ca++[c]++cb).getD a.length 0=c;rw[←ec];exact FF
  have n2':Kd (Tr s (h+1)) (a++[]++b) (ca++[c]++cb) l Q:=by simpa using n2
  obtain⟨l1,m,l2,P1,Pm,P2,rfl,rfl,g1,g2,g3,g4,g5⟩:=n2'.focus (by simpa using hko) ec Z;have hl1:∀x∈l1,Lt x.1 key:=fun x hx=>by
   obtain⟨p,p1,p2⟩:=g1.below x hx;exact HY p2 (ha p p1)
  have hl2:∀x∈l2,Lt key x.1:=fun x hx=>by
   obtain⟨p,p1,p2⟩:=g3.Sw x hx;exact HY (hb p p1) p2
  have hp:(k::(P1++Pm++P2)).Perm (Pm++(k::(P1++P2))):=Ags.2 fun a=>by
     simp only[Ahf,Ahl];omega
  obtain⟨q1,q2,q3⟩:=Aih.1 (hp.nodup_iff.1 hnd);have q3':∀p∈k::(P1++P2),p∉Pm:=fun p h1 h2=>q3 p h2 p h1 Z;have hR:∀p∈k::(P1++P2),BB s p:=fun p hp=>by
   rcases Afv.1 hp with rfl|hp
   ·exact hat.liv
   ·exact(Afj.1 hp).elim (g1.live p) (g3.live p)
  rw[Qa hlz hln hf (u:=Cm s c key (h+1)) (by rw[e0])];have hisk:isK (l1++m++l2) key=isK m key:=FK hl1 hl2;have hdel:(CH (l1++m++l2) key).1=l1++(CH m key).1++l2:=by rw[Ps hl1 hl2]
  have ih:=ihh hG g2 q1;generalize Cm s c key (h+1)=u at ih⊢;rcases ih with ⟨w1,w2,⟨w3,w4⟩|⟨w3,P',w4,w5⟩⟩|⟨w1,w2⟩
  ·rw[if_pos (.inr (by rw[w2,w3]))];exact .inl ⟨w1,by rw[w2,hisk],.inl ⟨by rw[hisk,w3],w4⟩⟩
  ·rw[if_neg (by rw[w1,w2,w3];simp)];have hsm:=w4.same hR q3';have w6:=w4.frame hR q2 q3';have hp2:(P'++(k::(P1++P2))).Perm (k::(P1++P'++P2)):=Ags.2 fun a=>by
     simp only[Ahf,Ahl];omega
   have hnd2:=hp2.nodup_iff.1 w6.nd;have w7:=w6.perm hp hp2.symm;have hat':=hat.stay (hsm k (Afn ..));have g1':=g1.stay (fun p hp=>hsm p (by simp[hp]));have g3':=g3.stay (fun p hp=>hsm p (by simp[hp]));have ba:∀k∈a,∀x∈(CH m key).1,¬Lt x.1 k:=fun p hp x hx=>g4 p hp x (Ja hx);have bb:∀k∈b,∀x∈(CH m key).1,Lt x.1 k:=fun p hp x hx=>g5 p hp x (Ja hx);by_cases h2:u.2.1.other<0∧u.2.1.size<80
   ·rw[if_pos h2];obtain⟨n0,Q0,b1,b2,eP',b4⟩:∃n0 Q0,At u.1 u.2.1.page n0∧u.2.1.size=Bf n0∧P'=u.2.1.page::Q0∧Nd u.1 (Tr u.1 h) (decide (h=0)) n0 (CH m key).1 Q0:=by
     rcases w5 with ⟨_,n0,Q0,b1,b2,e,_,b4⟩|⟨z1,_⟩
     ·exact⟨n0,Q0,b1,b2,e,b4⟩
     ·omega
    subst eP';have hz0:Bf n0≤79:=by have:=h2.2;omega
    have hsz:=hat.size;rw[size_inner] at hsz;have e1:(ca++[c]++cb).set a.length u.2.1.page=ca++[u.2.1.page]++cb:=by rw[←ec,Hk]
    simp only[e1];have fin:∀{r:PD×MdD×Int}{A:List Int}{l},(k::(P1++(u.2.1.page::Q0)++P2)).Perm A→l=l1++(CH m key).1++l2→((r.2.2=0∧∃P'',Mv u.1 r.1 A P'' 4∧Out r.1 (h+1) 0 r.2.1 l P'')∨(r.2.2=190∧u.1.free<4))→
      ((r.2.2=0∧true=isK (l1++m++l2) key∧((isK (l1++m++l2) key=false∧r.1=s)∨(isK (l1++m++l2) key=true∧∃P'',Mv s r.1 (k::(P1++Pm++P2)) P'' (4*(h+1+1))∧Out r.1 (h+1) 0 r.2.1 (CH (l1++m++l2) key).1 P'')))∨(r.2.2=190∧s.free<4*(h+1+1))):=by
     intro r A l hA el hr
     rcases hr with ⟨y1,P2',y2,y3⟩|⟨y1,y2⟩
     ·exact .inl ⟨y1,by rw[hisk,w3],.inr ⟨by rw[hisk,w3],P2',(w7.trans (y2.perm hA (Agq _))).mono (by omega),by rw[hdel,←el];exact y3⟩⟩
     ·exact .inr ⟨y1,by have:=w4.fr;omega⟩
    by_cases hbe:b=[]
    ·subst hbe;rcases g3 with ⟨_,rfl,rfl,rfl⟩|⟨_,_,q,_⟩
     ·rcases g1' with ⟨rfl,_⟩|⟨a',kk,rfl,r1,r2⟩
      ·exact absurd Z hne
      ·have hca:ca.length=a'.length+1:=by rw[ec];simp
       obtain⟨ca',c1,cx,rfl,ec'⟩:=Ky ca (i:=a'.length) (by omega);have hcx:cx=[]:=Afl (by simp at hca;omega);subst hcx;have r1':Kd (Tr u.1 (h+1)) (a'++[]++[]) (ca'++[c1]++[]) l1 P1:=by simpa using r1
       have hka:KO (a'++[kk]):=(KO.app.1 hko).1;obtain⟨x1,m1,x2,X1,Y1,X2,rfl,rfl,f1,f2,f3,f4,f5⟩:=r1'.focus (by simpa using (KO.app.1 hka).1) ec' Z;rcases f3 with ⟨_,_,rfl,rfl⟩|⟨_,_,q,_⟩
       ·obtain⟨v1,V1,va,vb,rfl,vd⟩:=Kd.one.1 f2;refine fin (A:=k::(X1++(c1::V1++u.2.1.page::Q0)++[])) (l:=x1++(m1++(CH m key).1)++[]) ?_ (by simp) ?_
        ·refine Ags.2 fun a=>?_;simp only[Ahf,Ahl,Ajj];omega
        ·have hm:=VX w4.gd (i0:=a'.length+1) (a:=a') (b:=[]) (kk:=kk) (ca:=ca') (cb:=[]) (c1:=c1) (c2:=u.2.1.page) (l1:=x1) (l2:=[]) (P1:=X1) (P2:=[]) hat'.liv ec' Z (by simpa using hka)
          (fun p hp=>hrng p (by simp at hp⊢;simp[hp])) (by rw[size_inner];simp only[Afk,Afq,Ahn,Ef,Ds] at hsz⊢;omega) (by simp) f1 (.inl ⟨Z,Z,Z,Z⟩) va vd b1 b4
          (by have:=va.size;omega) (.inl vb) (fun x hx=>r2 x (by simp[hx])) (fun x hx=>ba kk (by simp) x hx)
          (fun p hp x hx=>(Afj.1 hx).elim (f4 p hp x) (ba p (by simp[hp]) x)) (fun p hp=>by cases hp) ?_
         ·have e2:(ca'++[c1]++[]++[u.2.1.page]++[]:List Int)=ca'++[c1,u.2.1.page]++[]:=by simp
          have e3:(a'++[kk]).length=a'.length+1:=by simp
          rw[e2,e3];exact hm
         ·refine(List.Perm.nodup_iff ?_).1 hnd2;refine Ags.2 fun a=>?_;simp only[Ahf,Ahl,Ajj];omega
       ·cases q
     ·cases q
    ·rcases g3' with ⟨q,_⟩|⟨kk,b',rfl,r1,r2⟩
     ·exact absurd q hbe
     ·obtain⟨cx,c2,cb',rfl,ec'⟩:=Ky cb (i:=0) (by rw[ecb];simp);have hcx:cx=[]:=Afl ec';subst hcx;have r1':Kd (Tr u.1 (h+1)) ([]++[]++b') ([]++[c2]++cb') l2 P2:=by simpa using r1
      have hkb:KO (kk::b'):=(KO.app.1 hko).2.1;obtain⟨x1,m2,x2,X1,Y1,X2,rfl,rfl,f1,f2,f3,f4,f5⟩:=r1'.focus (by simpa using (KO.cons.1 hkb).2.1) Z Z;rcases f1 with ⟨_,_,rfl,rfl⟩|⟨_,_,q,_⟩
      ·obtain⟨v2,V2,va,vb,rfl,vd⟩:=Kd.one.1 f2;refine fin (A:=k::(P1++(u.2.1.page::Q0++c2::V2)++X2)) (l:=l1++((CH m key).1++m2)++x2) ?_ (by simp) ?_
       ·refine Ags.2 fun a=>?_;simp only[Ahf,Ahl,Ajj];omega
       ·have hm:=VX w4.gd (i0:=a.length) (a:=a) (b:=b') (kk:=kk) (ca:=ca) (cb:=cb') (c1:=u.2.1.page) (c2:=c2) (l1:=l1) (l2:=x2) (P1:=P1) (P2:=X2) hat'.liv ec (by simp at ecb;omega) (by simpa using hko)
          (fun p hp=>hrng p (by simp at hp⊢;rcases hp with hp|hp<;>simp[hp])) (by rw[size_inner];simp only[Afk,Afq,Ahn,Ef,Ds] at hsz⊢;omega) (by simp) g1' f3 b1 b4 va vd
          (by have:=va.size;omega) (.inr vb) (fun x hx=>bb kk (by simp) x hx) (fun x hx=>r2 x (by simp[hx]))
          (fun p hp x hx=>(Afj.1 hx).elim (ba p hp x) (fun hx e=>r2 x (by simp[hx]) (F2 e ((KO.app.1 hko).2.2 p hp kk (by simp)))))
          (fun p hp x hx=>(Afj.1 hx).elim (bb p (by simp[hp]) x) (f5 p hp x)) ?_
        ·have e2:(ca++[u.2.1.page]++([]++[c2]++cb'):List Int)=ca++[u.2.1.page,c2]++cb':=by simp
         have e3:a++kk::b'=a++[kk]++b':=by simp
         rw[e2,e3];exact hm
        ·refine(List.Perm.nodup_iff ?_).1 hnd2;refine Ags.2 fun a=>?_;simp only[Ahf,Ahl,Ajj];omega
      ·simp at q
   ·rw[if_neg h2];have w5':Out u.1 h 1 u.2.1 (CH m key).1 P':=by
     rcases w5 with ⟨z1,n0,Q0,b1,b2,rfl,_,b4⟩|w5
     ·refine .inl ⟨z1,n0,Q0,b1,b2,Z,FM.1 (Ab0 b1.sound ?_),b4⟩;have:¬u.2.1.size<80:=fun q=>h2 ⟨z1,q⟩;omega
     ·exact .inr w5
    rcases TB w4.gd hat' ec hne g1' g3' w5' ba bb hnd2 with ⟨y1,P2',y2,y3⟩|⟨y1,y2⟩
    ·refine .inl ⟨y1,by rw[hisk,w3],.inr ⟨by rw[hisk,w3],P2',(w7.trans y2).mono (by omega),?_⟩⟩;rw[hdel];rcases y3 with ⟨z1,n0,Q0,b1,b2,rfl,_,b4⟩|y3
     ·exact .inl ⟨z1,n0,Q0,b1,b2,Z,Agd _,b4⟩
     ·exact .inr y3
    ·exact .inr ⟨y1,by have:=w4.fr;omega⟩
  ·rw[if_pos (.inl (by rw[w1];decide))];exact .inr ⟨w1,by omega⟩
def TL{key}:∀h,SK key h
 |0=>Aa4
 |h+1=>Aa7 (TL h)
end Go.Gk.Tre
end
section
namespace Go.Gk.Tre
open Go Go.Gk Go.Gk.Dev Go.Gk.Cch Go.Gk.Pgr Go.Gk.Chn Go.Gk.Node
attribute [local irreducible] gwp gws xwp
def PN(P:Program)(f:FuncId):Prop:=∀(x:Nat) {d s dv pv w cv L}{bt:Nat}{Tt}{r h c k:Int}{key cell},x≤1000000→PgT d s dv pv L→Ay d w key→Ay d cv cell→key.length≤1000→cell.length≤1000→ -1≤k→k≤16384→
 Ao P f [pZ bt,vZ k,vZ ((x+1:Nat):Int),w,cv] d (tb bt Tt pv r h c::L) (Ret fun v d' L'=>Le d d'∧∃ua uc L2,v=.tuple #[mdV (Cu s k key cell (x+1)).2.1 ua uc,.bool (Cu s k key cell (x+1)).2.2.1,vZ (Cu s k key cell (x+1)).2.2.2]∧
  Ay d' (.slice ua (Cu s k key cell (x+1)).2.1.key.length uc) (Cu s k key cell (x+1)).2.1.key∧MOk (Cu s k key cell (x+1)).2.1∧L'=tb bt Tt pv r h c::L2∧PgT d' (Cu s k key cell (x+1)).1 dv pv L2)
def M3(a0 a1 a2 a3 a4 a5 a6 a7:Nat):A9:=⟨116,[(.cell 10 (some 4)),(.tmp 11),(.tmp 12)],(sR (o1 10 (.alo (.agg #[(vZ 0),(vZ 0),nV,(vZ 0)]))<|o1 11 (.mv (.const (.bool false)))<|o1 12 (.mv z0) .done) (sR (om 24 0<|om 25 1<|om 26 2<|oc 27 a0 [24,25,26]<|om 23 27<|oe 28 23 0<|oe 29 23 1<|o1 13 (.alo (.agg #[(.bool false),nV,nV,nV]))<|o0 (.st 4 13 28)<|om 14 29 .done) (.seq (sR (om 30 14<|ob 31 .neq 30 z0 .done) (.cond 31 (sR (o1 32 (.bld [(0,1),(1,1),(2,1),(3,1)] [(vZ 0),(vZ 0),nV,(vZ 0)] [])<|om 33 14<|o0 (.st 4 10 32)<|o1 11 (.mv (.const (.bool false)))<|om 12 33 .done) .ret) .skip)) (sR (o1 35 (.ld (some 4) 13)<|om 36 3<|oc 37 a1 [35,36]<|om 34 37<|oe 38 34 0<|oe 39 34 1<|om 15 38<|om 16 39 .done) (.seq (sR (om 40 2<|ob 41 .eql 40 z1 .done) (.cond 41 (.seq (sR (om 42 16 .done) (.cond 42 (.seq (sR (om 43 0<|oj 44 2 13<|ol 45 44<|om 46 15<|oI 47 1 45 46<|ol 48 47<|oc 49 a2 [43,48]<|om 17 49 .done) (sR (om 50 17<|ob 51 .neq 50 z0 .done) (.cond 51 (sR (o1 52 (.bld [(0,1),(1,1),(2,1),(3,1)] [(vZ 0),(vZ 0),nV,(vZ 0)] [])<|om 53 17<|o0 (.st 4 10 52)<|o1 11 (.mv (.const (.bool false)))<|om 12 53 .done) .ret) .skip))) (rG (oj 54 2 13<|ol 55 54<|om 56 15<|om 57 4<|oI 58 1 55 56<|o0 (.st 1 58 57) .done))) (.reg true (p1 59 (.fld 1 13)<|pl 60 59<|pm 61 15<|pm 62 3<|p1 66 (.fld 2 13)<|pl 67 66<|pm 68 15<|pm 69 4 (.par (o1 70 (.bsl 1 1 [nV] [(0,69)]) .done) (oc 63 a3 [62] (o1 64 (.bsl 1 1 [nV] [(0,63)]) (oc 65 a4 [60,61,64] (p1 72 (.fld 1 13) .done)))) (oc 71 a4 [67,68,70] (.bar (o0 (.st 1 72 65) (p1 73 (.fld 2 13) (o0 (.st 1 73 71) .done)))))))))) (sR (om 75 0<|om 76 1<|o1 77 (.ld (some 4) 13)<|oc 78 a5 [75,76,77]<|om 74 78<|oe 79 74 0<|oe 80 74 1<|o1 18 (.alo (.agg #[(vZ 0),(vZ 0),nV,(vZ 0)]))<|o0 (.st 4 18 79)<|om 19 80 .done) (sR (o1 81 (.ld (some 4) 18)<|om 82 16<|o1 83 (.un .not 82)<|om 84 19<|o0 (.st 4 10 81)<|om 11 83<|om 12 84 .done) .ret))) .skip)) (sR (om 86 0<|oj 87 3 13<|ol 88 87<|om 89 15<|oI 90 1 88 89<|ol 91 90<|om 92 2<|ob 93 .sub 92 z1<|om 94 3<|om 95 4<|oc 96 a6 [86,91,93,94,95]<|om 85 96<|oe 97 85 0<|oe 98 85 1<|oe 99 85 2<|o1 20 (.alo (.agg #[(vZ 0),(vZ 0),nV,(vZ 0)]))<|o0 (.st 4 20 97)<|om 21 98<|om 14 99 .done) (.seq (sR (om 100 14<|ob 101 .neq 100 z0 .done) (.cond 101 (sR (o1 102 (.bld [(0,1),(1,1),(2,1),(3,1)] [(vZ 0),(vZ 0),nV,(vZ 0)] [])<|om 103 14<|o0 (.st 4 10 102)<|o1 11 (.mv (.const (.bool false)))<|om 12 103 .done) .ret) .skip)) (sR (om 105 0<|om 106 1<|o1 107 (.ld (some 4) 13)<|om 108 15<|o1 109 (.ld (some 4) 20)<|oc 110 a7 [105,106,107,108,109]<|om 104 110<|oe 111 104 0<|oe 112 104 1<|o1 22 (.alo (.agg #[(vZ 0),(vZ 0),nV,(vZ 0)]))<|o0 (.st 4 22 111)<|om 14 112 .done) (sR (o1 113 (.ld (some 4) 22)<|om 114 21<|om 115 14<|o0 (.st 4 10 113)<|om 11 114<|om 12 115 .done) .ret)))))))))⟩
set_option maxRecDepth 4000 in
set_option maxHeartbeats 4000000 in
def Acl{P f f1 f2 f3 f4 f5 f6 f8}(hd:Jj P f=some (M3 f1 f2 f3 f4 f5 f6 f f8))(h1:I7 P f1)(h2:I6 P f2 findD)(h3:NI P f3)(h4:ER Ax 1 P f4)(h5:KJ RBs P f5)(h6:IZ P f6)(h8:LH P f8):PN P f:=by
 intro x;induction x using Nat.strongRecOn with
 |ind x ih=>
 intro d s dv pv w cv L bt Tt r h c k key cell hx hp hw hcv hkl hcl hk0 hk1;obtain⟨bp,rfl⟩:=hp.ptr;have hG:=hp.Fc;obtain⟨tc0,hp⟩:=hp;obtain⟨wa,wc,rfl⟩:=hw.val;obtain⟨ca,cc,rfl⟩:=hcv.val;refine Bj hd ?_;apply Aw;apply Av;refine B8 (fun b10 T10=>?_);refine Ad Z<|A7 Z<|Ag Z<|Ab Z<|Ab Z<|A0 [_] (h1 (k:=k) (x:=((x+1:Nat):Int)) hp) Z Z (fun v d2 L2 hl ⟨_,cs,hk,hv,hi,L3,tc,e1,e2,hn,hp2,htc⟩=>?_);subst e1;subst e2;have hp2:PgT d2 s dv (pZ bp) L3:=⟨tc,hp2⟩
 rw[show AM {s with tc:=tc0} k ((x+1:Nat):Int)=AM s k ((x+1:Nat):Int) from Z] at hn⊢;obtain⟨ka,kc,va,vc,ia,ic,rfl⟩:=hn.cells;(refine AO Z<|AW Z Z Z Z<|B8 (fun _ _=>?_));rename_i b13 T13;refine BA 0 Z Z Z Z (Afe _) Z ?_;by_cases he:(AM s k ((x+1:Nat):Int)).2=0
 ·obtain⟨hr,hlf⟩:=F7 he;obtain⟨n,hne⟩:∃n,(AM s k ((x+1:Nat):Int)).1=n:=⟨_,Z⟩
  rw[hne] at hn hr hlf⊢;obtain⟨hfit,hk64⟩:=H4 hr;obtain⟨i,b,hfd⟩:∃i b,findD n key=(i,b):=⟨_,_,Z⟩
  have hile:i≤n.keys.length:=by have:=KZ (n:=n) (key:=key);rw[hfd] at this;exact this
  rw[he];have hw2:=RSl.mono (R:=Ax) AF hw hl;have hcv2:=RSl.mono (R:=Ax) AF hcv hl;have hlv:n.leaf=true→n.vals.length=n.keys.length:=HA hr;have hli:n.leaf=false→n.kids.length=n.keys.length+1:=GB hr;have hkd:=R5 hr;clear hr;have hnk:=hn;obtain⟨kv,vv,iv,q,r1,r2,r3⟩:=hn;cases q;(refine AR Z<|Ab Z<|AJ Z Z<|AT Z<|Ak<|Bk 0 Z Z Z<|Ae Z ?_);refine IY Z (v:=.tuple #[vZ i,.bool b]) (fun d1 hl1 hk1=>by
   have:=h2 (Es.JR ⟨_,_,_,Z,r1,r2,r3⟩ hl1 (hk1 _ (by simp)) (hk1 _ (by simp)) (hk1 _ (by simp))) (RSl.mono (R:=Ax) AF hw2 hl1);rw[hfd] at this;exact this) ?_
  (refine AO Z<|AW Z Z Z Z<|Ab Z<|AV Z ?_);apply Aw;apply Aw;apply Av;(refine Ab Z<|AI Z Z<|An ?_);by_cases hx0:x=0
  ·subst hx0;have hvl:=hlv (by rw[hlf];rfl);clear hlv hli hlf;refine EO Z (by omega) ?_;refine G1 (fun ρ d' L'=>Le d2 d'∧∃cs' n' s' hk' hv' hi' L4 Lr,BN ρ [(0,pZ bt),(1,vZ k),(10,pZ b10),(13,pZ b13),(16,.bool b)]∧Es d' cs' n' hk' hv' hi'∧Fit n' 600∧PgT d' s' dv (pZ bp) L4∧
    Cu s k key cell (0+1)=((Bp s' k n').1,(Bp s' k n').2.1, !b,(Bp s' k n').2.2)∧Lr.Perm [hk',hv',hi']∧L'=bx b13 T13 cs'::bx b10 T10 [vZ 0,vZ 0,nV,vZ 0]::(Lr++tb bt Tt (pZ bp) r h c::L4)) ?_ ?_
   ·cases b with
    |true=>
     have hilt:i<n.keys.length:=by have:=OF (n:=n) (key:=key) (by rw[hfd]);rw[hfd] at this;exact this
     have hiv:i<n.vals.length:=by omega
     have hI:=VR (cell:=cell) he hne hfd
     have hgv:n.vals.getD i []=n.vals[i]:=by rw[Afd,Afc hiv];rfl
     rw[hgv] at hI
     obtain⟨b1,T1,l1,c1,cs1,q1,rfl,hcl1,hcs,hle1,⟨u,rfl,hu⟩,hset⟩:=Ai.at (by omega) r2 hiv
     cases q1
     have c0:=hcs 0 _ Z
     (refine Ak<|AV Z<|Er Z<|AZ<|Ag Z<|Az Z Z Z<|Ab Z<|BT _ Z Z Z (by omega)<|Ah Z (AG 3 Z (by assumption)) ?_)
     refine A0 [_,_,_,_,_] (h3 hp2 hu) Z Z (fun v d3 L4 hl3 ⟨_,e3,L5,e4,hp5⟩=>?_)
     subst e3;subst e4
     by_cases hz:(Ci s n.vals[i]).2=0
     ·rw[if_neg (fun q=>q hz)] at hI
      rw[hz]
      have hrow:=hset [.slice ca cell.length cc] cell Z ⟨_,Z,hcv2⟩
      (refine A7 Z<|Ab Z<|AJ Z Z<|AT Z<|Av<|Az Z Z Z<|Ab Z<|Ae Z<|BT _ Z Z Z (by omega) ?_)
      refine Bb 3 (patch l1 (i*1) [.slice ca cell.length cc]) Z Z Z Z (by omega) Z Z ?_
      (apply An)
      refine⟨hl3,_,{n with vals:=n.vals.set i cell},_,hk,_,hi,L5,[_,_,_],⟨Z,Z,Z,Z,Z,trivial⟩,⟨_,_,_,Z,r1.DY hl3,hrow.DY hl3,r3.JJ hl3⟩,⟨?_,?_,?_,hfit.kl,fun y hy=>?_⟩,hp5,hI,Agq _,?_⟩
      ·have:=hfit.k;show n.keys.length≤600;omega
      ·have:=hfit.v;show(n.vals.set i cell).length≤600;rw[Agg];omega
      ·have:=hfit.i;show n.kids.length≤600;omega
      ·rcases Ri hy with rfl|hy
       ·exact hcl
       ·exact hfit.vl y hy
      ·rfl
     ·rw[if_pos hz] at hI
      rw[hI]
      (refine A7 Z<|Ab Z<|AJ Z Z<|A5 Z<|Ak<|BY Z<|Ab Z ?_)
      refine BA 1 Z Z Z Z (Afe _) Z ?_
      (refine Ad Z<|AS Z ?_)
      exact A6 [mdV CO none 0,.bool false,vZ (Ci s n.vals[i]).2] ⟨AY 1 Z Z Z,Af Z,Af Z,trivial⟩ (d':=d3) (L':=tb bt Tt (pZ bp) r h c::L5) (Vs.drop (.cons _ (.cons _ (.cons _ (.cons _ (.cons _ (Afa _))))))) ⟨hl.trans hl3,none,0,L5,Z,RSl.nil,ES,Z,hp5⟩
    |false=>
     have hI:=VI (cell:=cell) he hne hfd
     have hfk:=hfit.k
     have hfv:=hfit.v
     (refine Ak<|AV Z<|Cn Z ?_)
     refine BE [_,_] (hk::hv::hi::tb bt Tt (pZ bp) r h c::L3) Z ?_
     (refine Az Z Z Z<|Ab Z<|Ae Z<|Az Z Z Z<|Ab Z<|Ae Z ?_)
     refine Gh (α:=Nat×TypeId) (β:=Option Addr×Nat×Aa) [(0,pZ bt),(1,vZ k),(10,pZ b10),(13,pZ b13),(16,.bool false),(67,.slice va n.vals.length vc),(68,vZ i)]
      (fun x=>[(70,.slice (some ⟨x.1,0,none⟩) 1 1)]) (fun x d L=>L=[bx x.1 x.2 [.slice ca cell.length cc]]) (fun y=>[(65,.slice y.1 (n.keys.length+1) y.2.1),(72,.pointer (some ⟨b13,1,none⟩))])
      (fun y d' M=>Ai 1 RBs d' (.slice y.1 (n.keys.length+1) y.2.1) (Cv n.keys i key) y.2.2∧M=y.2.2::hv::hi::tb bt Tt (pZ bp) r h c::L3) [] _ Z
      (fun x d d' M hl h=>h) (fun y d d' M hl h=>⟨h.1.DY hl,h.2⟩) (fun x=>Z) (fun y=>Z) Z ⟨Z,Z,Z,Z,Z,Z,Z,trivial⟩ ?_ ?_ ?_
     ·refine DN (v0:=.slice ca cell.length cc) Z Z (fun b70 T70=>?_)
      (apply A8)
      exact⟨_,Z,(b70,T70),⟨Z,trivial⟩,Z⟩
     ·refine Bz Z (h4 hw2 (by omega)) (fun v d3 L3' _ ⟨e0,hc,e1,hgc⟩=>?_)
      subst e0;subst e1
      obtain⟨ga0,gc0,rfl⟩:=hgc.val
      refine HZ (fun d4 hl4 hg4=>?_)
      have hkey4:Ay d4 (.slice ga0 key.length gc0) key:=Ai.rsl (R:=Ax) (sz:=1) hgc AF (by omega) hl4 hg4
      refine DN (v0:=.slice ga0 key.length gc0) Z Z (fun b64 T64=>?_)
      refine Ek (A:=[_,_]) Z Z (h5 (r1.DY hl4) hile (by omega) ⟨_,Z,hkey4⟩ FA) (fun v d5 L5 hl5 ⟨e2,h',e3,hg⟩=>?_)
      subst e2;subst e3
      have hgl:=FX (y:=key) hile
      obtain⟨ga,gc,rfl⟩:=hg.val
      rw[hgl] at hg⊢
      (refine Am Z<|A8 ?_)
      exact⟨_,Z,(ga,gc,h'),⟨Z,Z,trivial⟩,hg,Z⟩
     ·rintro⟨b70,T70⟩ ⟨ga,gc,h65⟩ ρ2 d3 M1 M2 hl3 hM1 ⟨hg65,hM2⟩
      subst hM1;subst hM2
      simp only at hg65⊢
      refine DO (A:=[bx b70 T70 [.slice ca cell.length cc],hv]) (h5 (r2.DY hl3) (show i≤n.vals.length by omega) (by omega) ⟨_,Z,RSl.mono (R:=Ax) AF hcv2 hl3⟩ FA) (Afm _ (Agi (l₁:=[_]))) Z (fun v d4 L4 hl4 ⟨e0,h71,e1,hg71⟩=>?_)
      subst e0;subst e1
      obtain⟨za,zc,rfl⟩:=hg71.val
      refine⟨_,_,Vs.refl _ _,?_⟩
      apply Cw
      refine Bb 0 [.bool n.leaf,.slice ga (n.keys.length+1) gc,.slice va n.vals.length vc,.slice ia n.kids.length ic] Z Z Z Z (Aff Z) Z Z ?_
      (apply Am;rfl)
      refine Bb 0 [.bool n.leaf,.slice ga (n.keys.length+1) gc,.slice za (Cv n.vals i cell).length zc,.slice ia n.kids.length ic] Z Z Z Z (Aff Z) Z Z ?_
      (apply An)
      refine⟨hl3,_,{n with keys:=Cv n.keys i key,vals:=Cv n.vals i cell},s,h65,h71,hi,L3,[_,_,_],⟨Z,Z,Z,Z,Z,trivial⟩,⟨_,_,_,Z,hg65,hg71,r3.JJ hl3⟩,⟨?_,?_,?_,fun y hy=>?_,fun y hy=>?_⟩,hp2.mono hl3,hI,Afx _ _ _,?_⟩
      ·show(Cv n.keys i key).length≤600
       rw[FX hile];omega
      ·show(Cv n.vals i cell).length≤600
       rw[FX (by omega)];omega
      ·have:=hfit.i;show n.kids.length≤600;omega
      ·rcases Li hy with rfl|hy
       ·exact hkl
       ·exact hfit.kl y hy
      ·rcases Li hy with rfl|hy
       ·exact hcl
       ·exact hfit.vl y hy
      ·rfl
   ·rintro ρ d' L' ⟨hle,cs',n',s',hk',hv',hi',L4,Lr,hsl,hn',hfit',hp',hI,hpm,hLL⟩;subst hLL;rw[hI];obtain⟨ka',kc',va',vc',ia',ic',rfl⟩:=hn'.cells;refine CU _ hsl ?_;obtain⟨d4,hl4,v4,hn4⟩:=Gs hn';have hmo:=HL hp'.Fc (n:=n') hk0 hk1 hfit'.kl;refine A3 Z<|Ab Z<|Bk 0 Z Z Z<|B1 _ _ (Vs.out [_,_] _ hpm v4)<|A0 [_,_] (h6 (k:=k) (hp'.mono hl4) hn4 (hfit'.small (by omega))) Z Z (fun v d5 L5 hl5 ⟨_,ua,uc,L6,e5,hk5,e6,hp6⟩=>?_);subst e5;subst e6;(refine AO Z<|AW Z Z Z Z<|B8 (fun _ _=>?_));rename_i b18 T18;refine BA 0 Z Z Z Z (Afe _) Z<|A7 Z<|Bk 0 Z Z Z<|Ad Z<|Bm Z<|Ab Z<|BA 2 Z Z Z Z (Afe _) Z<|Ad Z<|AS Z<|A6 [mdV (Bp s' k n').2.1 ua uc,.bool (!b),vZ (Bp s' k n').2.2] ⟨AY 2 Z Z Z,Af Z,Af Z,trivial⟩ (d':=d5) (L':=tb bt Tt (pZ bp) r h c::L6) (Vs.drop (.cons _ (.cons _ (.cons _ (Afa _))))) ⟨((hl.trans hle).trans hl4).trans hl5,ua,uc,L6,Z,hk5,hmo,Z,hp6⟩
  ·obtain⟨x,rfl⟩:∃y,x=y+1:=⟨x - 1,by omega⟩
   have hil:=hli (by rw[hlf];simp;omega);clear hlv hli hlf;have hI:=PR (key:=key) (cell:=cell) he hne hfd;have hii:i<n.kids.length:=by omega
   have hgk:n.kids.getD i 0=n.kids[i]:=by rw[Afd,Afc hii];rfl
   rw[hgk] at hI;have hkb:=hkd _ (Agb hii);have hnk0:=hnk;obtain⟨b1,T1,l1,c1,cs1,q1,rfl,hcl1,hcs,hle1,⟨rfl,hb1,hb2⟩, -⟩:=Ai.at (by omega) r3 hii;cases q1;have c0:=hcs 0 _ Z;refine Fs Z (by omega)<|AH<|A3 Z<|Az Z Z Z<|Ab Z<|BT _ Z Z Z (by omega)<|Ah Z (AG 4 Z (by assumption))<|Ab Z<|DT Z Z<|Ae Z<|Ae Z<|Fj (g:=93) (v:=vZ ((x+1:Nat):Int)) (congrArg (Value.int .i64) (by push_cast;omega)) ?_;skip;refine A0 [_,_,_,_,_] (ih x (Nat.lt_succ_self x) (k:=n.kids[i]) (by omega) hp2 hw2 hcv2 hkl hcl (by omega) (by omega)) Z Z (fun v d3 L4 hl3 ⟨_,ua,uc,L5,e3,hk3,hm3,e4,hp5⟩=>?_);subst e3;subst e4;generalize Cu s n.kids[i] key cell (x+1)=U at hI hk3 hm3 hp5;(refine AO Z<|AW Z Z Z Z<|Dl Z Z<|B8 (fun _ _=>?_));rename_i b20 T20;refine BA 0 Z Z Z Z (Afe _) Z ?_;by_cases hz:U.2.2.2=0
   ·rw[if_neg (fun q=>q hz)] at hI;rw[hI,hz];have hmo:=R1 hp5.Fc (n:=n) (i:=i) hk0 hk1 hfit.kl hm3;refine Ad Z<|AR Z<|Ab Z<|AJ Z Z<|AT Z<|A3 Z<|Ab Z<|Bk 1 Z Z Z<|Ab Z<|Bk 0 Z Z Z<|A0 [_,_,_] (h8 (k:=k) (n:=n) (i:=i) (m:=U.2.1) hp5 (hnk0.mono hl3) ⟨by have:=hfit.k;omega,by have:=hfit.v;omega,by have:=hfit.i;omega,hfit.kl,hfit.vl⟩ hii (fun _=>hile) hm3 hk3) Z Z (fun v d6 L6 hl6 ⟨_,ua',uc',L7,e6,hk6,e7,hp7⟩=>?_);subst e6;subst e7;(refine AO Z<|AW Z Z Z Z<|B8 (fun _ _=>?_));rename_i b22 T22;refine BA 0 Z Z Z Z (Afe _) Z<|A7 Z<|Bk 0 Z Z Z<|Ad Z<|Ab Z<|BA 3 Z Z Z Z (Afe _) Z<|Ad Z<|AS Z<|A6 [mdV (CS U.1 k n i U.2.1).2.1 ua' uc',.bool U.2.2.1,vZ (CS U.1 k n i U.2.1).2.2] ⟨AY 3 Z Z Z,Af Z,Af Z,trivial⟩ (d':=d6) (L':=tb bt Tt (pZ bp) r h c::L7) (Vs.drop (.cons _ (.cons _ (.cons _ (.cons _ (Afa _)))))) ⟨(hl.trans hl3).trans hl6,ua',uc',L7,Z,hk6,hmo,Z,hp7⟩
   ·rw[if_pos hz] at hI;rw[hI];refine Ad Z<|AR Z<|Ab Z<|AJ Z Z<|A5 Z<|Ak<|BY Z<|Ab Z<|BA 2 Z Z Z Z (Afe _) Z<|Ad Z<|AS Z<|A6 [mdV CO none 0,.bool false,vZ U.2.2.2] ⟨AY 2 Z Z Z,Af Z,Af Z,trivial⟩ (d':=d3) (L':=tb bt Tt (pZ bp) r h c::L5) (Vs.drop (.cons _ (.cons _ (.cons _ (.cons _ (.cons _ (.cons _ (Afa _)))))))) ⟨hl.trans hl3,none,0,L5,Z,RSl.nil,ES,Z,hp5⟩
 ·rw[Aa5 he];refine AR Z<|Ab Z<|AJ Z Z<|A5 Z<|Ak<|BY Z<|Ab Z<|BA 1 Z Z Z Z (Afe _) Z<|Ad Z<|AS Z<|A6 [mdV CO none 0,.bool false,vZ (AM s k ((x+1:Nat):Int)).2] ⟨AY 1 Z Z Z,Af Z,Af Z,trivial⟩ (d':=d2) (L':=tb bt Tt (pZ bp) r h c::L3) (Vs.drop (.cons _ (.cons _ (.cons _ (.cons _ (.cons _ (Afa _))))))) ⟨hl,none,0,L3,Z,RSl.nil,ES,Z,hp2⟩
end Go.Gk.Tre
end
section
namespace Go.Gk.Tre
open Go Go.Gk Go.Gk.Dev Go.Gk.Cch Go.Gk.Pgr Go.Gk.Chn Go.Gk.Node
def S6:∀(l:List Int) (s:PD),Pgr.AL s (D7 s l)
 |[],s=>Pgr.AL.refl s
 |k::l,s=>(Pgr.AL.drop s k).trans (S6 l _)
def Py:∀(n:Nat) (s:PD) (l:List Int),Pgr.AL s (Cj s l n).1
 |0,s,l=>Pgr.AL.refl s
 |n+1,s,l=>by
  rw[Cj];split
  ·exact(Pgr.AL.AX s).trans (Py n _ _)
  ·exact Pgr.AL.AX s
def VE{s}{l:List Int}{b}:∀i,Pgr.AL s (Chn.Dh s l b i)
 |0=>Pgr.AL.refl s
 |i+1=>(VE i).trans (Pgr.AL.put _ _ _)
def Acp(s:PD)(b:List UInt8):Pgr.AL s (B0 s b).1:=by
 have h:Pgr.AL s (Chn.BF s (AN b.length)).1:=by
  unfold Chn.BF;split
  ·exact Py _ _ _
  ·exact(Py _ _ _).trans (S6 _ _)
 unfold B0;dsimp only;split
 ·exact h.trans (VE _)
 ·exact h
def Ul:∀(l:List Int) (s:PD),Pgr.AL s (Ee s l).1
 |[],s=>Pgr.AL.refl s
 |k::l,s=>by
  rw[Ee];split
  ·exact(Pgr.AL.drop s k).trans (Ul l _)
  ·exact Pgr.AL.drop s k
def ZG(s:PD)(k n:Int):Pgr.AL s (Eu s k n).1:=by
 unfold Eu;split
 ·exact Ul _ _
 ·exact Pgr.AL.refl s
def Ns(s:PD)(c:List UInt8):Pgr.AL s (Ci s c).1:=by
 unfold Ci;split
 ·exact Pgr.AL.refl s
 ·split
  ·exact ZG _ _ _
  ·exact Pgr.AL.refl s
def Nw(s:PD)(v:List UInt8):Pgr.AL s (Cb s v).1:=by
 unfold Cb;split
 ·exact Pgr.AL.refl s
 ·exact Acp s v
def IW(s:PD)(k:Int)(n:AB):Pgr.AL s (Bg s k n).1:=by
 unfold Bg;split
 ·split
  ·exact Pgr.AL.put _ _ _
  ·split
   ·exact Pgr.AL.AX s
   ·split
    ·split
     ·exact(Pgr.AL.AX s).trans (Pgr.AL.drop _ _)
     ·exact((Pgr.AL.AX s).trans (Pgr.AL.drop _ _)).trans (Pgr.AL.put _ _ _)
    ·exact(Pgr.AL.AX s).trans (Pgr.AL.put _ _ _)
 ·exact Pgr.AL.refl s
def FN(s:PD)(k:Int)(n:AB):Pgr.AL s (Bp s k n).1:=by
 unfold Bp;split
 ·exact IW _ _ _
 ·split
  ·show Pgr.AL s (if (Bg s k (Ba n)).2.2=0 then _ else _:PD×MdD×Int).1;split
   ·exact(IW _ _ _).trans (IW _ _ _)
   ·exact IW _ _ _
  ·exact Pgr.AL.refl s
def TG(s:PD)(k:Int)(n:AB)(i:Nat)(m:MdD):Pgr.AL s (CS s k n i m).1:=by
 unfold CS;split
 ·exact Pgr.AL.refl s
 ·split
  ·exact FN _ _ _
  ·exact FN _ _ _
def P0(key cell:List UInt8):∀(h:Nat) (s:PD) (k:Int),Pgr.AL s (Cu s k key cell h).1
 |0,s,k=>Pgr.AL.refl s
 |h+1,s,k=>by
  rw[Cu];dsimp only;split
  ·exact Pgr.AL.refl s
  ·split
   ·split
    ·split
     ·exact Ns _ _
     ·exact(Ns _ _).trans (FN _ _ _)
    ·exact FN _ _ _
   ·split
    ·exact P0 key cell h _ _
    ·exact(P0 key cell h _ _).trans (TG _ _ _ _ _)
def Ab6(s:PD)(k:Int)(n:AB)(i:Nat):Pgr.AL s (Eh s k n i).1:=by
 unfold Eh;split
 ·exact Pgr.AL.refl s
 ·dsimp only;generalize (if i=n.keys.length then i - 1 else i)=j;split
  ·exact Pgr.AL.refl s
  ·split
   ·exact Pgr.AL.refl s
   ·split
    ·exact Pgr.AL.refl s
    ·split
     ·exact FN _ _ _
     ·split
      ·exact(FN _ _ _).trans (Pgr.AL.drop _ _)
      ·split
       ·exact((FN _ _ _).trans (Pgr.AL.drop _ _)).trans (FN _ _ _)
       ·exact((FN _ _ _).trans (Pgr.AL.drop _ _)).trans (FN _ _ _)
def PH(key:List UInt8):∀(h:Nat) (s:PD) (k:Int),Pgr.AL s (Cm s k key h).1
 |0,s,k=>Pgr.AL.refl s
 |h+1,s,k=>by
  rw[Cm];dsimp only;split
  ·exact Pgr.AL.refl s
  ·split
   ·split
    ·split
     ·exact Ns _ _
     ·exact(Ns _ _).trans (FN _ _ _)
    ·exact Pgr.AL.refl s
   ·split
    ·exact PH key h _ _
    ·have h0:=PH key h s ((AM s k ((h+1:Nat):Int)).1.kids.getD (findD (AM s k ((h+1:Nat):Int)).1 key).1 0);split
     ·exact h0.trans (Ab6 _ _ _ _)
     ·exact h0.trans (TG _ _ _ _ _)
def V0(t:TD)(m:MdD):Pgr.AL t.s (Dg t m).1.s:=by
 unfold Dg;split
 ·exact Pgr.AL.refl _
 ·exact IW _ _ _
def Yy(t:TD):Pgr.AL t.s (El t).1.s:=by
 unfold El;dsimp only;split
 ·exact Pgr.AL.refl _
 ·split
  ·exact Pgr.AL.drop _ _
  ·exact Pgr.AL.drop _ _
def XP(t:TD)(key value:List UInt8):Pgr.AL t.s (Df t key value).1.s:=by
 unfold Df;dsimp only;split
 ·exact Nw _ _
 ·split
  ·exact(Nw _ _).trans (IW _ _ _)
  ·split
   ·exact(Nw _ _).trans (P0 _ _ _ _ _)
   ·exact((Nw _ _).trans (P0 _ _ _ _ _)).trans (V0 {t with s:=_,count:=_} _)
def XM(t:TD)(key:List UInt8):Pgr.AL t.s (Ch t key).1.s:=by
 unfold Ch;split
 ·exact Pgr.AL.refl _
 ·dsimp only;split
  ·exact PH _ _ _ _
  ·have h:=(PH key t.height t.s t.root).trans (V0 {t with s:=(Cm t.s t.root key t.height).1,count:=t.count - 1} (Cm t.s t.root key t.height).2.1);split
   ·exact h
   ·exact h.trans (Yy _)
end Go.Gk.Tre
end
section
namespace Go.Gk.Tre
open Go Go.Gk Go.Gk.Dev Go.Gk.Cch Go.Gk.Pgr Go.Gk.Chn Go.Gk.Node
attribute [local irreducible] gwp gws xwp
variable{s:PD}{root:Int}
structure QS (t:TD):Prop where
 r0: -1≤t.root
 r1:t.root≤16384
 h:t.height≤900000
 c:t.count≤900000
def Abe(s:PD)(v:List UInt8):(Cb s v).2.1.length≤16:=by
 unfold Cb;split
 ·rename_i h;simp;omega
 ·simp[Ge]
def N8(a0 a1 a2 a3 a4:Nat):A9:=⟨76,[(.tmp 3)],(sR (o1 3 (.mv z0) .done) (sR (ol 11 0<|ol 12 1<|oc 13 a0 [11,12]<|om 10 13<|oe 14 10 0<|oe 15 10 1<|om 4 14<|om 5 15 .done) (.seq (sR (om 16 5<|ob 17 .neq 16 z0 .done) (.cond 17 (sR (om 18 5<|om 3 18 .done) .ret) .skip)) (.seq (sR (ol 19 0<|o1 20 (.nilc 19)<|oj 21 2 20<|ol 22 21<|ob 23 .eql 22 z0 .done) (.cond 23 (sR (ol 25 0<|ol 26 2<|o1 27 (.bsl 1 1 [nV] [(0,26)])<|om 28 4<|o1 29 (.bsl 1 1 [nV] [(0,28)])<|o1 30 (.bld [(0,1),(1,1),(2,1),(3,1)] [(.bool false),nV,nV,nV] [(0,(.const (.bool true))),(1,27),(2,29)])<|oc 31 a1 [25,(kZ (-1)),30]<|om 24 31<|oe 32 24 0<|oe 33 24 1<|om 6 32<|om 7 33 .done) (sR (ol 34 0<|ol 35 0<|ol 36 0<|om 37 6<|o1 38 (.nilc 34)<|oj 39 1 38<|o0 (.st 1 39 37)<|o1 40 (.nilc 35)<|oj 41 2 40<|o0 (.st 1 41 z1)<|o1 42 (.nilc 36)<|oj 43 3 42<|o0 (.st 1 43 z1) .done) (sR (om 44 7<|om 3 44 .done) .ret))) .skip)) (.seq (.reg true (pl 46 0<|pl 47 0<|p1 48 (.nilc 47)<|p1 49 (.fld 1 48)<|pl 50 49<|pl 51 0<|p1 52 (.nilc 51)<|p1 53 (.fld 2 52)<|pl 54 53<|pl 55 2<|pm 56 4 (.par (o1 8 (.alo (.agg #[(vZ 0),(vZ 0),nV,(vZ 0)])) .done) (oc 57 a2 [46,50,54,55,56] (pm 45 57 (p1 58 (.ext 45 0) (p1 59 (.ext 45 1) (p1 60 (.ext 45 2) .done))))) (o0 (.st 4 8 58) (pm 9 59 (pm 5 60 .done)))))) (.seq (sR (om 61 5<|ob 62 .neq 61 z0 .done) (.cond 62 (sR (om 63 5<|om 3 63 .done) .ret) .skip)) (.seq (.reg true (pl 64 0<|p1 65 (.nilc 64)<|p1 66 (.fld 3 65)<|pl 67 66<|pm 68 9<|oc 69 a3 [68]<|p1 70 (.bin .add 67 69)<|p1 71 (.nilc 64)<|p1 72 (.fld 3 71) (.bar (o0 (.st 1 72 70) .done)))) (sR (ol 73 0<|o1 74 (.ld (some 4) 8)<|oc 75 a4 [73,74]<|om 3 75 .done) .ret))))))))⟩
def Dy(t:TD)(key value:List UInt8):TD×Int:=
 if Cl key≠0 then(t,Cl key) else if 16384<value.length then(t,3) else(CL t (Df t key value).1 (Df t key value).2,(Df t key value).2)
def PT(a0 a1 a2:Nat):A9:=⟨20,[(.tmp 6)],(sR (o1 3 (.box 0)<|o1 4 (.box 1)<|o1 5 (.box 2)<|o1 6 (.mv z0) .done) (.seq (sR (ol 8 3<|ol 9 4<|oc 10 a0 [8,9]<|om 7 10 .done) (sR (om 11 7<|ob 12 .neq 11 z0 .done) (.cond 12 (sR (om 13 7<|om 6 13 .done) .ret) .skip))) (.seq (sR (ol 14 5<|oL 15 14<|ob 16 .gtr 15 (kZ 16384) .done) (.cond 16 (sR (o1 6 (.mv (kZ 3)) .done) .ret) .skip)) (sR (ol 17 3<|o1 18 (.mkf (.func a1) [] [3,5,4])<|oc 19 a2 [17,18]<|om 6 19 .done) .ret))))⟩
def IL(P:Program)(f:FuncId):Prop:=∀{d}{t:TD}{bt pb:Nat}{Tt L},Ea P f [pZ bt] d (tbD bt Tt (pZ pb) t::L) (vZ t.root)
def Pz(a0:Nat):A9:=⟨9,[(.tmp 2)],(sR (o1 2 (.mv z0) .done) (.seq (sR (om 3 0<|oc 4 a0 [3] .done) (.cond 4 (sR (o1 2 (.mv (kZ (-1))) .done) .ret) .skip)) (sR (om 5 0<|o1 6 (.nilc 5)<|oj 7 1 6<|ol 8 7<|om 2 8 .done) .ret)))⟩
def Abm{P f f1}(hd:dec P f=some (Pz f1))(h1:IM P f1):IL P f:=by
 intro d t bt pb Tt L;refine Bj hd<|AE Z<|BG<|Ag Z<|B9 [] (h1 (L:=L)) Z Z<|Be Z<|A3 Z<|Ap Z<|Az Z Z Z<|AS Z<|BZ Z (Afa _) ⟨Z,Z,Z⟩
def Gw(P:Program)(f:FuncId):Prop:=∀{d}{t:TD}{bt pb:Nat}{Tt L},Ea P f [pZ bt] d (tbD bt Tt (pZ pb) t::L) (vZ t.height)
def Mn(a0:Nat):A9:=⟨9,[(.tmp 2)],(sR (o1 2 (.mv z0) .done) (.seq (sR (om 3 0<|oc 4 a0 [3] .done) (.cond 4 (sR (o1 2 (.mv z0) .done) .ret) .skip)) (sR (om 5 0<|o1 6 (.nilc 5)<|oj 7 2 6<|ol 8 7<|om 2 8 .done) .ret)))⟩
def WN{P f f1}(hd:dec P f=some (Mn f1))(h1:IM P f1):Gw P f:=by
 intro d t bt pb Tt L;refine Bj hd<|AE Z<|BG<|Ag Z<|B9 [] (h1 (L:=L)) Z Z<|Be Z<|A3 Z<|Ap Z<|Az Z Z Z<|AS Z<|BZ Z (Afa _) ⟨Z,Z,Z⟩
def Ha(P:Program)(f:FuncId):Prop:=∀{d}{t:TD}{bt pb:Nat}{Tt L},Ea P f [pZ bt] d (tbD bt Tt (pZ pb) t::L) (vZ t.count)
def NZ(a0:Nat):A9:=⟨9,[(.tmp 2)],(sR (o1 2 (.mv z0) .done) (.seq (sR (om 3 0<|oc 4 a0 [3] .done) (.cond 4 (sR (o1 2 (.mv z0) .done) .ret) .skip)) (sR (om 5 0<|o1 6 (.nilc 5)<|oj 7 3 6<|ol 8 7<|om 2 8 .done) .ret)))⟩
def Ym{P f f1}(hd:dec P f=some (NZ f1))(h1:IM P f1):Ha P f:=by
 intro d t bt pb Tt L;refine Bj hd<|AE Z<|BG<|Ag Z<|B9 [] (h1 (L:=L)) Z Z<|Be Z<|A3 Z<|Ap Z<|Az Z Z Z<|AS Z<|BZ Z (Afa _) ⟨Z,Z,Z⟩
def Wa{n:Nat}{key}:∀(x:Nat) (k:Int),FB (wtc s n) key k x=FB s key k x
 |0,_=>rfl
 |x+1,k=>by
  rw[FB,FB,show AM (wtc s n) k ((x+1:Nat):Int)=AM s k ((x+1:Nat):Int) from Z];simp only[NK,Wa x]
def ZO{n:Nat}{h c:Nat}{key}:EW ⟨wtc s n,root,h,c⟩ key=EW ⟨s,root,h,c⟩ key:=by
 unfold EW;simp only[Wa]
def Aef{P f d}{h c:Nat}{dv pv kv L}{bt:Nat}{Tt key}(hf:PM P f)(hp:PgT d s dv pv L)(hk:Ay d kv key)(hh:h≤1000000):
  Ao P f [pZ bt,kv] d (tb bt Tt pv root h c::L) (Ret fun v d' L'=>Le d d'∧∃u L2,v=.tuple #[u,.bool (EW ⟨s,root,h,c⟩ key).2.1,vZ (EW ⟨s,root,h,c⟩ key).2.2]∧Ay d' u (EW ⟨s,root,h,c⟩ key).1∧L'=tb bt Tt pv root h c::L2∧PgT d' s dv pv L2):=by
 obtain⟨n,hp⟩:=hp
 refine Ao.Eb (hf (t:=⟨wtc s n,root,h,c⟩) (bt:=bt) (Tt:=Tt) hp hk hh) (fun r d' L' _ ⟨h0,u,L2,tc,h1,h2,h3,h4,_⟩=>⟨d',L',Vs.refl _ _,?_⟩)
 rw[ZO] at h1 h2
 exact⟨h0,u,L2,h1,h2,h3,tc,h4⟩
end Go.Gk.Tre
end
section
namespace Go.Gk.Tre
open Go Go.Gk Go.Gk.Dev Go.Gk.Cch Go.Gk.Pgr Go.Gk.Chn Go.Gk.Node
variable{t:TD}{l:List KV}{P:List Int}
structure Tok (t:TD) (l:List KV) (P:List Int):Prop where
 gd:Pgr.Good t.s
 nd:P.Nodup
 ct:t.count=l.length
 tr:(t.height=0∧t.root= -1∧l=[]∧P=[])∨∃h,t.height=h+1∧Tr t.s (h+1) t.root l P
def Tok.live(h:Tok t l P):∀p∈P,BB t.s p:=by
 rcases h.tr with ⟨_,_,_,rfl⟩|⟨x,_,q⟩
 ·exact fun p hp=>by cases hp
 ·exact q.live
def Mv.id{s}(hG:Pgr.Good s)(h1:∀p∈P,BB s p)(h2:P.Nodup):Mv s s P P 0:=by
 simpa using (Mv.refl hG).frame h1 h2 (fun p _ q=>by cases q)
def Tok.id(h:Tok t l P):Mv t.s t.s P P 0:=Mv.id h.gd h.live h.nd
def UW{s}(hG:Pgr.Good s){h:Nat}{md:MdD}(ho:0≤md.other)(o:Out s h 0 md l P)(hnd:P.Nodup):
  ((Bg s (-1) ⟨false,[md.key],[],[md.page,md.other]⟩).2.2=0∧∃P',Mv s (Bg s (-1) ⟨false,[md.key],[],[md.page,md.other]⟩).1 P P' 1∧
   Tr (Bg s (-1) ⟨false,[md.key],[],[md.page,md.other]⟩).1 (h+1+1) (Bg s (-1) ⟨false,[md.key],[],[md.page,md.other]⟩).2.1 l P'∧
   At (Bg s (-1) ⟨false,[md.key],[],[md.page,md.other]⟩).1 (Bg s (-1) ⟨false,[md.key],[],[md.page,md.other]⟩).2.1 ⟨false,[md.key],[],[md.page,md.other]⟩)∨
  ((Bg s (-1) ⟨false,[md.key],[],[md.page,md.other]⟩).2.2=190∧s.free<1):=by
 have hlv:=o.live
 rcases o with ⟨q,_⟩|⟨_,_,l1,l2,P1,P2,rfl,rfl,g1,g2,g3,g4,g5,g6⟩
 ·omega
 ·obtain⟨v1,_,va,_⟩:=id g1
  obtain⟨v2,_,vb,_⟩:=id g2
  have hs:Bd ⟨false,[md.key],[],[md.page,md.other]⟩=true:=by
   refine CA.2 ⟨KO.cons.2 ⟨⟨g5,g6⟩,KO.nil,fun _ h=>by cases h⟩,Z,fun c hc=>?_⟩;rcases Afv.1 hc with rfl|hc
   ·exact Ez hG va.liv
   ·rw[Afz.1 hc];exact Ez hG vb.liv
  have hr:Bt ⟨false,[md.key],[],[md.page,md.other]⟩=true:=by
   simp only[Bt,hs,Ais,decide_eq_true_eq];rw[size_inner];simp only[Ds,Afq,Ahn];omega
  rcases NJ hG hr with ⟨h1,h2,h3⟩|h1
  ·have hfr:=h2.frame hlv hnd (fun p _ q=>by cases q)
   have hsm:=h2.same hlv (fun p _ q=>by cases q)
   refine .inl ⟨h1,_,hfr,⟨_,_,h3,by simp,Z,?_⟩,h3⟩
   rw[decide_eq_false (Ahi _)]
   exact .mki Z (Kd.cons.2 ⟨l1,l2,P1,P2,Z,Z,g1.stay (hsm.sub (fun p hp=>Aga _ hp)),g3,g4,Kd.one.2 (g2.stay (hsm.sub (fun p hp=>Agc _ hp)))⟩)
  ·exact .inr h1
def ZW(h:Tok t l P){key v}(hk:1≤key.length∧key.length≤64)(hv:v.length≤16384):
  ((Df t key v).2=0∧∃P',Tok (Df t key v).1 (EM l key v) P'∧Mv t.s (Df t key v).1.s P P' (AN v.length+2*t.height+1))∨((Df t key v).2=190∧t.s.free<AN v.length+2*t.height+1):=by
 unfold Df
 dsimp only
 have hc:=AcZ h.gd hv
 generalize Cb t.s v=c at hc⊢
 rcases hc with ⟨c1,Pc,c2,c3⟩|⟨c1,c2⟩
 ·rw[if_neg (by rw[c1];decide)]
  have hsmc:=c2.same h.live (fun p _ q=>by cases q)
  have c4:=c2.frame h.live h.nd (fun p _ q=>by cases q)
  rcases h.tr with ⟨e1,e2,rfl,rfl⟩|⟨x,e1,e2⟩
  ·rw[if_pos e1]
   have hs:Bd ⟨true,[key],[c.2.1],[]⟩=true:=C2.2 ⟨KO.cons.2 ⟨hk,KO.nil,fun _ h=>by cases h⟩,Z,fun v hv=>by rw[Afz.1 hv];exact c3.len⟩
   have hr:Bt ⟨true,[key],[c.2.1],[]⟩=true:=by
    simp only[Bt,hs,Ais,decide_eq_true_eq];rw[size_leaf (ks:=[key]) (vs:=[c.2.1]) Z];have:=c3.len;simp only[Ds,Afq,Ahn];omega
   have hp:=NJ c2.gd hr
   generalize Bg c.1 (-1) ⟨true,[key],[c.2.1],[]⟩=k at hp⊢
   rcases hp with ⟨p1,p2,p3⟩|⟨p1,p2⟩
   ·have hlv:=c3.live
    have hnd:=c2.nd
    have p4:=p2.frame hlv hnd (fun p _ q=>by cases q)
    have hsm:=p2.same hlv (fun p _ q=>by cases q)
    have hM:Mv t.s k.1 [] (k.2.1::Pc) (AN v.length+1):=c2.trans p4
    refine .inl ⟨p1,k.2.1::Pc,⟨p2.gd,hM.nd,Z,.inr ⟨0,Z,⟨_,Pc,p3,by simp,Z,?_⟩⟩⟩,by rw[e1];exact hM.mono (by omega)⟩
    rw[decide_eq_true Z]
    exact .mkl Z (Lf.one (c3.stay hsm))
   ·exact .inr ⟨p1,by have:=c2.fr;omega⟩
  ·rw[if_neg (by omega)]
   have hnd:(P++Pc).Nodup:=(List.perm_append_comm.nodup_iff).1 c4.nd
   have hi:=Y4 (v:=v) hk x c2.gd (e2.stay hsmc) hnd c3
   rw[e1]
   generalize Cu c.1 t.root key c.2.1 (x+1)=u at hi⊢
   rcases hi with ⟨i1,i2,P',i3,i4⟩|⟨i1,i2⟩
   ·rw[if_neg (by rw[i1];decide)]
    have hM:Mv t.s u.1 P P' (AN v.length+2*(x+1)):=(c4.perm (A':=P) (by simp) Afi).trans i3
    have hct:t.count+(if u.2.2.1=true then 1 else 0)=(EM l key v).length:=by
     rw[Tl,h.ct,i2];cases isK l key<;>simp
    unfold Dg
    by_cases ho:u.2.1.other<0
    ·rw[if_pos ho]
     exact .inl ⟨Z,P',⟨i3.gd,hM.nd,hct,.inr ⟨x,Z,i4.tr ho (Afe _)⟩⟩,hM.mono (by omega)⟩
    ·rw[if_neg ho]
     have i4':Out u.1 x 0 u.2.1 (EM l key v) P':=by
      rcases i4 with ⟨q,_⟩|q
      ·exact absurd q ho
      ·exact .inr q
     have hr:=UW i3.gd (by omega) i4' hM.nd
     dsimp only
     generalize Bg u.1 (-1) ⟨false,[u.2.1.key],[],[u.2.1.page,u.2.1.other]⟩=r at hr⊢
     rcases hr with ⟨r1,P2,r2,r3,r4⟩|⟨r1,r2⟩
     ·exact .inl ⟨r1,P2,⟨r2.gd,r2.nd,hct,.inr ⟨x+1,Z,r3⟩⟩,(hM.trans r2).mono (by omega)⟩
     ·exact .inr ⟨r1,by have:=hM.fr;omega⟩
   ·rw[if_pos (by rw[i1];decide)]
    exact .inr ⟨i1,by have:=c2.fr;omega⟩
 ·rw[if_pos (by rw[c1];decide)]
  exact .inr ⟨c1,by omega⟩
def Sg(hG:Pgr.Good t.s){h:Nat}{n:AB}{Q:List Int}(e:t.height=h+1)(hat:At t.s t.root n)(hn:Nd t.s (Tr t.s h) (decide (h=0)) n l Q)(hnd:(t.root::Q).Nodup)(hc:t.count=l.length):
  (El t).2=0∧∃P',Tok (El t).1 l P'∧Mv t.s (El t).1.s (t.root::Q) P' 0:=by
 unfold El
 rw[hat.read]
 dsimp only
 have hlv:∀p∈t.root::Q,BB t.s p:=fun p hp=>(Afv.1 hp).elim (fun e=>e▸hat.liv) (hn.live p)
 by_cases hk:n.keys=[]
 ·rw[if_neg (by simp[hk])]
  obtain⟨q1,q2⟩:=Aim.1 hnd
  obtain⟨d1,d2⟩:=JQ hG hat.liv
  rw[if_neg (by rw[d1];decide)]
  have hx:∀p∈Q,p∉ [t.root]:=fun p hp q=>q1 (Afz.1 q▸hp)
  have d3:=d2.frame hn.live q2 hx
  have hsm:=d2.same hn.live hx
  by_cases h0:h=0
  ·rw[decide_eq_true h0] at hn
   obtain⟨n1,n2⟩:=hn.leaf
   rw[hk] at n2
   have hl0:=n2.len
   have hvl:=Afl hl0.1
   rw[hvl,Lf] at n2
   obtain⟨rfl,rfl⟩:=n2
   refine⟨Z,[],⟨d2.gd,List.nodup_nil,hc,.inl ⟨?_,?_,Z,Z⟩⟩,d3⟩
   ·show t.height - 1=0;omega
   ·show(if n.leaf=true then(-1:Int) else _)= -1;rw[if_pos n1]
  ·rw[decide_eq_false h0] at hn
   obtain⟨n1,n2⟩:=hn.inner
   rw[hk] at n2
   have hl0:=n2.len
   obtain⟨c,ec⟩:∃c,n.kids=[c]:=by
    cases hq:n.kids with
    |nil=>rw[hq] at hl0;cases hl0
    |cons c r=>
     rw[hq] at hl0
     exact⟨c,by rw[Afl (show r.length=0 by simpa using hl0)]⟩
   rw[ec] at n2
   have n3:=Kd.one.1 n2
   obtain⟨h',rfl⟩:∃h',h=h'+1:=⟨h - 1,by omega⟩
   refine⟨Z,Q,⟨d2.gd,q2,hc,.inr ⟨h',?_,?_⟩⟩,d3⟩
   ·show t.height - 1=h'+1;omega
   ·show Tr (t.s.drop t.root).1 (h'+1) (if n.leaf=true then(-1:Int) else n.kids.getD 0 0) l Q
    rw[if_neg (by rw[n1];decide),ec]
    exact n3.stay hsm
 ·rw[if_pos (by simp[hk])]
  exact⟨Z,_,⟨hG,hnd,hc,.inr ⟨h,e,⟨n,Q,hat,hk,Z,hn⟩⟩⟩,Mv.id hG hlv hnd⟩
def Aa1(h:Tok t l P)(key:List UInt8):
  ((Ch t key).2.2=0∧(Ch t key).2.1=isK l key∧∃P',Tok (Ch t key).1 (CH l key).1 P'∧Mv t.s (Ch t key).1.s P P' (4*t.height+1))∨((Ch t key).2.2=190∧t.s.free<4*t.height+1):=by
 unfold Ch
 rcases h.tr with ⟨e1,e2,rfl,rfl⟩|⟨x,e1,e2⟩
 ·rw[if_pos e1]
  exact .inl ⟨Z,Z,[],h,(Mv.refl h.gd).mono (Agd _)⟩
 ·rw[if_neg (by omega)]
  dsimp only
  have hr:=TL (key:=key) x h.gd e2 h.nd
  rw[e1]
  generalize Cm t.s t.root key (x+1)=u at hr⊢
  rcases hr with ⟨r1,r2,⟨r3,r4⟩|⟨r3,P',r4,r5⟩⟩|⟨r1,r2⟩
  ·rw[if_pos (.inr (by rw[r2,r3]))]
   refine .inl ⟨r1,r3.symm,P,?_,?_⟩
   ·have e:(CH l key).1=l:=by unfold CH;rw[if_neg (by rw[r3];decide)]
    rw[e]
    show Tok ⟨u.1,t.root,x+1,t.count⟩ l P
    rw[r4,←e1];exact h
   ·show Mv t.s u.1 P P _
    rw[r4];exact h.id.mono (Agd _)
  ·rw[if_neg (by rw[r1,r2,r3];simp)]
   have hct:t.count - 1=(CH l key).1.length:=by
    have:=Te (l:=l) (key:=key);rw[r3,if_pos Z] at this;have:=h.ct;omega
   unfold Dg
   by_cases ho:u.2.1.other<0
   ·rw[if_pos ho]
    rcases r5 with ⟨_,n,Q,b1,b2,rfl,_,b4⟩|⟨q,_⟩
    ·rw[if_neg (fun q=>q Z)]
     obtain⟨s1,P2,s2,s3⟩:=Sg (t:=⟨u.1,u.2.1.page,x+1,t.count - 1⟩) r4.gd (h:=x) Z b1 b4 r4.nd hct
     exact .inl ⟨s1,r3.symm,P2,s2,(r4.trans s3).mono (by omega)⟩
    ·omega
   ·rw[if_neg ho]
    have hrt:=UW r4.gd (by omega) r5 r4.nd
    dsimp only
    generalize Bg u.1 (-1) ⟨false,[u.2.1.key],[],[u.2.1.page,u.2.1.other]⟩=r at hrt⊢
    rcases hrt with ⟨w1,P2,w2,w3,w4⟩|⟨w1,w2⟩
    ·rw[if_neg (by rw[w1];decide)]
     obtain⟨n,Q,b1,b2,b3,b4⟩:=w3
     subst b3
     obtain⟨s1,P3,s2,s3⟩:=Sg (t:=⟨r.1,r.2.1,x+1+1,t.count - 1⟩) w2.gd (h:=x+1) Z b1 b4 w2.nd hct
     exact .inl ⟨s1,r3.symm,P3,s2,((r4.trans w2).trans s3).mono (by omega)⟩
    ·rw[if_pos (by rw[w1];decide)]
     exact .inr ⟨w1,by have:=r4.fr;omega⟩
  ·rw[if_pos (.inl (by rw[r1];decide))]
   exact .inr ⟨r1,by omega⟩
def Zs{key}:∀(h:Nat) {s}{k:Int}{l}{P:List Int},Tr s (h+1) k l P→
  FB s key k (h+1)=((EN l key).1,(EN l key).2,0)∧∃n,HQ s key k (h+1)=h+1+n∧n=if isK l key=true then(if 15<(EN l key).1.length then AN (EN l key).1.length else 0) else 0
 |0,s,k,l,P,⟨n,Q,hat,hne,eP,hn⟩=>by
  subst eP;rw[decide_eq_true Z] at hn;obtain⟨n1,n2⟩:=hn.leaf;have ef:=D2 hat.sound n1;obtain⟨ks,vs,rfl⟩:∃ks vs,n=⟨true,ks,vs,[]⟩:=⟨_,_,ef⟩
  simp only at n2 hne;obtain⟨hko,hvl,hv16⟩:=C2.1 hat.sound;have hlv:=hat.level (x:=((0+1:Nat):Int)) Z;have hlz:(AM s k ((0+1:Nat):Int)).2=0:=by rw[hlv]
  have hln:(AM s k ((0+1:Nat):Int)).1=⟨true,ks,vs,[]⟩:=by rw[hlv]
  rcases JS hko (vs:=vs) key with ⟨a,b,rfl,hf,ha,hb⟩|⟨a,b,rfl,hf,ha,hb⟩
  ·obtain⟨va,c,vb,l1,v0,l2,P1,Pv,P2,rfl,ev,rfl,rfl,g1,g2,g3⟩:=QP n2;have e0:(va++[c]++vb).getD a.length []=c:=by rw[←ev];exact FF
   have hl1:=Ki g1 ha;have hl2:=Kh g3 hb;have hget:EN (l1++[(key,v0)]++l2) key=(v0,true):=by rw[TK hl1 hl2,AaV]
   have hisk:isK (l1++[(key,v0)]++l2) key=true:=by rw[FK hl1 hl2,Kx]
   have hg:=Wh hlz hln hf;simp only[e0] at hg;rw[hget,hisk];refine⟨?_,_,?_,Z⟩
   ·rw[hg.1,g2.val];simp
   ·rw[hg.2,g2.Eo,if_pos Z]
  ·obtain⟨va,vb,l1,l2,P1,P2,rfl,ev,rfl,rfl,g1,g3⟩:=QI n2;have hl1:=Ki g1 ha;have hl2:=Kh g3 hb;have hisk:isK (l1++l2) key=false:=by
    have:=FK (m:=[]) hl1 hl2;rw[Q9,Agj] at this;exact this
   have hget:EN (l1++l2) key=([],false):=by unfold EN;rw[if_neg (by rw[hisk];decide)]
   obtain⟨y1,y2⟩:=VJ hlz hln hf;rw[hget,hisk];exact⟨y1,0,y2,Z⟩
 |h+1,s,k,l,P,⟨n,Q,hat,hne,eP,hn⟩=>by
  subst eP;rw[decide_eq_false (Ahi _)] at hn;obtain⟨n1,n2⟩:=hn.inner;have ef:=ED hat.sound n1;obtain⟨ks,cs,rfl⟩:∃ks cs,n=⟨false,ks,[],cs⟩:=⟨_,_,ef⟩
  simp only at n2 hne;obtain⟨hko,hcl,hrng⟩:=CA.1 hat.sound;have hlv:=hat.level (x:=((h+1+1:Nat):Int)) (by show false=_;exact(decide_eq_false (by omega)).symm);have hlz:(AM s k ((h+1+1:Nat):Int)).2=0:=by rw[hlv]
  have hln:(AM s k ((h+1+1:Nat):Int)).1=⟨false,ks,[],cs⟩:=by rw[hlv]
  obtain⟨a,b,rfl,hf,ha,hb⟩:=Iu hat.sound key;obtain⟨ca,c,cb,rfl,ec⟩:=Ky cs (i:=a.length) (by rw[hcl];simp;omega);have e0:(ca++[c]++cb).getD a.length 0=c:=by rw[←ec];exact FF
  have n2':Kd (Tr s (h+1)) (a++[]++b) (ca++[c]++cb) l Q:=by simpa using n2
  obtain⟨l1,m,l2,P1,Pm,P2,rfl,rfl,g1,g2,g3,g4,g5⟩:=n2'.focus (by simpa using hko) ec Z;have hl1:∀x∈l1,Lt x.1 key:=fun x hx=>by
   obtain⟨p,p1,p2⟩:=g1.below x hx;exact HY p2 (ha p p1)
  have hl2:∀x∈l2,Lt key x.1:=fun x hx=>by
   obtain⟨p,p1,p2⟩:=g3.Sw x hx;exact HY (hb p p1) p2
  have hg:=Qy hlz hln hf;simp only[e0] at hg;obtain⟨i1,i2,i3,i4⟩:=Zs (key:=key) h g2;rw[TK hl1 hl2,FK hl1 hl2];exact⟨hg.1.trans i1,i2,by rw[hg.2,i3];omega,i4⟩
def TC{R:RT}{m:Nat}(hR:∀c l P,R c l P→m≤l.length):∀{ks}{cs:List Int}{l}{P:List Int},Kd R ks cs l P→m*(ks.length+1)≤l.length
 |[],[c],l,P,h=>by simpa using hR c l P h
 |[],[],l,P,h=>h.elim
 |[],_::_::_,l,P,h=>h.elim
 |_::_,[],l,P,h=>h.elim
 |k::ks,c::cs,l,P,h=>by
  obtain⟨l1,l2,P1,P2,rfl,rfl,h1,h2,h3,h4⟩:=Kd.cons.1 h;have a:=hR _ _ _ h1;have b:=TC hR h4;rw[Afk,Afq,Nat.mul_succ];omega
def Un:∀(h:Nat) {s}{k:Int}{l}{P:List Int},Tr s (h+1) k l P→2 ^ h≤l.length
 |0,s,k,l,P,ht=>FM.1 ht.ne
 |h+1,s,k,l,P,⟨n,Q,hat,hne,eP,hn⟩=>by
  rw[decide_eq_false (Ahi _)] at hn;have h1:=TC (m:=2 ^ h) (fun c l P q=>Un h q) hn.inner.2;have h2:=FM.1 hne;have:2 ^ h*2≤2 ^ h*(n.keys.length+1):=Akl _ (by omega);rw[Nat.pow_succ];omega
def Tok.high(h:Tok t l P):(l=[]∧t.height=0∧t.root= -1)∨(l≠[]∧1≤t.height∧2 ^ t.height≤2*l.length):=by
 rcases h.tr with ⟨e1,e2,rfl,_⟩|⟨x,e1,e2⟩
 ·exact .inl ⟨Z,e1,e2⟩
 ·refine .inr ⟨e2.ne,by omega,?_⟩;have:=Un x e2;rw[e1,Nat.pow_succ];omega
def Tok.get(h:Tok t l P)(key:List UInt8):FB t.s key t.root t.height=((EN l key).1,(EN l key).2,0):=by
 rcases h.tr with ⟨e1,e2,rfl,_⟩|⟨x,e1,e2⟩
 ·rw[e1];rfl
 ·rw[e1];exact(Zs x e2).1
end Go.Gk.Tre
end
section
namespace Go.Gk.Tre
open Go Go.Gk Go.Gk.Dev Go.Gk.Cch Go.Gk.Pgr Go.Gk.Chn Go.Gk.Node
attribute [local irreducible] gwp gws xwp
variable{f1 f2 f3:FuncId}
def Q6(P:Program)(f:FuncId):Prop:=∀{d s dv pv L}{bt:Nat}{Tt}{r h c k:Int}{cs}{n:AB}{hk hv hi}{i:Nat},
 PgT d s dv pv L→Es d cs n hk hv hi→Fit n 400→1≤n.keys.length→n.kids.length=n.keys.length+1→i≤n.keys.length→(∀x∈n.kids, -1≤x∧x≤16384)→ -1≤k→k≤16384→
 Ao P f [pZ bt,vZ k,.agg cs.toArray,vZ i] d (hk::hv::hi::tb bt Tt pv r h c::L) (Ret fun v d' L'=>Le d d'∧∃ua uc L2,v=.tuple #[mdV (Eh s k n i).2.1 ua uc,vZ (Eh s k n i).2.2]∧
  Ay d' (.slice ua (Eh s k n i).2.1.key.length uc) (Eh s k n i).2.1.key∧MOk (Eh s k n i).2.1∧L'=tb bt Tt pv r h c::L2∧PgT d' (Eh s k n i).1 dv pv L2)
def RZ{s}{k:Int}:Fit (Bw s k).1 300:=by
 unfold Bw;by_cases hl:BB s k
 ·rw[if_pos hl];show Fit ((Node.BU (s.bytes k)).getD IA) 300;cases hr:Node.BU (s.bytes k) with
  |none=>exact⟨by decide,by decide,by decide,fun x hx=>(by cases hx),fun x hx=>(by cases hx)⟩
  |some n=>
   obtain⟨⟨a,b,c,e,g⟩, -⟩:=H4 (PE hr).1
   exact⟨show n.keys.length≤300 by omega,show n.vals.length≤300 by omega,show n.kids.length≤300 by omega,e,g⟩
 ·rw[if_neg hl];exact⟨by decide,by decide,by decide,fun x hx=>(by cases hx),fun x hx=>(by cases hx)⟩
def AaI{a b:AB}{key}(ha:Fit a 300)(hb:Fit b 300)(hk:key.length≤1000):Fit (CM a b key) 601:=by
 obtain⟨a1,a2,a3,a4,a5⟩:=ha;obtain⟨b1,b2,b3,b4,b5⟩:=hb;unfold CM;split
 ·refine⟨by simp;omega,by simp;omega,by simp,fun x hx=>?_,fun x hx=>?_⟩
  ·rcases Afj.1 hx with hx|hx
   ·exact a4 x hx
   ·exact b4 x hx
  ·rcases Afj.1 hx with hx|hx
   ·exact a5 x hx
   ·exact b5 x hx
 ·refine⟨by simp;omega,by simp,by simp;omega,fun x hx=>?_,fun x hx=>by cases hx⟩
  rcases Afj.1 hx with hx|hx
  ·rcases Afj.1 hx with hx|hx
   ·exact a4 x hx
   ·rw[Afz.1 hx];exact hk
  ·exact b4 x hx
def OS(a0 a1 a2 a3 a4 a5:Nat):A9:=⟨137,[(.cell 8 (some 4)),(.tmp 9)],(sR (o1 6 (.box 2)<|o1 8 (.alo (.agg #[(vZ 0),(vZ 0),nV,(vZ 0)]))<|o1 9 (.mv z0) .done) (.seq (sR (om 15 3<|oj 16 1 6<|ol 17 16<|oL 18 17<|ob 19 .eql 15 18 .done) (.cond 19 (rG (om 20 3<|ob 21 .sub 20 z1<|om 3 21 .done)) .skip)) (sR (om 23 0<|oj 24 3 6<|ol 25 24<|om 26 3<|oI 27 1 25 26<|ol 28 27<|oc 29 a0 [23,28]<|om 22 29<|oe 30 22 0<|oe 31 22 1<|o1 10 (.alo (.agg #[(.bool false),nV,nV,nV]))<|o0 (.st 4 10 30)<|om 11 31 .done) (.seq (sR (om 32 11<|ob 33 .neq 32 z0 .done) (.cond 33 (sR (o1 34 (.bld [(0,1),(1,1),(2,1),(3,1)] [(vZ 0),(vZ 0),nV,(vZ 0)] [])<|om 35 11<|o0 (.st 4 8 34)<|om 9 35 .done) .ret) .skip)) (sR (om 37 0<|oj 38 3 6<|ol 39 38<|om 40 3<|ob 41 .add 40 z1<|oI 42 1 39 41<|ol 43 42<|oc 44 a0 [37,43]<|om 36 44<|oe 45 36 0<|oe 46 36 1<|o1 12 (.alo (.agg #[(.bool false),nV,nV,nV]))<|o0 (.st 4 12 45)<|om 11 46 .done) (.seq (sR (om 47 11<|ob 48 .neq 47 z0 .done) (.cond 48 (sR (o1 49 (.bld [(0,1),(1,1),(2,1),(3,1)] [(vZ 0),(vZ 0),nV,(vZ 0)] [])<|om 50 11<|o0 (.st 4 8 49)<|om 9 50 .done) .ret) .skip)) (.seq (sR (oj 51 0 10<|ol 52 51<|oj 53 0 12<|ol 54 53<|o1 55 (.eqb true 52 54) .done) (.cond 55 (sR (o1 56 (.bld [(0,1),(1,1),(2,1),(3,1)] [(vZ 0),(vZ 0),nV,(vZ 0)] [])<|o0 (.st 4 8 56)<|o1 9 (.mv (kZ 200)) .done) .ret) .skip)) (.seq (.reg true (pm 58 0<|p1 59 (.fld 3 6)<|pl 60 59<|pm 61 3<|p1 62 (.idx 1 60 61)<|pl 63 62<|p1 64 (.ld (some 4) 10)<|p1 65 (.ld (some 4) 12)<|p1 66 (.fld 1 6)<|pl 67 66<|pm 68 3<|p1 69 (.idx 1 67 68)<|pl 70 69 (.par (o1 13 (.alo (.agg #[(vZ 0),(vZ 0),nV,(vZ 0)])) .done) (oc 71 a1 [64,65,70] (oc 72 a2 [58,63,71] (pm 57 72 (p1 73 (.ext 57 0) (p1 74 (.ext 57 1) .done))))) (o0 (.st 4 13 73) (pm 11 74 .done))))) (.seq (sR (om 75 11<|ob 76 .neq 75 z0 .done) (.cond 76 (sR (o1 77 (.bld [(0,1),(1,1),(2,1),(3,1)] [(vZ 0),(vZ 0),nV,(vZ 0)] [])<|om 78 11<|o0 (.st 4 8 77)<|om 9 78 .done) .ret) .skip)) (.seq (.seq (.reg true (pm 79 0<|p1 80 (.nilc 79)<|p1 81 (.fld 0 80)<|pl 82 81<|p1 83 (.fld 3 6)<|pl 84 83<|pm 85 3<|p1 86 (.bin .add 85 z1)<|p1 87 (.idx 1 84 86)<|pl 88 87<|oc 89 a3 [82,88] (.bar (pm 14 89 .done)))) (sR (om 90 14<|ob 91 .neq 90 z0 .done) (.cond 91 (sR (o1 92 (.bld [(0,1),(1,1),(2,1),(3,1)] [(vZ 0),(vZ 0),nV,(vZ 0)] [])<|om 93 14<|o0 (.st 4 8 92)<|om 9 93 .done) .ret) .skip))) (sR (oj 94 3 6<|ol 95 94<|om 96 3<|oj 97 0 13<|ol 98 97<|oI 99 1 95 96<|o0 (.st 1 99 98) .done) (.seq (sR (oj 100 1 13<|ol 101 100<|ob 102 .geq 101 z0 .done) (.cond 102 (.reg true (p1 103 (.fld 1 6)<|pl 104 103<|pm 105 3<|p1 106 (.fld 3 6)<|pl 107 106<|pm 108 3<|p1 109 (.bin .add 108 z1)<|p1 110 (.fld 2 13)<|pl 111 110<|p1 112 (.fld 1 13)<|pl 113 112<|p1 114 (.idx 1 104 105)<|o0 (.st 1 114 111)<|p1 115 (.idx 1 107 109)<|o0 (.st 1 115 113) .done)) (.reg true (p1 116 (.fld 1 6)<|pl 117 116<|pm 118 3<|pm 119 3<|p1 120 (.bin .add 119 z1)<|p1 122 (.fld 3 6)<|pl 123 122<|pm 124 3<|p1 125 (.bin .add 124 z1)<|pm 126 3<|p1 127 (.bin .add 126 z2)<|oc 121 a4 [117,118,120]<|p1 129 (.fld 1 6)<|oc 128 a5 [123,125,127] (.bar (o0 (.st 1 129 121) (p1 130 (.fld 3 6) (o0 (.st 1 130 128) .done)))))))) (sR (om 131 0<|om 132 1<|o1 133 (.ld (some 4) 6)<|oc 134 a2 [131,132,133]<|oe 135 134 0<|oe 136 134 1<|o0 (.st 4 8 135)<|om 9 136 .done) .ret)))))))))))))⟩
set_option maxRecDepth 4000 in
set_option maxHeartbeats 8000000 in
def AaY{P f f4 f5 f6}(hd:Jj P f=some (OS f1 f2 f3 f4 f5 f6))(h1:Kj P f1)(h2:Uj P f2)(h3:IZ P f3)(h4:Pgr.HF P f4)(h5:Ll RBs P f5)(h6:Ll Bh P f6):Q6 P f:=by
 intro d s dv pv L bt Tt r h c k cs n hk hv hi i0 hp hn hfit hk1 hkk hi0 hkb hpg0 hpg1;obtain⟨bp,rfl⟩:=hp.ptr;have hfk:=hfit.k;obtain⟨kv,vv,iv,rfl,r1,r2,r3⟩:=hn;obtain⟨ya,yc,rfl⟩:=r2.val;obtain⟨bk,Tk,lk,ck,rfl,rfl,hlk,hallk,hsetk⟩:=Ai.all (R:=RBs) CY r1 (by omega);obtain⟨bi,Ti,li,ci,rfl,rfl,hli,halli,hseti⟩:=Ai.all (R:=Bh) Ck r3 (by omega);refine Bj hd ?_;apply Aw;apply Av;refine CF Z (fun b6 T6=>?_);refine B8 (fun b8 T8=>?_);apply Ab;rfl;apply An;obtain⟨i,hii⟩:∃i,i=if i0=n.keys.length then i0 - 1 else i0:=⟨_,Z⟩
 have hil:i<n.keys.length:=by rw[hii];split<;>omega
 refine G1 (fun ρ d' L'=>BN ρ [(0,pZ bt),(1,vZ k),(3,vZ i),(6,pZ b6),(8,pZ b8),(9,vZ 0)]∧d=d'∧
  L'=bx b8 T8 [vZ 0,vZ 0,nV,vZ 0]::bx b6 T6 [.bool n.leaf,.slice (some ⟨bk,0,none⟩) n.keys.length ck,.slice ya n.vals.length yc,.slice (some ⟨bi,0,none⟩) n.kids.length ci]::bx bk Tk lk::hv::bx bi Ti li::tb bt Tt (pZ bp) r h c::L) ?_ ?_
 ·by_cases e:i0=n.keys.length
  ·rw[if_pos e] at hii;(refine AE Z<|Am Z<|Ah Z (AG 1 Z Z)<|AA Z<|AI Z Z<|A5 Z<|Av<|Ab Z<|DT Z Z<|AU Z ?_);exact⟨⟨Z,Z,congrArg (Value.int .i64) (by omega),Z,Z,Z,trivial⟩,Z,Z⟩
  ·rw[if_neg e] at hii;subst hii;(refine AE Z<|Am Z<|Ah Z (AG 1 Z Z)<|AA Z<|AI Z Z<|AT Z ?_);exact⟨⟨Z,Z,Z,Z,Z,Z,trivial⟩,Z,Z⟩
 rintro ρ d' L' ⟨hsl,hdd,hLL⟩;subst hdd;subst hLL;refine CU _ hsl ?_;have hg0:n.kids.getD i 0=n.kids[i]:=by rw[Afd,Afc (by omega)];rfl
 have hg1:n.kids.getD (i+1) 0=n.kids[i+1]:=by rw[Afd,Afc (by omega)];rfl
 have hgk:n.keys.getD i []=n.keys[i]:=by rw[Afd,Afc hil];rfl
 have hM:=UI (s:=s) (k:=k) (show n.keys.length≠0 by omega) hii Z Z;rw[hg0,hg1,hgk] at hM;have hb0:=hkb _ (Agb (show i<n.kids.length by omega));obtain⟨u0,c0,hq0,hq1,hq2⟩:=halli i (by omega);cases hq0;obtain⟨u1,c1,hq3,hq4,hq5⟩:=halli (i+1) (by omega);cases hq3;obtain⟨uk,c2,uk',hq6,hkey⟩:=hallk i hil;cases hq6;obtain⟨tc0,hpx⟩:=hp;refine A3 Z<|Am Z<|Ah Z (AG 1 Z Z)<|Ab Z<|BT _ Z Z Z (by omega)<|Ah Z (AG 4 Z (by assumption))<|A0 [_,_,_,_,_] (h1 (k:=n.kids[i]) hpx) Z Z (fun v d2 L2 hl2 ⟨_,ca,ha1,ha2,ha3,L3,tc1,e1,e2,hna,hp2,htc⟩=>?_);subst e1;subst e2;rw[show Bw {s with tc:=tc0} n.kids[i]=Bw s n.kids[i] from Z] at hna⊢;have hp2:Pg d2 {s with tc:=tc1} dv (pZ bp) L3:=hp2;obtain⟨d3,hl3,v3,na⟩:=Gs hna;have hfa:Fit (Bw s n.kids[i]).1 300:=RZ;refine B1 _ _ (Vs.out [_,_,_,_,_] _ (Agq _) v3) ?_;generalize Bw s n.kids[i]=A at hM na hfa;obtain⟨an,ae⟩:=A;simp only at na hfa hM⊢;obtain⟨aka,akc,ava,avc,aia,aic,rfl⟩:=Cz.four na;(refine AO Z<|AW Z Z Z Z<|B8 (fun _ _=>?_));rename_i b10 T10;refine BA 0 Z Z Z Z (Afe _) Z ?_;by_cases hae:ae=0
 ·rw[if_neg (fun q=>q hae)] at hM;subst hae;refine AR Z<|Ab Z<|AJ Z Z<|AT Z<|A3 Z<|Am Z<|Ah Z (AG 2 Z Z)<|Ab Z<|A4 Z Z<|BT (i+1) Z Z (show((i:Int)+1)=((i+1:Nat):Int) by omega) (by omega) ?_;(apply Ah;rfl;exact AG 5 Z (by assumption));refine A0 [_,_,_,_,_,_] (h1 (k:=n.kids[i+1]) (hp2.mono hl3)) Z Z (fun v d4 L4 hl4 ⟨_,cb,hb1,hb2,hb3,L5,tc2,e3,e4,hnb,hp4,htc4⟩=>?_);subst e3;subst e4;rw[show Bw {s with tc:=tc1} n.kids[i+1]=Bw s n.kids[i+1] from Z] at hnb⊢;have hp4:PgT d4 s dv (pZ bp) L5:=⟨tc2,hp4⟩
  obtain⟨d5,hl5,v5,nb⟩:=Gs hnb;have hfb:Fit (Bw s n.kids[i+1]).1 300:=RZ;refine B1 _ _ (Vs.out [_,_,_,_,_,_] _ (Agq _) v5) ?_;generalize Bw s n.kids[i+1]=B at hM nb hfb;obtain⟨bn,be⟩:=B;simp only at nb hfb hM⊢;obtain⟨bka,bkc,bva,bvc,bia,bic,rfl⟩:=Cz.four nb;(refine AO Z<|AW Z Z Z Z<|B8 (fun _ _=>?_));rename_i b12 T12;refine BA 0 Z Z Z Z (Afe _) Z ?_;by_cases hbe:be=0
  ·rw[if_neg (fun q=>q hbe)] at hM;subst hbe;have hle5:=((hl2.trans hl3).trans hl4).trans hl5;have na5:=na.mono (hl4.trans hl5);have hkey5:=RSl.mono (R:=Ax) AF hkey hle5;(refine AR Z<|Ab Z<|AJ Z Z<|AT Z<|AZ<|Am Z<|Ah Z (AG 1 Z Z)<|Az Z Z Z<|HV Z Z<|An ?_);by_cases hlf:an.leaf=bn.leaf
   ·rw[if_neg (fun q=>q hlf)] at hM;refine Cn (congrArg Value.bool (show(true ^^(an.leaf==bn.leaf))=false by rw[hlf];simp)) ?_;apply AH;apply Aw;refine BE [_,_,_,_,_,_,_] (tb bt Tt (pZ bp) r h c::L5) Z<|Ag Z<|Am Z<|Ah Z (AG 3 Z Z)<|Ab Z<|BT _ Z Z Z (by omega)<|Ah Z (AG 6 Z (by assumption))<|Bk 1 Z Z Z<|Bk 0 Z Z Z<|Am Z<|Ah Z (AG 3 Z Z)<|Ab Z<|BT _ Z Z Z (by omega)<|Ah Z (AG 4 Z (by assumption)) ?_;obtain⟨xa,xc,rfl⟩:=hkey.val;have hkl:=hfit.kl _ (Agb hil);have hjf:=AaI (key:=n.keys[i]) hfa hfb hkl;refine Gh (α:=Nat×TypeId) (β:=Option Addr×Nat×List Aa) [(0,pZ bt),(1,vZ k),(3,vZ i),(6,pZ b6),(8,pZ b8)]
     (fun x=>[(13,.pointer (some ⟨x.1,0,none⟩))]) (fun x d L=>L=[bx x.1 x.2 [vZ 0,vZ 0,nV,vZ 0]])
     (fun y=>[(73,mdV (Bp s n.kids[i] (CM an bn n.keys[i])).2.1 y.1 y.2.1),(74,vZ (Bp s n.kids[i] (CM an bn n.keys[i])).2.2)])
     (fun y d' M=>Ay d' (.slice y.1 (Bp s n.kids[i] (CM an bn n.keys[i])).2.1.key.length y.2.1) (Bp s n.kids[i] (CM an bn n.keys[i])).2.1.key∧PgT d' (Bp s n.kids[i] (CM an bn n.keys[i])).1 dv (pZ bp) y.2.2∧M=tb bt Tt (pZ bp) r h c::y.2.2) [] _ Z
     (fun x d d' M hl h=>h) (fun y d d' M hl h=>⟨RSl.mono (R:=Ax) AF h.1 hl,h.2.1.mono hl,h.2.2⟩) (fun x=>Z) (fun y=>Z) Z ⟨Z,Z,Z,Z,Z,trivial⟩ ?_ ?_ ?_
    ·refine B8 (fun b13 T13=>?_);(apply A8);exact⟨_,Z,(b13,T13),⟨Z,trivial⟩,Z⟩
    ·have hA:=hfa.k;have hA2:=hfa.v;have hA3:=hfa.i;have hB:=hfb.k;have hB2:=hfb.v;have hB3:=hfb.i;refine Bz Z (h2 na5 nb hkey5 (by omega) (by omega) (by omega)) (fun v d6 L6 hl6 ⟨e5,cj,e6,nj⟩=>?_);subst e5;subst e6;refine A0 [] (h3 (k:=n.kids[i]) ((hp4.mono hl5).mono hl6) nj (hjf.small (by omega))) Z Z (fun v d7 L7 hl7 ⟨_,ua,uc,L8,e7,hk7,e8,hp8⟩=>?_);subst e7;subst e8;(refine AO Z<|AW Z Z Z Z<|A8 ?_);exact⟨_,Z,(ua,uc,L8),⟨Z,Z,trivial⟩,hk7,hp8,Z⟩
    rintro⟨b13,T13⟩ ⟨ua,uc,L8⟩ ρ2 d6 M1 M2 hl6 hM1 ⟨hk6,hp6,hM2⟩;subst hM1;subst hM2;simp only at hk6 hp6⊢;have hmw:=HL hp4.Fc (k:=n.kids[i]) (n:=CM an bn n.keys[i]) hb0.1 hb0.2 hjf.kl;generalize Bp s n.kids[i] (CM an bn n.keys[i])=W at hM hk6 hp6 hmw;have hm1:=hmw.p0;have hm2:=hmw.p1;have hm3:=hmw.o0;have hm4:=hmw.o1;have hm5:=hmw.k;refine BA 0 Z Z Z Z (Afe _) Z ?_;by_cases hwe:W.2.2=0
    ·rw[if_neg (fun q=>q hwe)] at hM;refine Ab Z<|A8<|AZ<|Ab Z<|AJ Z Z<|AT Z<|Aw<|Aw<|BE [_,_,_,_,_,_,_,_,_] L8 Z<|Ag Z<|Ap Z<|Am Z<|Ah Z (AG 8 Z Z)<|Am Z<|Ah Z (AG 3 Z Z)<|Ab Z<|A4 Z Z<|BT (i+1) Z Z (show((i:Int)+1)=((i+1:Nat):Int) by omega) (by omega) ?_;(apply Ah;rfl;exact AG 6 Z (by assumption));refine CX (WI h4 hp6 (k:=n.kids[i+1])) Z (fun v d7 L9 hl7 ⟨e9,hp9⟩=>?_);subst e9;by_cases hde:(W.1.drop n.kids[i+1]).2=0
     ·rw[if_neg (fun q=>q hde)] at hM;rw[hde];rw[hM];have hk9:=RSl.mono (R:=Ax) AF hk6 hl7;have hG:=hp9.Fc;have hle7:=(hle5.trans hl6).trans hl7;have hrow1:=hseti d7 i (vZ W.2.1.page) W.2.1.page hle7 (by omega) ⟨Z,by omega,by omega⟩;(refine Cw<|A7 Z<|Ab Z<|AJ Z Z<|AT Z<|Ak<|Am Z<|Ah Z (AG 3 Z Z)<|Ab Z<|Am Z<|Ah Z (AG 7 Z Z)<|BT _ Z Z Z (by omega) ?_);refine Bb 6 (patch li (i*1) [vZ W.2.1.page]) Z Z Z Z (by omega) Z Z ?_;apply An;generalize hT:(if 0≤W.2.1.other then Bp (W.1.drop n.kids[i+1]).1 k {n with keys:=n.keys.set i W.2.1.key,kids:=(n.kids.set i W.2.1.page).set (i+1) W.2.1.other} else Bp (W.1.drop n.kids[i+1]).1 k {n with keys:=n.keys.eraseIdx i,kids:=(n.kids.set i W.2.1.page).eraseIdx (i+1)})=T;refine G1 (fun ρ d' L'=>d7=d'∧∃cs' n' hk' hv' hi' x12 x10 x13 Lr,BN ρ [(0,pZ bt),(1,vZ k),(6,pZ b6),(8,pZ b8)]∧Es d' cs' n' hk' hv' hi'∧Fit n' 600∧Bp (W.1.drop n.kids[i+1]).1 k n'=T∧Lr.Perm [hk',hv',hi']∧
       L'=x12::x10::bx b8 T8 [vZ 0,vZ 0,nV,vZ 0]::bx b6 T6 cs'::x13::(Lr++tb bt Tt (pZ bp) r h c::L9)) ?_ ?_
      ·by_cases ho:0≤W.2.1.other
       ·rw[if_pos ho] at hT;refine Ak<|Am Z<|Ah Z (AG 7 Z Z)<|Dk Z Z<|A5 Z<|UK [_,_,_,_,_] (bx bk Tk lk::hv::bx bi Ti (patch li (i*1) [vZ W.2.1.page])::tb bt Tt (pZ bp) r h c::L9) (Ajd [_,_,_,_] (Agi (l₁:=[_,_,_])))<|Am Z<|Ah Z (AG 3 Z Z)<|Ab Z<|Am Z<|Ah Z (AG 3 Z Z)<|Ab Z<|A4 Z Z<|Am Z<|Ah Z (AG 4 Z Z)<|Am Z<|Ah Z (AG 4 Z Z)<|BT _ Z Z Z (by omega) ?_;have hrowk:=hsetk d7 i (.slice ua W.2.1.key.length uc) W.2.1.key hle7 hil ⟨_,Z,hk9⟩;refine Bb 0 (patch lk (i*1) [.slice ua W.2.1.key.length uc]) Z Z Z Z (by omega) Z Z ?_;skip;refine BT (i+1) Z Z (show((i:Int)+1)=((i+1:Nat):Int) by omega) (by omega) ?_;obtain⟨b',T',l',c',q1,q2,q3, -,hs2⟩:=Ai.all (R:=Bh) Ck hrow1 (by rw[Agg];omega);rw[Agg] at q1;cases q1;obtain⟨rfl,hq⟩:=TI q2;rw[Agg] at q3;have hrow2:=hs2 d7 (i+1) (vZ W.2.1.other) W.2.1.other (Le.refl _) (by rw[Agg];omega) ⟨Z,by omega,by omega⟩;rw[←hq] at hrow2 q3;refine Bb 2 (patch (patch li (i*1) [vZ W.2.1.page]) ((i+1)*1) [vZ W.2.1.other]) Z Z Z Z (by omega) Z Z ?_;(apply A8);refine⟨Z,_,{n with keys:=n.keys.set i W.2.1.key,kids:=(n.kids.set i W.2.1.page).set (i+1) W.2.1.other},_,hv,_,_,_,_,[_,_,_],⟨Z,Z,Z,Z,trivial⟩,⟨_,_,_,Z,hrowk,r2.DY hle7,hrow2⟩,⟨?_,?_,?_,fun y hy=>?_,hfit.vl⟩,hT,Agq _,Z⟩
        ·show(n.keys.set i W.2.1.key).length≤600;rw[Agg];omega
        ·have:=hfit.v;show n.vals.length≤600;omega
        ·show((n.kids.set i W.2.1.page).set (i+1) W.2.1.other).length≤600;rw[Agg,Agg];omega
        ·rcases Ri hy with rfl|hy
         ·exact hm5
         ·exact hfit.kl y hy
       ·rw[if_neg ho] at hT;refine Ak<|Am Z<|Ah Z (AG 7 Z Z)<|Dk Z Z<|EY Z<|UK [_,_,_,_,_] (bx bk Tk lk::hv::bx bi Ti (patch li (i*1) [vZ W.2.1.page])::tb bt Tt (pZ bp) r h c::L9) (Ajd [_,_,_,_] (Agi (l₁:=[_,_,_])))<|Am Z<|Ah Z (AG 3 Z Z)<|Ab Z<|Ab Z<|A4 Z Z<|Am Z<|Ah Z (AG 3 Z Z)<|Ab Z<|A4 Z Z<|Ab Z<|A4 Z Z<|Ek (A:=[_]) Z Z (h5 (r1.DY hle7) hil Z (by omega) FA) (fun v da La hla ⟨ea,h121,eb,hg121⟩=>?_);subst ea;subst eb;obtain⟨xa',xc',rfl⟩:=hg121.val;(apply Am;rfl);refine DO (A:=[bx bi Ti (patch li (i*1) [vZ W.2.1.page])]) (h6 (i:=i+1) (j:=((i:Int)+2)) (hrow1) (by rw[Agg];omega) (by omega) (by rw[Agg];omega) D1) (Agi (l₁:=[_,_])) Z (fun v db Lb hlb ⟨ec,h128,ed,hg128⟩=>?_);subst ec;subst ed;obtain⟨za,zc,rfl⟩:=hg128.val;refine⟨_,_,Vs.refl _ _,?_⟩
        apply Cw;refine Bb 3 [.bool n.leaf,.slice xa' (n.keys.eraseIdx i).length xc',.slice ya n.vals.length yc,.slice (some ⟨bi,0,none⟩) n.kids.length ci] Z Z Z Z (Aff Z) Z Z ?_;(apply Am;rfl);refine Bb 3 [.bool n.leaf,.slice xa' (n.keys.eraseIdx i).length xc',.slice ya n.vals.length yc,.slice za ((n.kids.set i W.2.1.page).eraseIdx (i+1)).length zc] Z Z Z Z (Aff Z) Z Z ?_;(apply An);refine⟨Z,_,{n with keys:=n.keys.eraseIdx i,kids:=(n.kids.set i W.2.1.page).eraseIdx (i+1)},h121,hv,h128,_,_,_,[_,_,_],⟨Z,Z,Z,Z,trivial⟩,⟨_,_,_,Z,hg121,r2.DY hle7,hg128⟩,⟨?_,?_,?_,fun y hy=>?_,hfit.vl⟩,hT,Afi (l₁:=[_]) (l₂:=[_,_]),Z⟩
        ·show(n.keys.eraseIdx i).length≤600;have:=(Ajf n.keys i).length_le;omega
        ·have:=hfit.v;show n.vals.length≤600;omega
        ·show((n.kids.set i W.2.1.page).eraseIdx (i+1)).length≤600;have:=(Ajf (n.kids.set i W.2.1.page) (i+1)).length_le;rw[Agg] at this;omega
        ·exact hfit.kl y (MK hy)
      ·rintro ρ3 d' L' ⟨hdd,cs',n',hk',hv',hi',x12,x10,x13,Lr,hsl,hn',hfit',hT',hpm,hLL⟩;subst hdd;subst hLL;subst hT';obtain⟨ka',kc',va',vc',ia',ic',rfl⟩:=hn'.cells;refine CU _ hsl ?_;obtain⟨d8,hl8,v8,hn8⟩:=Gs hn';have hmo:=HL hG (n:=n') hpg0 hpg1 hfit'.kl;refine A3 Z<|Ab Z<|Bk 3 Z Z Z<|B1 _ _ (Vs.out [_,_,_,_,_] _ hpm v8)<|A0 [_,_,_,_,_] (h3 (k:=k) (hp9.mono hl8) hn8 (hfit'.small (by omega))) Z Z (fun v d9 La hl9 ⟨_,wa,wc,Lb,ea,hka,eb,hpb⟩=>?_);subst ea;subst eb;refine AW Z Z Z Z<|BA 2 Z Z Z Z (Afe _) Z<|AS Z<|A6 [mdV (Bp (W.1.drop n.kids[i+1]).1 k n').2.1 wa wc,vZ (Bp (W.1.drop n.kids[i+1]).1 k n').2.2] ⟨AY 2 Z Z Z,Af Z,trivial⟩ (d':=d9) (L':=tb bt Tt (pZ bp) r h c::Lb) (Vs.drop (.cons _ (.cons _ (.cons _ (.cons _ (.cons _ (Afa _))))))) ⟨(((hle5.trans hl6).trans hl7).trans hl8).trans hl9,wa,wc,Lb,Z,hka,hmo,Z,hpb⟩
     ·rw[if_pos hde] at hM;rw[hM];refine Cw<|A7 Z<|Ab Z<|AJ Z Z<|A5 Z<|Ak<|BY Z<|Ab Z<|BA 2 Z Z Z Z (Afe _) Z<|AS Z<|A6 [mdV CO none 0,vZ (W.1.drop n.kids[i+1]).2] ⟨AY 2 Z Z Z,Af Z,trivial⟩ (d':=d7) (L':=tb bt Tt (pZ bp) r h c::L9) (Vs.drop (.cons _ (.cons _ (.cons _ (.cons _ (.cons _ (.cons _ (.cons _ (.cons _ (Afa _)))))))))) ⟨(hle5.trans hl6).trans hl7,none,0,L9,Z,RSl.nil,ES,Z,hp9⟩
    ·rw[if_pos hwe] at hM;rw[hM];refine Ab Z<|A8<|AZ<|Ab Z<|AJ Z Z<|A5 Z<|Ak<|BY Z<|Ab Z<|BA 2 Z Z Z Z (Afe _) Z<|AS Z<|A6 [mdV CO none 0,vZ W.2.2] ⟨AY 2 Z Z Z,Af Z,trivial⟩ (d':=d6) (L':=tb bt Tt (pZ bp) r h c::L8) (Vs.drop (.cons _ (.cons _ (.cons _ (.cons _ (.cons _ (.cons _ (.cons _ (.cons _ (Afa _)))))))))) ⟨hle5.trans hl6,none,0,L8,Z,RSl.nil,ES,Z,hp6⟩
   ·rw[if_pos hlf] at hM;rw[hM];refine Er (congrArg Value.bool (show(true ^^(an.leaf==bn.leaf))=true by cases hq:an.leaf<;>cases hq':bn.leaf<;>simp_all))<|Ak<|BY Z<|BA 2 Z Z Z Z (Afe _) Z<|AS Z<|A6 [mdV CO none 0,vZ 200] ⟨AY 2 Z Z Z,Af Z,trivial⟩ (d':=d5) (L':=tb bt Tt (pZ bp) r h c::L5) (Vs.drop (.cons _ (.cons _ (.cons _ (.cons _ (.cons _ (.cons _ (.cons _ (Afa _))))))))) ⟨hle5,none,0,L5,Z,RSl.nil,ES,Z,hp4.mono hl5⟩
  ·rw[if_pos hbe] at hM;rw[hM];refine AR Z<|Ab Z<|AJ Z Z<|A5 Z<|Ak<|BY Z<|Ab Z<|BA 2 Z Z Z Z (Afe _) Z<|AS Z<|A6 [mdV CO none 0,vZ be] ⟨AY 2 Z Z Z,Af Z,trivial⟩ (d':=d5) (L':=tb bt Tt (pZ bp) r h c::L5) (Vs.drop (.cons _ (.cons _ (.cons _ (.cons _ (.cons _ (.cons _ (.cons _ (Afa _))))))))) ⟨((hl2.trans hl3).trans hl4).trans hl5,none,0,L5,Z,RSl.nil,ES,Z,hp4.mono hl5⟩
 ·rw[if_pos hae] at hM;rw[hM];refine AR Z<|Ab Z<|AJ Z Z<|A5 Z<|Ak<|BY Z<|Ab Z<|BA 1 Z Z Z Z (Afe _) Z<|AS Z<|A6 [mdV CO none 0,vZ ae] ⟨AY 1 Z Z Z,Af Z,trivial⟩ (d':=d3) (L':=tb bt Tt (pZ bp) r h c::L3) (Vs.drop (.cons _ (.cons _ (.cons _ (.cons _ (.cons _ (.cons _ (Afa _)))))))) ⟨hl2.trans hl3,none,0,L3,Z,RSl.nil,ES,Z,⟨tc1,hp2.mono hl3⟩⟩
def TM(P:Program)(f:FuncId):Prop:=∀(x:Nat) {d s dv pv w L}{bt:Nat}{Tt}{r h c k:Int}{key},x≤1000000→PgT d s dv pv L→Ay d w key→ -1≤k→k≤16384→(Cm s k key (x+1)).2.2.2≠99999→
 Ao P f [pZ bt,vZ k,vZ ((x+1:Nat):Int),w] d (tb bt Tt pv r h c::L) (Ret fun v d' L'=>Le d d'∧∃ua uc L2,v=.tuple #[mdV (Cm s k key (x+1)).2.1 ua uc,.bool (Cm s k key (x+1)).2.2.1,vZ (Cm s k key (x+1)).2.2.2]∧
  Ay d' (.slice ua (Cm s k key (x+1)).2.1.key.length uc) (Cm s k key (x+1)).2.1.key∧MOk (Cm s k key (x+1)).2.1∧L'=tb bt Tt pv r h c::L2∧PgT d' (Cm s k key (x+1)).1 dv pv L2)
def Ms(a0 a1 a2 a3 a4 a5 a6 a7:Nat):A9:=⟨139,[(.cell 8 (some 4)),(.tmp 9),(.tmp 10)],(sR (o1 8 (.alo (.agg #[(vZ 0),(vZ 0),nV,(vZ 0)]))<|o1 9 (.mv (.const (.bool false)))<|o1 10 (.mv z0) .done) (sR (om 24 0<|om 25 1<|om 26 2<|oc 27 a0 [24,25,26]<|om 23 27<|oe 28 23 0<|oe 29 23 1<|o1 11 (.alo (.agg #[(.bool false),nV,nV,nV]))<|o0 (.st 4 11 28)<|om 12 29 .done) (.seq (sR (om 30 12<|ob 31 .neq 30 z0 .done) (.cond 31 (sR (o1 32 (.bld [(0,1),(1,1),(2,1),(3,1)] [(vZ 0),(vZ 0),nV,(vZ 0)] [])<|om 33 12<|o0 (.st 4 8 32)<|o1 9 (.mv (.const (.bool false)))<|om 10 33 .done) .ret) .skip)) (sR (o1 35 (.ld (some 4) 11)<|om 36 3<|oc 37 a1 [35,36]<|om 34 37<|oe 38 34 0<|oe 39 34 1<|om 13 38<|om 14 39 .done) (.seq (sR (om 40 2<|ob 41 .eql 40 z1 .done) (.cond 41 (.seq (sR (om 42 14<|o1 43 (.un .not 42) .done) (.cond 43 (sR (om 44 1<|o1 45 (.bld [(0,1),(1,1),(2,1),(3,1)] [(vZ 0),(vZ 0),nV,(vZ 0)] [(0,44),(1,(kZ (-1))),(3,(kZ 256))])<|o0 (.st 4 8 45)<|o1 9 (.mv (.const (.bool false)))<|o1 10 (.mv z0) .done) .ret) .skip)) (.seq (sR (om 46 0<|oj 47 2 11<|ol 48 47<|om 49 13<|oI 50 1 48 49<|ol 51 50<|oc 52 a2 [46,51]<|om 15 52 .done) (sR (om 53 15<|ob 54 .neq 53 z0 .done) (.cond 54 (sR (o1 55 (.bld [(0,1),(1,1),(2,1),(3,1)] [(vZ 0),(vZ 0),nV,(vZ 0)] [])<|om 56 15<|o0 (.st 4 8 55)<|o1 9 (.mv (.const (.bool false)))<|om 10 56 .done) .ret) .skip))) (.seq (.reg true (p1 57 (.fld 1 11)<|pl 58 57<|pm 59 13<|pm 60 13<|p1 61 (.bin .add 60 z1)<|p1 63 (.fld 2 11)<|pl 64 63<|pm 65 13<|pm 66 13<|p1 67 (.bin .add 66 z1)<|oc 62 a3 [58,59,61]<|p1 69 (.fld 1 11)<|oc 68 a3 [64,65,67] (.bar (o0 (.st 1 69 62) (p1 70 (.fld 2 11) (o0 (.st 1 70 68) .done)))))) (sR (om 72 0<|om 73 1<|o1 74 (.ld (some 4) 11)<|oc 75 a4 [72,73,74]<|om 71 75<|oe 76 71 0<|oe 77 71 1<|o1 16 (.alo (.agg #[(vZ 0),(vZ 0),nV,(vZ 0)]))<|o0 (.st 4 16 76)<|om 17 77 .done) (sR (o1 78 (.ld (some 4) 16)<|om 79 17<|o0 (.st 4 8 78)<|o1 9 (.mv (.const (.bool true)))<|om 10 79 .done) .ret))))) .skip)) (sR (om 81 0<|oj 82 3 11<|ol 83 82<|om 84 13<|oI 85 1 83 84<|ol 86 85<|om 87 2<|ob 88 .sub 87 z1<|om 89 3<|oc 90 a5 [81,86,88,89]<|om 80 90<|oe 91 80 0<|oe 92 80 1<|oe 93 80 2<|o1 18 (.alo (.agg #[(vZ 0),(vZ 0),nV,(vZ 0)]))<|o0 (.st 4 18 91)<|om 19 92<|om 12 93 .done) (.seq (sR (om 94 12<|ob 95 .neq 94 z0<|om 96 95<|gF 97 96 19<|oF 98 96 (.un .not 97)<|o1 99 (.pick 96 (.const (.bool true)) 98) .done) (.cond 99 (sR (om 100 1<|o1 101 (.bld [(0,1),(1,1),(2,1),(3,1)] [(vZ 0),(vZ 0),nV,(vZ 0)] [(0,100),(1,(kZ (-1))),(3,(kZ 256))])<|om 102 19<|om 103 12<|o0 (.st 4 8 101)<|om 9 102<|om 10 103 .done) .ret) .skip)) (.seq (sR (oj 104 1 18<|ol 105 104<|ob 106 .lss 105 z0<|om 107 106<|oT 108 107 (.fld 3 18)<|oT 109 107 (.ld none 108)<|oT 110 107 (.bin .lss 109 (kZ 80))<|gP 111 107 110 .done) (.cond 111 (sR (oj 112 3 11<|ol 113 112<|om 114 13<|oj 115 0 18<|ol 116 115<|oI 117 1 113 114<|o0 (.st 1 117 116) .done) (sR (om 119 0<|om 120 1<|o1 121 (.ld (some 4) 11)<|om 122 13<|oc 123 a6 [119,120,121,122]<|om 118 123<|oe 124 118 0<|oe 125 118 1<|o1 20 (.alo (.agg #[(vZ 0),(vZ 0),nV,(vZ 0)]))<|o0 (.st 4 20 124)<|om 21 125 .done) (sR (o1 126 (.ld (some 4) 20)<|om 127 21<|o0 (.st 4 8 126)<|o1 9 (.mv (.const (.bool true)))<|om 10 127 .done) .ret))) .skip)) (sR (om 129 0<|om 130 1<|o1 131 (.ld (some 4) 11)<|om 132 13<|o1 133 (.ld (some 4) 18)<|oc 134 a7 [129,130,131,132,133]<|om 128 134<|oe 135 128 0<|oe 136 128 1<|o1 22 (.alo (.agg #[(vZ 0),(vZ 0),nV,(vZ 0)]))<|o0 (.st 4 22 135)<|om 12 136 .done) (sR (o1 137 (.ld (some 4) 22)<|om 138 12<|o0 (.st 4 8 137)<|o1 9 (.mv (.const (.bool true)))<|om 10 138 .done) .ret))))))))))⟩
set_option maxRecDepth 4000 in
set_option maxHeartbeats 8000000 in
def AcW{P f f4 f5 f7 f8}(hd:Jj P f=some (Ms f1 f2 f3 f4 f5 f f7 f8))(h1:I7 P f1)(h2:I6 P f2 findD)(h3:NI P f3)(h4:Ll RBs P f4)(h5:IZ P f5)(h7:Q6 P f7)(h8:LH P f8):TM P f:=by
 intro x;induction x using Nat.strongRecOn with
 |ind x ih=>
 intro d s dv pv w L bt Tt r h c k key hx hp hw hk0 hk1 hnp;obtain⟨bp,rfl⟩:=hp.ptr;have hG:=hp.Fc;obtain⟨tc0,hp⟩:=hp;obtain⟨wa,wc,rfl⟩:=hw.val;refine Bj hd ?_;apply Aw;apply Av;refine B8 (fun b10 T10=>?_);refine Ad Z<|A7 Z<|Ag Z<|Ab Z<|Ab Z<|A0 [_] (h1 (k:=k) (x:=((x+1:Nat):Int)) hp) Z Z (fun v d2 L2 hl ⟨_,cs,hk,hv,hi,L3,tc,e1,e2,hn,hp2,htc⟩=>?_);subst e1;subst e2;have hp2:PgT d2 s dv (pZ bp) L3:=⟨tc,hp2⟩
 rw[show AM {s with tc:=tc0} k ((x+1:Nat):Int)=AM s k ((x+1:Nat):Int) from Z] at hn⊢;obtain⟨ka,kc,va,vc,ia,ic,rfl⟩:=hn.cells;(refine AO Z<|AW Z Z Z Z<|B8 (fun _ _=>?_));rename_i b13 T13;refine BA 0 Z Z Z Z (Afe _) Z ?_;by_cases he:(AM s k ((x+1:Nat):Int)).2=0
 ·obtain⟨hr,hlf⟩:=F7 he;obtain⟨n,hne⟩:∃n,(AM s k ((x+1:Nat):Int)).1=n:=⟨_,Z⟩
  rw[hne] at hn hr hlf⊢;obtain⟨hfit,hk64⟩:=H4 hr;obtain⟨i,b,hfd⟩:∃i b,findD n key=(i,b):=⟨_,_,Z⟩
  have hile:i≤n.keys.length:=by have:=KZ (n:=n) (key:=key);rw[hfd] at this;exact this
  rw[he];have hw2:=RSl.mono (R:=Ax) AF hw hl;have hlv:n.leaf=true→n.vals.length=n.keys.length:=HA hr;have hli:n.leaf=false→n.kids.length=n.keys.length+1:=GB hr;have hkd:=R5 hr;clear hr;have hnk:=hn;obtain⟨kv,vv,iv,q,r1,r2,r3⟩:=hn;cases q;(refine AR Z<|Ab Z<|AJ Z Z<|AT Z<|Ak<|Bk 0 Z Z Z<|Ae Z ?_);refine IY Z (v:=.tuple #[vZ i,.bool b]) (fun d1 hl1 hk1=>by
   have:=h2 (Es.JR ⟨_,_,_,Z,r1,r2,r3⟩ hl1 (hk1 _ (by simp)) (hk1 _ (by simp)) (hk1 _ (by simp))) (RSl.mono (R:=Ax) AF hw2 hl1);rw[hfd] at this;exact this) ?_
  (refine AO Z<|AW Z Z Z Z<|Ab Z<|AV Z ?_);apply Aw;apply Aw;apply Av;(refine Ab Z<|AI Z Z<|An ?_);by_cases hx0:x=0
  ·subst hx0;have hvl:=hlv (by rw[hlf];rfl);clear hlv hli hlf;refine EO Z (by omega) ?_;cases b with
   |true=>
    have hilt:i<n.keys.length:=by have:=OF (n:=n) (key:=key) (by rw[hfd]);rw[hfd] at this;exact this
    have hiv:i<n.vals.length:=by omega
    have hI:=Wm he hne hfd
    have hgv:n.vals.getD i []=n.vals[i]:=by rw[Afd,Afc hiv];rfl
    rw[hgv] at hI
    obtain⟨b1,T1,l1,c1,cs1,q1,rfl,hcl1,hcs,hle1,⟨u,rfl,hu⟩, -⟩:=Ai.at (by omega) r2 hiv
    cases q1
    have c0:=hcs 0 _ Z
    have hfk:=hfit.k
    have hfv:=hfit.v
    (refine AZ<|Ad Z<|Bm Z<|Be Z<|AZ<|Ag Z<|Az Z Z Z<|Ab Z<|BT _ Z Z Z (by omega)<|Ah Z (AG 3 Z (by assumption)) ?_)
    refine A0 [_,_,_,_,_] (h3 hp2 hu) Z Z (fun v d3 L4 hl3 ⟨_,e3,L5,e4,hp5⟩=>?_)
    subst e3;subst e4
    by_cases hz:(Ci s n.vals[i]).2=0
    ·rw[if_neg (fun q=>q hz)] at hI
     rw[hI,hz]
     clear hnp
     (refine A7 Z<|Ab Z<|AJ Z Z<|AT Z<|Aw ?_)
     refine BE [_,_] (hk::bx b1 T1 l1::hi::tb bt Tt (pZ bp) r h c::L5) Z ?_
     (refine Az Z Z Z<|Ab Z<|Ab Z<|A4 Z Z<|Az Z Z Z<|Ab Z<|Ab Z<|A4 Z Z ?_)
     refine Ek (A:=[_]) Z Z (h4 (r1.DY hl3) hilt Z (by omega) FA) (fun v da La hla ⟨ea,h62,eb,hg62⟩=>?_)
     subst ea;subst eb
     obtain⟨xa',xc',rfl⟩:=hg62.val
     (apply Am;rfl)
     refine DO (A:=[bx b1 T1 l1]) (h4 (i:=i) (j:=((i:Int)+1)) (r2.DY hl3) hiv Z (by omega) FA) (Agi (l₁:=[_])) Z (fun v db Lb hlb ⟨ec,h68,ed,hg68⟩=>?_)
     subst ec;subst ed
     obtain⟨za,zc,rfl⟩:=hg68.val
     refine⟨_,_,Vs.refl _ _,?_⟩
     apply Cw
     refine Bb 0 [.bool n.leaf,.slice xa' (n.keys.eraseIdx i).length xc',.slice (some ⟨b1,0,none⟩) n.vals.length vc,.slice ia n.kids.length ic] Z Z Z Z (Aff Z) Z Z ?_
     (apply Am;rfl)
     refine Bb 0 [.bool n.leaf,.slice xa' (n.keys.eraseIdx i).length xc',.slice za (n.vals.eraseIdx i).length zc,.slice ia n.kids.length ic] Z Z Z Z (Aff Z) Z Z ?_
     (refine Bo<|Ag Z<|Ab Z<|Bk 0 Z Z Z ?_)
     have hn':Es db [.bool n.leaf,.slice xa' (n.keys.eraseIdx i).length xc',.slice za (n.vals.eraseIdx i).length zc,.slice ia n.kids.length ic] {n with keys:=n.keys.eraseIdx i,vals:=n.vals.eraseIdx i} h62 h68 hi:=⟨_,_,_,Z,hg62,hg68,r3.JJ hl3⟩
     obtain⟨d8,hl8,v8,hn8⟩:=Gs hn'
     have hfit':Fit {n with keys:=n.keys.eraseIdx i,vals:=n.vals.eraseIdx i} 600:=by
      have e1:=(Ajf n.keys i).length_le;have e2:=(Ajf n.vals i).length_le;have e3:=hfit.i;exact⟨show(n.keys.eraseIdx i).length≤600 by omega,show(n.vals.eraseIdx i).length≤600 by omega,show n.kids.length≤600 by omega,fun y hy=>hfit.kl y (MK hy),fun y hy=>hfit.vl y (MK hy)⟩
     have hmo:=HL hp5.Fc (n:={n with keys:=n.keys.eraseIdx i,vals:=n.vals.eraseIdx i}) hk0 hk1 hfit'.kl
     refine B1 _ _ (Vs.out (M:=[_,_,_]) [_,_] _ (Afx _ _ _) v8) ?_
     refine A0 [_,_] (h5 (k:=k) (hp5.mono hl8) hn8 (hfit'.small (by omega))) Z Z (fun v d9 Lc hl9 ⟨_,ua,uc,L6,e5,hk5,e6,hp6⟩=>?_)
     subst e5;subst e6
     (refine AO Z<|AW Z Z Z Z<|B8 (fun _ _=>?_))
     rename_i b18 T18
     refine BA 0 Z Z Z Z (Afe _) Z ?_
     (refine A7 Z<|Bk 0 Z Z Z<|Ab Z ?_)
     refine BA 2 Z Z Z Z (Afe _) Z ?_
     (refine Ad Z<|AS Z ?_)
     exact A6 [mdV (Bp (Ci s n.vals[i]).1 k {n with keys:=n.keys.eraseIdx i,vals:=n.vals.eraseIdx i}).2.1 ua uc,.bool true,vZ (Bp (Ci s n.vals[i]).1 k {n with keys:=n.keys.eraseIdx i,vals:=n.vals.eraseIdx i}).2.2] ⟨AY 2 Z Z Z,Af Z,Af Z,trivial⟩ (d':=d9) (L':=tb bt Tt (pZ bp) r h c::L6) (Vs.drop (.cons _ (.cons _ (.cons _ (Afa _))))) ⟨((hl.trans hl3).trans hl8).trans hl9,ua,uc,L6,Z,hk5,hmo,Z,hp6⟩
    ·rw[if_pos hz] at hI
     rw[hI]
     clear hnp
     (refine A7 Z<|Ab Z<|AJ Z Z<|A5 Z<|Ak<|BY Z<|Ab Z ?_)
     refine BA 1 Z Z Z Z (Afe _) Z ?_
     (refine Ad Z<|AS Z ?_)
     exact A6 [mdV CO none 0,.bool false,vZ (Ci s n.vals[i]).2] ⟨AY 1 Z Z Z,Af Z,Af Z,trivial⟩ (d':=d3) (L':=tb bt Tt (pZ bp) r h c::L5) (Vs.drop (.cons _ (.cons _ (.cons _ (.cons _ (.cons _ (Afa _))))))) ⟨hl.trans hl3,none,0,L5,Z,RSl.nil,ES,Z,hp5⟩
   |false=>
    have hI:=VP he hne hfd
    rw[hI]
    clear hnp
    (refine AZ<|Ad Z<|Bm Z<|B7 Z<|AE Z<|BY Z ?_)
    refine BA 1 Z Z Z Z (Afe _) Z ?_
    (refine Ad Z<|AS Z ?_)
    exact A6 [mdV ⟨k, -1,[],256⟩ none 0,.bool false,vZ 0] ⟨AY 1 Z Z Z,Af Z,Af Z,trivial⟩ (d':=d2) (L':=tb bt Tt (pZ bp) r h c::L3) (Vs.drop (.cons _ (.cons _ (.cons _ (.cons _ (.cons _ (Afa _))))))) ⟨hl,none,0,L3,Z,RSl.nil,⟨hk0,hk1,(by decide:(-1:Int)≤ -1),(by decide:(-1:Int)≤16384),Agd _⟩,Z,hp2⟩
  ·obtain⟨x,rfl⟩:∃y,x=y+1:=⟨x - 1,by omega⟩
   have hil:=hli (by rw[hlf];simp;omega);clear hlv hli hlf;have hii:i<n.kids.length:=by omega
   have hgk:n.kids.getD i 0=n.kids[i]:=by rw[Afd,Afc hii];rfl
   have hI:=Qa (key:=key) he hne hfd (u:=Cm s n.kids[i] key (x+1)) (by rw[hgk]);have hkb:=hkd _ (Agb hii);have hnk0:=hnk;obtain⟨b1,T1,l1,c1,cs1,q1,rfl,hcl1,hcs,hle1,⟨rfl,hb1,hb2⟩,hset⟩:=Ai.at (by omega) r3 hii;cases q1;have c0:=hcs 0 _ Z;have hnp':(Cm s n.kids[i] key (x+1)).2.2.2≠99999:=by
    intro q;rw[hI,if_pos (.inl (by rw[q];decide))] at hnp;exact hnp q
   refine Fs Z (by omega)<|AH<|A3 Z<|Az Z Z Z<|Ab Z<|BT _ Z Z Z (by omega)<|Ah Z (AG 4 Z (by assumption))<|Ab Z<|DT Z Z<|Ae Z<|Fj (g:=88) (v:=vZ ((x+1:Nat):Int)) (congrArg (Value.int .i64) (by push_cast;omega)) ?_;skip;refine A0 [_,_,_,_,_] (ih x (Nat.lt_succ_self x) (k:=n.kids[i]) (by omega) hp2 hw2 (by omega) (by omega) hnp') Z Z (fun v d3 L4 hl3 ⟨_,ua,uc,L5,e3,hk3,hm3,e4,hp5⟩=>?_);subst e3;subst e4;generalize Cm s n.kids[i] key (x+1)=U at hI hk3 hm3 hp5;clear hnp';rw[hI] at hnp⊢;(refine AO Z<|AW Z Z Z Z<|Dl Z Z<|B8 (fun _ _=>?_));rename_i b20 T20;refine BA 0 Z Z Z Z (Afe _) Z ?_;obtain⟨us,um,uw,ue⟩:=U;simp only at hI hk3 hm3 hp5 hnp⊢;clear hI;by_cases hz:ue=0
   ·subst hz;cases uw with
    |true=>
     rw[if_neg (by simp)] at hnp⊢
     have hmo1:=hm3.p0
     have hmo2:=hm3.p1
     by_cases hc:um.other<0∧um.size<80
     ·rw[if_pos hc] at hnp⊢
      have hkl1:1≤n.keys.length:=by
       refine Classical.byContradiction fun q=>hnp ?_;show(Eh us k {n with kids:=n.kids.set i um.page} i).2.2=99999;unfold Eh;rw[if_pos (show n.keys.length=0 by omega)]
      clear hnp
      obtain⟨hc1,hc2⟩:=hc
      have hrow:=hset [vZ um.page] um.page Z ⟨Z,by omega,by omega⟩
      have hkb2:∀y∈n.kids.set i um.page, -1≤y∧y≤16384:=fun y hy=>by
       rcases Ri hy with rfl|hy
       ·omega
       ·have:=hkd y hy;omega
      (refine Ad Z<|AR Z<|Ab Z<|AJ Z Z<|Ad Z<|Bs Z<|Ac Z<|Ad Z<|Ac Z<|Bm Z<|Aj Z Z<|Be Z<|AZ<|Az Z Z Z<|Au Z Z<|Ad Z<|Bx Z<|Ac Z<|Am Z<|Ac Z<|c_l Z Z Z<|Ac Z<|Au Z Z<|As Z Z<|A5 Z<|Ak<|Am Z<|Ah Z (AG 1 Z Z)<|Ab Z<|Az Z Z Z<|BT _ Z Z Z (by omega) ?_)
      refine Bb 5 (patch l1 (i*1) [vZ um.page]) Z Z Z Z (by omega) Z Z ?_
      (refine Bo<|Ag Z<|Ab Z<|Bk 1 Z Z Z<|Ab Z ?_)
      refine A0 [_,_,_] (h7 (k:=k) (n:={n with kids:=n.kids.set i um.page}) (i:=i) hp5 ⟨_,_,_,by show _=[Value.bool n.leaf,_,_,_];rfl,r1.DY hl3,r2.DY hl3,hrow.JJ hl3⟩
       ⟨by have:=hfit.k;show n.keys.length≤400;omega,by have:=hfit.v;show n.vals.length≤400;omega,by have:=hfit.i;show(n.kids.set i um.page).length≤400;rw[Agg];omega,hfit.kl,hfit.vl⟩ hkl1 (by show(n.kids.set i um.page).length=_;rw[Agg];exact hil) hile
       hkb2 hk0 hk1) Z Z (fun v d6 L6 hl6 ⟨_,ua',uc',L7,e6,hk6,hmm,e7,hp7⟩=>?_)
      subst e6;subst e7
      (refine AO Z<|AW Z Z Z Z<|B8 (fun _ _=>?_))
      rename_i b22 T22
      refine BA 0 Z Z Z Z (Afe _) Z ?_
      (refine A7 Z<|Bk 0 Z Z Z<|Ab Z ?_)
      refine BA 3 Z Z Z Z (Afe _) Z ?_
      (refine Ad Z<|AS Z ?_)
      exact A6 [mdV (Eh us k {n with kids:=n.kids.set i um.page} i).2.1 ua' uc',.bool true,vZ (Eh us k {n with kids:=n.kids.set i um.page} i).2.2] ⟨AY 3 Z Z Z,Af Z,Af Z,trivial⟩ (d':=d6) (L':=tb bt Tt (pZ bp) r h c::L7) (Vs.drop (.cons _ (.cons _ (.cons _ (.cons _ (Afa _)))))) ⟨(hl.trans hl3).trans hl6,ua',uc',L7,Z,hk6,hmm,Z,hp7⟩
     ·rw[if_neg hc] at hnp⊢
      clear hnp
      have hmo:=R1 hp5.Fc (n:=n) (i:=i) hk0 hk1 hfit.kl hm3
      (refine Ad Z<|AU Z ?_)
      apply Aw;apply Aw;apply Av
      (refine Ab Z<|AJ Z Z<|Ad Z<|Bs Z<|Ac Z<|Ad Z<|Ac Z<|Bm Z<|Aj Z Z<|An ?_)
      apply Cn;rfl;apply AH
      refine G1 (fun ρ d' L'=>BN ρ [(0,pZ bt),(1,vZ k),(13,vZ i),(11,pZ b13),(18,pZ b20),(8,pZ b10)]∧d3=d'∧
       L'=bx b20 T20 [vZ um.page,vZ um.other,.slice ua um.key.length uc,vZ um.size]::bx b13 T13 [.bool n.leaf,.slice ka n.keys.length kc,.slice va n.vals.length vc,.slice (some ⟨b1,0,none⟩) n.kids.length ic]::bx b10 T10 [vZ 0,vZ 0,nV,vZ 0]::hk::hv::bx b1 T1 l1::tb bt Tt (pZ bp) r h c::L5) ?_ ?_
      ·by_cases ho:um.other<0
       ·have hsz:¬um.size<80:=fun q=>hc ⟨ho,q⟩
        (refine Ak<|Az Z Z Z<|Au Z Z<|Ad Z<|Bx Z<|Ac Z<|Am Z<|Ac Z<|c_l Z Z Z<|Ac Z<|Au Z Z<|As Z Z<|AT Z ?_)
        exact⟨⟨Z,Z,Z,Z,Z,Z,trivial⟩,Z,Z⟩
       ·(refine Ak<|Az Z Z Z<|Au Z Z<|Ad Z<|Bs Z<|AQ Z Z<|BP Z<|Aj Z Z<|Be Z ?_)
        exact⟨⟨Z,Z,Z,Z,Z,Z,trivial⟩,Z,Z⟩
      ·rintro ρ d' L' ⟨hsl,hdd,hLL⟩
       subst hdd;subst hLL
       refine CU _ hsl ?_
       (refine A3 Z<|Ab Z<|Bk 1 Z Z Z<|Ab Z<|Bk 0 Z Z Z ?_)
       refine A0 [_,_,_] (h8 (k:=k) (n:=n) (i:=i) (m:=um) hp5 (hnk0.mono hl3) ⟨by have:=hfit.k;omega,by have:=hfit.v;omega,by have:=hfit.i;omega,hfit.kl,hfit.vl⟩ hii (fun _=>hile) hm3 hk3) Z Z (fun v d6 L6 hl6 ⟨_,ua',uc',L7,e6,hk6,e7,hp7⟩=>?_)
       subst e6;subst e7
       (refine AO Z<|AW Z Z Z Z<|B8 (fun _ _=>?_))
       rename_i b22 T22
       refine BA 0 Z Z Z Z (Afe _) Z ?_
       (refine A7 Z<|Bk 0 Z Z Z<|Ab Z ?_)
       refine BA 3 Z Z Z Z (Afe _) Z ?_
       (refine Ad Z<|AS Z ?_)
       exact A6 [mdV (CS us k n i um).2.1 ua' uc',.bool true,vZ (CS us k n i um).2.2] ⟨AY 3 Z Z Z,Af Z,Af Z,trivial⟩ (d':=d6) (L':=tb bt Tt (pZ bp) r h c::L7) (Vs.drop (.cons _ (.cons _ (.cons _ (.cons _ (Afa _)))))) ⟨(hl.trans hl3).trans hl6,ua',uc',L7,Z,hk6,hmo,Z,hp7⟩
    |false=>
     rw[if_pos (.inr Z)]
     clear hnp
     (refine Ad Z<|AR Z<|Ab Z<|AJ Z Z<|Ad Z<|Bs Z<|Ac Z<|Ad Z<|Ac Z<|Bm Z<|Aj Z Z<|B7 Z<|AE Z<|BY Z<|Ad Z<|Ab Z ?_)
     refine BA 2 Z Z Z Z (Afe _) Z ?_
     (refine Ad Z<|AS Z ?_)
     exact A6 [mdV ⟨k, -1,[],256⟩ none 0,.bool false,vZ 0] ⟨AY 2 Z Z Z,Af Z,Af Z,trivial⟩ (d':=d3) (L':=tb bt Tt (pZ bp) r h c::L5) (Vs.drop (.cons _ (.cons _ (.cons _ (.cons _ (.cons _ (.cons _ (Afa _)))))))) ⟨hl.trans hl3,none,0,L5,Z,RSl.nil,⟨hk0,hk1,(by decide:(-1:Int)≤ -1),(by decide:(-1:Int)≤16384),Agd _⟩,Z,hp5⟩
   ·rw[if_pos (.inl hz)];clear hnp;refine Ad Z<|AR Z<|Ab Z<|AJ Z Z<|Ad Z<|Bx Z<|AQ Z Z<|As Z Z<|B7 Z<|AE Z<|BY Z<|Ad Z<|Ab Z<|BA 2 Z Z Z Z (Afe _) Z<|Ad Z<|AS Z<|A6 [mdV ⟨k, -1,[],256⟩ none 0,.bool uw,vZ ue] ⟨AY 2 Z Z Z,Af Z,Af Z,trivial⟩ (d':=d3) (L':=tb bt Tt (pZ bp) r h c::L5) (Vs.drop (.cons _ (.cons _ (.cons _ (.cons _ (.cons _ (.cons _ (Afa _)))))))) ⟨hl.trans hl3,none,0,L5,Z,RSl.nil,⟨hk0,hk1,(by decide:(-1:Int)≤ -1),(by decide:(-1:Int)≤16384),Agd _⟩,Z,hp5⟩
 ·rw[AaK he];clear hnp;refine AR Z<|Ab Z<|AJ Z Z<|A5 Z<|Ak<|BY Z<|Ab Z<|BA 1 Z Z Z Z (Afe _) Z<|Ad Z<|AS Z<|A6 [mdV CO none 0,.bool false,vZ (AM s k ((x+1:Nat):Int)).2] ⟨AY 1 Z Z Z,Af Z,Af Z,trivial⟩ (d':=d2) (L':=tb bt Tt (pZ bp) r h c::L3) (Vs.drop (.cons _ (.cons _ (.cons _ (.cons _ (.cons _ (Afa _))))))) ⟨hl,none,0,L3,Z,RSl.nil,ES,Z,hp2⟩
structure Aal (t:TD) (key:List UInt8):Prop where
 far:QS t
 np:t.height≠0→(Cm t.s t.root key t.height).2.2.2≠99999
 c:t.height≠0→1≤t.count
 hh:(Dg {t with s:=(Cm t.s t.root key t.height).1,count:=t.count - 1} (Cm t.s t.root key t.height).2.1).1.height≠0∨t.height=0
def QT(P:Program)(f:FuncId):Prop:=∀{d}{t:TD}{dv pv L}{bt b2 b3 b7:Nat}{Tt T2 T3 T7 ka}{kc:Nat}{key},PgT d t.s dv pv L→Ay d (.slice ka key.length kc) key→Aal t key→
 Ao P f [pZ b2,pZ b3,pZ b7] d (tbD bt Tt pv t::([bx b2 T2 [pZ bt],bx b3 T3 [.slice ka key.length kc],bx b7 T7 [.bool false]]++L))
  (Ret fun v d' L'=>Le d d'∧v=vZ (Ch t key).2.2∧∃L2,L'=tbD bt Tt pv (Ch t key).1::([bx b2 T2 [pZ bt],bx b3 T3 [.slice ka key.length kc],bx b7 T7 [.bool (Ch t key).2.1]]++L2)∧PgT d' (Ch t key).1.s dv pv L2)
def NW(a0 a1 a2:Nat):A9:=⟨50,[(.tmp 3)],(sR (o1 3 (.mv z0) .done) (.seq (sR (ol 8 0<|o1 9 (.nilc 8)<|oj 10 2 9<|ol 11 10<|ob 12 .eql 11 z0 .done) (.cond 12 (sR (o1 3 (.mv z0) .done) .ret) .skip)) (.seq (.reg true (pl 14 0<|pl 15 0<|p1 16 (.nilc 15)<|p1 17 (.fld 1 16)<|pl 18 17<|pl 19 0<|p1 20 (.nilc 19)<|p1 21 (.fld 2 20)<|pl 22 21<|pl 23 1 (.par (o1 4 (.alo (.agg #[(vZ 0),(vZ 0),nV,(vZ 0)])) .done) (oc 24 a0 [14,18,22,23] (pm 13 24 (p1 25 (.ext 13 0) (p1 26 (.ext 13 1) (p1 27 (.ext 13 2) .done))))) (o0 (.st 4 4 25) (pm 5 26 (pm 6 27 .done)))))) (.seq (sR (om 28 6<|ob 29 .neq 28 z0<|om 30 29<|gF 31 30 5<|oF 32 30 (.un .not 31)<|o1 33 (.pick 30 (.const (.bool true)) 32) .done) (.cond 33 (sR (om 34 6<|om 3 34 .done) .ret) .skip)) (sR (o0 (.st 1 2 (.const (.bool true))) .done) (sR (ol 35 0<|o1 36 (.nilc 35)<|oj 37 3 36<|ol 38 37<|ob 39 .sub 38 z1<|o1 40 (.nilc 35)<|oj 41 3 40<|o0 (.st 1 41 39) .done) (.seq (sR (ol 42 0<|o1 43 (.ld (some 4) 4)<|oc 44 a1 [42,43]<|om 7 44 .done) (sR (om 45 7<|ob 46 .neq 45 z0 .done) (.cond 46 (sR (om 47 7<|om 3 47 .done) .ret) .skip))) (sR (ol 48 0<|oc 49 a2 [48]<|om 3 49 .done) .ret))))))))⟩
set_option maxRecDepth 4000 in
set_option maxHeartbeats 4000000 in
def Z1{P f}(hd:Jj P f=some (NW f1 f2 f3))(h1:TM P f1)(h2:Kq P f2)(h3:ME P f3):QT P f:=by
 intro d t dv pv L bt b2 b3 b7 Tt T2 T3 T7 ka kc key hp hk hcan;obtain⟨bp,rfl⟩:=hp.ptr;obtain⟨s,root,height,count⟩:=t;obtain⟨hr0,hr1,hh,hc⟩:=hcan.far;simp only at hp hr0 hr1 hh hc;refine Bj hd ?_;apply Aw;apply Av;refine B1 d ([bx b2 T2 [pZ bt],bx b3 T3 [.slice ka key.length kc],bx b7 T7 [.bool false]]++tb bt Tt (pZ bp) root height count::L) (Vs.perm List.perm_middle.symm) ?_;by_cases hh0:height=0
 ·subst hh0;have hF:Ch ⟨s,root,0,count⟩ key=(⟨s,root,0,count⟩,false,0):=by unfold Ch;rw[if_pos Z]
  rw[hF];refine AR Z<|c_l Z Z Z<|Ap Z<|Am Z<|Ah Z (AG 3 Z Z)<|AI Z Z<|A5 Z<|AE Z<|BJ<|A6 [vZ 0] ⟨Af Z,trivial⟩ (d':=d) (L':=tbD bt Tt (pZ bp) ⟨s,root,0,count⟩::([bx b2 T2 [pZ bt],bx b3 T3 [.slice ka key.length kc],bx b7 T7 [.bool false]]++L)) (Vs.perm (Agi (a:=tbD bt Tt (pZ bp) ⟨s,root,0,count⟩) (l₁:=[bx b2 T2 [pZ bt],bx b3 T3 [.slice ka key.length kc],bx b7 T7 [.bool false]]) (l₂:=L))) ⟨Le.refl _,Z,L,Z,hp⟩
 ·have hF:Ch ⟨s,root,height,count⟩ key=if (Cm s root key height).2.2.2≠0∨(Cm s root key height).2.2.1=false then(⟨(Cm s root key height).1,root,height,count⟩,false,(Cm s root key height).2.2.2) else
    if (Dg ⟨(Cm s root key height).1,root,height,count - 1⟩ (Cm s root key height).2.1).2≠0 then((Dg ⟨(Cm s root key height).1,root,height,count - 1⟩ (Cm s root key height).2.1).1,true,(Dg ⟨(Cm s root key height).1,root,height,count - 1⟩ (Cm s root key height).2.1).2) else
    ((El (Dg ⟨(Cm s root key height).1,root,height,count - 1⟩ (Cm s root key height).2.1).1).1,true,(El (Dg ⟨(Cm s root key height).1,root,height,count - 1⟩ (Cm s root key height).2.1).1).2):=by
   unfold Ch;rw[if_neg hh0]
  rw[hF];clear hF;obtain⟨x,rfl⟩:∃x,height=x+1:=⟨height - 1,by omega⟩
  (refine AR Z<|c_l Z Z Z<|Ap Z<|Am Z<|Ah Z (AG 3 Z Z)<|AI Z Z<|AT Z<|Aw ?_);have hc1:=hcan.c hh0;have hnp:=hcan.np hh0;have hgr:=hcan.hh.resolve_right hh0;simp only at hc1 hnp hgr;clear hcan;refine BE [_,_,_,_] L Z<|c_l Z Z Z<|c_l Z Z Z<|Ap Z<|Am Z<|Ah Z (AG 3 Z Z)<|c_l Z Z Z<|Ap Z<|Am Z<|Ah Z (AG 3 Z Z)<|Ah Z (AG 1 Z Z) ?_;have hins:=h1 x (r:=root) (h:=((x+1:Nat):Int)) (c:=count) (bt:=bt) (Tt:=Tt) (k:=root) (by omega) hp hk hr0 hr1 hnp;generalize Cm s root key (x+1)=U at hins hgr⊢;clear hnp;refine Gh (α:=Nat×TypeId) (β:=Option Addr×Nat×List Aa) [(0,pZ b2),(1,pZ b3),(2,pZ b7),(3,vZ 0)]
   (fun x=>[(4,.pointer (some ⟨x.1,0,none⟩))]) (fun x d L=>L=[bx x.1 x.2 [vZ 0,vZ 0,nV,vZ 0]])
   (fun y=>[(25,mdV U.2.1 y.1 y.2.1),(26,.bool U.2.2.1),(27,vZ U.2.2.2)]) (fun y d' M=>Ay d' (.slice y.1 U.2.1.key.length y.2.1) U.2.1.key∧MOk U.2.1∧PgT d' U.1 dv (pZ bp) y.2.2∧M=y.2.2) [] L Z
   (fun x d d' M hl h=>h) (fun y d d' M hl h=>⟨RSl.mono (R:=Ax) AF h.1 hl,h.2.1,h.2.2.1.mono hl,h.2.2.2⟩) (fun x=>Z) (fun y=>Z) Z ⟨Z,Z,Z,Z,trivial⟩ ?_ ?_ ?_
  ·refine B8 (fun b8 T8=>?_);(apply A8);exact⟨_,Z,(b8,T8),⟨Z,trivial⟩,Z⟩
  ·refine VF (B:=[_,_,_]) hins (Afi (l₁:=[_,_,_])) Z (fun v d4 L4 hl4 ⟨_,wa,wc,L5,e4,hk4,hm4,e5,hp5⟩=>⟨L5,by rw[e5];exact Afi (l₂:=[_,_,_]),?_⟩);subst e4;(refine AO Z<|AW Z Z Z Z<|Dl Z Z<|A8 ?_);exact⟨_,Z,(wa,wc,L5),⟨Z,Z,Z,trivial⟩,hk4,hm4,hp5,Z⟩
  rintro⟨b8,T8⟩ ⟨wa,wc,L5⟩ ρ2 d4 M1 M2 hl4 hM1 ⟨hk4,hm4,hp5,hM2⟩;subst hM1;subst hM2;simp only at hk4 hp5⊢;refine BA 0 Z Z Z Z (Afe _) Z ?_;clear hins;obtain⟨us,um,uw,ue⟩:=U;simp only at hk4 hm4 hp5 hgr⊢;(refine Ad Z<|Ab Z<|A8<|AZ<|Ab Z<|AJ Z Z<|Ad Z ?_);by_cases hue:ue=0
  ·subst hue;cases uw with
   |true=>
    rw[if_neg (by simp)]
    (refine Bs Z<|Ac Z<|Ad Z<|Ac Z<|Bm Z<|Aj Z Z<|Be Z<|Ak ?_)
    refine Bb 2 [.bool true] Z Z Z Z (Afe _) Z Z ?_
    (refine Bo<|c_l Z Z Z<|Ap Z<|Am Z<|Ah Z (AG 3 Z Z)<|DT Z Z<|Ap Z<|Am Z ?_)
    have hcc:(count:Int) - 1=((count - 1:Nat):Int):=by omega
    refine Bb 3 [pZ bp,vZ root,vZ ((x+1:Nat):Int),vZ ((count:Int) - 1)] Z Z Z Z (Aff Z) Z Z ?_
    rw[hcc]
    (refine BG<|c_l Z Z Z<|Bk 4 Z Z Z ?_)
    refine DO (A:=tbD bt Tt (pZ bp) ⟨us,root,x+1,count - 1⟩::M2) (B:=[_,_,_,_]) (h2 (t:=⟨us,root,x+1,count - 1⟩) (m:=um) hp5 hk4 hm4 (by show x+1≤1000000;omega))
     ((Agi (l₁:=[_,_,_])).trans (Afm _ (Afi (l₁:=[_,_,_,_])))) Z (fun v d6 L6 hl6 ⟨_,e6,L7,e7,hp7⟩=>?_)
    subst e6;subst e7
    have hg1:(Dg ⟨us,root,x+1,count - 1⟩ um).1.height≤1000001:=by unfold Dg;split<;>simp only<;>omega
    generalize Dg ⟨us,root,x+1,count - 1⟩ um=Q at hgr hp7 hg1
    obtain⟨tq,eq⟩:=Q
    simp only at hgr hp7 hg1⊢
    refine⟨d6,[_,_,_,_]++tbD bt Tt (pZ bp) tq::L7,Vs.perm (Afi (l₂:=[_,_,_,_])),?_⟩
    (refine A7 Z<|Ab Z<|AJ Z Z<|An ?_)
    by_cases hqe:eq=0
    ·rw[if_neg (fun q=>q hqe)]
     (refine BM Z<|AH<|Ak<|c_l Z Z Z ?_)
     refine A0 [_,_,_,_] (h3 (t:=tq) hp7 (by omega) hg1) Z Z (fun v d8 L8 hl8 ⟨_,e8,L9,e9,hp9⟩=>?_)
     subst e8;subst e9
     (refine AS Z ?_)
     exact A6 [vZ _] ⟨Af Z,trivial⟩ (d':=d8) (L':=tbD bt Tt (pZ bp) (El tq).1::([bx b2 T2 [pZ bt],bx b3 T3 [.slice ka key.length kc],bx b7 T7 [.bool true]]++L9)) ((Vs.drop (L':=[bx b2 T2 [pZ bt],bx b3 T3 [.slice ka key.length kc],bx b7 T7 [.bool true]]++(tbD bt Tt (pZ bp) (El tq).1::L9)) (.cons_cons _ (.cons_cons _ (.cons_cons _ (.cons _ (Afa _)))))).trans (Vs.perm Agi)) ⟨(hl4.trans hl6).trans hl8,Z,L9,Z,hp9⟩
    ·rw[if_pos hqe]
     (refine B2 Z<|AE Z<|AS Z ?_)
     exact A6 [vZ eq] ⟨Af Z,trivial⟩ (d':=d6) (L':=tbD bt Tt (pZ bp) tq::([bx b2 T2 [pZ bt],bx b3 T3 [.slice ka key.length kc],bx b7 T7 [.bool true]]++L7)) ((Vs.drop (L':=[bx b2 T2 [pZ bt],bx b3 T3 [.slice ka key.length kc],bx b7 T7 [.bool true]]++(tbD bt Tt (pZ bp) tq::L7)) (.cons_cons _ (.cons_cons _ (.cons_cons _ (.cons _ (Afa _)))))).trans (Vs.perm Agi)) ⟨hl4.trans hl6,Z,L7,Z,hp7⟩
   |false=>
    rw[if_pos (.inr Z)]
    (refine Bs Z<|Ac Z<|Ad Z<|Ac Z<|Bm Z<|Aj Z Z<|B7 Z<|AE Z<|AS Z ?_)
    exact A6 [vZ 0] ⟨Af Z,trivial⟩ (d':=d4) (L':=tbD bt Tt (pZ bp) ⟨us,root,x+1,count⟩::([bx b2 T2 [pZ bt],bx b3 T3 [.slice ka key.length kc],bx b7 T7 [.bool false]]++M2)) ((Vs.drop (L':=[bx b2 T2 [pZ bt],bx b3 T3 [.slice ka key.length kc],bx b7 T7 [.bool false]]++(tbD bt Tt (pZ bp) ⟨us,root,x+1,count⟩::M2)) (.cons_cons _ (.cons_cons _ (.cons_cons _ (.cons_cons _ (.cons _ (Afa _))))))).trans (Vs.perm Agi)) ⟨hl4,Z,M2,Z,hp5⟩
  ·rw[if_pos (.inl hue)];refine Bx Z<|AQ Z Z<|As Z Z<|B7 Z<|AE Z<|AS Z<|A6 [vZ ue] ⟨Af Z,trivial⟩ (d':=d4) (L':=tbD bt Tt (pZ bp) ⟨us,root,x+1,count⟩::([bx b2 T2 [pZ bt],bx b3 T3 [.slice ka key.length kc],bx b7 T7 [.bool false]]++M2)) ((Vs.drop (L':=[bx b2 T2 [pZ bt],bx b3 T3 [.slice ka key.length kc],bx b7 T7 [.bool false]]++(tbD bt Tt (pZ bp) ⟨us,root,x+1,count⟩::M2)) (.cons_cons _ (.cons_cons _ (.cons_cons _ (.cons_cons _ (.cons _ (Afa _))))))).trans (Vs.perm Agi)) ⟨hl4,Z,M2,Z,hp5⟩
def EK(t:TD)(key:List UInt8):TD×Bool×Int:=
 if Cl key≠0 then(t,false,Cl key) else(CL t (Ch t key).1 (Ch t key).2.2,(Ch t key).2.1 && decide ((Ch t key).2.2=0),(Ch t key).2.2)
def UL(P:Program)(f:FuncId):Prop:=∀{d}{t:TD}{dv pv kv L}{bt:Nat}{Tt key},PgT d t.s dv pv L→Ay d kv key→(Cl key=0→Aal t key)→
 Ao P f [pZ bt,kv] d (tbD bt Tt pv t::L) (Ret fun v d' L'=>Le d d'∧v=.tuple #[.bool (EK t key).2.1,vZ (EK t key).2.2]∧∃L2,L'=tbD bt Tt pv (EK t key).1::L2∧PgT d' (EK t key).1.s dv pv L2)
def Qw(a0 a1 a2:Nat):A9:=⟨24,[(.tmp 4),(.tmp 5)],(sR (o1 2 (.box 0)<|o1 3 (.box 1)<|o1 4 (.mv (.const (.bool false)))<|o1 5 (.mv z0) .done) (.seq (sR (ol 9 2<|ol 10 3<|oc 11 a0 [9,10]<|om 6 11 .done) (sR (om 12 6<|ob 13 .neq 12 z0 .done) (.cond 13 (sR (om 14 6<|o1 4 (.mv (.const (.bool false)))<|om 5 14 .done) .ret) .skip))) (sR (o1 7 (.alo (.bool false))<|o0 (.st 1 7 (.const (.bool false))) .done) (sR (ol 15 2<|o1 16 (.mkf (.func a1) [] [2,3,7])<|oc 17 a2 [15,16]<|om 8 17 .done) (sR (ol 18 7<|om 19 18<|gT 20 19 8<|oT 21 19 (.bin .eql 20 z0)<|gP 22 19 21<|om 23 8<|om 4 22<|om 5 23 .done) .ret)))))⟩
set_option maxRecDepth 4000 in
set_option maxHeartbeats 2000000 in
def Acx{P f}(hd:dec P f=some (Qw f1 f2 f3))(h1:Kc P f1)(h2:QT P f2)(h3:JF P f3):UL P f:=by
 intro d t dv pv kv L bt Tt key hp hk hf;obtain⟨bp,rfl⟩:=hp.ptr;obtain⟨ka,kc,rfl⟩:=hk.val;refine Bj hd ?_;apply Aw;apply Av;refine Fv Z (fun b2 T2=>?_);refine Fv Z (fun b3 T3=>?_);refine Ad Z<|AR Z<|Ah Z (AG 1 Z Z)<|c_l Z Z Z<|A0 [_,_] (h1 (L:=L) hk) Z Z (fun v d2 L2 _ ⟨e1,e2,e3⟩=>?_);subst e1;subst e2;subst e3;by_cases hw:Cl key=0
 ·have hF:EK t key=(CL t (Ch t key).1 (Ch t key).2.2,(Ch t key).2.1 && decide ((Ch t key).2.2=0),(Ch t key).2.2):=by unfold EK;rw[if_neg (fun q=>q hw)]
  have hcan:=hf hw;rw[hF,hw];(refine A7 Z<|Ab Z<|AJ Z Z<|AT Z<|Ak<|DD (fun _ _=>?_));rename_i b7 T7;refine Bb 0 [.bool false] Z Z Z Z (Afe _) Z Z<|Bo<|Ah Z (AG 2 Z Z)<|ND<|DO (A:=tbD bt Tt (pZ bp) t::([bx b2 T2 [pZ bt],bx b3 T3 [.slice ka key.length kc],bx b7 T7 [.bool false]]++L)) (B:=[])
   (h3 (t':=(Ch t key).1) (e:=(Ch t key).2.2) (X':=[bx b2 T2 [pZ bt],bx b3 T3 [.slice ka key.length kc],bx b7 T7 [.bool (Ch t key).2.1]]) hp (XM t key) (fun d1 hl1=>h2 (hp.mono hl1) (RSl.mono (R:=Ax) AF hk hl1) hcan)) ?_ Z (fun v d4 L4 hl4 ⟨_,e4,L5,e5,hp5⟩=>?_)
  ·rw[Agj];refine(Agi (l₁:=[_,_,_])).trans (Afm _ (List.Perm.append_right L ?_));exact(Afi (l₁:=[_,_]) (l₂:=[_])).trans (Afm _ (Afx _ _ _))
  ·subst e4;subst e5;refine⟨d4,_,Vs.refl _ _,?_⟩
   rw[Agj];generalize (Ch t key).2.1=b;cases b with
   |true=>
    (refine A7 Z<|Ah Z (AG 3 Z Z)<|Ad Z<|Ac Z<|Ab Z<|Ac Z<|AI Z Z<|As Z Z<|Ab Z<|Ad Z<|AS Z ?_)
    exact A6 [.bool (decide ((Ch t key).2.2=0)),vZ (Ch t key).2.2] ⟨Af Z,Af Z,trivial⟩ (d':=d4) (L':=tbD bt Tt (pZ bp) (CL t (Ch t key).1 (Ch t key).2.2)::L5) (Vs.drop (.cons_cons _ (.cons _ (.cons _ (.cons _ (Afa _)))))) ⟨hl4,by rw[Ais];rfl,L5,Z,hp5⟩
   |false=>
    (refine A7 Z<|Ah Z (AG 3 Z Z)<|Ad Z<|AQ Z Z<|Aj Z Z<|Ab Z<|Ad Z<|AS Z ?_)
    exact A6 [.bool false,vZ (Ch t key).2.2] ⟨Af Z,Af Z,trivial⟩ (d':=d4) (L':=tbD bt Tt (pZ bp) (CL t (Ch t key).1 (Ch t key).2.2)::L5) (Vs.drop (.cons_cons _ (.cons _ (.cons _ (.cons _ (Afa _)))))) ⟨hl4,Z,L5,Z,hp5⟩
 ·have hF:EK t key=(t,false,Cl key):=by unfold EK;rw[if_pos hw]
  rw[hF];refine A7 Z<|Ab Z<|AJ Z Z<|A5 Z<|AE Z<|Ad Z<|AS Z<|CJ (L':=tbD bt Tt (pZ bp) t::L) Z Z (.cons _ (.cons _ (Afa _))) ⟨Le.refl _,Z,L,Z,hp⟩
end Go.Gk.Tre
end
section
namespace Go.Gk.Tre
open Go Go.Gk Go.Gk.Dev Go.Gk.Cch Go.Gk.Pgr Go.Gk.Chn Go.Gk.Node
variable{s:PD}{t:TD}{N i:Nat}{l:List KV}{P:List Int}{key:List UInt8}
def XA(s:PD)(P:List Int):Prop:=∀k,BB s k↔k∈P
def XA.mv{t}{A B:List Int}{c:Nat}(h:XA s A)(k:Mv s t A B c):XA t B:=fun p=>by
 rw[k.lv,h p];exact⟨fun q=>q.elim (fun q=>absurd q.1 q.2) id,.inr⟩
structure Gr (N i:Nat) (t:TD) (l:List KV) (P:List Int):Prop where
 ok:Tok t l P
 on:XA t.s P
 ln:l.length≤i
 kv:∀x∈l,x.1.length≤64∧x.2.length≤700
 kn:t.s.kinds.length=N
def Gr.more{j:Nat}(h:Gr N i t l P)(hj:i≤j):Gr N j t l P:=⟨h.ok,h.on,by have:=h.ln;omega,h.kv,h.kn⟩
def Tok.far(h:Tok t l P)(hl:l.length≤1000):QS t∧t.height≤2000:=by
 have hc:=h.ct;have hh:t.height≤2000:=by
  rcases h.high with ⟨_,e,_⟩|⟨_,_,e⟩
  ·omega
  ·have:t.height<2 ^ t.height:=Nat.lt_two_pow_self;omega
 refine⟨⟨?_,?_,by omega,by omega⟩,hh⟩
 ·rcases h.tr with ⟨_,e,_⟩|⟨x,_,⟨n,Q,hat,_⟩⟩
  ·omega
  ·have:=Ez h.gd hat.liv;omega
 ·rcases h.tr with ⟨_,e,_⟩|⟨x,_,⟨n,Q,hat,_⟩⟩
  ·omega
  ·have:=Ez h.gd hat.liv;omega
def Vg(t:TD)(m:MdD):t.height≤(Dg t m).1.height:=by
 unfold Dg;split
 ·exact Afe _
 ·exact Nat.le_succ _
def Tok.can(h:Tok t l P)(hl:l.length≤1000)(key:List UInt8):Aal t key:=by
 refine⟨(h.far hl).1,fun hh=>?_,fun hh=>?_,?_⟩
 ·rcases h.tr with ⟨e,_⟩|⟨x,e,ht⟩
  ·exact absurd e hh
  ·rw[e];rcases TL (key:=key) x h.gd ht h.nd with ⟨q,_⟩|⟨q,_⟩
   ·rw[q];decide
   ·rw[q];decide
 ·rcases h.tr with ⟨e,_⟩|⟨x,e,ht⟩
  ·exact absurd e hh
  ·rw[h.ct];exact FM.1 ht.ne
 ·by_cases hh:t.height=0
  ·exact .inr hh
  ·refine .inl (fun q=>?_);have:=Vg {t with s:=(Cm t.s t.root key t.height).1,count:=t.count - 1} (Cm t.s t.root key t.height).2.1;rw[q] at this;exact hh (Nat.le_zero.1 this)
def Zy{t}(h:Pgr.AL s t)(hG:Pgr.Good s):Pgr.Good (t.back s.mark):=
 ⟨hG.one,hG.len,by show t.frm+s.kinds.length≤t.syn.length;rw[h.frm,h.syn];exact hG.inn,by show t.syn.length≤8192;rw[h.syn];exact hG.syn,hG.kd⟩
def Yt{t}(h:Pgr.AL s t)(P:List Int):Gd s (t.back s.mark) P:=fun p _=>⟨Nj h p,Xx h p⟩
def Tok.same(h:Tok t l P)(hG:Pgr.Good s)(hs:Gd t.s s P):Tok {t with s:=s} l P:=
 ⟨hG,h.nd,h.ct,by
  rcases h.tr with e|⟨x,e,ht⟩
  ·exact .inl e
  ·exact .inr ⟨x,e,ht.stay hs⟩⟩
def Gr.back(h:Gr N i t l P){r}(hk:Pgr.AL t.s r):Gr N i {t with s:=r.back t.s.mark} l P∧(r.back t.s.mark).free=t.s.free:=
 ⟨⟨h.ok.same (Zy hk h.ok.gd) (Yt hk P),fun k=>by
  have:=h.on k;unfold BB at this⊢;show(r.back t.s.mark).kind k=1∨(r.back t.s.mark).kind k=2↔_;rw[Nj hk];exact this,h.ln,h.kv,h.kn⟩,Z⟩
def U6(h:Cl key=0):1≤key.length∧key.length≤64:=by unfold Cl at h;split at h<;>omega
def Gr.put(h:Gr N i t l P){v}(hw:Cl key=0)(hv:v.length≤700):
  ((Dy t key v).2=0∧∃P',Gr N (i+1) (Dy t key v).1 (EM l key v) P')∨
  ((Dy t key v).2=190∧t.s.free<4*t.height+3+AN v.length∧(Dy t key v).1.s.free=t.s.free∧Gr N (i+1) (Dy t key v).1 l P):=by
 have hk:=U6 hw
 have e:Dy t key v=(CL t (Df t key v).1 (Df t key v).2,(Df t key v).2):=by unfold Dy;rw[if_neg (fun q=>q hw),if_neg (by omega)]
 have hkp:=XP t key v
 rw[e]
 rcases ZW h.ok hk (v:=v) (by omega) with ⟨h1,P',h2,h3⟩|⟨h1,h2⟩
 ·refine .inl ⟨h1,P',?_⟩
  show Gr N (i+1) (CL t (Df t key v).1 (Df t key v).2) _ _
  unfold CL
  rw[if_pos h1]
  refine⟨h2,h.on.mv h3,?_,fun x hx=>?_,by rw[hkp.len];exact h.kn⟩
  ·have:=Tl (l:=l) (key:=key) (v:=v)
   have:=h.ln
   split at* <;>omega
  ·rcases O8 hx with rfl|hx
   ·exact⟨hk.2,hv⟩
   ·exact h.kv x hx
 ·obtain⟨g1,g2⟩:=h.back hkp
  refine .inr ⟨h1,by omega,?_,?_⟩
  ·show(CL t (Df t key v).1 (Df t key v).2).s.free=_
   unfold CL
   rw[if_neg (by rw[h1];decide)]
   exact g2
  ·show Gr N (i+1) (CL t (Df t key v).1 (Df t key v).2) _ _
   unfold CL
   rw[if_neg (by rw[h1];decide)]
   exact g1.more (Nat.le_succ _)
def Gr.del(h:Gr N i t l P)(hw:Cl key=0):
  ((EK t key).2.2=0∧(EK t key).2.1=isK l key∧∃P',Gr N i (EK t key).1 (CH l key).1 P')∨
  ((EK t key).2.2=190∧(EK t key).2.1=false∧t.s.free<4*t.height+1∧(EK t key).1.s.free=t.s.free∧Gr N i (EK t key).1 l P):=by
 have e:EK t key=(CL t (Ch t key).1 (Ch t key).2.2,(Ch t key).2.1 && decide ((Ch t key).2.2=0),(Ch t key).2.2):=by unfold EK;rw[if_neg (fun q=>q hw)]
 have hkp:=XM t key
 rw[e]
 rcases Aa1 h.ok key with ⟨h1,h1',P',h2,h3⟩|⟨h1,h2⟩
 ·refine .inl ⟨h1,by simp[h1,h1'],P',?_⟩
  show Gr N i (CL t (Ch t key).1 (Ch t key).2.2) _ _
  unfold CL
  rw[if_pos h1]
  refine⟨h2,h.on.mv h3,?_,fun x hx=>h.kv x (Ja hx),by rw[hkp.len];exact h.kn⟩
  have:=We l key
  have:=h.ln
  omega
 ·obtain⟨g1,g2⟩:=h.back hkp
  refine .inr ⟨h1,by simp[h1],h2,?_,?_⟩
  ·show(CL t (Ch t key).1 (Ch t key).2.2).s.free=_
   unfold CL
   rw[if_neg (by rw[h1];decide)]
   exact g2
  ·show Gr N i (CL t (Ch t key).1 (Ch t key).2.2) _ _
   unfold CL
   rw[if_neg (by rw[h1];decide)]
   exact g1
def Abf(h:Pgr.Good s):Pgr.Good s.fin:=by
 have hl:s.fin.kinds.length=s.kinds.length:=by simp[PD.fin,PD.done,PD.flush]
 have hs:s.fin.syn.length=s.syn.length:=Fq _ _;refine⟨by rw[hl];exact h.one,by rw[hl];exact h.len,by rw[hl,hs];exact h.inn,by rw[hs];exact h.syn,fun i=>?_⟩
 rcases Adh h (i:=i) with q|q<;>rw[q]<;>decide
def O6{k:Int}:BB s.fin k↔BB s k:=by
 unfold BB;rw[Td];unfold DM;constructor
 ·intro q;by_cases h3:s.kind k=3
  ·rw[if_pos h3] at q;omega
  ·rw[if_neg h3] at q;by_cases h1:s.kind k=1
   ·exact .inl h1
   ·rw[if_neg h1] at q;exact q
 ·rintro(q|q)<;>rw[q]<;>decide
def At.fin(hG:Pgr.Good s){k:Int}{n:AB}(h:At s k n):At s.fin k n:=⟨O6.2 h.liv,by rw[Sa hG];exact h.byt,h.rgt⟩
def G0.fin(hG:Pgr.Good s){b}{l:List Int}(h:G0 s b l):G0 s.fin b l:=
 ⟨h.len,h.rng,fun j hj=>O6.2 (h.live j hj),fun j hj=>by rw[Sa hG];exact h.pg j hj⟩
def Lf.fin(hG:Pgr.Good s):∀{ks vs l}{P:List Int},Lf s ks vs l P→Lf s.fin ks vs l P
 |[],[],l,P,h=>by rw[Lf] at h⊢;exact h
 |[],_::_,l,P,h=>by rw[Lf] at h<;>simp_all
 |_::_,[],l,P,h=>by rw[Lf] at h<;>simp_all
 |k::ks,c::cs,l,P,h=>by
  rw[Lf] at h⊢;obtain⟨v,l',P1,P2,rfl,rfl,h1,h2⟩:=h;refine⟨v,l',P1,P2,Z,Z,?_,h2.fin hG⟩
  rcases h1 with h1|⟨q1,q2,q3,q4⟩
  ·exact .inl h1
  ·exact .inr ⟨q1,q2,G0.fin hG q3,q4⟩
def Tr.fin(hG:Pgr.Good s):∀{h:Nat}{k:Int}{l}{P:List Int},Tr s h k l P→Tr s.fin h k l P
 |0,k,l,P,h=>h.elim
 |h+1,k,l,P,⟨n,Q,h1,h2,e,h3⟩=>by
  refine⟨n,Q,At.fin hG h1,h2,e,?_⟩
  by_cases e:h=0
  ·rw[decide_eq_true e] at h3⊢;exact .mkl h3.leaf.1 (h3.leaf.2.fin hG)
  ·rw[decide_eq_false e] at h3⊢;exact .mki h3.inner.1 (h3.inner.2.mono (fun c l P _ q=>Tr.fin hG q))
def Gr.fin(h:Gr N i t l P):Gr N i {t with s:=t.s.fin} l P:=
 ⟨⟨Abf h.ok.gd,h.ok.nd,h.ok.ct,by
  rcases h.ok.tr with e|⟨x,e,ht⟩
  ·exact .inl e
  ·exact .inr ⟨x,e,ht.fin h.ok.gd⟩⟩,fun k=>O6.trans (h.on k),h.ln,h.kv,by show t.s.fin.kinds.length=N;rw[←h.kn];simp[PD.fin,PD.done,PD.flush]⟩
def Tok.FD(h:Tok t l P)(hw:Cl key=0):EW t key=((EN l key).1,(EN l key).2,0):=by
 unfold EW;rw[if_neg (fun q=>q hw)];exact h.get key
def Y6{R:RT}(hR:∀c l P,R c l P→KO (l.map Prod.fst)):∀{ks}{cs:List Int}{l}{P:List Int},Kd R ks cs l P→KO (l.map Prod.fst)
 |[],[c],l,P,h=>hR c l P h
 |[],[],l,P,h=>h.elim
 |[],_::_::_,l,P,h=>h.elim
 |_::_,[],l,P,h=>h.elim
 |k::ks,c::cs,l,P,h=>by
  obtain⟨l1,l2,P1,P2,rfl,rfl,h1,h2,h3,h4⟩:=Kd.cons.1 h;rw[Ahk];refine KO.app.2 ⟨hR _ _ _ h1,Y6 hR h4,fun x hx y hy=>?_⟩;obtain⟨x',hx',rfl⟩:=Ajc.1 hx;obtain⟨y',hy',rfl⟩:=Ajc.1 hy;exact HY (h2 x' hx') (h3 y' hy')
def ZA:∀{h:Nat}{s}{k:Int}{l}{P:List Int},Tr s h k l P→KO (l.map Prod.fst)
 |0,s,k,l,P,h=>h.elim
 |h+1,s,k,l,P,⟨n,Q,hat,hne,eP,hn⟩=>by
  by_cases e:h=0
  ·rw[decide_eq_true e] at hn;obtain⟨n1,n2⟩:=hn.leaf;have hs:=hat.sound;rw[D2 hs n1] at hs;rw[←n2.keys];exact(C2.1 hs).1
  ·rw[decide_eq_false e] at hn;exact Y6 (fun c l P q=>ZA q) hn.inner.2
section
structure WR where
 out:List KV
 tc:Nat
 on:Bool
 e:Int
def FY(s:PD)(most:Int)(key c:List UInt8)(out:List KV)(tc:Nat):WR:=
 let v:=CP s c
 let o:=if v.2=0 then out++[(key,v.1)] else out
 ⟨o,tc+Eo c,decide ((o.length:Int)<most),v.2⟩
def IC(p:Option (List UInt8))(to:List UInt8):Bool:=match p with|none=>false|some k=> !to.isEmpty && !Op.bytesLess k to
def EF(s:PD)(most:Int)(to:List UInt8):List (List UInt8)→List (List UInt8)→List KV→Nat→WR
 |k::ks,c::cs,out,tc=>if IC (some k) to=true then⟨out,tc,false,0⟩ else
  let r:=FY s most k c out tc
  if r.e≠0∨r.on=false then⟨r.out,r.tc,false,r.e⟩ else EF s most to ks cs r.out r.tc
 |_,_,out,tc=>⟨out,tc,true,0⟩
def E9(rec:Int→List KV→Nat→WR)(to:List UInt8):Option (List UInt8)→List (List UInt8)→List Int→List KV→Nat→WR
 |_,_,[],out,tc=>⟨out,tc,true,0⟩
 |p,ks,c::cs,out,tc=>if IC p to=true then⟨out,tc,false,0⟩ else
  let r:=rec c out tc
  if r.e≠0∨r.on=false then⟨r.out,r.tc,false,r.e⟩ else E9 rec to ks.head? ks.tail cs r.out r.tc
def D6(n:AB)(fr:List UInt8):Nat:=if fr=[] then 0 else(findD n fr).1
def C4(s:PD)(most:Int)(fr to:List UInt8):Nat→Int→List KV→Nat→WR
 |0,_,out,tc=>⟨out,tc,false,200⟩
 |h+1,page,out,tc=>
  let r:=AM s page (h+1:Nat)
  if r.2≠0 then⟨out,tc,false,r.2⟩ else
  let i:=D6 r.1 fr
  if h=0 then EF s most to (r.1.keys.drop i) (r.1.vals.drop i) out (tc+1)
  else E9 (C4 s most fr to h) to (if i=0 then none else r.1.keys[i - 1]?) (r.1.keys.drop i) (r.1.kids.drop i) out (tc+1)
def inR(fr to:List UInt8)(x:KV):Bool:= !Op.bytesLess x.1 fr &&(to.isEmpty||Op.bytesLess x.1 to)
def B6(fr to:List UInt8)(m:Nat)(l:List KV):List KV:=(l.filter (inR fr to)).take m
def cpL(l:List KV):Nat:=(l.map fun x=>if 15<x.2.length then AN x.2.length else 0).sum
def AcQ(a b:List KV):cpL (a++b)=cpL a+cpL b:=by simp[cpL]
section
variable {fr to:List UInt8}
def V4{m:Nat}:B6 fr to m []=[]:=by simp[B6]
def UR{m:Nat}{l}(h:∀x∈l,inR fr to x=false):B6 fr to m l=[]:=by
 unfold B6;rw[Ajt.2 (fun x hx=>by rw[h x hx];decide)];simp
def Uu{m:Nat}{a b}(h:(B6 fr to m a).length=m):B6 fr to m (a++b)=B6 fr to m a:=by
 unfold B6 at h⊢;rw[Ajw];rw[Aft] at h;rw[List.take_append_of_le_length (by omega)]
def Ut{m:Nat}{a b}(h:∀x∈b,inR fr to x=false):B6 fr to m (a++b)=B6 fr to m a:=by
 unfold B6;have e:b.filter (inR fr to)=[]:=Ajt.2 (fun x hx=>by rw[h x hx];decide);rw[Ajw,e,Agj]
def TO{m:Nat}{a b}(h:(B6 fr to m a).length<m):B6 fr to m (a++b)=B6 fr to m a++B6 fr to (m - (B6 fr to m a).length) b:=by
 unfold B6 at h⊢;rw[Aft] at h⊢;have hl:(a.filter (inR fr to)).length<m:=by omega
 rw[Ajw,List.take_append,List.take_of_length_le (by omega)];congr 2;omega
def Vw{m:Nat}{x:KV}{l}(h:inR fr to x=true):B6 fr to (m+1) (x::l)=x::B6 fr to m l:=by
 unfold B6;rw[List.filter_cons_of_pos h,List.take_succ_cons]
def Rest(fr to:List UInt8)(m:Nat)(l:List KV)(n:Nat):Prop:=n=m∨(to≠[]∧∃x∈l,¬Lt x.1 to)
def Qv{x:KV}(h0:to≠[])(h:¬Lt x.1 to):inR fr to x=false:=by
 unfold inR;have h1:Op.bytesLess x.1 to=false:=by simpa [Lt] using h
 cases to with
 |nil=>exact absurd Z h0
 |cons a t=>rw[h1];simp
def AaL{m:Nat}{a b}(hk:KO ((a++b).map Prod.fst))(h:Rest fr to m a (B6 fr to m a).length):B6 fr to m (a++b)=B6 fr to m a:=by
 rcases h with h|⟨h0,x,hx,hn⟩
 ·exact Uu h
 ·refine Ut fun y hy=>Qv h0 fun q=>hn ?_;rw[Ahk] at hk;exact F2 ((KO.app.1 hk).2.2 x.1 (Ahm hx) y.1 (Ahm hy)) q
end
structure WOk (fr to:List UInt8) (M:Nat) (f:Bool) (h:Nat) (l:List KV) (out:List KV) (tc:Nat) (r:WR):Prop where
 e0:r.e=0
 ou:r.out=out++B6 fr to (M - out.length) l
 yes:r.on=true→r.out.length<M∧(f=true→1≤(B6 fr to (M - out.length) l).length)
 no:r.on=false→Rest fr to (M - out.length) l (B6 fr to (M - out.length) l).length
 tc:∃n,r.tc=tc+n+cpL (B6 fr to (M - out.length) l)∧n≤h*((B6 fr to (M - out.length) l).length+(if f=true then 0 else 1)+(if r.on=true then 0 else 1))
section
variable {s:PD}{fr to:List UInt8}{M:Nat}
def G9{k}:IC (some k) to=true↔to≠[]∧¬Lt k to:=by
 unfold IC Lt;cases to<;>simp
def R7:∀{ks vs l}{P:List Int}{out}{tc:Nat},Lf s ks vs l P→(∀x∈l,¬Lt x.1 fr)→KO (l.map Prod.fst)→out.length<M→
  (EF s M to ks vs out tc).e=0∧(EF s M to ks vs out tc).out=out++B6 fr to (M - out.length) l∧
  ((EF s M to ks vs out tc).on=true→(EF s M to ks vs out tc).out.length<M∧(B6 fr to (M - out.length) l).length=l.length)∧
  ((EF s M to ks vs out tc).on=false→Rest fr to (M - out.length) l (B6 fr to (M - out.length) l).length)∧
  (EF s M to ks vs out tc).tc=tc+cpL (B6 fr to (M - out.length) l)
 |[],[],l,P,out,tc,h,_,_,ho=>by
  rw[Lf] at h;obtain⟨rfl,rfl⟩:=h;rw[EF,V4,Agj]
  ·exact⟨Z,Z,fun _=>⟨ho,Z⟩,(by simp),by simp[cpL]⟩
  ·simp
 |[],_::_,l,P,out,tc,h,_,_,_=>by rw[Lf] at h<;>simp_all
 |_::_,[],l,P,out,tc,h,_,_,_=>by rw[Lf] at h<;>simp_all
 |k::ks,c::cs,l,P,out,tc,h,hf,hk,ho=>by
  rw[Lf] at h;obtain⟨v,l',P1,P2,rfl,rfl,hc,h2⟩:=h;rw[List.map_cons,KO.cons] at hk;obtain⟨m,hm⟩:∃m,M - out.length=m+1:=⟨M - out.length - 1,by omega⟩
  rw[EF];by_cases hs:IC (some k) to=true
  ·rw[if_pos hs];obtain⟨q1,q2⟩:=G9.1 hs;have hn:B6 fr to (M - out.length) ((k,v)::l')=[]:=UR fun x hx=>by
    rcases Afv.1 hx with rfl|hx
    ·exact Qv q1 q2
    ·exact Qv q1 fun q=>q2 (F2 (hk.2.2 x.1 (Ahm hx)) q)
   rw[hn,Agj];exact⟨Z,Z,(by simp),fun _=>.inr ⟨q1,(k,v),Afn ..,q2⟩,by simp[cpL]⟩
  ·rw[if_neg hs];have hin:inR fr to (k,v)=true:=by
    have h1:Op.bytesLess k fr=false:=by simpa [Lt] using hf (k,v) (Afn ..)
    have h2:¬(to≠[]∧¬Lt k to):=fun q=>hs (G9.2 q);unfold inR;rw[h1];cases to with
    |nil=>rfl
    |cons a t=>
     have:Op.bytesLess k (a::t)=true:=Decidable.byContradiction fun q=>h2 ⟨by simp,q⟩
     simp[this]
   have ht:FY s M k c out tc=⟨out++[(k,v)],tc+Eo c,decide (((out++[(k,v)]).length:Int)<M),0⟩:=by
    unfold FY;rw[hc.val];rfl
   have hsel:B6 fr to (M - out.length) ((k,v)::l')=(k,v)::B6 fr to m l':=by rw[hm];exact Vw hin
   have hcp:cpL ((k,v)::B6 fr to m l')=Eo c+cpL (B6 fr to m l'):=by
    rw[hc.Eo];simp[cpL]
   rw[ht];simp only;by_cases hon:(((out++[(k,v)]).length:Nat):Int)<M
   ·rw[decide_eq_true hon,if_neg (by simp)];have hl1:(out++[(k,v)]).length<M:=by omega
    have e:M - (out++[(k,v)]).length=m:=by rw[Afk,Aie];omega
    obtain⟨i1,i2,i3,i4,i5⟩:=R7 (tc:=tc+Eo c) h2 (fun x hx=>hf x (Afr _ hx)) hk.2.1 hl1;rw[e] at i2 i3 i4 i5;rw[hsel,hcp];refine⟨i1,by rw[i2];simp,fun q=>⟨(i3 q).1,by rw[Afq,Afq,(i3 q).2]⟩,fun q=>?_,by rw[i5];omega⟩
    rcases i4 q with r|⟨r,x,hx,hy⟩
    ·exact .inl (by rw[Afq,r,hm])
    ·exact .inr ⟨r,x,Afr _ hx,hy⟩
   ·rw[decide_eq_false hon,if_pos (by simp)];have e:m=0:=by rw[Afk,Aie] at hon;omega
    subst e;have e2:B6 fr to 0 l'=[]:=by simp[B6]
    rw[hsel,hcp,e2];exact⟨Z,Z,(by simp),fun _=>.inl (by rw[hm];rfl),by simp[cpL]⟩
def Ru{h:Nat}(ih:∀{k:Int}{l}{P:List Int}{out}{tc:Nat}{f:Bool},Tr s h k l P→(f=true→∀x∈l,¬Lt x.1 fr)→out.length<M→WOk fr to M f h l out tc (C4 s M fr to h k out tc)):
  ∀{ks}{cs:List Int}{l}{P:List Int}{p:Option (List UInt8)}{f:Bool}{out}{tc:Nat},Kd (Tr s h) ks cs l P→(∀k,p=some k→∀x∈l,¬Lt x.1 k)→(f=true→∀x∈l,¬Lt x.1 fr)→(∀k∈ks,¬Lt k fr)→KO (l.map Prod.fst)→out.length<M→
   WOk fr to M f h l out tc (E9 (C4 s M fr to h) to p ks cs out tc)
 |_,[],l,P,p,f,out,tc,hkd,_,_,_,_,_=>by
  have:=hkd.len;cases this
 |ks,c::cs,l,P,p,f,out,tc,hkd,hp,hf,hks,hko,ho=>by
  rw[E9];have hne:l≠[]:=(Kd.btw (fun c l P q=>Tr.ne q) hkd).1;by_cases hs:IC p to=true
  ·rw[if_pos hs];obtain⟨k,rfl⟩:∃k,p=some k:=by
    cases p with
    |none=>cases hs
    |some k=>exact⟨k,Z⟩
   obtain⟨q1,q2⟩:=G9.1 hs;have hout:∀x∈l,¬Lt x.1 to:=fun x hx=>AbK q2 (hp k Z x hx);have hn:B6 fr to (M - out.length) l=[]:=UR fun x hx=>Qv q1 (hout x hx);obtain⟨x,hx⟩:=List.exists_mem_of_ne_nil l hne;refine⟨Z,by rw[hn,Agj],(by simp),fun _=>.inr ⟨q1,x,hx,hout x hx⟩,0,by rw[hn];simp[cpL],Agd _⟩
  rw[if_neg hs];obtain⟨l1,l2,P1,hl,h1,hrest⟩:∃l1 l2 P1,l=l1++l2∧Tr s h c l1 P1∧((cs=[]∧l2=[])∨∃k ks' P2,ks=k::ks'∧(∀x∈l2,¬Lt x.1 k)∧Kd (Tr s h) ks' cs l2 P2):=by
   cases ks with
   |nil=>
    cases cs with
    |nil=>exact⟨l,[],P,by simp,hkd,.inl ⟨Z,Z⟩⟩
    |cons c2 cs=>exact hkd.elim
   |cons k ks=>
    obtain⟨l1,l2,P1,P2,e1,_,g1,g2,g3,g4⟩:=Kd.cons.1 hkd
    exact⟨l1,l2,P1,e1,g1,.inr ⟨k,ks,P2,Z,g3,g4⟩⟩
  subst hl;have hko1:KO (l1.map Prod.fst):=by rw[Ahk] at hko;exact(KO.app.1 hko).1
  have hko2:KO (l2.map Prod.fst):=by rw[Ahk] at hko;exact(KO.app.1 hko).2.1
  have w:=ih (tc:=tc) (f:=f) h1 (fun q x hx=>hf q x (Aga _ hx)) ho;generalize C4 s M fr to h c out tc=r at w⊢;obtain⟨w1,w2,w3,w4,n,w5,w6⟩:=w;simp only;by_cases hon:r.on=true
  ·rw[if_neg (by rw[w1,hon];simp)];obtain⟨y1,y2⟩:=w3 hon;have hlen:r.out.length=out.length+(B6 fr to (M - out.length) l1).length:=by rw[w2,Afk]
   have hlt:(B6 fr to (M - out.length) l1).length<M - out.length:=by omega
   have hsel:=TO (b:=l2) hlt;have em:M - out.length - (B6 fr to (M - out.length) l1).length=M - r.out.length:=by omega
   rw[em] at hsel;rw[if_pos hon] at w6;rcases hrest with ⟨rfl,rfl⟩|⟨k,ks',P2,rfl,g1,g2⟩
   ·rw[E9];rw[Agj];refine⟨Z,w2,fun _=>⟨y1,y2⟩,(by simp),n,w5,?_⟩
    rw[if_pos Z];exact w6
   ·have hk0:=hks k (Afn ..);have x:=Ru ih (p:=some k) (f:=true) (tc:=r.tc) g2 (fun k' e x hx=>by cases e;exact g1 x hx) (fun _ x hx=>AbK hk0 (g1 x hx)) (fun k' hk'=>hks k' (Afr _ hk')) hko2 y1;rw[List.head?_cons,List.tail_cons];generalize E9 (C4 s M fr to h) to (some k) ks' cs r.out r.tc=u at x⊢;obtain⟨x1,x2,x3,x4,n2,x5,x6⟩:=x;have hl3:(B6 fr to (M - out.length) (l1++l2)).length=(B6 fr to (M - out.length) l1).length+(B6 fr to (M - r.out.length) l2).length:=by rw[hsel,Afk]
    refine⟨x1,by rw[x2,hsel,←Afg,←w2],fun q=>⟨(x3 q).1,fun hq=>by rw[hl3];have:=y2 hq;omega⟩,fun q=>?_,n+n2,?_,?_⟩
    ·rcases x4 q with z|⟨z,a,ha,hb⟩
     ·exact .inl (by rw[hl3,z];omega)
     ·exact .inr ⟨z,a,Agc _ ha,hb⟩
    ·rw[x5,w5,hsel,AcQ];omega
    ·rw[if_pos Z] at x6;rw[hl3];have:n+n2≤h*((B6 fr to (M - out.length) l1).length+(if f=true then 0 else 1)+0)+h*((B6 fr to (M - r.out.length) l2).length+0+(if u.on=true then 0 else 1)):=Nat.add_le_add w6 x6;rw[←Nat.mul_add] at this;refine Nat.le_trans this (Akl _ ?_);omega
  ·have hof:r.on=false:=by simpa using hon
   rw[if_pos (.inr hof)];have hr:=w4 hof;have hsel:B6 fr to (M - out.length) (l1++l2)=B6 fr to (M - out.length) l1:=AaL hko hr;rw[if_neg hon] at w6;refine⟨w1,by rw[hsel];exact w2,(by simp),fun _=>?_,n,by rw[hsel];exact w5,?_⟩
   ·rw[hsel];rcases hr with z|⟨z,a,ha,hb⟩
    ·exact .inl z
    ·exact .inr ⟨z,a,Aga _ ha,hb⟩
   ·rw[hsel];exact w6
end
def drop_left{α}(a b:List α):(a++b).drop a.length=b:=by rw[List.drop_append_of_le_length (Afe _),List.drop_length,Agh]
def Wc{s fr to}{M:Nat}:∀(h:Nat) {k:Int}{l}{P:List Int}{out}{tc:Nat}{f:Bool},Tr s h k l P→(f=true→∀x∈l,¬Lt x.1 fr)→out.length<M→WOk fr to M f h l out tc (C4 s M fr to h k out tc)
 |0,k,l,P,out,tc,f,ht,_,_=>ht.elim
 |h+1,k,l,P,out,tc,f,ht,hf,ho=>by
  have hasc:=ZA ht;have hlne:=ht.ne;obtain⟨n,Q,hat,hne,eP,hn⟩:=ht;subst eP;have hsf:∀x:List UInt8,¬Lt x []:=fun x q=>by cases x<;>simp[Lt,Op.bytesLess] at q
  cases h with
  |zero=>
   rw[decide_eq_true Z] at hn
   obtain⟨n1,n2⟩:=hn.leaf
   have ef:=D2 hat.sound n1
   obtain⟨ks,vs,rfl⟩:∃ks vs,n=⟨true,ks,vs,[]⟩:=⟨_,_,ef⟩
   simp only at n2 hne
   obtain⟨hko,hvl,hv16⟩:=C2.1 hat.sound
   have hlv:=hat.level (x:=((0+1:Nat):Int)) Z
   rw[C4,hlv]
   dsimp only
   rw[if_neg (by simp),if_pos Z]
   obtain⟨a,b,rfl,hi,ha,hb⟩:∃a b,ks=a++b∧D6 ⟨true,ks,vs,[]⟩ fr=a.length∧(∀x∈a,Lt x fr)∧∀x∈b,¬Lt x fr:=by
    unfold D6;by_cases h0:fr=[]
    ·rw[if_pos h0];exact⟨[],ks,Z,Z,fun x hx=>(by cases hx),fun x _=>by rw[h0];exact hsf x⟩
    ·rw[if_neg h0];rcases JS hko (vs:=vs) fr with ⟨a,b,e,q,r1,r2⟩|⟨a,b,e,q,r1,r2⟩
     ·refine⟨a,fr::b,e,by rw[q],r1,fun x hx=>?_⟩
      rcases Afv.1 hx with rfl|hx
      ·exact Jp
      ·exact K4 (r2 x hx)
     ·exact⟨a,b,e,by rw[q],r1,fun x hx=>K4 (r2 x hx)⟩
   rw[hi]
   obtain⟨va,vb,rfl,hva⟩:∃va vb,vs=va++vb∧va.length=a.length:=⟨vs.take a.length,vs.drop a.length,(Ait ..).symm,by rw[Aft,hvl,Afk];omega⟩
   rw[drop_left a b,←hva,drop_left va vb]
   obtain⟨l1,l2,P1,P2,rfl,rfl,g1,g2⟩:=Lf.split n2 hva
   have hl1:∀x∈l1,Lt x.1 fr:=fun x hx=>ha _ (by rw[g1.keys];exact Ahm hx)
   have hl2:∀x∈l2,¬Lt x.1 fr:=fun x hx=>hb _ (by rw[g2.keys];exact Ahm hx)
   have hko2:KO (l2.map Prod.fst):=by rw[Ahk] at hasc;exact(KO.app.1 hasc).2.1
   have hno:∀x∈l1,inR fr to x=false:=fun x hx=>by unfold inR;rw[show Op.bytesLess x.1 fr=true from hl1 x hx];rfl
   have hsel:B6 fr to (M - out.length) (l1++l2)=B6 fr to (M - out.length) l2:=by
    unfold B6;rw[Ajw,Ajt.2 (fun x hx=>by rw[hno x hx];decide),Agh]
   obtain⟨i1,i2,i3,i4,i5⟩:=R7 (to:=to) (tc:=tc+1) g2 hl2 hko2 ho
   refine⟨i1,by rw[hsel];exact i2,fun q=>⟨(i3 q).1,fun hq=>?_⟩,fun q=>?_,1,by rw[hsel,i5],?_⟩
   ·rw[hsel,(i3 q).2]
    have:l1=[]:=by
     cases l1 with
     |nil=>rfl
     |cons x l1=>exact absurd (hl1 x (Afn ..)) (hf hq x (Aga _ (Afn ..)))
    subst this
    rw[Agh] at hlne
    exact FM.1 hlne
   ·rw[hsel]
    rcases i4 q with z|⟨z,x,hx,hy⟩
    ·exact .inl z
    ·exact .inr ⟨z,x,Agc _ hx,hy⟩
   ·rw[hsel,Nat.zero_add,Nat.one_mul]
    by_cases hq:f=true
    ·rw[if_pos hq]
     by_cases ho2:(EF s M to b vb out (tc+1)).on=true
     ·rw[if_pos ho2,(i3 ho2).2]
      have:l1=[]:=by
       cases l1 with
       |nil=>rfl
       |cons x l1=>exact absurd (hl1 x (Afn ..)) (hf hq x (Aga _ (Afn ..)))
      subst this
      rw[Agh] at hlne
      have:=FM.1 hlne
      omega
     ·rw[if_neg ho2];omega
    ·rw[if_neg hq];omega
  |succ h=>
   rw[decide_eq_false (Ahi _)] at hn
   obtain⟨n1,n2⟩:=hn.inner
   have ef:=ED hat.sound n1
   obtain⟨ks,cs,rfl⟩:∃ks cs,n=⟨false,ks,[],cs⟩:=⟨_,_,ef⟩
   simp only at n2 hne
   obtain⟨hko,hcl,hrng⟩:=CA.1 hat.sound
   have hlv:=hat.level (x:=((h+1+1:Nat):Int)) (by show false=_;exact(decide_eq_false (by omega)).symm)
   rw[C4,hlv]
   dsimp only
   rw[if_neg (by simp),if_neg (Ahi _)]
   obtain⟨a,b,rfl,hi,ha,hb,hz⟩:∃a b,ks=a++b∧D6 ⟨false,ks,[],cs⟩ fr=a.length∧(∀x∈a,¬Lt fr x)∧(∀x∈b,¬Lt x fr)∧(fr=[]→a=[]):=by
    unfold D6;by_cases h0:fr=[]
    ·rw[if_pos h0];exact⟨[],ks,Z,Z,fun x hx=>(by cases hx),fun x _=>by rw[h0];exact hsf x,fun _=>Z⟩
    ·rw[if_neg h0];obtain⟨a,b,e,q,r1,r2⟩:=Iu hat.sound fr;exact⟨a,b,e,by rw[q],r1,fun x hx=>K4 (r2 x hx),fun q=>absurd q h0⟩
   rw[hi]
   obtain⟨ca,cb,rfl,hca⟩:∃ca cb,cs=ca++cb∧ca.length=a.length:=⟨cs.take a.length,cs.drop a.length,(Ait ..).symm,by rw[Aft,hcl,Afk];omega⟩
   have hcbl:cb.length=b.length+1:=by rw[Afk,Afk] at hcl;omega
   rw[drop_left a b,←hca,drop_left ca cb]
   obtain⟨l1,l2,P2,hl,hl1,g2,hp⟩:∃l1 l2 P2,l=l1++l2∧(∀x∈l1,Lt x.1 fr)∧Kd (Tr s (h+1)) b cb l2 P2∧∀k,(if ca.length=0 then none else(a++b)[ca.length - 1]?)=some k→∀x∈l2,¬Lt x.1 k:=by
    have n2':Kd (Tr s (h+1)) (a++b++[]) (ca++cb++[]) l Q:=by simpa using n2
    obtain⟨l1,m,l2,P1,Pm,P2,rfl,rfl,g1,g2,g3,g4,g5⟩:=n2'.focus (by simpa using hko) hca hcbl;rcases g3 with ⟨_,_,rfl,rfl⟩|⟨k,ks',e,_⟩
    ·refine⟨l1,m,Pm,by simp,fun x hx=>?_,g2,fun k hk x hx=>?_⟩
     ·obtain⟨p,p1,p2⟩:=g1.below x hx;exact HY p2 (ha p p1)
     ·by_cases h0:ca.length=0
      ·rw[if_pos h0] at hk;cases hk
      ·rw[if_neg h0,List.getElem?_append_left (by omega)] at hk;exact g4 k (List.mem_of_getElem? hk) x hx
    ·cases e
   subst hl
   have hko2:KO (l2.map Prod.fst):=by rw[Ahk] at hasc;exact(KO.app.1 hasc).2.1
   have hno:∀x∈l1,inR fr to x=false:=fun x hx=>by unfold inR;rw[show Op.bytesLess x.1 fr=true from hl1 x hx];rfl
   have hsel:B6 fr to (M - out.length) (l1++l2)=B6 fr to (M - out.length) l2:=by
    unfold B6;rw[Ajw,Ajt.2 (fun x hx=>by rw[hno x hx];decide),Agh]
   have w:=Ru (to:=to) (h:=h+1) (fun{k l P out tc f} q1 q2 q3=>Wc (h+1) q1 q2 q3) (f:=f) (tc:=tc+1) g2 hp (fun q x hx=>hf q x (Agc _ hx)) hb hko2 ho
   generalize E9 (C4 s M fr to (h+1)) to (if ca.length=0 then none else(a++b)[ca.length - 1]?) b cb out (tc+1)=r at w⊢
   obtain⟨w1,w2,w3,w4,n,w5,w6⟩:=w
   refine⟨w1,by rw[hsel];exact w2,fun q=>by rw[hsel];exact w3 q,fun q=>?_,n+1,by rw[hsel,w5];omega,?_⟩
   ·rw[hsel]
    rcases w4 q with z|⟨z,x,hx,hy⟩
    ·exact .inl z
    ·exact .inr ⟨z,x,Agc _ hx,hy⟩
   ·rw[hsel,Nat.succ_mul]
    have:1≤(B6 fr to (M - out.length) l2).length+(if f=true then 0 else 1)+(if r.on=true then 0 else 1):=by
     by_cases hq:f=true
     ·by_cases ho2:r.on=true
      ·have:=(w3 ho2).2 hq;omega
      ·rw[if_neg ho2];omega
     ·rw[if_neg hq];omega
    omega
end
section
def GL(S:List Int):List Int→List Int×Bool
 |[]=>(S,true)
 |k::l=>if k∈S then(S,false) else GL (k::S) l
def Ep(s:PD)(S:List Int)(c:List UInt8):List Int×Int:=
 if inB c=true then(S,0)
 else if Fh c=true∧15<Ec c then
  ((GL S (BU s (EX c) (Ec c)).1).1,if (GL S (BU s (EX c) (Ec c)).1).2=true then(BU s (EX c) (Ec c)).2.2 else 200)
 else(S,200)
structure CR where
 S:List Int
 n:Nat
 e:Int
def Hb(fr to k:List UInt8):Bool:=Op.bytesLess k fr||(!to.isEmpty && !Op.bytesLess k to)
def Iz(s:PD)(fr to:List UInt8):List (List UInt8)→List (List UInt8)→List Int→Nat→CR
 |k::ks,c::cs,S,n=>if Hb fr to k=true then⟨S,n,200⟩ else if (Ep s S c).2≠0 then⟨S,n,(Ep s S c).2⟩ else Iz s fr to ks cs (Ep s S c).1 (n+1)
 |_,_,S,n=>⟨S,n,0⟩
def GH(rec:Int→List UInt8→List UInt8→List Int→Nat→CR)(lo to:List UInt8):List (List UInt8)→List Int→List Int→Nat→CR
 |_,[],S,n=>⟨S,n,0⟩
 |ks,c::cs,S,n=>if (rec c lo (ks.headD to) S n).e≠0 then rec c lo (ks.headD to) S n else GH rec (ks.headD to) to ks.tail cs (rec c lo (ks.headD to) S n).S (rec c lo (ks.headD to) S n).n
def Cy(s:PD):Nat→Int→Int→List UInt8→List UInt8→List Int→Nat→CR
 |0,_,_,_,_,S,n=>⟨S,n,99999⟩
 |g+1,page,h,fr,to,S,n=>
  if (AM s page h).2≠0 then⟨S,n,(AM s page h).2⟩
  else if page∈S∨(AM s page h).1.keys=[] then⟨S,n,200⟩
  else if (AM s page h).1.leaf=true then Iz s fr to (AM s page h).1.keys (AM s page h).1.vals (page::S) n
  else if (AM s page h).1.keys.any (Hb fr to)=true then⟨page::S,n,200⟩
  else GH (fun c lo hi S n=>Cy s g c (h - 1) lo hi S n) fr to (AM s page h).1.keys (AM s page h).1.kids (page::S) n
def Hx(g:Nat)(t:TD):Int:=
 if t.height=0 then(if (0:Int)≠t.count then 200 else 0)
 else if (Cy t.s g t.root t.height [] [] [] 0).e≠0 then(Cy t.s g t.root t.height [] [] [] 0).e
 else if ((Cy t.s g t.root t.height [] [] [] 0).n:Int)≠t.count then 200 else 0
def VZ:∀{l S:List Int},l.Nodup→(∀p∈l,p∉S)→(GL S l).2=true∧∀p,p∈(GL S l).1↔p∈l∨p∈S
 |[],S,_,_=>⟨Z,fun p=>by simp[GL]⟩
 |k::l,S,hn,hd=>by
  obtain⟨n1,n2⟩:=Aim.1 hn;rw[GL,if_neg (hd k (Afn ..))];obtain⟨h1,h2⟩:=VZ (S:=k::S) n2 (fun p hp q=>by
   rcases Afv.1 q with rfl|q
   ·exact n1 hp
   ·exact hd p (Afr _ hp) q)
  refine⟨h1,fun p=>?_⟩
  rw[h2,Afv,Afv];constructor
  ·rintro(q|q|q)
   ·exact .inl (.inr q)
   ·exact .inl (.inl q)
   ·exact .inr q
  ·rintro((q|q)|q)
   ·exact .inr (.inl q)
   ·exact .inl q
   ·exact .inr (.inr q)
section
variable {s:PD}
def Abb{c v}{P S:List Int}(h:Ce s c v P)(hn:P.Nodup)(hd:∀p∈P,p∉S):(Ep s S c).2=0∧∀p,p∈(Ep s S c).1↔p∈P∨p∈S:=by
 unfold Ep;rcases h with ⟨h1,rfl,rfl⟩|⟨h1,h2,h3,rfl⟩
 ·rw[if_pos (by simp[inB])];exact⟨Z,fun p=>by simp⟩
 ·obtain⟨q1,q2⟩:=LI h3;rw[if_neg (by rw[NV];decide),KQ (by omega),if_pos ⟨Px,h1⟩,O4 q1 (by omega),J1 h3 h2];obtain⟨g1,g2⟩:=VZ hn hd;simp only;rw[if_pos g1];exact⟨Z,g2⟩
def Ud{fr to k}(h1:¬Lt k fr)(h2:to=[]∨Lt k to):Hb fr to k=false:=by
 have h1:Op.bytesLess k fr=false:=by simpa [Lt] using h1
 unfold Hb;rw[h1];rcases h2 with rfl|h2
 ·rfl
 ·rw[show Op.bytesLess k to=true from h2];simp
def RY{a b:List Int}(h:(a++b).Nodup):a.Nodup∧b.Nodup∧∀p∈b,p∉a:=by
 obtain⟨h1,h2,h3⟩:=Aih.1 h;exact⟨h1,h2,fun p hp q=>h3 p q p hp Z⟩
def TJ{fr to}:∀{ks vs l}{P S:List Int}{n:Nat},Lf s ks vs l P→(∀x∈l,¬Lt x.1 fr)→(to=[]∨∀x∈l,Lt x.1 to)→P.Nodup→(∀p∈P,p∉S)→
  ∃S',Iz s fr to ks vs S n=⟨S',n+l.length,0⟩∧∀p,p∈S'↔p∈P∨p∈S
 |[],[],l,P,S,n,h,_,_,_,_=>by
  rw[Lf] at h;obtain⟨rfl,rfl⟩:=h;refine⟨S,?_,fun p=>by simp⟩
  rw[Iz]
  ·rfl
  ·simp
 |[],_::_,l,P,S,n,h,_,_,_,_=>by rw[Lf] at h<;>simp_all
 |_::_,[],l,P,S,n,h,_,_,_,_=>by rw[Lf] at h<;>simp_all
 |k::ks,c::cs,l,P,S,n,h,hf,ht,hn,hd=>by
  rw[Lf] at h;obtain⟨v,l',P1,P2,rfl,rfl,hc,h2⟩:=h;obtain⟨n1,n2,n3⟩:=RY hn;obtain⟨c1,c2⟩:=Abb hc n1 (fun p hp=>hd p (Aga _ hp));rw[Iz,if_neg (by rw[Ud (hf (k,v) (Afn ..)) (ht.imp id (fun q=>q (k,v) (Afn ..)))];decide),if_neg (fun q=>q c1)];obtain⟨S',e,q⟩:=TJ (S:=(Ep s S c).1) (n:=n+1) h2 (fun x hx=>hf x (Afr _ hx)) (ht.imp id (fun q x hx=>q x (Afr _ hx))) n2 (fun p hp r=>by
   rcases (c2 p).1 r with r|r
   ·exact n3 p hp r
   ·exact hd p (Agc _ hp) r)
  refine⟨S',by rw[e,Afq];congr 1;omega,fun p=>?_⟩
  rw[q,c2,Afj];constructor
  ·rintro(r|r|r)
   ·exact .inl (.inr r)
   ·exact .inl (.inl r)
   ·exact .inr r
  ·rintro((r|r)|r)
   ·exact .inr (.inl r)
   ·exact .inl r
   ·exact .inr (.inr r)
def Tg{R:RT}{to}{rec:Int→List UInt8→List UInt8→List Int→Nat→CR}
  (ih:∀{k:Int}{l}{P S:List Int}{fr to}{n:Nat},R k l P→(∀x∈l,¬Lt x.1 fr)→(to=[]∨∀x∈l,Lt x.1 to)→P.Nodup→(∀p∈P,p∉S)→∃S',rec k fr to S n=⟨S',n+l.length,0⟩∧∀p,p∈S'↔p∈P∨p∈S):
  ∀{ks}{cs:List Int}{l}{P S:List Int}{lo}{n:Nat},Kd R ks cs l P→(∀x∈l,¬Lt x.1 lo)→(to=[]∨∀x∈l,Lt x.1 to)→P.Nodup→(∀p∈P,p∉S)→
   ∃S',GH rec lo to ks cs S n=⟨S',n+l.length,0⟩∧∀p,p∈S'↔p∈P∨p∈S
 |[],[c],l,P,S,lo,n,h,hf,ht,hn,hd=>by
  obtain⟨S',e,q⟩:=ih (n:=n) h hf ht hn hd;refine⟨S',?_,q⟩
  rw[GH,List.headD_nil,e];simp only[ne_eq,not_true_eq_false,if_false];rw[GH]
 |[],[],l,P,S,lo,n,h,_,_,_,_=>h.elim
 |[],_::_::_,l,P,S,lo,n,h,_,_,_,_=>h.elim
 |_::_,[],l,P,S,lo,n,h,_,_,_,_=>h.elim
 |k::ks,c::cs,l,P,S,lo,n,h,hf,ht,hn,hd=>by
  obtain⟨l1,l2,P1,P2,rfl,rfl,g1,g2,g3,g4⟩:=Kd.cons.1 h;obtain⟨n1,n2,n3⟩:=RY hn;obtain⟨S1,e1,q1⟩:=ih (n:=n) g1 (fun x hx=>hf x (Aga _ hx)) (.inr g2) n1 (fun p hp=>hd p (Aga _ hp));obtain⟨S2,e2,q2⟩:=Tg (R:=R) (fun{k l P S fr to n}=>ih) (S:=S1) (n:=n+l1.length) g4 g3 (ht.imp id (fun q x hx=>q x (Agc _ hx))) n2 (fun p hp r=>by
   rcases (q1 p).1 r with r|r
   ·exact n3 p hp r
   ·exact hd p (Agc _ hp) r)
  refine⟨S2,?_,fun p=>?_⟩
  ·rw[GH,List.headD_cons,e1];simp only[ne_eq,not_true_eq_false,if_false,List.tail_cons];rw[e2,Afk];congr 1;omega
  ·rw[q2,q1,Afj];constructor
   ·rintro(r|r|r)
    ·exact .inl (.inr r)
    ·exact .inl (.inl r)
    ·exact .inr r
   ·rintro((r|r)|r)
    ·exact .inr (.inl r)
    ·exact .inl r
    ·exact .inr (.inr r)
def OH:∀(h g:Nat) {k:Int}{l}{P S:List Int}{fr to}{n:Nat},h≤g→Tr s h k l P→(∀x∈l,¬Lt x.1 fr)→(to=[]∨∀x∈l,Lt x.1 to)→P.Nodup→(∀p∈P,p∉S)→
  ∃S',Cy s g k (h:Nat) fr to S n=⟨S',n+l.length,0⟩∧∀p,p∈S'↔p∈P∨p∈S
 |0,g,k,l,P,S,fr,to,n,_,h,_,_,_,_=>h.elim
 |h+1,0,k,l,P,S,fr,to,n,hg,_,_,_,_,_=>absurd hg (by omega)
 |h+1,g+1,k,l,P,S,fr,to,n,hg,⟨m,Q,hat,hne,eP,hm⟩,hf,ht,hn,hd=>by
  subst eP;obtain⟨n1,n2⟩:=Aim.1 hn;have hd2:∀p∈Q,p∉k::S:=fun p hp q=>by
   rcases Afv.1 q with rfl|q
   ·exact n1 hp
   ·exact hd p (Afr _ hp) q
  have hmem:∀S':List Int,(∀p,p∈S'↔p∈Q∨p∈k::S)→∀p,p∈S'↔p∈k::Q∨p∈S:=fun S' q p=>by
   rw[q,Afv,Afv];constructor
   ·rintro(r|r|r)
    ·exact .inl (.inr r)
    ·exact .inl (.inl r)
    ·exact .inr r
   ·rintro((r|r)|r)
    ·exact .inr (.inl r)
    ·exact .inl r
    ·exact .inr (.inr r)
  cases h with
  |zero=>
   rw[decide_eq_true Z] at hm
   obtain⟨m1,m2⟩:=hm.leaf
   have hlv:=hat.level (x:=((0+1:Nat):Int)) (by rw[m1];rfl)
   rw[Cy,hlv]
   dsimp only
   rw[if_neg (by simp),if_neg (fun q=>q.elim (hd k (Afn ..)) hne),if_pos m1]
   obtain⟨S',e,q⟩:=TJ (n:=n) m2 hf ht n2 hd2
   exact⟨S',e,hmem S' q⟩
  |succ h=>
   rw[decide_eq_false (Ahi _)] at hm
   obtain⟨m1,m2⟩:=hm.inner
   have hlv:=hat.level (x:=((h+1+1:Nat):Int)) (by rw[m1];exact(decide_eq_false (by omega)).symm)
   rw[Cy,hlv]
   dsimp only
   rw[if_neg (by simp),if_neg (fun q=>q.elim (hd k (Afn ..)) hne),if_neg (by rw[m1];decide)]
   have hbt:=(Kd.btw (fun c l P q=>Tr.ne q) m2).2
   rw[if_neg (fun q=>by
    obtain⟨x,hx,hy⟩:=List.any_eq_true.1 q;obtain⟨⟨a,ha1,ha2⟩,b,hb1,hb2⟩:=hbt x hx;rw[Ud (fun q=>hf a ha1 (F2 ha2 q)) (ht.imp id (fun q=>K2 hb2 (q b hb1)))] at hy;cases hy)]
   rw[show((h+1+1:Nat):Int) - 1=((h+1:Nat):Int) by omega]
   obtain⟨S',e,q⟩:=Tg (R:=Tr s (h+1)) (rec:=fun c lo hi S n=>Cy s g c ((h+1:Nat):Int) lo hi S n) (fun{k l P S fr to n} q1 q2 q3 q4 q5=>OH (h+1) g (by omega) q1 q2 q3 q4 q5) (n:=n) m2 hf ht n2 hd2
   exact⟨S',e,hmem S' q⟩
def KP:∀(h g:Nat) {k:Int}{l}{P S:List Int}{H:Int}{fr to}{n:Nat},h≤g→Tr s h k l P→(h:Int)<H→(Cy s g k H fr to S n).e=200
 |0,g,k,l,P,S,H,fr,to,n,_,h,_=>h.elim
 |h+1,0,k,l,P,S,H,fr,to,n,hg,_,_=>absurd hg (by omega)
 |h+1,g+1,k,l,P,S,H,fr,to,n,hg,⟨m,Q,hat,hne,eP,hm⟩,hH=>by
  cases h with
  |zero=>
   rw[decide_eq_true Z] at hm
   have hlv:(AM s k H).2=200:=by
    unfold AM;rw[hat.read];rw[if_pos ⟨Z,by rw[hm.leaf.1,decide_eq_false (show¬H=1 by omega)];decide⟩]
   rw[Cy,if_pos (by rw[hlv];decide),hlv]
  |succ h=>
   rw[decide_eq_false (Ahi _)] at hm
   obtain⟨m1,m2⟩:=hm.inner
   have hlv:=hat.level (x:=H) (by rw[m1];exact(decide_eq_false (by omega)).symm)
   rw[Cy,hlv]
   dsimp only
   rw[if_neg (by simp)]
   split
   ·rfl
   rw[if_neg (by rw[m1];decide)]
   split
   ·rfl
   generalize m.keys=ks at m2
   generalize m.kids=cs at m2
   obtain⟨c,cs,rfl,l1,P1,h1⟩:∃c cs',cs=c::cs'∧∃l1 P1,Tr s (h+1) c l1 P1:=by
    cases ks with
    |nil=>
     cases cs with
     |nil=>exact m2.elim
     |cons c cs=>
      cases cs with
      |nil=>exact⟨c,[],Z,l,Q,m2⟩
      |cons=>exact m2.elim
    |cons k ks=>
     cases cs with
     |nil=>exact m2.elim
     |cons c cs=>
      obtain⟨l1,l2,P1,P2,_,_,g1,_⟩:=Kd.cons.1 m2
      exact⟨c,cs,Z,l1,P1,g1⟩
   have e:=KP (h+1) g (S:=k::S) (H:=H - 1) (fr:=fr) (to:=ks.headD to) (n:=n) (by omega) h1 (by omega)
   rw[GH,if_pos (by rw[e];decide),e]
end
section
variable {t:TD}{l:List KV}{P:List Int}
def Tok.check(h:Tok t l P){g:Nat}(hg:t.height≤g){c:Nat}(hc:c=0∨l≠[]):Hx g {t with count:=t.count+c}=if c=0 then 0 else 200:=by
 unfold Hx;dsimp only;rcases h.tr with ⟨e1,_,rfl,_⟩|⟨x,e1,e2⟩
 ·have hc:c=0:=hc.resolve_right (fun q=>q Z);rw[if_pos e1,if_pos hc,hc,h.ct];rfl
 ·obtain⟨S',e,_⟩:=OH (s:=t.s) (x+1) g (k:=t.root) (S:=[]) (fr:=[]) (to:=[]) (n:=0) (by omega) e2 (fun y _ q=>by cases hy:y.1<;>rw[hy] at q<;>simp[Lt,Op.bytesLess] at q) (.inl Z) h.nd (fun p _ q=>by cases q);rw[if_neg (show¬t.height=0 by omega),e1,e];simp only[ne_eq,not_true_eq_false,if_false,h.ct];by_cases q:c=0
  ·rw[if_pos q,if_neg (by omega)]
  ·rw[if_neg q,if_pos (by omega)]
def Tok.Aaz(h:Tok t l P)(hl:l≠[]){g:Nat}(hg:t.height≤g){c:Nat}(hc:1≤c):Hx g {t with height:=t.height+c}=200:=by
 unfold Hx;dsimp only;rcases h.tr with ⟨e1,_,rfl,_⟩|⟨x,e1,e2⟩
 ·exact absurd Z hl
 ·have e:=KP (s:=t.s) (x+1) g (k:=t.root) (S:=[]) (H:=((t.height+c:Nat):Int)) (fr:=[]) (to:=[]) (n:=0) (by omega) e2 (by omega);rw[if_neg (show¬t.height+c=0 by omega),e];rfl
end
end
end Go.Gk.Tre
end
section
namespace Go.Gk.Tre
open Go Go.Gk Go.Gk.Dev Go.Gk.Cch Go.Gk.Pgr Go.Gk.Chn Go.Gk.Node
attribute [local irreducible] gwp gws xwp
def NU(P:Program)(f:FuncId):Prop:=∀{d s dv pv L}{k x:Int},Pg d s dv pv L→
 Ao P f [pv,vZ k,vZ x] d L (Ret fun v d' L'=>Le d d'∧∃cs tc,v=.tuple #[.agg cs.toArray,vZ (AM s k x).2]∧Cz d' cs (AM s k x).1∧Pg d' {s with tc:=tc} dv pv L'∧((AM s k x).2=0→tc=s.tc+1))
def Vp(a0 a1:Nat):A9:=⟨37,[(.cell 6 (some 4)),(.tmp 7)],(sR (o1 6 (.alo (.agg #[(.bool false),nV,nV,nV]))<|o1 7 (.mv z0) .done) (sR (om 12 0<|om 13 1<|oc 14 a0 [12,13]<|om 11 14<|oe 15 11 0<|oe 16 11 1<|om 8 15<|om 9 16 .done) (.seq (sR (om 17 9<|ob 18 .neq 17 z0 .done) (.cond 18 (sR (o1 19 (.bld [(0,1),(1,1),(2,1),(3,1)] [(.bool false),nV,nV,nV] [])<|om 20 9<|o0 (.st 4 6 19)<|om 7 20 .done) .ret) .skip)) (sR (om 22 8<|oc 23 a1 [22]<|om 21 23<|oe 24 21 0<|oe 25 21 1<|o1 10 (.alo (.agg #[(.bool false),nV,nV,nV]))<|o0 (.st 4 10 24)<|om 9 25 .done) (.seq (sR (om 26 9<|ob 27 .eql 26 z0<|om 28 27<|oT 29 28 (.fld 0 10)<|oT 30 28 (.ld none 29)<|gT 31 28 2<|oT 32 28 (.bin .eql 31 z1)<|oT 33 28 (.eqb true 30 32)<|gP 34 28 33 .done) (.cond 34 (rG (o1 9 (.mv (kZ 200)) .done)) .skip)) (sR (o1 35 (.ld (some 4) 10)<|om 36 9<|o0 (.st 4 6 35)<|om 7 36 .done) .ret))))))⟩
set_option maxRecDepth 4000 in
def ZP{P f f1 f2}(hd:dec P f=some (Vp f1 f2))(h1:F4 P f1)(h2:Qo P f2):NU P f:=by
 intro d s dv pv L k x hp;obtain⟨bp,rfl⟩:=hp.ptr;refine Bj hd ?_;apply Aw;apply Av;refine DD (fun b6 T6=>?_);refine A7 Z<|Ag Z<|Ab Z<|A0 [_] (h1.atT (k:=k) hp) Z Z (fun v d2 L2 hl ⟨a,q,tc,e1,hb,hp2,htc⟩=>?_);subst e1;by_cases hlv:BB s k
 ·rw[OZ hlv];rw[if_pos hlv] at htc;have hr:Bw s k=(Ev (s.bytes k),Ht (s.bytes k)):=by unfold Bw;rw[if_pos hlv]
  have hr1:(Bw s k).1=Ev (s.bytes k):=by rw[hr]
  have hr2:(Bw s k).2=Ht (s.bytes k):=by rw[hr]
  refine AO Z<|AW Z Z Z Z<|Ae Z<|AR Z<|Ab Z<|AJ Z Z<|AT Z<|Br Z<|Bz Z (h2 hb) (fun u d3 L3 hl3 ⟨q0,cs,q1,q2⟩=>?_);subst q0;subst q1;obtain⟨d4,hk,hv,hi,v1,v2,v3⟩:=Ej.AbI q2;obtain⟨d5,hl5,v5,hn5⟩:=Gs v3;refine B1 _ _ ((Vs.app v1 _).trans (Vs.app v5 _)) ?_;obtain⟨xa,xc,ya,yc,za,zc,rfl⟩:=Cz.four hn5;have hp5:=(hp2.mono v2).mono hl5;have hL:AM s k x=(Ev (s.bytes k),if Ht (s.bytes k)=0∧(Ev (s.bytes k)).leaf≠decide (x=1) then 200 else Ht (s.bytes k)):=by unfold AM;rw[hr]
  rw[hL];replace hn5:Cz d5 [.bool (Ev (s.bytes k)).leaf,.slice xa (Ev (s.bytes k)).keys.length xc,.slice ya (Ev (s.bytes k)).vals.length yc,.slice za (Ev (s.bytes k)).kids.length zc] (Ev (s.bytes k)):=hn5;refine Fj (g:=23) (show _=Value.tuple #[.agg [.bool (Ev (s.bytes k)).leaf,.slice xa (Ev (s.bytes k)).keys.length xc,.slice ya (Ev (s.bytes k)).vals.length yc,.slice za (Ev (s.bytes k)).kids.length zc].toArray,vZ (Ht (s.bytes k))] from Z) ?_;clear hr hr1 hr2 hL q2 v3;generalize Ev (s.bytes k)=n at hn5⊢;generalize Ht (s.bytes k)=e;(refine AO Z<|AW Z Z Z Z<|B8 (fun _ _=>?_));rename_i b10 T10;refine BA 0 Z Z Z Z (Afe _) Z ?_;by_cases hz:e=0
  ·subst hz;by_cases hx:n.leaf=decide (x=1)
   ·rw[if_neg (fun q=>q.2 hx)];have hxx:(true ^^(n.leaf==decide (x=1)))=false:=by rw[hx];simp
    (refine AR Z<|Ab Z<|AI Z Z<|Ad Z<|Bx Z<|Ac Z<|Am Z<|Ac Z<|c_l Z Z Z<|Ac Z<|Ab Z<|Ac Z<|AI Z Z<|Ac Z<|HV Z Z<|As Z Z<|An ?_;apply YQ;rfl;(with_reducible assumption);refine AH<|Ak<|Bk 0 Z Z Z<|Ab Z ?_);refine BA 1 Z Z Z Z (Afe _) Z<|AS Z<|A6 [.agg [.bool n.leaf,.slice xa n.keys.length xc,.slice ya n.vals.length yc,.slice za n.kids.length zc].toArray,vZ 0] ⟨AY 1 Z Z Z,Af Z,trivial⟩ (d':=d5) (L':=L2) (Vs.drop (.cons _ (.cons _ (Afa _)))) ⟨(hl.trans v2).trans hl5,_,tc,Z,hn5,hp5,fun _=>htc⟩
   ·rw[if_pos ⟨Z,hx⟩];have hxx:(true ^^(n.leaf==decide (x=1)))=true:=by cases hb:n.leaf<;>rw[hb] at hx<;>simp at hx⊢<;>omega
    (refine AR Z<|Ab Z<|AI Z Z<|Ad Z<|Bx Z<|Ac Z<|Am Z<|Ac Z<|c_l Z Z Z<|Ac Z<|Ab Z<|Ac Z<|AI Z Z<|Ac Z<|HV Z Z<|As Z Z<|An ?_;apply UB;rfl;(with_reducible assumption);refine Av<|A7 Z<|Bk 0 Z Z Z<|Ab Z ?_);refine BA 1 Z Z Z Z (Afe _) Z<|AS Z<|A6 [.agg [.bool n.leaf,.slice xa n.keys.length xc,.slice ya n.vals.length yc,.slice za n.kids.length zc].toArray,vZ 200] ⟨AY 1 Z Z Z,Af Z,trivial⟩ (d':=d5) (L':=L2) (Vs.drop (.cons _ (.cons _ (Afa _)))) ⟨(hl.trans v2).trans hl5,_,tc,Z,hn5,hp5,fun _=>htc⟩
  ·rw[if_neg (fun q=>hz q.1)];refine AR Z<|Ab Z<|AI Z Z<|Ad Z<|Bs Z<|AQ Z Z<|AQ Z Z<|BP Z<|Aj Z Z<|Be Z<|Ak<|Bk 0 Z Z Z<|Ab Z<|BA 1 Z Z Z Z (Afe _) Z<|AS Z<|A6 [.agg [.bool n.leaf,.slice xa n.keys.length xc,.slice ya n.vals.length yc,.slice za n.kids.length zc].toArray,vZ e] ⟨AY 1 Z Z Z,Af Z,trivial⟩ (d':=d5) (L':=L2) (Vs.drop (.cons _ (.cons _ (Afa _)))) ⟨(hl.trans v2).trans hl5,_,tc,Z,hn5,hp5,fun _=>htc⟩
 ·rw[(Ph hlv).1];rw[if_neg hlv] at htc;have hr:Bw s k=(IA,240):=by unfold Bw;rw[if_neg hlv]
  have hL:AM s k x=(IA,240):=by unfold AM;rw[hr];rfl
  rw[hL];refine AO Z<|AW Z Z Z Z<|Ae Z<|AR Z<|Ab Z<|AJ Z Z<|A5 Z<|Ak<|BY Z<|Ab Z<|BA 0 Z Z Z Z (Afe _) Z<|AS Z<|A6 [.agg [.bool false,nV,nV,nV].toArray,vZ 240] ⟨AY 0 Z Z Z,Af Z,trivial⟩ (d':=d2) (L':=L2) (Vs.drop (.cons _ (Afa _)))
   ⟨hl,_,tc,Z,⟨_,_,_,Z,RSl.nil,RSl.nil,RSl.nil⟩,hp2,fun q=>absurd q (by decide)⟩
def Ve:A9:=⟨46,[(.tmp 2),(.tmp 3),(.tmp 4)],(sR (o1 2 (.mv z0)<|o1 3 (.mv z0)<|o1 4 (.mv (.const (.bool false))) .done) (.seq (sR (om 5 0<|oL 6 5<|ob 7 .neq 6 (kZ 7)<|om 8 7<|gF 9 8 0<|oF 10 8 (.idx 1 9 z0)<|oF 11 8 (.ld none 10)<|oF 12 8 (.bin .neq 11 (.const (.int .u8 1)))<|o1 13 (.pick 8 (.const (.bool true)) 12) .done) (.cond 13 (sR (o1 2 (.mv z0)<|o1 3 (.mv z0)<|o1 4 (.mv (.const (.bool false))) .done) .ret) .skip)) (.seq (.reg true (pm 14 0<|p1 15 (.idx 1 14 z1)<|pl 16 15<|p1 17 (.cvi .i64 16)<|p1 18 (.bin .shl 17 (.const (.int .u64 8)))<|pm 19 0<|p1 20 (.idx 1 19 z2)<|pl 21 20<|p1 22 (.cvi .i64 21)<|p1 23 (.bin .or 18 22)<|pm 24 0<|p1 25 (.idx 1 24 (kZ 3))<|pl 26 25<|p1 27 (.cvi .i64 26)<|p1 28 (.bin .shl 27 (.const (.int .u64 24)))<|pm 29 0<|p1 30 (.idx 1 29 (kZ 4))<|pl 31 30<|p1 32 (.cvi .i64 31)<|p1 33 (.bin .shl 32 (.const (.int .u64 16)))<|p1 34 (.bin .or 28 33)<|pm 35 0<|p1 36 (.idx 1 35 (kZ 5))<|pl 37 36<|p1 38 (.cvi .i64 37)<|p1 39 (.bin .shl 38 (.const (.int .u64 8)))<|p1 40 (.bin .or 34 39)<|pm 41 0<|p1 42 (.idx 1 41 (kZ 6))<|pl 43 42<|p1 44 (.cvi .i64 43)<|p1 45 (.bin .or 40 44)<|pm 2 23<|pm 3 45<|p1 4 (.mv (.const (.bool true))) .done)) .ret)))⟩
def Aai{P f}(hd:dec P f=some Ve):JM P f:=XK hd
def Pf(P:Program)(f:FuncId):Prop:=∀{d s dv pv w L b},Pg d s dv pv L→Ay d w b→
 Ao P f [pv,w] d L (Ret fun v d' L'=>Le d d'∧∃u tc,v=.tuple #[u,vZ (CP s b).2]∧Ay d' u (CP s b).1∧Pg d' {s with tc:=tc} dv pv L'∧((CP s b).2=0→tc=s.tc+Eo b))
def Ty(a0 a1:Nat):A9:=⟨36,[(.tmp 4),(.tmp 5)],(sR (o1 4 (.mv nS)<|o1 5 (.mv z0) .done) (.seq (sR (om 9 1<|oL 10 9<|ob 11 .gtr 10 z0<|om 12 11<|gT 13 12 1<|oT 14 12 (.idx 1 13 z0)<|oT 15 12 (.ld none 14)<|oT 16 12 (.bin .eql 15 (.const (.int .u8 0)))<|gP 17 12 16 .done) (.cond 17 (sR (o1 18 (.bsl 0 1 [(.int .u8 0)] [])<|om 19 1<|o1 20 (.sl 1 19 (some z1) none none)<|o1 21 (.app 1 1 [(.int .u8 0)] 18 20)<|om 4 21<|o1 5 (.mv z0) .done) .ret) .skip)) (sR (om 23 1<|oc 24 a0 [23]<|om 22 24<|oe 25 22 0<|oe 26 22 1<|oe 27 22 2<|om 6 25<|om 7 26<|om 8 27 .done) (.seq (sR (om 28 8<|o1 29 (.un .not 28) .done) (.cond 29 (sR (o1 4 (.mv nS)<|o1 5 (.mv (kZ 200)) .done) .ret) .skip)) (sR (om 30 0<|om 31 6<|om 32 7<|oc 33 a1 [30,31,32]<|oe 34 33 0<|oe 35 33 1<|om 4 34<|om 5 35 .done) .ret)))))⟩
set_option maxRecDepth 4000 in
def Y3{P f f1 f2}(hd:dec P f=some (Ty f1 f2))(h2:JM P f1)(h3:NP P f2):Pf P f:=by
 intro d s dv pv w L b hp hw;obtain⟨bp,rfl⟩:=hp.ptr;obtain⟨wa,wc,rfl⟩:=RSl.val hw;refine Bj hd ?_;by_cases h0:0<b.length
 ·have g0:=C5 (b:=b) (i:=0) h0;by_cases e0:b[0]=0
  ·have hb0:=Mq (b:=b) Z h0 (n:=0) (by rw[g0,e0];rfl);have hi:inB b=true:=by unfold inB;rw[g0,e0];simp[h0]
   have hF:CP s b=(b.drop 1,0):=by unfold CP;rw[if_pos hi]
   have hT:Eo b=0:=by unfold Eo;rw[if_pos hi]
   rw[hF,hT];clear hi hF hT;have hwl:=hw.BW;(refine Br Z<|AR Z<|Ae Z<|AA Z<|Bu Z Z<|Ad Z<|Bx Z<|Ac Z<|Ae Z<|Ac Z<|Bq (sz:=1) (R:=Ax) (by rfl) (by assumption) (by rfl) Z (by omega) ?_;rintro _ _ _ _ _ rfl;refine Ac Z<|Ah Z (BO (by assumption) Z)<|Ac Z<|AI Z Z<|As Z Z<|A5 Z<|Ak ?_);refine Dq (cs:=[]) (by simp) (by simp[Instr.fill,BD]) (fun b18 T18=>?_);(apply Ae;rfl);refine Ex (R:=Ax) (sz:=1) (n:=1) Z hw Z Z (by omega) (fun v' hv'=>?_);refine I1 (R:=Ax) (sz:=1) (xs:=[]) AF Z (Ai.J8 (R:=Ax) (sz:=1)) Z (RSl.src hv' Fx (by omega) _) (by omega) (by simp;omega) (by simp;omega) (fun a c' d' hl hu=>?_);rewrite [Agh] at hu⊢;refine Ae Z<|AS Z<|CJ Z Z (Afa _) ⟨hl,_,s.tc,Z,hu,hp.mono hl,fun _=>Z⟩
  ·have hb0:=Mq (b:=b) Z h0 (n:=_) (congrArg UInt8.toNat g0);have hb1:b[0].toNat≠0:=fun q=>e0 (UInt8.toNat_inj.1 q);(refine Br Z<|AR Z<|Ae Z<|AA Z<|Bu Z Z<|Ad Z<|Bx Z<|Ac Z<|Ae Z<|Ac Z<|Bq (sz:=1) (R:=Ax) (by rfl) (by assumption) (by rfl) Z (by omega) ?_;rintro _ _ _ _ _ rfl;refine Ac Z<|Ah Z (BO (by assumption) Z)<|Ac Z<|AI Z Z<|As Z Z<|AT Z<|Br Z ?_);have hi:inB b=false:=by unfold inB;rw[g0];simp[e0]
   cases hf:Fh b with
   |true=>
    have hF:CP s b=(Chn.BU s (EX b) (Ec b)).2:=by unfold CP;rw[hi,if_neg (by decide),hf,if_pos Z]
    have hT:Eo b=AN (Ec b):=by unfold Eo;rw[hi,if_neg (by decide)]
    rw[hF,hT]
    have hc:=h2 hw
    rw[hf,if_pos Z,if_pos Z] at hc
    clear hi hf hF hT
    refine BH Z hc ?_
    (refine AO Z<|AW Z Z Z Z<|Dl Z Z<|Ab Z<|Ab Z<|AV Z<|AZ<|Ad Z<|Bm Z<|Be Z<|A3 Z<|Ab Z<|Ab Z ?_)
    refine A0 [] (h3 (k:=EX b) (size:=Ec b) hp) Z Z (fun v d2 L2 hl ⟨_,u,tc,e1,hu,hp2,htc⟩=>?_)
    subst e1
    rw[Int.toNat_natCast] at htc
    (refine AW Z Z Z Z<|AK<|AS Z ?_)
    exact CJ Z Z (Afa _) ⟨hl,u,tc,Z,hu,hp2,htc⟩
   |false=>
    have hF:CP s b=([],200):=by unfold CP;rw[hi,if_neg (by decide),hf,if_neg (by decide)]
    rw[hF]
    have hc:=h2 hw
    rw[hf,if_neg (by decide),if_neg (by decide)] at hc
    clear hi hf hF
    refine BH Z hc ?_
    (refine AO Z<|AW Z Z Z Z<|Dl Z Z<|Ab Z<|Ab Z<|AV Z<|AZ<|Ad Z<|Bm Z<|B7 Z<|Br Z<|AS Z ?_)
    exact CJ Z Z (Afa _) ⟨Le.refl _,_,s.tc,Z,RSl.nil,hp,fun q=>absurd (show(200:Int)=0 from q) (by decide)⟩
 ·(refine Br Z<|AR Z<|Ae Z<|AA Z<|Bu Z Z<|Ad Z<|Bs Z<|AQ Z Z<|AQ Z Z<|Aj Z Z<|Be Z<|Br Z ?_);have hi:inB b=false:=by unfold inB;simp[h0]
  have hf:Fh b=false:=by
   unfold Fh;rw[decide_eq_false (by omega)];rfl
  have hF:CP s b=([],200):=by unfold CP;rw[hi,if_neg (by decide),hf,if_neg (by decide)]
  rw[hF];have hc:=h2 hw;rw[hf,if_neg (by decide),if_neg (by decide)] at hc;clear hi hf hF;refine BH Z hc<|AO Z<|AW Z Z Z Z<|Dl Z Z<|Ab Z<|Ab Z<|AV Z<|AZ<|Ad Z<|Bm Z<|B7 Z<|Br Z<|AS Z<|CJ Z Z (Afa _) ⟨Le.refl _,_,s.tc,Z,RSl.nil,hp,fun q=>absurd (show(200:Int)=0 from q) (by decide)⟩
def Ro(P:Program)(f:FuncId):Prop:=∀{d s dv pv w L b},PgT d s dv pv L→Ay d w b→b.length≤16384→
 Ao P f [pv,w] d L (Ret fun v d' L'=>Le d d'∧∃u,v=.tuple #[u,vZ (Cb s b).2.2]∧Ay d' u (Cb s b).2.1∧PgT d' (Cb s b).1 dv pv L')
def U5(a0:Nat):A9:=⟨41,[(.tmp 4),(.tmp 5)],(sR (o1 4 (.mv nS)<|o1 5 (.mv z0) .done) (.seq (sR (om 9 1<|oL 10 9<|ob 11 .leq 10 (kZ 15) .done) (.cond 11 (sR (o1 12 (.bsl 1 1 [(.int .u8 0)] [(0,(.const (.int .u8 0)))])<|om 13 1<|o1 14 (.app 1 1 [(.int .u8 0)] 12 13)<|om 4 14<|o1 5 (.mv z0) .done) .ret) .skip)) (sR (om 16 0<|om 17 1<|oc 18 a0 [16,17]<|om 15 18<|oe 19 15 0<|oe 20 15 1<|om 6 19<|om 7 20 .done) (sR (om 21 1<|oL 22 21<|om 8 22 .done) (sR (om 23 6<|ob 24 .shr 23 (.const (.int .u64 8))<|o1 25 (.cvi .u8 24)<|om 26 6<|o1 27 (.cvi .u8 26)<|om 28 8<|ob 29 .shr 28 (.const (.int .u64 24))<|o1 30 (.cvi .u8 29)<|om 31 8<|ob 32 .shr 31 (.const (.int .u64 16))<|o1 33 (.cvi .u8 32)<|om 34 8<|ob 35 .shr 34 (.const (.int .u64 8))<|o1 36 (.cvi .u8 35)<|om 37 8<|o1 38 (.cvi .u8 37)<|o1 39 (.bsl 7 1 [(.int .u8 0)] [(0,(.const (.int .u8 1))),(1,25),(2,27),(3,30),(4,33),(5,36),(6,38)])<|om 40 7<|om 4 39<|om 5 40 .done) .ret)))))⟩
set_option maxRecDepth 4000 in
def ZL{P f f1}(hd:dec P f=some (U5 f1))(h1:Ql P f1):Ro P f:=by
 intro d s dv pv w L b hp hw hbl;obtain⟨bp,rfl⟩:=hp.ptr;obtain⟨wa,wc,rfl⟩:=RSl.val hw;refine Bj hd ?_;by_cases h15:b.length≤15
 ·have hF:Cb s b=(s,0::b,0):=by unfold Cb;rw[if_pos h15]
  rw[hF];refine Br Z<|AR Z<|Ae Z<|AA Z<|G3 Z Z<|A5 Z<|Ak<|DN (v0:=.int .u8 0) Z Z (fun b3 T3=>?_);(apply Ae;rfl);refine I1 (R:=Ax) (sz:=1) (xs:=[0]) AF Z (Ai.EL (x:=(0:UInt8)) Z Z) Z (RSl.src hw Fx (by omega) _) (by omega) (by simp;omega) (by simp;omega) (fun a c' d' hl hu=>?_);refine Ae Z<|AS Z<|CJ Z Z (Afa _) ⟨hl,_,Z,hu,hp.mono hl⟩
 ·have hF:Cb s b=((B0 s b).1,Ge (B0 s b).2.1 b.length,(B0 s b).2.2):=by unfold Cb;rw[if_neg h15]
  rw[hF];refine Br Z<|AR Z<|Ae Z<|AA Z<|G3 Z Z<|AT Z<|A3 Z<|Ae Z<|A0 [] (Aei h1 hp hw hbl) Z Z (fun v d2 L2 hl ⟨_,e1,hp2⟩=>?_);subst e1;have hrg:=S4 (b:=b) hp.Fc;refine AO Z<|AW Z Z Z Z<|Ab Z<|A7 Z<|Ae Z<|AA Z<|A7 Z<|Ab Z<|GR Z Z (by decide)<|Dt Z<|Ab Z<|Dt Z<|Ab Z<|Qr 24 ((b.length:Int) / 16777216) Z Z (by omega) (by omega) Z<|Dt Z<|Ab Z<|Qr 16 ((b.length:Int) / 65536) Z Z (by omega) (by omega) Z<|Dt Z<|Ab Z<|GR Z Z (by decide)<|Dt Z<|Ab Z<|Dt Z<|Zr (a0:=1) (a1:=bI ((B0 s b).2.1 / 256)) (a2:=bI (B0 s b).2.1) (a3:=bI ((b.length:Int) / 16777216)) (a4:=bI ((b.length:Int) / 65536)) (a5:=bI ((b.length:Int) / 256)) (a6:=bI b.length) Z Z Z Z Z Z Z (fun b9 T9=>?_);refine Ab Z<|Ae Z<|AS Z<|A6 [.slice (some ⟨b9,0,none⟩) 7 7,vZ (B0 s b).2.2] ⟨Af Z,Af Z,trivial⟩ (d':=join d2 (bx b9 T9 ((Ge (B0 s b).2.1 b.length).map Al))) (L':=L2) Vs.freeze
   ⟨hl.trans (Le.Ar _ _),_,Z,Ai.rsl (R:=Ax) (sz:=1) (d:=d2) (Ai.QE Z Z (by simp[Ge])) AF (by omega) (Le.Ar _ _) (Le.Bc _ _),hp2.mono (Le.Ar _ _)⟩
end Go.Gk.Tre
end
