/-
  Our own texts, one behind the other: GkYF GkZ4 GkZ5 GkR1 GkR2 GkL1 GkL2 GkL3 GkR3 GkL4 GkR6 GkR7 GkZ6 GkZB GkZ0 GkZ1 GkR4 GkR5.
-/
import Derived.Test.YtoepkkjejljfbaaGreatDoorPzF
set_option linter.defProp false
set_option linter.unusedVariables false
set_option linter.unusedSimpArgs false
open Nat renaming le_of_ble_eq_true→No,le_refl→ZL,zero_le→ZN,not_lt_zero→Z3,zero_add→Aac,le_trans→Aaf,lt_or_ge→Acb,sub_self→Acg
open List renaming append_assoc→Zy,take_succ_eq_append_getElem→ZA,nil_sublist→ZB,getElem_mem→ZC,mem_cons_of_mem→ZE,all_eq_true→ZF,mem_cons_self→ZG,replicate→ZI,getElem?_eq_getElem→ZJ,mem_append→ZK,getElem?_eq_some_iff→ZO,length_cons→ZU,take_length→ZV,append_nil→ZW,getElem?_eq_none→ZY,nil_append→Z5,take_of_length_le→Z7,range→Z8,mem_singleton→Z9,getElem_of_mem→Aae,drop_length→Aag,getD_eq_getElem?_getD→Aao,getElem?_append_left→Aaq,mem_of_mem_take→Aar,mem_of_mem_drop→Aax,length_set→Abb,ext_getElem?→Abd,mem_of_getElem?→Abj,getElem_cons_drop→Abo,drop_of_length_le→Aby,ext_getElem→Abz,getD→Acd,mem_filter→Adf
open Bool renaming and_eq_true→Zz
open List.Sublist renaming refl→ZS
open List.Perm renaming swap→Z0
open Int renaming toNat_natCast→Z2
section
namespace Go.Gk.Val
open Go Go.Gk Go.Gk.Utf
attribute [local irreducible] gwp gws
section
def FE(a b:St):Bool:=decide (a.kind=b.kind)&&(decide (a.text=b.text)&&(decide (a.src=b.src)&&(decide (a.dst=b.dst)&&((a.hf==b.hf)&&(a.ht==b.ht)))))
def Ni(t u:List UInt8):(({data:=t.toArray}:ByteArray)=={data:=u.toArray})=decide (t=u):=by
 show(t.toArray==u.toArray)=_;by_cases h:t=u<;>simp[h]
def eqS(a b:St):IA (stL a).toArray (stL b).toArray [(0,0),(1,1),(0,2),(0,3),(2,4),(2,5)]=some (FE a b):=by
 obtain⟨k,t,s,d,f,h⟩:=a;obtain⟨k',t',s',d',f',h'⟩:=b;simp only[stL,IA,eq1,FE,Al];by_cases h1:k=k'
 ·by_cases h2:t=t'
  ·by_cases h3:s=s'
   ·by_cases h4:d=d'
    ·cases f<;>cases f'<;>cases h<;>cases h'<;>simp[h1,h2,h3,h4,Ni]
    ·simp[h1,h2,h3,h4,Ni]
   ·simp[h1,h2,h3,Ni]
  ·simp[h1,h2,Ni]
 ·simp[h1]
def JB(a b:St):FE a b=true↔a=b:=by
 obtain⟨k,t,s,d,f,h⟩:=a;obtain⟨k',t',s',d',f',h'⟩:=b;simp[FE]
section
variable {P:Program}{pan:List PanicEntry→A0}{Qn:Env→A0}{Ls L:List Ag}{ρ:Env}{d:Ag}{s:GS}{t:Nat}{tk:Bool}
def YS{neg:Bool}{x y}{a b:St}(ex:ev ρ x=.agg [vZ a.kind,Al a.text,vZ a.src,vZ a.dst,.bool a.hf,.bool a.ht].toArray)(ey:ev ρ y=.agg [vZ b.kind,Al b.text,vZ b.src,vZ b.dst,.bool b.hf,.bool b.ht].toArray)
  (h:gws P pan Qn s Ls (upd ρ t (.bool (neg ^^ FE a b))) d L):gws P pan Qn (.op tk ⟨some t,none,.eqc neg [(0,0),(1,1),(0,2),(0,3),(2,4),(2,5)] x y⟩ s) Ls ρ d L:=
 Xi (FE a b) ex ey (eqS a b) h
end
def Jz(a b:List St):Bool:=decide (a.length=b.length)&&(Z8 a.length).all fun i=>FE (a.getD i stZ) (b.getD i stZ)
def Kk(a b:List St):Jz a b=true↔a=b:=by
 simp only[Jz,Zz,decide_eq_true_eq,ZF,List.mem_range,JB];constructor
 ·rintro⟨h1,h2⟩;refine Abz h1 fun i hi hj=>?_;have:=h2 i hi;simpa [hi,hj] using this
 ·rintro rfl;exact⟨rfl,fun _ _=>rfl⟩
def Vm{a b:List St}(h:a.length≠b.length):Jz a b=false:=by simp[Jz,h]
def V5{a b:List St}{i:Nat}(hi:i<a.length)(hj:i<b.length)(h:a[i]≠b[i]):Jz a b=false:=by
 cases q:Jz a b with
 |false=>rfl
 |true=>exact absurd (by have:=(Kk a b).1 q;subst this;rfl) h
def Kr(P:Program)(f:FuncId):Prop:=∀{d u v}{a b:List St},RSl 6 RSt d u a→RSl 6 RSt d v b→AM P f [u,v] d (.bool (Jz a b))
def Iu:A6:=⟨26,[(.tmp 4)],(sR (o1 4 (.mv (.const (.bool false))) .done) (.seq (sR (om 6 0<|oL 7 6<|om 8 1<|oL 9 8<|ob 10 .neq 7 9 .done) (.cond 10 (sR (o1 4 (.mv (.const (.bool false))) .done) .ret) .skip)) (.seq (sR (o1 5 (.mv z0) .done) (.block 0 (.loop (.seq (sR (om 11 5<|om 12 0<|oL 13 12<|ob 14 .lss 11 13 .done) (.cond 14 .skip (.exit 0))) (.seq (.block 1 (.seq (.reg true (pm 17 0<|pm 18 5<|p1 19 (.idx 6 17 18)<|p1 20 (.ld (some 6) 19)<|pm 21 1<|pm 22 5<|p1 23 (.idx 6 21 22)<|p1 24 (.ld (some 6) 23)<|p1 25 (.eqc true [(0,0),(1,1),(0,2),(0,3),(2,4),(2,5)] 20 24) .done)) (.cond 25 (sR (o1 4 (.mv (.const (.bool false))) .done) .ret) .skip))) (rG (om 15 5<|ob 16 .add 15 z1<|om 5 16 .done))))))) (sR (o1 4 (.mv (.const (.bool true))) .done) .ret))))⟩
set_option maxHeartbeats 1000000 in
def TM{P f}(hd:dec P f=some Iu):Kr P f:=by
 intro d u v a b hu hv;refine AM.of' hd (No rfl) ?_;have n1:=RSl.Be hu;have n2:=RSl.Be hv;obtain⟨ua,uc,rfl⟩:=RSl.val hu;obtain⟨va,vc,rfl⟩:=RSl.val hv;have hu':RSl 6 RSt d (.slice ua a.length uc) a:=hu;have hv':RSl 6 RSt d (.slice va b.length vc) b:=hv;show gwp P _ _ _ _ _;by_cases hl:a.length=b.length
 ·(refine Ac<|Ad rfl<|Aa<|Ai<|Ac<|As rfl<|AA rfl<|As rfl<|AA rfl<|AG rfl rfl<|Aa<|Ao rfl (by omega)<|Am<|Ai<|Ac<|Ab rfl<|Aa<|Av ?_);refine Bg (α:=Nat) (fun i=>[(0,.slice ua a.length uc),(1,.slice va b.length vc),(5,vZ i)])
   (fun i d' L'=>d'=d∧i≤a.length∧(∀j (hj:j<a.length) (hk:j<b.length),j<i→a[j]=b[j])∧L'=[]) (fun i=>a.length - i) 0 ⟨rfl,rfl,rfl,trivial⟩ ⟨rfl,ZN _,fun j _ _ h=>absurd h (Z3 j),rfl⟩ ?_
  rintro i ρ d' L' ⟨hdd,hi,hall,hL⟩;subst hdd;subst hL;by_cases hc:i<a.length
  ·have hcb:i<b.length:=by omega
   (refine Ai<|Ac<|Ab rfl<|As rfl<|AA rfl<|Ax rfl rfl<|Aa<|Au rfl (by omega)<|Am<|Ai<|Av<|Ai<|AT<|As rfl<|Ab rfl<|AJ (sz:=6) (R:=RSt) (by rfl) (by assumption) (by rfl) rfl (by omega) ?_;rintro _ _ _ _ _ ⟨rfl,_,_,_,_⟩;refine BE rfl (by assumption) rfl<|As rfl<|Ab rfl<|AJ (sz:=6) (R:=RSt) (by rfl) (by assumption) (by rfl) rfl (by omega) ?_;rintro _ _ _ _ _ ⟨rfl,_,_,_,_⟩;apply BE;rfl;assumption;rfl);refine YS (a:=a[i]) (b:=b[i]) rfl rfl ?_;by_cases he:a[i]=b[i]
   ·rw[show(true ^^ FE a[i] b[i])=false by rw[(JB _ _).2 he];rfl];(refine Aa<|AK rfl<|Am<|Ay<|Ab rfl<|AI rfl rfl (by omega) (by omega)<|Ab rfl<|Aa ?_);refine⟨i+1,by omega,⟨rfl,rfl,int_eq (by omega),trivial⟩,rfl,hc,fun j hj hk hji=>?_,rfl⟩
    by_cases e:j<i
    ·exact hall j hj hk e
    ·obtain rfl:j=i:=by omega
     exact he
   ·rw[show(true ^^ FE a[i] b[i])=true by cases q:FE a[i] b[i] with|false=>rfl|true=>exact absurd ((JB _ _).1 q) he,V5 hc hcb he];(refine Aa<|Bb rfl<|Ac<|Ad rfl<|Aa<|Ar ?_);exact BI rfl
  ·have:a=b:=Abz hl fun j hj hk=>hall j hj hk (by omega);rw[(Kk a b).2 this];clear this;(refine Ai<|Ac<|Ab rfl<|As rfl<|AA rfl<|Ax rfl rfl<|Aa<|Ao rfl (by omega)<|AV<|Ac<|Ad rfl<|Aa<|Ar ?_);exact BI rfl
 ·rw[Vm hl];(refine Ac<|Ad rfl<|Aa<|Ai<|Ac<|As rfl<|AA rfl<|As rfl<|AA rfl<|AG rfl rfl<|Aa<|Au rfl (by omega)<|Ac<|Ad rfl<|Aa<|Ar ?_);exact BI rfl
def JQ(P:Program)(f:FuncId):Prop:=∀{d wv v}{ws:List (List St)}{l:List V},RSl 1 Cb d wv ws→BL d v l→
 A8 P f [wv,v] d [] (Ret fun r d' L'=>d'=d∧L'=[]∧∃b:Bool,r=.bool b∧(b=false→ws.length≤20∧(∀w∈ws,w.length≤12)∧Dd (.mk 0 0 0 [] l [])≤600))
def Jg(a0:Nat):A6:=⟨24,[(.tmp 4)],(sR (o1 4 (.mv (.const (.bool false))) .done) (.seq (sR (om 7 0<|oL 8 7<|ob 9 .gtr 8 (kZ 20) .done) (.cond 9 (sR (o1 4 (.mv (.const (.bool true))) .done) .ret) .skip)) (.seq (sR (om 10 0<|oL 11 10<|o1 12 (.mv z0) .done) (.block 0 (.loop (sR (ob 13 .lss 12 11 .done) (.seq (.cond 13 .skip (.exit 0)) (.seq (.block 1 (sR (oI 14 1 10 12<|ol 15 14<|om 6 15 .done) (sR (om 16 6<|oL 17 16<|ob 18 .gtr 17 (kZ 12) .done) (.cond 18 (sR (o1 4 (.mv (.const (.bool true))) .done) .ret) .skip)))) (rG (ob 19 .add 12 z1<|om 12 19 .done)))))))) (sR (om 20 1<|o1 21 (.bld [(0,1),(1,2),(3,1),(4,1),(5,1)] [(vZ 0),(vZ 0),(vZ 0),(Al []),(.slice none 0 0),(.slice none 0 0)] [(3,20)])<|oc 22 a0 [21,(kZ 600)]<|ob 23 .gtr 22 (kZ 600)<|om 4 23 .done) .ret))))⟩
set_option maxHeartbeats 1000000 in
def U6{P f f1}(hd:dec P f=some (Jg f1))(h1:Rc P f1):JQ P f:=by
 intro d wv v ws l hw hv;obtain⟨wa,wc,rfl⟩:=RSl.val hw;obtain⟨a2,c2,rfl⟩:=RSl.val hv;have n1:=RSl.Be hw;have hw':RSl 1 Cb d (.slice wa ws.length wc) ws:=hw;refine Bd hd (No rfl) ?_;show gwp P _ _ _ _ _;have hv2:Aw d [vZ 0,vZ 0,vZ 0,Al [],.slice a2 l.length c2,.slice none 0 0] (.mk 0 0 0 [] l []):=Aw.close (v:=.mk 0 0 0 [] l []) Ba Ba Ba (by simp) hv RSl.nil;by_cases q:20<ws.length
 ·(refine Ac<|Ad rfl<|Aa<|Ai<|Ac<|As rfl<|AA rfl<|AP rfl rfl<|Aa<|Au rfl (by omega)<|Ac<|Ad rfl<|Aa<|Ar ?_);exact Fu rfl ⟨rfl,rfl,true,rfl,fun h=>by cases h⟩
 (refine Ac<|Ad rfl<|Aa<|Ai<|Ac<|As rfl<|AA rfl<|AP rfl rfl<|Aa<|Ao rfl (by omega)<|Am<|Ai<|Ac<|As rfl<|AA rfl<|Ab rfl<|Aa<|Av ?_);refine Bg (α:=Nat) (fun i=>[(1,.slice a2 l.length c2),(10,.slice wa ws.length wc),(11,vZ ws.length),(12,vZ i)])
  (fun i d' L'=>d'=d∧i≤ws.length∧(∀j (hj:j<ws.length),j<i→ws[j].length≤12)∧L'=[]) (fun i=>ws.length - i) 0 ⟨rfl,rfl,rfl,rfl,trivial⟩ ⟨rfl,ZN _,fun j _ h=>absurd h (Z3 j),rfl⟩ ?_
 rintro i ρ d' L' ⟨hdd,hi,hall,hL⟩;subst hdd;subst hL;by_cases hc:i<ws.length
 ·(refine Ac<|Ax rfl rfl<|Aa<|Ai<|Au rfl (by omega)<|Am<|Ai<|Av<|Ac ?_);refine AJ (sz:=1) (R:=Cb) rfl hw' rfl rfl hc (fun bq oq csq hcq hDq ⟨u,hu,hwi⟩=>?_);subst hu;have n3:=RSl.Be hwi;obtain⟨ua,uc,rfl⟩:=RSl.val hwi;by_cases q2:12<ws[i].length
  ·(refine Ah rfl (A1 (by assumption) rfl)<|As rfl<|Aa<|Ac<|As rfl<|AA rfl<|AP rfl rfl<|Aa<|Au rfl (by omega)<|Ac<|Ad rfl<|Aa<|Ar ?_);exact Fu rfl ⟨rfl,rfl,true,rfl,fun h=>by cases h⟩
  ·(refine Ah rfl (A1 (by assumption) rfl)<|As rfl<|Aa<|Ac<|As rfl<|AA rfl<|AP rfl rfl<|Aa<|Ao rfl (by omega)<|Am<|Ay<|AI rfl rfl (by omega) (by omega)<|Ab rfl<|Aa ?_);refine⟨i+1,by omega,⟨rfl,rfl,rfl,int_eq (by omega),trivial⟩,rfl,hc,fun j hj hji=>?_,rfl⟩
   by_cases e:j<i
   ·exact hall j hj e
   ·obtain rfl:j=i:=by omega
    omega
 ·(refine Ac<|Ax rfl rfl<|Aa<|Ai<|Ao rfl (by omega)<|AV<|Ac<|As rfl<|Zd rfl ?_);refine AR rfl (h1 (.mk 0 0 0 [] l []) (most:=600) hv2 (by omega)) (fun r d3 L3 _ ⟨hdd,z,hr,hz1,hz2,hz3,hL⟩=>?_);subst hdd;subst hr;subst hL;(refine AP rfl rfl<|Ad rfl<|Aa<|Ar ?_);exact Fu rfl ⟨rfl,rfl,_,rfl,fun h=>⟨by omega,fun w hw=>by obtain⟨j,hj,rfl⟩:=Aae hw;exact hall j hj (by omega),by
   have:¬600<z:=by simpa using h
   have:=hz3 (by omega);omega⟩⟩
end
end Go.Gk.Val
end
section
namespace Go.Gk.Val
open Go Go.Gk Go.Gk.Utf
def UN(n:Nat):BV (ZI n V.zero)=n:=by
 induction n with
 |zero=>rfl
 |succ n ih=>
  rw[List.replicate_succ]
  have:Bq V.zero=1:=by decide
  simp only[BV,ih,this];omega
def WV(v:V)(s:St)(y:V):Bq (BP v s y).1+Bq (AU v s).1≤Bq v+Bq y+4096:=by
 have h3:=B0 v;have hy:=B0 y;have hi:=Dj v s;have hz:Bq V.zero=1:=by decide
 unfold BP;by_cases c1:s.kind=0∧(v.kind=0∨v.kind=6)
 ·rw[if_pos c1];simp only[Cq];rw[B0 (.mk 6 0 0 [] _ _)];show 1+0+(v.keys.take (AZ v.keys s.text)++[s.text]++v.keys.drop (toK v.keys s.text)).length+BV (v.list.take (AZ v.keys s.text)++[y]++v.list.drop (toK v.keys s.text))+_≤_;rw[Cl,Cl];simp only[List.length_append,List.length_take,List.length_drop,List.length_singleton,BV];by_cases k0:v.kind=0
  ·have e:(AU v s).1=V.zero:=by unfold AU;rw[if_pos k0]
   rw[e,hz];have hlt:AZ v.keys s.text≤toK v.keys s.text:=by unfold toK;split<;>omega
   have h4:=F7 (l:=v.list) hlt;omega
  ·have k6:v.kind=6:=by omega
   by_cases hm:s.text∈v.keys
   ·have e:(AU v s).1=v.list.getD (AZ v.keys s.text) V.zero:=by unfold AU;rw[if_neg k0,if_pos ⟨c1.1,k6⟩,if_pos hm]
    rw[e];have et:toK v.keys s.text=AZ v.keys s.text+1:=by unfold toK;rw[if_pos hm]
    rw[et];by_cases hl:AZ v.keys s.text<v.list.length
    ·have hg:v.list.getD (AZ v.keys s.text) V.zero=v.list[AZ v.keys s.text]:=by simp[hl]
     rw[hg];have:=Hh hl;omega
    ·have hg:v.list.getD (AZ v.keys s.text) V.zero=V.zero:=by simp[Nat.not_lt.1 hl]
     rw[hg,hz];have h4:=F7 (l:=v.list) (show AZ v.keys s.text≤AZ v.keys s.text+1 by omega);omega
   ·have e:(AU v s).1=V.zero:=by unfold AU;rw[if_neg k0,if_pos ⟨c1.1,k6⟩,if_neg hm]
    rw[e,hz];have et:toK v.keys s.text=AZ v.keys s.text:=by unfold toK;rw[if_neg hm]
    rw[et];have h4:=F7 (l:=v.list) (show AZ v.keys s.text≤AZ v.keys s.text by omega);omega
 rw[if_neg c1];by_cases c2:s.kind=1∧(v.kind=0∨v.kind=5)
 ·rw[if_pos c2];by_cases hp:Bm s.src v.list.length<0∨4095<Bm s.src v.list.length
  ·rw[if_pos hp];simp only[hz];omega
  ·rw[if_neg hp];obtain⟨n,hn⟩:∃n:Nat,Bm s.src v.list.length=n:=⟨(Bm s.src v.list.length).toNat,by omega⟩
   rw[hn] at hp⊢;simp only[Z2];have hlen:n<(Cm v.list (n+1)).length:=by simp[Cm];omega
   have h4:=Hh hlen;have h5:BV (Cm v.list (n+1))=BV v.list+(n+1 - v.list.length):=by rw[Cm,Cl,UN]
   rw[B0 (.mk 5 0 0 [] _ _)];show 1+0+0+BV ((Cm v.list (n+1)).take n++[y]++(Cm v.list (n+1)).drop (n+1))+_≤_;rw[Cl,Cl];simp only[BV];have h6:=F0 (Cm v.list (n+1))[n];by_cases k0:v.kind=0
   ·have e:(AU v s).1=V.zero:=by unfold AU;rw[if_pos k0]
    rw[e,hz];omega
   ·have e:(AU v s).1=JV v.list n:=by unfold AU;rw[if_neg k0,if_neg (by omega),if_pos ⟨c2.1,by omega⟩,hn]
    rw[e];unfold JV;by_cases hl:n<v.list.length
    ·rw[if_pos ⟨by omega,by omega⟩];have hg:v.list.getD ((n:Int)).toNat V.zero=v.list[n]:=by simp[hl]
     have hg2:(Cm v.list (n+1))[n]=v.list[n]:=by simp only[Cm];rw[List.getElem_append_left hl]
     rw[hg];rw[hg2] at h4 h6;omega
    ·rw[if_neg (by omega),hz];omega
 rw[if_neg c2];by_cases c3:s.kind=2∧(v.kind=0∨v.kind=5)∧y.kind=5
 ·rw[if_pos c3];have he:=C8 s (k:=v.list.length) (by omega);have h4:=F7 (l:=v.list) (show(A5 s v.list.length).1.toNat≤(A5 s v.list.length).2.toNat by omega);rw[B0 (.mk 5 0 0 [] _ _)];show 1+0+0+BV (v.list.take (A5 s v.list.length).1.toNat++y.list++v.list.drop (A5 s v.list.length).2.toNat)+_≤_;rw[Cl,Cl];by_cases k0:v.kind=0
  ·have e:(AU v s).1=V.zero:=by unfold AU;rw[if_pos k0]
   rw[e,hz];omega
  ·have e:(AU v s).1=.mk 5 0 0 [] (Ez v.list (A5 s v.list.length)) []:=by unfold AU;rw[if_neg k0,if_neg (by omega),if_neg (by omega),if_pos ⟨c3.1,by omega⟩]
   rw[e];have e2:Bq (.mk 5 0 0 [] (Ez v.list (A5 s v.list.length)) [])=1+BV ((v.list.drop (A5 s v.list.length).1.toNat).take ((A5 s v.list.length).2.toNat - (A5 s v.list.length).1.toNat)):=by rw[B0];rfl
   rw[e2];omega
 ·rw[if_neg c3];simp only[hz];omega
def Rl:∀(l:List St) (v x:V),Bq (Ch v l x).1≤Bq v+Bq x+l.length*4096
 |[],v,x=>by simp[Ch]
 |s::l,v,x=>by
  have hz:Bq V.zero=1:=by decide
  have h1:=F0 x;have h2:=Rl l (AU v s).1 x;have h3:=WV v s (Ch (AU v s).1 l x).1;simp only[Ch,ZU];split
  ·simp only[hz];omega
  split
  ·simp only[hz];omega
  ·omega
def Rw(v:V)(l:List St)(x:V):Bq (CG v l x).1≤Bq v+Bq x+l.length*4096:=by
 have hz:Bq V.zero=1:=by decide
 have h1:=F0 x;have h2:=Rl l v x;unfold CG;split
 ·simp only[hz];omega
 split
 ·simp only[hz];omega
 split
 ·simp only[hz];omega
 split
 ·simp only[hz];omega
 split
 ·simp only[hz];omega
 ·exact h2
def GF:V→List (List St)→V→V×Int
 |v,[],_=>(v,0)
 |v,w::ws,x=>if (CG v w x).2≠0 then(V.zero,(CG v w x).2) else GF (CG v w x).1 ws x
def CJ(v:V)(ws:List (List St))(x:V):V×Int:=if AS v≠0 then(V.zero,AS v) else if AS x≠0 then(V.zero,AS x) else GF v ws x
def Hc:V→List (List St)→V→Prop
 |v,[],_=>Bq v≤1000000
 |v,w::ws,x=>Bq v≤1000000∧Hc (CG v w x).1 ws x
def Hc.txt{v x:V}:∀{ws:List (List St)},Hc v ws x→Bq v≤1000000
 |[],h=>h
 |_::_,h=>h.1
def Wl(ws:List (List St)):∀{v x:V},Bq v+ws.length*(Bq x+49152)≤1000000→(∀w∈ws,w.length≤12)→Hc v ws x:=by
 induction ws with
 |nil=>
  intro v x h _
  exact Aaf (Nat.le_add_right _ _) h
 |cons w ws ih=>
  intro v x h hw
  rw[ZU,Nat.succ_mul] at h
  refine⟨by omega,ih ?_ fun u hu=>hw u (ZE _ hu)⟩
  have h1:=Rw v w x
  have h2:=hw w (ZG ..)
  omega
end Go.Gk.Val
end
section
namespace Go.Gk.Val
open Go Go.Gk Go.Gk.Utf Go.Gk.Srt
attribute [local irreducible] gwp gws
section
section
variable {P:Program}{pan:List PanicEntry→A0}{Qn:Env→A0}{Ls L:List Ag}{ρ:Env}{d:Ag}{s:GS}{t:Nat}{tk:Bool}
def MT{x i:Operand}{m len sz:Nat}{l vs:List Value}{k:IntKind}{j:Int}(n:Nat)(ex:ev ρ x=.agg l.toArray)(ei:ev ρ i=.int k j)(hj:j=(n:Int))(hn:n<len)(hv:(l.drop (n*sz)).take m=vs)
  (h:gws P pan Qn s Ls (upd ρ t (.agg vs.toArray)) d L):gws P pan Qn (.op tk ⟨some t,none,.aidx (some m) len sz x i⟩ s) Ls ρ d L:=by
 subst hj;subst hv
 refine w_q rfl ⟨l.toArray,k,n,ex,ei,by omega,by omega,?_⟩ h
 rw[Z2,List.extract_toArray,List.extract_eq_take_drop,Nat.add_sub_cancel_left]
def U0{x y a0 a1 a2 a3 a4 a5 c0 c1 c2 c3 c4 c5}(ex:ev ρ x=.agg [a0,a1,a2,a3,a4,a5].toArray)(ey:ev ρ y=.agg [c0,c1,c2,c3,c4,c5].toArray)
  (h:gws P pan Qn s Ls (upd ρ t (.agg [a0,a1,a2,a3,a4,a5,c0,c1,c2,c3,c4,c5].toArray)) d L):
  gws P pan Qn (.op tk ⟨some t,none,.bld [(0,6),(6,6)] [vZ 0,vZ 0,vZ 0,Al [],.slice none 0 0,.slice none 0 0,vZ 0,vZ 0,vZ 0,Al [],.slice none 0 0,.slice none 0 0] [(0,x),(1,y)]⟩ s) Ls ρ d L:=
 BN (cs:=[a0,a1,a2,a3,a4,a5,c0,c1,c2,c3,c4,c5]) (by simp[Instr.fill,ex,ey,Value.cells,Al]) h
end
def P7(T:Ag→Prop)(P:Program)(f:FuncId):Prop:=∀{d cs es wv}{v x:V}{ws:List (List St)},T d→Aw d cs v→RSl 1 Cb d wv ws→Aw d es x→Hc v ws x→Cc x≤1000000→(∀w∈ws,w.length≤100)→
 A8 P f [.agg cs.toArray,wv,.agg es.toArray] d [] (Ret fun r d' L'=>Le d d'∧∃cs' h,r=.tuple #[.agg cs'.toArray,vZ (CJ v ws x).2]∧L'=[h]∧Cv cs' (CJ v ws x).1 h)
def Qr(a0 a1 a2:Nat):A6:=⟨49,[(.cell 6 (some 6)),(.tmp 7)],(sR (o1 3 (.box 0)<|o1 5 (.box 2)<|o1 6 (.alo (.agg #[(vZ 0),(vZ 0),(vZ 0),(Al []),(.slice none 0 0),(.slice none 0 0)]))<|o1 7 (.mv z0) .done) (.seq (sR (o1 15 (.ld (some 6) 3)<|o1 16 (.ld (some 6) 5)<|o1 17 (.bld [(0,6),(6,6)] [(vZ 0),(vZ 0),(vZ 0),(Al []),(.slice none 0 0),(.slice none 0 0),(vZ 0),(vZ 0),(vZ 0),(Al []),(.slice none 0 0),(.slice none 0 0)] [(0,15),(1,16)])<|o1 18 (.mv z0) .done) (.block 0 (.loop (sR (ob 19 .lss 18 z2 .done) (.seq (.cond 19 .skip (.exit 0)) (.seq (.block 1 (sR (o1 20 (.aidx (some 6) 2 6 17 18)<|o1 9 (.alo (.agg #[(vZ 0),(vZ 0),(vZ 0),(Al []),(.slice none 0 0),(.slice none 0 0)]))<|o0 (.st 6 9 20) .done) (sR (o1 21 (.ld (some 6) 9)<|oc 22 a0 [21]<|om 10 22 .done) (sR (om 23 10<|ob 24 .neq 23 z0 .done) (.cond 24 (sR (o1 25 (.bld [(0,1),(1,2),(3,1),(4,1),(5,1)] [(vZ 0),(vZ 0),(vZ 0),(Al []),(.slice none 0 0),(.slice none 0 0)] [])<|om 26 10<|o0 (.st 6 6 25)<|om 7 26 .done) .ret) .skip))))) (rG (ob 27 .add 18 z1<|om 18 27 .done)))))))) (.seq (sR (om 28 1<|oL 29 28<|o1 30 (.mv z0) .done) (.block 2 (.loop (sR (ob 31 .lss 30 29 .done) (.seq (.cond 31 .skip (.exit 2)) (.seq (.block 3 (sR (oI 32 1 28 30<|ol 33 32<|om 12 33 .done) (sR (o1 35 (.ld (some 6) 3)<|om 36 12<|o1 37 (.ld (some 6) 5)<|oc 38 a1 [35,36,37]<|om 34 38<|oe 39 34 0<|oe 40 34 1<|o1 13 (.alo (.agg #[(vZ 0),(vZ 0),(vZ 0),(Al []),(.slice none 0 0),(.slice none 0 0)]))<|o0 (.st 6 13 39)<|om 14 40 .done) (.seq (sR (om 41 14<|ob 42 .neq 41 z0 .done) (.cond 42 (sR (o1 43 (.bld [(0,1),(1,2),(3,1),(4,1),(5,1)] [(vZ 0),(vZ 0),(vZ 0),(Al []),(.slice none 0 0),(.slice none 0 0)] [])<|om 44 14<|o0 (.st 6 6 43)<|om 7 44 .done) .ret) .skip)) (rG (o1 45 (.ld (some 6) 13)<|o0 (.st 6 3 45) .done)))))) (rG (ob 46 .add 30 z1<|om 30 46 .done)))))))) (sR (o1 47 (.ld (some 6) 3)<|oc 48 a2 [47]<|o0 (.st 6 6 48)<|o1 7 (.mv z0) .done) .ret))))⟩
set_option maxHeartbeats 4000000 in
def Yb{T:Ag→Prop}{P:Program}{f f1 f2 f3:FuncId}(hTm:∀{d d':Ag},Le d d'→T d→T d')(hd:dec P f=some (Qr f1 f2 f3))(h1:Fq T P f1)(h2:S6 T P f2)(h3:Hm P f3):P7 T P f:=by
 intro d cs es wv v x ws ht hv hws hx hB hcx hwb;refine Bd hd (No rfl) ?_;have hvc:=AH _ _ _ hv;have hxc:=AH _ _ _ hx;obtain⟨c0,c1,c2,c3,c4,c5,rfl⟩:=six hv.len;obtain⟨e0,e1,e2,e3,e4,e5,rfl⟩:=six hx.len;have n1:=RSl.Be hws;obtain⟨wa,wc,rfl⟩:=RSl.val hws;have hws0:RSl 1 Cb d (.slice wa ws.length wc) ws:=hws;show gwp P _ _ _ _ _;apply Ai;apply Ay;refine B9 d [emp] Vs.emp ?_;refine AO (l:=[c0,c1,c2,c3,c4,c5]) rfl (fun b3 T3=>?_);refine AO (l:=[e0,e1,e2,e3,e4,e5]) rfl (fun b5 T5=>?_);(refine AX (fun _ _=>Ab rfl<|Aa<|Ai<|Ac<|AD 2 rfl rfl rfl<|AD 1 rfl rfl rfl<|U0 rfl rfl<|Ab rfl<|Aa<|Av ?_));rename_i b6 T6;refine Bg (α:=Nat) (fun i=>[(1,.slice wa ws.length wc),(3,pZ b3),(5,pZ b5),(6,pZ b6),(17,.agg [c0,c1,c2,c3,c4,c5,e0,e1,e2,e3,e4,e5].toArray),(18,vZ i)])
  (fun i d' L'=>d'=d∧i≤2∧(1≤i→AS v=0)∧(2≤i→AS x=0)∧∃J,L'=bx b6 T6 A7::bx b5 T5 [e0,e1,e2,e3,e4,e5]::bx b3 T3 [c0,c1,c2,c3,c4,c5]::J) (fun i=>2 - i) 0
  ⟨rfl,rfl,rfl,rfl,rfl,rfl,trivial⟩ ⟨rfl,by omega,fun h=>by omega,fun h=>by omega,_,rfl⟩ ?_
 rintro i ρ d1 L' ⟨hdd,hi,hr1,hr2,J,hL⟩;subst hdd;subst hL;by_cases hi0:i=0
 ·subst hi0;clear hr1 hr2;(refine Ac<|Ax rfl rfl<|Aa<|Ai<|Au rfl (by omega)<|Am<|Ai<|Av<|Ac ?_);refine MT 0 rfl rfl rfl (by omega) (vs:=[c0,c1,c2,c3,c4,c5]) rfl ?_;(apply AX;intro _ _);rename_i b9 T9;refine Az 0 [c0,c1,c2,c3,c4,c5] rfl rfl rfl rfl (No rfl) hvc rfl ?_;(refine Aa<|Ac<|AD 0 rfl rfl rfl ?_);refine AF rfl (h1 ht hv) ?_;by_cases hr:AS v≠0
  ·rewrite [CJ,if_pos hr];(refine Ab rfl<|Aa<|Ac<|Ab rfl<|AG rfl rfl<|Aa<|Au rfl (by omega)<|Ac<|Bl<|Ab rfl ?_);refine Az 1 A7 rfl rfl rfl rfl (No rfl) rfl rfl ?_;(refine Ab rfl<|Aa<|Ar ?_);exact G0 [.agg A7.toArray,vZ (AS v)] ⟨A3 1 rfl rfl rfl,A4 rfl,trivial⟩ (d':=d1) (L':=[_]) DN ⟨Le.refl _,_,_,rfl,rfl,Cv.zero⟩
  ·refine B9 d1 (bx b6 T6 A7::bx b5 T5 [e0,e1,e2,e3,e4,e5]::bx b3 T3 [c0,c1,c2,c3,c4,c5]::J) (Vs.drop (.cons _ (ZS _))) ?_;(refine Ab rfl<|Aa<|Ac<|Ab rfl<|AG rfl rfl<|Aa<|Ao rfl (by omega)<|Am<|Ay<|AI rfl rfl (by omega) (by omega)<|Ab rfl<|Aa ?_);exact⟨1,by omega,⟨rfl,rfl,rfl,rfl,rfl,rfl,trivial⟩,rfl,by omega,fun _=>by omega,fun h=>by omega,_,rfl⟩
 by_cases hi1:i=1
 ·subst hi1;have hr:=hr1 (ZL _);clear hr1 hr2;(refine Ac<|Ax rfl rfl<|Aa<|Ai<|Au rfl (by omega)<|Am<|Ai<|Av<|Ac ?_);refine MT 1 rfl rfl rfl (by omega) (vs:=[e0,e1,e2,e3,e4,e5]) rfl ?_;(apply AX;intro _ _);rename_i b9 T9;refine Az 0 [e0,e1,e2,e3,e4,e5] rfl rfl rfl rfl (No rfl) hxc rfl ?_;(refine Aa<|Ac<|AD 0 rfl rfl rfl ?_);refine AF rfl (h1 ht hx) ?_;by_cases hrx:AS x≠0
  ·rewrite [CJ,if_neg (fun q=>q hr),if_pos hrx];(refine Ab rfl<|Aa<|Ac<|Ab rfl<|AG rfl rfl<|Aa<|Au rfl (by omega)<|Ac<|Bl<|Ab rfl ?_);refine Az 1 A7 rfl rfl rfl rfl (No rfl) rfl rfl ?_;(refine Ab rfl<|Aa<|Ar ?_);exact G0 [.agg A7.toArray,vZ (AS x)] ⟨A3 1 rfl rfl rfl,A4 rfl,trivial⟩ (d':=d1) (L':=[_]) DN ⟨Le.refl _,_,_,rfl,rfl,Cv.zero⟩
  ·refine B9 d1 (bx b6 T6 A7::bx b5 T5 [e0,e1,e2,e3,e4,e5]::bx b3 T3 [c0,c1,c2,c3,c4,c5]::J) (Vs.drop (.cons _ (ZS _))) ?_;(refine Ab rfl<|Aa<|Ac<|Ab rfl<|AG rfl rfl<|Aa<|Ao rfl (by omega)<|Am<|Ay<|AI rfl rfl (by omega) (by omega)<|Ab rfl<|Aa ?_);exact⟨2,by omega,⟨rfl,rfl,rfl,rfl,rfl,rfl,trivial⟩,rfl,by omega,fun _=>hr,fun h=>by omega,_,rfl⟩
 obtain rfl:i=2:=by omega
 have hrv:=hr1 (by omega);have hrx:=hr2 (by omega);clear hr1 hr2 hi0 hi1;rewrite [CJ,if_neg (fun q=>q hrv),if_neg (fun q=>q hrx)];(refine Ac<|Ax rfl rfl<|Aa<|Ai<|Ao rfl (by omega)<|AV<|Ai<|Ac<|As rfl<|AA rfl<|Ab rfl<|Aa<|Av ?_);refine Bg (α:=Nat) (fun i=>[(3,pZ b3),(5,pZ b5),(6,pZ b6),(28,.slice wa ws.length wc),(29,vZ ws.length),(30,vZ i)])
  (fun i d' L'=>Le d1 d'∧i≤ws.length∧∃v' a0 a1 a2 a3 a4 a5 J,Aw d' [a0,a1,a2,a3,a4,a5] v'∧Hc v' (ws.drop i) x∧GF v ws x=GF v' (ws.drop i) x∧L'=bx b6 T6 A7::bx b5 T5 [e0,e1,e2,e3,e4,e5]::bx b3 T3 [a0,a1,a2,a3,a4,a5]::J) (fun i=>ws.length - i) 0
  ⟨rfl,rfl,rfl,rfl,rfl,rfl,trivial⟩ ⟨Le.refl _,ZN _,v,c0,c1,c2,c3,c4,c5,J,hv,hB,rfl,rfl⟩ ?_
 rintro i ρ d2 L' ⟨hl2,hi,v',a0,a1,a2,a3,a4,a5,J',hv',hB',hpf,hL⟩;subst hL;have hws2:RSl 1 Cb d2 (.slice wa ws.length wc) ws:=RSl.mono (R:=Cb) DW hws0 hl2;have ht2:=hTm hl2 ht;have hx2:=hx.mono hl2;by_cases hc:i<ws.length
 ·rw[←Abo hc,GF] at hpf;rw[←Abo hc] at hB';obtain⟨hb1,hB2⟩:=hB';(refine Ac<|Ax rfl rfl<|Aa<|Ai<|Au rfl (by omega)<|Am<|Ai<|Av<|Ac ?_);refine AJ (sz:=1) (R:=Cb) rfl hws2 rfl rfl hc (fun bq oq csq hcq hDq ⟨u,hu,hw⟩=>?_);subst hu;obtain⟨ua,uc,rfl⟩:=RSl.val hw;have hwl:=hwb _ (ZC hc);(refine Ah rfl (A1 (by assumption) rfl)<|As rfl<|Aa<|Ac<|AD 2 rfl rfl rfl<|As rfl<|AD 1 rfl rfl rfl ?_);refine AR rfl (h2 ht2 hv' hw hx2 hb1 hcx hwl) (fun r d7 L7 hl7 ⟨hdd,cs',g,hr',hL,ho⟩=>?_);subst hdd;subst hL;subst hr';obtain⟨g0,g1,g2,g3,g4,g5,rfl⟩:=six ho.cells.1;refine BF (fun d8 hl8 hg8=>?_);have hR:=ho.Mj hg8;have hRc:=AH _ _ _ hR;clear hvc hxc ho;(refine Bj rfl<|AL rfl rfl<|AL rfl rfl<|AX (fun _ _=>?_));rename_i b13 T13;refine Az 0 [g0,g1,g2,g3,g4,g5] rfl rfl rfl rfl (No rfl) hRc rfl ?_;by_cases he:(CG v' ws[i] x).2≠0
  ·rw[if_pos he] at hpf;rewrite [hpf];(refine Ab rfl<|Aa<|Ai<|Ac<|Ab rfl<|AG rfl rfl<|Aa<|Au rfl (by omega)<|Ac<|Bl<|Ab rfl ?_);refine Az 1 A7 rfl rfl rfl rfl (No rfl) rfl rfl ?_;(refine Ab rfl<|Aa<|Ar ?_);exact G0 [.agg A7.toArray,vZ (CG v' ws[i] x).2] ⟨A3 1 rfl rfl rfl,A4 rfl,trivial⟩ (d':=d8) (L':=[_]) DN ⟨hl2.trans hl8,_,_,rfl,rfl,Cv.zero⟩
  ·rw[if_neg he] at hpf;(refine Ab rfl<|Aa<|Ai<|Ac<|Ab rfl<|AG rfl rfl<|Aa<|Ao rfl (by omega)<|Am<|Ay<|AD 0 rfl rfl rfl ?_);refine B9 d8 (bx b6 T6 A7::bx b5 T5 [e0,e1,e2,e3,e4,e5]::bx b3 T3 [a0,a1,a2,a3,a4,a5]::J') (Vs.drop (.cons _ (ZS _))) ?_;refine Az 2 [g0,g1,g2,g3,g4,g5] rfl rfl rfl rfl (No rfl) hRc rfl ?_;(refine Aa<|Ay<|AI rfl rfl (by omega) (by omega)<|Ab rfl<|Aa ?_);exact⟨i+1,by omega,⟨rfl,rfl,rfl,rfl,rfl,int_eq (by omega),trivial⟩,hl2.trans hl8,hc,_,g0,g1,g2,g3,g4,g5,J',hR,hB2,hpf,rfl⟩
 ·obtain rfl:i=ws.length:=by omega
  rw[Aag] at hpf hB';rw[show GF v' [] x=(v',0) from rfl] at hpf;rewrite [hpf];have hcn:=Ec v';have hb1:=hB'.txt;(refine Ac<|Ax rfl rfl<|Aa<|Ai<|Ao rfl (by omega)<|AV<|Ac<|AD 2 rfl rfl rfl ?_);refine AR rfl (h3 _ hv' (by omega)) (fun r d7 L7 hl7 ⟨hdd,cs',g,hr',hL,ho⟩=>?_);subst hdd;subst hL;subst hr';obtain⟨g0,g1,g2,g3,g4,g5,rfl⟩:=six ho.cells.1;refine Az 1 [g0,g1,g2,g3,g4,g5] rfl rfl rfl rfl (No rfl) ho.cells.2 rfl ?_;(refine Ab rfl<|Aa<|Ar ?_);exact G0 [.agg [g0,g1,g2,g3,g4,g5].toArray,vZ 0] ⟨A3 1 rfl rfl rfl,A4 rfl,trivial⟩ (d':=d7) (L':=[g]) (Vs.drop ((ZB _).cons_cons _)) ⟨hl2,_,_,rfl,rfl,ho⟩
end
end Go.Gk.Val
end
section
namespace Go.Gk.Val
open Go Go.Gk Go.Gk.Utf
attribute [local irreducible] gwp gws
def E3(v:V)(s:St):Int:=if s.kind=0 then(if s.text∈v.keys then(AZ v.keys s.text:Int) else -1) else Bm s.src v.list.length
def S7{v:V}{s:St}(hone:BW v=true)(k0:v.kind≠0)(hk:s.kind=0∧v.kind=6∨s.kind=1∧v.kind=5∨s.kind=2∧v.kind=5):
  ∃(w:V) (a b:Int),Bv v s=(w,0)∧(s.kind≠2→a=E3 v s∧b=a+1)∧(s.kind=2→a=(A5 s v.list.length).1∧b=(A5 s v.list.length).2)∧((a<0∨(v.list.length:Int)≤a)→w=v)∧
   (∀i j:Nat,a=i→b=j→i<v.list.length→i≤j∧j≤v.list.length∧w=.mk v.kind 0 0 [] (v.list.take i++v.list.drop j) (if s.kind=0 then v.keys.take i++v.keys.drop j else [])):=by
 rcases hk with ⟨hs,hv⟩|⟨hs,hv⟩|⟨hs,hv⟩
 ·have hl:=FT hone hv
  rw[Bv,if_neg k0,if_pos ⟨hs,hv⟩]
  refine⟨_,E3 v s,E3 v s+1,rfl,fun _=>⟨rfl,rfl⟩,fun h=>by omega,?_,?_⟩
  ·by_cases hm:s.text∈v.keys
   ·obtain⟨hlo,_⟩:=(mem_iff (DL hone)).1 hm
    intro h
    simp only[E3,if_pos hs,if_pos hm] at h
    omega
   ·intro _;rw[if_neg hm]
  ·intro i j hi hj hlt
   by_cases hm:s.text∈v.keys
   ·simp only[E3,if_pos hs,if_pos hm] at hi hj
    obtain rfl:i=AZ v.keys s.text:=by omega
    obtain rfl:j=AZ v.keys s.text+1:=by omega
    rw[if_pos hm,hv,if_pos hs,ZW,ZW]
    exact⟨by omega,by omega,rfl⟩
   ·simp only[E3,if_pos hs,if_neg hm] at hi
    omega
 ·rw[Bv,if_neg k0,if_neg (fun h=>by omega),if_pos ⟨hs,hv⟩]
  have e:E3 v s=Bm s.src v.list.length:=by rw[E3,if_neg (by omega)]
  refine⟨_,E3 v s,E3 v s+1,rfl,fun _=>⟨rfl,rfl⟩,fun h=>by omega,?_,?_⟩
  ·intro h
   rw[e] at h
   rw[if_pos h]
  ·intro i j hi hj hlt
   rw[e] at hi hj
   rw[if_neg (by omega),hi,hv,if_neg (by omega),Z2,ZW]
   obtain rfl:j=i+1:=by omega
   exact⟨by omega,by omega,rfl⟩
 ·rw[Bv,if_neg k0,if_neg (fun h=>by omega),if_neg (fun h=>by omega),if_pos ⟨hs,hv⟩]
  have he:=C8 s (k:=v.list.length) (by omega)
  refine⟨_,_,_,rfl,fun h=>by omega,fun _=>⟨rfl,rfl⟩,?_,?_⟩
  ·intro h
   have h1:(A5 s v.list.length).1=v.list.length:=by omega
   have h2:(A5 s v.list.length).2=v.list.length:=by omega
   rw[h1,h2,Z2,ZV,Aag,ZW,ZW]
   obtain⟨k,m,e,t,l,ks⟩:=v
   have hv:k=5:=hv
   subst hv
   simp[BW,Cf,V.kind,V.m,V.e,V.text,V.list,V.keys] at hone
   obtain⟨⟨⟨⟨⟨⟨rfl,rfl⟩,rfl⟩,rfl⟩,_⟩,_⟩,_⟩:=hone
   rfl
  ·intro i j hi hj hlt
   rw[hi,hj,Z2,Z2,ZW,hv,if_neg (by omega)]
   exact⟨by omega,by omega,rfl⟩
def Oe(P:Program)(f:FuncId):Prop:=∀{d cs ds}{v:V}{s:St},Aw d cs v→BW v=true→RSt d ds s→0≤s.kind→s.kind≤2→Cc v≤900000000→
 A8 P f [.agg cs.toArray,.agg ds.toArray] d [] (Ret fun r d' L'=>L'=[]∧∃cs',r=.tuple #[.agg cs'.toArray,vZ (Bv v s).2]∧Aw d' cs' (Bv v s).1)
def J3(a0 a1:Nat):A6:=⟨92,[(.cell 4 (some 6)),(.tmp 5)],(sR (o1 2 (.box 0)<|o1 3 (.box 1)<|o1 4 (.alo (.agg #[(vZ 0),(vZ 0),(vZ 0),(Al []),(.slice none 0 0),(.slice none 0 0)]))<|o1 5 (.mv z0) .done) (sR (o1 10 (.bld [(0,1),(1,1),(2,1)] [(vZ 0),(vZ 0),(vZ 0)] [(0,(kZ 6)),(1,(kZ 5)),(2,(kZ 5))])<|o1 6 (.alo (.agg #[(vZ 0),(vZ 0),(vZ 0)]))<|o0 (.st 3 6 10) .done) (.seq (sR (oj 11 0 2<|ol 12 11<|ob 13 .eql 12 z0 .done) (.cond 13 (sR (o1 14 (.ld (some 6) 2)<|o0 (.st 6 4 14)<|o1 5 (.mv z0) .done) .ret) .skip)) (.seq (.seq (.reg true (p1 15 (.fld 0 2)<|pl 16 15<|p1 17 (.fld 0 3)<|pl 18 17<|p1 19 (.idxa 3 1 6 18)<|pl 20 19<|p1 21 (.bin .neq 16 20) .done)) (.cond 21 (sR (o1 22 (.bld [(0,1),(1,2),(3,1),(4,1),(5,1)] [(vZ 0),(vZ 0),(vZ 0),(Al []),(.slice none 0 0),(.slice none 0 0)] [])<|o0 (.st 6 4 22)<|o1 5 (.mv (kZ 80)) .done) .ret) .skip)) (sR (oj 23 2 3<|ol 24 23<|om 7 24 .done) (.seq (sR (oj 25 0 3<|ol 26 25<|ob 27 .eql 26 z0 .done) (.cond 27 (rG (o1 28 (.ld (some 6) 2)<|oj 29 1 3<|ol 30 29<|oc 31 a0 [28,30]<|om 7 31 .done)) (sR (om 32 7<|ob 33 .lss 32 z0 .done) (.cond 33 (rG (om 34 7<|oj 35 4 2<|ol 36 35<|oL 37 36<|ob 38 .add 34 37<|om 7 38 .done)) .skip)))) (sR (om 39 7<|ob 40 .add 39 z1<|om 8 40 .done) (.seq (sR (oj 41 0 3<|ol 42 41<|ob 43 .eql 42 z2 .done) (.cond 43 (rG (o1 45 (.ld (some 6) 3)<|oj 46 4 2<|ol 47 46<|oL 48 47<|oc 49 a1 [45,48]<|om 44 49<|oe 50 44 0<|oe 51 44 1<|om 7 50<|om 8 51 .done)) .skip)) (.seq (sR (om 52 7<|ob 53 .lss 52 z0<|om 54 53<|gF 55 54 7<|oF 56 54 (.fld 4 2)<|oF 57 54 (.ld none 56)<|oF 58 54 (.len 57)<|oF 59 54 (.bin .geq 55 58)<|o1 60 (.pick 54 (.const (.bool true)) 59) .done) (.cond 60 (sR (o1 61 (.ld (some 6) 2)<|o0 (.st 6 4 61)<|o1 5 (.mv z0) .done) .ret) .skip)) (.seq (.reg true (p1 62 (.fld 0 2)<|pl 63 62<|p1 65 (.fld 4 2)<|pl 66 65<|pm 67 7<|p1 68 (.sl 6 66 none (some 67) none)<|p1 70 (.fld 4 2)<|pl 71 70<|pm 72 8<|p1 73 (.sl 6 71 (some 72) none none) (.par (o1 64 (.bsl 0 6 [(vZ 0),(vZ 0),(vZ 0),(Al []),(.slice none 0 0),(.slice none 0 0)] []) (o1 69 (.app 6 88 [(vZ 0),(vZ 0),(vZ 0),(Al []),(.slice none 0 0),(.slice none 0 0)] 64 68) (o1 74 (.app 6 88 [(vZ 0),(vZ 0),(vZ 0),(Al []),(.slice none 0 0),(.slice none 0 0)] 69 73) (p1 75 (.bld [(0,1),(1,2),(3,1),(4,1),(5,1)] [(vZ 0),(vZ 0),(vZ 0),(Al []),(.slice none 0 0),(.slice none 0 0)] [(0,63),(3,74)]) .done)))) (o1 9 (.alo (.agg #[(vZ 0),(vZ 0),(vZ 0),(Al []),(.slice none 0 0),(.slice none 0 0)])) .done) (.bar (o0 (.st 6 9 75) .done))))) (.seq (sR (oj 76 0 3<|ol 77 76<|ob 78 .eql 77 z0 .done) (.cond 78 (.reg true (p1 80 (.fld 5 2)<|pl 81 80<|pm 82 7<|p1 83 (.sl 1 81 none (some 82) none)<|p1 85 (.fld 5 2)<|pl 86 85<|pm 87 8<|p1 88 (.sl 1 86 (some 87) none none)<|o1 79 (.bsl 0 1 [(Al [])] [])<|o1 84 (.app 1 16 [(Al [])] 79 83)<|o1 89 (.app 1 16 [(Al [])] 84 88)<|p1 90 (.fld 5 9) (.bar (o0 (.st 1 90 89) .done)))) .skip)) (sR (o1 91 (.ld (some 6) 9)<|o0 (.st 6 4 91)<|o1 5 (.mv z0) .done) .ret))))))))))))⟩
set_option maxHeartbeats 2000000 in
def VB{P f f1 f2}(hd:I7 P f=some (J3 f1 f2))(h1:NB P f1)(h2:FB P f2):Oe P f:=by
 intro d cs ds v s hv hone hs hs0 hs2 hb;refine Bd hd (No rfl) ?_;have hr:=DL hone;have b1:=Ex (v:=v);have b2':=Gm (v:=v);have hs':=hs;obtain⟨hds,ik',it',is,id⟩:=hs';subst hds;have hv0:=hv;obtain⟨lv,kv,rfl,ik,im,ie,it,hl,hks⟩:=hv.open;obtain⟨la,lc,rfl⟩:=RSl.val hl;obtain⟨ka,kc,rfl⟩:=RSl.val hks;have n1:=RSl.Be hl;show gwp P _ _ _ _ _;apply Ai;apply Ay;refine AO (l:=[vZ v.kind,vZ v.m,vZ v.e,Al v.text,.slice la v.list.length lc,.slice ka v.keys.length kc]) rfl (fun b2 T2=>?_);refine AO (l:=[vZ s.kind,Al s.text,vZ s.src,vZ s.dst,.bool s.hf,.bool s.ht]) rfl (fun b3 T3=>?_);(refine AX (fun _ _=>Ab rfl<|Aa ?_));rename_i b4 T4;apply Ai;apply Ay;refine BN (cs:=[vZ 6,vZ 5,vZ 5]) rfl ?_;(apply AX;intro _ _);rename_i b6 T6;refine Az 0 [vZ 6,vZ 5,vZ 5] rfl rfl rfl rfl (No rfl) rfl rfl ?_;(apply Aa);by_cases k0:v.kind=0
 ·obtain⟨w,e,hF⟩:∃w e,Bv v s=(w,e):=⟨_,_,rfl⟩
  rw[hF];rw[Bv,if_pos k0] at hF;cases hF;(refine Ai<|Ac<|Af rfl<|Ah rfl (Aj 3 rfl rfl)<|Aq rfl rfl<|Aa<|Au rfl (by omega)<|Ac<|AD 3 rfl rfl rfl ?_);refine Az 1 [vZ v.kind,vZ v.m,vZ v.e,Al v.text,.slice la v.list.length lc,.slice ka v.keys.length kc] rfl rfl rfl rfl (No rfl) rfl rfl ?_;(refine Ab rfl<|Aa<|Ar ?_);exact Bh 1 rfl rfl rfl hv0
 have hk3:s.kind=0∨s.kind=1∨s.kind=2:=by omega
 (refine Ai<|Ac<|Af rfl<|Ah rfl (Aj 3 rfl rfl)<|Aq rfl rfl<|Aa<|Ao rfl (by omega) ?_);apply Am;refine Ct (fun ρ d' L'=>d'=d∧(s.kind=0∧v.kind=6∨s.kind=1∧v.kind=5∨s.kind=2∧v.kind=5)∧A9 ρ [(2,pZ b2),(3,pZ b3),(4,pZ b4)]∧L'=[bx b6 T6 [vZ 6,vZ 5,vZ 5],bx b4 T4 A7,bx b3 T3 [vZ s.kind,Al s.text,vZ s.src,vZ s.dst,.bool s.hf,.bool s.ht],bx b2 T2 [vZ v.kind,vZ v.m,vZ v.e,Al v.text,.slice la v.list.length lc,.slice ka v.keys.length kc]]) ?_ ?_
 ·have fin:∀{ρ},¬(s.kind=0∧v.kind=6)→¬(s.kind=1∧v.kind=5)→¬(s.kind=2∧v.kind=5)→ρ 4=pZ b4→ρ 5=vZ 80→
   Cs [.cell 4 (some 6),.tmp 5] (Ret fun r d' L'=>L'=[]∧∃cs',r=.tuple #[.agg cs'.toArray,vZ (Bv v s).2]∧Aw d' cs' (Bv v s).1) ρ d [bx b6 T6 [vZ 6,vZ 5,vZ 5],bx b4 T4 A7,bx b3 T3 [vZ s.kind,Al s.text,vZ s.src,vZ s.dst,.bool s.hf,.bool s.ht],bx b2 T2 [vZ v.kind,vZ v.m,vZ v.e,Al v.text,.slice la v.list.length lc,.slice ka v.keys.length kc]]:=by
   intro ρ q0 q1 q2 e4 e5
   rw[Bv,if_neg k0,if_neg q0,if_neg q1,if_neg q2]
   exact Bh 1 e4 rfl e5 Aw.zero
  rcases hk3 with s0|s1|s2
  ·by_cases v6:v.kind=6
   ·(refine Ai<|AT<|Af rfl<|Ah rfl (Aj 3 rfl rfl)<|Af rfl<|Ah rfl (Aj 2 rfl rfl) ?_);refine Ds 0 rfl rfl (by omega) (by omega) ?_;(refine Ah rfl (Aj 0 rfl rfl)<|AG rfl rfl<|AW<|Ao rfl (by omega)<|Am ?_);exact⟨rfl,.inl ⟨s0,v6⟩,⟨rfl,rfl,rfl,trivial⟩,rfl⟩
   ·(refine Ai<|AT<|Af rfl<|Ah rfl (Aj 3 rfl rfl)<|Af rfl<|Ah rfl (Aj 2 rfl rfl) ?_);refine Ds 0 rfl rfl (by omega) (by omega) ?_;(refine Ah rfl (Aj 0 rfl rfl)<|AG rfl rfl<|AW<|Au rfl (by omega)<|Ac<|Bl ?_);refine Az 1 A7 rfl rfl rfl rfl (No rfl) rfl rfl ?_;(refine Ab rfl<|Aa<|Ar ?_);exact fin (by omega) (by omega) (by omega) rfl rfl
  ·by_cases v6:v.kind=5
   ·(refine Ai<|AT<|Af rfl<|Ah rfl (Aj 3 rfl rfl)<|Af rfl<|Ah rfl (Aj 2 rfl rfl) ?_);refine Ds 1 rfl rfl (by omega) (by omega) ?_;(refine Ah rfl (Aj 0 rfl rfl)<|AG rfl rfl<|AW<|Ao rfl (by omega)<|Am ?_);exact⟨rfl,.inr (.inl ⟨s1,v6⟩),⟨rfl,rfl,rfl,trivial⟩,rfl⟩
   ·(refine Ai<|AT<|Af rfl<|Ah rfl (Aj 3 rfl rfl)<|Af rfl<|Ah rfl (Aj 2 rfl rfl) ?_);refine Ds 1 rfl rfl (by omega) (by omega) ?_;(refine Ah rfl (Aj 0 rfl rfl)<|AG rfl rfl<|AW<|Au rfl (by omega)<|Ac<|Bl ?_);refine Az 1 A7 rfl rfl rfl rfl (No rfl) rfl rfl ?_;(refine Ab rfl<|Aa<|Ar ?_);exact fin (by omega) (by omega) (by omega) rfl rfl
  ·by_cases v6:v.kind=5
   ·(refine Ai<|AT<|Af rfl<|Ah rfl (Aj 3 rfl rfl)<|Af rfl<|Ah rfl (Aj 2 rfl rfl) ?_);refine Ds 2 rfl rfl (by omega) (by omega) ?_;(refine Ah rfl (Aj 0 rfl rfl)<|AG rfl rfl<|AW<|Ao rfl (by omega)<|Am ?_);exact⟨rfl,.inr (.inr ⟨s2,v6⟩),⟨rfl,rfl,rfl,trivial⟩,rfl⟩
   ·(refine Ai<|AT<|Af rfl<|Ah rfl (Aj 3 rfl rfl)<|Af rfl<|Ah rfl (Aj 2 rfl rfl) ?_);refine Ds 2 rfl rfl (by omega) (by omega) ?_;(refine Ah rfl (Aj 0 rfl rfl)<|AG rfl rfl<|AW<|Au rfl (by omega)<|Ac<|Bl ?_);refine Az 1 A7 rfl rfl rfl rfl (No rfl) rfl rfl ?_;(refine Ab rfl<|Aa<|Ar ?_);exact fin (by omega) (by omega) (by omega) rfl rfl
 rintro ρ d' L' ⟨hdd,hk,hsl,hL⟩;subst hdd;subst hL;refine Bo _ hsl ?_;clear hsl;obtain⟨w,a,b,hF,hab,hab2,hout,hin⟩:=S7 hone k0 hk;rw[hF];have is1: -9223372036854775808≤s.src:=is.1;have is2:s.src≤9223372036854775807:=is.2;apply Ai;apply Ay;(refine Af rfl<|Ah rfl (Aj 2 rfl rfl)<|Ab rfl<|Aa ?_);refine Ct (fun ρ d2 L'=>d2=d'∧∃a':Int,(s.kind≠2→a'=a)∧A9 ρ [(2,pZ b2),(3,pZ b3),(4,pZ b4),(7,vZ a')]∧L'=[bx b6 T6 [vZ 6,vZ 5,vZ 5],bx b4 T4 A7,bx b3 T3 [vZ s.kind,Al s.text,vZ s.src,vZ s.dst,.bool s.hf,.bool s.ht],bx b2 T2 [vZ v.kind,vZ v.m,vZ v.e,Al v.text,.slice la v.list.length lc,.slice ka v.keys.length kc]]) ?_ ?_
 ·rcases hk3 with s0|s1|s2
  ·(refine Ac<|Af rfl<|Ah rfl (Aj 2 rfl rfl)<|Aq rfl rfl<|Aa<|Au rfl (by omega)<|Ay<|AD 3 rfl rfl rfl<|Af rfl<|Ah rfl (Aj 2 rfl rfl) ?_);refine AF rfl (h1 hv0 hr) ?_;(refine Ab rfl<|Aa ?_);exact⟨rfl,_,fun h=>by rw[(hab h).1,E3,if_pos s0],⟨rfl,rfl,rfl,rfl,trivial⟩,rfl⟩
  ·by_cases q:s.src<0
   ·(refine Ac<|Af rfl<|Ah rfl (Aj 2 rfl rfl)<|Aq rfl rfl<|Aa<|Ao rfl (by omega)<|Ac<|Ab rfl<|Ax rfl rfl<|Aa<|Au rfl (by omega)<|Ay<|Ab rfl<|Af rfl<|Ah rfl (Aj 3 rfl rfl)<|AA rfl<|AI rfl rfl (by omega) (by omega)<|Ab rfl<|Aa ?_);exact⟨rfl,_,fun h=>by rw[(hab h).1,E3,if_neg (by omega),Bm,if_pos q],⟨rfl,rfl,rfl,rfl,trivial⟩,rfl⟩
   ·(refine Ac<|Af rfl<|Ah rfl (Aj 2 rfl rfl)<|Aq rfl rfl<|Aa<|Ao rfl (by omega)<|Ac<|Ab rfl<|Ax rfl rfl<|Aa<|Ao rfl (by omega)<|Am ?_);exact⟨rfl,_,fun h=>by rw[(hab h).1,E3,if_neg (by omega),Bm,if_neg q],⟨rfl,rfl,rfl,rfl,trivial⟩,rfl⟩
  ·by_cases q:s.src<0
   ·(refine Ac<|Af rfl<|Ah rfl (Aj 2 rfl rfl)<|Aq rfl rfl<|Aa<|Ao rfl (by omega)<|Ac<|Ab rfl<|Ax rfl rfl<|Aa<|Au rfl (by omega)<|Ay<|Ab rfl<|Af rfl<|Ah rfl (Aj 3 rfl rfl)<|AA rfl<|AI rfl rfl (by omega) (by omega)<|Ab rfl<|Aa ?_);exact⟨rfl,_,fun h=>absurd s2 h,⟨rfl,rfl,rfl,rfl,trivial⟩,rfl⟩
   ·(refine Ac<|Af rfl<|Ah rfl (Aj 2 rfl rfl)<|Aq rfl rfl<|Aa<|Ao rfl (by omega)<|Ac<|Ab rfl<|Ax rfl rfl<|Aa<|Ao rfl (by omega)<|Am ?_);exact⟨rfl,_,fun h=>absurd s2 h,⟨rfl,rfl,rfl,rfl,trivial⟩,rfl⟩
 rintro ρ d2 L' ⟨hdd,a',ha',hsl,hL⟩;subst hdd;subst hL;refine Bo _ hsl ?_;clear hsl;apply Ai;apply Ay;(apply Ab;rfl);refine YM rfl rfl (fun u hu=>?_);(refine Ab rfl<|Aa ?_);refine Ct (fun ρ d' L'=>d'=d2∧∃b':Int,(a<v.list.length→b'=b)∧A9 ρ [(2,pZ b2),(3,pZ b3),(4,pZ b4),(7,vZ a),(8,vZ b')]∧L'=[bx b6 T6 [vZ 6,vZ 5,vZ 5],bx b4 T4 A7,bx b3 T3 [vZ s.kind,Al s.text,vZ s.src,vZ s.dst,.bool s.hf,.bool s.ht],bx b2 T2 [vZ v.kind,vZ v.m,vZ v.e,Al v.text,.slice la v.list.length lc,.slice ka v.keys.length kc]]) ?_ ?_
 ·by_cases s2:s.kind=2
  ·have hends:=C8 s (k:=v.list.length) (by omega);(refine Ac<|Af rfl<|Ah rfl (Aj 2 rfl rfl)<|Aq rfl rfl<|Aa<|Au rfl (by omega)<|Ay<|AD 2 rfl rfl rfl<|Af rfl<|Ah rfl (Aj 3 rfl rfl)<|AA rfl ?_);refine AF rfl (h2 hs (by omega) (by omega)) ?_;(refine Bj rfl<|AL rfl rfl<|AL rfl rfl<|Ab rfl<|Ab rfl<|Aa ?_);exact⟨rfl,_,fun _=>(hab2 s2).2.symm,⟨rfl,rfl,rfl,int_eq (hab2 s2).1.symm,rfl,trivial⟩,rfl⟩
  ·obtain rfl:=ha' s2;have hu':a'<v.list.length→u=b:=fun h=>by
    have:=(hab s2)
    rw[this.2];refine hu ?_ (by omega);rw[this.1,E3];split
    ·split<;>omega
    ·rw[Bm];split<;>omega
   (refine Ac<|Af rfl<|Ah rfl (Aj 2 rfl rfl)<|Aq rfl rfl<|Aa<|Ao rfl (by omega)<|Am ?_);exact⟨rfl,_,hu',⟨rfl,rfl,rfl,rfl,rfl,trivial⟩,rfl⟩
 rintro ρ d' L' ⟨hdd,b',hb',hsl,hL⟩;subst hdd;subst hL;refine Bo _ hsl ?_;clear hsl ha' hu u a';by_cases q0:a<0
 ·rw[hout (.inl q0)];(refine Ai<|Ac<|Ab rfl<|Ax rfl rfl<|Ad rfl<|AE rfl (by omega)<|Ak rfl<|Ak rfl<|Ak rfl<|Ak rfl<|Ak rfl<|Ap rfl rfl<|Aa<|Bb rfl<|Ac<|AD 3 rfl rfl rfl ?_);refine Az 1 [vZ v.kind,vZ v.m,vZ v.e,Al v.text,.slice la v.list.length lc,.slice ka v.keys.length kc] rfl rfl rfl rfl (No rfl) rfl rfl ?_;(refine Ab rfl<|Aa<|Ar ?_);exact Bh 1 rfl rfl rfl hv0
 by_cases q1:(v.list.length:Int)≤a
 ·rw[hout (.inr q1)];(refine Ai<|Ac<|Ab rfl<|Ax rfl rfl<|Ad rfl<|AB rfl (by omega)<|Ae rfl<|Ab rfl<|Ae rfl<|Af rfl<|Ae rfl<|Ah rfl (Aj 3 rfl rfl)<|Ae rfl<|AA rfl<|Ae rfl<|B5 rfl rfl<|An rfl rfl<|Aa<|Au rfl (by omega)<|Ac<|AD 3 rfl rfl rfl ?_);refine Az 1 [vZ v.kind,vZ v.m,vZ v.e,Al v.text,.slice la v.list.length lc,.slice ka v.keys.length kc] rfl rfl rfl rfl (No rfl) rfl rfl ?_;(refine Ab rfl<|Aa<|Ar ?_);exact Bh 1 rfl rfl rfl hv0
 obtain rfl:=hb' (by omega);have hab3:a≤b'∧0≤b':=by
  by_cases s2:s.kind=2
  ·have:=C8 s (k:=v.list.length) (by omega);have:=hab2 s2;omega
  ·have:=hab s2;omega
 obtain⟨i,rfl⟩:∃i:Nat,a=(i:Int):=⟨a.toNat,by omega⟩
 obtain⟨j,rfl⟩:∃j:Nat,b'=(j:Int):=⟨b'.toNat,by omega⟩
 obtain⟨hij,hj,rfl⟩:=hin i j rfl rfl (by omega);clear hout hin hb';(refine Ai<|Ac<|Ab rfl<|Ax rfl rfl<|Ad rfl<|AB rfl (by omega)<|Ae rfl<|Ab rfl<|Ae rfl<|Af rfl<|Ae rfl<|Ah rfl (Aj 3 rfl rfl)<|Ae rfl<|AA rfl<|Ae rfl<|B5 rfl rfl<|An rfl rfl<|Aa<|Ao rfl (by omega)<|Am<|Ai ?_);refine AT ?_;(refine Af rfl<|Ah rfl (Aj 3 rfl rfl)<|Af rfl<|Ah rfl (Aj 3 rfl rfl)<|Ab rfl ?_);refine GO (n:=i) rfl hl rfl rfl (by omega) (fun v68 r68=>?_);(refine Af rfl<|Ah rfl (Aj 3 rfl rfl)<|Ab rfl ?_);refine DF (n:=j) rfl hl rfl rfl (by omega) (fun v73 r73=>?_);refine F8 (α:=Option Addr×Nat) (β:=Nat×TypeId) [(2,pZ b2),(3,pZ b3),(4,pZ b4),(7,vZ i),(8,vZ j)] (fun x=>[(75,.agg [vZ v.kind,vZ 0,vZ 0,Al [],.slice x.1 (v.list.take i++v.list.drop j).length x.2,.slice none 0 0].toArray)])
  (fun x d L=>BL d (.slice x.1 (v.list.take i++v.list.drop j).length x.2) (v.list.take i++v.list.drop j)∧L=[]) (fun y=>[(9,.pointer (some ⟨y.1,0,none⟩))]) (fun y d L=>L=[bx y.1 y.2 A7]) [] [] rfl
  (fun x d d' M hl h=>⟨BL.mono h.1 hl,h.2⟩) (fun y d d' M hl h=>h) (fun x=>rfl) (fun y=>rfl) rfl ⟨rfl,rfl,rfl,rfl,rfl,trivial⟩ ?_ ?_ ?_
 ·refine UT (R:=Aw) (xs:=v.list.take i) (ys:=v.list.drop j) B8 AH (by omega) rfl r68 r73 (fun _=>rfl) (fun _ _=>rfl) (by simp;omega) (by simp;omega) (fun v0 v1 a c d3 hl3 hr3=>?_);refine DR rfl rfl ?_;refine AW ?_;exact⟨[],rfl,(a,c),⟨rfl,trivial⟩,hr3,rfl⟩
 ·(refine AX (fun _ _=>AW ?_));exact⟨_,rfl,(_,_),⟨rfl,trivial⟩,rfl⟩
 rintro⟨ra,rc⟩ ⟨b9,T9⟩ ρ d3 M1 M2 hl3 ⟨hr3,hM1⟩ hM2;subst hM1;subst hM2;(apply Bt);refine Az 4 [vZ v.kind,vZ 0,vZ 0,Al [],.slice ra (v.list.take i++v.list.drop j).length rc,.slice none 0 0] rfl rfl rfl rfl (No rfl) rfl rfl ?_;have hks3:RSl 1 A2 d3 (.slice ka v.keys.length kc) v.keys:=BK.mono hks hl3;by_cases s0:s.kind=0
 ·rw[if_pos s0];have hlens:=FT hone (by omega);(refine Aa<|Ai<|Ac<|Af rfl<|Ah rfl (Aj 2 rfl rfl)<|Aq rfl rfl<|Aa<|Au rfl (by omega) ?_);refine AT ?_;(refine Af rfl<|Ah rfl (Aj 3 rfl rfl)<|Ab rfl ?_);refine GO (n:=i) rfl hks3 rfl rfl (by omega) (fun v83 r83=>?_);(refine Af rfl<|Ah rfl (Aj 3 rfl rfl)<|Ab rfl ?_);refine DF (n:=j) rfl hks3 rfl rfl (by omega) (fun v88 r88=>?_);refine UT (R:=A2) (xs:=v.keys.take i) (ys:=v.keys.drop j) Dl CQ (by omega) rfl r83 r88 (fun _=>rfl) (fun _ _=>rfl) (by simp;omega) (by simp;omega) (fun v0 v1 a c d4 hl4 hr4=>?_);(refine Af rfl<|Bt ?_);refine Az 4 [vZ v.kind,vZ 0,vZ 0,Al [],.slice ra (v.list.take i++v.list.drop j).length rc,.slice a (v.keys.take i++v.keys.drop j).length c] rfl rfl rfl rfl (No rfl) rfl rfl ?_;(refine Aa<|Ac<|AD 4 rfl rfl rfl ?_);refine Az 1 [vZ v.kind,vZ 0,vZ 0,Al [],.slice ra (v.list.take i++v.list.drop j).length rc,.slice a (v.keys.take i++v.keys.drop j).length c] rfl rfl rfl rfl (No rfl) rfl rfl ?_;(refine Ab rfl<|Aa<|Ar ?_);exact Bh 1 rfl rfl rfl (Aw.close (v:=.mk v.kind 0 0 [] (v.list.take i++v.list.drop j) (v.keys.take i++v.keys.drop j)) ik Ba Ba (by simp) (BL.mono hr3 hl4) hr4)
 ·rw[if_neg s0];(refine Aa<|Ai<|Ac<|Af rfl<|Ah rfl (Aj 2 rfl rfl)<|Aq rfl rfl<|Aa<|Ao rfl (by omega)<|Am<|Ac<|AD 4 rfl rfl rfl ?_);refine Az 1 [vZ v.kind,vZ 0,vZ 0,Al [],.slice ra (v.list.take i++v.list.drop j).length rc,.slice none 0 0] rfl rfl rfl rfl (No rfl) rfl rfl ?_;(refine Ab rfl<|Aa<|Ar ?_);exact Bh 1 rfl rfl rfl (Aw.close (v:=.mk v.kind 0 0 [] (v.list.take i++v.list.drop j) []) ik Ba Ba (by simp) hr3 RSl.nil)
def Rp(T:Ag→Prop)(P:Program)(f:FuncId):Prop:=∀{d w1 w2 ks}{l:List V},T d→BK d w1 ks→BL d w2 l→ks.length=l.length→(∀k∈ks,u8 k=true)→(∀x∈l,AS x=0)→ks.length≤1000000000→
 Bc (.mk 6 0 0 [] (CK ks l ks.length).2 (CK ks l ks.length).1)≤48→
 A8 P f [w1,w2] d [] (Ret fun r d' L'=>∃a c qa qc h,L'=[h]∧r=.tuple #[.agg [vZ 6,vZ 0,vZ 0,Al [],.slice a (CK ks l ks.length).2.length c,.slice qa (CK ks l ks.length).1.length qc].toArray,vZ 0]∧
  AN 6 Aw d' (.slice a (CK ks l ks.length).2.length c) (CK ks l ks.length).2 h∧RSl 1 A2 d' (.slice qa (CK ks l ks.length).1.length qc) (CK ks l ks.length).1)
def J4(a0 a1 a2:Nat):A6:=⟨131,[(.cell 4 (some 6)),(.tmp 5)],(sR (o1 4 (.alo (.agg #[(vZ 0),(vZ 0),(vZ 0),(Al []),(.slice none 0 0),(.slice none 0 0)]))<|o1 5 (.mv z0) .done) (.seq (sR (om 11 0<|oL 12 11<|om 13 1<|oL 14 13<|ob 15 .neq 12 14 .done) (.cond 15 (sR (o1 16 (.bld [(0,1),(1,2),(3,1),(4,1),(5,1)] [(vZ 0),(vZ 0),(vZ 0),(Al []),(.slice none 0 0),(.slice none 0 0)] [])<|o0 (.st 6 4 16)<|o1 5 (.mv z2) .done) .ret) .skip)) (.seq (sR (o1 6 (.mv z0) .done) (.block 0 (.loop (.seq (sR (om 17 6<|om 18 0<|oL 19 18<|ob 20 .lss 17 19 .done) (.cond 20 .skip (.exit 0))) (.seq (.block 1 (sR (om 23 0<|om 24 6<|oI 25 1 23 24<|ol 26 25<|oc 27 a0 [26]<|o1 28 (.un .not 27) .done) (.cond 28 (sR (o1 29 (.bld [(0,1),(1,2),(3,1),(4,1),(5,1)] [(vZ 0),(vZ 0),(vZ 0),(Al []),(.slice none 0 0),(.slice none 0 0)] [])<|o0 (.st 6 4 29)<|o1 5 (.mv (kZ 30)) .done) .ret) .skip))) (rG (om 21 6<|ob 22 .add 21 z1<|om 6 22 .done))))))) (sR (o1 30 (.bld [(0,1),(1,2),(3,1),(4,1),(5,1)] [(vZ 0),(vZ 0),(vZ 0),(Al []),(.slice none 0 0),(.slice none 0 0)] [(0,(kZ 6))])<|o1 7 (.alo (.agg #[(vZ 0),(vZ 0),(vZ 0),(Al []),(.slice none 0 0),(.slice none 0 0)]))<|o0 (.st 6 7 30) .done) (.seq (sR (o1 8 (.mv z0) .done) (.block 2 (.loop (.seq (sR (om 31 8<|om 32 0<|oL 33 32<|ob 34 .lss 31 33 .done) (.cond 34 .skip (.exit 2))) (.seq (.block 3 (sR (om 37 1<|om 38 8<|oI 39 6 37 38<|o1 40 (.ld (some 6) 39)<|oc 41 a1 [40]<|om 9 41 .done) (.seq (sR (om 42 9<|ob 43 .neq 42 z0 .done) (.cond 43 (sR (o1 44 (.bld [(0,1),(1,2),(3,1),(4,1),(5,1)] [(vZ 0),(vZ 0),(vZ 0),(Al []),(.slice none 0 0),(.slice none 0 0)] [])<|om 45 9<|o0 (.st 6 4 44)<|om 5 45 .done) .ret) .skip)) (sR (o1 10 (.mv z0) .done) (.seq (.block 4 (.loop (.seq (.seq (.reg true (pm 46 10<|p1 47 (.fld 5 7)<|pl 48 47<|p1 49 (.len 48)<|p1 50 (.bin .lss 46 49)<|pm 51 50 (.op true ⟨(some 52),(some (51,true)),(.fld 5 7)⟩ (.op true ⟨(some 53),(some (51,true)),(.ld none 52)⟩ (.op true ⟨(some 54),(some (51,true)),(.mv 10)⟩ (.op true ⟨(some 55),(some (51,true)),(.idx 1 53 54)⟩ (.op true ⟨(some 56),(some (51,true)),(.ld none 55)⟩ (.op true ⟨(some 57),(some (51,true)),(.mv 0)⟩ (.op true ⟨(some 58),(some (51,true)),(.mv 8)⟩ (.op true ⟨(some 59),(some (51,true)),(.idx 1 57 58)⟩ (.op true ⟨(some 60),(some (51,true)),(.ld none 59)⟩ (.op true ⟨(some 61),(some (51,true)),(.bin .lss 56 60)⟩ (p1 62 (.pick 51 61 (.const (.bool false))) .done))))))))))))) (.cond 62 .skip (.exit 4))) (.block 5 (rG (om 63 10<|ob 64 .add 63 z1<|om 10 64 .done)))))) (.seq (.seq (.reg true (pm 65 10<|p1 66 (.fld 5 7)<|pl 67 66<|p1 68 (.len 67)<|p1 69 (.bin .eql 65 68)<|pm 70 69 (.op true ⟨(some 71),(some (70,false)),(.fld 5 7)⟩ (.op true ⟨(some 72),(some (70,false)),(.ld none 71)⟩ (.op true ⟨(some 73),(some (70,false)),(.mv 10)⟩ (.op true ⟨(some 74),(some (70,false)),(.idx 1 72 73)⟩ (.op true ⟨(some 75),(some (70,false)),(.ld none 74)⟩ (.op true ⟨(some 76),(some (70,false)),(.mv 0)⟩ (.op true ⟨(some 77),(some (70,false)),(.mv 8)⟩ (.op true ⟨(some 78),(some (70,false)),(.idx 1 76 77)⟩ (.op true ⟨(some 79),(some (70,false)),(.ld none 78)⟩ (.op true ⟨(some 80),(some (70,false)),(.bin .neq 75 79)⟩ (p1 81 (.pick 70 (.const (.bool true)) 80) .done))))))))))))) (.cond 81 (.seq (.reg true (p1 83 (.fld 5 7)<|pl 84 83<|pm 85 10<|p1 86 (.sl 1 84 none (some 85) none)<|pm 88 0<|pm 89 8<|p1 90 (.idx 1 88 89)<|pl 91 90<|p1 94 (.fld 5 7)<|pl 95 94<|pm 96 10<|p1 97 (.sl 1 95 (some 96) none none) (.par (o1 92 (.bsl 1 1 [(Al [])] [(0,91)]) .done) (o1 82 (.bsl 0 1 [(Al [])] []) (o1 87 (.app 1 16 [(Al [])] 82 86) .done)) (o1 93 (.app 1 16 [(Al [])] 87 92) (o1 98 (.app 1 16 [(Al [])] 93 97) (p1 99 (.fld 5 7) (.bar (o0 (.st 1 99 98) .done)))))))) (.reg true (p1 101 (.fld 4 7)<|pl 102 101<|pm 103 10<|p1 104 (.sl 6 102 none (some 103) none)<|pm 106 1<|pm 107 8<|p1 108 (.idx 6 106 107)<|p1 109 (.ld (some 6) 108)<|p1 112 (.fld 4 7)<|pl 113 112<|pm 114 10<|p1 115 (.sl 6 113 (some 114) none none) (.par (o1 110 (.bsl 1 6 [(vZ 0),(vZ 0),(vZ 0),(Al []),(.slice none 0 0),(.slice none 0 0)] [(0,109)]) .done) (o1 100 (.bsl 0 6 [(vZ 0),(vZ 0),(vZ 0),(Al []),(.slice none 0 0),(.slice none 0 0)] []) (o1 105 (.app 6 88 [(vZ 0),(vZ 0),(vZ 0),(Al []),(.slice none 0 0),(.slice none 0 0)] 100 104) .done)) (o1 111 (.app 6 88 [(vZ 0),(vZ 0),(vZ 0),(Al []),(.slice none 0 0),(.slice none 0 0)] 105 110) (o1 116 (.app 6 88 [(vZ 0),(vZ 0),(vZ 0),(Al []),(.slice none 0 0),(.slice none 0 0)] 111 115) (p1 117 (.fld 4 7) (.bar (o0 (.st 1 117 116) .done))))))))) .skip)) (.reg true (p1 118 (.fld 4 7)<|pl 119 118<|pm 120 10<|pm 121 1<|pm 122 8<|p1 123 (.idx 6 121 122)<|p1 124 (.ld (some 6) 123)<|p1 125 (.idx 6 119 120) (.bar (o0 (.st 6 125 124) .done)))))))))) (rG (om 35 8<|ob 36 .add 35 z1<|om 8 36 .done))))))) (.seq (sR (o1 126 (.ld (some 6) 7)<|oc 127 a2 [126]<|ob 128 .gtr 127 (kZ 48) .done) (.cond 128 (sR (o1 129 (.bld [(0,1),(1,2),(3,1),(4,1),(5,1)] [(vZ 0),(vZ 0),(vZ 0),(Al []),(.slice none 0 0),(.slice none 0 0)] [])<|o0 (.st 6 4 129)<|o1 5 (.mv (kZ 31)) .done) .ret) .skip)) (sR (o1 130 (.ld (some 6) 7)<|o0 (.st 6 4 130)<|o1 5 (.mv z0) .done) .ret)))))))⟩
set_option maxHeartbeats 4000000 in
def X3{T:Ag→Prop}(hTm:∀{d d'},T d→Le d d'→T d'){P f f1 f2 f3}(hd:I7 P f=some (J4 f1 f2 f3))(h1:DP T P f1)(h2:EW T P f2)(h3:Gt P f3):Rp T P f:=by
 intro d w1 w2 ks l ht hks hl hlen hu hrt hb hdep;refine Bd hd (No rfl) ?_;obtain⟨ka,kc,rfl⟩:=RSl.val hks;obtain⟨la,lc,rfl⟩:=RSl.val hl;have hks0:RSl 1 A2 d (.slice ka ks.length kc) ks:=hks;have hl0:RSl 6 Aw d (.slice la l.length lc) l:=hl;have hk0:(ks.length:Int)=l.length:=by omega
 have hright:∀x∈l,Bc x≤1000000000:=fun x hx=>by
  have:=hrt x hx;unfold AS at this;split at this
  ·omega
  ·cases this
 show gwp P _ _ _ _ _;(refine Ac<|AX (fun _ _=>Ab rfl<|Aa<|Ai<|Ac<|As rfl<|AA rfl<|As rfl<|AA rfl<|AG rfl rfl<|Aa<|Ao rfl (by omega)<|Am<|Ai<|Ac<|Ab rfl<|Aa<|Av ?_));rename_i b4 T4;refine CD (α:=Nat) (fun i=>[(0,.slice ka ks.length kc),(1,.slice la l.length lc),(4,pZ b4),(6,vZ i)]) (fun _=>[bx b4 T4 A7])
  (fun i=>i≤ks.length) (fun i=>ks.length - i) 0 ⟨rfl,rfl,rfl,rfl,trivial⟩ rfl (ZN _) ?_
 rintro i ρ hi;by_cases hc:i<ks.length
 ·(refine Ai<|Ac<|Ab rfl<|As rfl<|AA rfl<|Ax rfl rfl<|Aa<|Au rfl (by omega)<|Am<|Ai<|Av<|Ac<|As rfl<|Ab rfl<|AJ (sz:=1) (R:=A2) (by rfl) (by assumption) (by rfl) rfl (by omega) ?_;rintro _ _ _ _ _ ⟨rfl,_⟩;apply Ah;rfl;exact A1 (by assumption) rfl);refine AF rfl (h1 ht (by assumption)) ?_;rw[hu _ (ZC hc)];(refine Bi rfl<|Aa<|AK rfl<|Am<|Ay<|Ab rfl<|AI rfl rfl (by omega) (by omega)<|Ab rfl<|Aa ?_);exact⟨i+1,by omega,⟨rfl,rfl,rfl,int_eq (by omega),trivial⟩,rfl,rfl,hc⟩
 obtain rfl:i=ks.length:=by omega
 (refine Ai<|Ac<|Ab rfl<|As rfl<|AA rfl<|Ax rfl rfl<|Aa<|Ao rfl (by omega)<|AV<|Ac<|NJ rfl<|AX (fun _ _=>?_));rename_i b7 T7;refine B9 d [bx b7 T7 A7,bx b4 T4 A7,emp] (Vs.emp.trans (Vs.pick [1,2,0] rfl)) ?_;refine Az 0 [vZ 6,vZ 0,vZ 0,Al [],.slice none 0 0,.slice none 0 0] rfl rfl rfl rfl (No rfl) rfl rfl ?_;(refine Aa<|Ai<|Ac<|Ab rfl<|Aa<|Av ?_);refine Bg (α:=Nat) (fun i=>[(0,.slice ka ks.length kc),(1,.slice la l.length lc),(4,pZ b4),(7,pZ b7),(8,vZ i)])
  (fun i d' L'=>Le d d'∧i≤ks.length∧∃ra rc qa qc h,RSl 1 A2 d' (.slice qa (CK ks l i).1.length qc) (CK ks l i).1∧AN 6 Aw d' (.slice ra (CK ks l i).2.length rc) (CK ks l i).2 h∧
   L'=[bx b7 T7 [vZ 6,vZ 0,vZ 0,Al [],.slice ra (CK ks l i).2.length rc,.slice qa (CK ks l i).1.length qc],bx b4 T4 A7,h])
  (fun i=>ks.length - i) 0 ⟨rfl,rfl,rfl,rfl,rfl,trivial⟩ ⟨Le.refl _,ZN _,none,0,none,0,emp,RSl.nil,AN.nil,rfl⟩ ?_
 rintro i ρ d1 L' ⟨hl1,hi,ra,rc,qa,qc,h,hok,hol,hL⟩;subst hL;have hks1:RSl 1 A2 d1 (.slice ka ks.length kc) ks:=BK.mono hks hl1;have hlv1:RSl 6 Aw d1 (.slice la l.length lc) l:=BL.mono hl hl1;have hml:=Mk ks l i;obtain⟨oks,ol,hM⟩:∃oks ol,CK ks l i=(oks,ol):=⟨_,_,rfl⟩
 rw[hM] at hok hol hml⊢;simp only at hok hol hml⊢;by_cases hc:i<ks.length
 ·have hcl:i<l.length:=by omega
  have hM1:CK ks l (i+1)=Fx (oks,ol) ks[i] l[i]:=by rw[CK,hM];simp[Acd,hc,hcl]
  have hlow:=Fp oks ks[i];(refine Ai<|Ac<|Ab rfl<|As rfl<|AA rfl<|Ax rfl rfl<|Aa<|Au rfl (by omega)<|Am<|Ai<|Av<|Ac<|As rfl<|Ab rfl<|AJ (sz:=6) (R:=Aw) (by rfl) (by assumption) (by rfl) rfl (by omega) ?_;rintro _ _ _ _ _ _;apply BE;rfl;assumption;assumption);rename_i hcs hD hR;refine AF rfl (h2 (hTm ht hl1) hR (hright _ (ZC hcl))) ?_;rw[hrt _ (ZC hcl)];(refine Ab rfl<|Aa<|Ai<|Ac<|Ab rfl<|AG rfl rfl<|Aa<|Ao rfl (by omega) ?_);apply Am;apply Ai;apply Ay;(refine Ab rfl<|Aa ?_);refine Ct (fun ρ d' L'=>d'=d1∧A9 ρ [(0,.slice ka ks.length kc),(1,.slice la l.length lc),(4,pZ b4),(7,pZ b7),(8,vZ i),(10,vZ (AZ oks ks[i]:Nat))]∧L'=[bx b7 T7 [vZ 6,vZ 0,vZ 0,Al [],.slice ra ol.length rc,.slice qa oks.length qc],bx b4 T4 A7,h]) ?_ ?_
  ·apply Av;refine CD (α:=Nat) (fun j=>[(0,.slice ka ks.length kc),(1,.slice la l.length lc),(4,pZ b4),(7,pZ b7),(8,vZ i),(10,vZ j)]) (fun _=>[bx b7 T7 [vZ 6,vZ 0,vZ 0,Al [],.slice ra ol.length rc,.slice qa oks.length qc],bx b4 T4 A7,h]) (fun j=>j≤AZ oks ks[i]) (fun j=>oks.length - j) 0 ⟨rfl,rfl,rfl,rfl,rfl,rfl,trivial⟩ rfl (ZN _) ?_;rintro j ρ hj;by_cases hjl:j<oks.length
   ·by_cases hjk:j<AZ oks ks[i]
    ·have hbl:=QU hjk hjl;(refine Ai<|Ai<|AT<|Ab rfl<|Af rfl<|Ah rfl (Aj 0 rfl rfl)<|AA rfl<|Ax rfl rfl<|Ad rfl<|AE rfl (by omega)<|Ae rfl<|Af rfl<|Ae rfl<|Ah rfl (Aj 0 rfl rfl)<|Ae rfl<|Ab rfl<|Ae rfl<|AJ (sz:=1) (R:=A2) (by rfl) (by assumption) (by rfl) rfl (by omega) ?_;rintro _ _ _ _ _ ⟨rfl,_⟩;refine Ae rfl<|Ah rfl (A1 (by assumption) rfl)<|Ae rfl<|As rfl<|Ae rfl<|Ab rfl<|Ae rfl<|AJ (sz:=1) (R:=A2) (by rfl) (by assumption) (by rfl) rfl (by omega) ?_;rintro _ _ _ _ _ ⟨rfl,_⟩;refine Ae rfl<|Ah rfl (A1 (by assumption) rfl)<|Ae rfl<|Lf rfl rfl<|Ap rfl rfl<|AW ?_;apply E9;rfl;(with_reducible assumption);refine Am<|Av<|Ay<|Ab rfl<|AI rfl rfl (by omega) (by omega)<|Ab rfl<|Aa ?_);exact⟨j+1,by omega,⟨rfl,rfl,rfl,rfl,rfl,int_eq (by omega),trivial⟩,rfl,rfl,hjk⟩
    ·obtain rfl:j=AZ oks ks[i]:=by omega
     have hbl:=QJ hjl;(refine Ai<|Ai<|AT<|Ab rfl<|Af rfl<|Ah rfl (Aj 0 rfl rfl)<|AA rfl<|Ax rfl rfl<|Ad rfl<|AE rfl (by omega)<|Ae rfl<|Af rfl<|Ae rfl<|Ah rfl (Aj 0 rfl rfl)<|Ae rfl<|Ab rfl<|Ae rfl<|AJ (sz:=1) (R:=A2) (by rfl) (by assumption) (by rfl) rfl (by omega) ?_;rintro _ _ _ _ _ ⟨rfl,_⟩;refine Ae rfl<|Ah rfl (A1 (by assumption) rfl)<|Ae rfl<|As rfl<|Ae rfl<|Ab rfl<|Ae rfl<|AJ (sz:=1) (R:=A2) (by rfl) (by assumption) (by rfl) rfl (by omega) ?_;rintro _ _ _ _ _ ⟨rfl,_⟩;refine Ae rfl<|Ah rfl (A1 (by assumption) rfl)<|Ae rfl<|Lf rfl rfl<|Ap rfl rfl<|AW ?_;apply CU;rfl;(with_reducible assumption);apply AV);exact⟨rfl,⟨rfl,rfl,rfl,rfl,rfl,rfl,trivial⟩,rfl⟩
   ·obtain rfl:j=AZ oks ks[i]:=by omega
    (refine Ai<|Ai<|AT<|Ab rfl<|Af rfl<|Ah rfl (Aj 0 rfl rfl)<|AA rfl<|Ax rfl rfl<|Ad rfl<|AB rfl (by omega)<|Ak rfl<|Ak rfl<|Ak rfl<|Ak rfl<|Ak rfl<|Ak rfl<|Ak rfl<|Ak rfl<|Ak rfl<|Ak rfl<|An rfl rfl<|AW<|AK rfl<|AV ?_);exact⟨rfl,⟨rfl,rfl,rfl,rfl,rfl,rfl,trivial⟩,rfl⟩
  rintro ρ d2 L' ⟨hdd,hsl,hL⟩;subst hdd;subst hL;refine Bo _ hsl ?_;clear hsl;refine Ct (fun ρ d3 L'=>Le d2 d3∧A9 ρ [(0,.slice ka ks.length kc),(1,.slice la l.length lc),(4,pZ b4),(7,pZ b7),(8,vZ i),(10,vZ (AZ oks ks[i]:Nat))]∧∃ra rc qa qc h ol',RSl 1 A2 d3 (.slice qa (Fx (oks,ol) ks[i] l[i]).1.length qc) (Fx (oks,ol) ks[i] l[i]).1∧
   AN 6 Aw d3 (.slice ra ol'.length rc) ol' h∧AZ oks ks[i]<ol'.length∧ol'.set (AZ oks ks[i]) l[i]=(Fx (oks,ol) ks[i] l[i]).2∧
   L'=[bx b7 T7 [vZ 6,vZ 0,vZ 0,Al [],.slice ra ol'.length rc,.slice qa (Fx (oks,ol) ks[i] l[i]).1.length qc],bx b4 T4 A7,h]) ?_ ?_
  ·refine Ct (fun ρ d' L'=>d'=d2∧A9 ρ [(0,.slice ka ks.length kc),(1,.slice la l.length lc),(4,pZ b4),(7,pZ b7),(8,vZ i),(10,vZ (AZ oks ks[i]:Nat)),(81,.bool (!decide (oks[AZ oks ks[i]]?=some ks[i])))]∧L'=[bx b7 T7 [vZ 6,vZ 0,vZ 0,Al [],.slice ra ol.length rc,.slice qa oks.length qc],bx b4 T4 A7,h]) ?_ ?_
   ·by_cases hjl:AZ oks ks[i]<oks.length
    ·by_cases he:oks[AZ oks ks[i]]=ks[i]
     ·have e81:(!decide (oks[AZ oks ks[i]]?=some ks[i]))=false:=by simp[hjl,he]
      rw[e81];(refine AT<|Ab rfl<|Af rfl<|Ah rfl (Aj 0 rfl rfl)<|AA rfl<|Aq rfl rfl<|Ad rfl<|AB rfl (by omega)<|Ae rfl<|Af rfl<|Ae rfl<|Ah rfl (Aj 0 rfl rfl)<|Ae rfl<|Ab rfl<|Ae rfl<|AJ (sz:=1) (R:=A2) (by rfl) (by assumption) (by rfl) rfl (by omega) ?_;rintro _ _ _ _ _ ⟨rfl,_⟩;refine Ae rfl<|Ah rfl (A1 (by assumption) rfl)<|Ae rfl<|As rfl<|Ae rfl<|Ab rfl<|Ae rfl<|AJ (sz:=1) (R:=A2) (by rfl) (by assumption) (by rfl) rfl (by omega) ?_;rintro _ _ _ _ _ ⟨rfl,_⟩;refine Ae rfl<|Ah rfl (A1 (by assumption) rfl)<|Ae rfl<|C3 rfl rfl<|An rfl rfl<|AW ?_);exact⟨rfl,⟨rfl,rfl,rfl,rfl,rfl,rfl,by simp[upd,HU,he],trivial⟩,rfl⟩
     ·have e81:(!decide (oks[AZ oks ks[i]]?=some ks[i]))=true:=by simp[hjl,he]
      rw[e81];(refine AT<|Ab rfl<|Af rfl<|Ah rfl (Aj 0 rfl rfl)<|AA rfl<|Aq rfl rfl<|Ad rfl<|AB rfl (by omega)<|Ae rfl<|Af rfl<|Ae rfl<|Ah rfl (Aj 0 rfl rfl)<|Ae rfl<|Ab rfl<|Ae rfl<|AJ (sz:=1) (R:=A2) (by rfl) (by assumption) (by rfl) rfl (by omega) ?_;rintro _ _ _ _ _ ⟨rfl,_⟩;refine Ae rfl<|Ah rfl (A1 (by assumption) rfl)<|Ae rfl<|As rfl<|Ae rfl<|Ab rfl<|Ae rfl<|AJ (sz:=1) (R:=A2) (by rfl) (by assumption) (by rfl) rfl (by omega) ?_;rintro _ _ _ _ _ ⟨rfl,_⟩;refine Ae rfl<|Ah rfl (A1 (by assumption) rfl)<|Ae rfl<|C3 rfl rfl<|An rfl rfl<|AW ?_);exact⟨rfl,⟨rfl,rfl,rfl,rfl,rfl,rfl,by simp[upd,HU,he],trivial⟩,rfl⟩
    ·have e81:(!decide (oks[AZ oks ks[i]]?=some ks[i]))=true:=by simp[ZY (show oks.length≤AZ oks ks[i] by omega)]
     rw[e81];(refine AT<|Ab rfl<|Af rfl<|Ah rfl (Aj 0 rfl rfl)<|AA rfl<|Aq rfl rfl<|Ad rfl<|AE rfl (by omega)<|Ak rfl<|Ak rfl<|Ak rfl<|Ak rfl<|Ak rfl<|Ak rfl<|Ak rfl<|Ak rfl<|Ak rfl<|Ak rfl<|Ap rfl rfl<|AW ?_);exact⟨rfl,⟨rfl,rfl,rfl,rfl,rfl,rfl,rfl,trivial⟩,rfl⟩
   rintro ρ d3 L' ⟨hdd,hsl,hL⟩;subst hdd;subst hL;refine Bo _ hsl ?_;clear hsl;by_cases hp:oks[AZ oks ks[i]]?=some ks[i]
   ·have hI:Fx (oks,ol) ks[i] l[i]=(oks,ol.set (AZ oks ks[i]) l[i]):=by simp only[Fx];rw[if_pos hp]
    rw[hI];have hlt:AZ oks ks[i]<oks.length:=by
     rcases Acb (AZ oks ks[i]) oks.length with q|q
     ·exact q
     ·rw[ZY q] at hp;cases hp
    have e81:(!decide (oks[AZ oks ks[i]]?=some ks[i]))=false:=by simp[hp]
    rw[e81];(refine AK rfl<|Am ?_);exact⟨Le.refl _,⟨rfl,rfl,rfl,rfl,rfl,rfl,trivial⟩,ra,rc,qa,qc,h,ol,hok,hol,by omega,rfl,rfl⟩
   ·have hI:Fx (oks,ol) ks[i] l[i]=(oks.take (AZ oks ks[i])++[ks[i]]++oks.drop (AZ oks ks[i]),(ol.take (AZ oks ks[i])++[l[i]]++ol.drop (AZ oks ks[i])).set (AZ oks ks[i]) l[i]):=by simp only[Fx];rw[if_neg hp]
    rw[hI];have e81:(!decide (oks[AZ oks ks[i]]?=some ks[i]))=true:=by simp[hp]
    rw[e81];generalize hpp:AZ oks ks[i]=p at*;(refine Bb rfl<|Ai ?_);have hl4:Le d3 (join d3 h):=Le.BD _ _;have hol4:RSl 6 Aw (join d3 h) (.slice ra ol.length rc) ol:=hol.rsl (R:=Aw) B8 (by omega) (Le.BD _ _) (Le.BZ _ _);refine Qt (d1:=join d3 h) [bx b7 T7 [vZ 6,vZ 0,vZ 0,Al [],.slice ra ol.length rc,.slice qa oks.length qc],bx b4 T4 A7] [] ((Vs.pick [2,0,1] rfl).trans Vs.freeze) ?_;generalize join d3 h=d4 at*;have hks4:RSl 1 A2 d4 (.slice ka ks.length kc) ks:=BK.mono hks1 hl4;have hok4:RSl 1 A2 d4 (.slice qa oks.length qc) oks:=BK.mono hok hl4;have hlv4:RSl 6 Aw d4 (.slice la l.length lc) l:=BL.mono hlv1 hl4;(refine Af rfl<|Ah rfl (Aj 0 rfl rfl)<|Ab rfl ?_);refine GO (n:=p) rfl hok4 rfl rfl hlow (fun v86 r86=>?_);(refine As rfl<|Ab rfl<|AJ (sz:=1) (R:=A2) (by rfl) (by assumption) (by rfl) rfl (by omega) ?_;rintro _ _ _ _ _ ⟨rfl,_⟩;refine Ah rfl (A1 (by assumption) rfl)<|Af rfl<|Ah rfl (Aj 0 rfl rfl)<|Ab rfl ?_);have hkl:ks[i].length≤140737488355328:=by assumption
    refine DF (n:=p) rfl hok4 rfl rfl hlow (fun v97 r97=>?_);refine F8 (α:=Nat×TypeId) (β:=Value×Ag) [(0,.slice ka ks.length kc),(1,.slice la l.length lc),(4,pZ b4),(7,pZ b7),(8,vZ i),(10,vZ p),(97,v97)]
     (fun x=>[(92,.slice (some ⟨x.1,0,none⟩) 1 1)]) (fun x d L=>L=[bx x.1 x.2 [Al ks[i]]])
     (fun y=>[(87,y.1)]) (fun y d L=>AN 1 A2 d y.1 (oks.take p) y.2∧L=[y.2]) [] [] rfl
     (fun x d d' M hl h=>h) (fun y d d' M hl h=>⟨AN.mono (R:=A2) Dl h.1 hl,h.2⟩) (fun x=>rfl) (fun y=>rfl) rfl ⟨rfl,rfl,rfl,rfl,rfl,rfl,rfl,trivial⟩ ?_ ?_ ?_
    ·refine E5 (v0:=Al ks[i]) rfl rfl (fun b92 T92=>?_);refine AW ?_;exact⟨_,rfl,(b92,T92),⟨rfl,trivial⟩,rfl⟩
    ·refine NA (R:=A2) (xs:=oks.take p) Dl CQ (by omega) r86 (fun _=>rfl) (by simp;omega) (by simp;omega) (fun v0 v1 g1 o1=>?_);refine AW ?_;exact⟨_,rfl,(v1,g1),⟨rfl,trivial⟩,o1,rfl⟩
    rintro⟨b92,T92⟩ ⟨v87,g87⟩ ρ d5 M1 M2 hl5 hM1 ⟨o87,hM2⟩;subst hM1;subst hM2;refine DH (R:=A2) 0 rfl rfl o87 rfl (AN.D8 (R:=A2) rfl ⟨rfl,hkl⟩) CQ (by omega) (by simp;omega) (by simp;omega) (fun v93 g93 o93=>?_);refine R6 (R:=A2) (xs:=oks.take p++[ks[i]]) (ys:=oks.drop p) Dl rfl o93 rfl (RSl.src (R:=A2) (BK.mono r97 hl5) CQ (by omega) _) (by omega) (by simp;omega) (by simp;omega) (fun a98 c98 d6 hl6 r98=>?_);(refine Af rfl<|Bt ?_);refine Az 0 [vZ 6,vZ 0,vZ 0,Al [],.slice ra ol.length rc,.slice a98 (oks.take p++[ks[i]]++oks.drop p).length c98] rfl rfl rfl rfl (No rfl) rfl rfl ?_;have hl46:=hl5.trans hl6;have hol6:RSl 6 Aw d6 (.slice ra ol.length rc) ol:=BL.mono hol4 hl46;have hlv6:RSl 6 Aw d6 (.slice la l.length lc) l:=BL.mono hlv4 hl46;clear hks1 hlv1 hks4 hok4 hlv4 hol4 hks0 hl0 hok;(apply Aa);refine AT ?_;(refine Af rfl<|Ah rfl (Aj 0 rfl rfl)<|Ab rfl ?_);refine GO (n:=p) rfl hol6 rfl rfl (by omega) (fun v104 r104=>?_);(refine As rfl<|Ab rfl<|AJ (sz:=6) (R:=Aw) (by rfl) (by assumption) (by rfl) rfl (by omega) ?_;rintro _ _ _ _ _ _;refine BE rfl (by assumption) (by assumption)<|Af rfl<|Ah rfl (Aj 0 rfl rfl)<|Ab rfl ?_);rename_i cs9 hcs9 hD9 hR9;refine DF (n:=p) rfl hol6 rfl rfl (by omega) (fun v115 r115=>?_);refine F8 (α:=Nat×TypeId) (β:=Value×Ag) [(0,.slice ka ks.length kc),(1,.slice la l.length lc),(4,pZ b4),(7,pZ b7),(8,vZ i),(10,vZ p),(115,v115)]
     (fun x=>[(110,.slice (some ⟨x.1,0,none⟩) 1 1)]) (fun x d L=>L=[bx x.1 x.2 cs9])
     (fun y=>[(105,y.1)]) (fun y d L=>AN 6 Aw d y.1 (ol.take p) y.2∧L=[y.2]) [] [] rfl
     (fun x d d' M hl h=>h) (fun y d d' M hl h=>⟨AN.mono (R:=Aw) B8 h.1 hl,h.2⟩) (fun x=>rfl) (fun y=>rfl) rfl ⟨rfl,rfl,rfl,rfl,rfl,rfl,rfl,trivial⟩ ?_ ?_ ?_
    ·refine D4 rfl hcs9 (fun b92 T92=>?_);refine AW ?_;exact⟨_,rfl,(b92,T92),⟨rfl,trivial⟩,rfl⟩
    ·refine NA (R:=Aw) (xs:=ol.take p) B8 AH (by omega) r104 (fun _=>rfl) (by simp;omega) (by simp;omega) (fun v0 v1 g1 o1=>?_);refine AW ?_;exact⟨_,rfl,(v1,g1),⟨rfl,trivial⟩,o1,rfl⟩
    rintro⟨b110,T110⟩ ⟨v105,g105⟩ ρ d7 M1 M2 hl7 hM1 ⟨o105,hM2⟩;subst hM1;subst hM2;refine DH (R:=Aw) 0 rfl rfl o105 rfl (AN.D8 (R:=Aw) hcs9 (Aw.mono hl7 hR9)) AH (by omega) (by simp;omega) (by simp;omega) (fun v111 g111 o111=>?_);refine CO (R:=Aw) (xs:=ol.take p++[l[i]]) (ys:=ol.drop p) 0 rfl rfl o111 rfl (RSl.src (R:=Aw) (BL.mono r115 hl7) AH (by omega) _) (by omega) (by simp;omega) (by simp;omega) (fun v116 g116 o116=>?_);obtain⟨a116,c116,rfl⟩:=o116.val;(refine Af rfl<|Bt ?_);refine Az 0 [vZ 6,vZ 0,vZ 0,Al [],.slice a116 (ol.take p++[l[i]]++ol.drop p).length c116,.slice a98 (oks.take p++[ks[i]]++oks.drop p).length c98] rfl rfl rfl rfl (No rfl) rfl rfl ?_;(apply Aa);exact⟨(hl4.trans hl46).trans hl7,⟨rfl,rfl,rfl,rfl,rfl,rfl,trivial⟩,a116,c116,a98,c98,g116,_,BK.mono r98 hl7,o116,by simp;omega,rfl,rfl⟩
  rintro ρ d3 L' ⟨hl3,hsl,ra',rc',qa',qc',h',ol',hok',hol',hplt,hset,hL⟩;subst hL;refine Bo _ hsl ?_;clear hsl;obtain⟨b9,T9,l9,c9,hv9,rfl,hlen9,hw9⟩:=hol'.I6 (by omega) hplt;cases hv9;have hks3:RSl 1 A2 d3 (.slice ka ks.length kc) ks:=BK.mono hks1 hl3;have hlv3:RSl 6 Aw d3 (.slice la l.length lc) l:=BL.mono hlv1 hl3;refine AT ?_;(refine Af rfl<|Ah rfl (Aj 0 rfl rfl)<|Ab rfl<|As rfl<|Ab rfl<|AJ (sz:=6) (R:=Aw) (by rfl) (by assumption) (by rfl) rfl (by omega) ?_;rintro _ _ _ _ _ _;apply BE;rfl;assumption;assumption);rename_i cs9 hcs9 hD9 hR9;refine Eh (AZ oks ks[i]) rfl rfl rfl hplt (SAd.some _ b9 0) ?_;(apply Bt);refine Az 2 (patch l9 (AZ oks ks[i]*6) cs9) rfl rfl rfl hcs9 (by omega) (AH _ _ _ hR9) (by rw[Aac];rfl) ?_;(refine Aa<|Ay<|Ab rfl<|AI rfl rfl (by omega) (by omega)<|Ab rfl<|Aa ?_);refine⟨i+1,by omega,⟨rfl,rfl,rfl,rfl,int_eq (by omega),trivial⟩,hl1.trans hl3,hc,?_⟩
  rw[hM1,←hset,Abb];exact⟨some ⟨b9,0,none⟩,_,qa',qc',_,hok',hw9 cs9 l[i] hcs9 hR9,rfl⟩
 ·obtain rfl:i=ks.length:=by omega
  have hdep':Bc (.mk 6 0 0 [] ol oks)≤48:=by rw[hM] at hdep;exact hdep
  rw[hM];(refine Ai<|Ac<|Ab rfl<|As rfl<|AA rfl<|Ax rfl rfl<|Aa<|Ao rfl (by omega)<|AV<|Ai<|Ac<|AD 0 rfl rfl rfl ?_);refine K8 rfl (fun d9 hl9 hk9=>h3 (.mk 6 0 0 [] ol oks) (Aw.close (v:=.mk 6 0 0 [] ol oks) G9 Ba Ba (by simp) (hol.rsl (R:=Aw) B8 (by omega) hl9 (hk9 h (by simp))) (BK.mono hok hl9)) (by omega)) ?_;(refine AP rfl rfl<|Aa<|Ao rfl (by omega)<|Am<|Ac<|AD 0 rfl rfl rfl ?_);refine Az 1 [vZ 6,vZ 0,vZ 0,Al [],.slice ra ol.length rc,.slice qa oks.length qc] rfl rfl rfl rfl (No rfl) rfl rfl ?_;(refine Ab rfl<|Aa<|Ar ?_);exact BG (L':=[h]) [.agg [vZ 6,vZ 0,vZ 0,Al [],.slice ra ol.length rc,.slice qa oks.length qc].toArray,vZ 0] ⟨A3 1 rfl rfl rfl,A4 rfl,trivial⟩ (by simp) ⟨ra,rc,qa,qc,h,rfl,rfl,hol,hok⟩
end Go.Gk.Val
end
section
namespace Go.Gk.Val
open Go Go.Gk
variable{v y:V}{s:St}
def KQ{l:List St}:Cw v l=0↔BH v=true∧Bc v≤48∧l.all Ca=true:=by
 unfold Cw AS;constructor
 ·intro h;by_cases h1:Bc v≤48
  ·by_cases h2:BH v=true
   ·rw[if_pos h1,if_pos h2,if_neg (by simp)] at h;by_cases h3:l.all Ca=true
    ·exact⟨h2,h1,h3⟩
    ·rw[if_neg h3] at h;cases h
   ·rw[if_pos h1,if_neg h2] at h;simp at h
  ·rw[if_neg h1] at h;simp at h
 ·rintro⟨h1,h2,h3⟩;rw[if_pos h2,if_pos h1,if_neg (by simp),if_pos h3]
def QD(ks:List (List UInt8))(k:List UInt8):ks.take (AZ ks k)=ks.takeWhile fun x=>Op.bytesLess x k:=
 (List.prefix_iff_eq_take.1 (List.takeWhile_prefix _)).symm
def UH(ks zs:List (List UInt8))(k:List UInt8):AZ (ks.take (AZ ks k)++[k]++zs) k=AZ ks k:=by
 have hall:∀a∈ks.takeWhile (fun x=>Op.bytesLess x k),Op.bytesLess a k=true:=fun a ha=>
  ZF.1 (List.all_takeWhile (p:=fun x=>Op.bytesLess x k) (l:=ks)) a ha
 have e:(ks.takeWhile (fun x=>Op.bytesLess x k)++[k]++zs).takeWhile (fun x=>Op.bytesLess x k)=ks.takeWhile (fun x=>Op.bytesLess x k):=by
  rw[Zy,List.takeWhile_append_of_pos hall,List.singleton_append,List.takeWhile_cons_of_neg (by simp[F2]),ZW]
 have:AZ (ks.take (AZ ks k)++[k]++zs) k=(ks.takeWhile (fun x=>Op.bytesLess x k)).length:=by
  rw[QD];show(List.takeWhile _ _).length=_;rw[e]
 rw[this];rfl
def XR(hs:s.kind=1)(h5:v.kind=0∨v.kind=5)(h:(BP v s y).2=0):∃n:Nat,Bm s.src v.list.length=(n:Int)∧n≤4095∧
  BP v s y=(.mk 5 0 0 [] ((Cm v.list (n+1)).take n++[y]++(Cm v.list (n+1)).drop (n+1)) [],0):=by
 have e:BP v s y=(if Bm s.src v.list.length<0∨4095<Bm s.src v.list.length then(V.zero,4)
  else(.mk 5 0 0 [] ((Cm v.list ((Bm s.src v.list.length).toNat+1)).take (Bm s.src v.list.length).toNat++[y]++(Cm v.list ((Bm s.src v.list.length).toNat+1)).drop ((Bm s.src v.list.length).toNat+1)) [],0)):=by
  rw[BP,if_neg (by omega),if_pos ⟨hs,h5⟩]
 rw[e] at h⊢
 by_cases hp:Bm s.src v.list.length<0∨4095<Bm s.src v.list.length
 ·rw[if_pos hp] at h;cases h
 ·rw[if_neg hp]
  obtain⟨n,hn⟩:∃n:Nat,Bm s.src v.list.length=(n:Int):=⟨(Bm s.src v.list.length).toNat,by omega⟩
  rw[hn] at hp⊢
  exact⟨n,rfl,by omega,rfl⟩
def WJ(hs2:s.kind≠2)(h:(BP v s y).2=0):(s.kind=0∧(v.kind=0∨v.kind=6))∨(s.kind=1∧(v.kind=0∨v.kind=5)):=by
 by_cases h0:s.kind=0∧(v.kind=0∨v.kind=6)
 ·exact .inl h0
 ·by_cases h1:s.kind=1∧(v.kind=0∨v.kind=5)
  ·exact .inr h1
  ·rw[BP,if_neg h0,if_neg h1,if_neg (by omega)] at h;cases h
def XI(h0:s.kind=0∧(v.kind=0∨v.kind=6)):BP v s y=(Cq v s.text y,0):=by rw[BP,if_pos h0]
def Pl{l:List St}:Cw v l=0↔AS v=0∧l.all Ca=true:=by
 rw[KQ,CE];exact⟨fun⟨a,b,c⟩=>⟨⟨a,b⟩,c⟩,fun⟨⟨a,b⟩,c⟩=>⟨a,b,c⟩⟩
def look(ks:List (List UInt8))(l:List V)(o:List UInt8):V:=if o∈ks then l.getD (ks.idxOf o) V.zero else V.zero
def Pn{ks:List (List UInt8)}{k a:List UInt8}(h:a∈ks.take (AZ ks k)):Op.bytesLess a k=true:=by
 rw[QD] at h;exact ZF.1 (List.all_takeWhile (p:=fun x=>Op.bytesLess x k) (l:=ks)) a h
def OE{ks}(hr:rising ks=true){k b}(h:b∈ks.drop (toK ks k)):Op.bytesLess k b=true:=by
 obtain⟨j,hj,rfl⟩:=Aae h;rw[List.getElem_drop];have hlt:toK ks k+j<ks.length:=by simp at hj;omega
 have hle:=(QY hr k).1;have h1:¬Op.bytesLess (ks[toK ks k+j]) k=true:=by rw[I4 hr k _ hlt];omega
 have h2:ks[toK ks k+j]≠k:=by
  intro e;have hm:k∈ks:=by rw[←e];exact ZC hlt
  have h3:=NY hr hlt e;have h4:toK ks k=AZ ks k+1:=by rw[toK,if_pos hm]
  omega
 rcases Mx (ks[toK ks k+j]) k with h|h|h
 ·exact absurd h h1
 ·exact absurd h h2
 ·exact h
def KP{ks}(hr:rising ks=true){k}(hk:u8 k=true):rising (ks.take (AZ ks k)++[k]++ks.drop (toK ks k))=true:=by
 have h:=JT.1 hr;refine JT.2 ⟨fun x hx=>?_,?_⟩
 ·simp only[ZK,Z9] at hx;rcases hx with (hx|rfl)|hx
  ·exact h.1 x (Aar hx)
  ·exact hk
  ·exact h.1 x (Aax hx)
 ·rw[TI,List.pairwise_append,List.pairwise_append];refine⟨⟨h.2.sublist (List.take_sublist _ _),List.pairwise_singleton _ _,fun a ha b hb=>?_⟩,h.2.sublist (List.drop_sublist _ _),fun a ha b hb=>?_⟩
  ·rw[Z9] at hb;subst hb;exact Pn ha
  ·rcases ZK.1 ha with ha|ha
   ·exact JU (Pn ha) (OE hr hb)
   ·rw[Z9] at ha;subst ha;exact OE hr hb
def Ya(h:Ca s=true)(h0:s.kind=0):u8 s.text=true:=by
 simp[Ca,h0] at h;exact h
def Vj{N:Nat}(hv:BH v=true)(hy:BH y=true)(hs:Ca s=true)(h:(BP v s y).2=0)(hd:Bc v≤N)(hyd:Bc y≤N)(hyd2:s.kind≠2→Bc y+1≤N):
  BH (BP v s y).1=true∧Bc (BP v s y).1≤N:=by
 have h1:=Gq hv
 obtain⟨n,rfl⟩:∃n,N=n+1:=⟨N - 1,by have:=EL v;omega⟩
 have hel:=(DQ (v:=v)).1 hd
 by_cases h2:s.kind=2
 ·by_cases hc:s.kind=2∧(v.kind=0∨v.kind=5)∧y.kind=5
  ·have hyl:=(DQ (v:=y)).1 hyd
   rw[BP,if_neg (by omega),if_neg (by omega),if_pos hc]
   have hm:∀x∈v.list.take (A5 s v.list.length).1.toNat++y.list++v.list.drop (A5 s v.list.length).2.toNat,x∈v.list∨x∈y.list:=by
    intro x hx;simp only[ZK] at hx;rcases hx with (hx|hx)|hx
    ·exact .inl (Aar hx)
    ·exact .inr hx
    ·exact .inl (Aax hx)
   exact⟨Mv fun x hx=>(hm x hx).elim (CR hv) (CR hy),HA fun x hx=>(hm x hx).elim (hel x) (hyl x)⟩
  ·rw[BP,if_neg (by omega),if_neg (by omega),if_neg hc] at h;cases h
 ·have hyn:Bc y≤n:=by have:=hyd2 h2;omega
  rcases WJ h2 h with h0|h0
  ·rw[XI h0]
   have hr:=DL h1
   have hl:=Md h1 h0.2
   have hto:=QY hr s.text
   have hm:∀x∈v.list.take (AZ v.keys s.text)++[y]++v.list.drop (toK v.keys s.text),x∈v.list∨x=y:=by
    intro x hx;simp only[ZK,Z9] at hx;rcases hx with (hx|hx)|hx
    ·exact .inl (Aar hx)
    ·exact .inr hx
    ·exact .inl (Aax hx)
   refine⟨R0 (KP hr (Ya hs h0.1)) (by simp;omega) fun x hx=>(hm x hx).elim (CR hv) (fun e=>by rw[e];exact hy),HA fun x hx=>(hm x hx).elim (hel x) (fun e=>by rw[e];exact hyn)⟩
  ·obtain⟨i,_,_,e⟩:=XR h0.1 h0.2 h
   rw[e]
   have hp:∀x∈Cm v.list (i+1),x∈v.list∨x=V.zero:=by
    intro x hx;rw[Cm,ZK,List.mem_replicate] at hx;exact hx.imp id (·.2)
   have hm:∀x∈(Cm v.list (i+1)).take i++[y]++(Cm v.list (i+1)).drop (i+1),x∈v.list∨x=V.zero∨x=y:=by
    intro x hx;simp only[ZK,Z9] at hx;rcases hx with (hx|hx)|hx
    ·exact(hp x (Aar hx)).imp id .inl
    ·exact .inr (.inr hx)
    ·exact(hp x (Aax hx)).imp id .inl
   have hz:Bc V.zero≤n:=by
    have:=EL y;have e:Bc V.zero=1:=by decide
    omega
   exact⟨Mv fun x hx=>(hm x hx).elim (CR hv) (fun e=>e.elim (fun e=>by rw[e];decide) (fun e=>by rw[e];exact hy)),
    HA fun x hx=>(hm x hx).elim (hel x) (fun e=>e.elim (fun e=>by rw[e];exact hz) (fun e=>by rw[e];exact hyn))⟩
def Gb(v:V):Bc V.zero≤Bc v:=by
 have h1:=EL v;have e:Bc V.zero=1:=by decide
 omega
def I1(v:V)(s:St):Bc (AU v s).1≤Bc v:=by
 obtain⟨n,hn⟩:∃n,Bc v=n+1:=⟨Bc v - 1,by have:=EL v;omega⟩
 have hel:=(DQ (v:=v)).1 (Nat.le_of_eq hn);have hg:∀i:Nat,Bc (v.list.getD i V.zero)≤Bc v:=fun i=>by
  by_cases hi:i<v.list.length
  ·rw[show v.list.getD i V.zero=v.list[i] by simp[hi]];have:=hel _ (ZC hi);omega
  ·rw[show v.list.getD i V.zero=V.zero by simp[hi]];exact Gb v
 unfold AU;split
 ·exact Gb v
 split
 ·simp only;split
  ·exact hg _
  ·exact Gb v
 split
 ·simp only[JV];split
  ·exact hg _
  ·exact Gb v
 split
 ·rw[hn];exact HA fun x hx=>hel x (Aax (Aar hx))
 split
 ·rw[hn];exact HA fun x hx=>by cases hx
 ·exact Gb v
end Go.Gk.Val
end
section
namespace Go.Gk.Val
open Go Go.Gk Go.Gk.Utf
attribute [local irreducible] gwp gws
variable{v:V}
def OM{ks t}{l t':List V}(hr:rising ks=true)(hl:ks.length=l.length):∀i,i≤ks.length→CK (ks++t) (l++t') i=(ks.take i,l.take i)
 |0,_=>by simp[CK]
 |i+1,hi=>by
  have hi':i<ks.length:=hi;have hil:i<l.length:=by omega
  have hlt:(ks.take i).length=i:=by simp;omega
  have hll:(l.take i).length=i:=by simp;omega
  have hlow:AZ (ks.take i) ks[i]=i:=by
   have h1:=Fp (ks.take i) ks[i];rcases Acb (AZ (ks.take i) ks[i]) i with q|q
   ·have h2:=QJ (ks:=ks.take i) (k:=ks[i]) (by omega);rw[List.getElem_take,Ly hr hi' q] at h2;cases h2
   ·omega
  have e1:(ks++t).getD i []=ks[i]:=by simp[Acd,Aaq hi',hi']
  have e2:(l++t').getD i V.zero=l[i]:=by simp[Acd,Aaq hil,hil]
  rw[CK,OM hr hl i (by omega),e1,e2,Fx];simp only;rw[hlow,if_neg (by rw[ZY (by omega)];simp)];have d1:(ks.take i).drop i=[]:=Aby (by omega);have d2:(l.take i).drop i=[]:=Aby (by omega);rw[d1,d2,ZW,ZW,Z7 (by omega),Z7 (by omega:(l.take i).length≤i),List.set_append_right _ _ (by omega),hll,Acg,List.set_cons_zero,
   ZA hi',ZA hil]
def Sh{α}(a b:List α)(x y:α){n:Nat}(hn:a.length=n):(a++[x]++b).set n y=a++[y]++b:=by
 subst hn;rw[Zy,List.set_append_right _ _ (by omega),Acg];simp
def R5{α}{l:List α}{n:Nat}(h:n<l.length)(x:α):l.set n x=l.take n++[x]++l.drop (n+1):=by
 rw[List.set_eq_take_append_cons_drop,if_pos h,Zy];rfl
def ND{k}(hr:rising v.keys=true)(hl:v.keys.length=v.list.length):
  (.mk 6 0 0 [] (CK (v.keys++[k]) (v.list++[V.zero]) (v.keys++[k]).length).2 (CK (v.keys++[k]) (v.list++[V.zero]) (v.keys++[k]).length).1:V)=Cq v k V.zero:=by
 have e0:(v.keys++[k]).length=v.keys.length+1:=by simp
 have e1:(v.keys++[k]).getD v.keys.length []=k:=by simp[Acd]
 have e2:(v.list++[V.zero]).getD v.keys.length V.zero=V.zero:=by rw[hl];simp[Acd]
 have hlow:=Fp v.keys k
 rw[e0,CK,OM hr hl _ (ZL _),e1,e2,ZV,hl,ZV,Fx]
 simp only
 by_cases hm:k∈v.keys
 ·obtain⟨h1,h2⟩:=(mem_iff hr).1 hm
  rw[if_pos (by rw[ZJ h1,h2]),Cq,toK,if_pos hm,R5 (by omega)]
  congr 1
  conv=>lhs;rw[←List.take_append_drop (AZ v.keys k) v.keys,List.drop_eq_getElem_cons h1,h2]
  simp
 ·rw[if_neg,Cq,toK,if_neg hm,Sh _ _ _ _ (by simp;omega)]
  intro h
  exact hm (Abj h)
def Vt{k}(hl:v.keys.length=v.list.length)(x y:V):(.mk 6 0 0 [] ((Cq v k x).list.set (AZ (Cq v k x).keys k) y) (Cq v k x).keys:V)=Cq v k y:=by
 have e:AZ (Cq v k x).keys k=AZ v.keys k:=UH _ _ _;have hlow:=Fp v.keys k;rw[e];show V.mk 6 0 0 [] ((v.list.take (AZ v.keys k)++[x]++v.list.drop (toK v.keys k)).set (AZ v.keys k) y) _=_;rw[Sh _ _ _ _ (by simp;omega)];rfl
def RO{k}(h:Bc v≤48):Bc (Cq v k V.zero)≤48:=by
 rw[O4] at h⊢;have h1:C6 v.list≤47:=by omega
 have:C6 (Cq v k V.zero).list≤47:=by
  rw[GL] at h1⊢;intro x hx;have hx:x∈v.list.take (AZ v.keys k)++[V.zero]++v.list.drop (toK v.keys k):=hx;simp only[ZK,Z9] at hx;rcases hx with (hx|rfl)|hx
  ·exact h1 x (Aar hx)
  ·decide
  ·exact h1 x (Aax hx)
 omega
abbrev Rh(s:St):Prop:=0≤s.kind∧s.kind≤2∧(s.kind=0→u8 s.text=true)
def Sp{l:List St}(h:l.all Ca=true):∀s∈l,Rh s:=fun s hs=>by
 have:=ZF.1 h s hs;simp only[Ca,Zz,Bool.or_eq_true,decide_eq_true_eq] at this;exact⟨this.1.1,this.1.2,fun h0=>this.2.resolve_left (fun h=>h h0)⟩
def Nn(T:Ag→Prop)(P:Program)(f:FuncId):Prop:=∀{d cs ds es}{v y:V}{s:St},T d→Aw d cs v→BH v=true→Bc v≤48→RSt d ds s→0≤s.kind→s.kind≤2→(s.kind=0→u8 s.text=true)→Aw d es y→Cc v+Cc y≤900000000→
 A8 P f [.agg cs.toArray,.agg ds.toArray,.agg es.toArray] d [] (Ret fun r d' L'=>L'=[]∧∃cs',r=.tuple #[.agg cs'.toArray,vZ (BP v s y).2]∧Aw d' cs' (BP v s y).1)
def K1(a0 a1 a2:Nat):A6:=⟨132,[(.cell 6 (some 6)),(.tmp 7)],(sR (o1 3 (.box 0)<|o1 4 (.box 1)<|o1 5 (.box 2)<|o1 6 (.alo (.agg #[(vZ 0),(vZ 0),(vZ 0),(Al []),(.slice none 0 0),(.slice none 0 0)]))<|o1 7 (.mv z0) .done) (sR (o1 16 (.bld [(0,1),(1,1),(2,1)] [(vZ 0),(vZ 0),(vZ 0)] [(0,(kZ 6)),(1,(kZ 5)),(2,(kZ 5))])<|o1 8 (.alo (.agg #[(vZ 0),(vZ 0),(vZ 0)]))<|o0 (.st 3 8 16) .done) (.seq (.seq (.reg true (p1 17 (.fld 0 3)<|pl 18 17<|p1 19 (.bin .neq 18 z0)<|pm 20 19 (.op true ⟨(some 21),(some (20,true)),(.fld 0 3)⟩ (.op true ⟨(some 22),(some (20,true)),(.ld none 21)⟩ (.op true ⟨(some 23),(some (20,true)),(.fld 0 4)⟩ (.op true ⟨(some 24),(some (20,true)),(.ld none 23)⟩ (.op true ⟨(some 25),(some (20,true)),(.idxa 3 1 8 24)⟩ (.op true ⟨(some 26),(some (20,true)),(.ld none 25)⟩ (.op true ⟨(some 27),(some (20,true)),(.bin .neq 22 26)⟩ (p1 28 (.pick 20 27 (.const (.bool false))) (pm 29 28 (.op true ⟨(some 30),(some (29,false)),(.fld 0 4)⟩ (.op true ⟨(some 31),(some (29,false)),(.ld none 30)⟩ (.op true ⟨(some 32),(some (29,false)),(.bin .eql 31 z2)⟩ (.op true ⟨(some 33),(some (29,false)),(.mv 32)⟩ (.op true ⟨(some 34),(some (33,true)),(.fld 0 5)⟩ (.op true ⟨(some 35),(some (33,true)),(.ld none 34)⟩ (.op true ⟨(some 36),(some (33,true)),(.bin .neq 35 (kZ 5))⟩ (.op true ⟨(some 37),(some (29,false)),(.pick 33 36 (.const (.bool false)))⟩ (p1 38 (.pick 29 (.const (.bool true)) 37) .done)))))))))))))))))))) (.cond 38 (sR (o1 39 (.bld [(0,1),(1,2),(3,1),(4,1),(5,1)] [(vZ 0),(vZ 0),(vZ 0),(Al []),(.slice none 0 0),(.slice none 0 0)] [])<|o0 (.st 6 6 39)<|o1 7 (.mv (kZ 80)) .done) .ret) .skip)) (.seq (sR (oj 40 0 4<|ol 41 40<|ob 42 .eql 41 z0 .done) (.cond 42 (.seq (.reg true (p1 45 (.fld 5 3)<|pl 46 45<|p1 48 (.fld 1 4)<|pl 49 48<|p1 53 (.fld 4 3)<|pl 54 53<|p1 56 (.bld [(0,1),(1,2),(3,1),(4,1),(5,1)] [(vZ 0),(vZ 0),(vZ 0),(Al []),(.slice none 0 0),(.slice none 0 0)] []) (.par (o1 9 (.alo (.agg #[(vZ 0),(vZ 0),(vZ 0),(Al []),(.slice none 0 0),(.slice none 0 0)])) .done) (.par (o1 57 (.bsl 1 6 [(vZ 0),(vZ 0),(vZ 0),(Al []),(.slice none 0 0),(.slice none 0 0)] [(0,56)]) .done) (.par (o1 52 (.bsl 0 6 [(vZ 0),(vZ 0),(vZ 0),(Al []),(.slice none 0 0),(.slice none 0 0)] []) .done) (.par (o1 50 (.bsl 1 1 [(Al [])] [(0,49)]) .done) (o1 44 (.bsl 0 1 [(Al [])] []) (o1 47 (.app 1 16 [(Al [])] 44 46) .done)) (o1 51 (.app 1 16 [(Al [])] 47 50) .done)) (o1 55 (.app 6 88 [(vZ 0),(vZ 0),(vZ 0),(Al []),(.slice none 0 0),(.slice none 0 0)] 52 54) .done)) (o1 58 (.app 6 88 [(vZ 0),(vZ 0),(vZ 0),(Al []),(.slice none 0 0),(.slice none 0 0)] 55 57) (oc 59 a0 [51,58] (pm 43 59 (p1 60 (.ext 43 0) (p1 61 (.ext 43 1) .done)))))) (o0 (.st 6 9 60) (pm 10 61 .done))))) (.seq (.reg true (p1 62 (.fld 4 9)<|pl 63 62<|p1 64 (.ld (some 6) 9)<|p1 65 (.fld 1 4)<|pl 66 65<|p1 68 (.ld (some 6) 5)<|oc 67 a1 [64,66]<|p1 69 (.idx 6 63 67) (.bar (o0 (.st 6 69 68) .done)))) (sR (o1 70 (.ld (some 6) 9)<|o0 (.st 6 6 70)<|o1 7 (.mv z0) .done) .ret))) .skip)) (.seq (sR (oj 71 0 4<|ol 72 71<|ob 73 .eql 72 z2 .done) (.cond 73 (sR (o1 75 (.ld (some 6) 4)<|oj 76 4 3<|ol 77 76<|oL 78 77<|oc 79 a2 [75,78]<|om 74 79<|oe 80 74 0<|oe 81 74 1<|om 11 80<|om 12 81 .done) (.seq (.reg true (p1 83 (.fld 4 3)<|pl 84 83<|pm 85 11<|p1 86 (.sl 6 84 none (some 85) none)<|p1 88 (.fld 4 5)<|pl 89 88<|o1 82 (.bsl 0 6 [(vZ 0),(vZ 0),(vZ 0),(Al []),(.slice none 0 0),(.slice none 0 0)] [])<|o1 87 (.app 6 88 [(vZ 0),(vZ 0),(vZ 0),(Al []),(.slice none 0 0),(.slice none 0 0)] 82 86)<|o1 90 (.app 6 88 [(vZ 0),(vZ 0),(vZ 0),(Al []),(.slice none 0 0),(.slice none 0 0)] 87 89) (.bar (pm 13 90 .done)))) (sR (om 91 13<|oj 92 4 3<|ol 93 92<|om 94 12<|o1 95 (.sl 6 93 (some 94) none none)<|o1 96 (.app 6 88 [(vZ 0),(vZ 0),(vZ 0),(Al []),(.slice none 0 0),(.slice none 0 0)] 91 95)<|o1 97 (.bld [(0,1),(1,2),(3,1),(4,1),(5,1)] [(vZ 0),(vZ 0),(vZ 0),(Al []),(.slice none 0 0),(.slice none 0 0)] [(0,(kZ 5)),(3,96)])<|o0 (.st 6 6 97)<|o1 7 (.mv z0) .done) .ret))) .skip)) (sR (oj 98 2 4<|ol 99 98<|om 14 99 .done) (.seq (sR (om 100 14<|ob 101 .lss 100 z0 .done) (.cond 101 (rG (om 102 14<|oj 103 4 3<|ol 104 103<|oL 105 104<|ob 106 .add 102 105<|om 14 106 .done)) .skip)) (.seq (sR (om 107 14<|ob 108 .lss 107 z0<|om 109 108<|gF 110 109 14<|oF 111 109 (.bin .gtr 110 (kZ 4095))<|o1 112 (.pick 109 (.const (.bool true)) 111) .done) (.cond 112 (sR (o1 113 (.bld [(0,1),(1,2),(3,1),(4,1),(5,1)] [(vZ 0),(vZ 0),(vZ 0),(Al []),(.slice none 0 0),(.slice none 0 0)] [])<|o0 (.st 6 6 113)<|o1 7 (.mv (kZ 4)) .done) .ret) .skip)) (sR (o1 114 (.bsl 0 6 [(vZ 0),(vZ 0),(vZ 0),(Al []),(.slice none 0 0),(.slice none 0 0)] [])<|oj 115 4 3<|ol 116 115<|o1 117 (.app 6 88 [(vZ 0),(vZ 0),(vZ 0),(Al []),(.slice none 0 0),(.slice none 0 0)] 114 116)<|om 15 117 .done) (.seq (.block 0 (.loop (.seq (sR (om 118 15<|oL 119 118<|om 120 14<|ob 121 .leq 119 120 .done) (.cond 121 .skip (.exit 0))) (.block 1 (rG (om 122 15<|o1 123 (.bld [(0,1),(1,2),(3,1),(4,1),(5,1)] [(vZ 0),(vZ 0),(vZ 0),(Al []),(.slice none 0 0),(.slice none 0 0)] [])<|o1 124 (.bsl 1 6 [(vZ 0),(vZ 0),(vZ 0),(Al []),(.slice none 0 0),(.slice none 0 0)] [(0,123)])<|o1 125 (.app 6 88 [(vZ 0),(vZ 0),(vZ 0),(Al []),(.slice none 0 0),(.slice none 0 0)] 122 124)<|om 15 125 .done)))))) (sR (om 126 15<|om 127 14<|o1 128 (.ld (some 6) 5)<|oI 129 6 126 127<|o0 (.st 6 129 128) .done) (sR (om 130 15<|o1 131 (.bld [(0,1),(1,2),(3,1),(4,1),(5,1)] [(vZ 0),(vZ 0),(vZ 0),(Al []),(.slice none 0 0),(.slice none 0 0)] [(0,(kZ 5)),(3,130)])<|o0 (.st 6 6 131)<|o1 7 (.mv z0) .done) .ret))))))))))))⟩
set_option maxHeartbeats 4000000 in
def XU{T:Ag→Prop}(hTm:∀{d d'},T d→Le d d'→T d'){P f f1 f2 f3}(hd:I7 P f=some (K1 f1 f2 f3))(h1:Rp T P f1)(h2:NB P f2)(h3:FB P f3):Nn T P f:=by
 intro d cs ds es v y s ht hv hmay hdep hs hs0 hs2 hu hy hb;refine Bd hd (No rfl) ?_;have hone:BW v=true:=by rw[Ed,Zz] at hmay;exact hmay.1
 have hr:=DL hone;have b1:=Ex (v:=v);have b2':=Gm (v:=v);have b3':=Ex (v:=y);have hs':=hs;obtain⟨hds,ik',it',is,id⟩:=hs';subst hds;have is1: -9223372036854775808≤s.src:=is.1;have is2:s.src≤9223372036854775807:=is.2;have hv0:=hv;have hy0:=hy;obtain⟨lv,kv,rfl,ik,im,ie,it,hl,hks⟩:=hv.open;obtain⟨la,lc,rfl⟩:=RSl.val hl;obtain⟨ka,kc,rfl⟩:=RSl.val hks;obtain⟨yv,zv,rfl,jk,jm,je,jt,hyl,hyk⟩:=hy.open;obtain⟨ya,yc,rfl⟩:=RSl.val hyl;show gwp P _ _ _ _ _;apply Ai;apply Ay;refine AO (l:=[vZ v.kind,vZ v.m,vZ v.e,Al v.text,.slice la v.list.length lc,.slice ka v.keys.length kc]) rfl (fun b3 T3=>?_);refine AO (l:=[vZ s.kind,Al s.text,vZ s.src,vZ s.dst,.bool s.hf,.bool s.ht]) rfl (fun b4 T4=>?_);refine AO (l:=[vZ y.kind,vZ y.m,vZ y.e,Al y.text,.slice ya y.list.length yc,zv]) rfl (fun b5 T5=>?_);(refine AX (fun _ _=>Ab rfl<|Aa ?_));rename_i b6 T6;apply Ai;apply Ay;refine BN (cs:=[vZ 6,vZ 5,vZ 5]) rfl ?_;(apply AX;intro _ _);rename_i b8 T8;refine Az 0 [vZ 6,vZ 5,vZ 5] rfl rfl rfl rfl (No rfl) rfl rfl ?_;(apply Aa);have hk3:s.kind=0∨s.kind=1∨s.kind=2:=by omega
 refine Ct (fun ρ d' L'=>d'=d∧(s.kind=0∧(v.kind=0∨v.kind=6)∨s.kind=1∧(v.kind=0∨v.kind=5)∨s.kind=2∧(v.kind=0∨v.kind=5)∧y.kind=5)∧A9 ρ [(3,pZ b3),(4,pZ b4),(5,pZ b5),(6,pZ b6)]∧L'=[bx b8 T8 [vZ 6,vZ 5,vZ 5],bx b6 T6 A7,bx b5 T5 [vZ y.kind,vZ y.m,vZ y.e,Al y.text,.slice ya y.list.length yc,zv],bx b4 T4 [vZ s.kind,Al s.text,vZ s.src,vZ s.dst,.bool s.hf,.bool s.ht],bx b3 T3 [vZ v.kind,vZ v.m,vZ v.e,Al v.text,.slice la v.list.length lc,.slice ka v.keys.length kc]]) ?_ ?_
 ·have fin:∀{ρ},¬(s.kind=0∧(v.kind=0∨v.kind=6))→¬(s.kind=1∧(v.kind=0∨v.kind=5))→¬(s.kind=2∧(v.kind=0∨v.kind=5)∧y.kind=5)→ρ 6=pZ b6→ρ 7=vZ 80→
   Cs [.cell 6 (some 6),.tmp 7] (Ret fun r d' L'=>L'=[]∧∃cs',r=.tuple #[.agg cs'.toArray,vZ (BP v s y).2]∧Aw d' cs' (BP v s y).1) ρ d [bx b8 T8 [vZ 6,vZ 5,vZ 5],bx b6 T6 A7,bx b5 T5 [vZ y.kind,vZ y.m,vZ y.e,Al y.text,.slice ya y.list.length yc,zv],bx b4 T4 [vZ s.kind,Al s.text,vZ s.src,vZ s.dst,.bool s.hf,.bool s.ht],bx b3 T3 [vZ v.kind,vZ v.m,vZ v.e,Al v.text,.slice la v.list.length lc,.slice ka v.keys.length kc]]:=by
   intro ρ q0 q1 q2 e4 e5
   rw[BP,if_neg q0,if_neg q1,if_neg q2]
   exact Bh 1 e4 rfl e5 Aw.zero
  rcases hk3 with s0|s1|s2
  ·by_cases v0:v.kind=0
   ·(refine Ai<|AT<|Af rfl<|Ah rfl (Aj 4 rfl rfl)<|AG rfl rfl<|Ad rfl<|AB rfl (by omega)<|Ak rfl<|Ak rfl<|Ak rfl<|Ak rfl<|Ak rfl<|Ak rfl<|Ak rfl<|An rfl rfl<|Ad rfl<|Ae rfl<|Af rfl<|Ae rfl<|Ah rfl (Aj 3 rfl rfl)<|Ae rfl<|Aq rfl rfl<|Ae rfl<|Ad rfl<|AB rfl (by omega)<|Ak rfl<|Ak rfl<|Ak rfl<|Ae rfl<|An rfl rfl<|An rfl rfl<|AW<|AK rfl<|Am ?_);exact⟨rfl,by omega,⟨rfl,rfl,rfl,rfl,trivial⟩,rfl⟩
   by_cases v5:v.kind=6
   ·(refine Ai<|AT<|Af rfl<|Ah rfl (Aj 4 rfl rfl)<|AG rfl rfl<|Ad rfl<|AE rfl (by omega)<|Ae rfl<|Af rfl<|Ae rfl<|Ah rfl (Aj 4 rfl rfl)<|Ae rfl<|Af rfl<|Ae rfl<|Ah rfl (Aj 3 rfl rfl)<|Ae rfl ?_);refine Ds 0 rfl rfl (by omega) (by omega) ?_;(refine Ae rfl<|Ah rfl (Aj 0 rfl rfl)<|Ae rfl<|AG rfl rfl<|Ap rfl rfl<|Ad rfl<|AB rfl (by omega)<|Ae rfl<|Af rfl<|Ae rfl<|Ah rfl (Aj 3 rfl rfl)<|Ae rfl<|Aq rfl rfl<|Ae rfl<|Ad rfl<|AB rfl (by omega)<|Ak rfl<|Ak rfl<|Ak rfl<|Ae rfl<|An rfl rfl<|An rfl rfl<|AW<|AK rfl<|Am ?_);exact⟨rfl,by omega,⟨rfl,rfl,rfl,rfl,trivial⟩,rfl⟩
   ·(refine Ai<|AT<|Af rfl<|Ah rfl (Aj 4 rfl rfl)<|AG rfl rfl<|Ad rfl<|AE rfl (by omega)<|Ae rfl<|Af rfl<|Ae rfl<|Ah rfl (Aj 4 rfl rfl)<|Ae rfl<|Af rfl<|Ae rfl<|Ah rfl (Aj 3 rfl rfl)<|Ae rfl ?_);refine Ds 0 rfl rfl (by omega) (by omega) ?_;(refine Ae rfl<|Ah rfl (Aj 0 rfl rfl)<|Ae rfl<|AG rfl rfl<|Ap rfl rfl<|Ad rfl<|AE rfl (by omega)<|Ak rfl<|Ak rfl<|Ak rfl<|Ak rfl<|AY rfl<|AY rfl<|AY rfl<|Ak rfl<|Ap rfl rfl<|AW<|Bb rfl<|Ac<|Bl ?_);refine Az 1 A7 rfl rfl rfl rfl (No rfl) rfl rfl ?_;(refine Ab rfl<|Aa<|Ar ?_);exact fin (by omega) (by omega) (by omega) rfl rfl
  ·by_cases v0:v.kind=0
   ·(refine Ai<|AT<|Af rfl<|Ah rfl (Aj 4 rfl rfl)<|AG rfl rfl<|Ad rfl<|AB rfl (by omega)<|Ak rfl<|Ak rfl<|Ak rfl<|Ak rfl<|Ak rfl<|Ak rfl<|Ak rfl<|An rfl rfl<|Ad rfl<|Ae rfl<|Af rfl<|Ae rfl<|Ah rfl (Aj 3 rfl rfl)<|Ae rfl<|Aq rfl rfl<|Ae rfl<|Ad rfl<|AB rfl (by omega)<|Ak rfl<|Ak rfl<|Ak rfl<|Ae rfl<|An rfl rfl<|An rfl rfl<|AW<|AK rfl<|Am ?_);exact⟨rfl,by omega,⟨rfl,rfl,rfl,rfl,trivial⟩,rfl⟩
   by_cases v5:v.kind=5
   ·(refine Ai<|AT<|Af rfl<|Ah rfl (Aj 4 rfl rfl)<|AG rfl rfl<|Ad rfl<|AE rfl (by omega)<|Ae rfl<|Af rfl<|Ae rfl<|Ah rfl (Aj 4 rfl rfl)<|Ae rfl<|Af rfl<|Ae rfl<|Ah rfl (Aj 3 rfl rfl)<|Ae rfl ?_);refine Ds 1 rfl rfl (by omega) (by omega) ?_;(refine Ae rfl<|Ah rfl (Aj 0 rfl rfl)<|Ae rfl<|AG rfl rfl<|Ap rfl rfl<|Ad rfl<|AB rfl (by omega)<|Ae rfl<|Af rfl<|Ae rfl<|Ah rfl (Aj 3 rfl rfl)<|Ae rfl<|Aq rfl rfl<|Ae rfl<|Ad rfl<|AB rfl (by omega)<|Ak rfl<|Ak rfl<|Ak rfl<|Ae rfl<|An rfl rfl<|An rfl rfl<|AW<|AK rfl<|Am ?_);exact⟨rfl,by omega,⟨rfl,rfl,rfl,rfl,trivial⟩,rfl⟩
   ·(refine Ai<|AT<|Af rfl<|Ah rfl (Aj 4 rfl rfl)<|AG rfl rfl<|Ad rfl<|AE rfl (by omega)<|Ae rfl<|Af rfl<|Ae rfl<|Ah rfl (Aj 4 rfl rfl)<|Ae rfl<|Af rfl<|Ae rfl<|Ah rfl (Aj 3 rfl rfl)<|Ae rfl ?_);refine Ds 1 rfl rfl (by omega) (by omega) ?_;(refine Ae rfl<|Ah rfl (Aj 0 rfl rfl)<|Ae rfl<|AG rfl rfl<|Ap rfl rfl<|Ad rfl<|AE rfl (by omega)<|Ak rfl<|Ak rfl<|Ak rfl<|Ak rfl<|AY rfl<|AY rfl<|AY rfl<|Ak rfl<|Ap rfl rfl<|AW<|Bb rfl<|Ac<|Bl ?_);refine Az 1 A7 rfl rfl rfl rfl (No rfl) rfl rfl ?_;(refine Ab rfl<|Aa<|Ar ?_);exact fin (by omega) (by omega) (by omega) rfl rfl
  ·by_cases y5:y.kind=5
   ·by_cases v0:v.kind=0
    ·(refine Ai<|AT<|Af rfl<|Ah rfl (Aj 4 rfl rfl)<|AG rfl rfl<|Ad rfl<|AB rfl (by omega)<|Ak rfl<|Ak rfl<|Ak rfl<|Ak rfl<|Ak rfl<|Ak rfl<|Ak rfl<|An rfl rfl<|Ad rfl<|Ae rfl<|Af rfl<|Ae rfl<|Ah rfl (Aj 3 rfl rfl)<|Ae rfl<|Aq rfl rfl<|Ae rfl<|Ad rfl<|AE rfl (by omega)<|Ae rfl<|Af rfl<|Ae rfl<|Ah rfl (Aj 2 rfl rfl)<|Ae rfl<|AG rfl rfl<|Ae rfl<|Ap rfl rfl<|An rfl rfl<|AW<|Ao rfl (by omega)<|Am ?_);exact⟨rfl,by omega,⟨rfl,rfl,rfl,rfl,trivial⟩,rfl⟩
    by_cases v5:v.kind=5
    ·(refine Ai<|AT<|Af rfl<|Ah rfl (Aj 4 rfl rfl)<|AG rfl rfl<|Ad rfl<|AE rfl (by omega)<|Ae rfl<|Af rfl<|Ae rfl<|Ah rfl (Aj 4 rfl rfl)<|Ae rfl<|Af rfl<|Ae rfl<|Ah rfl (Aj 3 rfl rfl)<|Ae rfl ?_);refine Ds 2 rfl rfl (by omega) (by omega) ?_;(refine Ae rfl<|Ah rfl (Aj 0 rfl rfl)<|Ae rfl<|AG rfl rfl<|Ap rfl rfl<|Ad rfl<|AB rfl (by omega)<|Ae rfl<|Af rfl<|Ae rfl<|Ah rfl (Aj 3 rfl rfl)<|Ae rfl<|Aq rfl rfl<|Ae rfl<|Ad rfl<|AE rfl (by omega)<|Ae rfl<|Af rfl<|Ae rfl<|Ah rfl (Aj 2 rfl rfl)<|Ae rfl<|AG rfl rfl<|Ae rfl<|Ap rfl rfl<|An rfl rfl<|AW<|Ao rfl (by omega)<|Am ?_);exact⟨rfl,by omega,⟨rfl,rfl,rfl,rfl,trivial⟩,rfl⟩
    ·(refine Ai<|AT<|Af rfl<|Ah rfl (Aj 4 rfl rfl)<|AG rfl rfl<|Ad rfl<|AE rfl (by omega)<|Ae rfl<|Af rfl<|Ae rfl<|Ah rfl (Aj 4 rfl rfl)<|Ae rfl<|Af rfl<|Ae rfl<|Ah rfl (Aj 3 rfl rfl)<|Ae rfl ?_);refine Ds 2 rfl rfl (by omega) (by omega) ?_;(refine Ae rfl<|Ah rfl (Aj 0 rfl rfl)<|Ae rfl<|AG rfl rfl<|Ap rfl rfl<|Ad rfl<|AE rfl (by omega)<|Ak rfl<|Ak rfl<|Ak rfl<|Ak rfl<|AY rfl<|AY rfl<|AY rfl<|Ak rfl<|Ap rfl rfl<|AW<|Bb rfl<|Ac<|Bl ?_);refine Az 1 A7 rfl rfl rfl rfl (No rfl) rfl rfl ?_;(refine Ab rfl<|Aa<|Ar ?_);exact fin (by omega) (by omega) (by omega) rfl rfl
   ·by_cases v0:v.kind=0
    ·(refine Ai<|AT<|Af rfl<|Ah rfl (Aj 4 rfl rfl)<|AG rfl rfl<|Ad rfl<|AB rfl (by omega)<|Ak rfl<|Ak rfl<|Ak rfl<|Ak rfl<|Ak rfl<|Ak rfl<|Ak rfl<|An rfl rfl<|Ad rfl<|Ae rfl<|Af rfl<|Ae rfl<|Ah rfl (Aj 3 rfl rfl)<|Ae rfl<|Aq rfl rfl<|Ae rfl<|Ad rfl<|AE rfl (by omega)<|Ae rfl<|Af rfl<|Ae rfl<|Ah rfl (Aj 2 rfl rfl)<|Ae rfl<|AG rfl rfl<|Ae rfl<|Ap rfl rfl<|An rfl rfl<|AW<|Au rfl (by omega)<|Ac<|Bl ?_);refine Az 1 A7 rfl rfl rfl rfl (No rfl) rfl rfl ?_;(refine Ab rfl<|Aa<|Ar ?_);exact fin (by omega) (by omega) (by omega) rfl rfl
    by_cases v5:v.kind=5
    ·(refine Ai<|AT<|Af rfl<|Ah rfl (Aj 4 rfl rfl)<|AG rfl rfl<|Ad rfl<|AE rfl (by omega)<|Ae rfl<|Af rfl<|Ae rfl<|Ah rfl (Aj 4 rfl rfl)<|Ae rfl<|Af rfl<|Ae rfl<|Ah rfl (Aj 3 rfl rfl)<|Ae rfl ?_);refine Ds 2 rfl rfl (by omega) (by omega) ?_;(refine Ae rfl<|Ah rfl (Aj 0 rfl rfl)<|Ae rfl<|AG rfl rfl<|Ap rfl rfl<|Ad rfl<|AB rfl (by omega)<|Ae rfl<|Af rfl<|Ae rfl<|Ah rfl (Aj 3 rfl rfl)<|Ae rfl<|Aq rfl rfl<|Ae rfl<|Ad rfl<|AE rfl (by omega)<|Ae rfl<|Af rfl<|Ae rfl<|Ah rfl (Aj 2 rfl rfl)<|Ae rfl<|AG rfl rfl<|Ae rfl<|Ap rfl rfl<|An rfl rfl<|AW<|Au rfl (by omega)<|Ac<|Bl ?_);refine Az 1 A7 rfl rfl rfl rfl (No rfl) rfl rfl ?_;(refine Ab rfl<|Aa<|Ar ?_);exact fin (by omega) (by omega) (by omega) rfl rfl
    ·(refine Ai<|AT<|Af rfl<|Ah rfl (Aj 4 rfl rfl)<|AG rfl rfl<|Ad rfl<|AE rfl (by omega)<|Ae rfl<|Af rfl<|Ae rfl<|Ah rfl (Aj 4 rfl rfl)<|Ae rfl<|Af rfl<|Ae rfl<|Ah rfl (Aj 3 rfl rfl)<|Ae rfl ?_);refine Ds 2 rfl rfl (by omega) (by omega) ?_;(refine Ae rfl<|Ah rfl (Aj 0 rfl rfl)<|Ae rfl<|AG rfl rfl<|Ap rfl rfl<|Ad rfl<|AE rfl (by omega)<|Ak rfl<|Ak rfl<|Ak rfl<|Ak rfl<|AY rfl<|AY rfl<|AY rfl<|Ak rfl<|Ap rfl rfl<|AW<|Bb rfl<|Ac<|Bl ?_);refine Az 1 A7 rfl rfl rfl rfl (No rfl) rfl rfl ?_;(refine Ab rfl<|Aa<|Ar ?_);exact fin (by omega) (by omega) (by omega) rfl rfl
 rintro ρ d' L' ⟨hdd,hk,hsl,hL⟩;subst hdd;subst hL;refine Bo _ hsl ?_;clear hsl;by_cases s0:s.kind=0
 ·have hv6:v.kind=0∨v.kind=6:=by omega
  have hF:BP v s y=(Cq v s.text y,0):=by rw[BP,if_pos ⟨s0,hv6⟩]
  rw[hF];have hlens:=Md hone hv6;(refine Ai<|Ac<|Af rfl<|Ah rfl (Aj 3 rfl rfl)<|Aq rfl rfl<|Aa<|Au rfl (by omega)<|Ai ?_);refine AT ?_;(refine Af rfl<|Ah rfl (Aj 4 rfl rfl)<|Af rfl<|Ah rfl (Aj 3 rfl rfl)<|Af rfl<|Ah rfl (Aj 4 rfl rfl)<|Bl ?_);refine F8 (α:=Nat×TypeId) (β:=(Option Addr×Nat)×(Option Addr×Nat)×Ag) [(3,pZ b3),(4,pZ b4),(5,pZ b5),(6,pZ b6)] (fun x=>[(9,.pointer (some ⟨x.1,0,none⟩))]) (fun x d L=>L=[bx x.1 x.2 A7])
   (fun x=>[(60,.agg [vZ 6,vZ 0,vZ 0,Al [],.slice x.1.1 (Cq v s.text V.zero).list.length x.1.2,.slice x.2.1.1 (Cq v s.text V.zero).keys.length x.2.1.2].toArray),(61,vZ 0)])
   (fun x d L=>AN 6 Aw d (.slice x.1.1 (Cq v s.text V.zero).list.length x.1.2) (Cq v s.text V.zero).list x.2.2∧RSl 1 A2 d (.slice x.2.1.1 (Cq v s.text V.zero).keys.length x.2.1.2) (Cq v s.text V.zero).keys∧L=[x.2.2]) [] [] rfl
   (fun x d d' M hl h=>h) (fun x d d' M hl h=>⟨AN.mono (R:=Aw) B8 h.1 hl,BK.mono h.2.1 hl,h.2.2⟩) (fun x=>rfl) (fun x=>rfl) rfl ⟨rfl,rfl,rfl,rfl,trivial⟩ ?_ ?_ ?_
  ·(refine AX (fun _ _=>AW ?_));exact⟨_,rfl,(_,_),⟨rfl,trivial⟩,rfl⟩
  ·refine F8 (α:=Nat×TypeId) (β:=(Option Addr×Nat)×Value×Ag) [] (fun x=>[(57,.slice (some ⟨x.1,0,none⟩) 1 1)]) (fun x d L=>L=[bx x.1 x.2 A7])
    (fun x=>[(51,.slice x.1.1 (v.keys++[s.text]).length x.1.2),(55,x.2.1)]) (fun x d L=>RSl 1 A2 d (.slice x.1.1 (v.keys++[s.text]).length x.1.2) (v.keys++[s.text])∧AN 6 Aw d x.2.1 v.list x.2.2∧L=[x.2.2]) [] [] rfl
    (fun x d d' M hl h=>h) (fun x d d' M hl h=>⟨BK.mono h.1 hl,AN.mono (R:=Aw) B8 h.2.1 hl,h.2.2⟩) (fun x=>rfl) (fun x=>rfl) rfl trivial ?_ ?_ ?_
   ·refine D4 (cs:=A7) rfl rfl (fun b57 T57=>?_);refine AW ?_;exact⟨_,rfl,(b57,T57),⟨rfl,trivial⟩,rfl⟩
   ·refine F8 (α:=Nat×TypeId) (β:=Option Addr×Nat) [(54,.slice la v.list.length lc)] (fun x=>[(52,.slice (some ⟨x.1,0,none⟩) 0 0)]) (fun x d L=>L=[bx x.1 x.2 []])
     (fun x=>[(51,.slice x.1 (v.keys++[s.text]).length x.2)]) (fun x d L=>RSl 1 A2 d (.slice x.1 (v.keys++[s.text]).length x.2) (v.keys++[s.text])∧L=[]) [] [] rfl
     (fun x d d' M hl h=>h) (fun x d d' M hl h=>⟨BK.mono h.1 hl,h.2⟩) (fun x=>rfl) (fun x=>rfl) rfl ⟨rfl,trivial⟩ ?_ ?_ ?_
    ·refine DI (cs:=[]) (by omega) rfl (fun b52 T52=>?_);refine AW ?_;exact⟨_,rfl,(b52,T52),⟨rfl,trivial⟩,rfl⟩
    ·refine F8 (α:=Nat×TypeId) (β:=Value×Ag) [] (fun x=>[(50,.slice (some ⟨x.1,0,none⟩) 1 1)]) (fun x d L=>L=[bx x.1 x.2 [Al s.text]])
      (fun x=>[(47,x.1)]) (fun x d L=>AN 1 A2 d x.1 v.keys x.2∧L=[x.2]) [] [] rfl
      (fun x d d' M hl h=>h) (fun x d d' M hl h=>⟨AN.mono (R:=A2) Dl h.1 hl,h.2⟩) (fun x=>rfl) (fun x=>rfl) rfl trivial ?_ ?_ ?_
     ·refine E5 (v0:=Al s.text) rfl rfl (fun b50 T50=>?_);refine AW ?_;exact⟨_,rfl,(b50,T50),⟨rfl,trivial⟩,rfl⟩
     ·refine NA (R:=A2) (xs:=v.keys) Dl CQ (by omega) hks (fun _=>rfl) (by omega) (by omega) (fun v0 v1 g1 o1=>?_);refine AW ?_;exact⟨_,rfl,(v1,g1),⟨rfl,trivial⟩,o1,rfl⟩
     rintro⟨b50,T50⟩ ⟨v47,g47⟩ ρ d5 M1 M2 hl5 hM1 ⟨o47,hM2⟩;subst hM1;subst hM2;refine DH (R:=A2) 0 rfl rfl o47 rfl (AN.D8 (R:=A2) rfl ⟨rfl,it'⟩) CQ (by omega) (by simp;omega) (by simp;omega) (fun v51 g51 o51=>?_);obtain⟨a51,c51,rfl⟩:=o51.val;refine XQ (fun d6 hl6 hg6=>?_);exact⟨[],by simp,(a51,c51),⟨rfl,trivial⟩,o51.rsl Dl (by omega) hl6 hg6,rfl⟩
    rintro⟨b52,T52⟩ ⟨a51,c51⟩ ρ d5 M1 M2 hl5 hM1 ⟨r51,hM2⟩;subst hM1;subst hM2;refine CO (R:=Aw) (ys:=v.list) 0 rfl rfl (AN.Iw (R:=Aw) (sz:=6)) rfl (RSl.src (R:=Aw) (BL.mono hl hl5) AH (by omega) _) (by omega) (by simp;omega) (by simp;omega) (fun v55 g55 o55=>?_);rw[Z5] at o55;refine AW ?_;exact⟨_,rfl,((a51,c51),v55,g55),⟨rfl,rfl,trivial⟩,r51,o55,rfl⟩
   rintro⟨b57,T57⟩ ⟨⟨a51,c51⟩,v55,g55⟩ ρ d5 M1 M2 hl5 hM1 ⟨r51,o55,hM2⟩;subst hM1;subst hM2;refine DH (R:=Aw) 0 rfl rfl o55 rfl (AN.D8 (R:=Aw) rfl Aw.zero) AH (by omega) (by simp;omega) (by simp;omega) (fun v58 g58 o58=>?_);obtain⟨a58,c58,rfl⟩:=o58.val;refine BF (fun d6 hl6 hg6=>?_);have hmk:=ND (k:=s.text) hr hlens;have hku:∀k∈v.keys++[s.text],u8 k=true:=fun k hk=>by
    rcases ZK.1 hk with hk|hk
    ·exact(JT.1 hr).1 k hk
    ·rw[Z9.1 hk];exact hu s0
   have hrt:∀x∈v.list++[V.zero],AS x=0:=fun x hx=>by
    rcases ZK.1 hx with hx|hx
    ·have:=O7 hx;simp[AS,CR hmay hx,show Bc x≤48 by omega]
    ·rw[Z9.1 hx];decide
   refine AR rfl (h1 (hTm ht (hl5.trans hl6)) (BK.mono r51 hl6) (o58.rsl (R:=Aw) B8 (by omega) hl6 hg6) (by simp;omega) hku hrt (by simp;omega) (by rw[hmk];exact RO hdep)) (fun r d7 L7 hl7 ⟨a,c,qa,qc,h,hL,hrr,hg,hq⟩=>?_);subst hL;subst hrr;have e2:=congrArg V.list hmk;have e1:=congrArg V.keys hmk;simp only[V.list,V.keys] at e1 e2;rw[e1] at hq;rw[e2] at hg;rw[e1,e2];(refine Bj rfl<|AL rfl rfl<|AL rfl rfl<|AW ?_);exact⟨_,rfl,((a,c),(qa,qc),h),⟨rfl,rfl,trivial⟩,hg,hq,rfl⟩
  rintro⟨b9,T9⟩ ⟨⟨a,c⟩,⟨qa,qc⟩,h9⟩ ρ d7 M1 M2 hl7 hM1 ⟨hg,hq,hM2⟩;subst hM1;subst hM2;generalize hK:Cq v s.text V.zero=K at*;refine Az 0 [vZ 6,vZ 0,vZ 0,Al [],.slice a K.list.length c,.slice qa K.keys.length qc] rfl rfl rfl rfl (No rfl) rfl rfl ?_;(refine Ab rfl<|AW ?_);have hrk:rising K.keys=true:=by rw[←hK];exact KP hr (hu s0)
  have hmem:s.text∈K.keys:=by rw[←hK];simp[Cq]
  have hklen:K.keys.length=K.list.length:=by
   have:=ND (k:=s.text) hr hlens;rw[hK] at this;rw[←this];exact(Mk _ _ _).1
  have hset:(.mk 6 0 0 [] (K.list.set (AZ K.keys s.text) y) K.keys:V)=Cq v s.text y:=by rw[←hK];exact Vt hlens _ _
  obtain⟨hlt,_⟩:=(mem_iff hrk).1 hmem;obtain⟨bq,Tq,lq,cq,hvq,hhq,hlenq,hwq⟩:=hg.I6 (by omega) (m:=AZ K.keys s.text) (by omega);cases hvq;subst hhq;apply Ai;refine Dh [bx b8 T8 [vZ 6,vZ 5,vZ 5],bx b6 T6 A7,bx b5 T5 [vZ y.kind,vZ y.m,vZ y.e,Al y.text,.slice ya y.list.length yc,zv],bx b4 T4 [vZ s.kind,Al s.text,vZ s.src,vZ s.dst,.bool s.hf,.bool s.ht],bx b3 T3 [vZ v.kind,vZ v.m,vZ v.e,Al v.text,.slice la v.list.length lc,.slice ka v.keys.length kc],bx b9 T9 [vZ 6,vZ 0,vZ 0,Al [],.slice (some ⟨bq,0,none⟩) K.list.length c,.slice qa K.keys.length qc]] [bx bq Tq lq] rfl ?_;(refine Af rfl<|Ah rfl (Aj 5 rfl rfl)<|AD 5 rfl rfl rfl<|Af rfl<|Ah rfl (Aj 3 rfl rfl)<|AD 2 rfl rfl rfl ?_);refine K8 rfl (fun d9 hl9 hk9=>h2 (v:=.mk 6 0 0 [] K.list K.keys) (Aw.close (v:=.mk 6 0 0 [] K.list K.keys) G9 Ba Ba (by simp) (hg.rsl (R:=Aw) B8 (by omega) hl9 (hk9 _ (by simp))) (BK.mono hq hl9)) hrk) ?_;have e67:(if s.text∈(V.mk 6 0 0 [] K.list K.keys).keys then(AZ (V.mk 6 0 0 [] K.list K.keys).keys s.text:Int) else -1)=(AZ K.keys s.text:Nat):=if_pos hmem;rw[e67];refine Eh (AZ K.keys s.text) rfl rfl rfl (by omega) (SAd.some _ bq 0) ?_;(apply Bt);refine Az 6 (patch lq (AZ K.keys s.text*6) [vZ y.kind,vZ y.m,vZ y.e,Al y.text,.slice ya y.list.length yc,zv]) rfl rfl rfl rfl (by omega) (AH _ _ _ hy0) (by rw[Aac];rfl) ?_;have hgw:=hwq [vZ y.kind,vZ y.m,vZ y.e,Al y.text,.slice ya y.list.length yc,zv] y rfl (Aw.mono hl7 hy0);(refine Aa<|Ac<|AD 5 rfl rfl rfl ?_);refine Az 1 [vZ 6,vZ 0,vZ 0,Al [],.slice (some ⟨bq,0,none⟩) K.list.length c,.slice qa K.keys.length qc] rfl rfl rfl rfl (No rfl) rfl rfl ?_;(refine Ab rfl<|Aa<|Ar ?_);refine Iv [.agg [vZ 6,vZ 0,vZ 0,Al [],.slice (some ⟨bq,0,none⟩) K.list.length c,.slice qa K.keys.length qc].toArray,vZ 0] ⟨A3 1 rfl rfl rfl,A4 rfl,trivial⟩ (fun d' hld hk=>?_);refine⟨rfl,_,rfl,?_⟩
  rw[←hset];exact Aw.close (v:=.mk 6 0 0 [] (K.list.set (AZ K.keys s.text) y) K.keys) G9 Ba Ba (by simp) (hgw.rsl (R:=Aw) B8 (by omega) hld (hk _ (by simp))) (BK.mono hq hld)
 by_cases s2:s.kind=2
 ·have hv5:v.kind=0∨v.kind=5:=by omega
  have y5:y.kind=5:=by omega
  have hF:BP v s y=(.mk 5 0 0 [] (v.list.take (A5 s v.list.length).1.toNat++y.list++v.list.drop (A5 s v.list.length).2.toNat) [],0):=by
   rw[BP,if_neg (fun h=>s0 h.1),if_neg (fun h=>by omega),if_pos ⟨s2,hv5,y5⟩]
  rw[hF];have n1:=RSl.Be hl;have hends:=C8 s (k:=v.list.length) (by omega);(refine Ai<|Ac<|Af rfl<|Ah rfl (Aj 3 rfl rfl)<|Aq rfl rfl<|Aa<|Ao rfl (by omega)<|Am<|Ai<|Ac<|Af rfl<|Ah rfl (Aj 3 rfl rfl)<|Aq rfl rfl<|Aa<|Au rfl (by omega)<|Ac<|AD 3 rfl rfl rfl<|Af rfl<|Ah rfl (Aj 4 rfl rfl)<|AA rfl ?_);refine AF rfl (h3 hs (by omega) (by omega)) ?_;obtain⟨A,B,hab⟩:∃A B:Int,A5 s v.list.length=(A,B):=⟨_,_,rfl⟩
  rw[hab] at hends⊢;simp only at hends⊢;obtain⟨a,rfl⟩:∃a:Nat,A=(a:Int):=⟨A.toNat,by omega⟩
  obtain⟨b,rfl⟩:∃b:Nat,B=(b:Int):=⟨B.toNat,by omega⟩
  simp only[Z2];(refine Bj rfl<|AL rfl rfl<|AL rfl rfl<|Ab rfl<|Ab rfl<|Aa<|Ai ?_);refine AT ?_;(refine Af rfl<|Ah rfl (Aj 4 rfl rfl)<|Ab rfl ?_);refine GO (n:=a) rfl hl rfl rfl (by omega) (fun v86 r86=>?_);(refine Af rfl<|Ah rfl (Aj 2 rfl rfl) ?_);refine NA (R:=Aw) (xs:=v.list.take a) B8 AH (by omega) r86 (fun _=>rfl) (by simp;omega) (by simp;omega) (fun v82 v87 g87 o87=>?_);refine CO (R:=Aw) (ys:=y.list) 0 rfl rfl o87 rfl (RSl.src (R:=Aw) hyl AH (by omega) _) (by omega) (by simp;omega) (by simp;omega) (fun v90 g90 o90=>?_);obtain⟨a90,c90,rfl⟩:=o90.val;(refine Bt<|As rfl<|Aa<|Ac<|As rfl<|Af rfl<|Ah rfl (Aj 4 rfl rfl)<|Ab rfl ?_);refine DF (n:=b) rfl hl rfl rfl (by omega) (fun v95 r95=>?_);refine CO (R:=Aw) (ys:=v.list.drop b) 5 rfl rfl o90 rfl (RSl.src (R:=Aw) r95 AH (by omega) _) (by omega) (by simp;omega) (by simp;omega) (fun v96 g96 o96=>?_);obtain⟨a96,c96,rfl⟩:=o96.val;(apply DR;rfl;rfl);refine Az 1 [vZ 5,vZ 0,vZ 0,Al [],.slice a96 (v.list.take a++y.list++v.list.drop b).length c96,.slice none 0 0] rfl rfl rfl rfl (No rfl) rfl rfl ?_;(refine Ab rfl<|Aa<|Ar ?_);refine Iv [.agg [vZ 5,vZ 0,vZ 0,Al [],.slice a96 (v.list.take a++y.list++v.list.drop b).length c96,.slice none 0 0].toArray,vZ 0] ⟨A3 1 rfl rfl rfl,A4 rfl,trivial⟩ (fun d' hld hk=>?_);exact⟨rfl,_,rfl,Aw.close (v:=.mk 5 0 0 [] (v.list.take a++y.list++v.list.drop b) []) EB Ba Ba (by simp) (o96.rsl (R:=Aw) B8 (by omega) hld (hk _ (by simp))) RSl.nil⟩
 have s1:s.kind=1:=by omega
 have hv5:v.kind=0∨v.kind=5:=by omega
 have n1:=RSl.Be hl;obtain⟨p,hp⟩:∃p,Bm s.src v.list.length=p:=⟨_,rfl⟩
 have hF:BP v s y=if p<0∨4095<p then(V.zero,4) else(.mk 5 0 0 [] ((Cm v.list (p.toNat+1)).take p.toNat++[y]++(Cm v.list (p.toNat+1)).drop (p.toNat+1)) [],0):=by
  rw[BP,if_neg (fun h=>s0 h.1),if_pos ⟨s1,hv5⟩,hp]
 rw[hF];(refine Ai<|Ac<|Af rfl<|Ah rfl (Aj 3 rfl rfl)<|Aq rfl rfl<|Aa<|Ao rfl (by omega) ?_);apply Am;(refine Ai<|Ac<|Af rfl<|Ah rfl (Aj 3 rfl rfl)<|Aq rfl rfl<|Aa<|Ao rfl (by omega) ?_);apply Am;apply Ai;apply Ay;(refine Af rfl<|Ah rfl (Aj 3 rfl rfl)<|Ab rfl<|Aa ?_);refine Ct (fun ρ d2 L'=>d2=d'∧A9 ρ [(3,pZ b3),(4,pZ b4),(5,pZ b5),(6,pZ b6),(14,vZ p)]∧L'=[bx b8 T8 [vZ 6,vZ 5,vZ 5],bx b6 T6 A7,bx b5 T5 [vZ y.kind,vZ y.m,vZ y.e,Al y.text,.slice ya y.list.length yc,zv],bx b4 T4 [vZ s.kind,Al s.text,vZ s.src,vZ s.dst,.bool s.hf,.bool s.ht],bx b3 T3 [vZ v.kind,vZ v.m,vZ v.e,Al v.text,.slice la v.list.length lc,.slice ka v.keys.length kc]]) ?_ ?_
 ·by_cases q:s.src<0
  ·(refine Ac<|Ab rfl<|Ax rfl rfl<|Aa<|Au rfl (by omega)<|Ay<|Ab rfl<|Af rfl<|Ah rfl (Aj 4 rfl rfl)<|AA rfl<|AI rfl rfl (by omega) (by omega)<|Ab rfl<|Aa ?_);exact⟨rfl,⟨rfl,rfl,rfl,rfl,int_eq (by rw[←hp,Bm,if_pos q]),trivial⟩,rfl⟩
  ·(refine Ac<|Ab rfl<|Ax rfl rfl<|Aa<|Ao rfl (by omega)<|Am ?_);exact⟨rfl,⟨rfl,rfl,rfl,rfl,int_eq (by rw[←hp,Bm,if_neg q]),trivial⟩,rfl⟩
 rintro ρ d2 L' ⟨hdd,hsl,hL⟩;subst hdd;subst hL;refine Bo _ hsl ?_;clear hsl;by_cases q0:p<0
 ·rw[if_pos (.inl q0)];(refine Ai<|Ac<|Ab rfl<|Ax rfl rfl<|Ad rfl<|AE rfl (by omega)<|Ak rfl<|Ak rfl<|Ap rfl rfl<|Aa<|Bb rfl<|Ac<|Bl ?_);refine Az 1 A7 rfl rfl rfl rfl (No rfl) rfl rfl ?_;(refine Ab rfl<|Aa<|Ar ?_);exact Bh 1 rfl rfl rfl Aw.zero
 by_cases q1:4095<p
 ·rw[if_pos (.inr q1)];(refine Ai<|Ac<|Ab rfl<|Ax rfl rfl<|Ad rfl<|AB rfl (by omega)<|Ae rfl<|Ab rfl<|Ae rfl<|AP rfl rfl<|An rfl rfl<|Aa<|Au rfl (by omega)<|Ac<|Bl ?_);refine Az 1 A7 rfl rfl rfl rfl (No rfl) rfl rfl ?_;(refine Ab rfl<|Aa<|Ar ?_);exact Bh 1 rfl rfl rfl Aw.zero
 rw[if_neg (by omega)];clear hp hF;obtain⟨n,rfl⟩:∃n:Nat,p=(n:Int):=⟨p.toNat,by omega⟩
 simp only[Z2];(refine Ai<|Ac<|Ab rfl<|Ax rfl rfl<|Ad rfl<|AB rfl (by omega)<|Ae rfl<|Ab rfl<|Ae rfl<|AP rfl rfl<|An rfl rfl<|Aa<|Ao rfl (by omega)<|Am<|Ac ?_);refine DI (cs:=[]) (by omega) rfl (fun b114 T114=>?_);(refine Af rfl<|Ah rfl (Aj 5 rfl rfl) ?_);refine CO (R:=Aw) (ys:=v.list) 0 rfl rfl (AN.Iw (R:=Aw) (sz:=6)) rfl (RSl.src (R:=Aw) hl AH (by omega) _) (by omega) (by simp;omega) (by simp;omega) (fun v117 g117 o117=>?_);rw[Z5] at o117;obtain⟨a117,c117,rfl⟩:=o117.val;(refine As rfl<|Aa<|Ai<|Av ?_);refine Bg (α:=Nat×(Option Addr×Nat)) (fun x=>[(3,pZ b3),(4,pZ b4),(5,pZ b5),(6,pZ b6),(14,vZ n),(15,.slice x.2.1 (v.list++ZI x.1 V.zero).length x.2.2)])
  (fun x dd L'=>dd=d2∧(x.1=0∨v.list.length+x.1≤n+1)∧∃g,AN 6 Aw d2 (.slice x.2.1 (v.list++ZI x.1 V.zero).length x.2.2) (v.list++ZI x.1 V.zero) g∧L'=[g,bx b8 T8 [vZ 6,vZ 5,vZ 5],bx b6 T6 A7,bx b5 T5 [vZ y.kind,vZ y.m,vZ y.e,Al y.text,.slice ya y.list.length yc,zv],bx b4 T4 [vZ s.kind,Al s.text,vZ s.src,vZ s.dst,.bool s.hf,.bool s.ht],bx b3 T3 [vZ v.kind,vZ v.m,vZ v.e,Al v.text,.slice la v.list.length lc,.slice ka v.keys.length kc]])
  (fun x=>n+1 - x.1) (0,(a117,c117)) ⟨rfl,rfl,rfl,rfl,rfl,by simp[upd,HU],trivial⟩ ⟨rfl,.inl rfl,g117,by simpa using o117,rfl⟩ ?_
 rintro⟨m,a,c⟩ ρ d3 L' ⟨hdd,hm,g,hg,hL⟩;subst hdd;subst hL;simp only at hm hg⊢;have hlm:(v.list++ZI m V.zero).length=v.list.length+m:=by simp
 by_cases hc:v.list.length+m≤n
 ·(refine Ai<|Ac<|As rfl<|AA rfl<|Ab rfl<|CW rfl rfl<|Aa<|Au rfl (by omega)<|Am<|Av<|Ay<|As rfl<|Bl ?_);refine D4 (cs:=A7) rfl rfl (fun b124 T124=>?_);refine DH (R:=Aw) 0 rfl rfl hg rfl (AN.D8 (R:=Aw) rfl Aw.zero) AH (by omega) (by rw[hlm];simp;omega) (by rw[hlm];simp;omega) (fun v125 g125 o125=>?_);have e:v.list++ZI m V.zero++[V.zero]=v.list++ZI (m+1) V.zero:=by rw[Zy,List.replicate_succ']
  rw[e] at o125;obtain⟨a5,c5,rfl⟩:=o125.val;(refine As rfl<|Aa ?_);exact⟨(m+1,(a5,c5)),by simp only;omega,⟨rfl,rfl,rfl,rfl,rfl,rfl,trivial⟩,rfl,.inr (by simp only;omega),g125,o125,rfl⟩
 ·have hpad:Cm v.list (n+1)=v.list++ZI m V.zero:=by
   rw[Cm,show n+1 - v.list.length=m by omega]
  rw[hpad];generalize v.list++ZI m V.zero=l' at*;obtain⟨bq,Tq,lq,cq,hvq,hhq,hlenq,hwq⟩:=hg.I6 (by omega) (m:=n) (by omega);cases hvq;subst hhq;(refine Ai<|Ac<|As rfl<|AA rfl<|Ab rfl<|CW rfl rfl<|Aa<|Ao rfl (by omega)<|AV<|Ac<|As rfl<|Ab rfl<|AD 3 rfl rfl rfl ?_);refine Eh n rfl rfl rfl (by omega) (SAd.some _ bq 0) ?_;refine Az 0 (patch lq (n*6) [vZ y.kind,vZ y.m,vZ y.e,Al y.text,.slice ya y.list.length yc,zv]) rfl rfl rfl rfl (by omega) (AH _ _ _ hy0) (by rw[Aac];rfl) ?_;have hgw:=hwq [vZ y.kind,vZ y.m,vZ y.e,Al y.text,.slice ya y.list.length yc,zv] y rfl hy0;rw[R5 (by omega)] at hgw;(refine Aa<|Ac<|As rfl<|DR rfl rfl ?_);refine Az 2 [vZ 5,vZ 0,vZ 0,Al [],.slice (some ⟨bq,0,none⟩) l'.length c,.slice none 0 0] rfl rfl rfl rfl (No rfl) rfl rfl ?_;(refine Ab rfl<|Aa<|Ar ?_);refine Iv [.agg [vZ 5,vZ 0,vZ 0,Al [],.slice (some ⟨bq,0,none⟩) l'.length c,.slice none 0 0].toArray,vZ 0] ⟨A3 2 rfl rfl rfl,A4 rfl,trivial⟩ (fun d' hld hk=>?_);exact⟨rfl,_,rfl,Aw.close (v:=.mk 5 0 0 [] (l'.take n++[y]++l'.drop (n+1)) []) EB Ba Ba (by simp) (hgw.rsl (R:=Aw) B8 (by omega) hld (hk _ (by simp))) RSl.nil⟩
end Go.Gk.Val
end
section
namespace Go.Gk.Val
open Go Go.Gk Go.Gk.Utf
def K4:∀(l:List St) {v x:V}{N:Nat},Gd v→BH x=true→l.all Ca=true→Bc v≤N→Bc x≤N→(Ch v l x).2=0→BH (Ch v l x).1=true∧Bc (Ch v l x).1≤N+l.length
 |[],v,x,N,_,hx,_,_,hd,_=>⟨hx,by simpa [Ch] using hd⟩
 |s::l,v,x,N,hg,hx,hs,hdv,hdx,h=>by
  rw[List.all_cons,Zz] at hs;by_cases h1:(AU v s).2≠0
  ·rw[Ch,if_pos h1] at h;exact absurd h h1
  by_cases h2:(Ch (AU v s).1 l x).2≠0
  ·rw[Ch,if_neg h1,if_pos h2] at h;exact absurd h h2
  rw[Ch,if_neg h1,if_neg h2] at h⊢;obtain⟨hm,hd⟩:=K4 l (Gu hg s) hx hs.2 (Aaf (I1 v s) hdv) hdx (by omega);have:=Vj (N:=N+(l.length+1)) hg.1 hm hs.1 h (by omega) (by omega) (fun _=>by omega);simpa using this
def Lu(v:V)(l:List St)(x:V):V×Int:=
 if (Ch v l x).2≠0 then(V.zero,(Ch v l x).2) else if 48<Bc (Ch v l x).1 then(V.zero,31) else((Ch v l x).1,0)
def WD{v x:V}{l:List St}(h1:AS v=0)(h2:AS x=0)(h3:Cw v l=0)(hb:Bq v≤1000000000):CG v l x=Lu v l x:=by
 have hg:=Gv h1 hb;have hs:=(Pl.1 h3).2;obtain⟨_,hd⟩:=CE.1 h1;obtain⟨hm,hx⟩:=CE.1 h2;rw[CG,Lu,if_neg (by omega),if_neg (by omega),if_neg (by omega)];by_cases h4:(Ch v l x).2≠0
 ·rw[if_pos h4,if_pos h4]
 rw[if_neg h4,if_neg h4];obtain⟨ha,_⟩:=K4 l hg hm hs hd hx (by omega);rw[AS,ha];by_cases h5:Bc (Ch v l x).1≤48
 ·rw[if_pos h5,if_pos rfl,if_neg (by omega),if_neg (by omega)]
 ·rw[if_neg h5,if_pos (by omega),if_pos (by omega)]
end Go.Gk.Val
end
section
namespace Go.Gk.Val
open Go Go.Gk Go.Gk.Utf
attribute [local irreducible] gwp gws
def N8(T:Ag→Prop)(P:Program)(f:FuncId):Prop:=∀(l:List St) {d cs es w}{v x:V},T d→Aw d cs v→Gd v→Bc v≤48→Bq v≤1000000→RSl 6 RSt d w l→(∀s∈l,Rh s)→Aw d es x→Cc x≤1000000→l.length≤100→
 A8 P f [.agg cs.toArray,w,.agg es.toArray] d [] (Ret fun r d' L'=>L'=[]∧∃cs',r=.tuple #[.agg cs'.toArray,vZ (Ch v l x).2]∧Aw d' cs' (Ch v l x).1)
def KW(a0 a1 a2:Nat):A6:=⟨44,[(.cell 6 (some 6)),(.tmp 7)],(sR (o1 3 (.box 0)<|o1 5 (.box 2)<|o1 6 (.alo (.agg #[(vZ 0),(vZ 0),(vZ 0),(Al []),(.slice none 0 0),(.slice none 0 0)]))<|o1 7 (.mv z0) .done) (.seq (sR (om 10 1<|oL 11 10<|ob 12 .eql 11 z0 .done) (.cond 12 (sR (o1 13 (.ld (some 6) 5)<|o0 (.st 6 6 13)<|o1 7 (.mv z0) .done) .ret) .skip)) (.seq (.reg true (pm 16 1<|p1 17 (.idx 6 16 z0)<|p1 18 (.ld (some 6) 17) (.par (o1 8 (.alo (.agg #[(vZ 0),(vZ 0),(vZ 0),(Al []),(.slice none 0 0),(.slice none 0 0)])) .done) (o1 15 (.ld (some 6) 3) (oc 19 a0 [15,18] (pm 14 19 (p1 20 (.ext 14 0) (p1 21 (.ext 14 1) .done))))) (o0 (.st 6 8 20) (pm 9 21 .done))))) (.seq (sR (om 22 9<|ob 23 .eql 22 z0 .done) (.cond 23 (.reg true (pm 26 1<|p1 27 (.sl 6 26 (some z1) none none) (.par (o1 28 (.ld (some 6) 5) .done) (o1 25 (.ld (some 6) 8) .done) (oc 29 a1 [25,27,28] (pm 24 29 (p1 30 (.ext 24 0) (p1 31 (.ext 24 1) (o0 (.st 6 8 30) (pm 9 31 .done))))))))) .skip)) (.seq (sR (om 32 9<|ob 33 .eql 32 z0 .done) (.cond 33 (.seq (.reg true (p1 34 (.ld (some 6) 3)<|pm 35 1<|p1 36 (.idx 6 35 z0)<|p1 37 (.ld (some 6) 36)<|p1 38 (.ld (some 6) 8)<|oc 39 a2 [34,37,38]<|p1 40 (.ext 39 0)<|p1 41 (.ext 39 1) (.bar (o0 (.st 6 6 40) (pm 7 41 .done))))) .ret) .skip)) (sR (o1 42 (.bld [(0,1),(1,2),(3,1),(4,1),(5,1)] [(vZ 0),(vZ 0),(vZ 0),(Al []),(.slice none 0 0),(.slice none 0 0)] [])<|om 43 9<|o0 (.st 6 6 42)<|om 7 43 .done) .ret))))))⟩
set_option maxHeartbeats 2000000 in
def VO{T:Ag→Prop}(hTm:∀{d d'},T d→Le d d'→T d'){P f f1 f2}(hd:I7 P f=some (KW f1 f f2))(h1:GR P f1)(h2:Nn T P f2):N8 T P f:=by
 intro l;induction l with
 |nil=>
  intro d cs es w v x ht hv hg hdep hb hw hst hx hbx hll
  obtain⟨a,c,rfl⟩:=RSl.val hw
  refine Bd hd (No rfl) ?_
  obtain⟨c0,c1,c2,c3,c4,c5,rfl⟩:=six hv.len
  obtain⟨x0,x1,x2,x3,x4,x5,rfl⟩:=six hx.len
  show gwp P _ _ _ _ _
  apply Ai;apply Ay
  refine AO (l:=[c0,c1,c2,c3,c4,c5]) rfl (fun b3 T3=>?_)
  refine AO (l:=[x0,x1,x2,x3,x4,x5]) rfl (fun b5 T5=>?_)
  have hz:(([]:List St).length:Int)=0:=rfl
  (refine AX (fun _ _=>Ab rfl<|Aa<|Ai<|Ac<|As rfl<|AA rfl<|Aq rfl rfl<|Aa<|Au rfl (by omega)<|Ac<|AD 1 rfl rfl rfl ?_))
  refine Az 0 [x0,x1,x2,x3,x4,x5] rfl rfl rfl rfl (No rfl) (AH _ _ _ hx) rfl ?_
  (refine Ab rfl<|Aa<|Ar ?_)
  exact Bh 0 rfl rfl rfl hx
 |cons s l ih=>
  intro d cs es w v x ht hv hg hdep hb hw hst hx hbx hll
  have n1:=RSl.Be hw
  obtain⟨a,c,rfl⟩:=RSl.val hw
  have hw':=hw
  have hcnt:=Ld l (AU v s).1 x (Aaf (Dj v s) hb)
  have hcb:=Ec v
  have hlc:((s::l).length:Int)=l.length+1:=by simp
  have hso:=hst s (ZG ..)
  rw[ZU] at hll
  refine Bd hd (No rfl) ?_
  have hv0:=hv
  obtain⟨c0,c1,c2,c3,c4,c5,rfl⟩:=six hv.len
  obtain⟨x0,x1,x2,x3,x4,x5,rfl⟩:=six hx.len
  show gwp P _ _ _ _ _
  apply Ai;apply Ay
  refine AO (l:=[c0,c1,c2,c3,c4,c5]) rfl (fun b3 T3=>?_)
  refine AO (l:=[x0,x1,x2,x3,x4,x5]) rfl (fun b5 T5=>?_)
  (refine AX (fun _ _=>Ab rfl<|Aa ?_))
  rename_i b6 T6
  apply Ai;apply Ai;apply Ay
  (refine As rfl<|AA rfl<|Aq rfl rfl<|Aa ?_)
  refine Ao rfl (by omega) ?_
  apply Am
  apply Ai
  refine AT ?_
  (refine As rfl<|AJ (m:=0) (sz:=6) (R:=RSt) (by rfl) (by assumption) (by rfl) rfl (by omega) ?_;rintro _ _ _ _ _ ⟨rfl,_,_,_,_⟩;apply BE;rfl;assumption;rfl)
  rename_i hcs hD ik' it' is id
  have hS:RSt d [vZ s.kind,Al s.text,vZ s.src,vZ s.dst,.bool s.hf,.bool s.ht] s:=⟨rfl,ik',it',is,id⟩
  refine F8 (α:=Nat×TypeId) (β:=List Value) [(1,.slice a (s::l).length c),(3,pZ b3),(5,pZ b5),(6,pZ b6)] (fun x=>[(8,.pointer (some ⟨x.1,0,none⟩))]) (fun x d L=>L=[bx x.1 x.2 A7])
   (fun y=>[(20,.agg y.toArray),(21,vZ (AU v s).2)]) (fun y d L=>Aw d y (AU v s).1∧L=[]) [] [] rfl
   (fun x d d' M hl h=>h) (fun y d d' M hl h=>⟨Aw.mono hl h.1,h.2⟩) (fun x=>rfl) (fun y=>rfl) rfl ⟨rfl,rfl,rfl,rfl,trivial⟩ ?_ ?_ ?_
  ·(refine AX (fun _ _=>AW ?_))
   exact⟨_,rfl,(_,_),⟨rfl,trivial⟩,rfl⟩
  ·(apply AD 2;rfl;rfl;rfl)
   refine AR rfl (h1 hv (EF hg) (FY hg) hS) (fun r d3 L3 _ ⟨hdd,hL,cs',hr,hR'⟩=>?_)
   subst hdd;subst hL;subst hr
   (refine Bj rfl<|AL rfl rfl<|AL rfl rfl<|AW ?_)
   exact⟨_,rfl,cs',⟨rfl,rfl,trivial⟩,hR',rfl⟩
  rintro⟨b8,T8⟩ cs' ρ d' M1 M2 hl1 hM1 ⟨hR,hM2⟩
  subst hM1;subst hM2
  obtain⟨e0,e1,e2,e3,e4,e5,rfl⟩:=six hR.len
  refine Az 0 [e0,e1,e2,e3,e4,e5] rfl rfl rfl rfl (No rfl) (AH _ _ _ hR) rfl ?_
  (refine Ab rfl<|AW ?_)
  have ht1:=hTm ht hl1
  have hv1:=Aw.mono hl1 hv0
  have hx1:=Aw.mono hl1 hx
  have hw1:RSl 6 RSt d' (.slice a (s::l).length c) (s::l):=RSl.mono (R:=RSt) (fun hl h=>h) hw' hl1
  by_cases he:(AU v s).2≠0
  ·rw[Ch,if_pos he]
   (refine Ai<|Ac<|Ab rfl<|Aq rfl rfl<|Aa<|Ao rfl (by omega)<|Am<|Ai<|Ac<|Ab rfl<|Aq rfl rfl<|Aa<|Ao rfl (by omega)<|Am<|Ac<|Bl<|Ab rfl ?_)
   refine Az 0 A7 rfl rfl rfl rfl (No rfl) rfl rfl ?_
   (refine Ab rfl<|Aa<|Ar ?_)
   exact Bh 0 rfl rfl rfl Aw.zero
  rw[Ch,if_neg he]
  (refine Ai<|Ac<|Ab rfl<|Aq rfl rfl<|Aa<|Au rfl (by omega) ?_)
  refine Dh [bx b6 T6 A7,bx b5 T5 [x0,x1,x2,x3,x4,x5],bx b3 T3 [c0,c1,c2,c3,c4,c5]] [bx b8 T8 [e0,e1,e2,e3,e4,e5]] rfl ?_
  (apply As;rfl)
  refine DF (n:=1) rfl hw1 rfl rfl (by simp) (fun v' hv'=>?_)
  refine F8 (α:=Unit) (β:=Unit) [(1,.slice a (s::l).length c),(3,pZ b3),(5,pZ b5),(6,pZ b6),(8,pZ b8),(27,v')]
   (fun _=>[(28,.agg [x0,x1,x2,x3,x4,x5].toArray)]) (fun _ _ L=>L=[]) (fun _=>[(25,.agg [e0,e1,e2,e3,e4,e5].toArray)]) (fun _ _ L=>L=[bx b8 T8 [e0,e1,e2,e3,e4,e5]]) [] [bx b8 T8 [e0,e1,e2,e3,e4,e5]] rfl
   (fun _ _ _ _ _ h=>h) (fun _ _ _ _ _ h=>h) (fun _=>rfl) (fun _=>rfl) rfl ⟨rfl,rfl,rfl,rfl,rfl,rfl,trivial⟩ ?_ ?_ ?_
  ·(refine AD 1 rfl rfl rfl<|AW ?_)
   exact⟨_,rfl,(),⟨rfl,trivial⟩,rfl⟩
  ·(refine AD 3 rfl rfl rfl<|AW ?_)
   exact⟨_,rfl,(),⟨rfl,trivial⟩,rfl⟩
  rintro - - ρ d9 M1 M2 hlp hM1 hM2
  subst hM1;subst hM2
  have hR:=Aw.mono hlp hR
  have ht1:=hTm ht1 hlp
  have hv1:=Aw.mono hlp hv1
  have hx1:=Aw.mono hlp hx1
  have hw1:RSl 6 RSt d9 (.slice a (s::l).length c) (s::l):=RSl.mono (R:=RSt) (fun hl h=>h) hw1 hlp
  have hv':=RSl.mono (R:=RSt) (fun hl h=>h) hv' hlp
  refine AR rfl (ih ht1 hR (Gu hg s) (Aaf (I1 v s) hdep) (Aaf (Dj v s) hb) hv' (fun x hx=>hst x (ZE _ hx)) hx1 hbx (by omega)) (fun r d4 L4 hl4 ⟨hL,cs',hr,hR'⟩=>?_)
  subst hL;subst hr
  obtain⟨f0,f1',f2',f3',f4',f5,rfl⟩:=six hR'.len
  (refine Bj rfl<|AL rfl rfl<|AL rfl rfl ?_)
  refine Az 0 [f0,f1',f2',f3',f4',f5] rfl rfl rfl rfl (No rfl) (AH _ _ _ hR') rfl ?_
  by_cases he2:(Ch (AU v s).1 l x).2≠0
  ·rw[if_pos he2]
   (refine Ab rfl<|AW<|Ai<|Ac<|Ab rfl<|Aq rfl rfl<|Aa<|Ao rfl (by omega)<|Am<|Ac<|Bl<|Ab rfl ?_)
   refine Az 0 A7 rfl rfl rfl rfl (No rfl) rfl rfl ?_
   (refine Ab rfl<|Aa<|Ar ?_)
   exact Bh 0 rfl rfl rfl Aw.zero
  rw[if_neg he2]
  have hw4:RSl 6 RSt d4 (.slice a (s::l).length c) (s::l):=RSl.mono (R:=RSt) (fun hl h=>h) hw1 hl4
  (refine Ab rfl<|AW<|Ai<|Ac<|Ab rfl<|Aq rfl rfl<|Aa<|Au rfl (by omega)<|Ai ?_)
  refine AT ?_
  (refine AD 2 rfl rfl rfl<|As rfl<|AJ (m:=0) (sz:=6) (R:=RSt) (by rfl) (by assumption) (by rfl) rfl (by omega) ?_;rintro _ _ _ _ _ ⟨rfl,_,_,_,_⟩;refine BE rfl (by assumption) rfl<|AD 3 rfl rfl rfl ?_)
  refine AR rfl (h2 (hTm ht1 hl4) (Aw.mono hl4 hv1) hg.1 hdep hS hso.1 hso.2.1 hso.2.2 hR' (by omega)) (fun r d5 L5 hl5 ⟨hL,cs',hr,hR2⟩=>?_)
  subst hL;subst hr
  obtain⟨g0,g1,g2,g3,g4,g5,rfl⟩:=six hR2.len
  (refine AL rfl rfl<|AL rfl rfl<|Bt ?_)
  refine Az 0 [g0,g1,g2,g3,g4,g5] rfl rfl rfl rfl (No rfl) (AH _ _ _ hR2) rfl ?_
  (refine Ab rfl<|Aa<|Ar ?_)
  exact Bh 0 rfl rfl rfl hR2
def QS(T:Ag→Prop)(P:Program)(f:FuncId):Prop:=∀{d cs es w}{v x:V}{l:List St},T d→Aw d cs v→RSl 6 RSt d w l→Aw d es x→Bq v≤1000000→Bq x≤1000000→l.length≤100→
 A8 P f [.agg cs.toArray,w,.agg es.toArray] d [] (Ret fun r d' L'=>L'=[]∧∃cs',r=.tuple #[.agg cs'.toArray,vZ (CG v l x).2]∧Aw d' cs' (CG v l x).1)
def Ir(v:V)(l:List St)(x:V):Int:=if AS v≠0 then AS v else if AS x≠0 then AS x else Cw v l
def Xy{v x:V}{l:List St}(h:Ir v l x≠0):CG v l x=(V.zero,Ir v l x):=by
 unfold Ir at h⊢;rw[CG];by_cases h1:AS v≠0
 ·rw[if_pos h1,if_pos h1]
 rw[if_neg h1] at h;rw[if_neg h1,if_neg h1];by_cases h2:AS x≠0
 ·rw[if_pos h2,if_pos h2]
 rw[if_neg h2] at h;rw[if_neg h2,if_neg h2,if_pos h]
def XB{v x:V}{l:List St}(h:Ir v l x=0):AS v=0∧AS x=0∧Cw v l=0:=by
 unfold Ir at h;by_cases h1:AS v≠0
 ·rw[if_pos h1] at h;exact absurd h h1
 rw[if_neg h1] at h;by_cases h2:AS x≠0
 ·rw[if_pos h2] at h;exact absurd h h2
 rw[if_neg h2] at h;exact⟨by simpa using h1,by simpa using h2,h⟩
def KH(a0 a1 a2 a3:Nat):A6:=⟨43,[(.cell 6 (some 6)),(.tmp 7)],(sR (o1 3 (.box 0)<|o1 5 (.box 2)<|o1 6 (.alo (.agg #[(vZ 0),(vZ 0),(vZ 0),(Al []),(.slice none 0 0),(.slice none 0 0)]))<|o1 7 (.mv z0) .done) (sR (o1 10 (.ld (some 6) 3)<|oc 11 a0 [10]<|om 8 11 .done) (.seq (sR (om 12 8<|ob 13 .eql 12 z0 .done) (.cond 13 (rG (o1 14 (.ld (some 6) 5)<|oc 15 a0 [14]<|om 8 15 .done)) .skip)) (.seq (sR (om 16 8<|ob 17 .eql 16 z0 .done) (.cond 17 (rG (om 18 1<|oc 19 a1 [18]<|om 8 19 .done)) .skip)) (.seq (sR (om 20 8<|ob 21 .neq 20 z0 .done) (.cond 21 (sR (o1 22 (.bld [(0,1),(1,2),(3,1),(4,1),(5,1)] [(vZ 0),(vZ 0),(vZ 0),(Al []),(.slice none 0 0),(.slice none 0 0)] [])<|om 23 8<|o0 (.st 6 6 22)<|om 7 23 .done) .ret) .skip)) (sR (o1 25 (.ld (some 6) 3)<|om 26 1<|o1 27 (.ld (some 6) 5)<|oc 28 a2 [25,26,27]<|om 24 28<|oe 29 24 0<|oe 30 24 1<|o1 9 (.alo (.agg #[(vZ 0),(vZ 0),(vZ 0),(Al []),(.slice none 0 0),(.slice none 0 0)]))<|o0 (.st 6 9 29)<|om 8 30 .done) (.seq (sR (om 31 8<|ob 32 .eql 31 z0<|om 33 32<|oT 34 33 (.ld (some 6) 9)<|oT 35 33 (.call a3 [34])<|oT 36 33 (.bin .gtr 35 (kZ 48))<|gP 37 33 36 .done) (.cond 37 (rG (o1 8 (.mv (kZ 31)) .done)) .skip)) (.seq (sR (om 38 8<|ob 39 .neq 38 z0 .done) (.cond 39 (sR (o1 40 (.bld [(0,1),(1,2),(3,1),(4,1),(5,1)] [(vZ 0),(vZ 0),(vZ 0),(Al []),(.slice none 0 0),(.slice none 0 0)] [])<|om 41 8<|o0 (.st 6 6 40)<|om 7 41 .done) .ret) .skip)) (sR (o1 42 (.ld (some 6) 9)<|o0 (.st 6 6 42)<|o1 7 (.mv z0) .done) .ret)))))))))⟩
set_option maxHeartbeats 1000000 in
def XP{T:Ag→Prop}(hTm:∀{d d'},T d→Le d d'→T d'){P f f1 f2 f3 f4}(hd:I7 P f=some (KH f1 f2 f3 f4))(h1:EW T P f1)(h2:Jx T P f2)(h3:N8 T P f3)(h4:Gt P f4):QS T P f:=by
 intro d cs es w v x l ht hv hw hx hb hbx hll;have n1:=RSl.Be hw;obtain⟨a,c,rfl⟩:=RSl.val hw;refine Bd hd (No rfl) ?_;have hv0:=hv;have hx0:=hx;have hdep:=FX v;have hdepx:=FX x;have hcx:=Ec x;obtain⟨c0,c1,c2,c3,c4,c5,rfl⟩:=six hv.len;obtain⟨x0,x1,x2,x3,x4,x5,rfl⟩:=six hx.len;show gwp P _ _ _ _ _;apply Ai;apply Ay;refine AO (l:=[c0,c1,c2,c3,c4,c5]) rfl (fun b3 T3=>?_);refine AO (l:=[x0,x1,x2,x3,x4,x5]) rfl (fun b5 T5=>?_);(refine AX (fun _ _=>Ab rfl<|Aa ?_));rename_i b6 T6;apply Ai;apply Ay;(apply AD 2;rfl;rfl;rfl);refine AF rfl (h1 ht hv0 (by omega)) ?_;(refine Ab rfl<|Aa ?_);refine Ct (fun ρ d' L'=>d'=d∧A9 ρ [(1,.slice a l.length c),(3,pZ b3),(5,pZ b5),(6,pZ b6),(8,vZ (if AS v≠0 then AS v else AS x))]∧
  L'=[bx b6 T6 A7,bx b5 T5 [x0,x1,x2,x3,x4,x5],bx b3 T3 [c0,c1,c2,c3,c4,c5]]) ?_ ?_
 ·by_cases h0:AS v=0
  ·(refine Ac<|Ab rfl<|Aq rfl rfl<|Aa<|Au rfl (by omega)<|Ay<|AD 1 rfl rfl rfl ?_);refine AF rfl (h1 ht hx0 (by omega)) ?_;(refine Ab rfl<|Aa ?_);exact⟨rfl,⟨rfl,rfl,rfl,rfl,int_eq (by simp[h0]),trivial⟩,rfl⟩
  ·(refine Ac<|Ab rfl<|Aq rfl rfl<|Aa<|Ao rfl (by omega)<|Am ?_);exact⟨rfl,⟨rfl,rfl,rfl,rfl,int_eq (by simp[h0]),trivial⟩,rfl⟩
 rintro ρ d' L' ⟨hdd,hsl,hL⟩;subst hdd;subst hL;refine Bo _ hsl ?_;clear hsl;refine Ct (fun ρ e L'=>e=d'∧A9 ρ [(1,.slice a l.length c),(3,pZ b3),(5,pZ b5),(6,pZ b6),(8,vZ (Ir v l x))]∧
  L'=[bx b6 T6 A7,bx b5 T5 [x0,x1,x2,x3,x4,x5],bx b3 T3 [c0,c1,c2,c3,c4,c5]]) ?_ ?_
 ·by_cases h0:(if AS v≠0 then AS v else AS x)=0
  ·have hq:AS v=0∧AS x=0:=by
    by_cases q:AS v≠0
    ·rw[if_pos q] at h0;exact absurd h0 q
    ·rw[if_neg q] at h0;exact⟨by simpa using q,h0⟩
   (refine Ac<|Ab rfl<|Aq rfl rfl<|Aa<|Au rfl (by omega)<|Ay<|As rfl ?_);refine AF rfl (h2 ht hw) ?_;(refine Ab rfl<|Aa ?_);exact⟨rfl,⟨rfl,rfl,rfl,rfl,int_eq (by simp[Ir,Cw,hq.1,hq.2]),trivial⟩,rfl⟩
  ·(refine Ac<|Ab rfl<|Aq rfl rfl<|Aa<|Ao rfl (by omega)<|Am ?_);refine⟨rfl,⟨rfl,rfl,rfl,rfl,int_eq ?_,trivial⟩,rfl⟩
   unfold Ir;by_cases q:AS v≠0
   ·rw[if_pos q,if_pos q]
   ·rw[if_neg q] at h0⊢;rw[if_neg q,if_pos h0]
 rintro ρ d' L' ⟨hdd,hsl,hL⟩;subst hdd;subst hL;refine Bo _ hsl ?_;clear hsl;by_cases q:Ir v l x≠0
 ·rw[Xy q];(refine Ai<|Ac<|Ab rfl<|AG rfl rfl<|Aa<|Au rfl (by omega)<|Ac<|Bl<|Ab rfl ?_);refine Az 0 A7 rfl rfl rfl rfl (No rfl) rfl rfl ?_;(refine Ab rfl<|Aa<|Ar ?_);exact Bh 0 rfl rfl rfl Aw.zero
 have hw0:Ir v l x=0:=by omega
 obtain⟨q1,q2,q3⟩:=XB hw0;obtain⟨k1,k2,k3⟩:=KQ.1 q3;have hgd:=Gv q1 (by omega);rw[WD q1 q2 q3 (by omega)];(refine Ai<|Ac<|Ab rfl<|AG rfl rfl<|Aa<|Ao rfl (by omega)<|Am<|Ac<|AD 2 rfl rfl rfl<|As rfl<|AD 1 rfl rfl rfl ?_);refine AR rfl (h3 l ht hv0 hgd k2 hb hw (Sp k3) hx0 (by omega) hll) (fun r d2 L2 hl2 ⟨hL,cs',hr,hR⟩=>?_);subst hL;subst hr;obtain⟨g0,g1,g2,g3,g4,g5,rfl⟩:=six hR.len;(refine Bj rfl<|AL rfl rfl<|AL rfl rfl<|AX (fun _ _=>?_));rename_i b9 T9;refine Az 0 [g0,g1,g2,g3,g4,g5] rfl rfl rfl rfl (No rfl) (AH _ _ _ hR) rfl ?_;by_cases p1:(Ch v l x).2≠0
 ·rw[Lu,if_pos p1];(refine Ab rfl<|Aa<|Ai<|Ac<|Ab rfl<|Aq rfl rfl<|Ad rfl<|AB rfl (by omega)<|Ak rfl<|Ak rfl<|Ak rfl<|An rfl rfl<|Aa<|AK rfl<|Am<|Ai<|Ac<|Ab rfl<|AG rfl rfl<|Aa<|Au rfl (by omega)<|Ac<|Bl<|Ab rfl ?_);refine Az 1 A7 rfl rfl rfl rfl (No rfl) rfl rfl ?_;(refine Ab rfl<|Aa<|Ar ?_);exact Bh 1 rfl rfl rfl Aw.zero
 obtain⟨hm2,hd2⟩:=K4 l hgd (CE.1 q2).1 (Pl.1 q3).2 k2 (CE.1 q2).2 (by omega);have p2:(Ch v l x).2=0:=by omega
 rw[Lu,if_neg p1];(refine Ab rfl<|Aa<|Ai<|Ac<|Ab rfl<|Aq rfl rfl<|Ad rfl<|AE rfl (by omega)<|Ae rfl<|AD 0 rfl rfl rfl<|Ae rfl ?_);refine AF rfl (h4 _ hR (by omega)) ?_;by_cases p3:48<Bc (Ch v l x).1
 ·rw[if_pos p3];(refine Ae rfl<|AP rfl rfl<|Ap rfl rfl<|Aa<|Au rfl (by omega)<|Ay<|Ab rfl<|Aa<|Ai<|Ac<|Ab rfl<|AG rfl rfl<|Aa<|Au rfl (by omega)<|Ac<|Bl<|Ab rfl ?_);refine Az 1 A7 rfl rfl rfl rfl (No rfl) rfl rfl ?_;(refine Ab rfl<|Aa<|Ar ?_);exact Bh 1 rfl rfl rfl Aw.zero
 ·rw[if_neg p3];(refine Ae rfl<|AP rfl rfl<|Ap rfl rfl<|Aa<|Ao rfl (by omega)<|Am<|Ai<|Ac<|Ab rfl<|AG rfl rfl<|Aa<|Ao rfl (by omega)<|Am<|Ac<|AD 0 rfl rfl rfl ?_);refine Az 1 [g0,g1,g2,g3,g4,g5] rfl rfl rfl rfl (No rfl) (AH _ _ _ hR) rfl ?_;(refine Ab rfl<|Aa<|Ar ?_);exact Bh 1 rfl rfl rfl hR
def Ml(T:Ag→Prop)(P:Program)(f:FuncId):Prop:=∀{d cs es wv}{v x:V}{ws:List (List St)},T d→Aw d cs v→RSl 1 Cb d wv ws→Aw d es x→Hc v ws x→Bq x≤1000000→(∀w∈ws,w.length≤100)→
 A8 P f [.agg cs.toArray,wv,.agg es.toArray] d [] (Ret fun r d' L'=>L'=[]∧∃cs',r=.tuple #[.agg cs'.toArray,vZ (CJ v ws x).2]∧Aw d' cs' (CJ v ws x).1)
def Kz(a0 a1:Nat):A6:=⟨41,[(.cell 6 (some 6)),(.tmp 7)],(sR (o1 3 (.box 0)<|o1 5 (.box 2)<|o1 6 (.alo (.agg #[(vZ 0),(vZ 0),(vZ 0),(Al []),(.slice none 0 0),(.slice none 0 0)]))<|o1 7 (.mv z0) .done) (sR (o1 10 (.ld (some 6) 3)<|oc 11 a0 [10]<|om 8 11 .done) (.seq (sR (om 12 8<|ob 13 .eql 12 z0 .done) (.cond 13 (rG (o1 14 (.ld (some 6) 5)<|oc 15 a0 [14]<|om 8 15 .done)) .skip)) (.seq (sR (o1 9 (.mv z0) .done) (.block 0 (.loop (.seq (sR (om 16 9<|om 17 1<|oL 18 17<|ob 19 .lss 16 18<|om 20 19<|gT 21 20 8<|oT 22 20 (.bin .eql 21 z0)<|gP 23 20 22 .done) (.cond 23 .skip (.exit 0))) (.seq (.block 1 (.reg true (pm 28 1<|pm 29 9<|p1 30 (.idx 1 28 29)<|pl 31 30 (.alt ⟨(some 27),none,(.ld (some 6) 3)⟩ (o1 32 (.ld (some 6) 5) (oc 33 a1 [27,31,32] (pm 26 33 (p1 34 (.ext 26 0) (p1 35 (.ext 26 1) (o0 (.st 6 3 34) (pm 8 35 .done))))))) (o1 32 (.ld (some 6) 5) (o1 27 (.ld (some 6) 3) (oc 33 a1 [27,31,32] (pm 26 33 (p1 34 (.ext 26 0) (p1 35 (.ext 26 1) (o0 (.st 6 3 34) (pm 8 35 .done)))))))))))) (rG (om 24 9<|ob 25 .add 24 z1<|om 9 25 .done))))))) (.seq (sR (om 36 8<|ob 37 .neq 36 z0 .done) (.cond 37 (sR (o1 38 (.bld [(0,1),(1,2),(3,1),(4,1),(5,1)] [(vZ 0),(vZ 0),(vZ 0),(Al []),(.slice none 0 0),(.slice none 0 0)] [])<|om 39 8<|o0 (.st 6 6 38)<|om 7 39 .done) .ret) .skip)) (sR (o1 40 (.ld (some 6) 3)<|o0 (.st 6 6 40)<|o1 7 (.mv z0) .done) .ret))))))⟩
set_option maxHeartbeats 4000000 in
def UB{T:Ag→Prop}{P f f1 f2}(hTm:∀{d d'},Le d d'→T d→T d')(hd:dec P f=some (Kz f1 f2))(h1:EW T P f1)(h2:QS T P f2):Ml T P f:=by
 intro d cs es wv v x ws ht hv hws hx hB hcx hwb;refine Bd hd (No rfl) ?_;have hvc:=AH _ _ _ hv;have hxc:=AH _ _ _ hx;have hdv:=FX v;have hdx:=FX x;have hbt:=hB.txt;obtain⟨c0,c1,c2,c3,c4,c5,rfl⟩:=six hv.len;obtain⟨e0,e1,e2,e3,e4,e5,rfl⟩:=six hx.len;have n1:=RSl.Be hws;obtain⟨wa,wc,rfl⟩:=RSl.val hws;have hws0:RSl 1 Cb d (.slice wa ws.length wc) ws:=hws;show gwp P _ _ _ _ _;apply Ai;apply Ay;refine AO (l:=[c0,c1,c2,c3,c4,c5]) rfl (fun b3 T3=>?_);refine AO (l:=[e0,e1,e2,e3,e4,e5]) rfl (fun b5 T5=>?_);(refine AX (fun _ _=>Ab rfl<|Aa<|Ac<|AD 2 rfl rfl rfl ?_));rename_i b6 T6;refine AF rfl (h1 ht hv (by omega)) ?_;(refine Ab rfl<|Aa<|Ai<|Ac<|Ab rfl<|Aq rfl rfl<|Aa ?_);show gwp P _ _ _ _ _;refine N4 (fun ρ d5 L5=>d5=d∧∃e,A9 ρ [(1,.slice wa ws.length wc),(3,pZ b3),(5,pZ b5),(6,pZ b6),(8,vZ e)]∧
  (e≠0→CJ v ws x=(V.zero,e))∧(e=0→CJ v ws x=GF v ws x)∧L5=[bx b6 T6 A7,bx b5 T5 [e0,e1,e2,e3,e4,e5],bx b3 T3 [c0,c1,c2,c3,c4,c5]]) ?_ ?_
 ·by_cases hr:AS v=0
  ·(refine Au rfl (by omega)<|Ay<|AD 1 rfl rfl rfl ?_);refine AF rfl (h1 ht hx (by omega)) ?_;(refine Ab rfl<|Aa ?_);exact⟨rfl,AS x,⟨rfl,rfl,rfl,rfl,rfl,trivial⟩,fun q=>by rw[CJ,if_neg (fun k=>k hr),if_pos q],fun q=>by rw[CJ,if_neg (fun k=>k hr),if_neg (fun k=>k q)],rfl⟩
  ·(refine Ao rfl (by omega)<|Am ?_);exact⟨rfl,AS v,⟨rfl,rfl,rfl,rfl,rfl,trivial⟩,fun q=>by rw[CJ,if_pos q],fun q=>absurd q hr,rfl⟩
 rintro ρ d5 L5 ⟨hdd,e,hsl,he1,he2,hL⟩;subst hdd;subst hL;show gwp P _ _ _ _ _;refine Bo _ hsl ?_;clear hsl;(refine Ai<|Ac<|Ab rfl<|Aa<|Av ?_);refine Bg (α:=Nat×Int) (fun p=>[(1,.slice wa ws.length wc),(3,pZ b3),(5,pZ b5),(6,pZ b6),(8,vZ p.2),(9,vZ p.1)])
  (fun p d' L'=>Le d5 d'∧p.1≤ws.length∧(p.2≠0→CJ v ws x=(V.zero,p.2))∧∃v' a0 a1 a2 a3 a4 a5,(p.2=0→Aw d' [a0,a1,a2,a3,a4,a5] v'∧Hc v' (ws.drop p.1) x∧CJ v ws x=GF v' (ws.drop p.1) x)∧L'=[bx b6 T6 A7,bx b5 T5 [e0,e1,e2,e3,e4,e5],bx b3 T3 [a0,a1,a2,a3,a4,a5]]) (fun p=>ws.length - p.1) (0,e)
  ⟨rfl,rfl,rfl,rfl,rfl,rfl,trivial⟩ ⟨Le.refl _,ZN _,he1,v,c0,c1,c2,c3,c4,c5,fun q=>⟨hv,hB,he2 q⟩,rfl⟩ ?_
 rintro⟨i,e'⟩ ρ d2 L' ⟨hl2,hi,hz,v',a0,a1,a2,a3,a4,a5,hs,hL⟩;simp only at hi hz hs⊢;subst hL;clear he1 he2;by_cases hc:i<ws.length
 ·by_cases hez:e'=0
  ·subst hez;obtain⟨hv',hB',hpf⟩:=hs rfl;clear hs hz;have hws2:RSl 1 Cb d2 (.slice wa ws.length wc) ws:=RSl.mono (R:=Cb) DW hws0 hl2;have ht2:=hTm hl2 ht;have hx2:=hx.mono hl2;rw[←Abo hc,GF] at hpf;rw[←Abo hc] at hB';obtain⟨hb1,hB2⟩:=hB';have hwl:=hwb _ (ZC hc);have hva:=AH _ _ _ hv';(refine Ai<|Ac<|Ab rfl<|As rfl<|AA rfl<|Ax rfl rfl<|Ad rfl<|AE rfl (by omega)<|Ae rfl<|Ab rfl<|Ae rfl<|Aq rfl rfl<|Ap rfl rfl<|Aa<|Au rfl (by omega)<|Am<|Ai<|Av ?_);refine Dh [bx b6 T6 A7,bx b5 T5 [e0,e1,e2,e3,e4,e5]] [bx b3 T3 [a0,a1,a2,a3,a4,a5]] rfl ?_;(refine As rfl<|Ab rfl ?_);refine AJ (sz:=1) (R:=Cb) rfl hws2 rfl rfl hc (fun bq oq csq hcq hDq ⟨u,hu,hw⟩=>?_);subst hu;obtain⟨ua,uc,rfl⟩:=RSl.val hw;have hput:=h2 ht2 hv' hw hx2 hb1 hcx hwl;(apply Ah;rfl;exact A1 (by assumption) rfl);refine Dx ?_ ?_
   ·(refine AD 2 rfl rfl rfl<|AD 1 rfl rfl rfl ?_);refine AR rfl hput (fun r d7 L7 hl7 ⟨hL,cs',hr',hR⟩=>?_);subst hL;subst hr';have hRc:=AH _ _ _ hR;obtain⟨g0,g1,g2,g3,g4,g5,rfl⟩:=six hR.len;(refine Bj rfl<|AL rfl rfl<|AL rfl rfl ?_);refine Az 0 [g0,g1,g2,g3,g4,g5] rfl rfl rfl rfl (No rfl) hRc rfl ?_;(refine Ab rfl<|AW<|Ay<|Ab rfl<|AI rfl rfl (by omega) (by omega)<|Ab rfl<|Aa ?_);exact⟨(i+1,(CG v' ws[i] x).2),by simp only;omega,⟨rfl,rfl,rfl,rfl,rfl,int_eq (by simp),trivial⟩,hl2.trans hl7,hc,fun q=>by rw[hpf,if_pos q],_,g0,g1,g2,g3,g4,g5,fun q=>⟨hR,hB2,by rw[hpf,if_neg (fun k=>k q)]⟩,rfl⟩
   ·(refine AD 1 rfl rfl rfl<|AD 2 rfl rfl rfl ?_);refine AR rfl hput (fun r d7 L7 hl7 ⟨hL,cs',hr',hR⟩=>?_);subst hL;subst hr';have hRc:=AH _ _ _ hR;obtain⟨g0,g1,g2,g3,g4,g5,rfl⟩:=six hR.len;(refine Bj rfl<|AL rfl rfl<|AL rfl rfl ?_);refine Az 0 [g0,g1,g2,g3,g4,g5] rfl rfl rfl rfl (No rfl) hRc rfl ?_;(refine Ab rfl<|AW<|Ay<|Ab rfl<|AI rfl rfl (by omega) (by omega)<|Ab rfl<|Aa ?_);exact⟨(i+1,(CG v' ws[i] x).2),by simp only;omega,⟨rfl,rfl,rfl,rfl,rfl,int_eq (by simp),trivial⟩,hl2.trans hl7,hc,fun q=>by rw[hpf,if_pos q],_,g0,g1,g2,g3,g4,g5,fun q=>⟨hR,hB2,by rw[hpf,if_neg (fun k=>k q)]⟩,rfl⟩
  ·clear hs;have hz:=hz hez;rewrite [hz];(refine Ai<|Ac<|Ab rfl<|As rfl<|AA rfl<|Ax rfl rfl<|Ad rfl<|AE rfl (by omega)<|Ae rfl<|Ab rfl<|Ae rfl<|Aq rfl rfl<|Ap rfl rfl<|Aa<|Ao rfl (by omega)<|AV<|Ai<|Ac<|Ab rfl<|AG rfl rfl<|Aa<|Au rfl (by omega)<|Ac<|Bl<|Ab rfl ?_);refine Az 0 A7 rfl rfl rfl rfl (No rfl) rfl rfl ?_;(refine Ab rfl<|Aa<|Ar ?_);exact BG (L':=[]) [.agg A7.toArray,vZ e'] ⟨A3 0 rfl rfl rfl,A4 rfl,trivial⟩ (ZB _) ⟨rfl,_,rfl,Aw.zero⟩
 ·obtain rfl:i=ws.length:=by omega
  by_cases hez:e'=0
  ·subst hez;obtain⟨hv',hB',hpf⟩:=hs rfl;clear hs hz;rw[Aag] at hpf;rw[show GF v' [] x=(v',0) from rfl] at hpf;rewrite [hpf];have hva:=AH _ _ _ hv';(refine Ai<|Ac<|Ab rfl<|As rfl<|AA rfl<|Ax rfl rfl<|Ad rfl<|AB rfl (by omega)<|Ak rfl<|Ak rfl<|An rfl rfl<|Aa<|AK rfl<|AV<|Ai<|Ac<|Ab rfl<|AG rfl rfl<|Aa<|Ao rfl (by omega)<|Am<|Ac<|AD 2 rfl rfl rfl ?_);refine Az 0 [a0,a1,a2,a3,a4,a5] rfl rfl rfl rfl (No rfl) hva rfl ?_;(refine Ab rfl<|Aa<|Ar ?_);exact BG (L':=[]) [.agg [a0,a1,a2,a3,a4,a5].toArray,vZ 0] ⟨A3 0 rfl rfl rfl,A4 rfl,trivial⟩ (ZB _) ⟨rfl,_,rfl,hv'⟩
  ·clear hs;have hz:=hz hez;rewrite [hz];(refine Ai<|Ac<|Ab rfl<|As rfl<|AA rfl<|Ax rfl rfl<|Ad rfl<|AB rfl (by omega)<|Ak rfl<|Ak rfl<|An rfl rfl<|Aa<|AK rfl<|AV<|Ai<|Ac<|Ab rfl<|AG rfl rfl<|Aa<|Au rfl (by omega)<|Ac<|Bl<|Ab rfl ?_);refine Az 0 A7 rfl rfl rfl rfl (No rfl) rfl rfl ?_;(refine Ab rfl<|Aa<|Ar ?_);exact BG (L':=[]) [.agg A7.toArray,vZ e'] ⟨A3 0 rfl rfl rfl,A4 rfl,trivial⟩ (ZB _) ⟨rfl,_,rfl,Aw.zero⟩
end Go.Gk.Val
end
section
namespace Go.Gk.Val
open Go Go.Gk Go.Gk.Utf Go.Gk.Srt
variable{ns:List V}{D:List Bool}{i b:Nat}{m:V}
def Rem(ns:List V)(D:List Bool)(R:List V):Prop:=∀z,z∈R↔∃j:Nat,ns[j]?=some z∧D[j]?=some false
def WO(ns:List V):Rem ns (ZI ns.length false) ns:=by
 intro z;constructor
 ·intro h;obtain⟨j,hj,rfl⟩:=Aae h;exact⟨j,ZJ hj,by rw[List.getElem?_replicate,if_pos hj]⟩
 ·rintro⟨j,h1,_⟩;exact Abj h1
def HM(ns:List V)(D:List Bool)(i:Nat)(best:Int):Prop:=
 (best= -1∧∀j:Nat,j<i→D[j]?=some true)∨(∃b:Nat,best=b∧b<i∧D[b]?=some false∧∀j:Nat,j<i→D[j]?=some false→BA (ns.getD j V.zero) (ns.getD b V.zero)≤0)
def Uy(ns:List V)(D:List Bool):HM ns D 0 (-1):=.inl ⟨rfl,fun j h=>absurd h (Z3 j)⟩
def Vp{best:Int}(h:HM ns D i best)(hd:D[i]?=some true):HM ns D (i+1) best:=by
 rcases h with ⟨h1,h2⟩|⟨b,h1,h2,h3,h4⟩
 ·refine .inl ⟨h1,fun j hj=>?_⟩;by_cases e:j<i
  ·exact h2 j e
  ·obtain rfl:j=i:=by omega
   exact hd
 ·refine .inr ⟨b,h1,by omega,h3,fun j hj hf=>?_⟩;by_cases e:j<i
  ·exact h4 j e hf
  ·obtain rfl:j=i:=by omega
   rw[hd] at hf;cases hf
def Te(h:HM ns D i (-1))(hd:D[i]?=some false):HM ns D (i+1) i:=by
 rcases h with ⟨_,h2⟩|⟨b,h1,_⟩
 ·refine .inr ⟨i,rfl,by omega,hd,fun j hj hf=>?_⟩;by_cases e:j<i
  ·rw[h2 j e] at hf;cases hf
  ·obtain rfl:j=i:=by omega
   have:=Fb (ns.getD j V.zero) (ns.getD j V.zero);omega
 ·omega
def UO(h:HM ns D i (b:Int))(hd:D[i]?=some false)(hc:BA (ns.getD i V.zero) (ns.getD b V.zero)>0):HM ns D (i+1) i:=by
 rcases h with ⟨h1,_⟩|⟨b',h1,h2,h3,h4⟩
 ·omega
 ·obtain rfl:b=b':=by omega
  refine .inr ⟨i,rfl,by omega,hd,fun j hj hf=>?_⟩;by_cases e:j<i
  ·have q:=h4 j e hf;have r:=Fb (ns.getD i V.zero) (ns.getD b V.zero);exact Mm.tr _ _ _ q (by omega)
  ·obtain rfl:j=i:=by omega
   have:=Fb (ns.getD j V.zero) (ns.getD j V.zero);omega
def Vb(h:HM ns D i (b:Int))(hd:D[i]?=some false)(hc:¬BA (ns.getD i V.zero) (ns.getD b V.zero)>0):HM ns D (i+1) b:=by
 rcases h with ⟨h1,_⟩|⟨b',h1,h2,h3,h4⟩
 ·omega
 ·obtain rfl:b=b':=by omega
  refine .inr ⟨b,rfl,by omega,h3,fun j hj hf=>?_⟩;by_cases e:j<i
  ·exact h4 j e hf
  ·obtain rfl:j=i:=by omega
   omega
def WR{R:List V}(hR:Rem ns D R)(hl:D.length=ns.length)(h:∀j:Nat,j<ns.length→D[j]?=some true):R=[]:=by
 cases R with
 |nil=>rfl
 |cons z R=>
  obtain⟨j,h1,h2⟩:=(hR z).1 (ZG ..)
  obtain⟨hj,_⟩:=ZO.1 h1
  rw[h j hj] at h2;cases h2
def Dq(ns:List V)(D:List Bool)(m:V)(i:Nat):List Bool:=(Z8 D.length).map fun j=>D.getD j false||(decide (j<i)&& Ck (ns.getD j V.zero) m)
def DX(ns:List V)(D:List Bool)(m:V)(i:Nat):(Dq ns D m i).length=D.length:=by simp[Dq]
def EY{j:Nat}(h:j<D.length):(Dq ns D m i)[j]?=some (D.getD j false||(decide (j<i)&& Ck (ns.getD j V.zero) m)):=by
 unfold Dq;rw[List.getElem?_map,List.getElem?_range h];rfl
def Uo(ns:List V)(D:List Bool)(m:V):Dq ns D m 0=D:=by
 apply Abd;intro j;by_cases h:j<D.length
 ·rw[EY h,ZJ h];simp[h]
 ·rw[ZY (by rw[DX];omega),ZY (by omega)]
def TZ(hi:i<D.length)(h:Ck (ns.getD i V.zero) m=true):(Dq ns D m i).set i true=Dq ns D m (i+1):=by
 apply Abd;intro j;by_cases hj:j<D.length
 ·rw[List.getElem?_set,EY hj,EY hj,DX];by_cases e:i=j
  ·subst e;rw[if_pos rfl,if_pos hj,h,decide_eq_true (show i<i+1 by omega)];simp
  ·rw[if_neg e];by_cases q:j<i
   ·rw[decide_eq_true q,decide_eq_true (show j<i+1 by omega)]
   ·rw[decide_eq_false q,decide_eq_false (show¬j<i+1 by omega)]
 ·rw[ZY (by rw[Abb,DX];omega),ZY (by rw[DX];omega)]
def Tk(h:Ck (ns.getD i V.zero) m=false):Dq ns D m i=Dq ns D m (i+1):=by
 apply Abd;intro j;by_cases hj:j<D.length
 ·rw[EY hj,EY hj];by_cases e:i=j
  ·subst e;rw[h];simp
  ·by_cases q:j<i
   ·rw[decide_eq_true q,decide_eq_true (show j<i+1 by omega)]
   ·rw[decide_eq_false q,decide_eq_false (show¬j<i+1 by omega)]
 ·rw[ZY (by rw[DX];omega),ZY (by rw[DX];omega)]
def VL{R:List V}(hl:D.length=ns.length)(hR:Rem ns D R):Rem ns (Dq ns D m ns.length) (R.filter fun z=> !Ck z m):=by
 intro z;rw[Adf,hR z];constructor
 ·rintro⟨⟨j,h1,h2⟩,h3⟩;obtain⟨hj,e⟩:=ZO.1 h1;have hg:ns.getD j V.zero=z:=by rw[Aao,h1];rfl
  have hd:D.getD j false=false:=by rw[Aao,h2];rfl
  refine⟨j,h1,?_⟩
  rw[EY (by omega),hg,hd];simp only[Bool.not_eq_true'] at h3;rw[h3];simp
 ·rintro⟨j,h1,h2⟩;obtain⟨hj,e⟩:=ZO.1 h1;have hg:ns.getD j V.zero=z:=by rw[Aao,h1];rfl
  rw[EY (by omega),hg,decide_eq_true hj,Bool.true_and,Option.some.injEq,Bool.or_eq_false_iff] at h2;have hjd:j<D.length:=by omega
  refine⟨⟨j,h1,?_⟩,by rw[h2.2];rfl⟩
  rw[ZJ hjd];have:=h2.1;rw[Aao,ZJ hjd] at this;simpa using this
def Tx(hl:D.length=ns.length)(hb:D[b]?=some false)(hs:Ck (ns.getD b V.zero) m=true):(Dq ns D m ns.length).count false<D.count false:=by
 have key:∀(D E:List Bool),E.length=D.length→(∀j:Nat,E[j]?=some false→D[j]?=some false)→E.count false≤D.count false∧((∃b:Nat,D[b]?=some false∧E[b]?=some true)→E.count false<D.count false):=by
  intro D;induction D with
  |nil=>
   intro E he _
   have:E=[]:=List.length_eq_zero_iff.1 he
   subst this
   exact⟨ZL _,fun⟨b,h,_⟩=>by simp at h⟩
  |cons x D ih=>
   intro E he h
   cases E with
   |nil=>cases he
   |cons y E=>
    obtain⟨i1,i2⟩:=ih E (by simpa using he) (fun j hj=>by simpa using h (j+1) (by simpa using hj))
    have h0:y=false→x=false:=fun q=>by simpa using h 0 (by simpa using q)
    have hcx:(x::D).count false=D.count false+if x=false then 1 else 0:=by rw[List.count_cons];simp
    have hcy:(y::E).count false=E.count false+if y=false then 1 else 0:=by rw[List.count_cons];simp
    rw[hcx,hcy]
    constructor
    ·cases y with
     |false=>rw[h0 rfl];simp;omega
     |true=>simp;omega
    ·rintro⟨b,hb1,hb2⟩
     cases b with
     |zero=>
      simp only[List.getElem?_cons_zero,Option.some.injEq] at hb1 hb2
      rw[hb1,hb2];simp;omega
     |succ b=>
      have i3:=i2 ⟨b,by simpa using hb1,by simpa using hb2⟩
      cases y with
      |false=>rw[h0 rfl];simp;omega
      |true=>simp;omega
 refine(key D _ (DX _ _ _ _) fun j hj=>?_).2 ⟨b,hb,?_⟩
 ·have hjl:j<D.length:=by
   obtain⟨q,_⟩:=ZO.1 hj;rwa [DX] at q
  rw[EY hjl,Option.some.injEq,Bool.or_eq_false_iff] at hj;rw[ZJ hjl];have:=hj.1;rw[Aao,ZJ hjl] at this;simpa using this
 ·obtain⟨hbl,_⟩:=ZO.1 hb;rw[EY hbl,hs,decide_eq_true (show b<ns.length by omega)];simp
def UQ{R:List V}(hmay:∀z∈R,BH z=true)(hm:m∈R)(hmax:∀z∈R,BA z m≤0):ER R=m::ER (R.filter fun z=> !Ck z m):=by
 obtain⟨d1,d2⟩:=G4 hmay;have hmay':∀z∈R.filter fun z=> !Ck z m,BH z=true:=fun z hz=>hmay z (Adf.1 hz).1;obtain⟨e1,e2⟩:=G4 hmay';refine GY P2 d1 (List.pairwise_cons.2 ⟨fun z hz=>?_,e1⟩) fun x=>?_
 ·obtain⟨hz1,hz2⟩:=Adf.1 ((e2 z).1 hz);rcases Int.lt_or_eq_of_le (hmax z hz1) with q|q
  ·exact q
  ·exfalso;have:=(H5 (hmay z hz1) (hmay m hm)).1 q;subst this;rw[(CP z z).2 rfl] at hz2;cases hz2
 ·rw[d2,List.mem_cons,e2,Adf];constructor
  ·intro hx;by_cases e:x=m
   ·exact .inl e
   ·refine .inr ⟨hx,?_⟩;cases q:Ck x m with
    |false=>rfl
    |true=>exact absurd ((CP x m).1 q) e
  ·rintro(rfl|⟨hx,_⟩)
   ·exact hm
   ·exact hx
def TD{R:List V}(hl:D.length=ns.length)(hmay:∀z∈ns,BH z=true)(hR:Rem ns D R)(hB:HM ns D ns.length (b:Int)):
  ∃hb:b<ns.length,D[b]?=some false∧ER R=ns[b]::ER (R.filter fun z=> !Ck z ns[b]):=by
 rcases hB with ⟨h1,_⟩|⟨b',h1,h2,h3,h4⟩
 ·omega
 ·obtain rfl:b=b':=by omega
  have hbg:ns.getD b V.zero=ns[b]:=by simp[h2]
  refine⟨h2,h3,UQ (fun z hz=>?_) ((hR _).2 ⟨b,ZJ h2,h3⟩) fun z hz=>?_⟩
  ·obtain⟨j,q1,_⟩:=(hR z).1 hz
   exact hmay z (Abj q1)
  ·obtain⟨j,q1,q2⟩:=(hR z).1 hz
   obtain⟨hj,e⟩:=ZO.1 q1
   have:=h4 j hj q2
   rw[hbg] at this
   have hjg:ns.getD j V.zero=z:=by rw[Aao,q1];rfl
   rw[hjg] at this
   exact this
end Go.Gk.Val
end
section
namespace Go.Gk.Val
open Go Go.Gk Go.Gk.Utf
attribute [local irreducible] gwp gws
variable{P:Program}{f f1:FuncId}{v:V}
def MP(P:Program)(f:FuncId):Prop:=∀{d}{n:Int},AM P f [vZ n] d (.bool (B1 n))
def Kf:A6:=⟨9,[(.tmp 2)],(sR (o1 2 (.mv (.const (.bool false))) .done) (sR (om 3 0<|ob 4 .geq 3 (kZ (-1000000000))<|om 5 4<|gT 6 5 0<|oT 7 5 (.bin .leq 6 (kZ 1000000000))<|gP 8 5 7<|om 2 8 .done) .ret))⟩
def Sf(hd:dec P f=some Kf):MP P f:=by
 intro d n;refine AM.of' hd (No rfl) ?_;show gwp P _ _ _ _ _;by_cases h: -1000000000≤n
 ·have e:B1 n=decide (n≤1000000000):=by simp[B1];omega
  rw[e];clear e;(refine Ac<|Ad rfl<|Aa<|Ac<|Ab rfl<|B5 rfl rfl<|Ad rfl<|AE rfl (by omega)<|Ae rfl<|Ab rfl<|Ae rfl<|CW rfl rfl<|Ap rfl rfl<|Ad rfl<|Aa<|Ar ?_);exact BI rfl
 ·have e:B1 n=false:=by simp[B1];omega
  rw[e];clear e;(refine Ac<|Ad rfl<|Aa<|Ac<|Ab rfl<|B5 rfl rfl<|Ad rfl<|AB rfl (by omega)<|Ak rfl<|Ak rfl<|An rfl rfl<|Ad rfl<|Aa<|Ar ?_);exact BI rfl
def Ih(P:Program)(f:FuncId):Prop:=∀{d t},AM P f [Al t] d (.agg [vZ 4,vZ 0,vZ 0,Al t,.slice none 0 0,.slice none 0 0].toArray)
def J8:A6:=⟨5,[(.cell 2 (some 6))],(sR (o1 2 (.alo (.agg #[(vZ 0),(vZ 0),(vZ 0),(Al []),(.slice none 0 0),(.slice none 0 0)])) .done) (sR (om 3 0<|o1 4 (.bld [(0,1),(1,2),(3,1),(4,1),(5,1)] [(vZ 0),(vZ 0),(vZ 0),(Al []),(.slice none 0 0),(.slice none 0 0)] [(0,(kZ 4)),(2,3)])<|o0 (.st 6 2 4) .done) .ret))⟩
def Ns(hd:dec P f=some J8):Ih P f:=by
 intro d t;refine AM.of' hd (No rfl) ?_;show gwp P _ _ _ _ _;(refine Ac<|AX (fun _ _=>Aa<|Ac<|Bk rfl<|QM rfl rfl ?_));refine Az 0 [vZ 4,vZ 0,vZ 0,Al t,.slice none 0 0,.slice none 0 0] rfl rfl rfl rfl (No rfl) rfl rfl ?_;(refine Aa<|Ar ?_);exact BG (L':=[]) [.agg [vZ 4,vZ 0,vZ 0,Al t,.slice none 0 0,.slice none 0 0].toArray] ⟨A3 0 rfl rfl rfl,trivial⟩ (ZB _) ⟨rfl,rfl⟩
def JL(P:Program)(f:FuncId):Prop:=∀{d}{m e:Int},AM P f [.agg #[vZ m,vZ e]] d (.agg [vZ 3,vZ m,vZ e,Al [],.slice none 0 0,.slice none 0 0].toArray)
def IK:A6:=⟨5,[(.cell 2 (some 6))],(sR (o1 1 (.box 0)<|o1 2 (.alo (.agg #[(vZ 0),(vZ 0),(vZ 0),(Al []),(.slice none 0 0),(.slice none 0 0)])) .done) (sR (o1 3 (.ld (some 2) 1)<|o1 4 (.bld [(0,1),(1,2),(3,1),(4,1),(5,1)] [(vZ 0),(vZ 0),(vZ 0),(Al []),(.slice none 0 0),(.slice none 0 0)] [(0,(kZ 3)),(1,3)])<|o0 (.st 6 2 4) .done) .ret))⟩
def ON(hd:dec P f=some IK):JL P f:=by
 intro d m e;refine AM.of' hd (No rfl) ?_;show gwp P _ _ _ _ _;apply Ai;apply Ay;refine AO (l:=[vZ m,vZ e]) rfl (fun b1 T1=>?_);(refine AX (fun _ _=>Aa<|Ac<|AD 1 rfl rfl rfl<|PK rfl rfl ?_));refine Az 0 [vZ 3,vZ m,vZ e,Al [],.slice none 0 0,.slice none 0 0] rfl rfl rfl rfl (No rfl) rfl rfl ?_;(refine Aa<|Ar ?_);exact BG (L':=[]) [.agg [vZ 3,vZ m,vZ e,Al [],.slice none 0 0,.slice none 0 0].toArray] ⟨A3 0 rfl rfl rfl,trivial⟩ (ZB _) ⟨rfl,rfl⟩
def II(P:Program)(f:FuncId):Prop:=∀{d}{n:Int},B1 n=true→AM P f [vZ n] d (.agg (Et n).toArray)
def JK(a0:Nat):A6:=⟨29,[(.cell 2 (some 6))],(sR (o1 2 (.alo (.agg #[(vZ 0),(vZ 0),(vZ 0),(Al []),(.slice none 0 0),(.slice none 0 0)])) .done) (sR (om 4 0<|o1 5 (.bld [(0,1),(1,1)] [(vZ 0),(vZ 0)] [(0,4)])<|oc 6 a0 [5]<|o1 3 (.alo (.agg #[(vZ 0),(vZ 0),(vZ 0),(Al []),(.slice none 0 0),(.slice none 0 0)]))<|o0 (.st 6 3 6) .done) (.seq (.block 0 (.loop (.seq (sR (om 7 0<|ob 8 .neq 7 z0<|om 9 8<|oT 10 9 (.fld 1 3)<|oT 11 9 (.fld 0 10)<|oT 12 9 (.ld none 11)<|oT 13 9 (.bin .rem 12 (kZ 10))<|oT 14 9 (.bin .eql 13 z0)<|gP 15 9 14 .done) (.cond 15 .skip (.exit 0))) (.block 1 (sR (oj 16 1 3<|oj 17 0 16<|ol 18 17<|ob 19 .quo 18 (kZ 10)<|oj 20 1 3<|oj 21 0 20<|o0 (.st 1 21 19) .done) (rG (oj 22 1 3<|oj 23 1 22<|ol 24 23<|ob 25 .add 24 z1<|oj 26 1 3<|oj 27 1 26<|o0 (.st 1 27 25) .done))))))) (sR (o1 28 (.ld (some 6) 3)<|o0 (.st 6 2 28) .done) .ret))))⟩
set_option maxHeartbeats 1000000 in
def Qd(hd:dec P f=some (JK f1))(h1:JL P f1):II P f:=by
 intro d n h;have hn:=Dy.1 h;clear h;have hb:n.natAbs<10 ^ 10:=by rw[show(10:Nat)^ 10=10000000000 by decide];omega
 refine AM.of' hd (No rfl) ?_;show gwp P _ _ _ _ _;(refine Ac<|AX (fun _ _=>Aa<|Ac<|Ab rfl<|Ut rfl ?_));rename_i b2 T2;refine AF rfl h1 ?_;(apply AX;intro _ _);rename_i b3 T3;refine Az 0 [vZ 3,vZ n,vZ 0,Al [],.slice none 0 0,.slice none 0 0] rfl rfl rfl rfl (No rfl) rfl rfl ?_;(refine Aa<|Ai<|Av ?_);refine Bg (α:=Nat×Int×Int) (fun _=>[(0,vZ n),(2,pZ b2),(3,pZ b3)])
  (fun x d' L'=>d'=d∧dig 10 n 0=dig x.1 x.2.1 x.2.2∧x.2.1.natAbs<10 ^ x.1∧x.2.2+x.1=10∧0≤x.2.2∧ -1000000000≤x.2.1∧x.2.1≤1000000000∧(n=0↔x.2.1=0)∧L'=[bx b3 T3 [vZ 3,vZ x.2.1,vZ x.2.2,Al [],.slice none 0 0,.slice none 0 0],bx b2 T2 A7]) (fun x=>x.1) (10,n,0)
  ⟨rfl,rfl,rfl,trivial⟩ ⟨rfl,rfl,hb,rfl,Int.le_refl _,hn.1,hn.2,Iff.rfl,rfl⟩ ?_
 rintro⟨f,m,e⟩ ρ d' L' ⟨hdd,hdg,hlt,hef,he,hm1,hm2,hz,hL⟩;simp only at hdg hlt hef he hm1 hm2 hz hL⊢;subst hdd;subst hL;by_cases hn0:n=0
 ·have hm0:=hz.1 hn0;have hdg':dig 10 n 0=(m,e):=by rw[hdg,Ht (by omega)]
  have hwl:Et n=[vZ 3,vZ m,vZ e,Al [],.slice none 0 0,.slice none 0 0]:=by unfold Et;rw[hdg']
  rw[hwl];(refine Ai<|Ac<|Ab rfl<|AG rfl rfl<|Ad rfl<|AB rfl (by omega)<|Ak rfl<|Ak rfl<|Ak rfl<|Ak rfl<|Ak rfl<|An rfl rfl<|Aa<|AK rfl<|AV<|Ac<|AD 0 rfl rfl rfl ?_);refine Az 1 [vZ 3,vZ m,vZ e,Al [],.slice none 0 0,.slice none 0 0] rfl rfl rfl rfl (No rfl) rfl rfl ?_;(refine Aa<|Ar ?_);exact BG (L':=[]) [.agg [vZ 3,vZ m,vZ e,Al [],.slice none 0 0,.slice none 0 0].toArray] ⟨A3 1 rfl rfl rfl,trivial⟩ (ZB _) ⟨rfl,rfl⟩
 have hm0:m≠0:=fun q=>hn0 (hz.2 q);by_cases hq:m % 10=0
 ·obtain⟨f,rfl⟩:∃g,f=g+1:=⟨f - 1,by cases f with|zero=>simp at hlt;omega|succ f=>rfl⟩
  have ht:=JC.2 hq;have hdv:=Qx hq;rw[Mp ⟨hm0,hq⟩] at hdg;(refine Ai<|Ac<|Ab rfl<|AG rfl rfl<|Ad rfl<|AE rfl (by omega)<|Ae rfl<|Af rfl<|Ae rfl<|Af rfl<|Ae rfl<|Ah rfl (Aj 0 rfl rfl)<|Ae rfl<|FH rfl rfl (by omega)<|Ae rfl<|Aq rfl rfl<|Ap rfl rfl<|Aa<|Au rfl (by omega)<|Am<|Av<|Ac<|Af rfl<|Af rfl<|Ah rfl (Aj 0 rfl rfl)<|Nw rfl rfl (by omega) (by omega) (by omega)<|Af rfl<|Af rfl ?_);refine Az 0 [vZ 3,vZ (m / 10),vZ e,Al [],.slice none 0 0,.slice none 0 0] rfl rfl (congrArg (Value.int .i64) hdv) rfl (No rfl) rfl rfl ?_;(refine Aa<|Ay<|Af rfl<|Af rfl<|Ah rfl (Aj 0 rfl rfl)<|AI rfl rfl (by omega) (by omega)<|Af rfl<|Af rfl ?_);refine Az 0 [vZ 3,vZ (m / 10),vZ (e+1),Al [],.slice none 0 0,.slice none 0 0] rfl rfl rfl rfl (No rfl) rfl rfl ?_;(apply Aa);exact⟨(f,m / 10,e+1),Nat.lt_succ_self f,⟨rfl,rfl,rfl,trivial⟩,rfl,hdg,by simp only;rw[Nat.pow_succ] at hlt;omega,by simp only;omega,by simp only;omega,by simp only;omega,by simp only;omega,by simp only;omega,rfl⟩
 ·have ht:m.tmod 10≠0:=fun q=>hq (JC.1 q);have hdg':dig 10 n 0=(m,e):=by rw[hdg,Ht (fun q=>hq q.2)]
  have hwl:Et n=[vZ 3,vZ m,vZ e,Al [],.slice none 0 0,.slice none 0 0]:=by unfold Et;rw[hdg']
  rw[hwl];(refine Ai<|Ac<|Ab rfl<|AG rfl rfl<|Ad rfl<|AE rfl (by omega)<|Ae rfl<|Af rfl<|Ae rfl<|Af rfl<|Ae rfl<|Ah rfl (Aj 0 rfl rfl)<|Ae rfl<|FH rfl rfl (by omega)<|Ae rfl<|Aq rfl rfl<|Ap rfl rfl<|Aa<|Ao rfl (by omega)<|AV<|Ac<|AD 0 rfl rfl rfl ?_);refine Az 1 [vZ 3,vZ m,vZ e,Al [],.slice none 0 0,.slice none 0 0] rfl rfl rfl rfl (No rfl) rfl rfl ?_;(refine Aa<|Ar ?_);exact BG (L':=[]) [.agg [vZ 3,vZ m,vZ e,Al [],.slice none 0 0,.slice none 0 0].toArray] ⟨A3 1 rfl rfl rfl,trivial⟩ (ZB _) ⟨rfl,rfl⟩
def JH(P:Program)(f:FuncId):Prop:=∀{d}{n:Int}{has:Bool},CN n has=true→AM P f [vZ n,.bool has] d (.agg (NQ n has).toArray)
def Ks(a0:Nat):A6:=⟨10,[(.cell 4 (some 6))],(sR (o1 4 (.alo (.agg #[(vZ 0),(vZ 0),(vZ 0),(Al []),(.slice none 0 0),(.slice none 0 0)])) .done) (.seq (sR (om 5 1<|o1 6 (.un .not 5) .done) (.cond 6 (sR (o1 7 (.bld [(0,1),(1,2),(3,1),(4,1),(5,1)] [(vZ 0),(vZ 0),(vZ 0),(Al []),(.slice none 0 0),(.slice none 0 0)] [])<|o0 (.st 6 4 7) .done) .ret) .skip)) (sR (om 8 0<|oc 9 a0 [8]<|o0 (.st 6 4 9) .done) .ret)))⟩
def OX(hd:dec P f=some (Ks f1))(h1:II P f1):JH P f:=by
 intro d n has ho;refine AM.of' hd (No rfl) ?_;show gwp P _ _ _ _ _;cases has with
 |false=>
  (refine Ac<|AX (fun _ _=>Aa<|Ai<|Ac<|Ad rfl<|Bi rfl<|Aa<|Bb rfl<|Ac<|Bl ?_))
  refine Az 0 A7 rfl rfl rfl rfl (No rfl) rfl rfl ?_
  (refine Aa<|Ar ?_)
  exact BG (L':=[]) [.agg A7.toArray] ⟨A3 0 rfl rfl rfl,trivial⟩ (ZB _) ⟨rfl,rfl⟩
 |true=>
  have hnr:B1 n=true:=by simpa [CN] using ho
  have hw:=h1 (d:=d) hnr
  have e:NQ n true=Et n:=by simp[NQ,H8,hnr]
  rw[e]
  clear ho hnr e
  (refine Ac<|AX (fun _ _=>Aa<|Ai<|Ac<|Ad rfl<|Bi rfl<|Aa<|AK rfl<|Am<|Ac<|Ab rfl ?_))
  refine AF rfl hw ?_
  skip
  refine Az 0 (Et n) rfl rfl rfl rfl (No rfl) rfl rfl ?_
  (refine Aa<|Ar ?_)
  exact BG (L':=[]) [.agg (Et n).toArray] ⟨A3 0 rfl rfl rfl,trivial⟩ (ZB _) ⟨rfl,rfl⟩
def Mu(P:Program)(f:FuncId):Prop:=∀{d cs}{v:V},Aw d cs v→AM P f [.agg cs.toArray] d (.tuple #[vZ (Cd v).1,.bool (Cd v).2])
def IJ:A6:=⟨40,[(.tmp 2),(.tmp 3)],(sR (o1 1 (.box 0)<|o1 2 (.mv z0)<|o1 3 (.mv (.const (.bool false))) .done) (.seq (sR (oj 6 0 1<|ol 7 6<|ob 8 .neq 7 (kZ 3)<|om 9 8<|oF 10 9 (.fld 1 1)<|oF 11 9 (.fld 1 10)<|oF 12 9 (.ld none 11)<|oF 13 9 (.bin .lss 12 z0)<|o1 14 (.pick 9 (.const (.bool true)) 13) .done) (.cond 14 (sR (o1 2 (.mv z0)<|o1 3 (.mv (.const (.bool false))) .done) .ret) .skip)) (sR (oj 15 1 1<|oj 16 0 15<|ol 17 16<|om 4 17 .done) (.seq (sR (o1 5 (.mv z0) .done) (.block 0 (.loop (.seq (sR (om 18 5<|oj 19 1 1<|oj 20 1 19<|ol 21 20<|ob 22 .lss 18 21 .done) (.cond 22 .skip (.exit 0))) (.seq (.block 1 (.seq (sR (om 25 4<|ob 26 .gtr 25 (kZ 1000000000)<|om 27 26<|gF 28 27 4<|oF 29 27 (.bin .lss 28 (kZ (-1000000000)))<|o1 30 (.pick 27 (.const (.bool true)) 29) .done) (.cond 30 (sR (o1 2 (.mv z0)<|o1 3 (.mv (.const (.bool false))) .done) .ret) .skip)) (rG (om 31 4<|ob 32 .mul 31 (kZ 10)<|om 4 32 .done)))) (rG (om 23 5<|ob 24 .add 23 z1<|om 5 24 .done))))))) (sR (om 33 4<|om 34 4<|ob 35 .geq 34 (kZ (-1000000000))<|om 36 35<|gT 37 36 4<|oT 38 36 (.bin .leq 37 (kZ 1000000000))<|gP 39 36 38<|om 2 33<|om 3 39 .done) .ret)))))⟩
set_option maxHeartbeats 1000000 in
def Uc(hd:dec P f=some IJ):Mu P f:=by
 intro d cs v hv;refine AM.of' hd (No rfl) ?_;obtain⟨lv,kv,rfl,ik,im,ie,it,hl,hks⟩:=hv.open;obtain⟨la,lc,rfl⟩:=RSl.val hl;obtain⟨ka,kc,rfl⟩:=RSl.val hks;obtain⟨kind,m,e,t,l,ks⟩:=v;simp only[V.kind,V.m,V.e,V.text,V.list,V.keys] at ik im ie it hl hks⊢;obtain⟨im1,im2⟩:=im;obtain⟨ie1,ie2⟩:=ie;show gwp P _ _ _ _ _;apply Ai;apply Ay;refine AO (l:=[vZ kind,vZ m,vZ e,Al t,.slice la l.length lc,.slice ka ks.length kc]) rfl (fun b1 T1=>?_);by_cases c1:kind≠3
 ·rw[Cd,if_pos (Or.inl c1)];(refine Ab rfl<|Ad rfl<|Aa<|Ai<|Ac<|Af rfl<|Ah rfl (Aj 0 rfl rfl)<|AG rfl rfl<|Ad rfl<|AE rfl (by omega)<|Ak rfl<|Ak rfl<|Ak rfl<|Ak rfl<|Ap rfl rfl<|Aa<|Bb rfl<|Ac<|Ab rfl<|Ad rfl<|Aa<|Ar ?_);exact BS rfl rfl
 by_cases c2:e<0
 ·rw[Cd,if_pos (Or.inr c2)];(refine Ab rfl<|Ad rfl<|Aa<|Ai<|Ac<|Af rfl<|Ah rfl (Aj 0 rfl rfl)<|AG rfl rfl<|Ad rfl<|AB rfl (by omega)<|Ae rfl<|Af rfl<|Ae rfl<|Af rfl<|Ae rfl<|Ah rfl (Aj 0 rfl rfl)<|Ae rfl<|Ax rfl rfl<|An rfl rfl<|Aa<|Au rfl (by omega)<|Ac<|Ab rfl<|Ad rfl<|Aa<|Ar ?_);exact BS rfl rfl
 rw[Cd,if_neg (by intro q;rcases q with q|q;exact c1 q;exact c2 q)];obtain⟨k,rfl⟩:∃k:Nat,e=k:=⟨e.toNat,by omega⟩
 simp only[Z2];(refine Ab rfl<|Ad rfl<|Aa<|Ai<|Ac<|Af rfl<|Ah rfl (Aj 0 rfl rfl)<|AG rfl rfl<|Ad rfl<|AB rfl (by omega)<|Ae rfl<|Af rfl<|Ae rfl<|Af rfl<|Ae rfl<|Ah rfl (Aj 0 rfl rfl)<|Ae rfl<|Ax rfl rfl<|An rfl rfl<|Aa<|Ao rfl (by omega)<|Am<|Ac<|Af rfl<|Af rfl<|Ah rfl (Aj 0 rfl rfl)<|Ab rfl<|Aa<|Ai<|Ac<|Ab rfl<|Aa<|Av ?_);refine Bg (α:=Nat×Int) (fun x=>[(1,pZ b1),(4,vZ x.2),(5,vZ x.1)])
  (fun x d' L'=>d'=d∧x.1≤k∧C7 k m=C7 (k - x.1) x.2∧ -9223372036854775808≤x.2∧x.2≤9223372036854775807∧L'=[bx b1 T1 [vZ kind,vZ m,vZ k,Al t,.slice la l.length lc,.slice ka ks.length kc]]) (fun x=>k - x.1) (0,m) ⟨rfl,rfl,rfl,trivial⟩ ⟨rfl,ZN _,rfl,im1,im2,rfl⟩ ?_
 rintro⟨i,n⟩ ρ d' L' ⟨hdd,hi,hn,hn1,hn2,hL⟩;simp only at hn hi hn1 hn2⊢;subst hdd;subst hL;by_cases hc:i<k
 ·obtain⟨j,hj⟩:∃j,k - i=j+1:=⟨k - i - 1,by omega⟩
  have hj2:k - (i+1)=j:=by omega
  rw[hj] at hn;by_cases c5:1000000000<n
  ·rw[hn,C7,if_pos (show ES n=true by simp[ES];omega)];(refine Ai<|Ac<|Ab rfl<|Af rfl<|Af rfl<|Ah rfl (Aj 0 rfl rfl)<|Ax rfl rfl<|Aa<|Au rfl (by omega)<|Am<|Ai<|Av<|Ai<|Ac<|Ab rfl<|AP rfl rfl<|Ad rfl<|AE rfl (by omega)<|Ak rfl<|Ak rfl<|Ap rfl rfl<|Aa<|Bb rfl<|Ac<|Ab rfl<|Ad rfl<|Aa<|Ar ?_);exact BS rfl rfl
  by_cases c6:n< -1000000000
  ·rw[hn,C7,if_pos (show ES n=true by simp[ES];omega)];(refine Ai<|Ac<|Ab rfl<|Af rfl<|Af rfl<|Ah rfl (Aj 0 rfl rfl)<|Ax rfl rfl<|Aa<|Au rfl (by omega)<|Am<|Ai<|Av<|Ai<|Ac<|Ab rfl<|AP rfl rfl<|Ad rfl<|AB rfl (by omega)<|Ae rfl<|Ab rfl<|Ae rfl<|Ax rfl rfl<|An rfl rfl<|Aa<|Au rfl (by omega)<|Ac<|Ab rfl<|Ad rfl<|Aa<|Ar ?_);exact BS rfl rfl
  ·have hn':C7 k m=C7 (k - (i+1)) (n*10):=by rw[hn,hj2,C7,if_neg (show¬ES n=true by simp[ES];omega)]
   clear hn;(refine Ai<|Ac<|Ab rfl<|Af rfl<|Af rfl<|Ah rfl (Aj 0 rfl rfl)<|Ax rfl rfl<|Aa<|Au rfl (by omega)<|Am<|Ai<|Av<|Ai<|Ac<|Ab rfl<|AP rfl rfl<|Ad rfl<|AB rfl (by omega)<|Ae rfl<|Ab rfl<|Ae rfl<|Ax rfl rfl<|An rfl rfl<|Aa<|Ao rfl (by omega)<|Am<|Ay<|Ab rfl<|Hb rfl rfl (by omega) (by omega)<|Ab rfl<|Aa<|Ay<|Ab rfl<|AI rfl rfl (by omega) (by omega)<|Ab rfl<|Aa ?_);exact⟨(i+1,n*10),by simp only;omega,⟨rfl,rfl,int_eq (by omega),trivial⟩,rfl,hc,hn',by simp only;omega,by simp only;omega,rfl⟩
 ·obtain rfl:i=k:=by omega
  rw[Acg,C7] at hn;rw[hn];clear hn;by_cases c6:n< -1000000000
  ·have h8:B1 n=false:=by simp[B1];omega
   rw[h8];clear h8;(refine Ai<|Ac<|Ab rfl<|Af rfl<|Af rfl<|Ah rfl (Aj 0 rfl rfl)<|Ax rfl rfl<|Aa<|Ao rfl (by omega)<|AV<|Ac<|Ab rfl<|Ab rfl<|B5 rfl rfl<|Ad rfl<|AB rfl (by omega)<|Ak rfl<|Ak rfl<|An rfl rfl<|Ab rfl<|Ad rfl<|Aa<|Ar ?_);exact BS rfl rfl
  ·have h8:B1 n=decide (n≤1000000000):=by simp[B1];omega
   rw[h8];clear h8;(refine Ai<|Ac<|Ab rfl<|Af rfl<|Af rfl<|Ah rfl (Aj 0 rfl rfl)<|Ax rfl rfl<|Aa<|Ao rfl (by omega)<|AV<|Ac<|Ab rfl<|Ab rfl<|B5 rfl rfl<|Ad rfl<|AE rfl (by omega)<|Ae rfl<|Ab rfl<|Ae rfl<|CW rfl rfl<|Ap rfl rfl<|Ab rfl<|Ad rfl<|Aa<|Ar ?_);exact BS rfl rfl
def HK(T:Ag→Prop)(P:Program)(f:FuncId):Prop:=∀{d w}{l:List St},T d→RSl 6 RSt d w l→l.length≤1000000→
 A8 P f [w] d [] (Ret fun r d' L'=>L'=[]∧∃cs',r=.tuple #[.agg cs'.toArray,vZ (Cr l).2]∧Aw d' cs' (Cr l).1)
def JA(a0 a1 a2 a3 a4:Nat):A6:=⟨83,[(.cell 2 (some 6)),(.tmp 3)],(sR (o1 2 (.alo (.agg #[(vZ 0),(vZ 0),(vZ 0),(Al []),(.slice none 0 0),(.slice none 0 0)]))<|o1 3 (.mv z0) .done) (sR (o1 9 (.bld [(0,1),(1,2),(3,1),(4,1),(5,1)] [(vZ 0),(vZ 0),(vZ 0),(Al []),(.slice none 0 0),(.slice none 0 0)] [(0,(kZ 5))])<|o1 4 (.alo (.agg #[(vZ 0),(vZ 0),(vZ 0),(Al []),(.slice none 0 0),(.slice none 0 0)]))<|o0 (.st 6 4 9) .done) (.seq (sR (o1 5 (.mv z0) .done) (.block 0 (.loop (.seq (sR (om 10 5<|om 11 0<|oL 12 11<|ob 13 .lss 10 12 .done) (.cond 13 .skip (.exit 0))) (.seq (.block 1 (sR (om 16 0<|om 17 5<|oI 18 6 16 17<|o1 19 (.ld (some 6) 18)<|o1 6 (.alo (.agg #[(vZ 0),(Al []),(vZ 0),(vZ 0),(.bool false),(.bool false)]))<|o0 (.st 6 6 19) .done) (sR (o1 7 (.alo (.agg #[(vZ 0),(vZ 0),(vZ 0),(Al []),(.slice none 0 0),(.slice none 0 0)])) .done) (sR (o1 8 (.mv (.const (.bool false))) .done) (.seq (sR (oj 20 0 6<|ol 21 20 .done) (.block 2 (sR (ob 23 .eql 21 z0<|om 22 23 .done) (.cond 22 (sR (oj 24 1 6<|ol 25 24<|oc 26 a0 [25]<|o0 (.st 6 7 26) .done) (rG (oj 27 1 6<|ol 28 27<|oc 29 a1 [28]<|om 8 29 .done))) (sR (ob 31 .eql 21 z1<|om 30 31 .done) (.cond 30 (sR (oj 32 2 6<|ol 33 32<|oc 34 a2 [33]<|om 8 34 .done) (sR (om 35 8 .done) (.cond 35 (rG (oj 36 2 6<|ol 37 36<|oc 38 a3 [37]<|o0 (.st 6 7 38) .done)) .skip))) (sR (ob 40 .eql 21 z2<|om 39 40 .done) (.cond 39 (sR (oj 41 4 6<|ol 42 41<|o1 43 (.un .not 42)<|om 44 43<|oF 45 44 (.fld 2 6)<|oF 46 44 (.ld none 45)<|oF 47 44 (.call a2 [46])<|o1 48 (.pick 44 (.const (.bool true)) 47)<|om 49 48<|oT 50 49 (.fld 5 6)<|oT 51 49 (.ld none 50)<|oT 52 49 (.un .not 51)<|gT 53 49 52<|oF 54 53 (.fld 3 6)<|oF 55 53 (.ld none 54)<|oF 56 53 (.call a2 [55])<|oT 57 49 (.pick 53 (.const (.bool true)) 56)<|gP 58 49 57<|om 8 58 .done) (sR (om 59 8 .done) (.cond 59 (.reg true (p1 61 (.fld 3 6)<|pl 62 61<|p1 63 (.fld 5 6)<|pl 64 63<|p1 66 (.fld 2 6)<|pl 67 66<|p1 68 (.fld 4 6)<|pl 69 68 (.alt ⟨(some 60),none,(.bsl 2 1 [(Al [])] [(0,(.const (Al [101,110,100]))),(1,(.const (Al [115,116,97,114,116])))])⟩ (oc 65 a4 [62,64] (oc 70 a4 [67,69] (o1 71 (.bsl 2 6 [(vZ 0),(vZ 0),(vZ 0),(Al []),(.slice none 0 0),(.slice none 0 0)] [(0,65),(1,70)]) (p1 72 (.bld [(0,1),(1,2),(3,1),(4,1),(5,1)] [(vZ 0),(vZ 0),(vZ 0),(Al []),(.slice none 0 0),(.slice none 0 0)] [(0,(kZ 6)),(4,60),(3,71)]) (.bar (o0 (.st 6 7 72) .done)))))) (oc 65 a4 [62,64] (.alt ⟨(some 60),none,(.bsl 2 1 [(Al [])] [(0,(.const (Al [101,110,100]))),(1,(.const (Al [115,116,97,114,116])))])⟩ (oc 70 a4 [67,69] (o1 71 (.bsl 2 6 [(vZ 0),(vZ 0),(vZ 0),(Al []),(.slice none 0 0),(.slice none 0 0)] [(0,65),(1,70)]) (p1 72 (.bld [(0,1),(1,2),(3,1),(4,1),(5,1)] [(vZ 0),(vZ 0),(vZ 0),(Al []),(.slice none 0 0),(.slice none 0 0)] [(0,(kZ 6)),(4,60),(3,71)]) (.bar (o0 (.st 6 7 72) .done))))) (oc 70 a4 [67,69] (.alt ⟨(some 60),none,(.bsl 2 1 [(Al [])] [(0,(.const (Al [101,110,100]))),(1,(.const (Al [115,116,97,114,116])))])⟩ (o1 71 (.bsl 2 6 [(vZ 0),(vZ 0),(vZ 0),(Al []),(.slice none 0 0),(.slice none 0 0)] [(0,65),(1,70)]) (p1 72 (.bld [(0,1),(1,2),(3,1),(4,1),(5,1)] [(vZ 0),(vZ 0),(vZ 0),(Al []),(.slice none 0 0),(.slice none 0 0)] [(0,(kZ 6)),(4,60),(3,71)]) (.bar (o0 (.st 6 7 72) .done)))) (o1 71 (.bsl 2 6 [(vZ 0),(vZ 0),(vZ 0),(Al []),(.slice none 0 0),(.slice none 0 0)] [(0,65),(1,70)]) (o1 60 (.bsl 2 1 [(Al [])] [(0,(.const (Al [101,110,100]))),(1,(.const (Al [115,116,97,114,116])))]) (p1 72 (.bld [(0,1),(1,2),(3,1),(4,1),(5,1)] [(vZ 0),(vZ 0),(vZ 0),(Al []),(.slice none 0 0),(.slice none 0 0)] [(0,(kZ 6)),(4,60),(3,71)]) (.bar (o0 (.st 6 7 72) .done)))))))))))) .skip))) .skip)))))))) (.seq (sR (om 73 8<|o1 74 (.un .not 73) .done) (.cond 74 (sR (o1 75 (.bld [(0,1),(1,2),(3,1),(4,1),(5,1)] [(vZ 0),(vZ 0),(vZ 0),(Al []),(.slice none 0 0),(.slice none 0 0)] [])<|o0 (.st 6 2 75)<|o1 3 (.mv z2) .done) .ret) .skip)) (rG (oj 76 4 4<|ol 77 76<|o1 78 (.ld (some 6) 7)<|o1 79 (.bsl 1 6 [(vZ 0),(vZ 0),(vZ 0),(Al []),(.slice none 0 0),(.slice none 0 0)] [(0,78)])<|o1 80 (.app 6 88 [(vZ 0),(vZ 0),(vZ 0),(Al []),(.slice none 0 0),(.slice none 0 0)] 77 79)<|oj 81 4 4<|o0 (.st 1 81 80) .done)))))))) (rG (om 14 5<|ob 15 .add 14 z1<|om 5 15 .done))))))) (sR (o1 82 (.ld (some 6) 4)<|o0 (.st 6 2 82)<|o1 3 (.mv z0) .done) .ret))))⟩
set_option maxHeartbeats 2000000 in
def OW{T:Ag→Prop}{f2 f3 f4 f5}(hTm:∀{d d'},Le d d'→T d→T d')(hd:dec P f=some (JA f1 f2 f3 f4 f5))(h1:Ih P f1)(h2:DP T P f2)(h3:MP P f3)(h4:II P f4)(h5:JH P f5):HK T P f:=by
 intro d w l ht hw hb;obtain⟨wa,wc,rfl⟩:=RSl.val hw;have hw0:RSl 6 RSt d (.slice wa l.length wc) l:=hw;refine Bd hd (No rfl) ?_;show gwp P _ _ _ _ _;apply Ai;apply Ay;refine B9 d [emp] Vs.emp ?_;(refine AX (fun _ _=>Ab rfl<|Aa<|Ac<|NJ rfl<|AX (fun _ _=>?_)));refine Az 0 [vZ 5,vZ 0,vZ 0,Al [],.slice none 0 0,.slice none 0 0] rfl rfl rfl rfl (No rfl) rfl rfl ?_;(refine Aa<|Ai<|Ac<|Ab rfl<|Aa<|Av ?_);rename_i b2 T2 b4 T4;refine Bg (α:=Nat) (fun i=>[(0,.slice wa l.length wc),(2,pZ b2),(4,pZ b4),(5,vZ i)])
  (fun i d' L'=>Le d d'∧i≤l.length∧(∀j (hj:j<l.length),j<i→BM l[j]=true)∧∃J ra rc h,AN 6 Aw d' (.slice ra i rc) ((l.map B4).take i) h∧L'=bx b4 T4 [vZ 5,vZ 0,vZ 0,Al [],.slice ra i rc,.slice none 0 0]::bx b2 T2 A7::h::J)
  (fun i=>l.length - i) 0 ⟨rfl,rfl,rfl,rfl,trivial⟩ ⟨Le.refl _,ZN _,fun j _ h=>absurd h (Z3 j),[],none,0,emp,AN.nil,rfl⟩ ?_
 rintro i ρ d3 L' ⟨hl3,hi,hall,J,ra,rc,h,hrow,hL⟩;subst hL;have hw3:RSl 6 RSt d3 (.slice wa l.length wc) l:=RSl.mono (R:=RSt) Df hw0 hl3;have ht3:=hTm hl3 ht;by_cases hc:i<l.length
 ·(refine Ai<|Ac<|Ab rfl<|As rfl<|AA rfl<|Ax rfl rfl<|Aa<|Au rfl (by omega)<|Am<|Ai<|Av<|Ac<|As rfl<|Ab rfl<|AJ (sz:=6) (R:=RSt) (by rfl) (by assumption) (by rfl) rfl (by omega) ?_;rintro _ _ _ _ _ ⟨rfl,_,_,_,_⟩;refine BE rfl (by assumption) rfl<|AX (fun _ _=>?_));rename_i q1 q2 q3 q4 q5 b6 T6;have hs3:RSt d3 [vZ l[i].kind,Al l[i].text,vZ l[i].src,vZ l[i].dst,.bool l[i].hf,.bool l[i].ht] l[i]:=⟨rfl,by assumption,by assumption,by assumption,by assumption⟩
  refine Az 0 [vZ l[i].kind,Al l[i].text,vZ l[i].src,vZ l[i].dst,.bool l[i].hf,.bool l[i].ht] rfl rfl rfl rfl (No rfl) rfl rfl ?_;(refine Aa<|Ac<|AX (fun _ _=>Aa<|Ac<|Ad rfl<|Aa<|Ai<|Ac<|Af rfl<|Ah rfl (Aj 1 rfl rfl)<|Aa<|Av<|Ac<|Aq rfl rfl<|Ad rfl<|Aa ?_));rename_i b7 T7;generalize hs:l[i]=s at hs3⊢;obtain⟨-,hk,htl,hs1,hs2⟩:=hs3;obtain⟨kind,text,src,dst,hf,hto⟩:=s;simp only at hk htl hs1 hs2⊢;show gwp P _ _ _ _ _;refine N4 (fun ρ d4 L4=>Le d3 d4∧∃c0 c1 c2 c3 c4 c5,(BM l[i]=true→Aw d4 [c0,c1,c2,c3,c4,c5] (B4 l[i]))∧A9 ρ [(0,.slice wa l.length wc),(2,pZ b2),(4,pZ b4),(5,vZ i),(7,pZ b7),(8,.bool (BM l[i]))]∧
   L4.Perm (bx b7 T7 [c0,c1,c2,c3,c4,c5]::bx b6 T6 [vZ kind,Al text,vZ src,vZ dst,.bool hf,.bool hto]::bx b4 T4 [vZ 5,vZ 0,vZ 0,Al [],.slice ra i rc,.slice none 0 0]::bx b2 T2 A7::h::J)) ?_ ?_
  ·rw[hs];by_cases k0:kind=0
   ·obtain⟨e1,e2⟩:=WY (s:=⟨kind,text,src,dst,hf,hto⟩) k0;simp only at e1 e2;rw[e1,e2];clear e1 e2;(refine Au rfl (by omega)<|Ac<|Af rfl<|Ah rfl (Aj 1 rfl rfl) ?_);refine AF rfl h1 ?_;skip;refine Az 0 [vZ 4,vZ 0,vZ 0,Al text,.slice none 0 0,.slice none 0 0] rfl rfl rfl rfl (No rfl) rfl rfl ?_;(refine Aa<|Ay<|Af rfl<|Ah rfl (Aj 1 rfl rfl) ?_);refine AF rfl (h2 ht3 htl) ?_;(refine Ad rfl<|Aa ?_);exact⟨Le.refl _,_,_,_,_,_,_,fun _=>OK htl,⟨rfl,rfl,rfl,rfl,rfl,rfl,trivial⟩,.refl _⟩
   by_cases k1:kind=1
   ·obtain⟨e1,e2⟩:=step1 (s:=⟨kind,text,src,dst,hf,hto⟩) k1;simp only at e1 e2;rw[e1,e2];clear e1 e2;(refine Ao rfl (by omega)<|Ac<|Aq rfl rfl<|Ad rfl<|Aa<|Au rfl (by omega)<|Ac<|Af rfl<|Ah rfl (Aj 1 rfl rfl) ?_);refine AF rfl h3 ?_;have hr:=FZ (d:=d3) (n:=src);have hW:=h4 (d:=d3) (n:=src);unfold H8 at hr;cases hn:B1 src with
    |false=>
     clear hr hW hn
     (refine Ad rfl<|Aa<|Ac<|Ad rfl<|Aa<|AK rfl<|Am ?_)
     exact⟨Le.refl _,_,_,_,_,_,_,fun q=>absurd q (by decide),⟨rfl,rfl,rfl,rfl,rfl,rfl,trivial⟩,.refl _⟩
    |true=>
     replace hW:=hW hn
     rw[if_pos hn] at hr
     clear hn
     (refine Ad rfl<|Aa<|Ac<|Ad rfl<|Aa<|Bb rfl<|Ay<|Af rfl<|Ah rfl (Aj 1 rfl rfl) ?_)
     refine AF rfl hW ?_
     clear hW
     skip
     refine Az 0 (Et src) rfl rfl rfl rfl (No rfl) rfl rfl ?_
     (apply Aa)
     exact⟨Le.refl _,_,_,_,_,_,_,fun _=>hr,⟨rfl,rfl,rfl,rfl,rfl,rfl,trivial⟩,.refl _⟩
   by_cases k2:kind=2
   ·obtain⟨e1,e2⟩:=step2 (s:=⟨kind,text,src,dst,hf,hto⟩) k2;simp only at e1 e2;rw[e1,e2];clear e1 e2;(refine Ao rfl (by omega)<|Ac<|Aq rfl rfl<|Ad rfl<|Aa<|Ao rfl (by omega)<|Ac<|Aq rfl rfl<|Ad rfl<|Aa<|Au rfl (by omega)<|Ac<|Af rfl<|Ah rfl (Aj 1 rfl rfl)<|Bi rfl<|Ad rfl ?_);refine EN (Qn:=fun ρ d8 L8=>d8=d3∧A9 ρ [(0,.slice wa l.length wc),(2,pZ b2),(4,pZ b4),(5,vZ i),(6,pZ b6),(7,pZ b7),(8,.bool (CN dst hto && CN src hf))]∧
     L8=bx b7 T7 A7::bx b6 T6 [vZ kind,Al text,vZ src,vZ dst,.bool hf,.bool hto]::bx b4 T4 [vZ 5,vZ 0,vZ 0,Al [],.slice ra i rc,.slice none 0 0]::bx b2 T2 A7::h::J) (fun ρ d8 L8 hM=>?_) _ ?_
    ·obtain⟨hdd,hsl,hL⟩:=hM;subst hL;subst hdd;show gwp P _ _ _ _ _;refine Bo _ hsl ?_;clear hsl;apply Ai;apply Ay;refine B9 d8 (bx b6 T6 [vZ kind,Al text,vZ src,vZ dst,.bool hf,.bool hto]::bx b7 T7 A7::bx b4 T4 [vZ 5,vZ 0,vZ 0,Al [],.slice ra i rc,.slice none 0 0]::bx b2 T2 A7::h::J) (Vs.perm (Z0 _ _ _)) ?_;cases hA:(CN dst hto && CN src hf) with
     |false=>
      clear hA
      (refine Ad rfl<|Aa<|AK rfl<|Am ?_)
      exact⟨Le.refl _,_,_,_,_,_,_,fun q=>absurd q (by decide),⟨rfl,rfl,rfl,rfl,rfl,rfl,trivial⟩,Z0 _ _ _⟩
     |true=>
      obtain⟨hE1,hE2⟩:=Bool.and_eq_true_iff.1 hA
      have hp1:=fun d=>h5 (d:=d) hE1
      have hp2:=fun d=>h5 (d:=d) hE2
      clear hE1 hE2 hA
      have hr1:=Ev (d:=d8) (n:=dst) (has:=hto)
      have hr2:=Ev (d:=d8) (n:=src) (has:=hf)
      obtain⟨u0,u1,u2,u3,u4,u5,hu⟩:=six hr1.len
      obtain⟨o0,o1,o2,o3,o4,o5,ho⟩:=six hr2.len
      rw[hu] at hr1 hp1
      rw[ho] at hr2 hp2
      clear hu ho
      (refine Ad rfl<|Aa<|Bb rfl ?_)
      refine Dh [bx b6 T6 [vZ kind,Al text,vZ src,vZ dst,.bool hf,.bool hto]] (bx b7 T7 A7::bx b4 T4 [vZ 5,vZ 0,vZ 0,Al [],.slice ra i rc,.slice none 0 0]::bx b2 T2 A7::h::J) rfl ?_
      (refine Af rfl<|Ah rfl (Aj 0 rfl rfl)<|Af rfl<|Ah rfl (Aj 0 rfl rfl)<|Af rfl<|Ah rfl (Aj 0 rfl rfl)<|Af rfl<|Ah rfl (Aj 0 rfl rfl) ?_)
      refine Dx ?_ ?_
      ·refine G5 (v0:=Al DE) (v1:=Al CA) rfl rfl rfl rfl (fun b60 T60=>?_)
       refine BF (fun dA hlA hgA=>?_)
       refine AF rfl (hp1 _) ?_
       refine AF rfl (hp2 _) ?_
       refine Hp (a:=[u0,u1,u2,u3,u4,u5]) (b:=[o0,o1,o2,o3,o4,o5]) rfl rfl rfl rfl (fun b71 T71=>?_)
       (refine Gh rfl rfl rfl<|Bt ?_)
       refine B9 _ _ (Vs.perm (Z0 _ _ _)) ?_
       refine BF (fun dB hlB hgB=>?_)
       have hR:=FU (hr1.mono (hlA.trans hlB)) (hr2.mono (hlA.trans hlB)) (hgA.trans hlB) hgB
       refine Az 1 [vZ 6,vZ 0,vZ 0,Al [],.slice (some ⟨b71,0,none⟩) 2 2,.slice (some ⟨b60,0,none⟩) 2 2] rfl rfl rfl rfl (No rfl) rfl rfl ?_
       (apply Aa)
       exact⟨(hlA.trans hlB),_,_,_,_,_,_,fun _=>hR,⟨rfl,rfl,rfl,rfl,rfl,rfl,trivial⟩,Z0 _ _ _⟩
      ·refine AF rfl (hp1 _) ?_
       refine Dx ?_ ?_
       ·refine G5 (v0:=Al DE) (v1:=Al CA) rfl rfl rfl rfl (fun b60 T60=>?_)
        refine BF (fun dA hlA hgA=>?_)
        refine AF rfl (hp2 _) ?_
        refine Hp (a:=[u0,u1,u2,u3,u4,u5]) (b:=[o0,o1,o2,o3,o4,o5]) rfl rfl rfl rfl (fun b71 T71=>?_)
        (refine Gh rfl rfl rfl<|Bt ?_)
        refine B9 _ _ (Vs.perm (Z0 _ _ _)) ?_
        refine BF (fun dB hlB hgB=>?_)
        have hR:=FU (hr1.mono (hlA.trans hlB)) (hr2.mono (hlA.trans hlB)) (hgA.trans hlB) hgB
        refine Az 1 [vZ 6,vZ 0,vZ 0,Al [],.slice (some ⟨b71,0,none⟩) 2 2,.slice (some ⟨b60,0,none⟩) 2 2] rfl rfl rfl rfl (No rfl) rfl rfl ?_
        (apply Aa)
        exact⟨(hlA.trans hlB),_,_,_,_,_,_,fun _=>hR,⟨rfl,rfl,rfl,rfl,rfl,rfl,trivial⟩,Z0 _ _ _⟩
       ·refine AF rfl (hp2 _) ?_
        refine Dx ?_ ?_
        ·refine G5 (v0:=Al DE) (v1:=Al CA) rfl rfl rfl rfl (fun b60 T60=>?_)
         refine BF (fun dA hlA hgA=>?_)
         refine Hp (a:=[u0,u1,u2,u3,u4,u5]) (b:=[o0,o1,o2,o3,o4,o5]) rfl rfl rfl rfl (fun b71 T71=>?_)
         (refine Gh rfl rfl rfl<|Bt ?_)
         refine B9 _ _ (Vs.perm (Z0 _ _ _)) ?_
         refine BF (fun dB hlB hgB=>?_)
         have hR:=FU (hr1.mono (hlA.trans hlB)) (hr2.mono (hlA.trans hlB)) (hgA.trans hlB) hgB
         refine Az 1 [vZ 6,vZ 0,vZ 0,Al [],.slice (some ⟨b71,0,none⟩) 2 2,.slice (some ⟨b60,0,none⟩) 2 2] rfl rfl rfl rfl (No rfl) rfl rfl ?_
         (apply Aa)
         exact⟨(hlA.trans hlB),_,_,_,_,_,_,fun _=>hR,⟨rfl,rfl,rfl,rfl,rfl,rfl,trivial⟩,Z0 _ _ _⟩
        ·refine Hp (a:=[u0,u1,u2,u3,u4,u5]) (b:=[o0,o1,o2,o3,o4,o5]) rfl rfl rfl rfl (fun b71 T71=>?_)
         refine BF (fun dB hlB hgB=>?_)
         refine G5 (v0:=Al DE) (v1:=Al CA) rfl rfl rfl rfl (fun b60 T60=>?_)
         (refine Gh rfl rfl rfl<|Bt ?_)
         refine B9 _ _ (Vs.perm (Z0 _ _ _)) ?_
         refine BF (fun dA hlA hgA=>?_)
         have hR:=FU (hr1.mono (hlB.trans hlA)) (hr2.mono (hlB.trans hlA)) hgA (hgB.trans hlA)
         refine Az 1 [vZ 6,vZ 0,vZ 0,Al [],.slice (some ⟨b71,0,none⟩) 2 2,.slice (some ⟨b60,0,none⟩) 2 2] rfl rfl rfl rfl (No rfl) rfl rfl ?_
         (apply Aa)
         exact⟨(hlB.trans hlA),_,_,_,_,_,_,fun _=>hR,⟨rfl,rfl,rfl,rfl,rfl,rfl,trivial⟩,Z0 _ _ _⟩
    ·cases hf with
     |false=>
      cases hto with
      |false=>
       (refine Ak rfl<|Ak rfl<|Ak rfl<|Ap rfl rfl<|Ad rfl<|Ae rfl<|Af rfl<|Ae rfl<|Ah rfl (Aj 1 rfl rfl)<|Ae rfl<|Bi rfl<|Ae rfl<|Ad rfl<|Ak rfl<|Ak rfl<|Ak rfl<|Ae rfl<|Ap rfl rfl<|Ap rfl rfl<|Ad rfl<|Aa ?_)
       exact⟨rfl,⟨rfl,rfl,rfl,rfl,rfl,rfl,rfl,trivial⟩,rfl⟩
      |true=>
       (refine Ak rfl<|Ak rfl<|Ak rfl<|Ap rfl rfl<|Ad rfl<|Ae rfl<|Af rfl<|Ae rfl<|Ah rfl (Aj 1 rfl rfl)<|Ae rfl<|Bi rfl<|Ae rfl<|Ad rfl<|Ae rfl<|Af rfl<|Ae rfl<|Ah rfl (Aj 1 rfl rfl)<|Ae rfl ?_)
       refine AF rfl h3 ?_
       (refine Ae rfl<|An rfl rfl<|Ap rfl rfl<|Ad rfl<|Aa ?_)
       exact⟨rfl,⟨rfl,rfl,rfl,rfl,rfl,rfl,congrArg Value.bool (by simp[CN]),trivial⟩,rfl⟩
     |true=>
      (refine Ae rfl<|Af rfl<|Ae rfl<|Ah rfl (Aj 1 rfl rfl)<|Ae rfl ?_)
      refine AF rfl h3 ?_
      have hE:CN src true=B1 src:=by simp[CN]
      rw[hE]
      clear hE
      cases B1 src with
      |false=>
       (refine An rfl rfl<|Ad rfl<|Ak rfl<|Ak rfl<|Ak rfl<|Ak rfl<|AY rfl<|AY rfl<|AY rfl<|Ak rfl<|An rfl rfl<|Ad rfl<|Aa ?_)
       exact⟨rfl,⟨rfl,rfl,rfl,rfl,rfl,rfl,congrArg Value.bool (by simp[CN]),trivial⟩,rfl⟩
      |true=>
       cases hto with
       |false=>
        (refine An rfl rfl<|Ad rfl<|Ae rfl<|Af rfl<|Ae rfl<|Ah rfl (Aj 1 rfl rfl)<|Ae rfl<|Bi rfl<|Ae rfl<|Ad rfl<|Ak rfl<|Ak rfl<|Ak rfl<|Ae rfl<|Ap rfl rfl<|Ap rfl rfl<|Ad rfl<|Aa ?_)
        exact⟨rfl,⟨rfl,rfl,rfl,rfl,rfl,rfl,rfl,trivial⟩,rfl⟩
       |true=>
        (refine An rfl rfl<|Ad rfl<|Ae rfl<|Af rfl<|Ae rfl<|Ah rfl (Aj 1 rfl rfl)<|Ae rfl<|Bi rfl<|Ae rfl<|Ad rfl<|Ae rfl<|Af rfl<|Ae rfl<|Ah rfl (Aj 1 rfl rfl)<|Ae rfl ?_)
        refine AF rfl h3 ?_
        (refine Ae rfl<|An rfl rfl<|Ap rfl rfl<|Ad rfl<|Aa ?_)
        exact⟨rfl,⟨rfl,rfl,rfl,rfl,rfl,rfl,congrArg Value.bool (by simp[CN]),trivial⟩,rfl⟩
   obtain⟨e1,e2⟩:=Xh (s:=⟨kind,text,src,dst,hf,hto⟩) k0 k1 k2;rw[e1,e2];clear e1 e2;(refine Ao rfl (by omega)<|Ac<|Aq rfl rfl<|Ad rfl<|Aa<|Ao rfl (by omega)<|Ac<|Aq rfl rfl<|Ad rfl<|Aa<|Ao rfl (by omega)<|Am ?_);exact⟨Le.refl _,_,_,_,_,_,_,fun q=>absurd q (by decide),⟨rfl,rfl,rfl,rfl,rfl,rfl,trivial⟩,.refl _⟩
  rintro ρ d4 L4 ⟨hl4,c0,c1,c2,c3,c4,c5,hR,hsl,hperm⟩;show gwp P _ _ _ _ _;refine Bo _ hsl ?_;clear hsl hs;apply Ai;apply Ai;apply Ay;refine B9 d4 _ (Vs.perm hperm) ?_;clear hperm;cases hok:BM l[i] with
  |false=>
   rw[UR hc hok]
   clear hR hok
   (refine Ad rfl<|Bi rfl<|Aa<|Bb rfl<|Ac<|Bl ?_)
   refine Az 3 A7 rfl rfl rfl rfl (No rfl) rfl rfl ?_
   (refine Ab rfl<|Aa<|Ar ?_)
   exact BG (L':=[]) [.agg A7.toArray,vZ 2] ⟨A3 3 rfl rfl rfl,A4 rfl,trivial⟩ (ZB _) ⟨rfl,_,rfl,Aw.zero⟩
  |true=>
   replace hR:=hR hok
   have hrow4:AN 6 Aw d4 (.slice ra i rc) ((l.map B4).take i) h:=AN.mono (R:=Aw) B8 hrow hl4
   have hnx:∀j (hj:j<l.length),j<i+1→BM l[j]=true:=fun j hj hji=>by
    by_cases e:j<i
    ·exact hall j hj e
    ·obtain rfl:j=i:=by omega
     exact hok
   clear hok
   (refine Ad rfl<|Bi rfl<|Aa<|AK rfl<|Am<|Ay<|Af rfl<|Ah rfl (Aj 2 rfl rfl)<|AD 0 rfl rfl rfl ?_)
   refine D4 rfl rfl (fun b27 T27=>?_)
   refine DH (R:=Aw) 4 rfl rfl hrow4 rfl (AN.D8 hR.len hR) AH (by omega) (by simp;omega) (by simp;omega) (fun v5 h5 o5=>?_)
   have htk:(l.map B4).take i++[B4 l[i]]=(l.map B4).take (i+1):=by rw[ZA (show i<(l.map B4).length by simpa using hc)];simp
   rw[htk] at o5
   obtain⟨a5,c5',rfl⟩:=o5.val
   have hlt:((l.map B4).take (i+1)).length=i+1:=by simp;omega
   rw[hlt] at o5⊢
   (apply Af;rfl)
   refine B9 d4 (bx b4 T4 [vZ 5,vZ 0,vZ 0,Al [],.slice ra i rc,.slice none 0 0]::bx b2 T2 A7::h5::J) (Vs.drop (.cons _ (.cons _ (ZS _)))) ?_
   refine Az 0 [vZ 5,vZ 0,vZ 0,Al [],.slice a5 (i+1) c5',.slice none 0 0] rfl rfl rfl rfl (No rfl) rfl rfl ?_
   (refine Aa<|Ay<|Ab rfl<|AI rfl rfl (by omega) (by omega)<|Ab rfl<|Aa ?_)
   exact⟨i+1,by omega,⟨rfl,rfl,rfl,int_eq (by omega),trivial⟩,hl3.trans hl4,hc,hnx,J,a5,c5',h5,o5,rfl⟩
 ·obtain rfl:i=l.length:=by omega
  rw[Sv (fun j hj=>hall j hj hj)];have hf:(l.map B4).take l.length=l.map B4:=Z7 (by simp);(refine Ai<|Ac<|Ab rfl<|As rfl<|AA rfl<|Ax rfl rfl<|Aa<|Ao rfl (by omega)<|AV<|Ac<|AD 0 rfl rfl rfl ?_);refine Az 1 [vZ 5,vZ 0,vZ 0,Al [],.slice ra l.length rc,.slice none 0 0] rfl rfl rfl rfl (No rfl) rfl rfl ?_;(refine Ab rfl<|Aa<|Ar ?_);refine Iv [.agg [vZ 5,vZ 0,vZ 0,Al [],.slice ra l.length rc,.slice none 0 0].toArray,vZ 0] ⟨A3 1 rfl rfl rfl,A4 rfl,trivial⟩ (fun d' hld hk=>?_);refine⟨rfl,_,rfl,Aw.close (v:=BU l) EB Ba Ba (by simp[BU,V.text]) ?_ RSl.nil⟩
  have hrs:=hrow.rsl (R:=Aw) B8 (by omega) hld (hk h (by simp));rw[hf] at hrs;have hml:(l.map B4).length=l.length:=by simp
  exact hrs
def Fo(x:V×Int):V:=if x.2≠0 then V.zero else x.1
def RM{s:St}(h:(Bv v s).2≠0):(Bv v s).1=V.zero:=by
 unfold Bv at h⊢;repeat' split
 all_goals simp_all
def X2{y:V}{s:St}(h:(BP v s y).2≠0):(BP v s y).1=V.zero:=by
 unfold BP at h⊢;repeat' split
 all_goals simp_all
def Mz(T:Ag→Prop)(P:Program)(f:FuncId):Prop:=∀(l:List St) {d cs w}{v:V},T d→Aw d cs v→Gd v→Bc v≤48→Bq v≤1000000→RSl 6 RSt d w l→(∀s∈l,Rh s)→l.length≤100→
 A8 P f [.agg cs.toArray,w] d [] (Ret fun r d' L'=>L'=[]∧∃cs',r=.tuple #[.agg cs'.toArray,vZ (BX v l).2]∧Aw d' cs' (Fo (BX v l)))
def Kc(a0 a1 a2 a3:Nat):A6:=⟨57,[(.cell 4 (some 6)),(.tmp 5)],(sR (o1 2 (.box 0)<|o1 4 (.alo (.agg #[(vZ 0),(vZ 0),(vZ 0),(Al []),(.slice none 0 0),(.slice none 0 0)]))<|o1 5 (.mv z0) .done) (.seq (sR (om 8 1<|oL 9 8<|ob 10 .eql 9 z0 .done) (.cond 10 (sR (o1 11 (.bld [(0,1),(1,2),(3,1),(4,1),(5,1)] [(vZ 0),(vZ 0),(vZ 0),(Al []),(.slice none 0 0),(.slice none 0 0)] [])<|o0 (.st 6 4 11)<|o1 5 (.mv z0) .done) .ret) .skip)) (.seq (sR (om 12 1<|oL 13 12<|ob 14 .eql 13 z1 .done) (.cond 14 (.seq (.reg true (p1 15 (.ld (some 6) 2)<|pm 16 1<|p1 17 (.idx 6 16 z0)<|p1 18 (.ld (some 6) 17)<|oc 19 a0 [15,18]<|p1 20 (.ext 19 0)<|p1 21 (.ext 19 1) (.bar (o0 (.st 6 4 20) (pm 5 21 .done))))) .ret) .skip)) (.seq (.reg true (pm 24 1<|p1 25 (.idx 6 24 z0)<|p1 26 (.ld (some 6) 25) (.par (o1 6 (.alo (.agg #[(vZ 0),(vZ 0),(vZ 0),(Al []),(.slice none 0 0),(.slice none 0 0)])) .done) (o1 23 (.ld (some 6) 2) (oc 27 a1 [23,26] (pm 22 27 (p1 28 (.ext 22 0) (p1 29 (.ext 22 1) .done))))) (o0 (.st 6 6 28) (pm 7 29 .done))))) (.seq (sR (om 30 7<|ob 31 .neq 30 z0 .done) (.cond 31 (sR (o1 32 (.bld [(0,1),(1,2),(3,1),(4,1),(5,1)] [(vZ 0),(vZ 0),(vZ 0),(Al []),(.slice none 0 0),(.slice none 0 0)] [])<|om 33 7<|o0 (.st 6 4 32)<|om 5 33 .done) .ret) .skip)) (.seq (sR (oj 34 0 6<|ol 35 34<|ob 36 .eql 35 z0 .done) (.cond 36 (sR (o1 37 (.ld (some 6) 2)<|o0 (.st 6 4 37)<|o1 5 (.mv z0) .done) .ret) .skip)) (.seq (.reg true (pm 40 1<|p1 41 (.sl 6 40 (some z1) none none)<|o1 39 (.ld (some 6) 6)<|oc 42 a2 [39,41]<|pm 38 42<|p1 43 (.ext 38 0)<|p1 44 (.ext 38 1)<|o0 (.st 6 6 43)<|pm 7 44 .done)) (.seq (sR (om 45 7<|ob 46 .neq 45 z0 .done) (.cond 46 (sR (o1 47 (.bld [(0,1),(1,2),(3,1),(4,1),(5,1)] [(vZ 0),(vZ 0),(vZ 0),(Al []),(.slice none 0 0),(.slice none 0 0)] [])<|om 48 7<|o0 (.st 6 4 47)<|om 5 48 .done) .ret) .skip)) (.seq (.reg true (p1 49 (.ld (some 6) 2)<|pm 50 1<|p1 51 (.idx 6 50 z0)<|p1 52 (.ld (some 6) 51)<|p1 53 (.ld (some 6) 6)<|oc 54 a3 [49,52,53]<|p1 55 (.ext 54 0)<|p1 56 (.ext 54 1) (.bar (o0 (.st 6 4 55) (pm 5 56 .done))))) .ret)))))))))⟩
set_option maxHeartbeats 2000000 in
def UW{T:Ag→Prop}(hTm:∀{d d'},T d→Le d d'→T d'){f2 f3}(hd:I7 P f=some (Kc f1 f2 f f3))(h1:Oe P f1)(h2:GR P f2)(h3:Nn T P f3):Mz T P f:=by
 intro l;induction l with
 |nil=>
  intro d cs w v ht hv hg hdep hb hw hst hll
  obtain⟨a,c,rfl⟩:=RSl.val hw
  refine Bd hd (No rfl) ?_
  obtain⟨c0,c1,c2,c3,c4,c5,rfl⟩:=six hv.len
  show gwp P _ _ _ _ _
  apply Ai;apply Ay
  refine AO (l:=[c0,c1,c2,c3,c4,c5]) rfl (fun b2 T2=>?_)
  have hz:(([]:List St).length:Int)=0:=rfl
  (refine AX (fun _ _=>Ab rfl<|Aa<|Ai<|Ac<|As rfl<|AA rfl<|Aq rfl rfl<|Aa<|Au rfl (by omega)<|Ac<|Bl ?_))
  refine Az 0 A7 rfl rfl rfl rfl (No rfl) rfl rfl ?_
  (refine Ab rfl<|Aa<|Ar ?_)
  exact Bh 0 rfl rfl rfl Aw.zero
 |cons s l ih=>
  intro d cs w v ht hv hg hdep hb hw hst hll
  have n1:=RSl.Be hw
  obtain⟨a,c,rfl⟩:=RSl.val hw
  have hw':=hw
  have hcb:=Ec v
  have hso:=hst s (ZG ..)
  refine Bd hd (No rfl) ?_
  have hv0:=hv
  obtain⟨c0,c1,c2,c3,c4,c5,rfl⟩:=six hv.len
  show gwp P _ _ _ _ _
  apply Ai;apply Ay
  refine AO (l:=[c0,c1,c2,c3,c4,c5]) rfl (fun b2 T2=>?_)
  (refine AX (fun _ _=>Ab rfl<|Aa ?_))
  rename_i b4 T4
  cases l with
  |nil=>
   have hz:(([s]:List St).length:Int)=1:=rfl
   have hno:Fo (BX v [s])=(Bv v s).1:=by
    by_cases q:(Bv v s).2≠0
    ·rw[Fo,BX,if_pos q,RM q]
    ·rw[Fo,BX,if_neg q]
   rw[hno]
   (refine Ai<|Ac<|As rfl<|AA rfl<|Aq rfl rfl<|Aa<|Ao rfl (by omega)<|Am<|Ai<|Ac<|As rfl<|AA rfl<|Aq rfl rfl<|Aa<|Au rfl (by omega)<|Ai ?_)
   refine AT ?_
   (refine AD 1 rfl rfl rfl<|As rfl<|AJ (m:=0) (sz:=6) (R:=RSt) (by rfl) (by assumption) (by rfl) rfl (by omega) ?_;rintro _ _ _ _ _ ⟨rfl,_,_,_,_⟩;apply BE;rfl;assumption;rfl)
   rename_i hcs hD ik' it' is id
   refine AR rfl (h1 hv (EF hg) ⟨rfl,ik',it',is,id⟩ hso.1 hso.2.1 (by omega)) (fun r d5 L5 hl5 ⟨hL,cs',hr,hR2⟩=>?_)
   subst hL;subst hr
   obtain⟨g0,g1,g2,g3,g4,g5,rfl⟩:=six hR2.len
   (refine AL rfl rfl<|AL rfl rfl<|Bt ?_)
   refine Az 0 [g0,g1,g2,g3,g4,g5] rfl rfl rfl rfl (No rfl) (AH _ _ _ hR2) rfl ?_
   (refine Ab rfl<|Aa<|Ar ?_)
   exact Bh 0 rfl rfl rfl hR2
  |cons s2 l=>
  have hz:((s::s2::l).length:Int)=l.length+2:=by simp;omega
  have hcnt:=JN (s2::l) (AU v s).1 (Aaf (Dj v s) hb)
  have hll':(s2::l).length≤99:=by rw[ZU] at hll;omega
  (refine Ai<|Ac<|As rfl<|AA rfl<|Aq rfl rfl<|Aa<|Ao rfl (by omega)<|Am<|Ai<|Ac<|As rfl<|AA rfl<|Aq rfl rfl<|Aa<|Ao rfl (by omega)<|Am<|Ai ?_)
  refine AT ?_
  (refine As rfl<|AJ (m:=0) (sz:=6) (R:=RSt) (by rfl) (by assumption) (by rfl) rfl (by omega) ?_;rintro _ _ _ _ _ ⟨rfl,_,_,_,_⟩;apply BE;rfl;assumption;rfl)
  rename_i hcs hD ik' it' is id
  have hS:RSt d [vZ s.kind,Al s.text,vZ s.src,vZ s.dst,.bool s.hf,.bool s.ht] s:=⟨rfl,ik',it',is,id⟩
  refine F8 (α:=Nat×TypeId) (β:=List Value) [(1,.slice a (s::s2::l).length c),(2,pZ b2),(4,pZ b4)] (fun x=>[(6,.pointer (some ⟨x.1,0,none⟩))]) (fun x d L=>L=[bx x.1 x.2 A7])
   (fun y=>[(28,.agg y.toArray),(29,vZ (AU v s).2)]) (fun y d L=>Aw d y (AU v s).1∧L=[]) [] [] rfl
   (fun x d d' M hl h=>h) (fun y d d' M hl h=>⟨Aw.mono hl h.1,h.2⟩) (fun x=>rfl) (fun y=>rfl) rfl ⟨rfl,rfl,rfl,trivial⟩ ?_ ?_ ?_
  ·(refine AX (fun _ _=>AW ?_))
   exact⟨_,rfl,(_,_),⟨rfl,trivial⟩,rfl⟩
  ·(apply AD 1;rfl;rfl;rfl)
   refine AR rfl (h2 hv (EF hg) (FY hg) hS) (fun r d3 L3 _ ⟨hdd,hL,cs',hr,hR'⟩=>?_)
   subst hdd;subst hL;subst hr
   (refine Bj rfl<|AL rfl rfl<|AL rfl rfl<|AW ?_)
   exact⟨_,rfl,cs',⟨rfl,rfl,trivial⟩,hR',rfl⟩
  rintro⟨b6,T6⟩ cs' ρ d' M1 M2 hl1 hM1 ⟨hR,hM2⟩
  subst hM1;subst hM2
  obtain⟨lv',kv',rfl,_⟩:=hR.open
  refine Az 0 [vZ (AU v s).1.kind,vZ (AU v s).1.m,vZ (AU v s).1.e,Al (AU v s).1.text,lv',kv'] rfl rfl rfl rfl (No rfl) (AH _ _ _ hR) rfl ?_
  (refine Ab rfl<|AW ?_)
  have ht1:=hTm ht hl1
  have hv1:=Aw.mono hl1 hv0
  have hw1:RSl 6 RSt d' (.slice a (s::s2::l).length c) (s::s2::l):=RSl.mono (R:=RSt) (fun hl h=>h) hw' hl1
  rw[BX]
  by_cases he:(AU v s).2≠0
  ·rw[if_pos (.inl he),show Fo (v,(AU v s).2)=V.zero from if_pos he]
   (refine Ai<|Ac<|Ab rfl<|AG rfl rfl<|Aa<|Au rfl (by omega)<|Ac<|Bl<|Ab rfl ?_)
   refine Az 0 A7 rfl rfl rfl rfl (No rfl) rfl rfl ?_
   (refine Ab rfl<|Aa<|Ar ?_)
   exact Bh 0 rfl rfl rfl Aw.zero
  have he0:(AU v s).2=0:=by simpa using he
  by_cases hk0:(AU v s).1.kind=0
  ·rw[if_pos (.inr hk0),show Fo (v,(AU v s).2)=v from if_neg he]
   (refine Ai<|Ac<|Ab rfl<|AG rfl rfl<|Aa<|Ao rfl (by omega)<|Am<|Ai<|Ac<|Af rfl<|Ah rfl (Aj 2 rfl rfl)<|Aq rfl rfl<|Aa<|Au rfl (by omega)<|Ac<|AD 1 rfl rfl rfl ?_)
   refine Az 0 [c0,c1,c2,c3,c4,c5] rfl rfl rfl rfl (No rfl) (AH _ _ _ hv1) rfl ?_
   (refine Ab rfl<|Aa<|Ar ?_)
   exact Bh 0 rfl rfl (int_eq he0.symm) hv1
  rw[if_neg (fun h=>h.elim he hk0)]
  (refine Ai<|Ac<|Ab rfl<|AG rfl rfl<|Aa<|Ao rfl (by omega)<|Am<|Ai<|Ac<|Af rfl<|Ah rfl (Aj 2 rfl rfl)<|Aq rfl rfl<|Aa<|Ao rfl (by omega)<|Am<|Ai ?_)
  refine Dh [bx b4 T4 A7,bx b2 T2 [c0,c1,c2,c3,c4,c5]] [bx b6 T6 [vZ (AU v s).1.kind,vZ (AU v s).1.m,vZ (AU v s).1.e,Al (AU v s).1.text,lv',kv']] rfl ?_
  (apply As;rfl)
  refine DF (n:=1) rfl hw1 rfl rfl (by simp) (fun v' hv'=>?_)
  (apply AD 2;rfl;rfl;rfl)
  refine AR rfl (ih ht1 hR (Gu hg s) (Aaf (I1 v s) hdep) (Aaf (Dj v s) hb) hv' (fun x hx=>hst x (ZE _ hx)) (by omega)) (fun r d4 L4 hl4 ⟨hL,cs',hr,hR'⟩=>?_)
  subst hL;subst hr
  obtain⟨f0,f1',f2',f3',f4',f5,rfl⟩:=six hR'.len
  (refine Bj rfl<|AL rfl rfl<|AL rfl rfl ?_)
  refine Az 0 [f0,f1',f2',f3',f4',f5] rfl rfl rfl rfl (No rfl) (AH _ _ _ hR') rfl ?_
  have hv4:=Aw.mono hl4 hv1
  by_cases he2:(BX (AU v s).1 (s2::l)).2≠0
  ·rw[if_pos he2,show Fo (v,(BX (AU v s).1 (s2::l)).2)=V.zero from if_pos he2]
   (refine Ab rfl<|AW<|Ai<|Ac<|Ab rfl<|AG rfl rfl<|Aa<|Au rfl (by omega)<|Ac<|Bl<|Ab rfl ?_)
   refine Az 0 A7 rfl rfl rfl rfl (No rfl) rfl rfl ?_
   (refine Ab rfl<|Aa<|Ar ?_)
   exact Bh 0 rfl rfl rfl Aw.zero
  rw[if_neg he2]
  rw[show Fo (BX (AU v s).1 (s2::l))=(BX (AU v s).1 (s2::l)).1 from if_neg he2] at hR'
  have hns:Fo (BP v s (BX (AU v s).1 (s2::l)).1)=(BP v s (BX (AU v s).1 (s2::l)).1).1:=by
   by_cases q:(BP v s (BX (AU v s).1 (s2::l)).1).2≠0
   ·rw[Fo,if_pos q,X2 q]
   ·rw[Fo,if_neg q]
  rw[hns]
  have hw4:RSl 6 RSt d4 (.slice a (s::s2::l).length c) (s::s2::l):=RSl.mono (R:=RSt) (fun hl h=>h) hw1 hl4
  (refine Ab rfl<|AW<|Ai<|Ac<|Ab rfl<|AG rfl rfl<|Aa<|Ao rfl (by omega)<|Am<|Ai ?_)
  refine AT ?_
  (refine AD 1 rfl rfl rfl<|As rfl<|AJ (m:=0) (sz:=6) (R:=RSt) (by rfl) (by assumption) (by rfl) rfl (by omega) ?_;rintro _ _ _ _ _ ⟨rfl,_,_,_,_⟩;refine BE rfl (by assumption) rfl<|AD 2 rfl rfl rfl ?_)
  refine AR rfl (h3 (hTm ht1 hl4) hv4 hg.1 hdep hS hso.1 hso.2.1 hso.2.2 hR' (by omega)) (fun r d5 L5 hl5 ⟨hL,cs',hr,hR2⟩=>?_)
  subst hL;subst hr
  obtain⟨g0,g1,g2,g3,g4,g5,rfl⟩:=six hR2.len
  (refine AL rfl rfl<|AL rfl rfl<|Bt ?_)
  refine Az 0 [g0,g1,g2,g3,g4,g5] rfl rfl rfl rfl (No rfl) (AH _ _ _ hR2) rfl ?_
  (refine Ab rfl<|Aa<|Ar ?_)
  exact Bh 0 rfl rfl rfl hR2
def UK{l:List St}(h:Cw v l=0):((Fo (BX v l),(BX v l).2):V×Int)=CC v l:=by
 rw[CC,if_neg (by omega),Fo];by_cases q:(BX v l).2≠0
 ·rw[if_pos q,if_pos q]
 ·rw[if_neg q,if_neg q];have:(BX v l).2=0:=by omega
  rw[this]
def NZ(T:Ag→Prop)(P:Program)(f:FuncId):Prop:=∀{d cs w}{v:V}{l:List St},T d→Aw d cs v→RSl 6 RSt d w l→Bq v≤1000000→l.length≤100→
 A8 P f [.agg cs.toArray,w] d [] (Ret fun r d' L'=>L'=[]∧∃cs',r=.tuple #[.agg cs'.toArray,vZ (CC v l).2]∧Aw d' cs' (CC v l).1)
def Kg(a0 a1 a2:Nat):A6:=⟨22,[(.cell 4 (some 6)),(.tmp 5)],(sR (o1 2 (.box 0)<|o1 4 (.alo (.agg #[(vZ 0),(vZ 0),(vZ 0),(Al []),(.slice none 0 0),(.slice none 0 0)]))<|o1 5 (.mv z0) .done) (sR (o1 7 (.ld (some 6) 2)<|oc 8 a0 [7]<|om 6 8 .done) (.seq (sR (om 9 6<|ob 10 .eql 9 z0 .done) (.cond 10 (rG (om 11 1<|oc 12 a1 [11]<|om 6 12 .done)) .skip)) (.seq (sR (om 13 6<|ob 14 .neq 13 z0 .done) (.cond 14 (sR (o1 15 (.bld [(0,1),(1,2),(3,1),(4,1),(5,1)] [(vZ 0),(vZ 0),(vZ 0),(Al []),(.slice none 0 0),(.slice none 0 0)] [])<|om 16 6<|o0 (.st 6 4 15)<|om 5 16 .done) .ret) .skip)) (sR (o1 17 (.ld (some 6) 2)<|om 18 1<|oc 19 a2 [17,18]<|oe 20 19 0<|oe 21 19 1<|o0 (.st 6 4 20)<|om 5 21 .done) .ret)))))⟩
def Wy{T:Ag→Prop}{f2 f3}(hd:I7 P f=some (Kg f1 f2 f3))(h1:EW T P f1)(h2:Jx T P f2)(h3:Mz T P f3):NZ T P f:=by
 intro d cs w v l ht hv hw hb hll;have n1:=RSl.Be hw;obtain⟨a,c,rfl⟩:=RSl.val hw;refine Bd hd (No rfl) ?_;have hv0:=hv;have hdep:=FX v;obtain⟨c0,c1,c2,c3,c4,c5,rfl⟩:=six hv.len;show gwp P _ _ _ _ _;apply Ai;apply Ay;refine AO (l:=[c0,c1,c2,c3,c4,c5]) rfl (fun b2 T2=>?_);(refine AX (fun _ _=>Ab rfl<|Aa ?_));rename_i b4 T4;apply Ai;apply Ay;(apply AD 1;rfl;rfl;rfl);refine AF rfl (h1 ht hv0 (by omega)) ?_;(refine Ab rfl<|Aa ?_);refine Ct (fun ρ d' L'=>d'=d∧A9 ρ [(1,.slice a l.length c),(2,pZ b2),(4,pZ b4),(6,vZ (Cw v l))]∧
  L'=[bx b4 T4 A7,bx b2 T2 [c0,c1,c2,c3,c4,c5]]) ?_ ?_
 ·by_cases h0:AS v=0
  ·(refine Ac<|Ab rfl<|Aq rfl rfl<|Aa<|Au rfl (by omega)<|Ay<|As rfl ?_);refine AF rfl (h2 ht hw) ?_;(refine Ab rfl<|Aa ?_);exact⟨rfl,⟨rfl,rfl,rfl,int_eq (by simp[Cw,h0]),trivial⟩,rfl⟩
  ·(refine Ac<|Ab rfl<|Aq rfl rfl<|Aa<|Ao rfl (by omega)<|Am ?_);exact⟨rfl,⟨rfl,rfl,rfl,int_eq (by simp[Cw,h0]),trivial⟩,rfl⟩
 rintro ρ d' L' ⟨hdd,hsl,hL⟩;subst hdd;subst hL;refine Bo _ hsl ?_;clear hsl;by_cases q:Cw v l≠0
 ·rw[CC,if_pos q];(refine Ai<|Ac<|Ab rfl<|AG rfl rfl<|Aa<|Au rfl (by omega)<|Ac<|Bl<|Ab rfl ?_);refine Az 0 A7 rfl rfl rfl rfl (No rfl) rfl rfl ?_;(refine Ab rfl<|Aa<|Ar ?_);exact Bh 0 rfl rfl rfl Aw.zero
 have hw0:Cw v l=0:=by omega
 obtain⟨k1,k2,k3⟩:=KQ.1 hw0;rw[←UK hw0];(refine Ai<|Ac<|Ab rfl<|AG rfl rfl<|Aa<|Ao rfl (by omega)<|Am<|Ac<|AD 1 rfl rfl rfl<|As rfl ?_);refine AR rfl (h3 l ht hv0 (Gv (LO hw0) (by omega)) k2 hb hw (Sp k3) hll) (fun r d2 L2 hl2 ⟨hL,cs',hr,hR⟩=>?_);subst hL;subst hr;obtain⟨g0,g1,g2,g3,g4,g5,rfl⟩:=six hR.len;(refine AL rfl rfl<|AL rfl rfl ?_);refine Az 0 [g0,g1,g2,g3,g4,g5] rfl rfl rfl rfl (No rfl) (AH _ _ _ hR) rfl ?_;(refine Ab rfl<|Aa<|Ar ?_);exact Bh 0 rfl rfl rfl hR
end Go.Gk.Val
end
