/-
  Our own texts, one behind the other: GkNodeL GkNodeM GkNodeO Gk42 GkIns GkTr0 GkTr1 GkHL GkHM GkHN GkHO GkTr3 Gk43 GkTr2 GkTr4 GkTr5 GkTrS GkTr6 GkTr7 Gk41 GkTrK GkTrQ GkTrF GkTr8 GkTrG GkTrP GkTrR Gk44 Gk20 Gk25 Gk45 GkTrT GkH6 GkH7 GkH8 GkTU GkTV GkTW GkTX GkWA GkWB GkWC GkWD.
-/
import Derived.Below
import Derived.Shelf.Unicode.DecodeSlow
import Derived.Shelf.Sort.Plain
import Derived.Shelf.Slices.In.SortNone
import Derived.Test.YteekdjalpmjdhaaGreatPlD
set_option linter.defProp false
set_option linter.unusedVariables false
set_option linter.unusedSimpArgs false
open Nat renaming le_of_ble_eq_true→Aca,le_refl→Acj,zero_le→Adf,succ_ne_zero→Aef,mul_one→Afd,mod_eq_of_lt→Afh,min_eq_left→Agq
open Bool renaming and_eq_true→Acb,false_eq_true→Ack,or_eq_true→Adu,true_and→Afm,false_ne_true→Ahr
open List.Sublist renaming refl→Acd
open List renaming append_assoc→Ace,getElem?_eq_getElem→Acf,getD_eq_getElem?_getD→Acg,mem_append→Ach,length_append→Aci,eq_nil_of_length_eq_zero→Acl,mem_cons_self→Acm,perm_append_comm→Acn,mem_cons_of_mem→Aco,take_succ_eq_append_getElem→Acp,replicate→Acq,length_take→Acs,drop_eq_getElem_cons→Acu,all_eq_true→Acv,mem_cons→Acw,length_cons→Acx,mem_append_right→Acy,getElem_mem→Acz,mem_append_left→Ada,mem_singleton→Adh,sublist_append_right→Adi,nil_sublist→Adj,append_nil→Adm,length_replicate→Adn,nil_append→Adr,length_drop→Ads,getElem?_take_of_lt→Adt,cons_append→Adv,getElem?_eq_none→Adx,take_of_length_le→Ady,mem_map_of_mem→Aea,take_length→Aec,exists_cons_of_ne_nil→Aed,getElem_of_mem→Aej,nodup_append→Ael,mem_of_getElem?→Aen,getElem?_append_right→Aeo,take_append_of_le_length→Aep,length_set→Aev,pairwise_iff_getElem→Aew,getElem?_append_left→Aex,length_singleton→Afa,drop_of_length_le→Afe,take_append_drop→Afj,nodup_cons→Afn,getD_cons_zero→Afq,getD_cons_succ→Afr,mem_map→Aft,getElem?_drop→Afw,drop_append_of_le_length→Afy,getD→Aga,take_left→Agc,nodup_nil→Agd,drop_left→Agm,mem_of_mem_take→Ago,mem_of_mem_drop→Agp,getElem_drop→Agr,takeWhile_append_dropWhile→Ags,take_succ_cons→Agu,drop_append→Ahj
open List.Perm renaming cons→Acr,swap→Adb,refl→Adz,append_right→Aer
open Option renaming getD_some→Aem
open Int renaming toNat_natCast→Agf
section
namespace Go.Gk.Node
open Go Go.Gk
attribute [local irreducible] gwp gws
variable{n:Ax}{k:Nat}
def Gm.mono{d d' v xs L}(o:Gm d v xs L)(hl:Le d d'):Gm d' v xs L:=
 let ⟨us,h0,hs,h1,h2,h3,h4⟩:=o
 ⟨us,h0,hs,h1,h2,fun i hi=>let ⟨u,g,k1,k2,k3⟩:=h3 i hi;⟨u,g,k1,k2,An.mono (R:=AE) AP k3 hl⟩,h4⟩
def EZ.mono{d d' cs L}(o:EZ d cs n L)(hl:Le d d'):EZ d' cs n L:=
 let ⟨kv,vv,iv,Lk,Lv,hi,e,h1,h2,h3,h4⟩:=o
 ⟨kv,vv,iv,Lk,Lv,hi,e,h1.mono hl,h2.mono hl,h3.JA hl,h4⟩
def OP{n:Nat}(h:n≤255):(u8n n).toNat=n:=by
 simp only[u8n];have:((n:Int) % 256).toNat=n:=by omega
 rw[this];simp;omega
def Mz{x r}(h:x.length≤255):FP (u8n x.length::(x++r))=some (x,r):=by
 simp only[FP,OP h];rw[if_neg (by simp)];simp
def S3{k:Int}{r}(h0:0≤k)(h1:k≤8191):Jg (FK k++r)=some (k.toNat,r):=by
 simp only[FK,Adv,Adr,Jg,Option.some.injEq,Prod.mk.injEq,and_true];have e1:((k / 256) % 256).toNat=(k / 256).toNat:=by omega
 rw[e1];have e2:(k / 256).toNat<256:=by omega
 have e3:(k % 256).toNat<256:=by omega
 have e4:∀x,x<256→(UInt8.ofNat x).toNat=x:=fun x hx=>by simp;omega
 rw[e4 _ e2,e4 _ e3];omega
def RK(n:Ax)(k:Nat):∀j,∃T,B4 n (k+j)=B4 n k++T
 |0=>⟨[],by simp⟩
 |j+1=>by
  obtain⟨T,h⟩:=RK n k j;exact⟨T++((u8n (DW n (k+j))::n.keys.getD (k+j) [])++tailD n (k+j)),by show B4 n (k+j)++_++_=_;rw[h];simp only[Ace];rfl⟩
def QC(n:Ax)(hk:k≤n.keys.length):∃T,B8 n=B4 n k++T:=by
 obtain⟨T,h⟩:=RK n k (n.keys.length - k);rw[show k+(n.keys.length - k)=n.keys.length by omega] at h;exact⟨T++_,by rw[B8,h,Ace]⟩
def VB(n:Ax)(hk:k<n.keys.length):(B8 n).drop (B4 n k).length=(u8n (DW n k)::n.keys.getD k [])++(tailD n k++(B8 n).drop (B4 n (k+1)).length):=by
 obtain⟨T,h⟩:=QC n (k:=k+1) hk;rw[h];have e:B4 n (k+1)=B4 n k++((u8n (DW n k)::n.keys.getD k [])++tailD n k):=by simp only[B4,Ace]
 rw[Agm,e,Ace,Agm,Ace]
def IH(n:Ax):∀k,k≤Bx n k
 |0=>Acj _
 |k+1=>by have:=IH n k;simp only[Bx,Ec];split<;>omega
def RO{ks}(h:CI ks ks.length=true)(hk:k<ks.length):ks[k].length≤64:=by
 have:=Kz h hk;simp only[kOk,Acb,decide_eq_true_eq] at this;have e:ks.getD k []=ks[k]:=by simp[hk]
 rw[e] at this;exact this.1.2
def Fp(hr:AV n=true):(B8 n).length=256:=by
 simp only[AV,Acb,decide_eq_true_eq] at hr;have:=Zv hr.1 hr.2 n.keys.length (Acj _);simp only[B8,Aci,Adn];omega
def Uq(hr:AV n=true):E4 (B8 n)=some n:=by
 have hr':=hr;simp only[AV,Acb,decide_eq_true_eq] at hr';obtain⟨hs,hz⟩:=hr';have hm:n.keys.length≤255:=by
  have:=IH n n.keys.length;simp only[Bc] at hz;omega
 obtain⟨T0,hT0⟩:=QC n (k:=0) (Adf _);have hstep:=fun k hk=>VB n (k:=k) hk;have hd0:(B8 n).drop (B4 n 0).length=T0:=by rw[hT0,Agm]
 obtain⟨lf,ks,vs,is⟩:=n;have hs':=hs;simp only[AX,Acb] at hs';have hk:=fun k (hk:k<ks.length)=>RO hs'.1 hk;simp only at hm hT0 hstep hd0 hs';have hkl:∀k,k<ks.length→DW ⟨lf,ks,vs,is⟩ k=(ks.getD k []).length:=fun _ _=>Z;cases lf with
 |true=>
  have h2:=hs'.2
  simp only[if_true,Acb,decide_eq_true_eq,Acv] at h2
  obtain⟨⟨hvl,hil⟩,hva⟩:=h2
  obtain rfl:is=[]:=Acl hil
  have hpg:B8 ⟨true,ks,vs,[]⟩=1::u8n ks.length::T0:=hT0
  have items:∀k,k≤ks.length→Cj true T0 [] k=some (ks.take k,vs.take k,[],(B8 ⟨true,ks,vs,[]⟩).drop (B4 ⟨true,ks,vs,[]⟩ k).length):=by
   intro k;induction k with
   |zero=>intro _;simp[Cj,hd0]
   |succ k ih=>
    intro hk1
    have e1:ks.getD k []=ks[k]'(by omega):=by simp[show k<ks.length by omega]
    have e2:vs.getD k []=vs[k]'(by omega):=by simp[show k<vs.length by omega]
    have e3:(vs[k]'(by omega)).length≤16:=by
     have:=hva _ (Acz (show k<vs.length by omega));simpa [GZ] using this
    simp only[Cj,ih (by omega)]
    rw[hstep k (by omega)]
    have:=hk k (by omega)
    rw[hkl k (by omega),e1,Adv,Mz (by omega)]
    simp only[tailD,if_true,FA,e2]
    rw[Adv,Mz (by omega)]
    simp only[Option.some.injEq,Prod.mk.injEq,and_true]
    exact⟨(Acp _).symm,(Acp _).symm⟩
  have h3:=items ks.length (Acj _)
  simp only[E4,hpg,Afq,Afr,List.drop_succ_cons,List.drop_zero]
  show(match FT true T0 with|none=>none|some (is0,l0)=>_)=_
  simp only[FT,OP hm]
  rw[hpg] at h3
  show(match Cj true T0 [] ks.length with|none=>none|some (a,b,c,_)=>some (⟨true,a,b,c⟩:Ax))=_
  rw[h3]
  simp only[Aec]
  rw[Ady (by omega)]
 |false=>
  have h2:=hs'.2
  simp only[Ack,if_false,Acb,decide_eq_true_eq,Acv] at h2
  obtain⟨⟨hvl,hil⟩,hia⟩:=h2
  obtain rfl:vs=[]:=Acl hvl
  have hkid:∀k (h:k<is.length),0≤is[k]∧is[k]≤8191:=fun k h=>by
   have:=hia _ (Acz h);simpa [FY] using this
  have hpg:B8 ⟨false,ks,[],is⟩=2::u8n ks.length::(FK (is.getD 0 0)++T0):=hT0
  have e0:is.getD 0 0=is[0]'(by omega):=by simp[show 0<is.length by omega]
  have items:∀k,k≤ks.length→Cj false T0 [is[0]'(by omega)] k=some (ks.take k,[],is.take (k+1),(B8 ⟨false,ks,[],is⟩).drop (B4 ⟨false,ks,[],is⟩ k).length):=by
   intro k;induction k with
   |zero=>
    intro _
    have:is.take 1=[is[0]'(by omega)]:=by rw[Acp (by omega)];simp
    simp[Cj,hd0,this]
   |succ k ih=>
    intro hk1
    have e1:ks.getD k []=ks[k]'(by omega):=by simp[show k<ks.length by omega]
    have e2:is.getD (k+1) 0=is[k+1]'(by omega):=by simp[show k+1<is.length by omega]
    have e3:=hkid (k+1) (by omega)
    simp only[Cj,ih (by omega)]
    rw[hstep k (by omega)]
    have:=hk k (by omega)
    rw[hkl k (by omega),e1,Adv,Mz (by omega)]
    simp only[tailD,Ack,if_false,e2]
    rw[S3 e3.1 e3.2]
    simp only[Option.some.injEq,Prod.mk.injEq,and_true,true_and]
    refine⟨(Acp _).symm,?_⟩
    rw[Int.toNat_of_nonneg e3.1]
    exact(Acp _).symm
  have h3:=items ks.length (Acj _)
  have e4:=hkid 0 (by omega)
  simp only[E4,hpg,Afq,Afr,List.drop_succ_cons,List.drop_zero]
  show(match FT false (FK (is.getD 0 0)++T0) with|none=>none|some (is0,l0)=>_)=_
  simp only[FT,e0,S3 e4.1 e4.2,OP hm]
  rw[hpg] at h3
  rw[Int.toNat_of_nonneg e4.1]
  show(match Cj false T0 [is[0]] ks.length with|none=>none|some (a,b,c,_)=>some (⟨false,a,b,c⟩:Ax))=_
  rw[h3]
  simp only[Aec]
  rw[Ady (by omega)]
def WN(hr:AV n=true):Bq (B8 n)=some n:=by
 unfold Bq;rw[if_pos (Fp hr),Uq hr];exact if_pos ⟨hr,Z⟩
def Uy{b}(h:Bq b=some n):AV n=true∧B8 n=b:=by
 unfold Bq at h;split at h
 ·split at h
  ·split at h
   ·rename_i h1;cases h;exact h1
   ·cases h
  ·cases h
 ·cases h
def DN(a b:Ax)(key:List UInt8):Ax:=if a.leaf then⟨true,a.keys++b.keys,a.vals++b.vals,[]⟩ else⟨false,a.keys++[key]++b.keys,[],a.kids++b.kids⟩
def GK{ks}:∀{m:Nat},CI ks m=true↔∀k,k<m→kOk ks k=true
 |0=>⟨fun _ k h=>by omega,fun _=>Z⟩
 |m+1=>by
  simp only[CI,Acb];rw[GK (m:=m)];constructor
  ·intro ⟨h1,h2⟩ k hk;by_cases e:k=m
   ·subst e;exact h2
   ·exact h1 k (by omega)
  ·exact fun h=>⟨fun k hk=>h k (by omega),h m (by omega)⟩
def Mj{ks}(h:CI ks ks.length=true)(a:Nat):CI (ks.take a) (ks.take a).length=true:=by
 rw[GK] at h⊢;intro k hk;simp only[Acs] at hk;have:=h k (by omega);have e:∀j,j≤k→(ks.take a).getD j []=ks.getD j []:=fun j hj=>by
  simp[Aga,Adt (show j<a by omega)]
 simpa only[kOk,e k (Acj _),e (k - 1) (by omega)] using this
def Mg{ks}(h:CI ks ks.length=true)(a:Nat):CI (ks.drop a) (ks.drop a).length=true:=by
 rw[GK] at h⊢;intro k hk;simp only[Ads] at hk;have:=h (a+k) (by omega);have e:∀j,(ks.drop a).getD j []=ks.getD (a+j) []:=fun j=>by simp[Aga,Afw]
 simp only[kOk,e,Acb,Adu,beq_iff_eq] at this⊢;refine⟨this.1,?_⟩
 by_cases h0:k=0
 ·exact .inl h0
 ·refine .inr ?_;rcases this.2 with h1|h1
  ·omega
  ·rwa [show a+(k - 1)=a+k - 1 by omega]
def Ke(n n':Ax)(hl:n'.leaf=n.leaf){a:Nat}(hk:∀j,j<a→DW n' j=DW n j)(hv:n.leaf=true→∀j,j<a→FA n' j=FA n j):∀k,k≤a→Bx n' k=Bx n k
 |0,_=>rfl
 |k+1,h=>by
  simp only[Bx,Ke n n' hl hk hv k (by omega),Ec,hl,hk k (by omega)];cases e:n.leaf
  ·simp
  ·simp[hv e k (by omega)]
def Kf(n n':Ax)(hl:n'.leaf=n.leaf){a:Nat}(hk:∀j,DW n' j=DW n (a+j))(hv:n.leaf=true→∀j,FA n' j=FA n (a+j)):∀k,Bx n' k+Bx n a=Bx n (a+k)
 |0=>by simp[Bx]
 |k+1=>by
  have:=Kf n n' hl hk hv k;show Bx n' k+Ec n' k+Bx n a=Bx n (a+k)+Ec n (a+k);simp only[Ec,hl,hk k];cases e:n.leaf
  ·simp only[Ack,if_false];omega
  ·simp only[if_true,hv e k];omega
def Pq(n:Ax):∀f a,a≤n.keys.length - 1→n.keys.length≤a+f→(∀j,j<a→2*Df n j<Df n n.keys.length)→
  J5 n f a≤n.keys.length - 1∧(∀j,j<J5 n f a→2*Df n j<Df n n.keys.length)∧(J5 n f a=n.keys.length - 1∨Df n n.keys.length≤2*Df n (J5 n f a))
 |0,a,h1,h2,h3=>⟨h1,h3,.inl (by simp only[J5];omega)⟩
 |f+1,a,h1,h2,h3=>by
  simp only[J5];split
  ·rename_i h;refine Pq n f (a+1) (by omega) (by omega) (fun j hj=>?_);by_cases e:j=a
   ·subst e;exact h.2
   ·exact h3 j (by omega)
  ·rename_i h;refine⟨h1,h3,?_⟩
   by_cases e:a=n.keys.length - 1
   ·exact .inl e
   ·exact .inr (by omega)
def RC(n:Ax):atD n≤n.keys.length - 1∧(∀j,j<atD n→2*Df n j<Df n n.keys.length)∧(atD n=n.keys.length - 1∨Df n n.keys.length≤2*Df n (atD n)):=
 Pq n _ 0 (Adf _) (by omega) (fun j hj=>by omega)
def Ze(hs:AX n=true)(hk:k<n.keys.length):Ec n k≤if n.leaf then 82 else 65:=by
 simp only[AX,Acb] at hs;have h1:=RO hs.1 hk;have e1:DW n k=n.keys[k].length:=by simp[DW,hk]
 simp only[Ec];cases hlf:n.leaf with
 |false=>simp only[Ack,if_false];omega
 |true=>
  have h2:=hs.2
  simp only[hlf,if_true,Acb,decide_eq_true_eq,Acv] at h2
  have hv:k<n.vals.length:=by omega
  have h3:=h2.2 _ (Acz hv)
  simp only[GZ,decide_eq_true_eq] at h3
  have e2:FA n k=n.vals[k].length:=by simp[FA,hv]
  simp only[if_true];omega
def QK(hs:AX n=true)(hk:k<n.keys.length):Df n (k+1)≤Df n k+if n.leaf then 82 else 67:=by
 have:=Ze hs hk;simp only[Df,wD];cases hlf:n.leaf<;>simp only[hlf,if_true,Ack,if_false] at this⊢<;>omega
def Pf(h:n.leaf=true):∀k,Df n k=Bx n k
 |0=>rfl
 |k+1=>by simp only[Df,Bx,wD,h,if_true,Pf h k];omega
def NZ(h:n.leaf=false):∀k,Df n k=Bx n k+2*k
 |0=>rfl
 |k+1=>by simp only[Df,Bx,wD,h,Ack,if_false,NZ h k];omega
def AaX(n:Ax)(k:Nat):1≤wD n k:=by simp only[wD,Ec];split<;>omega
def Pu{α}{p:α→Bool}{xs:List α}(h:xs.all p=true)(a:Nat):(xs.take a).all p=true:=by
 rw[Acv] at h⊢;exact fun x hx=>h x (Ago hx)
def Pl{α}{p:α→Bool}{xs:List α}(h:xs.all p=true)(a:Nat):(xs.drop a).all p=true:=by
 rw[Acv] at h⊢;exact fun x hx=>h x (Agp hx)
def getD_take{l:List (List UInt8)}{a j:Nat}(h:j<a):(l.take a).getD j []=l.getD j []:=by simp[Aga,Adt h]
def Ks{l:List (List UInt8)}{a j:Nat}:(l.drop a).getD j []=l.getD (a+j) []:=by simp[Aga,Afw]
structure N6 (n:Ax):Prop where
 r1:AV (BJ n)=true
 r2:AV (B0 n)=true
 n1:0<(BJ n).keys.length
 n2:0<(B0 n).keys.length
 lo:∀i (h:i<(BJ n).keys.length),Op.bytesLess (BJ n).keys[i] (CE n)=true
 hi:∀i (h:i<(B0 n).keys.length),Op.bytesLess (CE n) (B0 n).keys[i]=true∨((B0 n).keys[i]=CE n∧n.leaf=true)
 all:DN (BJ n) (B0 n) (CE n)=n
def Z2{n:Ax}(hz:Bc n≤if n.leaf=true then 340 else 440)(hc:F7 n=true):N6 n:=by
 have hc':=hc;simp only[F7,Acb,decide_eq_true_eq] at hc';obtain⟨hs,hm⟩:=hc';have hs':=hs;simp only[AX,Acb] at hs';obtain⟨hks,hrest⟩:=hs';obtain⟨ha1,ha2,ha3⟩:=RC n;have hpos:0<Df n n.keys.length:=by
  have h0:0<n.keys.length:=by split at hm<;>omega
  have:=PI n (k:=1) (m:=n.keys.length) h0;have:=AaX n 0;simp only[Df] at*;omega
 have hstep:=fun k hk=>QK hs (k:=k) hk;have hrise:=fun j i hj hi=>Kx hks (j:=j) (i:=i) hj hi;cases hlf:n.leaf with
 |true=>
  simp only[hlf,if_true] at hm hrest hz
  simp only[Acb,decide_eq_true_eq] at hrest
  obtain⟨⟨hvl,hil⟩,hva⟩:=hrest
  have eL:BJ n=⟨true,n.keys.take (atD n),n.vals.take (atD n),[]⟩:=by simp[BJ,hc,hlf]
  have eR:B0 n=⟨true,n.keys.drop (atD n),n.vals.drop (atD n),[]⟩:=by simp[B0,hc,hlf]
  have eK:CE n=n.keys[atD n]'(by omega):=by simp[CE,hc,hlf,show atD n<n.keys.length by omega]
  have h1:1≤atD n:=by
   rcases ha3 with h|h
   ·omega
   ·by_cases e:atD n=0
    ·rw[e] at h;simp only[Df] at h;omega
    ·omega
  have hall:Bc n=2+Bx n n.keys.length:=by simp[Bc,hlf]
  have hp:=Pf hlf
  have hb:=hstep (atD n - 1) (by omega)
  rw[show atD n - 1+1=atD n by omega,hlf,if_pos Z] at hb
  have hb2:=ha2 (atD n - 1) (by omega)
  have hcl:Bx (BJ n) (BJ n).keys.length=Bx n (atD n):=by
   rw[eL];simp only[Acs,Agq (show atD n≤n.keys.length by omega)];exact Ke n _ hlf.symm (a:=atD n) (fun j hj=>by simp only[DW,getD_take hj]) (fun _ j hj=>by simp only[FA,getD_take hj]) _ (Acj _)
  have hcr:Bx (B0 n) (B0 n).keys.length+Bx n (atD n)=Bx n n.keys.length:=by
   rw[eR];simp only[Ads];have:=Kf n ⟨true,n.keys.drop (atD n),n.vals.drop (atD n),[]⟩ hlf.symm (a:=atD n) (fun j=>by simp only[DW,Ks]) (fun _ j=>by simp only[FA,Ks]) (n.keys.length - atD n);rw[this];congr 1;omega
  refine⟨?_,?_,?_,?_,?_,?_,?_⟩
  ·simp only[AV,Acb,decide_eq_true_eq]
   refine⟨?_,?_⟩
   ·rw[eL];simp only[AX,if_true,Acb,decide_eq_true_eq]
    exact⟨Mj hks _,⟨by simp[hvl],Z⟩,Pu hva _⟩
   ·have:Bc (BJ n)=2+Bx (BJ n) (BJ n).keys.length:=by rw[eL];simp[Bc]
    rw[this,hcl,←hp]
    rw[hp n.keys.length] at hb2
    omega
  ·simp only[AV,Acb,decide_eq_true_eq]
   refine⟨?_,?_⟩
   ·rw[eR];simp only[AX,if_true,Acb,decide_eq_true_eq]
    exact⟨Mg hks _,⟨by simp[hvl],Z⟩,Pl hva _⟩
   ·have:Bc (B0 n)=2+Bx (B0 n) (B0 n).keys.length:=by rw[eR];simp[Bc]
    rw[this]
    rcases ha3 with h|h
    ·have h5:=hstep (atD n) (by omega)
     rw[hlf,if_pos Z,show atD n+1=n.keys.length by omega,hp,hp] at h5
     omega
    ·rw[hp,hp] at h;omega
  ·rw[eL];simp;omega
  ·rw[eR];simp;omega
  ·intro i hi
   simp only[eL,eK] at hi⊢
   simp only[Acs] at hi
   simp only[List.getElem_take]
   exact hrise _ _ (by omega) (by omega)
  ·intro i hi
   simp only[eR,eK] at hi⊢
   simp only[Ads] at hi
   simp only[Agr]
   by_cases h0:i=0
   ·subst h0;exact .inr ⟨Z,hlf⟩
   ·exact .inl (hrise (atD n+i) (atD n) (by omega) (by omega))
  ·rw[eL,eR]
   obtain⟨lf,ks,vs,is⟩:=n
   simp only at hlf hil
   obtain rfl:=Acl hil
   subst hlf
   simp[DN]
 |false=>
  simp only[hlf,Ack,if_false] at hm hrest hz
  simp only[Acb,decide_eq_true_eq] at hrest
  obtain⟨⟨hvl,hil⟩,hia⟩:=hrest
  have ha4:at2 n≤n.keys.length - 1:=by simp only[at2];omega
  have ha5:2≤at2 n:=by simp only[at2];omega
  have ha6:atD n≤at2 n:=by simp only[at2];omega
  have eL:BJ n=⟨false,n.keys.take (at2 n - 1),[],n.kids.take (at2 n)⟩:=by simp[BJ,hc,hlf]
  have eR:B0 n=⟨false,n.keys.drop (at2 n),[],n.kids.drop (at2 n)⟩:=by simp[B0,hc,hlf]
  have eK:CE n=n.keys[at2 n - 1]'(by omega):=by simp[CE,hc,hlf,show at2 n - 1<n.keys.length by omega]
  have hall:Bc n=2+2*(n.keys.length+1)+Bx n n.keys.length:=by simp only[Bc,hlf,Ack,if_false,hil]
  have hp:=NZ hlf
  have hpm:=hp n.keys.length
  have hcl:Bx (BJ n) (BJ n).keys.length=Bx n (at2 n - 1):=by
   rw[eL];simp only[Acs,Agq (show at2 n - 1≤n.keys.length by omega)];exact Ke n _ hlf.symm (a:=at2 n - 1) (fun j hj=>by simp only[DW,getD_take hj]) (fun h=>by rw[hlf] at h;cases h) _ (Acj _)
  have hcr:Bx (B0 n) (B0 n).keys.length+Bx n (at2 n)=Bx n n.keys.length:=by
   rw[eR];simp only[Ads];have:=Kf n ⟨false,n.keys.drop (at2 n),[],n.kids.drop (at2 n)⟩ hlf.symm (a:=at2 n) (fun j=>by simp only[DW,Ks]) (fun h=>by rw[hlf] at h;cases h) (n.keys.length - at2 n);rw[this];congr 1;omega
  refine⟨?_,?_,?_,?_,?_,?_,?_⟩
  ·simp only[AV,Acb,decide_eq_true_eq]
   refine⟨?_,?_⟩
   ·rw[eL];simp only[AX,Ack,if_false,Acb,decide_eq_true_eq]
    exact⟨Mj hks _,⟨Z,by simp only[Acs];omega⟩,Pu hia _⟩
   ·have:Bc (BJ n)=2+2*at2 n+Bx (BJ n) (BJ n).keys.length:=by
     rw[eL];simp only[Bc,Ack,if_false,Acs,Agq (show at2 n≤n.kids.length by omega)]
    rw[this,hcl]
    have h7:=hp (at2 n - 1)
    by_cases h8:at2 n=2
    ·have h9:=hstep 0 (by omega)
     simp only[hlf,Ack,if_false,Df] at h9
     have h10:=hp 1
     simp only[Df] at h10
     rw[h8] at h7⊢
     simp only[Nat.reduceSub,Df] at h7⊢
     omega
    ·have h9:=ha2 (at2 n - 1) (by simp only[at2] at h8⊢;omega)
     omega
  ·simp only[AV,Acb,decide_eq_true_eq]
   refine⟨?_,?_⟩
   ·rw[eR];simp only[AX,Ack,if_false,Acb,decide_eq_true_eq]
    exact⟨Mg hks _,⟨Z,by simp only[Ads];omega⟩,Pl hia _⟩
   ·have:Bc (B0 n)=2+2*(n.kids.length - at2 n)+Bx (B0 n) (B0 n).keys.length:=by
     rw[eR];simp only[Bc,Ack,if_false,Ads]
    rw[this]
    have h7:=hp (at2 n)
    rcases ha3 with h|h
    ·have h8:at2 n=n.keys.length - 1:=by omega
     have h5:=hstep (at2 n) (by omega)
     simp only[hlf,Ack,if_false] at h5
     rw[show at2 n+1=n.keys.length by omega] at h5
     omega
    ·have h5:=PI n ha6
     omega
  ·rw[eL];simp;omega
  ·rw[eR];simp;omega
  ·intro i hi
   simp only[eL,eK] at hi⊢
   simp only[Acs] at hi
   simp only[List.getElem_take]
   exact hrise _ _ (by omega) (by omega)
  ·intro i hi
   simp only[eR,eK] at hi⊢
   simp only[Ads] at hi
   simp only[Agr]
   exact .inl (hrise (at2 n+i) (at2 n - 1) (by omega) (by omega))
  ·have hk1:n.keys.take (at2 n - 1)++[n.keys[at2 n - 1]'(by omega)]++n.keys.drop (at2 n)=n.keys:=by
    rw[←Acp,show at2 n - 1+1=at2 n by omega,Afj]
   rw[eL,eR,eK]
   simp only[DN,Ack,if_false]
   rw[hk1,Afj]
   obtain⟨lf,ks,vs,is⟩:=n
   simp only at hlf hvl⊢
   obtain rfl:=Acl hvl
   subst hlf;rfl
end Go.Gk.Node
end
section
namespace Go.Gk
open Go
section
section
variable {P:Program}{pan:List PanicEntry→AL}{Qn:Env→AL}{Ls L:List Ab}{ρ:Env}{d:Ab}{s:GS}{t:Nat}{tk:Bool}
def AbJ{x l}(ex:ev ρ x=BC l)(hl:l.length≤140737488355328)(k:∀v d',Le d d'→(∃a c,v=.slice a l.length c)→(∃b c cs,v=.slice (some ⟨b,0,none⟩) l.length c∧l.length≤c∧c≤9223372036854775807∧DCs d' b 0 cs∧cs.length=c∧cs.take l.length=l.map As)→gws P pan Qn s Ls (upd ρ t v) d' L):
  gws P pan Qn (.op false ⟨some t,none,.mop (.s2b x)⟩ s) Ls ρ d L:=by
 refine⟨d,L,Vs.refl d L,?_⟩
 simp only[gop,gi,mi]
 refine⟨l,ex,hl,fun b T fr c h1 h2=>⟨_,_,Vs.freeze,?_⟩⟩
 refine k _ _ (Le.Au _ _) ⟨_,_,Z⟩ ⟨b,c,l.map As++Acq (c - l.length) (.int .u8 0),Z,h1,h2,⟨_,T,fr,.inr (B2 _ _),fun i u hu=>?_⟩,by simp;omega,by simp⟩
 rw[Nat.zero_add]
 simpa using hu
end
section
variable {P:Program}{pan:List PanicEntry→AL}{Qn:Env→AL}{Ls L:List Ab}{ρ:Env}{d:Ab}{s:GS}{t:Nat}
end
end
end Go.Gk
end
section
namespace Go.Gk
open Go
attribute [local irreducible] gwp gws
def An.one{α R d v}{xs:List α}{h}:An 1 R d v xs h↔∃cs,Bu 1 v xs.length cs h∧∀i (hi:i<xs.length) u,cs[i]?=some u→R d [u] xs[i]:=by
 constructor
 ·rintro⟨cs,h1,h2⟩;refine⟨cs,h1,fun i hi u hu=>?_⟩
  have:=h2 i hi;unfold chunk at this;rw[Afd,Acu (by have:=h1.1;omega),Agu,List.take_zero] at this;obtain⟨hlt,rfl⟩:=List.getElem?_eq_some_iff.1 hu;exact this
 ·rintro⟨cs,h1,h2⟩;refine⟨cs,h1,fun i hi=>?_⟩
  have hl:i<cs.length:=by have:=h1.1;omega
  unfold chunk;rw[Afd,Acu hl,Agu,List.take_zero];exact h2 i hi cs[i] (Acf hl)
def Fi{α}(xs:List α)(i:Nat)(y:α):List α:=xs.take i++y::xs.drop i
def An.del{α:Type}{R:Ab→List Value→α→Prop}{d:Ab}{xs:List α}{cs l:List Value}{b c:Nat}{T:TypeId}{i:Nat}(hi:i<xs.length)(hcl:cs.length=xs.length)(hn:xs.length≤140737488355328)(h3:xs.length≤c)(h4:c≤9223372036854775807)(h5:c≤l.length)
  (h6:∀j,j<xs.length - 1→l[j]?=(cs.eraseIdx i)[j]?) (h2:∀i (hi:i<xs.length) u,cs[i]?=some u→R d [u] xs[i]):An 1 R d (.slice (some ⟨b,0,none⟩) (xs.length - 1) c) (xs.eraseIdx i) (bx b T l):=by
 have hel:(xs.eraseIdx i).length=xs.length - 1:=by rw[List.length_eraseIdx,if_pos hi]
 have hcl':(cs.eraseIdx i).length=xs.length - 1:=by rw[List.length_eraseIdx,if_pos (by omega),hcl]
 have ho:Bu 1 (.slice (some ⟨b,0,none⟩) (xs.length - 1) c) (xs.length - 1) (cs.eraseIdx i) (bx b T l):=by
  refine Bu.mk (by rw[hcl'];omega) (by omega) (by omega) h4 (by omega) ?_;apply List.ext_getElem?;intro j;rw[hcl',List.getElem?_take];by_cases hj:j<xs.length - 1
  ·rw[if_pos hj,h6 j hj]
  ·rw[if_neg hj,Adx (by omega)]
 rw[An.one]
 refine⟨cs.eraseIdx i,by rw[hel];exact ho,fun j hj u hu=>?_⟩
 ·have hx:(xs.eraseIdx i)[j]?=some (xs.eraseIdx i)[j]:=Acf (by omega)
  rw[List.getElem?_eraseIdx] at hu hx
  by_cases q:j<i
  ·rw[if_pos q] at hu hx
   rw[Acf (by omega)] at hx
   rw[←Option.some.inj hx];exact h2 j (by omega) u hu
  ·rw[if_neg q] at hu hx
   rw[Acf (by omega)] at hx
   rw[←Option.some.inj hx];exact h2 (j+1) (by omega) u hu
end Go.Gk
end
section
namespace Go.Gk
def Vs.app{d d' L L'}(h:Vs d L d' L')(M:List Ab):Vs d (L++M) d' (L'++M):=
 ⟨h.1,fun F W x=>by rw[Ace] at x⊢;exact h.2 (M++F) W x⟩
section
variable {P:Program}{pan:List PanicEntry→AL}{Qn:Env→AL}{Ls L:List Ab}{ρ:Env}{d:Ab}{s:GS}{t:Nat}
def Be{f args R vs A}(l:List Ab)(hc:AB P f vs d A (Ret R))(hL:L=l++A)(ea:args.map (ev ρ)=vs)
  (h:∀v d' L',Le d d'→R v d' L'→gws P pan Qn s Ls (upd ρ t v) d' (l++L')):gws P pan Qn (.op false ⟨some t,none,.call f args⟩ s) Ls ρ d L:=by
 subst hL
 refine HG hc Acn ea (fun v d' L' hl hr=>⟨d',l++L',Vs.perm Acn,h v d' L' hl hr⟩)
def B9{f args vs v A}(l:List Ab)(hc:C2 P f vs d A v)(hL:L=l++A)(ea:args.map (ev ρ)=vs)(h:gws P pan Qn s Ls (upd ρ t v) d L):
  gws P pan Qn (.op false ⟨some t,none,.call f args⟩ s) Ls ρ d L:=
 Be l hc hL ea (fun r d' L' _ ⟨h1,h2,h3⟩=>by subst h1;subst h2;subst h3;rw[←hL];exact h)
end
end Go.Gk
namespace Go.Gk.Tre
open Go Go.Gk Go.Gk.Dev Go.Gk.Cch Go.Gk.Pgr Go.Gk.Chn Go.Gk.Node
def Fl(d:Ab)(cs:List Value)(n:Ax)(hk hv hi:Ab):Prop:=∃kv vv iv,cs=[.bool n.leaf,kv,vv,iv]∧An 1 RBs d kv n.keys hk∧An 1 RBs d vv n.vals hv∧An 1 A7 d iv n.kids hi
def Fl.mono{d d' cs}{n:Ax}{hk hv hi}(h:Fl d cs n hk hv hi)(hl:Le d d'):Fl d' cs n hk hv hi:=
 let ⟨kv,vv,iv,e,a,b,c⟩:=h;⟨kv,vv,iv,e,a.Ex hl,b.Ex hl,c.JA hl⟩
def Fl.zero{d}:Fl d [.bool false,nV,nV,nV] Iu emp emp emp:=⟨_,_,_,Z,An.nil,An.nil,An.nil⟩
def Fl.Uh{d d1 cs}{n:Ax}{hk hv hi}(o:Fl d cs n hk hv hi)(hl:Le d d1)(h1:Le hk d1)(h2:Le hv d1)(h3:Le hi d1):CO d1 cs n:=by
 obtain⟨kv,vv,iv,rfl,a,b,c⟩:=o;exact⟨kv,vv,iv,Z,a.rsl BQ (by omega) hl h1,b.rsl BQ (by omega) hl h2,c.rsl BE (by omega) hl h3⟩
def OB.grow{d d1:Ab}{v:Value}{xs:List (List UInt8)}{us:List Value}{h0:Ab}{hs:List Ab}(h1:Bu 1 v xs.length us h0)(h2:∀i (hi:i<xs.length),∃u g,us[i]?=some u∧hs[i]?=some g∧An 1 AE d u xs[i] g)(hl:Le d d1)(hL:∀h∈hs,Le h d1):An 1 RBs d1 v xs h0:=by
 rw[An.one];refine⟨us,h1,fun i hi u hu=>?_⟩
 obtain⟨u',g,k1,k2,k3⟩:=h2 i hi;rw[hu] at k1;cases k1;exact⟨u,Z,k3.rsl AP (by omega) hl (hL _ (Aen k2))⟩
def EZ.YM{d cs}{n:Ax}{L}(o:EZ d cs n L):∃d' hk hv hi,Vs d L d' [hk,hv,hi]∧Le d d'∧Fl d' cs n hk hv hi:=by
 obtain⟨kv,vv,iv,Lk,Lv,hi,rfl,⟨us,h0,hs,a1,a2,a3,rfl⟩,⟨us',h0',hs',b1,b2,b3,rfl⟩,c,rfl⟩:=o;obtain⟨d',v1,v2,v3⟩:=Vs.Gp d (hs++hs');refine⟨d',h0,h0',hi,?_,v2,kv,vv,iv,Z,OB.grow a1 a3 v2 (fun h hm=>v3 h (Ada _ hm)),OB.grow b1 b3 v2 (fun h hm=>v3 h (Acy _ hm)),c.JA v2⟩
 have p:(h0::hs++(h0'::hs')++[hi]).Perm ((hs++hs')++[h0,h0',hi]):=by
  have e1:(h0::hs++(h0'::hs')++[hi])=h0::(hs++h0'::(hs'++[hi])):=by simp
  rw[e1];refine List.Perm.trans (Acr h0 (List.perm_middle)) ?_;have e2:(hs++hs')++[h0,h0',hi]=(hs++hs')++(h0::([h0']++[hi])):=Z;rw[e2];refine List.Perm.trans ?_ List.perm_middle.symm;refine Acr h0 ?_;rw[show(hs++hs')++([h0']++[hi])=(hs++hs')++(h0'::[hi]) from Z];refine List.Perm.trans ?_ List.perm_middle.symm;rw[Ace]
 exact(Vs.perm p).trans (v1.app [h0,h0',hi])
def PgT(d:Ab)(s:PD)(dv pv:Value)(L:List Ab):Prop:=∃tc,Pg d {s with tc:=tc} dv pv L
def PgT.mono{d d' s dv pv L}(h:PgT d s dv pv L)(hl:Le d d'):PgT d' s dv pv L:=let ⟨tc,h⟩:=h;⟨tc,h.mono hl⟩
def PgT.of{d s dv pv L}(h:Pg d s dv pv L):PgT d s dv pv L:=⟨s.tc,h⟩
def PgT.ptr{d s dv pv L}(h:PgT d s dv pv L):∃b,pv=pZ b:=let ⟨_,h⟩:=h;h.ptr
def PgT.GL{d s dv pv L}(h:PgT d s dv pv L):Pgr.Good s:=by
 obtain⟨tc,h⟩:=h;have g:=h.GL;exact⟨g.one,g.len,g.inn,g.syn,g.kd⟩
def PgT.full{d s dv pv L}(h:PgT d s dv pv L){k:Int}(hk:A6 s k):(s.bytes k).length=256:=by
 obtain⟨tc,h⟩:=h;exact h.full (s:={s with tc:=tc}) hk
abbrev tb(bt:Nat)(Tt:TypeId)(pv:Value)(r h c:Int):Ab:=bx bt Tt [pv,.int .i64 r,.int .i64 h,.int .i64 c]
end Go.Gk.Tre
end
section
namespace Go.Gk.Tre
open Go Go.Gk Go.Gk.Dev Go.Gk.Cch Go.Gk.Pgr Go.Gk.Chn Go.Gk.Node
def Dz(b:List UInt8):Ax:=(Node.Bq b).getD Iu
def GA(b:List UInt8):Int:=if (Node.Bq b).isSome then 0 else 200
def Bw(s:PD)(k:Int):Ax×Int:=if A6 s k then(Dz (s.bytes k),GA (s.bytes k)) else(Iu,240)
def AN(s:PD)(k:Int)(h:Int):Ax×Int:=((Bw s k).1,if (Bw s k).2=0∧(Bw s k).1.leaf≠decide (h=1) then 200 else(Bw s k).2)
def EK(c:List UInt8):Bool:=decide (c.length=7)&& decide (c.getD 0 0=1)
def EJ(c:List UInt8):Nat:=(c.getD 1 0).toNat*256+(c.getD 2 0).toNat
def DL(c:List UInt8):Nat:=(((c.getD 3 0).toNat*256+(c.getD 4 0).toNat)*256+(c.getD 5 0).toNat)*256+(c.getD 6 0).toNat
def inB(c:List UInt8):Bool:=decide (0<c.length)&& decide (c.getD 0 0=0)
def BU(s:PD)(c:List UInt8):List UInt8×Int:=if inB c then(c.drop 1,0) else if EK c then(Chn.Bq s (EJ c) (DL c)).2 else([],200)
def bI(x:Int):UInt8:=UInt8.ofNat (x % 256).toNat
def F3(h n:Int):List UInt8:=[1,bI (h / 256),bI h,bI (n / 16777216),bI (n / 65536),bI (n / 256),bI n]
def Bs(s:PD)(v:List UInt8):PD×List UInt8×Int:=if v.length≤15 then(s,0::v,0) else((B1 s v).1,F3 (B1 s v).2.1 v.length,(B1 s v).2.2)
def Cs(s:PD)(c:List UInt8):PD×Int:=if inB c then(s,0) else if EK c then NM s (EJ c) (DL c) else(s,200)
structure MdD where
 page:Int
 other:Int
 key:List UInt8
 size:Int
def C9:MdD:=⟨0,0,[],0⟩
def A5(s:PD)(page:Int)(n:Ax):PD×Int×Int:=
 if AV n then
  if 0≤page∧(s.put page (B8 n)).2≠240 then((s.put page (B8 n)).1,page,(s.put page (B8 n)).2)
  else if s.AR.2.2≠0 then(s.AR.1,0,s.AR.2.2)
  else if 0≤page then
   if (s.AR.1.drop page).2≠0 then((s.AR.1.drop page).1,0,(s.AR.1.drop page).2)
   else(((s.AR.1.drop page).1.put s.AR.2.1 (B8 n)).1,s.AR.2.1,((s.AR.1.drop page).1.put s.AR.2.1 (B8 n)).2)
  else((s.AR.1.put s.AR.2.1 (B8 n)).1,s.AR.2.1,(s.AR.1.put s.AR.2.1 (B8 n)).2)
 else(s,0,200)
def BG(s:PD)(page:Int)(n:Ax):PD×MdD×Int:=
 if AV n then((A5 s page n).1,⟨(A5 s page n).2.1, -1,[],Bc n⟩,(A5 s page n).2.2)
 else if F7 n then
  let a:=A5 s page (BJ n)
  if a.2.2=0 then let b:=A5 a.1 (-1) (B0 n);(b.1,⟨a.2.1,b.2.1,CE n,256⟩,b.2.2)
  else(a.1,C9,a.2.2)
 else(s,C9,200)
def DY(s:PD)(page:Int)(n:Ax)(i:Nat)(m:MdD):PD×MdD×Int:=
 if n.kids.getD i 0=m.page∧m.other<0 then(s,⟨page, -1,[],Bc n⟩,0)
 else if 0≤m.other then BG s page {n with keys:=Fi n.keys i m.key,kids:=Fi (n.kids.set i m.page) (i+1) m.other}
 else BG s page {n with kids:=n.kids.set i m.page}
def Dq(s:PD)(page:Int)(key cell:List UInt8):Nat→PD×MdD×Bool×Int
 |0=>(s,C9,false,200)
 |h+1=>
  let r:=AN s page (h+1:Nat)
  if r.2≠0 then(s,C9,false,r.2) else
  let i:=(findD r.1 key).1
  if h=0 then
   if (findD r.1 key).2 then
    let u:=Cs s (r.1.vals.getD i [])
    if u.2≠0 then(u.1,C9,false,u.2) else
    let w:=BG u.1 page {r.1 with vals:=r.1.vals.set i cell}
    (w.1,w.2.1,false,w.2.2)
   else
    let w:=BG s page {r.1 with keys:=Fi r.1.keys i key,vals:=Fi r.1.vals i cell}
    (w.1,w.2.1,true,w.2.2)
  else
   let u:=Dq s (r.1.kids.getD i 0) key cell h
   if u.2.2.2≠0 then(u.1,C9,false,u.2.2.2) else
   let w:=DY u.1 page r.1 i u.2.1
   (w.1,w.2.1,u.2.2.1,w.2.2)
def FD(s:PD)(page:Int)(n:Ax)(i0:Nat):PD×MdD×Int:=
 if n.keys.length=0 then(s,C9,99999) else
 let i:=if i0=n.keys.length then i0 - 1 else i0
 let a:=Bw s (n.kids.getD i 0)
 if a.2≠0 then(s,C9,a.2) else
 let b:=Bw s (n.kids.getD (i+1) 0)
 if b.2≠0 then(s,C9,b.2) else
 if a.1.leaf≠b.1.leaf then(s,C9,200) else
 let w:=BG s (n.kids.getD i 0) (DN a.1 b.1 (n.keys.getD i []))
 if w.2.2≠0 then(w.1,C9,w.2.2) else
 let u:=w.1.drop (n.kids.getD (i+1) 0)
 if u.2≠0 then(u.1,C9,u.2) else
 if 0≤w.2.1.other then BG u.1 page {n with keys:=n.keys.set i w.2.1.key,kids:=(n.kids.set i w.2.1.page).set (i+1) w.2.1.other}
 else BG u.1 page {n with keys:=n.keys.eraseIdx i,kids:=(n.kids.set i w.2.1.page).eraseIdx (i+1)}
def DX(s:PD)(page:Int)(key:List UInt8):Nat→PD×MdD×Bool×Int
 |0=>(s,C9,false,200)
 |h+1=>
  let r:=AN s page (h+1:Nat)
  if r.2≠0 then(s,C9,false,r.2) else
  let i:=(findD r.1 key).1
  if h=0 then
   if (findD r.1 key).2 then
    let u:=Cs s (r.1.vals.getD i [])
    if u.2≠0 then(u.1,C9,false,u.2) else
    let w:=BG u.1 page {r.1 with keys:=r.1.keys.eraseIdx i,vals:=r.1.vals.eraseIdx i}
    (w.1,w.2.1,true,w.2.2)
   else(s,⟨page, -1,[],256⟩,false,0)
  else
   let u:=DX s (r.1.kids.getD i 0) key h
   if u.2.2.2≠0∨u.2.2.1=false then(u.1,⟨page, -1,[],256⟩,u.2.2.1,u.2.2.2) else
   let w:=if u.2.1.other<0∧u.2.1.size<80 then FD u.1 page {r.1 with kids:=r.1.kids.set i u.2.1.page} i else DY u.1 page r.1 i u.2.1
   (w.1,w.2.1,true,w.2.2)
structure TD where
 s:PD
 root:Int
 height:Nat
 count:Nat
def Lm(t:TD)(m:MdD):TD×Int:=
 if m.other<0 then({t with root:=m.page},0)
 else
  let k:=A5 t.s (-1) ⟨false,[m.key],[],[m.page,m.other]⟩
  ({t with s:=k.1,root:=k.2.1,height:=t.height+1},k.2.2)
def F9(t:TD):TD×Int:=
 let r:=Bw t.s t.root
 if r.2≠0∨r.1.keys≠[] then(t,r.2) else
 let u:=t.s.drop t.root
 if u.2≠0 then({t with s:=u.1},u.2) else
 ({t with s:=u.1,root:=if r.1.leaf then -1 else r.1.kids.getD 0 0,height:=t.height - 1},0)
def DZ(t:TD)(key value:List UInt8):TD×Int:=
 let c:=Bs t.s value
 if c.2.2≠0 then({t with s:=c.1},c.2.2) else
 if t.height=0 then
  let k:=A5 c.1 (-1) ⟨true,[key],[c.2.1],[]⟩
  (⟨k.1,k.2.1,1,1⟩,k.2.2)
 else
  let u:=Dq c.1 t.root key c.2.1 t.height
  if u.2.2.2≠0 then({t with s:=u.1},u.2.2.2) else
  Lm {t with s:=u.1,count:=t.count+(if u.2.2.1 then 1 else 0)} u.2.1
def C4(t:TD)(key:List UInt8):TD×Bool×Int:=
 if t.height=0 then(t,false,0) else
 let u:=DX t.s t.root key t.height
 if u.2.2.2≠0∨u.2.2.1=false then({t with s:=u.1},false,u.2.2.2) else
 let g:=Lm {t with s:=u.1,count:=t.count - 1} u.2.1
 if g.2≠0 then(g.1,true,g.2) else
 ((F9 g.1).1,true,(F9 g.1).2)
def Dl(t:TD)(r:TD)(e:Int):TD:=if e=0 then r else{t with s:=r.s.back t.s.mark}
def ED(s:PD)(key:List UInt8):Int→Nat→List UInt8×Bool×Int
 |_,0=>([],false,0)
 |page,h+1=>
  let r:=AN s page (h+1:Nat)
  if r.2≠0 then([],false,r.2) else
  if h=0 then
   if (findD r.1 key).2 then((BU s (r.1.vals.getD (findD r.1 key).1 [])).1,decide ((BU s (r.1.vals.getD (findD r.1 key).1 [])).2=0),(BU s (r.1.vals.getD (findD r.1 key).1 [])).2)
   else([],false,0)
  else ED s key (r.1.kids.getD (findD r.1 key).1 0) h
def Dn(c:List UInt8):Nat:=if inB c then 0 else AM (DL c)
def GO(s:PD)(key:List UInt8):Int→Nat→Nat
 |_,0=>0
 |page,h+1=>
  let r:=AN s page (h+1:Nat)
  if h=0 then(if (findD r.1 key).2 then 1+Dn (r.1.vals.getD (findD r.1 key).1 []) else 1)
  else 1+GO s key (r.1.kids.getD (findD r.1 key).1 0) h
def Cq(key:List UInt8):Int:=if key.length<1∨64<key.length then 2 else 0
end Go.Gk.Tre
end
section
namespace Go.Gk.Chn
open Go Go.Gk Go.Gk.Dev Go.Gk.Cch Go.Gk.Pgr
variable{s s0 t:PD}{i:Nat}{x k:Int}{l:List Int}{b:List UInt8}
structure Tk (s0 s:PD) (l:List Int):Prop where
 frm:s.frm=s0.frm
 syn:s.syn=s0.syn
 round:s.round=s0.round
 len:s.kinds.length=s0.kinds.length
 kd:∀j,j<s0.kinds.length→s.kd j=if ((s0.frm+j:Nat):Int)∈l then 1 else s0.kd j
 was:∀k∈l,∃j,j<s0.kinds.length∧k=((s0.frm+j:Nat):Int)∧s0.kd j=0
 nd:l.Nodup
 fb:∀j,((s0.frm+j:Nat):Int)∉l→s.fb j=s0.fb j
 free:s.free+l.length=s0.free
def Tk.nil(s:PD):Tk s s []:=⟨Z,Z,Z,Z,fun j _=>(by simp),fun k hk=>(by cases hk),Agd,fun _ _=>Z,Z⟩
def MF(hi:i<s.kinds.length):(s.kinds.set i x).countP (·==0)+(if s.kinds[i]=0 then 1 else 0)=s.free+(if x=0 then 1 else 0):=by
 rw[List.countP_set hi];have hp:s.kinds[i]=0→0<s.free:=fun h=>List.countP_pos_iff.2 ⟨_,Acz hi,by simp[h]⟩;have hf:s.free=s.kinds.countP (·==0):=Z;rw[hf] at hp⊢;by_cases h0:s.kinds[i]=0
 ·have:=hp h0;by_cases hx:x=0
  ·simp[h0,hx];omega
  ·simp[h0,hx];omega
 ·by_cases hx:x=0
  ·simp[h0,hx]
  ·simp[h0,hx]
def Sy(h:CH 0 l=none):l.countP (·==0)=0:=by
 rw[List.countP_eq_zero];intro a ha e;have:a=0:=by simpa using e
 subst this;clear e;induction l with
 |nil=>cases ha
 |cons y l ih=>
  rw[CH] at h
  split at h
  ·cases h
  ·rename_i hne
   rcases Acw.1 ha with rfl|ha
   ·exact hne Z
   ·exact ih (by cases q:CH 0 l with|none=>rfl|some j=>rw[q] at h;cases h) ha
def Tk.take(h:Tk s0 s l):(s.AR.2.2=0∧Tk s0 s.AR.1 (l++[s.AR.2.1]))∨(s.AR.2.2=190∧s.AR.1=s∧s.free=0):=by
 unfold PD.AR;cases hq:CH 0 s.kinds with
 |none=>exact .inr ⟨Z,Z,Sy hq⟩
 |some i=>
  obtain⟨hi,h0⟩:=FQ hq
  refine .inl ⟨Z,?_⟩
  show Tk s0 (s.Hf i) (l++[((s.frm+i:Nat):Int)])
  have hi0:i<s0.kinds.length:=by rw[←h.len];exact hi
  have hnot:((s0.frm+i:Nat):Int)∉l:=fun hm=>by
   have:=h.kd i hi0;rw[if_pos hm,K4 hi,h0] at this;cases this
  have h00:s0.kd i=0:=by
   have:=h.kd i hi0;rw[if_neg hnot,K4 hi,h0] at this;exact this.symm
  rw[h.frm]
  refine⟨h.frm,h.syn,h.round,by simp[PD.Hf,h.len],fun j hj=>?_,fun k hk=>?_,?_,fun j hj=>?_,?_⟩
  ·show(s.kinds.set i 1).getD j 0=_
   rw[Dg hi]
   by_cases e:j=i
   ·subst e;rw[if_pos Z,if_pos (by simp)]
   ·rw[if_neg e,show s.kinds.getD j 0=s.kd j from Z,h.kd j hj]
    by_cases hm:((s0.frm+j:Nat):Int)∈l
    ·rw[if_pos hm,if_pos (Ada _ hm)]
    ·rw[if_neg hm,if_neg]
     intro hm'
     rcases Ach.1 hm' with q|q
     ·exact hm q
     ·have:=Adh.1 q;omega
  ·rcases Ach.1 hk with q|q
   ·exact h.was k q
   ·exact⟨i,hi0,Adh.1 q,h00⟩
  ·refine Ael.2 ⟨h.nd,by simp,fun a ha b hb=>?_⟩
   rw[Adh.1 hb]
   exact fun e=>hnot (e▸ha)
  ·show D9 s.fb i IA j=s0.fb j
   have hne:j≠i:=fun e=>hj (by rw[e];simp)
   rw[D9,if_neg hne]
   exact h.fb j (fun q=>hj (Ada _ q))
  ·have hf:=MF (s:=s) (i:=i) (x:=1) hi
   rw[if_pos h0,if_neg (by decide)] at hf
   have:=h.free
   show(s.kinds.set i 1).countP (·==0)+(l++[_]).length=s0.free
   rw[Aci,Afa]
   omega
def Ji:∀{n:Nat}{s}{l:List Int},Tk s0 s l→Tk s0 (BB s l n).1 (BB s l n).2.1∧(((BB s l n).2.2=0∧n≤s.free)∨((BB s l n).2.2=190∧s.free<n))
 |0,s,l,h=>⟨h,.inl ⟨Z,Adf _⟩⟩
 |n+1,s,l,h=>by
  rw[BB];rcases h.take with ⟨h1,h2⟩|⟨h1,h2,h3⟩
  ·rw[if_pos h1];obtain⟨k1,k2⟩:=Ji (n:=n) h2;have hf:=h2.free;have hf0:=h.free;rw[Aci,Afa] at hf;refine⟨k1,?_⟩
   rcases k2 with ⟨k2,k3⟩|⟨k2,k3⟩
   ·exact .inl ⟨k2,by omega⟩
   ·exact .inr ⟨k2,by omega⟩
  ·rw[if_neg (by rw[h1];decide)];simp only;rw[h2];exact⟨h,.inr ⟨h1,by omega⟩⟩
def Wi{c}(h0:0≤x)(h1:x<65536):((Gu (DP x c):Nat):Int)=x:=by
 unfold Gu DP;simp only[Afq,Afr,UInt8.toNat_ofNat'];omega
def VM{c}:((DP x c).drop (2+c.length)).all (·==0)=true:=by
 unfold DP;rw[Nat.add_comm 2];show((c++Acq (254 - c.length) 0).drop c.length).all (·==0)=true;rw[Agm];simp
def Xo{c}:((DP x c).drop 2).take c.length=c:=by
 unfold DP;show(c++Acq (254 - c.length) 0).take c.length=c;rw[Agc]
structure FV (s:PD) (b:List UInt8) (l:List Int):Prop where
 len:l.length=AM b.length
 rng:∀k∈l,0≤k∧k<65535
 live:∀j (h:j<l.length),A6 s l[j]
 pg:∀j (h:j<l.length),s.bytes l[j]=DP (l.getD (j+1) 65535) (BW b j)
def Ie:(BW b i).length=min 254 (b.length - i*254):=by unfold BW;rw[Acs,Ads]
def UT:b.take (i*254)++BW b i=b.take ((i+1)*254):=by
 unfold BW;rw[show(i+1)*254=i*254+254 by omega,List.take_add]
def HL(h:i<l.length):l.getD i x=l[i]:=by rw[Acg,Acf h];rfl
def Nq(h:l.length≤i):l.getD i x=x:=by rw[Acg,Adx h];rfl
def Mn(h:FV s b l):∀{m i:Nat},i+m=l.length→CA s b.length l.length (l.getD i 65535) (l.take i) (b.take (i*254)) m=(l,b,0)
 |0,i,hm=>by
  have hl:=h.len;rw[CA,Ady (by omega),Ady (by unfold AM at hl;omega)]
 |m+1,i,hm=>by
  have hi:i<l.length:=by omega
  have hl:=h.len;have hb:i*254≤b.length:=PL (by omega);rw[HL hi,CA,if_pos (h.live i hi),h.pg i hi];have hnx:0≤l.getD (i+1) 65535∧l.getD (i+1) 65535<65536:=by
   by_cases e:i+1<l.length
   ·rw[HL e];have:=h.rng _ (Acz e);omega
   ·rw[Nq (by omega)];decide
  have hlk:=Wi (c:=BW b i) hnx.1 hnx.2;have htl:(l.take i).length=i:=by rw[Acs];omega
  have hc:(Gu (DP (l.getD (i+1) 65535) (BW b i))=65535)=((l.take i).length+1=l.length):=by
   rw[htl];refine propext ⟨fun q=>?_,fun q=>?_⟩
   ·by_cases e:i+1<l.length
    ·rw[HL e] at hlk q;have:=h.rng _ (Acz e);rw[q] at hlk;omega
    ·omega
   ·rw[Nq (by omega)] at hlk;rw[Nq (by omega)];omega
  rw[if_pos hc];have hbt:(b.take (i*254)).length=i*254:=by rw[Acs];omega
  have hmn:min 254 (b.length - (b.take (i*254)).length)=(BW b i).length:=by rw[hbt,Ie]
  rw[hmn,VM,if_pos Z,Xo,UT,hlk,show l.take i++[l[i]]=l.take (i+1) from(Acp hi).symm];exact Mn h (by omega)
def PM{n:Nat}:1≤AM n:=by unfold AM;omega
def IE(h:FV s b l)(hb:b.length≤16384):Bq s (l.getD 0 0) b.length=(l,b,0):=by
 unfold Bq;rw[if_pos (by omega),Agf,←h.len];have h0:0<l.length:=by rw[h.len];exact PM
 have:=Mn h (m:=l.length) (i:=0) (by omega);rw[HL h0] at this⊢;simpa using this
def Ih{b:Sec}(hk:s.kind k=1)(hb:b.length=256):(s.put k b).1={s with fb:=D9 s.fb (k - s.frm).toNat b}:=by
 unfold PD.put;rw[if_pos hk,if_pos hb]
def Rr{k':Int}{b:Sec}(hk:s.kind k=1)(hb:b.length=256):(s.put k b).1.kind k'=s.kind k':=by rw[Ih hk hb];rfl
def KA{k':Int}{b:Sec}(hk:s.kind k=1)(hb:b.length=256):(s.put k b).1.bytes k'=if k'=k then b else s.bytes k':=by
 have hkk:=Rr (k':=k') hk hb;unfold PD.bytes;rw[hkk,Ih hk hb];obtain⟨i,i1,rfl,i2,i3⟩:=Cu hk (by omega);by_cases e:k'=((s.frm+i:Nat):Int)
 ·subst e;rw[if_pos hk,if_pos Z];show D9 s.fb _ b _=b;rw[D9,if_pos Z]
 ·rw[if_neg e];by_cases h1:s.kind k'=1
  ·rw[if_pos h1,if_pos h1];obtain⟨j,j1,rfl,j2,j3⟩:=Cu h1 (by omega);show D9 s.fb _ b _=s.fb _;rw[D9,i3,j3,if_neg (fun q=>e (by rw[q]))]
  ·rw[if_neg h1,if_neg h1]
def Fp:(DP x (BW b i)).length=256:=by
 have:=Ie (b:=b) (i:=i);unfold DP;simp only[Acx,Aci,Adn];omega
def Ws(hn:l.Nodup){j:Nat}(hi:i<l.length)(hj:j<l.length)(e:l[i]=l[j]):i=j:=by
 rcases Nat.lt_trichotomy i j with h|h|h
 ·exact absurd e (Aew.1 hn i j hi hj h)
 ·exact h
 ·exact absurd e.symm (Aew.1 hn j i hj hi h)
structure KC (s t:PD):Prop where
 frm:t.frm=s.frm
 kinds:t.kinds=s.kinds
 syn:t.syn=s.syn
 round:t.round=s.round
def KC.refl(s:PD):KC s s:=⟨Z,Z,Z,Z⟩
def KC.kind(h:KC s t)(k:Int):t.kind k=s.kind k:=by unfold PD.kind PD.kd;rw[h.frm,h.kinds]
def KC.free(h:KC s t):t.free=s.free:=by unfold PD.free;rw[h.kinds]
def S7{t:PD}{l:List Int}{b:List UInt8}(hf:∀k∈l,t.kind k=1)(hn:l.Nodup):∀{i:Nat},i≤l.length→KC t (C8 t l b i)∧
  (∀j (hj:j<l.length),j<i→(C8 t l b i).bytes l[j]=DP (l.getD (j+1) 65535) (BW b j))∧∀k,k∉l→(C8 t l b i).bytes k=t.bytes k
 |0,_=>⟨KC.refl t,fun j _ h=>absurd h (Nat.not_lt_zero j),fun _ _=>Z⟩
 |i+1,hi=>by
  obtain⟨h1,h2,h3⟩:=S7 (b:=b) hf hn (i:=i) (by omega);have hi':i<l.length:=by omega
  have hk:(C8 t l b i).kind l[i]=1:=by rw[h1.kind];exact hf _ (Acz hi')
  rw[C8,HL hi'];refine⟨?_,fun j hj hji=>?_,fun k hkl=>?_⟩
  ·rw[Ih hk Fp];exact⟨h1.frm,h1.kinds,h1.syn,h1.round⟩
  ·rw[KA hk Fp];by_cases e:j=i
   ·subst e;rw[if_pos Z]
   ·rw[if_neg (fun q=>e (Ws hn hj hi' q))];exact h2 j hj (by omega)
  ·rw[KA hk Fp,if_neg (fun(q:k=l[i])=>hkl (by rw[q];exact Acz hi'))];exact h3 k hkl
def Tk.kind(h:Tk s0 s l)(k:Int):s.kind k=if k∈l then 1 else s0.kind k:=by
 unfold PD.kind;rw[h.frm,h.len];by_cases e:(s0.frm:Int)≤k∧k<(s0.frm:Int)+s0.kinds.length
 ·rw[if_pos e,if_pos e,h.kd _ (by omega),show((s0.frm+(k - s0.frm).toNat:Nat):Int)=k by omega]
 ·rw[if_neg e,if_neg e];rw[if_neg];intro hm;obtain⟨j,j1,j2, -⟩:=h.was k hm;omega
def Tk.not(h:Tk s0 s l)(hk:s0.kind k≠0):k∉l:=fun hm=>by
 obtain⟨j,j1,rfl,j3⟩:=h.was k hm;rw[LU j1] at hk;exact hk j3
def Tk.bytes(h:Tk s0 s l)(hk:k∉l):s.bytes k=s0.bytes k:=by
 have hkk:=h.kind k;rw[if_neg hk] at hkk;unfold PD.bytes;rw[hkk,h.syn];by_cases h1:s0.kind k=1
 ·rw[if_pos h1,if_pos h1];obtain⟨j,j1,rfl,j2,j3⟩:=Cu h1 (by omega);rw[h.frm,j3];exact h.fb j hk
 ·rw[if_neg h1,if_neg h1]
def Wo(hG:Pgr.Good s)(hr:AM b.length≤s.free):∃t l,B1 s b=(t,l.getD 0 0,0)∧FV t b l∧(∀k∈l,t.kind k=1∧s.kind k=0)∧t.free+l.length=s.free∧l.length=AM b.length∧
  (∀k,k∉l→t.kind k=s.kind k∧t.bytes k=s.bytes k)∧l.Nodup:=by
 obtain⟨h1,h2⟩:=Ji (n:=AM b.length) (Tk.nil s)
 have hz:(BB s [] (AM b.length)).2.2=0:=by
  rcases h2 with ⟨q, -⟩|⟨-,q⟩
  ·exact q
  ·omega
 have ht:Bi s (AM b.length)=BB s [] (AM b.length):=by unfold Bi;rw[if_pos hz]
 have hlen:(BB s [] (AM b.length)).2.1.length=AM b.length:=by have:=KG hz;simpa using this
 have hc:B1 s b=(C8 (BB s [] (AM b.length)).1 (BB s [] (AM b.length)).2.1 b (BB s [] (AM b.length)).2.1.length,(BB s [] (AM b.length)).2.1.getD 0 0,0):=by
  unfold B1;rw[ht];simp only[hz,if_true]
 rw[hc]
 generalize (BB s [] (AM b.length)).1=t at h1
 generalize (BB s [] (AM b.length)).2.1=l at h1 hlen
 have hf:∀k∈l,t.kind k=1:=fun k hk=>by rw[h1.kind,if_pos hk]
 obtain⟨p1,p2,p3⟩:=S7 (b:=b) hf h1.nd (i:=l.length) (Acj _)
 refine⟨_,l,Z,⟨hlen,fun k hk=>?_,fun j hj=>?_,fun j hj=>p2 j hj hj⟩,fun k hk=>⟨by rw[p1.kind];exact hf k hk,?_⟩,by rw[p1.free];exact h1.free,hlen,fun k hk=>⟨?_,?_⟩,h1.nd⟩
 ·obtain⟨j,j1,rfl, -⟩:=h1.was k hk
  have:=hG.inn
  have:=hG.syn
  omega
 ·exact .inl (by rw[p1.kind];exact hf _ (Acz hj))
 ·obtain⟨j,j1,rfl,j3⟩:=h1.was k hk
  rw[LU j1];exact j3
 ·rw[p1.kind,h1.kind,if_neg hk]
 ·rw[p3 k hk,h1.bytes hk]
def FV.stay(h:FV s b l)(hs:∀k∈l,t.kind k=s.kind k∧t.bytes k=s.bytes k):FV t b l:=
 ⟨h.len,h.rng,fun j hj=>by unfold A6;rw[(hs _ (Acz hj)).1];exact h.live j hj,fun j hj=>by rw[(hs _ (Acz hj)).2];exact h.pg j hj⟩
def I9(hi:i<s.kinds.length)(hk:s.kd i=1):s.drop ((s.frm+i:Nat):Int)=({s with kinds:=s.kinds.set i 0},0):=by
 unfold PD.drop;rw[if_pos (by rw[LU hi];exact hk),show(((s.frm+i:Nat):Int) - s.frm).toNat=i by omega]
def Im(hi:i<s.kinds.length)(hk:s.kd i=1):(s.drop ((s.frm+i:Nat):Int)).1.kind k=if k=((s.frm+i:Nat):Int) then 0 else s.kind k:=by
 rw[I9 hi hk];by_cases e:k=((s.frm+i:Nat):Int)
 ·subst e;rw[if_pos Z];have:i<({s with kinds:=s.kinds.set i 0}:PD).kinds.length:=by simpa using hi
  rw[show((s.frm+i:Nat):Int)=((({s with kinds:=s.kinds.set i 0}:PD).frm+i:Nat):Int) from Z,LU this];show(s.kinds.set i 0).getD i 0=0;rw[Dg hi,if_pos Z]
 ·rw[if_neg e];unfold PD.kind;simp only[Aev];by_cases q:(s.frm:Int)≤k∧k<(s.frm:Int)+s.kinds.length
  ·rw[if_pos q,if_pos q];show(s.kinds.set i 0).getD _ 0=s.kinds.getD _ 0;rw[Dg hi,if_neg (by omega)]
  ·rw[if_neg q,if_neg q]
def U6(hi:i<s.kinds.length)(hk:s.kd i=1)(e:k≠((s.frm+i:Nat):Int)):(s.drop ((s.frm+i:Nat):Int)).1.bytes k=s.bytes k:=by
 have h:=Im (k:=k) hi hk;rw[if_neg e] at h;unfold PD.bytes;rw[h,I9 hi hk]
def Rl:∀{l:List Int}{s},(∀k∈l,s.kind k=1)→l.Nodup→(C5 s l).free=s.free+l.length∧GH s l=(C5 s l,0)∧(∀k∈l,(C5 s l).kind k=0)∧∀k,k∉l→(C5 s l).kind k=s.kind k∧(C5 s l).bytes k=s.bytes k
 |[],s,_,_=>⟨Z,Z,fun k h=>(by cases h),fun _ _=>⟨Z,Z⟩⟩
 |k::l,s,hf,hn=>by
  obtain⟨hnk,hn'⟩:=Afn.1 hn;obtain⟨i,hi,rfl,hki, -⟩:=Cu (hf k (Acm ..)) (by omega);have hd:=I9 hi hki;have hf':∀k'∈l,(s.drop ((s.frm+i:Nat):Int)).1.kind k'=1:=fun k' hk'=>by
   rw[Im hi hki,if_neg (fun(q:k'=((s.frm+i:Nat):Int))=>hnk (by rw[←q];exact hk'))];exact hf k' (Aco _ hk')
  obtain⟨h1,h2,h3,h4⟩:=Rl hf' hn';have e:C5 s (((s.frm+i:Nat):Int)::l)=C5 (s.drop ((s.frm+i:Nat):Int)).1 l:=by simp[C5]
  have hfr:(s.drop ((s.frm+i:Nat):Int)).1.free=s.free+1:=by
   rw[hd];have:=MF (s:=s) (i:=i) (x:=0) hi;rw[if_neg (by rw[←K4 hi,hki];decide),if_pos Z] at this;exact this
  rw[e];refine⟨by rw[h1,hfr,Acx];omega,?_,fun k' hk'=>?_,fun k' hk'=>?_⟩
  ·rw[GH,if_pos (by rw[hd]),h2]
  ·by_cases q:k'∈l
   ·exact h3 k' q
   ·rcases Acw.1 hk' with rfl|hk'
    ·rw[(h4 _ q).1,Im hi hki,if_pos Z]
    ·exact absurd hk' q
  ·have q1:k'∉l:=fun q=>hk' (Aco _ q);have q2:k'≠((s.frm+i:Nat):Int):=fun q=>hk' (by rw[q];exact Acm ..);obtain⟨j1,j2⟩:=h4 k' q1;exact⟨by rw[j1,Im hi hki,if_neg q2],by rw[j2,U6 hi hki q2]⟩
def WI(hr:s.free<AM b.length):∃t,B1 s b=(t,0,190)∧t.free=s.free:=by
 obtain⟨h1,h2⟩:=Ji (n:=AM b.length) (Tk.nil s);have hz:(BB s [] (AM b.length)).2.2=190:=by
  rcases h2 with ⟨-,q⟩|⟨q, -⟩
  ·omega
  ·exact q
 have ht:Bi s (AM b.length)=(C5 (BB s [] (AM b.length)).1 (BB s [] (AM b.length)).2.1,[],190):=by unfold Bi;rw[if_neg (by rw[hz];decide),hz]
 refine⟨C5 (BB s [] (AM b.length)).1 (BB s [] (AM b.length)).2.1,?_,?_⟩
 ·unfold B1;rw[ht];rfl
 ·obtain⟨q, -⟩:=Rl (s:=(BB s [] (AM b.length)).1) (l:=(BB s [] (AM b.length)).2.1) (fun k hk=>by rw[h1.kind,if_pos hk]) h1.nd;rw[q];exact h1.free
end Go.Gk.Chn
end
section
namespace Go.Gk.Tre
open Go Go.Gk Go.Gk.Dev Go.Gk.Cch Go.Gk.Pgr Go.Gk.Chn Go.Gk.Node
variable{n:Nat}{k:Int}
section
abbrev wtc(s:PD)(n:Nat):PD:={s with tc:=n}
def Aag{s}:(wtc s n).kind k=s.kind k:=Z
def VV{s}{b:Sec}:(wtc s n).put k b=(wtc (s.put k b).1 n,(s.put k b).2):=by
 unfold PD.put;rw[Aag];by_cases h1:s.kind k=1
 ·by_cases h2:b.length=256
  ·simp only[if_pos h1,if_pos h2]
  ·simp only[if_pos h1,if_neg h2]
 ·simp only[if_neg h1]
def S6{s}:(wtc s n).AR=(wtc s.AR.1 n,s.AR.2):=by
 unfold PD.AR;show(match CH 0 s.kinds with|some i=>_|none=>_)=_;cases CH 0 s.kinds<;>rfl
def XJ{s}:(wtc s n).drop k=(wtc (s.drop k).1 n,(s.drop k).2):=ZG
def Qw:∀{m:Nat}{s}{l:List Int},BB (wtc s n) l m=(wtc (BB s l m).1 n,(BB s l m).2)
 |0,s,l=>rfl
 |m+1,s,l=>by
  rw[BB,BB,S6];by_cases h:s.AR.2.2=0
  ·rw[if_pos h,if_pos h];exact Qw
  ·rw[if_neg h,if_neg h]
def R9:∀{l:List Int}{s},C5 (wtc s n) l=wtc (C5 s l) n
 |[],s=>rfl
 |k::l,s=>by
  show C5 ((wtc s n).drop k).1 l=wtc (C5 (s.drop k).1 l) n;rw[XJ];exact R9
def VY{m:Nat}{s}:Chn.Bi (wtc s n) m=(wtc (Chn.Bi s m).1 n,(Chn.Bi s m).2):=by
 unfold Chn.Bi;rw[Qw];by_cases h:(BB s [] m).2.2=0
 ·rw[if_pos h,if_pos h]
 ·rw[if_neg h,if_neg h,R9]
def TA{s}{l:List Int}{b}:∀{i:Nat},Chn.C8 (wtc s n) l b i=wtc (Chn.C8 s l b i) n
 |0=>rfl
 |i+1=>by rw[Chn.C8,Chn.C8,TA,VV]
def Xx{s b}:B1 (wtc s n) b=(wtc (B1 s b).1 n,(B1 s b).2):=by
 unfold B1;rw[VY];simp only;by_cases h:(Chn.Bi s (AM b.length)).2.2=0
 ·rw[if_pos h,if_pos h,TA]
 ·rw[if_neg h,if_neg h]
def XS{s}{size:Int}:Chn.Bq (wtc s n) k size=Chn.Bq s k size:=by
 have h:∀{m:Nat}{N:Nat}{z:Nat}{k:Int}{l:List Int}{o},CA (wtc s n) z N k l o m=CA s z N k l o m:=by
  intro m;induction m with
  |zero=>intros;rfl
  |succ m ih=>
   intro N z k l o
   rw[CA,CA]
   show(if A6 s k then if (Gu (s.bytes k)=65535)=(l.length+1=N) then if ((s.bytes k).drop _).all _ then CA (wtc s n) _ _ _ _ _ _ else _ else _ else _)=_
   simp only[ih]
   rfl
 unfold Chn.Bq;simp only[h]
section
variable {P:Program}{f:FuncId}{d:Ab}{s:PD}{dv pv:Value}{L:List Ab}
def PgT.mk(h:Pg d (wtc s n) dv pv L):PgT d s dv pv L:=⟨n,h⟩
def AbR(h:N9 P f)(hp:PgT d s dv pv L){w}{b:Sec}(hb:AH d w b):AB P f [pv,vZ k,w] d L (Ret fun r d' L'=>r=vZ (s.put k b).2∧PgT d' (s.put k b).1 dv pv L'):=by
 obtain⟨n,hp⟩:=hp;refine AB.EF (h (k:=k) hp hb) (fun r d' L' _ ⟨h1,h2⟩=>⟨d',L',Vs.refl _ _,?_⟩);rw[VV] at h1 h2;exact⟨h1,n,h2⟩
def Abp(h:Pgr.FO P f)(hp:PgT d s dv pv L):AB P f [pv] d L (Ret fun r d' L'=>r=.tuple #[vZ s.AR.2.1,vZ s.AR.2.2]∧PgT d' s.AR.1 dv pv L'):=by
 obtain⟨n,hp⟩:=hp;refine AB.EF (h hp) (fun r d' L' _ ⟨h1,h2⟩=>⟨d',L',Vs.refl _ _,?_⟩);rw[S6] at h1 h2;exact⟨h1,n,h2⟩
def AbG(h:Nz P f)(hp:PgT d s dv pv L){w b}(hb:AH d w b)(hl:b.length≤16384):
  AB P f [pv,w] d L (Ret fun r d' L'=>Le d d'∧r=.tuple #[vZ (B1 s b).2.1,vZ (B1 s b).2.2]∧PgT d' (B1 s b).1 dv pv L'):=by
 obtain⟨n,hp⟩:=hp
 refine AB.EF (h hp hb hl) (fun r d' L' _ ⟨h0,h1,h2⟩=>⟨d',L',Vs.refl _ _,?_⟩)
 rw[Xx] at h1 h2;exact⟨h0,h1,n,h2⟩
end
end
end Go.Gk.Tre
end
section
namespace Go.Gk
open Go
section
section
variable {P:Program}{pan:List PanicEntry→AL}{Qn:Env→AL}{Ls L:List Ab}{ρ:Env}{d:Ab}{s:GS}{t:Nat}{tk:Bool}
def Ou{x y k'}{a:Nat}(n m:Nat)(ex:ev ρ x=vZ (a:Int))(ey:ev ρ y=.int k' (n:Int))(hn:n≤32)(hm:m=a*2 ^ n)(ha:a≤65535)(h:gws P pan Qn s Ls (upd ρ t (vZ (m:Int))) d L):
  gws P pan Qn (.op tk ⟨some t,none,.bin .shl x y⟩ s) Ls ρ d L:=by
 refine C3 ?_ h
 have h1:min (Int.toNat (n:Int)) IntKind.i64.bits=n:=by simp[IntKind.bits];omega
 have h2:2 ^ n≤2 ^ 32:=Nat.pow_le_pow_right (by omega) hn
 have h3:a*2 ^ n≤65535*2 ^ 32:=Nat.mul_le_mul ha h2
 have e:(a:Int)*2 ^ n=((a*2 ^ n:Nat):Int):=by push_cast;rfl
 rw[ex,ey]
 simp only[CL,h1]
 rw[if_neg (by omega),e,CM (by omega) (by omega),hm]
def V7{x y k'}{a:Int}(n:Nat)(m:Int)(ex:ev ρ x=vZ a)(ey:ev ρ y=.int k' (n:Int))(hn:n≤32)(_:0≤a)(hm:m=a / (2 ^ n:Nat))(h:gws P pan Qn s Ls (upd ρ t (vZ m)) d L):
  gws P pan Qn (.op tk ⟨some t,none,.bin .shr x y⟩ s) Ls ρ d L:=by
 refine C3 ?_ h
 have h1:min (Int.toNat (n:Int)) IntKind.i64.bits=n:=by simp[IntKind.bits];omega
 rw[ex,ey]
 simp only[CL,h1]
 rw[if_neg (by omega),hm]
 congr 2
 rw[Int.fdiv_eq_ediv_of_nonneg _ (by exact_mod_cast Adf _)]
 simp
def Ql{x y}{a b:Nat}(n:Nat)(ex:ev ρ x=vZ ((a*2 ^ n:Nat):Int))(ey:ev ρ y=vZ (b:Int))(ha:a*2 ^ n<9223372036854775808)(hb:b<2 ^ n)(hs:a*2 ^ n+b<9223372036854775808)
  (h:gws P pan Qn s Ls (upd ρ t (vZ ((a*2 ^ n+b:Nat):Int))) d L):gws P pan Qn (.op tk ⟨some t,none,.bin .or x y⟩ s) Ls ρ d L:=by
 refine C3 ?_ h
 have hlt:b<9223372036854775808:=by omega
 have e:(BitVec.ofInt IntKind.i64.bits ((a*2 ^ n:Nat):Int)|||BitVec.ofInt IntKind.i64.bits ((b:Nat):Int)).toNat=a*2 ^ n+b:=by
  have h1:=Nat.shiftLeft_add_eq_or_of_lt (i:=n) hb a;rw[Nat.shiftLeft_eq] at h1;show((BitVec.ofInt 64 ((a*2 ^ n:Nat):Int):BitVec 64)|||(BitVec.ofInt 64 ((b:Nat):Int):BitVec 64)).toNat=_;rw[BitVec.toNat_or,BitVec.ofInt_natCast,BitVec.ofInt_natCast,BitVec.toNat_ofNat,BitVec.toNat_ofNat];rw[Afh (by omega),Afh (by omega)];exact h1.symm
 rw[ex,ey]
 simp only[CL,e]
 rw[CM (by omega) (by omega),if_neg (fun h=>h Z)]
def Aav{z x0 x1 x2 x3 x4 x5 x6}{a0 a1 a2 a3 a4 a5 a6:UInt8}(e0:ev ρ x0=As a0)(e1:ev ρ x1=As a1)(e2:ev ρ x2=As a2)(e3:ev ρ x3=As a3)(e4:ev ρ x4=As a4)(e5:ev ρ x5=As a5)(e6:ev ρ x6=As a6)
  (h:∀b T,gws P pan Qn s Ls (upd ρ t (.slice (some ⟨b,0,none⟩) 7 7)) d (bx b T ([a0,a1,a2,a3,a4,a5,a6].map As)::L)):gws P pan Qn (.op false ⟨some t,none,.bsl 7 1 [z] [(0,x0),(1,x1),(2,x2),(3,x3),(4,x4),(5,x5),(6,x6)]⟩ s) Ls ρ d L:=by
 have c:∀a:UInt8,(As a).cells= #[As a]:=fun _=>Z
 refine De (by omega) ?_ h
 simp[Instr.fill,Bm,List.range,List.range.loop,e0,c,e1,e2,e3,e4,e5,e6]
end
end
end Go.Gk
end
section
namespace Go.Gk.Tre
open Go Go.Gk Go.Gk.Dev Go.Gk.Cch Go.Gk.Pgr Go.Gk.Chn Go.Gk.Node
attribute [local irreducible] gwp gws xwp
def HJ(P:Program)(f:FuncId):Prop:=∀{d}{bt pb:Nat}{Tt}{r h c:Int}{L},C2 P f [pZ bt] d (tb bt Tt (pZ pb) r h c::L) (.bool false)
def M5:A3:=⟨12,[(.tmp 2)],(sR (o1 2 (.mv (.const (.bool false))) .done) (sR (om 3 0<|o1 4 (.eqp false 3 (.const (.pointer none)))<|om 5 4<|gF 6 5 0<|oF 7 5 (.nilc 6)<|oF 8 5 (.fld 0 7)<|oF 9 5 (.ld none 8)<|oF 10 5 (.eqp false 9 (.const (.pointer none)))<|o1 11 (.pick 5 (.const (.bool true)) 10)<|om 2 11 .done) .ret))⟩
def XC{P f}(hd:dec P f=some M5):HJ P f:=by
 intro d bt pb Tt r h c L;refine AK hd (Aca Z) ?_;show gwp P _ _ _ _ _;(refine Ad<|Af Z<|Aa<|Ad<|Ah Z<|BZ Z Z<|Af Z<|Ae Z<|Ah Z<|Ae Z<|AJ Z<|Ae Z<|Aj Z<|Ae Z<|Ai Z (Aq 0 Z Z)<|Ae Z<|BZ Z Z<|Av Z Z<|Af Z<|Aa<|Ao ?_);exact Ci Z (Acd _) ⟨Z,Z,Z⟩
def NN(P:Program)(f:FuncId):Prop:=∀{d}{bt pb:Nat}{Tt}{r h c:Int}{w key L},AH d w key→C2 P f [pZ bt,w] d (tb bt Tt (pZ pb) r h c::L) (vZ (Cq key))
def MZ(a0:Nat):A3:=⟨17,[(.tmp 4)],(sR (o1 4 (.mv z0) .done) (.seq (.block 0 (sR (om 6 0<|oc 7 a0 [6]<|om 5 7 .done) (.cond 5 (sR (o1 4 (.mv z1) .done) .ret) (sR (om 9 1<|oL 10 9<|ob 11 .lss 10 z1<|om 12 11<|gF 13 12 1<|oF 14 12 (.len 13)<|oF 15 12 (.bin .gtr 14 (kZ 64))<|o1 16 (.pick 12 (.const (.bool true)) 15)<|om 8 16 .done) (.cond 8 (sR (o1 4 (.mv z2) .done) .ret) .skip))))) (sR (o1 4 (.mv z0) .done) .ret)))⟩
def Aaa{P f f1}(hd:dec P f=some (MZ f1))(h1:HJ P f1):NN P f:=by
 intro d bt pb Tt r h c w key L hw;refine AK hd (Aca Z) ?_;show gwp P _ _ _ _ _;refine Ad<|Ac Z<|Aa<|Ag<|Az<|Ad<|Ah Z<|B9 [] h1 Z Z ?_;by_cases e1:key.length<1
 ·have hk:Cq key=2:=by unfold Cq;rw[if_pos (.inl e1)]
  rw[hk];(refine Af Z<|Aa<|AS Z<|Ad<|AQ<|Bv Z (by assumption)<|AA Z Z<|Af Z<|A4 Z (by omega)<|Am Z<|Am Z<|Am Z<|Ay Z Z<|Af Z<|Aa<|A8 Z<|Ad<|Ac Z<|Aa<|Ao ?_);exact Ci Z (Acd _) ⟨Z,Z,Z⟩
 ·by_cases e2:64<key.length
  ·have hk:Cq key=2:=by unfold Cq;rw[if_pos (.inr e2)]
   rw[hk];(refine Af Z<|Aa<|AS Z<|Ad<|AQ<|Bv Z (by assumption)<|AA Z Z<|Af Z<|A1 Z (by omega)<|Ae Z<|AQ<|Ae Z<|Bv Z (by assumption)<|Ae Z<|Bb Z Z<|Av Z Z<|Af Z<|Aa<|AF Z (by omega)<|Ad<|Ac Z<|Aa<|Ao ?_);exact Ci Z (Acd _) ⟨Z,Z,Z⟩
  ·have hk:Cq key=0:=by unfold Cq;rw[if_neg (by omega)]
   rw[hk];(refine Af Z<|Aa<|AS Z<|Ad<|AQ<|Bv Z (by assumption)<|AA Z Z<|Af Z<|A1 Z (by omega)<|Ae Z<|AQ<|Ae Z<|Bv Z (by assumption)<|Ae Z<|Bb Z Z<|Av Z Z<|Af Z<|Aa<|Aw Z (by omega)<|Al<|Ad<|Ac Z<|Aa<|Ao ?_);exact Ci Z (Acd _) ⟨Z,Z,Z⟩
def OW(P:Program)(f:FuncId):Prop:=∀{d s dv pv L}{bt:Nat}{Tt}{r h c k:Int},Pg d s dv pv L→
 AB P f [pZ bt,vZ k] d (tb bt Tt pv r h c::L) (Ret fun v d' L'=>Le d d'∧∃cs hk hv hi L2 tc,v=.tuple #[.agg cs.toArray,vZ (Bw s k).2]∧L'=hk::hv::hi::tb bt Tt pv r h c::L2∧
  Fl d' cs (Bw s k).1 hk hv hi∧Pg d' {s with tc:=tc} dv pv L2∧((Bw s k).2=0→tc=s.tc+1))
def MH(a0 a1:Nat):A3:=⟨25,[(.cell 4 (some 4)),(.tmp 5)],(sR (o1 4 (.alo (.agg #[(.bool false),nV,nV,nV]))<|o1 5 (.mv z0) .done) (sR (om 9 0<|o1 10 (.nilc 9)<|oj 11 0 10<|ol 12 11<|om 13 1<|oc 14 a0 [12,13]<|om 8 14<|oe 15 8 0<|oe 16 8 1<|om 6 15<|om 7 16 .done) (.seq (sR (om 17 7<|ob 18 .neq 17 z0 .done) (.cond 18 (sR (o1 19 (.bld [(0,1),(1,1),(2,1),(3,1)] [(.bool false),nV,nV,nV] [])<|om 20 7<|o0 (.st 4 4 19)<|om 5 20 .done) .ret) .skip)) (sR (om 21 6<|oc 22 a1 [21]<|oe 23 22 0<|oe 24 22 1<|o0 (.st 4 4 23)<|om 5 24 .done) .ret))))⟩
set_option maxRecDepth 4000 in
def XP{P f f1 f2}(hd:dec P f=some (MH f1 f2))(h1:E7 P f1)(h2:N3 P f2):OW P f:=by
 intro d s dv pv L bt Tt r h c k hp;obtain⟨bp,rfl⟩:=hp.ptr;refine AK hd (Aca Z) ?_;show gwp P _ _ _ _ _;apply Ag;apply AI;refine Dj (fun b4 T4=>?_);refine Ac Z<|Aa<|Ad<|Ah Z<|AJ Z<|Aj Z<|Ai Z (Aq 1 Z Z)<|Ac Z<|Be [_,_] (h1.atT (k:=k) hp) Z Z (fun v d2 L2 hl ⟨a,q,tc,e1,hb,hp2,htc⟩=>?_);subst e1;by_cases hlv:A6 s k
 ·rw[MV hlv];rw[if_pos hlv] at htc;have hr:Bw s k=(Dz (s.bytes k),GA (s.bytes k)):=by unfold Bw;rw[if_pos hlv]
  rw[hr];refine AU Z<|Ap Z Z<|Ap Z Z<|Ak Z<|Ac Z<|Aa<|Ag<|Ad<|Ac Z<|AW Z Z<|Aa<|Aw Z (by omega)<|Al<|Ad<|Ak Z<|CF Z (h2 hb) (fun u d3 L3 hl3 ⟨q0,cs,q1,q2⟩=>?_);subst q0;subst q1;obtain⟨d4,hk,hv,hi,v1,v2,v3⟩:=EZ.YM q2;have hcs:∃c1 c2 c3 c4,cs=[c1,c2,c3,c4]∧(cs.all (·.oneCell'))=true:=by
   obtain⟨kv,vv,iv,rfl,a1,a2,a3⟩:=v3;obtain⟨x1,x2,rfl⟩:=a1.val;obtain⟨y1,y2,rfl⟩:=a2.val;obtain⟨z1,z2,rfl⟩:=a3.val;exact⟨_,_,_,_,Z,Z⟩
  obtain⟨c1,c2,c3,c4,rfl,hc1⟩:=hcs;refine BA _ _ (Vs.app v1 _) ?_;refine Ap Z Z<|Ap Z Z<|Et 3 Z Z Z Z (Acj _) hc1 ?_;(refine Ac Z<|Aa<|Ao ?_);exact A9 [.agg [c1,c2,c3,c4].toArray,vZ (GA (s.bytes k))] ⟨Co 3 Z Z Z,Ar Z,trivial⟩ (d':=d4) (L':=hk::hv::hi::tb bt Tt (pZ bp) r h c::L2) (Vs.drop (.cons_cons _ (.cons_cons _ (.cons_cons _ (.cons _ (Acd _))))))
   ⟨hl.trans v2,_,hk,hv,hi,L2,tc,Z,Z,v3,hp2.mono v2,fun _=>htc⟩
 ·rw[(MB hlv).1];rw[if_neg hlv] at htc;have hr:Bw s k=(Iu,240):=by unfold Bw;rw[if_neg hlv]
  rw[hr];refine AU Z<|Ap Z Z<|Ap Z Z<|Ak Z<|Ac Z<|Aa<|Ag<|Ad<|Ac Z<|AW Z Z<|Aa<|AF Z (by omega)<|Ad<|Ch Z<|Ac Z<|Et 0 Z Z Z Z (Acj _) Z ?_;(refine Ac Z<|Aa<|Ao ?_);exact A9 [.agg [.bool false,nV,nV,nV].toArray,vZ 240] ⟨Co 0 Z Z Z,Ar Z,trivial⟩ (d':=d2) (L':=emp::emp::emp::tb bt Tt (pZ bp) r h c::L2)
   ((Vs.drop (.cons _ (Acd _))).trans (Vs.emp.trans (Vs.emp.trans Vs.emp)))
   ⟨hl,_,emp,emp,emp,L2,tc,Z,Z,Fl.zero,hp2,fun q=>absurd q (by decide)⟩
def My(P:Program)(f:FuncId):Prop:=∀{d s dv pv L}{bt:Nat}{Tt}{r h c k x:Int},Pg d s dv pv L→
 AB P f [pZ bt,vZ k,vZ x] d (tb bt Tt pv r h c::L) (Ret fun v d' L'=>Le d d'∧∃cs hk hv hi L2 tc,v=.tuple #[.agg cs.toArray,vZ (AN s k x).2]∧L'=hk::hv::hi::tb bt Tt pv r h c::L2∧
  Fl d' cs (AN s k x).1 hk hv hi∧Pg d' {s with tc:=tc} dv pv L2∧((AN s k x).2=0→tc=s.tc+1))
def Fl.cells{d cs}{n:Ax}{hk hv hi}(o:Fl d cs n hk hv hi):∃ka kc va vc ia ic,cs=[.bool n.leaf,.slice ka n.keys.length kc,.slice va n.vals.length vc,.slice ia n.kids.length ic]:=by
 obtain⟨kv,vv,iv,rfl,a1,a2,a3⟩:=o;obtain⟨x1,x2,rfl⟩:=a1.val;obtain⟨y1,y2,rfl⟩:=a2.val;obtain⟨z1,z2,rfl⟩:=a3.val;exact⟨_,_,_,_,_,_,Z⟩
def LY(a0:Nat):A3:=⟨27,[(.cell 6 (some 4)),(.tmp 7)],(sR (o1 6 (.alo (.agg #[(.bool false),nV,nV,nV]))<|o1 7 (.mv z0) .done) (sR (om 11 0<|om 12 1<|oc 13 a0 [11,12]<|om 10 13<|oe 14 10 0<|oe 15 10 1<|o1 8 (.alo (.agg #[(.bool false),nV,nV,nV]))<|o0 (.st 4 8 14)<|om 9 15 .done) (.seq (sR (om 16 9<|ob 17 .eql 16 z0<|om 18 17<|oT 19 18 (.fld 0 8)<|oT 20 18 (.ld none 19)<|gT 21 18 2<|oT 22 18 (.bin .eql 21 z1)<|oT 23 18 (.eqb true 20 22)<|gP 24 18 23 .done) (.cond 24 (rG (o1 9 (.mv (kZ 200)) .done)) .skip)) (sR (o1 25 (.ld (some 4) 8)<|om 26 9<|o0 (.st 4 6 25)<|om 7 26 .done) .ret))))⟩
set_option maxRecDepth 4000 in
def WY{P f f1}(hd:dec P f=some (LY f1))(h1:OW P f1):My P f:=by
 intro d s dv pv L bt Tt r h c k x hp;refine AK hd (Aca Z) ?_;show gwp P _ _ _ _ _;apply Ag;apply AI;refine Dj (fun b6 T6=>?_);refine Ac Z<|Aa<|Ad<|Ah Z<|Ac Z<|Be [_] (h1 (k:=k) hp) Z Z (fun v d2 L2 hl ⟨_,cs,hk,hv,hi,L3,tc,e1,e2,hn,hp2,htc⟩=>?_);subst e1;subst e2;have hn0:=hn;obtain⟨ka,kc,va,vc,ia,ic,rfl⟩:=hn.cells;(refine AU Z<|Ap Z Z<|Ap Z Z<|Da (fun _ _=>?_));rename_i b8 T8;refine Et 0 Z Z Z Z (Acj _) Z ?_;by_cases hz:(Bw s k).2=0
 ·by_cases hx:(Bw s k).1.leaf=decide (x=1)
  ·have hF:AN s k x=((Bw s k).1,0):=by unfold AN;rw[if_neg (fun q=>q.2 hx),hz]
   rw[hF,hz];have hxx:(true ^^((Bw s k).1.leaf==decide (x=1)))=false:=by rw[hx];simp
   (refine Ac Z<|Aa<|Ag<|Ad<|Ac Z<|AT Z Z<|Af Z<|A4 Z (by omega)<|Ae Z<|Aj Z<|Ae Z<|Ai Z (Aq 0 Z Z)<|Ae Z<|Ac Z<|Ae Z<|AT Z Z<|Ae Z<|Oq Z Z<|Ay Z Z<|Aa ?_;apply Rq;rfl;(with_reducible assumption);refine Al<|Ad<|Cg 0 Z Z Z<|Ac Z ?_);refine Et 1 Z Z Z Z (Acj _) Z ?_;(refine Ac Z<|Aa<|Ao ?_);exact A9 [.agg [.bool (Bw s k).1.leaf,.slice ka (Bw s k).1.keys.length kc,.slice va (Bw s k).1.vals.length vc,.slice ia (Bw s k).1.kids.length ic].toArray,vZ 0] ⟨Co 1 Z Z Z,Ar Z,trivial⟩ (d':=d2) (L':=hk::hv::hi::tb bt Tt pv r h c::L3) (Vs.drop (.cons _ (.cons _ (Acd _)))) ⟨hl,_,hk,hv,hi,L3,tc,Z,Z,hn0,hp2,fun _=>htc hz⟩
  ·have hF:AN s k x=((Bw s k).1,200):=by unfold AN;rw[if_pos ⟨hz,hx⟩]
   rw[hF,hz];have hxx:(true ^^((Bw s k).1.leaf==decide (x=1)))=true:=by cases hb:(Bw s k).1.leaf<;>rw[hb] at hx<;>simp at hx⊢<;>omega
   (refine Ac Z<|Aa<|Ag<|Ad<|Ac Z<|AT Z Z<|Af Z<|A4 Z (by omega)<|Ae Z<|Aj Z<|Ae Z<|Ai Z (Aq 0 Z Z)<|Ae Z<|Ac Z<|Ae Z<|AT Z Z<|Ae Z<|Oq Z Z<|Ay Z Z<|Aa ?_;apply Rk;rfl;(with_reducible assumption);refine AI<|Ac Z<|Aa<|Ad<|Cg 0 Z Z Z<|Ac Z ?_);refine Et 1 Z Z Z Z (Acj _) Z ?_;(refine Ac Z<|Aa<|Ao ?_);exact A9 [.agg [.bool (Bw s k).1.leaf,.slice ka (Bw s k).1.keys.length kc,.slice va (Bw s k).1.vals.length vc,.slice ia (Bw s k).1.kids.length ic].toArray,vZ 200] ⟨Co 1 Z Z Z,Ar Z,trivial⟩ (d':=d2) (L':=hk::hv::hi::tb bt Tt pv r h c::L3) (Vs.drop (.cons _ (.cons _ (Acd _)))) ⟨hl,_,hk,hv,hi,L3,tc,Z,Z,hn0,hp2,fun q=>absurd (show(200:Int)=0 from q) (by decide)⟩
 ·have hF:AN s k x=((Bw s k).1,(Bw s k).2):=by unfold AN;rw[if_neg (fun q=>hz q.1)]
  rw[hF];refine Ac Z<|Aa<|Ag<|Ad<|Ac Z<|AT Z Z<|Af Z<|A1 Z (by omega)<|Am Z<|Am Z<|Am Z<|Am Z<|Am Z<|Av Z Z<|Aa<|AS Z<|Al<|Ad<|Cg 0 Z Z Z<|Ac Z<|Et 1 Z Z Z Z (Acj _) Z ?_;(refine Ac Z<|Aa<|Ao ?_);exact A9 [.agg [.bool (Bw s k).1.leaf,.slice ka (Bw s k).1.keys.length kc,.slice va (Bw s k).1.vals.length vc,.slice ia (Bw s k).1.kids.length ic].toArray,vZ (Bw s k).2] ⟨Co 1 Z Z Z,Ar Z,trivial⟩ (d':=d2) (L':=hk::hv::hi::tb bt Tt pv r h c::L3) (Vs.drop (.cons _ (.cons _ (Acd _)))) ⟨hl,_,hk,hv,hi,L3,tc,Z,Z,hn0,hp2,htc⟩
def JJ(P:Program)(f:FuncId):Prop:=∀{d w b},AH d w b→Cy P f [w] d (.tuple #[vZ (if EK b then(EJ b:Int) else 0),vZ (if EK b then(DL b:Int) else 0),.bool (EK b)])
def Uf:A3:=⟨46,[(.tmp 2),(.tmp 3),(.tmp 4)],(sR (o1 2 (.mv z0)<|o1 3 (.mv z0)<|o1 4 (.mv (.const (.bool false))) .done) (.seq (sR (om 5 0<|oL 6 5<|ob 7 .neq 6 (kZ 7)<|om 8 7<|gF 9 8 0<|oF 10 8 (.idx 1 9 z0)<|oF 11 8 (.ld none 10)<|oF 12 8 (.bin .neq 11 (.const (.int .u8 1)))<|o1 13 (.pick 8 (.const (.bool true)) 12) .done) (.cond 13 (sR (o1 2 (.mv z0)<|o1 3 (.mv z0)<|o1 4 (.mv (.const (.bool false))) .done) .ret) .skip)) (.seq (.reg true (pm 14 0<|p1 15 (.idx 1 14 z1)<|pl 16 15<|p1 17 (.cvi .i64 16)<|p1 18 (.bin .shl 17 (.const (.int .u64 8)))<|pm 19 0<|p1 20 (.idx 1 19 z2)<|pl 21 20<|p1 22 (.cvi .i64 21)<|p1 23 (.bin .or 18 22)<|pm 24 0<|p1 25 (.idx 1 24 (kZ 3))<|pl 26 25<|p1 27 (.cvi .i64 26)<|p1 28 (.bin .shl 27 (.const (.int .u64 24)))<|pm 29 0<|p1 30 (.idx 1 29 (kZ 4))<|pl 31 30<|p1 32 (.cvi .i64 31)<|p1 33 (.bin .shl 32 (.const (.int .u64 16)))<|p1 34 (.bin .or 28 33)<|pm 35 0<|p1 36 (.idx 1 35 (kZ 5))<|pl 37 36<|p1 38 (.cvi .i64 37)<|p1 39 (.bin .shl 38 (.const (.int .u64 8)))<|p1 40 (.bin .or 34 39)<|pm 41 0<|p1 42 (.idx 1 41 (kZ 6))<|pl 43 42<|p1 44 (.cvi .i64 43)<|p1 45 (.bin .or 40 44)<|pm 2 23<|pm 3 45<|p1 4 (.mv (.const (.bool true))) .done)) .ret)))⟩
def Cp{b:List UInt8}{i:Nat}(h:i<b.length):b.getD i 0=b[i]:=by rw[Acg,Acf h];rfl
set_option maxRecDepth 4000 in
def Wy{P:Program}{f:FuncId}(hd:dec P f=some Uf):JJ P f:=by
 intro d w b hw;refine AK hd (Aca Z) ?_;show gwp P _ _ _ _ _;by_cases h7:b.length=7
 ·have g0:=Cp (b:=b) (i:=0) (by omega);by_cases h1:b[0]'(by omega)=1
  ·have hF:EK b=true:=by unfold EK;rw[g0,h1,h7];rfl
   have hb0:(b[0]'(by omega)).toNat=1:=by rw[h1];rfl
   rw[hF];have l1:=UInt8.toNat_lt (b[1]'(by omega));have l2:=UInt8.toNat_lt (b[2]'(by omega));have l3:=UInt8.toNat_lt (b[3]'(by omega));have l4:=UInt8.toNat_lt (b[4]'(by omega));have l5:=UInt8.toNat_lt (b[5]'(by omega));have l6:=UInt8.toNat_lt (b[6]'(by omega));have eH:EJ b=(b[1]'(by omega)).toNat*2 ^ 8+(b[2]'(by omega)).toNat:=by unfold EJ;rw[Cp (i:=1) (by omega),Cp (i:=2) (by omega)]
   have eN:DL b=(((b[3]'(by omega)).toNat*2 ^ 8+(b[4]'(by omega)).toNat)*2 ^ 8+(b[5]'(by omega)).toNat)*2 ^ 8+(b[6]'(by omega)).toNat:=by unfold DL;rw[Cp (i:=3) (by omega),Cp (i:=4) (by omega),Cp (i:=5) (by omega),Cp (i:=6) (by omega)]
   rw[if_pos Z,if_pos Z,eH,eN];generalize e1:(b[1]'(by omega)).toNat=n1 at l1;generalize e2:(b[2]'(by omega)).toNat=n2 at l2;generalize e3:(b[3]'(by omega)).toNat=n3 at l3;generalize e4:(b[4]'(by omega)).toNat=n4 at l4;generalize e5:(b[5]'(by omega)).toNat=n5 at l5;generalize e6:(b[6]'(by omega)).toNat=n6 at l6;have e5':(b[4+1]'(by omega)).toNat=n5:=e5;have e6':(b[5+1]'(by omega)).toNat=n6:=e6;(refine Ad<|Ac Z<|Ac Z<|Af Z<|Aa<|Ag<|Ad<|AQ<|Bv Z (by assumption)<|AW Z Z<|Af Z<|A1 Z (by omega)<|Ae Z<|AQ<|Ae Z<|A0 (m:=0) (sz:=1) (R:=AE) (by rfl) (by assumption) (by rfl) Z (by omega) ?_;rintro _ _ _ _ _ rfl;refine Ae Z<|Ai Z (Bp (by assumption) Z)<|Ae Z<|AW Z Z<|Av Z Z<|Aa<|Aw Z (by omega)<|Al<|Ag<|C1<|AQ<|A0 (m:=1) (sz:=1) (R:=AE) (by rfl) (by assumption) (by rfl) Z (by omega) ?_;rintro _ _ _ _ _ rfl;refine Ai Z (Bp (by assumption) Z)<|DR Z (by omega) (by omega) ?_);refine Ou (a:=n1) 8 (n1*2 ^ 8) (congrArg (fun z:Nat=>Value.int .i64 z) e1) Z (by omega) Z (by omega) ?_;(refine AQ<|A0 (m:=2) (sz:=1) (R:=AE) (by rfl) (by assumption) (by rfl) Z (by omega) ?_;rintro _ _ _ _ _ rfl;refine Ai Z (Bp (by assumption) Z)<|DR Z (by omega) (by omega) ?_);refine Ql (a:=n1) (b:=n2) 8 Z (congrArg (fun z:Nat=>Value.int .i64 z) e2) (by omega) (by omega) (by omega) ?_;(refine AQ<|A0 (m:=3) (sz:=1) (R:=AE) (by rfl) (by assumption) (by rfl) Z (by omega) ?_;rintro _ _ _ _ _ rfl;refine Ai Z (Bp (by assumption) Z)<|DR Z (by omega) (by omega) ?_);refine Ou (a:=n3) 24 (n3*2 ^ 24) (congrArg (fun z:Nat=>Value.int .i64 z) e3) Z (by omega) Z (by omega) ?_;(refine AQ<|A0 (m:=4) (sz:=1) (R:=AE) (by rfl) (by assumption) (by rfl) Z (by omega) ?_;rintro _ _ _ _ _ rfl;refine Ai Z (Bp (by assumption) Z)<|DR Z (by omega) (by omega) ?_);refine Ou (a:=n4) 16 (n4*2 ^ 16) (congrArg (fun z:Nat=>Value.int .i64 z) e4) Z (by omega) Z (by omega) ?_;refine Ql (a:=n3) (b:=n4*2 ^ 16) 24 Z Z (by omega) (by omega) (by omega) ?_;(refine AQ<|A0 (sz:=1) (R:=AE) (by rfl) (by assumption) (by rfl) (Int.natCast_add _ 1).symm (by omega) ?_;rintro _ _ _ _ _ rfl;refine Ai Z (Bp (by assumption) Z)<|DR Z (by omega) (by omega) ?_);refine Ou (a:=n5) 8 (n5*2 ^ 8) (congrArg (fun z:Nat=>Value.int .i64 z) e5') Z (by omega) Z (by omega) ?_;refine Ql (a:=n3*2 ^ 8+n4) (b:=n5*2 ^ 8) 16 (congrArg (fun z:Nat=>Value.int .i64 z) (by omega)) Z (by omega) (by omega) (by omega) ?_;(refine AQ<|A0 (sz:=1) (R:=AE) (by rfl) (by assumption) (by rfl) (Int.natCast_add _ 1).symm (by omega) ?_;rintro _ _ _ _ _ rfl;refine Ai Z (Bp (by assumption) Z)<|DR Z (by omega) (by omega) ?_);refine Ql (a:=(n3*2 ^ 8+n4)*2 ^ 8+n5) (b:=n6) 8 (congrArg (fun z:Nat=>Value.int .i64 z) (by omega)) (congrArg (fun z:Nat=>Value.int .i64 z) e6') (by omega) (by omega) (by omega) ?_;(refine Ac Z<|Ac Z<|Af Z<|Aa<|Ao ?_);exact Dr [vZ _,vZ _,.bool true] (L':=[]) ⟨Ar Z,Ar Z,Ar Z,trivial⟩ (Adj _) ⟨Z,Z,Z⟩
  ·have hb0:(b[0]'(by omega)).toNat≠1:=fun q=>h1 (UInt8.toNat_inj.1 q);have hF:EK b=false:=by unfold EK;rw[g0];simp[h1]
   rw[hF];(refine Ad<|Ac Z<|Ac Z<|Af Z<|Aa<|Ag<|Ad<|AQ<|Bv Z (by assumption)<|AW Z Z<|Af Z<|A1 Z (by omega)<|Ae Z<|AQ<|Ae Z<|A0 (m:=0) (sz:=1) (R:=AE) (by rfl) (by assumption) (by rfl) Z (by omega) ?_;rintro _ _ _ _ _ rfl;refine Ae Z<|Ai Z (Bp (by assumption) Z)<|Ae Z<|AW Z Z<|Av Z Z<|Aa<|AF Z (by omega)<|Ad<|Ac Z<|Ac Z<|Af Z<|Aa<|Ao ?_);exact Dr [vZ 0,vZ 0,.bool false] (L':=[]) ⟨Ar Z,Ar Z,Ar Z,trivial⟩ (Adj _) ⟨Z,Z,Z⟩
 ·have hF:EK b=false:=by unfold EK;simp[h7]
  rw[hF];(refine Ad<|Ac Z<|Ac Z<|Af Z<|Aa<|Ag<|Ad<|AQ<|Bv Z (by assumption)<|AW Z Z<|Af Z<|A4 Z (by omega)<|Am Z<|Am Z<|Am Z<|Am Z<|Ay Z Z<|Aa<|A8 Z<|Ad<|Ac Z<|Ac Z<|Af Z<|Aa<|Ao ?_);exact Dr [vZ 0,vZ 0,.bool false] (L':=[]) ⟨Ar Z,Ar Z,Ar Z,trivial⟩ (Adj _) ⟨Z,Z,Z⟩
def Jh(P:Program)(f:FuncId):Prop:=∀{d s dv pv w L}{bt:Nat}{Tt}{r h c:Int}{b},Pg d s dv pv L→AH d w b→
 AB P f [pZ bt,w] d (tb bt Tt pv r h c::L) (Ret fun v d' L'=>Le d d'∧∃u L2 tc,v=.tuple #[u,vZ (BU s b).2]∧L'=tb bt Tt pv r h c::L2∧AH d' u (BU s b).1∧
  Pg d' {s with tc:=tc} dv pv L2∧((BU s b).2=0→tc=s.tc+Dn b))
def O0{b:List UInt8}{m:Nat}(e:(0:Int)=(m:Int))(h:m<b.length){n:Nat}(hb:(b.getD 0 0).toNat=n):(b[m]'h).toNat=n:=by
 have:m=0:=by omega
 subst this;rw[←hb,Cp h]
def LW(a0 a1 a2:Nat):A3:=⟨38,[(.tmp 4),(.tmp 5)],(sR (o1 4 (.mv nS)<|o1 5 (.mv z0) .done) (.seq (sR (om 9 1<|oL 10 9<|ob 11 .gtr 10 z0<|om 12 11<|gT 13 12 1<|oT 14 12 (.idx 1 13 z0)<|oT 15 12 (.ld none 14)<|oT 16 12 (.bin .eql 15 (.const (.int .u8 0)))<|gP 17 12 16 .done) (.cond 17 (sR (om 18 1<|o1 19 (.sl 1 18 (some z1) none none)<|oc 20 a0 [19]<|om 4 20<|o1 5 (.mv z0) .done) .ret) .skip)) (sR (om 22 1<|oc 23 a1 [22]<|om 21 23<|oe 24 21 0<|oe 25 21 1<|oe 26 21 2<|om 6 24<|om 7 25<|om 8 26 .done) (.seq (sR (om 27 8<|o1 28 (.un .not 27) .done) (.cond 28 (sR (o1 4 (.mv nS)<|o1 5 (.mv (kZ 200)) .done) .ret) .skip)) (sR (om 29 0<|o1 30 (.nilc 29)<|oj 31 0 30<|ol 32 31<|om 33 6<|om 34 7<|oc 35 a2 [32,33,34]<|oe 36 35 0<|oe 37 35 1<|om 4 36<|om 5 37 .done) .ret)))))⟩
set_option maxRecDepth 4000 in
def VS{P:Program}{f f1 f2 f3:FuncId}(hd:dec P f=some (LW f1 f2 f3))(h1:Fh AE 1 P f1)(h2:JJ P f2)(h3:Ln P f3):Jh P f:=by
 intro d s dv pv w L bt Tt r h c b hp hw;obtain⟨bp,rfl⟩:=hp.ptr;obtain⟨wa,wc,rfl⟩:=RSl.val hw;refine AK hd (Aca Z) ?_;show gwp P _ _ _ _ _;by_cases h0:0<b.length
 ·have g0:=Cp (b:=b) (i:=0) h0;by_cases e0:b[0]=0
  ·have hb0:=O0 (b:=b) Z h0 (n:=0) (by rw[g0,e0];rfl);(refine Ad<|Ak Z<|Ac Z<|Aa<|Ag<|Ad<|Ak Z<|AO Z<|Bb Z Z<|Af Z<|A4 Z (by omega)<|Ae Z<|Ak Z<|Ae Z<|A0 (sz:=1) (R:=AE) (by rfl) (by assumption) (by rfl) Z (by omega) ?_;rintro _ _ _ _ _ rfl;refine Ae Z<|Ai Z (Bp (by assumption) Z)<|Ae Z<|AT Z Z<|Ay Z Z<|Aa<|AF Z (by omega)<|Ad<|Ak Z ?_);refine F6 (R:=AE) (sz:=1) (n:=1) Z hw Z Z (by omega) (fun v' hv'=>?_);have hi:inB b=true:=by unfold inB;rw[g0,e0];simp[h0]
   have hF:BU s b=(b.drop 1,0):=by unfold BU;rw[if_pos hi]
   have hT:Dn b=0:=by unfold Dn;rw[if_pos hi]
   rw[hF,hT];refine CF Z (h1 hv' (by have:=hw.Bt;rw[Ads];omega)) (fun v d1 L1 _ ⟨e1,hh,e2,hg⟩=>?_);subst e1;subst e2;obtain⟨ga,gc,rfl⟩:=hg.val;(refine Ak Z<|Ac Z<|Aa<|Ao ?_);exact A9 [.slice ga (b.drop 1).length gc,vZ 0] ⟨Ar Z,Ar Z,trivial⟩ (d':=join d1 hh) (L':=tb bt Tt (pZ bp) r h c::L) Vs.freeze ⟨Le.Au _ _,_,L,s.tc,Z,Z,An.rsl (R:=AE) (sz:=1) hg AP (by omega) (Le.Au _ _) (Le.AZ _ _),hp.mono (Le.Au _ _),fun _=>Z⟩
  ·have hb0:=O0 (b:=b) Z h0 (n:=_) (congrArg UInt8.toNat g0);have hb1:b[0].toNat≠0:=fun q=>e0 (UInt8.toNat_inj.1 q);(refine Ad<|Ak Z<|Ac Z<|Aa<|Ag<|Ad<|Ak Z<|AO Z<|Bb Z Z<|Af Z<|A4 Z (by omega)<|Ae Z<|Ak Z<|Ae Z<|A0 (sz:=1) (R:=AE) (by rfl) (by assumption) (by rfl) Z (by omega) ?_;rintro _ _ _ _ _ rfl;refine Ae Z<|Ai Z (Bp (by assumption) Z)<|Ae Z<|AT Z Z<|Ay Z Z<|Aa<|Aw Z (by omega)<|Al<|Ad<|Ak Z ?_);have hi:inB b=false:=by unfold inB;rw[g0];simp[e0]
   cases hf:EK b with
   |true=>
    have hF:BU s b=(Chn.Bq s (EJ b) (DL b)).2:=by unfold BU;rw[hi,if_neg (by decide),hf,if_pos Z]
    have hT:Dn b=AM (DL b):=by unfold Dn;rw[hi,if_neg (by decide)]
    rw[hF,hT]
    have hc:=h2 hw
    rw[hf,if_pos Z,if_pos Z] at hc
    refine Br Z hc ?_
    (refine AU Z<|Ap Z Z<|Ap Z Z<|Ap Z Z<|Ac Z<|Ac Z<|Af Z<|Aa<|Ag<|Ad<|Af Z<|Bd Z<|Aa<|AS Z<|Al<|Ad<|Ah Z<|AJ Z<|Aj Z<|Ai Z (Aq 0 Z Z)<|Ac Z<|Ac Z ?_)
    refine Be [_] (h3 (k:=EJ b) (size:=DL b) hp) Z Z (fun v d2 L2 hl ⟨_,u,tc,e1,hu,hp2,htc⟩=>?_)
    subst e1
    rw[Agf] at htc
    (refine Ap Z Z<|Ap Z Z<|AQ<|Ac Z<|Aa<|Ao ?_)
    exact Cw Z Z (Acd _) ⟨hl,u,L2,tc,Z,Z,hu,hp2,htc⟩
   |false=>
    have hF:BU s b=([],200):=by unfold BU;rw[hi,if_neg (by decide),hf,if_neg (by decide)]
    rw[hF]
    have hc:=h2 hw
    rw[hf,if_neg (by decide),if_neg (by decide)] at hc
    refine Br Z hc ?_
    (refine AU Z<|Ap Z Z<|Ap Z Z<|Ap Z Z<|Ac Z<|Ac Z<|Af Z<|Aa<|Ag<|Ad<|Af Z<|Bd Z<|Aa<|A8 Z<|Ad<|Ak Z<|Ac Z<|Aa<|Ao ?_)
    exact Cw Z Z (Acd _) ⟨Le.refl _,_,L,s.tc,Z,Z,RSl.nil,hp,fun q=>absurd (show(200:Int)=0 from q) (by decide)⟩
 ·(refine Ad<|Ak Z<|Ac Z<|Aa<|Ag<|Ad<|Ak Z<|AO Z<|Bb Z Z<|Af Z<|A1 Z (by omega)<|Am Z<|Am Z<|Am Z<|Am Z<|Av Z Z<|Aa<|AS Z<|Al<|Ad<|Ak Z ?_);have hi:inB b=false:=by unfold inB;simp[h0]
  cases hf:EK b with
  |true=>
   have hF:BU s b=(Chn.Bq s (EJ b) (DL b)).2:=by unfold BU;rw[hi,if_neg (by decide),hf,if_pos Z]
   have hT:Dn b=AM (DL b):=by unfold Dn;rw[hi,if_neg (by decide)]
   rw[hF,hT]
   have hc:=h2 hw
   rw[hf,if_pos Z,if_pos Z] at hc
   refine Br Z hc ?_
   (refine AU Z<|Ap Z Z<|Ap Z Z<|Ap Z Z<|Ac Z<|Ac Z<|Af Z<|Aa<|Ag<|Ad<|Af Z<|Bd Z<|Aa<|AS Z<|Al<|Ad<|Ah Z<|AJ Z<|Aj Z<|Ai Z (Aq 0 Z Z)<|Ac Z<|Ac Z ?_)
   refine Be [_] (h3 (k:=EJ b) (size:=DL b) hp) Z Z (fun v d2 L2 hl ⟨_,u,tc,e1,hu,hp2,htc⟩=>?_)
   subst e1
   rw[Agf] at htc
   (refine Ap Z Z<|Ap Z Z<|AQ<|Ac Z<|Aa<|Ao ?_)
   exact Cw Z Z (Acd _) ⟨hl,u,L2,tc,Z,Z,hu,hp2,htc⟩
  |false=>
   have hF:BU s b=([],200):=by unfold BU;rw[hi,if_neg (by decide),hf,if_neg (by decide)]
   rw[hF]
   have hc:=h2 hw
   rw[hf,if_neg (by decide),if_neg (by decide)] at hc
   refine Br Z hc ?_
   (refine AU Z<|Ap Z Z<|Ap Z Z<|Ap Z Z<|Ac Z<|Ac Z<|Af Z<|Aa<|Ag<|Ad<|Af Z<|Bd Z<|Aa<|A8 Z<|Ad<|Ak Z<|Ac Z<|Aa<|Ao ?_)
   exact Cw Z Z (Acd _) ⟨Le.refl _,_,L,s.tc,Z,Z,RSl.nil,hp,fun q=>absurd (show(200:Int)=0 from q) (by decide)⟩
def Xl{s}(hG:Pgr.Good s){b}:0≤(B1 s b).2.1∧(B1 s b).2.1≤16384:=by
 obtain⟨h1, -⟩:=Ji (n:=AM b.length) (Tk.nil s);unfold B1;by_cases hz:(BB s [] (AM b.length)).2.2=0
 ·have ht:Chn.Bi s (AM b.length)=BB s [] (AM b.length):=by unfold Chn.Bi;rw[if_pos hz]
  rw[ht];simp only[hz,if_true];generalize (BB s [] (AM b.length)).2.1=l at h1;cases l with
  |nil=>show 0≤(0:Int)∧(0:Int)≤16384;decide
  |cons k l=>
   obtain⟨j,j1,j2, -⟩:=h1.was k (Acm ..)
   have:=hG.inn
   have:=hG.syn
   show 0≤k∧k≤16384
   omega
 ·have ht:(Chn.Bi s (AM b.length)).2.2≠0:=by unfold Chn.Bi;rw[if_neg hz];exact hz
  simp only[ht,if_false];show 0≤(0:Int)∧(0:Int)≤16384;decide
def CO.four{d cs}{n:Ax}(h:CO d cs n):∃ka kc va vc ia ic,cs=[.bool n.leaf,.slice ka n.keys.length kc,.slice va n.vals.length vc,.slice ia n.kids.length ic]:=by
 obtain⟨kv,vv,iv,rfl,a1,a2,a3⟩:=h;obtain⟨x1,x2,rfl⟩:=a1.val;obtain⟨y1,y2,rfl⟩:=a2.val;obtain⟨z1,z2,rfl⟩:=a3.val;exact⟨_,_,_,_,_,_,Z⟩
end Go.Gk.Tre
end
section
namespace Go.Gk.Tre
open Go Go.Gk Go.Gk.Node
end Go.Gk.Tre
end
section
namespace Go.Gk.Tre
open Go Go.Gk Go.Gk.Dev Go.Gk.Cch Go.Gk.Pgr Go.Gk.Chn Go.Gk.Node
section
attribute [local irreducible] gwp gws xwp
end
end Go.Gk.Tre
end
section
namespace Go.Gk.Tre
open Go Go.Gk Go.Gk.Dev Go.Gk.Cch Go.Gk.Pgr Go.Gk.Chn Go.Gk.Node
attribute [local irreducible] gwp gws xwp
abbrev tbD(bt:Nat)(Tt:TypeId)(pv:Value)(t:TD):Ab:=tb bt Tt pv t.root t.height t.count
def Sx{s}{k:Int}(h:(Bw s k).2=0):AV (Bw s k).1=true:=by
 unfold Bw at h⊢;by_cases hl:A6 s k
 ·rw[if_pos hl] at h⊢;simp only[GA] at h;cases hr:Node.Bq (s.bytes k) with
  |none=>rw[hr] at h;cases h
  |some n=>rw[Dz,hr];exact(Uy hr).1
 ·rw[if_neg hl] at h;cases h
def Jq{n:Ax}(h:AV n=true)(hl:n.leaf=false):n.kids.length=n.keys.length+1:=by
 simp only[AV,AX,hl,Acb,Ack,if_false,decide_eq_true_eq] at h;exact h.1.2.1.2
def Hn{n:Ax}(h:AV n=true)(hl:n.leaf=true):n.vals.length=n.keys.length:=by
 simp only[AV,AX,hl,Acb,if_true,decide_eq_true_eq] at h;exact h.1.2.1.1
end Go.Gk.Tre
end
section
namespace Go.Gk
open Go
section
section
variable {pr:Bool}{P:Program}
end
end
end Go.Gk
end
section
namespace Go.Gk.Tre
open Go Go.Gk Go.Gk.Dev Go.Gk.Cch Go.Gk.Pgr Go.Gk.Chn Go.Gk.Node
attribute [local irreducible] gwp gws xwp
section
section
variable {P:Program}{pan:List PanicEntry→AL}{Qn:Env→AL}{Ls L:List Ab}{ρ:Env}{d:Ab}{s:GS}{t:Nat}
def QF{f g}{first cap:Array Value}{args R vs A B}(hp:L.Perm (A++B))(ef:ev ρ f=.func (.func g) first cap)(ea:first.toList++args.map (ev ρ)++cap.toList=vs)
  (hc:AB P g vs d A (Ret R)) (h:∀v d' L',Le d d'→R v d' L'→gws P pan Qn s Ls (upd ρ t v) d' (L'++B)):gws P pan Qn (.op false ⟨some t,none,.callv f args⟩ s) Ls ρ d L:=
 BA d (A++B) (Vs.perm hp) (O5 A.length ef ea (by rw[Agc];exact hc) (fun v d' L' hl hr=>by rw[Agm];exact h v d' L' hl hr))
end
def Abc{P f}(h:HQ P f){d s dv pv L}(hp:PgT d s dv pv L):AB P f [pv] d L (Ret fun r d' L'=>L'=L∧Le d d'∧Mk d' s.mark s.frm pv r):=by
 obtain⟨n,hp⟩:=hp;have:=h hp;exact this
def Aby{P f}(h:Ot P f){d s s0 dv pv v L}(hp:PgT d s dv pv L)(hG:Pgr.Good s0)(hk:Pgr.AG s0 s)(hm:Mk d s0.mark s0.frm pv v):
  AB P f [pv,v] d L (Ret fun r d' L'=>d'=d∧r=vZ 0∧PgT d (s.back s0.mark) dv pv L'):=by
 obtain⟨n,hp⟩:=hp
 have hg:=hG.kd
 have hr:wr s0.mark.round=wr s.round:=by rw[show s0.mark.round=s0.round from Z,hk.round]
 refine AB.EF (h (m:=s0.mark) hp (by rw[show({s with tc:=n}:PD).frm=s.frm from Z,hk.frm];exact hm) (fun _=>⟨hk.og,fun i=>hg i⟩)) (fun r d' L' _ ⟨h1,h2,_⟩=>⟨d',L',Vs.refl _ _,?_⟩)
 obtain⟨h3,h4⟩:=h2 hr
 exact⟨h1,h3,n,h4⟩
end
def Ny(P:Program)(f:FuncId):Prop:=∀{d s dv pv L},Pg d s dv pv L→
 AB P f [pv] d L (Ret fun v d' L'=>Le d d'∧∃bt Tt,v=.tuple #[pZ bt,vZ 0]∧L'=tbD bt Tt pv ⟨s, -1,0,0⟩::L)
def TZ(a0:Nat):A3:=⟨10,[(.tmp 2),(.tmp 3)],(sR (o1 2 (.mv (.const (.pointer none)))<|o1 3 (.mv z0) .done) (.seq (sR (om 4 0<|oc 5 a0 [4]<|o1 6 (.eqp false 5 (.const (.pointer none))) .done) (.cond 6 (sR (o1 2 (.mv (.const (.pointer none)))<|o1 3 (.mv z1) .done) .ret) .skip)) (sR (om 7 0<|o1 8 (.bld [(0,1),(1,1),(2,1),(3,1)] [(.pointer none),(vZ 0),(vZ 0),(vZ 0)] [(0,7),(1,(kZ (-1)))])<|o1 9 (.box 8)<|om 2 9<|o1 3 (.mv z0) .done) .ret)))⟩
def Aac{P f f1}(hd:dec P f=some (TZ f1))(h1:HQ P f1):Ny P f:=by
 intro d s dv pv L hp;obtain⟨bp,rfl⟩:=hp.ptr;refine AK hd (Aca Z) ?_;show gwp P _ _ _ _ _;refine Ad<|Ah Z<|Ac Z<|Aa<|Ag<|Ad<|Ah Z<|Cz (h1 hp) Z (fun v d2 L2 hl2 ⟨e1,_,hm⟩=>?_);subst e1;have hmc:∃bm,v=pZ bm:=by obtain⟨bm,_,_,_,_,_,q,_⟩:=hm;exact⟨bm,q⟩
 obtain⟨bm,rfl⟩:=hmc;(refine BZ Z Z<|Aa<|AS Z<|Al<|Ad<|Ah Z<|Ch Z<|CC Z (fun _ _=>Ah Z<|Ac Z<|Aa<|Ao ?_));exact A9 [pZ _,vZ 0] ⟨Ar Z,Ar Z,trivial⟩ (Vs.refl _ _) ⟨hl2,_,_,Z,Z⟩
def CB(root height count:Int):Bool:=(decide (height=0)&& decide (root= -1)&& decide (count=0))||(decide (1≤height)&& decide (0≤root)&& decide (1≤count))
def Lu(P:Program)(f:FuncId):Prop:=∀{d s dv pv L}{root height count:Int},Pg d s dv pv L→ -1000000000≤root→root≤1000000000→ -1000000000≤height→height≤1000000000→ -1000000000≤count→count≤1000000000→
 AB P f [pv,vZ root,vZ height,vZ count] d L (Ret fun v d' L'=>Le d d'∧((CB root height count=true∧∃bt Tt,v=.tuple #[pZ bt,vZ 0]∧L'=tb bt Tt pv root height count::L)∨(CB root height count=false∧v=.tuple #[.pointer none,vZ 2]∧L'=L)))
def SE(a0:Nat):A3:=⟨46,[(.tmp 8),(.tmp 9)],(sR (o1 8 (.mv (.const (.pointer none)))<|o1 9 (.mv z0) .done) (sR (om 11 2<|ob 12 .eql 11 z0<|om 13 12<|gT 14 13 1<|oT 15 13 (.bin .eql 14 (kZ (-1)))<|gP 16 13 15<|om 17 16<|gT 18 17 3<|oT 19 17 (.bin .eql 18 z0)<|gP 20 17 19<|om 10 20 .done) (.seq (.block 0 (sR (om 22 0<|oc 23 a0 [22]<|o1 24 (.eqp false 23 (.const (.pointer none)))<|om 21 24 .done) (.cond 21 (sR (o1 8 (.mv (.const (.pointer none)))<|o1 9 (.mv z1) .done) .ret) (sR (om 26 10<|o1 27 (.un .not 26)<|om 28 27<|gT 29 28 2<|oT 30 28 (.bin .lss 29 z1)<|gT 31 28 30<|gF 32 31 1<|oF 33 31 (.bin .lss 32 z0)<|oT 34 28 (.pick 31 (.const (.bool true)) 33)<|gT 35 28 34<|gF 36 35 3<|oF 37 35 (.bin .lss 36 z1)<|oT 38 28 (.pick 35 (.const (.bool true)) 37)<|gP 39 28 38<|om 25 39 .done) (.cond 25 (sR (o1 8 (.mv (.const (.pointer none)))<|o1 9 (.mv z2) .done) .ret) .skip))))) (sR (om 40 0<|om 41 1<|om 42 2<|om 43 3<|o1 44 (.bld [(0,1),(1,1),(2,1),(3,1)] [(.pointer none),(vZ 0),(vZ 0),(vZ 0)] [(0,40),(1,41),(2,42),(3,43)])<|o1 45 (.box 44)<|om 8 45<|o1 9 (.mv z0) .done) .ret))))⟩
def XV{P f f1}(hd:dec P f=some (SE f1))(h1:HQ P f1):Lu P f:=by
 intro d s dv pv L root height count hp r0 r1 q0 q1 c0 c1;obtain⟨bp,rfl⟩:=hp.ptr;have hmk:∀{d1 v},Mk d1 s.mark s.frm (pZ bp) v→∃bm,v=pZ bm:=fun⟨bm,_,_,_,_,_,q,_⟩=>⟨bm,q⟩
 refine AK hd (Aca Z) ?_;show gwp P _ _ _ _ _;by_cases e1:height=0
 ·by_cases e2:root= -1
  ·by_cases e3:count=0
   ·refine Ad<|Ah Z<|Ac Z<|Aa<|Ad<|Ac Z<|AT Z Z<|Af Z<|A4 Z (by omega)<|Ae Z<|Ac Z<|Ae Z<|AT Z Z<|Ay Z Z<|Af Z<|A4 Z (by omega)<|Ae Z<|Ac Z<|Ae Z<|AT Z Z<|Ay Z Z<|Af Z<|Aa<|Ag<|Az<|Ad<|Ah Z<|Cz (h1 hp) Z (fun v d2 L2 hl2 ⟨e4,_,hm⟩=>?_);subst e4;obtain⟨bm,rfl⟩:=hmk hm;(refine BZ Z Z<|Af Z<|Aa<|AS Z<|Ad<|Af Z<|Bd Z<|Af Z ?_);first|refine YY rfl (fun h9=>?_) (fun h9=>?_)|refine Xi rfl (fun h9=>?_) (fun h9=>?_)
    ·exact absurd (show decide (count=0)=false by simpa using h9) (by simp[e3])
    ·clear h9;(refine Am Z<|Am Z<|Am Z<|Bo Z<|Bo Z<|Am Z<|Am Z<|Bo Z<|Bo Z<|Am Z<|Av Z Z<|Af Z<|Aa<|AS Z<|Al<|Ad<|Ah Z<|Ac Z<|Ac Z<|Ac Z<|Ch Z<|CC Z (fun _ _=>Ah Z<|Ac Z<|Aa<|Ao ?_));exact A9 [pZ _,vZ 0] ⟨Ar Z,Ar Z,trivial⟩ (Vs.refl _ _) ⟨hl2,.inl ⟨by simp[CB,e1,e2,e3],_,_,Z,Z⟩⟩
   ·refine Ad<|Ah Z<|Ac Z<|Aa<|Ad<|Ac Z<|AT Z Z<|Af Z<|A4 Z (by omega)<|Ae Z<|Ac Z<|Ae Z<|AT Z Z<|Ay Z Z<|Af Z<|A4 Z (by omega)<|Ae Z<|Ac Z<|Ae Z<|AT Z Z<|Ay Z Z<|Af Z<|Aa<|Ag<|Az<|Ad<|Ah Z<|Cz (h1 hp) Z (fun v d2 L2 hl2 ⟨e4,_,hm⟩=>?_);subst e4;obtain⟨bm,rfl⟩:=hmk hm;(refine BZ Z Z<|Af Z<|Aa<|AS Z<|Ad<|Af Z<|Bd Z<|Af Z ?_);first|refine YY rfl (fun h9=>?_) (fun h9=>?_)|refine Xi rfl (fun h9=>?_) (fun h9=>?_)
    ·clear h9;(refine Ae Z<|Ac Z<|Ae Z<|AA Z Z<|Ae Z<|Af Z<|A4 Z (by omega)<|Am Z<|Am Z<|Ae Z<|Ay Z Z<|Ae Z<|Af Z<|Am Z<|Am Z<|Ae Z<|Ay Z Z<|Ay Z Z<|Af Z<|Aa<|A8 Z<|Ad<|Ah Z<|Ac Z<|Aa<|Ao ?_);exact A9 [.pointer none,vZ 2] ⟨Ar Z,Ar Z,trivial⟩ (Vs.refl _ _) ⟨hl2,.inr ⟨by simp[CB,e1,e2,e3],Z,Z⟩⟩
    ·exact absurd (show decide (count=0)=true by simpa using h9) (by simp[e3])
  ·refine Ad<|Ah Z<|Ac Z<|Aa<|Ad<|Ac Z<|AT Z Z<|Af Z<|A4 Z (by omega)<|Ae Z<|Ac Z<|Ae Z<|AT Z Z<|Ay Z Z<|Af Z<|A1 Z (by omega)<|Am Z<|Am Z<|Av Z Z<|Af Z<|Aa<|Ag<|Az<|Ad<|Ah Z<|Cz (h1 hp) Z (fun v d2 L2 hl2 ⟨e4,_,hm⟩=>?_);subst e4;obtain⟨bm,rfl⟩:=hmk hm;(refine BZ Z Z<|Af Z<|Aa<|AS Z<|Ad<|Af Z<|Bd Z<|Af Z<|Ae Z<|Ac Z<|Ae Z<|AA Z Z<|Ae Z<|Af Z<|A4 Z (by omega)<|Am Z<|Am Z<|Ae Z<|Ay Z Z<|Ae Z<|Af Z<|Am Z<|Am Z<|Ae Z<|Ay Z Z<|Ay Z Z<|Af Z<|Aa<|A8 Z<|Ad<|Ah Z<|Ac Z<|Aa<|Ao ?_);exact A9 [.pointer none,vZ 2] ⟨Ar Z,Ar Z,trivial⟩ (Vs.refl _ _) ⟨hl2,.inr ⟨by simp[CB,e1,e2],Z,Z⟩⟩
 ·by_cases e2:height<1
  ·refine Ad<|Ah Z<|Ac Z<|Aa<|Ad<|Ac Z<|AT Z Z<|Af Z<|A1 Z (by omega)<|Am Z<|Am Z<|Av Z Z<|Af Z<|Am Z<|Am Z<|Av Z Z<|Af Z<|Aa<|Ag<|Az<|Ad<|Ah Z<|Cz (h1 hp) Z (fun v d2 L2 hl2 ⟨e4,_,hm⟩=>?_);subst e4;obtain⟨bm,rfl⟩:=hmk hm;(refine BZ Z Z<|Af Z<|Aa<|AS Z<|Ad<|Af Z<|Bd Z<|Af Z<|Ae Z<|Ac Z<|Ae Z<|AA Z Z<|Ae Z<|Af Z<|A4 Z (by omega)<|Am Z<|Am Z<|Ae Z<|Ay Z Z<|Ae Z<|Af Z<|Am Z<|Am Z<|Ae Z<|Ay Z Z<|Ay Z Z<|Af Z<|Aa<|A8 Z<|Ad<|Ah Z<|Ac Z<|Aa<|Ao ?_);exact A9 [.pointer none,vZ 2] ⟨Ar Z,Ar Z,trivial⟩ (Vs.refl _ _) ⟨hl2,.inr ⟨by simp[CB,e1];omega,Z,Z⟩⟩
  ·by_cases e3:root<0
   ·refine Ad<|Ah Z<|Ac Z<|Aa<|Ad<|Ac Z<|AT Z Z<|Af Z<|A1 Z (by omega)<|Am Z<|Am Z<|Av Z Z<|Af Z<|Am Z<|Am Z<|Av Z Z<|Af Z<|Aa<|Ag<|Az<|Ad<|Ah Z<|Cz (h1 hp) Z (fun v d2 L2 hl2 ⟨e4,_,hm⟩=>?_);subst e4;obtain⟨bm,rfl⟩:=hmk hm;(refine BZ Z Z<|Af Z<|Aa<|AS Z<|Ad<|Af Z<|Bd Z<|Af Z<|Ae Z<|Ac Z<|Ae Z<|AA Z Z<|Ae Z<|Af Z<|A1 Z (by omega)<|Ae Z<|Ac Z<|Ae Z<|AA Z Z<|Ae Z<|Av Z Z<|Ae Z<|Af Z<|A4 Z (by omega)<|Am Z<|Am Z<|Ae Z<|Ay Z Z<|Ay Z Z<|Af Z<|Aa<|A8 Z<|Ad<|Ah Z<|Ac Z<|Aa<|Ao ?_);exact A9 [.pointer none,vZ 2] ⟨Ar Z,Ar Z,trivial⟩ (Vs.refl _ _) ⟨hl2,.inr ⟨by simp[CB,e1];omega,Z,Z⟩⟩
   ·by_cases e5:count<1
    ·refine Ad<|Ah Z<|Ac Z<|Aa<|Ad<|Ac Z<|AT Z Z<|Af Z<|A1 Z (by omega)<|Am Z<|Am Z<|Av Z Z<|Af Z<|Am Z<|Am Z<|Av Z Z<|Af Z<|Aa<|Ag<|Az<|Ad<|Ah Z<|Cz (h1 hp) Z (fun v d2 L2 hl2 ⟨e4,_,hm⟩=>?_);subst e4;obtain⟨bm,rfl⟩:=hmk hm;(refine BZ Z Z<|Af Z<|Aa<|AS Z<|Ad<|Af Z<|Bd Z<|Af Z<|Ae Z<|Ac Z<|Ae Z<|AA Z Z<|Ae Z<|Af Z<|A1 Z (by omega)<|Ae Z<|Ac Z<|Ae Z<|AA Z Z<|Ae Z<|Av Z Z<|Ae Z<|Af Z<|A1 Z (by omega)<|Ae Z<|Ac Z<|Ae Z<|AA Z Z<|Ae Z<|Av Z Z<|Ay Z Z<|Af Z<|Aa<|AF Z (by omega)<|Ad<|Ah Z<|Ac Z<|Aa<|Ao ?_);exact A9 [.pointer none,vZ 2] ⟨Ar Z,Ar Z,trivial⟩ (Vs.refl _ _) ⟨hl2,.inr ⟨by simp[CB,e1];omega,Z,Z⟩⟩
    ·refine Ad<|Ah Z<|Ac Z<|Aa<|Ad<|Ac Z<|AT Z Z<|Af Z<|A1 Z (by omega)<|Am Z<|Am Z<|Av Z Z<|Af Z<|Am Z<|Am Z<|Av Z Z<|Af Z<|Aa<|Ag<|Az<|Ad<|Ah Z<|Cz (h1 hp) Z (fun v d2 L2 hl2 ⟨e4,_,hm⟩=>?_);subst e4;obtain⟨bm,rfl⟩:=hmk hm;(refine BZ Z Z<|Af Z<|Aa<|AS Z<|Ad<|Af Z<|Bd Z<|Af Z<|Ae Z<|Ac Z<|Ae Z<|AA Z Z<|Ae Z<|Af Z<|A1 Z (by omega)<|Ae Z<|Ac Z<|Ae Z<|AA Z Z<|Ae Z<|Av Z Z<|Ae Z<|Af Z<|A1 Z (by omega)<|Ae Z<|Ac Z<|Ae Z<|AA Z Z<|Ae Z<|Av Z Z<|Ay Z Z<|Af Z<|Aa<|Aw Z (by omega)<|Al<|Ad<|Ah Z<|Ac Z<|Ac Z<|Ac Z<|Ch Z<|CC Z (fun _ _=>Ah Z<|Ac Z<|Aa<|Ao ?_));exact A9 [pZ _,vZ 0] ⟨Ar Z,Ar Z,trivial⟩ (Vs.refl _ _) ⟨hl2,.inl ⟨by simp[CB,e1];omega,_,_,Z,Z⟩⟩
end Go.Gk.Tre
end
section
namespace Go.Gk.Tre
open Go Go.Gk Go.Gk.Dev Go.Gk.Cch Go.Gk.Pgr Go.Gk.Chn Go.Gk.Node
variable{n:Ax}
structure Fit (n:Ax) (N:Nat):Prop where
 k:n.keys.length≤N
 v:n.vals.length≤N
 i:n.kids.length≤N
 kl:∀x∈n.keys,x.length≤1000
 vl:∀x∈n.vals,x.length≤1000
def Tp{l:List (List UInt8)}(h:∀x∈l,x.length≤1000)(j:Nat):(l.getD j []).length≤1000:=by
 rw[Acg];cases q:l[j]? with
 |none=>simp
 |some x=>exact h x (Aen q)
def MU(hk:∀x∈n.keys,x.length≤1000)(hv:∀x∈n.vals,x.length≤1000):∀k,Bx n k≤2002*k
 |0=>by simp[Bx]
 |k+1=>by
  have h1:=MU hk hv k;have h2:DW n k≤1000:=Tp hk k;have h3:FA n k≤1000:=Tp hv k;simp only[Bx,Ec];split<;>omega
def Fit.small{N:Nat}(h:Fit n N)(hN:N≤100000):Small n:=by
 have h1:=MU h.kl h.vl n.keys.length;have h2:=h.k;have h3:=h.i;have h4:=h.v;refine⟨?_,by omega,by omega,by omega⟩
 unfold Bc;split<;>omega
def IH{n:Ax}:∀k,k≤Bx n k
 |0=>Acj _
 |k+1=>by
  have:=IH (n:=n) k;simp only[Bx,Ec];split<;>omega
def Ga(h:AV n=true):Fit n 257∧∀x∈n.keys,x.length≤64:=by
 have hs:AX n=true:=by simp only[AV,Acb] at h;exact h.1
 have hz:Bc n≤256:=by simp only[AV,Acb,decide_eq_true_eq] at h;exact h.2
 have hk:n.keys.length≤254:=by
  have:=IH (n:=n) n.keys.length;unfold Bc at hz;omega
 have hkl:∀x∈n.keys,x.length≤64:=fun x hx=>by
  obtain⟨k,hk,rfl⟩:=Aej hx;simp only[AX,Acb] at hs;exact RO hs.1 hk
 refine⟨⟨by omega,?_,?_,fun x hx=>by have:=hkl x hx;omega,fun x hx=>?_⟩,hkl⟩
 ·simp only[AX,Acb] at hs;cases hl:n.leaf with
  |true=>
   have h2:=hs.2
   simp only[hl,if_true,Acb,decide_eq_true_eq] at h2
   omega
  |false=>
   have h2:=hs.2
   simp only[hl,Ack,if_false,Acb,decide_eq_true_eq] at h2
   omega
 ·simp only[AX,Acb] at hs;cases hl:n.leaf with
  |true=>
   have h2:=hs.2
   simp only[hl,if_true,Acb,decide_eq_true_eq] at h2
   omega
  |false=>
   have h2:=hs.2
   simp only[hl,Ack,if_false,Acb,decide_eq_true_eq] at h2
   omega
 ·simp only[AX,Acb] at hs;cases hl:n.leaf with
  |true=>
   have h2:=hs.2
   simp only[hl,if_true,Acb,decide_eq_true_eq,Acv] at h2
   have:=h2.2 x hx
   simp only[GZ,decide_eq_true_eq] at this
   omega
  |false=>
   have h2:=hs.2
   simp only[hl,Ack,if_false,Acb,decide_eq_true_eq] at h2
   have:n.vals=[]:=Acl h2.1.1
   rw[this] at hx;cases hx
end Go.Gk.Tre
end
section
namespace Go.Gk.Tre
open Go Go.Gk Go.Gk.Dev Go.Gk.Cch Go.Gk.Pgr Go.Gk.Chn Go.Gk.Node
attribute [local irreducible] gwp gws xwp
def _root_.Go.Gk.Vs.out{d d'}(A B:List Ab){M M'}(p:M.Perm M')(v:Vs d M' d' []):Vs d (A++(M++B)) d' (A++B):=by
 have p1:(A++(M++B)).Perm (M'++(A++B)):=by
  refine(List.perm_append_comm_assoc A M B).trans ?_;exact Aer _ p
 exact(Vs.perm p1).trans (Vs.app v (A++B))
def RV{d cs}{n:Ax}{hk hv hi}(o:Fl d cs n hk hv hi):∃d2,Le d d2∧Vs d [hk,hv,hi] d2 []∧CO d2 cs n:=by
 obtain⟨d2,h1,h2,h3⟩:=Vs.Gp d [hk,hv,hi];exact⟨d2,h2,h1,o.Uh h2 (h3 _ (by simp)) (h3 _ (by simp)) (h3 _ (by simp))⟩
end Go.Gk.Tre
end
section
namespace Go.Gk.Tre
open Go Go.Gk Go.Gk.Dev Go.Gk.Cch Go.Gk.Pgr Go.Gk.Chn Go.Gk.Node
variable{n:Ax}
section
def ET{s}(h:Pgr.Good s):Pgr.Good s.AR.1:=by
 unfold PD.AR;cases q:CH 0 s.kinds with
 |none=>exact h
 |some i=>
  obtain⟨a,b,c,e,g⟩:=h.kds (ks:=s.kinds.set i 1) Z (by decide) (by decide)
  exact⟨a,b,c,e,g⟩
def H0{s}(h:Pgr.Good s)(k:Int)(b:Sec):Pgr.Good (s.put k b).1:=by
 unfold PD.put;split
 ·split
  ·exact⟨h.one,h.len,h.inn,h.syn,h.kd⟩
  ·exact h
 ·exact h
def Iv{s}(h:Pgr.Good s)(k:Int):Pgr.Good (s.drop k).1:=by
 unfold PD.drop;split
 ·exact h.kds Z (by decide) (by decide)
 ·split
  ·exact h.kds Z (by decide) (by decide)
  ·exact h
def K7{s}(h:Pgr.Good s){k:Int}:Pgr.Good (A5 s k n).1:=by
 unfold A5;split
 ·split
  ·exact H0 h _ _
  ·split
   ·exact ET h
   ·split
    ·split
     ·exact Iv (ET h) _
     ·exact H0 (Iv (ET h) _) _ _
    ·exact H0 (ET h) _ _
 ·exact h
def QE{key}:(findD n key).1≤n.keys.length:=by
 have h:low n key≤n.keys.length:=(List.takeWhile_sublist _).length_le;unfold findD;split
 ·exact h
 ·have:=(List.takeWhile_sublist (fun k=>decide (k=key)) (l:=n.keys.drop (low n key))).length_le;rw[Ads] at this;show low n key+_≤_;omega
def XY{key}(h:(findD n key).2=true):(findD n key).1<n.keys.length:=by
 unfold findD at h⊢;split
 ·rename_i hl;rw[if_pos hl] at h;simp only[Acb,decide_eq_true_eq] at h;exact h.1
 ·rename_i hl;rw[if_neg hl] at h;cases h
section
variable {s:PD}{k:Int}{key cell:List UInt8}{x:Nat}
def GX{h:Int}(e:(AN s k h).2=0):AV (AN s k h).1=true∧(AN s k h).1.leaf=decide (h=1):=by
 unfold AN at e⊢;by_cases q:(Bw s k).2=0∧(Bw s k).1.leaf≠decide (h=1)
 ·rw[if_pos q] at e;exact absurd (show(200:Int)=0 from e) (by decide)
 ·rw[if_neg q] at e;exact⟨Sx e,Classical.byContradiction fun w=>q ⟨e,w⟩⟩
def ZK(h:(AN s k ((0+1:Nat):Int)).2=0)(hn:(AN s k ((0+1:Nat):Int)).1=n){i:Nat}(hf:findD n key=(i,true)):
  Dq s k key cell (0+1)=if (Cs s (n.vals.getD i [])).2≠0 then((Cs s (n.vals.getD i [])).1,C9,false,(Cs s (n.vals.getD i [])).2) else
   ((BG (Cs s (n.vals.getD i [])).1 k {n with vals:=n.vals.set i cell}).1,(BG (Cs s (n.vals.getD i [])).1 k {n with vals:=n.vals.set i cell}).2.1,false,(BG (Cs s (n.vals.getD i [])).1 k {n with vals:=n.vals.set i cell}).2.2):=by
 subst hn
 rw[Dq]
 refine(if_neg (fun q=>q h)).trans ((if_pos Z).trans ((if_pos (by rw[hf])).trans ?_))
 rw[hf]
def Zq(h:(AN s k ((0+1:Nat):Int)).2=0)(hn:(AN s k ((0+1:Nat):Int)).1=n){i:Nat}(hf:findD n key=(i,false)):
  Dq s k key cell (0+1)=((BG s k {n with keys:=Fi n.keys i key,vals:=Fi n.vals i cell}).1,(BG s k {n with keys:=Fi n.keys i key,vals:=Fi n.vals i cell}).2.1,true,(BG s k {n with keys:=Fi n.keys i key,vals:=Fi n.vals i cell}).2.2):=by
 subst hn
 rw[Dq]
 refine(if_neg (fun q=>q h)).trans ((if_pos Z).trans ((if_neg (by rw[hf];exact Ahr)).trans ?_))
 rw[hf]
def UL(h:(AN s k ((x+1+1:Nat):Int)).2=0)(hn:(AN s k ((x+1+1:Nat):Int)).1=n){i:Nat}{b:Bool}(hf:findD n key=(i,b)):
  Dq s k key cell (x+1+1)=if (Dq s (n.kids.getD i 0) key cell (x+1)).2.2.2≠0 then((Dq s (n.kids.getD i 0) key cell (x+1)).1,C9,false,(Dq s (n.kids.getD i 0) key cell (x+1)).2.2.2) else
   ((DY (Dq s (n.kids.getD i 0) key cell (x+1)).1 k n i (Dq s (n.kids.getD i 0) key cell (x+1)).2.1).1,(DY (Dq s (n.kids.getD i 0) key cell (x+1)).1 k n i (Dq s (n.kids.getD i 0) key cell (x+1)).2.1).2.1,(Dq s (n.kids.getD i 0) key cell (x+1)).2.2.1,(DY (Dq s (n.kids.getD i 0) key cell (x+1)).1 k n i (Dq s (n.kids.getD i 0) key cell (x+1)).2.1).2.2):=by
 subst hn
 rw[Dq]
 refine(if_neg (fun q=>q h)).trans ((if_neg (Aef _)).trans ?_)
 rw[hf]
def ZM(h:(AN s k ((0+1:Nat):Int)).2=0)(hn:(AN s k ((0+1:Nat):Int)).1=n){i:Nat}(hf:findD n key=(i,true)):
  DX s k key (0+1)=if (Cs s (n.vals.getD i [])).2≠0 then((Cs s (n.vals.getD i [])).1,C9,false,(Cs s (n.vals.getD i [])).2) else
   ((BG (Cs s (n.vals.getD i [])).1 k {n with keys:=n.keys.eraseIdx i,vals:=n.vals.eraseIdx i}).1,(BG (Cs s (n.vals.getD i [])).1 k {n with keys:=n.keys.eraseIdx i,vals:=n.vals.eraseIdx i}).2.1,true,(BG (Cs s (n.vals.getD i [])).1 k {n with keys:=n.keys.eraseIdx i,vals:=n.vals.eraseIdx i}).2.2):=by
 subst hn
 rw[DX]
 refine(if_neg (fun q=>q h)).trans ((if_pos Z).trans ((if_pos (by rw[hf])).trans ?_))
 rw[hf]
def ZU(h:(AN s k ((0+1:Nat):Int)).2=0)(hn:(AN s k ((0+1:Nat):Int)).1=n){i:Nat}(hf:findD n key=(i,false)):DX s k key (0+1)=(s,⟨k, -1,[],256⟩,false,0):=by
 subst hn;rw[DX];exact(if_neg (fun q=>q h)).trans ((if_pos Z).trans (if_neg (by rw[hf];exact Ahr)))
def Uk(h:(AN s k ((x+1+1:Nat):Int)).2=0)(hn:(AN s k ((x+1+1:Nat):Int)).1=n){i:Nat}{b:Bool}(hf:findD n key=(i,b)){u:PD×MdD×Bool×Int}(hu:DX s (n.kids.getD i 0) key (x+1)=u):
  DX s k key (x+1+1)=if u.2.2.2≠0∨u.2.2.1=false then(u.1,⟨k, -1,[],256⟩,u.2.2.1,u.2.2.2) else
   if u.2.1.other<0∧u.2.1.size<80 then((FD u.1 k {n with kids:=n.kids.set i u.2.1.page} i).1,(FD u.1 k {n with kids:=n.kids.set i u.2.1.page} i).2.1,true,(FD u.1 k {n with kids:=n.kids.set i u.2.1.page} i).2.2)
   else((DY u.1 k n i u.2.1).1,(DY u.1 k n i u.2.1).2.1,true,(DY u.1 k n i u.2.1).2.2):=by
 subst hn;subst hu
 rw[DX]
 refine(if_neg (fun q=>q h)).trans ((if_neg (Aef _)).trans ?_)
 rw[hf]
 by_cases q:(DX s ((AN s k ((x+1+1:Nat):Int)).1.kids.getD i 0) key (x+1)).2.2.2≠0∨(DX s ((AN s k ((x+1+1:Nat):Int)).1.kids.getD i 0) key (x+1)).2.2.1=false
 ·rw[if_pos q,if_pos q]
 ·rw[if_neg q,if_neg q]
  split<;>rfl
end
end
end Go.Gk.Tre
end
section
namespace Go.Gk.Tre
open Go Go.Gk Go.Gk.Dev Go.Gk.Cch Go.Gk.Pgr Go.Gk.Chn Go.Gk.Node
attribute [local irreducible] gwp gws xwp
variable{n:Ax}
section
def LH{s}{n:Nat}{c}:BU {s with tc:=n} c=BU s c:=by unfold BU;rw[show Chn.Bq {s with tc:=n} (EJ c) (DL c)=Chn.Bq s (EJ c) (DL c) from XS]
def Aa6{P f}(h:Jh P f){d s}{n:Nat}{dv pv w L}{bt:Nat}{Tt}{r h' c:Int}{b}(hp:Pg d {s with tc:=n} dv pv L)(hw:AH d w b):
  AB P f [pZ bt,w] d (tb bt Tt pv r h' c::L) (Ret fun v d' L'=>Le d d'∧∃u L2 tc,v=.tuple #[u,vZ (BU s b).2]∧L'=tb bt Tt pv r h' c::L2∧AH d' u (BU s b).1∧Pg d' {s with tc:=tc} dv pv L2∧((BU s b).2=0→tc=n+Dn b)):=by
 refine AB.EF (h hp hw) (fun r d' L' _ ⟨q0,u,L2,tc,q1,q2,q3,q4,q5⟩=>⟨d',L',Vs.refl _ _,?_⟩)
 rw[LH] at q1 q3 q5
 exact⟨q0,u,L2,tc,q1,q2,q3,q4,q5⟩
def Dk(t:TD)(key:List UInt8):List UInt8×Bool×Int:=if Cq key≠0 then([],false,Cq key) else ED t.s key t.root t.height
def NF(P:Program)(f:FuncId):Prop:=∀{d}{t:TD}{dv pv kv L}{bt:Nat}{Tt key},Pg d t.s dv pv L→AH d kv key→t.height≤1000000→
 AB P f [pZ bt,kv] d (tbD bt Tt pv t::L) (Ret fun v d' L'=>Le d d'∧∃u L2 tc,v=.tuple #[u,.bool (Dk t key).2.1,vZ (Dk t key).2.2]∧AH d' u (Dk t key).1∧L'=tbD bt Tt pv t::L2∧Pg d' {t.s with tc:=tc} dv pv L2∧
  (Cq key=0→(Dk t key).2.2=0→tc=t.s.tc+GO t.s key t.root t.height))
section
variable {s:PD}{k:Int}{key:List UInt8}{x:Nat}
def XH(h:(AN s k ((x+1:Nat):Int)).2≠0):ED s key k (x+1)=([],false,(AN s k ((x+1:Nat):Int)).2):=by
 rw[ED];exact if_pos h
def Ty(h:(AN s k ((0+1:Nat):Int)).2=0)(hn:(AN s k ((0+1:Nat):Int)).1=n){i:Nat}(hf:findD n key=(i,true)):
  ED s key k (0+1)=((BU s (n.vals.getD i [])).1,decide ((BU s (n.vals.getD i [])).2=0),(BU s (n.vals.getD i [])).2)∧GO s key k (0+1)=1+Dn (n.vals.getD i []):=by
 subst hn
 rw[ED,GO]
 refine⟨(if_neg (fun q=>q h)).trans ((if_pos Z).trans ((if_pos (by rw[hf])).trans ?_)),(if_pos Z).trans ((if_pos (by rw[hf])).trans ?_)⟩
 ·rw[hf]
 ·rw[hf]
def TB(h:(AN s k ((0+1:Nat):Int)).2=0)(hn:(AN s k ((0+1:Nat):Int)).1=n){i:Nat}(hf:findD n key=(i,false)):ED s key k (0+1)=([],false,0)∧GO s key k (0+1)=1:=by
 subst hn;rw[ED,GO];exact⟨(if_neg (fun q=>q h)).trans ((if_pos Z).trans (if_neg (by rw[hf];exact Ahr))),(if_pos Z).trans (if_neg (by rw[hf];exact Ahr))⟩
def On(h:(AN s k ((x+1+1:Nat):Int)).2=0)(hn:(AN s k ((x+1+1:Nat):Int)).1=n){i:Nat}{b:Bool}(hf:findD n key=(i,b)):
  ED s key k (x+1+1)=ED s key (n.kids.getD i 0) (x+1)∧GO s key k (x+1+1)=1+GO s key (n.kids.getD i 0) (x+1):=by
 subst hn
 rw[ED,GO]
 refine⟨(if_neg (fun q=>q h)).trans ((if_neg (Aef _)).trans ?_),(if_neg (Aef _)).trans ?_⟩
 ·rw[hf]
 ·rw[hf]
end
def Ii(a0 a1 a2 a3:Nat):A3:=⟨71,[(.tmp 4),(.tmp 5),(.tmp 6)],(sR (o1 4 (.mv nS)<|o1 5 (.mv (.const (.bool false)))<|o1 6 (.mv z0) .done) (.seq (sR (om 14 0<|om 15 1<|oc 16 a0 [14,15]<|om 7 16 .done) (sR (om 17 7<|ob 18 .neq 17 z0 .done) (.cond 18 (sR (om 19 7<|o1 4 (.mv nS)<|o1 5 (.mv (.const (.bool false)))<|om 6 19 .done) .ret) .skip))) (sR (om 20 0<|o1 21 (.nilc 20)<|oj 22 1 21<|ol 23 22<|om 8 23 .done) (.seq (sR (om 24 0<|o1 25 (.nilc 24)<|oj 26 2 25<|ol 27 26<|om 9 27 .done) (.block 0 (.loop (.seq (sR (om 28 9<|ob 29 .gtr 28 z0 .done) (.cond 29 .skip (.exit 0))) (.seq (.block 1 (sR (om 33 0<|om 34 8<|om 35 9<|oc 36 a1 [33,34,35]<|om 32 36<|oe 37 32 0<|oe 38 32 1<|o1 10 (.alo (.agg #[(.bool false),nV,nV,nV]))<|o0 (.st 4 10 37)<|om 11 38 .done) (.seq (sR (om 39 11<|ob 40 .neq 39 z0 .done) (.cond 40 (sR (om 41 11<|o1 4 (.mv nS)<|o1 5 (.mv (.const (.bool false)))<|om 6 41 .done) .ret) .skip)) (sR (o1 43 (.ld (some 4) 10)<|om 44 1<|oc 45 a2 [43,44]<|om 42 45<|oe 46 42 0<|oe 47 42 1<|om 12 46<|om 13 47 .done) (.seq (sR (om 48 9<|ob 49 .gtr 48 z1 .done) (.cond 49 (sR (oj 50 3 10<|ol 51 50<|om 52 12<|oI 53 1 51 52<|ol 54 53<|om 8 54 .done) (.exit 1)) .skip)) (.seq (sR (om 55 13<|o1 56 (.un .not 55) .done) (.cond 56 (sR (o1 4 (.mv nS)<|o1 5 (.mv (.const (.bool false)))<|o1 6 (.mv z0) .done) .ret) .skip)) (sR (om 58 0<|oj 59 2 10<|ol 60 59<|om 61 12<|oI 62 1 60 61<|ol 63 62<|oc 64 a3 [58,63]<|om 57 64<|oe 65 57 0<|oe 66 57 1<|om 4 65<|om 11 66 .done) (sR (om 67 4<|om 68 11<|ob 69 .eql 68 z0<|om 70 11<|om 4 67<|om 5 69<|om 6 70 .done) .ret)))))))) (rG (om 30 9<|ob 31 .sub 30 z1<|om 9 31 .done))))))) (sR (o1 4 (.mv nS)<|o1 5 (.mv (.const (.bool false)))<|o1 6 (.mv z0) .done) .ret)))))⟩
set_option maxRecDepth 4000 in
set_option maxHeartbeats 4000000 in
def Z8{P f f1 f2 f3 f4}(hd:dec P f=some (Ii f1 f2 f3 f4))(h1:NN P f1)(h2:My P f2)(h3:Nx P f3 findD)(h4:Jh P f4):NF P f:=by
 intro d t dv pv kv L bt Tt key hp hk hh;obtain⟨bp,rfl⟩:=hp.ptr;obtain⟨ka,kc,rfl⟩:=hk.val;obtain⟨s,root,height,count⟩:=t;simp only at hp hh;refine AK hd (Aca Z) ?_;show gwp P _ _ _ _ _;refine Ad<|Ak Z<|Af Z<|Ac Z<|Aa<|Ag<|Ad<|Ah Z<|Ak Z<|Be [] (h1 (L:=L) hk) Z Z (fun v d2 L2 _ ⟨e1,e2,e3⟩=>?_);subst e1;subst e2;subst e3;by_cases hw:Cq key=0
 ·have hF:Dk ⟨s,root,height,count⟩ key=ED s key root height:=by unfold Dk;rw[if_neg (fun q=>q hw)]
  rw[hF,hw];show gws P _ _ _ _ _ _ _;refine Ac Z<|Aa<|Ad<|Ac Z<|AW Z Z<|Aa<|Aw Z (by omega)<|Al<|Ad<|Ah Z<|AJ Z<|Aj Z<|Ai Z (Aq 0 Z Z)<|Ac Z<|Aa<|Ag<|Ad<|Ah Z<|AJ Z<|Aj Z<|Ai Z (Aq 0 Z Z)<|Ac Z<|Aa<|Az<|BM (α:=Nat×Int) (fun x=>[(0,pZ bt),(1,.slice ka key.length kc),(8,vZ x.2),(9,vZ x.1)])
   (fun x d' L'=>Le d2 d'∧x.1≤height∧ED s key root height=ED s key x.2 x.1∧∃J L2 tc,L'=J++tb bt Tt (pZ bp) root height count::L2∧Pg d' {s with tc:=tc} dv (pZ bp) L2∧tc+GO s key x.2 x.1=s.tc+GO s key root height)
   (fun x=>x.1) (height,root) ⟨Z,Z,Z,Z,trivial⟩ ⟨Le.refl _,Acj _,Z,[],L,s.tc,Z,hp,Z⟩ ?_
  rintro⟨h,page⟩ ρ d' L' ⟨hle,hhh,hgt,J,L3,tc,rfl,hp3,htt⟩;simp only at hhh hgt hp3 htt⊢;by_cases hz:h=0
  ·subst hz;rw[hgt,ED];rw[GO] at htt;(refine Ag<|Ad<|Ac Z<|Bb Z Z<|Aa<|Aw Z (by omega)<|Ba<|Ad<|Ak Z<|Af Z<|Ac Z<|Aa<|Ao ?_);exact A9 [nV,.bool false,vZ 0] ⟨Ar Z,Ar Z,Ar Z,trivial⟩ (d':=d') (L':=tb bt Tt (pZ bp) root height count::L3) (Vs.drop (Adi J _)) ⟨hle,_,L3,tc,Z,RSl.nil,Z,hp3,fun _ _=>htt⟩
  ·obtain⟨x,rfl⟩:∃x,h=x+1:=⟨h - 1,by omega⟩
   refine Ag<|Ad<|Ac Z<|Bb Z Z<|Aa<|AF Z (by omega)<|Al<|Ag<|Az<|Ad<|Ah Z<|Ac Z<|Ac Z<|Be J (h2 (k:=page) (x:=((x+1:Nat):Int)) hp3) Z Z (fun v d4 L4 hl4 ⟨_,cs,hk4,hv4,hi4,L5,tc5,e1,e2,hn,hp5,htc5⟩=>?_);subst e1;subst e2;rw[show AN {s with tc:=tc} page ((x+1:Nat):Int)=AN s page ((x+1:Nat):Int) from Z] at hn htc5⊢;have hp5:Pg d4 {s with tc:=tc5} dv (pZ bp) L5:=hp5;have htc5:(AN s page ((x+1:Nat):Int)).2=0→tc5=tc+1:=htc5;obtain⟨d6,hl6,v6,hn6⟩:=RV hn;have hp6:=hp5.mono hl6;refine BA _ _ (Vs.out (M:=[_,_,_]) J _ (Adz _) v6) ?_;obtain⟨xa,xc,ya,yc,za,zc,rfl⟩:=CO.four hn6;have hk6:=RSl.mono (R:=AE) AP hk ((hle.trans hl4).trans hl6);(refine AU Z<|Ap Z Z<|Ap Z Z<|Da (fun _ _=>?_));rename_i b10 T10;refine Et 0 Z Z Z Z (Acj _) Z ?_;by_cases he:(AN s page ((x+1:Nat):Int)).2=0
   ·have htc6:=htc5 he;obtain⟨hr,hlf⟩:=GX he;obtain⟨n,hne⟩:∃n,(AN s page ((x+1:Nat):Int)).1=n:=⟨_,Z⟩
    rw[hne] at hn6 hr hlf⊢;obtain⟨i,b,hfd⟩:∃i b,findD n key=(i,b):=⟨_,_,Z⟩
    have hile:i≤n.keys.length:=by have:=QE (n:=n) (key:=key);rw[hfd] at this;exact this
    rw[he];have hlv:n.leaf=true→n.vals.length=n.keys.length:=Hn hr;have hli:n.leaf=false→n.kids.length=n.keys.length+1:=Jq hr;clear hr;have hfc:=h3 hn6 hk6;rw[hfd] at hfc;obtain⟨kv,vv,iv,q,r1,r2,r3⟩:=hn6;cases q;refine Ac Z<|Aa<|Ag<|Ad<|Ac Z<|AW Z Z<|Aa<|Aw Z (by omega)<|Al<|Ad<|Cg 0 Z Z Z<|Ak Z<|Br Z hfc ?_;(refine AU Z<|Ap Z Z<|Ap Z Z<|Ac Z<|Af Z<|Aa ?_);apply Ag;apply Ag;apply AI;(refine Ac Z<|Bb Z Z<|Aa ?_);by_cases hx0:x=0
    ·subst hx0;have hvl:=hlv (by rw[hlf];rfl);clear hlv hli hlf;refine Aw Z (by omega) ?_;cases b with
     |true=>
      have hilt:i<n.keys.length:=by have:=XY (n:=n) (key:=key) (by rw[hfd]);rw[hfd] at this;exact this
      have hiv:i<n.vals.length:=by omega
      have hgv:n.vals.getD i []=n.vals[i]:=by rw[Acg,Acf hiv];rfl
      obtain⟨hI1,hI2⟩:=Ty he hne hfd
      rw[hgv] at hI1 hI2
      rw[hgt,hI1]
      rw[hI2] at htt
      (refine Al<|Ag<|Ad<|Af Z<|Bd Z<|Aa<|AS Z<|Al<|Ad<|Ah Z<|Aj Z<|Ai Z (Aq 0 Z Z)<|Ac Z<|A0 (sz:=1) (R:=RBs) (by rfl) (by assumption) (by rfl) Z (by omega) ?_;rintro _ _ _ _ _ ⟨_,rfl,_⟩;apply Ai;rfl;exact Bp (by assumption) Z)
      refine Be (_::J) (Aa6 h4 (b:=n.vals[i]) hp6 (by assumption)) Z Z (fun v d7 L7 hl7 ⟨_,u,L8,tc8,e7,e8,hu,hp8,htc8⟩=>?_)
      subst e7;subst e8
      obtain⟨ua,uc,rfl⟩:=hu.val
      generalize BU s n.vals[i]=V at hu htc8⊢
      (refine AU Z<|Ap Z Z<|Ap Z Z<|Ak Z<|Ac Z<|Aa<|Ad<|Ak Z<|Ac Z<|AT Z Z<|Ac Z<|Ak Z<|Af Z<|Ac Z<|Aa<|Ao ?_)
      exact A9 [.slice ua V.1.length uc,.bool (decide (V.2=0)),vZ V.2] ⟨Ar Z,Ar Z,Ar Z,trivial⟩ (d':=d7) (L':=tb bt Tt (pZ bp) root height count::L8) (Vs.drop (.cons _ (Adi J _))) ⟨((hle.trans hl4).trans hl6).trans hl7,_,L8,tc8,Z,hu,Z,hp8,fun _ q=>(by have h8:tc8=tc5+Dn n.vals[i]:=htc8 q;omega)⟩
     |false=>
      obtain⟨hI1,hI2⟩:=TB he hne hfd
      rw[hgt,hI1]
      rw[hI2] at htt
      (refine Al<|Ag<|Ad<|Af Z<|Bd Z<|Aa<|A8 Z<|Ad<|Ak Z<|Af Z<|Ac Z<|Aa<|Ao ?_)
      exact A9 [nV,.bool false,vZ 0] ⟨Ar Z,Ar Z,Ar Z,trivial⟩ (d':=d6) (L':=tb bt Tt (pZ bp) root height count::L5) (Vs.drop (.cons _ (Adi J _))) ⟨(hle.trans hl4).trans hl6,_,L5,tc5,Z,RSl.nil,Z,hp6,fun _ _=>(by omega)⟩
    ·obtain⟨x,rfl⟩:∃y,x=y+1:=⟨x - 1,by omega⟩
     have hil:=hli (by rw[hlf];simp;omega);clear hlv hli hlf;have hii:i<n.kids.length:=by omega
     have hgk:n.kids.getD i 0=n.kids[i]:=by rw[Acg,Acf hii];rfl
     obtain⟨hI1,hI2⟩:=On (key:=key) he hne hfd;rw[hgk] at hI1 hI2;refine AF Z (by omega) ?_;(refine Ad<|Aj Z<|Ai Z (Aq 0 Z Z)<|Ac Z<|A0 (sz:=1) (R:=A7) (by rfl) (by assumption) (by rfl) Z (by omega) ?_;rintro _ _ _ _ _ ⟨rfl,_,_⟩;refine Ai Z (Bp (by assumption) Z)<|Ac Z<|Aa<|Ba<|AI<|Ac Z<|CP Z Z (by omega) (by omega)<|Ac Z<|Aa ?_);exact⟨(x+1,n.kids[i]),by simp only;omega,⟨Z,Z,Z,congrArg (Value.int .i64) (by push_cast;omega),trivial⟩,(hle.trans hl4).trans hl6,by simp only;omega,hgt.trans hI1,_::J,L5,tc5,Z,hp6,by simp only;omega⟩
   ·rw[hgt,XH he];(refine Ac Z<|Aa<|Ag<|Ad<|Ac Z<|AW Z Z<|Aa<|AF Z (by omega)<|Ad<|Ac Z<|Ak Z<|Af Z<|Ac Z<|Aa<|Ao ?_);exact A9 [nV,.bool false,vZ (AN s page ((x+1:Nat):Int)).2] ⟨Ar Z,Ar Z,Ar Z,trivial⟩ (d':=d6) (L':=tb bt Tt (pZ bp) root height count::L5) (Vs.drop (.cons _ (Adi J _))) ⟨(hle.trans hl4).trans hl6,_,L5,tc5,Z,RSl.nil,Z,hp6,fun _ q=>absurd q he⟩
 ·have hF:Dk ⟨s,root,height,count⟩ key=([],false,Cq key):=by unfold Dk;rw[if_pos hw]
  rw[hF];(refine Ac Z<|Aa<|Ad<|Ac Z<|AW Z Z<|Aa<|AF Z (by omega)<|Ad<|Ac Z<|Ak Z<|Af Z<|Ac Z<|Aa<|Ao ?_);exact A9 [nV,.bool false,vZ (Cq key)] ⟨Ar Z,Ar Z,Ar Z,trivial⟩ (d':=d2) (L':=_::L) (Vs.refl _ _) ⟨Le.refl _,_,L,s.tc,Z,RSl.nil,Z,hp,fun q=>absurd q hw⟩
end
end Go.Gk.Tre
end
section
namespace Go.Gk.Tre
open Go Go.Gk Go.Gk.Dev Go.Gk.Cch Go.Gk.Pgr Go.Gk.Chn Go.Gk.Node
section
attribute [local irreducible] gwp gws xwp
end
end Go.Gk.Tre
end
section
namespace Go.Gk
open Go
section
def AB.pre{P f args d A L R}(p:L.Perm A)(h:AB P f args d A R):AB P f args d L R:=
 ⟨h.1,fun F W ok=>h.2 F W (ok.perm (Acr d (Aer F p)))⟩
section
variable {P:Program}{pan:List PanicEntry→AL}{Qn:Env→AL}{Ls L:List Ab}{ρ:Env}{d:Ab}{s:GS}{t:Nat}
end
end
end Go.Gk
end
section
namespace Go.Gk
open Go Go.Proofs Go.RowKit
def X6(g3 g4:Nat)(d:Ab):Prop:=(∀c,c<256→DC d g3 c (.int .u8 (Lib.firstT c)))∧∀i,i<16→DC d g4 (2*i) (.int .u8 (Lib.accLo i))∧DC d g4 (2*i+1) (.int .u8 (Lib.accHi i))
def X6.mono{g3 g4:Nat}{d d'}(h:X6 g3 g4 d)(hl:Le d d'):X6 g3 g4 d':=⟨fun c hc=>(h.1 c hc).mono hl,fun i hi=>⟨(h.2 i hi).1.mono hl,(h.2 i hi).2.mono hl⟩⟩
end Go.Gk
end
section
namespace Go.Gk
open Go Go.Proofs Go.RowKit Go.Shelf
end Go.Gk
end
section
namespace Go.Gk
open Go Go.Proofs Go.RowKit Go.Shelf
end Go.Gk
end
section
namespace Go.Gk.Tre
open Go Go.Gk Go.Gk.Dev Go.Gk.Cch Go.Gk.Pgr Go.Gk.Chn Go.Gk.Node
section
attribute [local irreducible] gwp gws xwp
end
end Go.Gk.Tre
end
section
namespace Go.Gk.Chn
open Go Go.Gk Go.Gk.Dev Go.Gk.Cch Go.Gk.Pgr Go.Gk.Node
section
def Od{P}{pan:List PanicEntry→AL}{Qn:Env→AL}{Ls L ρ d s}{t:Nat}{sz by_:Nat}{z x y k k'}{n c:Nat}(ex:ev ρ x=.int k (n:Nat))(ey:ev ρ y=.int k' (c:Nat))(h1:n≤c)(h2:c≤9223372036854775807)(h3:by_*c≤281474976710656)
  (h:∀b T,gws P pan Qn s Ls (upd ρ t (.slice (some ⟨b,0,none⟩) n c)) (join d (bx b T (Bm z (c*sz)))) L):gws P pan Qn (.op false ⟨some t,none,.mks sz by_ z x y⟩ s) Ls ρ d L:=
 ⟨d,L,Vs.refl d L,k,k',n,c,ex,ey,h1,h2,h3,fun b T=>⟨_,_,Vs.freeze,h b T⟩⟩
attribute [local irreducible] gwp gws xwp
def U5(P:Program)(f:FuncId):Prop:=∀{d}{n:Nat},1≤n→n≤8192→AB P f [vZ n] d [] (Ret fun r d' L'=>L'=[]∧∃b a c,r=.tuple #[pZ b,vZ 0]∧DC d' b 0 (.slice a n c))
def KK:A3:=⟨31,[(.tmp 2),(.tmp 3)],(sR (o1 2 (.mv (.const (.pointer none)))<|o1 3 (.mv z0) .done) (.seq (sR (om 6 0<|ob 7 .lss 6 z1<|om 8 7<|gF 9 8 0<|oF 10 8 (.bin .gtr 9 (kZ 8192))<|o1 11 (.pick 8 (.const (.bool true)) 10) .done) (.cond 11 (sR (o1 2 (.mv (.const (.pointer none)))<|o1 3 (.mv z2) .done) .ret) .skip)) (sR (o1 12 (.bld [(0,1),(1,1),(2,1),(3,1)] [nV,nV,(vZ 0),(vZ 0)] [(3,(kZ (-1)))])<|o1 13 (.box 12)<|om 4 13 .done) (.seq (sR (o1 5 (.mv z0) .done) (.block 0 (.loop (.seq (sR (om 14 5<|om 15 0<|ob 16 .lss 14 15 .done) (.cond 16 .skip (.exit 0))) (.seq (.block 1 (.reg true (pm 19 4<|pm 20 4<|p1 21 (.nilc 20)<|p1 22 (.fld 0 21)<|pl 23 22<|o1 24 (.mks 1 1 [(.int .u8 0)] (kZ 256) (kZ 256))<|p1 25 (.b2s 24)<|o1 26 (.bsl 1 1 [(BC [])] [(0,25)])<|o1 27 (.app 1 16 [(BC [])] 23 26)<|p1 28 (.nilc 19)<|p1 29 (.fld 0 28) (.bar (o0 (.st 1 29 27) .done))))) (rG (om 17 5<|ob 18 .add 17 z1<|om 5 18 .done))))))) (sR (om 30 4<|om 2 30<|o1 3 (.mv z0) .done) .ret)))))⟩
set_option maxRecDepth 4000 in
set_option maxHeartbeats 1000000 in
def Aa2{P f}(hd:R3 P f=some KK):U5 P f:=by
 intro d n hn1 hn2;refine AK hd (Aca Z) ?_;show gwp P _ _ _ _ _;refine Ad<|BA d [emp] Vs.emp ?_;(refine Ah Z<|Ac Z<|Aa<|Ag<|Ad<|Ac Z<|AA Z Z<|Af Z<|A1 Z (by omega)<|Ae Z<|Ac Z<|Ae Z<|Bb Z Z<|Av Z Z<|Aa<|Aw Z (by omega)<|Al<|Ad<|Ch Z<|CC Z (fun _ _=>Ah Z<|Aa<|Ag<|Ad<|Ac Z<|Aa<|Az ?_));rename_i b T;refine BM (α:=Nat×Option Addr×Nat) (fun x=>[(0,vZ n),(4,pZ b),(5,vZ x.1)])
  (fun x d' L'=>Le d d'∧x.1≤n∧∃h,[bx b T [.slice x.2.1 x.1 x.2.2,nV,vZ 0,vZ (-1)],h].Sublist L'∧An 1 KW d' (.slice x.2.1 x.1 x.2.2) (Acq x.1 (Acq 256 0)) h) (fun x=>n - x.1) (0,none,0) ⟨Z,Z,Z,trivial⟩ ⟨Le.refl _,Adf _,emp,Acd _,An.nil⟩ ?_
 rintro⟨i,a,c⟩ ρ d' L' ⟨hle,hi,h,hsub,hrow⟩;simp only at hi hsub hrow⊢;apply Ag;apply Ag;apply AI;refine BA d' _ (Vs.drop hsub) ?_;by_cases e:i<n
 ·refine Ac Z<|Ac Z<|AA Z Z<|Aa<|AF Z (by omega)<|Al<|Ag<|Az<|BX [bx b T [.slice a i c,nV,vZ 0,vZ (-1)]] [h] Z ?_;refine Ah Z<|Ah Z<|AJ Z<|Aj Z<|Ai Z (Aq 0 Z Z)<|Od (n:=256) (c:=256) Z Z (Acj _) (by omega) (by omega) (fun b24 T24=>?_);have hg:An 1 AE d' (.slice (some ⟨b24,0,none⟩) 256 256) (Acq 256 0) (bx b24 T24 (Bm [.int .u8 0] (256*1))):=An.zero Z (by omega) Z (by omega);have hgr:=An.rsl (R:=AE) (sz:=1) hg AP (by omega) (Le.Au _ _) (Le.AZ d' (bx b24 T24 (Bm [.int .u8 0] (256*1))));have hl2:Le d' (join d' (bx b24 T24 (Bm [.int .u8 0] (256*1)))):=Le.Au _ _;refine FU Z hgr ?_;refine Db (v0:=BC (Acq 256 0)) Z Z (fun b26 T26=>?_);have hrow2:An 1 KW (join d' (bx b24 T24 (Bm [.int .u8 0] (256*1)))) (.slice a i c) (Acq i (Acq 256 0)) h:=by
   have:=An.mono (R:=KW) Xm hrow hl2;exact this
  have hil:(Acq i (Acq 256 (0:UInt8))).length=i:=Adn;refine Ep (R:=KW) 0 Z Z hrow2 Z (An.D7 (R:=KW) (x:=Acq 256 0) Z ⟨Z,by simp⟩) Wb (by omega) (by simp;omega) (by simp;omega) (fun v' h' ho'=>?_);rw[←List.replicate_succ'] at ho';obtain⟨a',c',rfl⟩:=ho'.val;rw[Adn] at ho'⊢;refine AJ Z<|Aj Z<|Du<|Bg 0 [.slice a' (i+1) c',nV,vZ 0,vZ (-1)] Z Z Z Z (Aca Z) Z Z ?_;(refine Aa<|AI<|Ac Z<|AY Z Z (by omega) (by omega)<|Ac Z<|Aa ?_);exact⟨(i+1,a',c'),by simp only;omega,⟨Z,Z,Z,trivial⟩,hle.trans hl2,e,h',Acd _,ho'⟩
 ·have:i=n:=by omega
  subst this;(refine Ac Z<|Ac Z<|AA Z Z<|Aa<|Aw Z (by omega)<|Ba<|Ad<|Ah Z<|Ah Z<|Ac Z<|Aa<|Ao ?_);exact A9 [pZ b,vZ 0] ⟨Z,Z,trivial⟩ (d':=join (join d' (bx b T [.slice a i c,nV,vZ 0,vZ (-1)])) h) (L':=[]) (Vs.freeze.trans Vs.freeze) ⟨Z,b,a,c,Z,(Le.dcs ((Le.AZ _ _).trans (Le.Au _ _))).at (i:=0) Z⟩
end
end Go.Gk.Chn
end
section
namespace Go.Gk.Chn
open Go Go.Gk Go.Gk.Dev Go.Gk.Cch Go.Gk.Pgr Go.Gk.Node
attribute [local irreducible] gwp gws xwp
def Uv(P:Program)(f:FuncId):Prop:=∀{d}{b n c:Nat}{a},DC d b 0 (.slice a (n+2) c)→1≤n→n≤8000→Cy P f [pZ b,vZ 2,vZ n] d (.bool true)
def IT:A3:=⟨31,[(.tmp 6)],(sR (o1 6 (.mv (.const (.bool false))) .done) (sR (om 8 0<|o1 9 (.nilc 8)<|oj 10 0 9<|ol 11 10<|oL 12 11<|om 7 12 .done) (sR (om 13 1<|ob 14 .geq 13 z0<|om 15 14<|gT 16 15 1<|gT 17 15 7<|oT 18 15 (.bin .leq 16 17)<|gP 19 15 18<|om 20 19<|gT 21 20 2<|oT 22 20 (.bin .geq 21 z1)<|gP 23 20 22<|om 24 23<|gT 25 24 2<|gT 26 24 7<|gT 27 24 1<|oT 28 24 (.bin .sub 26 27)<|oT 29 24 (.bin .leq 25 28)<|gP 30 24 29<|om 6 30 .done) .ret)))⟩
def Aap{P f}(hd:dec P f=some IT):Uv P f:=by
 intro d b n c a hb hn1 hn2;refine AK hd (Aca Z) ?_;show gwp P _ _ _ _ _;have h2:(2:Int)≤((n+2:Nat):Int):=by omega
 have h3:(n:Int)≤((n+2:Nat):Int) - 2:=by omega
 (refine Ad<|Af Z<|Aa<|Ad<|Ah Z<|AJ Z<|Aj Z<|Ai Z (BH (by assumption))<|AO Z<|Ac Z<|Aa<|Ad<|Ac Z<|Ds Z Z<|Af Z<|A4 Z (by omega)<|Ae Z<|Ac Z<|Ae Z<|Ac Z<|Ae Z<|Gt Z Z<|Ay Z Z<|Af Z<|A4 Z (by omega)<|Ae Z<|Ac Z<|Ae Z<|Ds Z Z<|Ay Z Z<|Af Z<|A4 Z (by omega)<|Ae Z<|Ac Z<|Ae Z<|Ac Z<|Ae Z<|Ac Z<|Ae Z<|CP Z Z (by omega) (by omega)<|Ae Z<|Gt Z Z<|Ay Z Z<|Af Z<|Aa<|Ao ?_);exact Ci (v:=.bool (decide ((n:Int)≤((n+2:Nat):Int) - 2))) Z (Acd _) ⟨congrArg Value.bool (decide_eq_true h3),Z,Z⟩
def Ui(P:Program)(f:FuncId):Prop:=∀{d}{b q n c:Nat}{a},DC d b 0 (.slice a (n+2) c)→1≤n→n≤8000→
 AB P f [pZ b,pZ q,vZ 2,vZ n,nV] d [] (Ret fun r _ L'=>L'=[]∧∃v,r=.tuple #[pZ v,vZ 0])
def J4(a0 a1:Nat):A3:=⟨52,[(.tmp 10),(.tmp 11)],(sR (o1 10 (.mv (.const (.pointer none)))<|o1 11 (.mv z0) .done) (.seq (sR (om 14 0<|om 15 2<|om 16 3<|oc 17 a0 [14,15,16]<|o1 18 (.un .not 17) .done) (.cond 18 (sR (o1 10 (.mv (.const (.pointer none)))<|o1 11 (.mv z2) .done) .ret) .skip)) (sR (om 19 0<|om 20 1<|om 21 2<|om 22 3<|o1 23 (.mks 2 24 [(vZ 0),(BC [])] 22 22)<|o1 24 (.bld [(0,1),(1,1),(2,1),(3,1),(4,1),(5,1)] [(.pointer none),(.pointer none),(vZ 0),nV,(vZ 0),(vZ 0)] [(0,19),(1,20),(2,21),(3,23)])<|o1 25 (.box 24)<|om 12 25 .done) (.seq (sR (o1 13 (.mv z0) .done) (.block 0 (.loop (.seq (sR (om 26 13<|om 27 4<|oL 28 27<|ob 29 .lss 26 28 .done) (.cond 29 .skip (.exit 0))) (.seq (.block 1 (.seq (sR (om 32 12<|om 33 4<|om 34 13<|oI 35 1 33 34<|ol 36 35<|oc 37 a1 [32,36]<|ob 38 .neq 37 z0 .done) (.cond 38 (sR (o1 10 (.mv (.const (.pointer none)))<|o1 11 (.mv z2) .done) .ret) .skip)) (.reg true (pm 39 12<|p1 40 (.nilc 39)<|p1 41 (.fld 3 40)<|pl 42 41<|pm 43 4<|pm 44 13<|p1 45 (.idx 1 43 44)<|pl 46 45<|pm 47 2<|p1 48 (.bin .sub 46 47)<|p1 49 (.idx 2 42 48)<|p1 50 (.fld 0 49)<|o0 (.st 1 50 z2) .done)))) (rG (om 30 13<|ob 31 .add 30 z1<|om 13 31 .done))))))) (sR (om 51 12<|om 10 51<|o1 11 (.mv z0) .done) .ret)))))⟩
set_option maxRecDepth 4000 in
def AaV{P f f1 f2}(hd:dec P f=some (J4 f1 f2))(h1:Uv P f1):Ui P f:=by
 intro d b q n c a hb hn1 hn2;refine AK hd (Aca Z) ?_;show gwp P _ _ _ _ _;refine Ad<|Ah Z<|Ac Z<|Aa<|Ag<|Ad<|Ah Z<|Ac Z<|Ac Z<|CF Z (h1 hb hn1 hn2) (fun u d1 L1 _ ⟨e1,e2,e3⟩=>?_);subst e1;subst e2;subst e3;refine Bd Z<|Aa<|AS Z<|Al<|Ad<|Ah Z<|Ah Z<|Ac Z<|Ac Z<|JO (n:=n) (c:=n) Z Z (Acj _) (by omega) (by omega) (fun b23 T23=>?_);(refine Ch Z<|CC Z (fun _ _=>Ah Z<|Aa<|Ag<|Ad<|Ac Z<|Aa<|Az ?_));rename_i bb TT;refine BM (α:=Unit) (fun _=>[(4,nV),(12,pZ bb),(13,vZ 0)]) (fun _ _ _=>True) (fun _=>0) () ⟨Z,Z,Z,trivial⟩ trivial ?_;rintro - ρ d' L' -;(refine Ag<|Ad<|Ac Z<|Ak Z<|AO Z<|AA Z Z<|Aa<|Aw Z (by omega)<|Ba<|Ad<|Ah Z<|Ah Z<|Ac Z<|Aa<|Ao ?_);exact Cw Z Z (Adj _) ⟨Z,_,Z⟩
def Ur(P:Program)(f:FuncId):Prop:=∀{d}{b:Nat},AB P f [pZ b,vZ 4] d [] (Ret fun r _ L'=>L'=[]∧∃q,r=.tuple #[pZ q,vZ 0])
def KD:A3:=⟨48,[(.tmp 4),(.tmp 5)],(sR (o1 4 (.mv (.const (.pointer none)))<|o1 5 (.mv z0) .done) (.seq (sR (om 8 1<|ob 9 .lss 8 z1<|om 10 9<|gF 11 10 1<|oF 12 10 (.bin .gtr 11 (kZ 64))<|o1 13 (.pick 10 (.const (.bool true)) 12) .done) (.cond 13 (sR (o1 4 (.mv (.const (.pointer none)))<|o1 5 (.mv z2) .done) .ret) .skip)) (.seq (.reg true (pm 14 0<|pm 15 1<|pm 17 1<|pm 19 1 (.par (o1 20 (.mks 1 16 [(BC [])] 19 19) .done) (.par (o1 16 (.mks 1 8 [(vZ 0)] 15 15) .done) (o1 18 (.mks 1 1 [(.bool false)] 17 17) .done) .done) (p1 21 (.bld [(0,1),(1,1),(2,1),(3,1),(4,1),(5,1),(6,1),(7,1),(8,1)] [(.pointer none),nV,nV,nV,nV,nV,(vZ 0),(vZ 0),(vZ 0)] [(0,14),(2,16),(3,18),(4,20)]) (o1 22 (.box 21) (.bar (pm 6 22 .done))))))) (.seq (sR (o1 7 (.mv z0) .done) (.block 0 (.loop (.seq (sR (om 23 7<|om 24 1<|ob 25 .lss 23 24 .done) (.cond 25 .skip (.exit 0))) (.seq (.block 1 (sR (om 28 6<|om 29 6<|o1 30 (.nilc 29)<|oj 31 1 30<|ol 32 31<|o1 33 (.bsl 1 1 [(vZ 0)] [(0,(kZ (-1)))])<|o1 34 (.app 1 8 [(vZ 0)] 32 33)<|o1 35 (.nilc 28)<|oj 36 1 35<|o0 (.st 1 36 34) .done) (rG (om 37 6<|om 38 6<|o1 39 (.nilc 38)<|oj 40 5 39<|ol 41 40<|om 42 7<|o1 43 (.bsl 1 1 [(vZ 0)] [(0,42)])<|o1 44 (.app 1 8 [(vZ 0)] 41 43)<|o1 45 (.nilc 37)<|oj 46 5 45<|o0 (.st 1 46 44) .done)))) (rG (om 26 7<|ob 27 .add 26 z1<|om 7 27 .done))))))) (sR (om 47 6<|om 4 47<|o1 5 (.mv z0) .done) .ret)))))⟩
set_option maxRecDepth 4000 in
set_option maxHeartbeats 1000000 in
def Aar{P f}(hd:R3 P f=some KD):Ur P f:=by
 intro d b;refine AK hd (Aca Z) ?_;show gwp P _ _ _ _ _;refine Ad<|Ah Z<|Ac Z<|Aa<|Ag<|Ad<|Ac Z<|AA Z Z<|Af Z<|A1 Z (by omega)<|Ae Z<|Ac Z<|Ae Z<|Bb Z Z<|Av Z Z<|Aa<|Aw Z (by omega)<|Al<|Ag<|BX [] [] Z ?_;refine Ah Z<|Ac Z<|Ac Z<|Ac Z<|Hp (α:=Nat) (β:=Nat×Nat) [(1,vZ 4),(14,pZ b)] (fun x=>[(20,.slice (some ⟨x,0,none⟩) 4 4)]) (fun _ _ L=>L=[]) (fun y=>[(16,.slice (some ⟨y.1,0,none⟩) 4 4),(18,.slice (some ⟨y.2,0,none⟩) 4 4)]) (fun _ _ L=>L=[]) [] [] Z
  (fun _ _ _ _ _ q=>q) (fun _ _ _ _ _ q=>q) (fun _=>Z) (fun _=>Z) Z ⟨Z,Z,trivial⟩ ?_ ?_ ?_
 ·refine Od (n:=4) (c:=4) Z Z (Acj _) (by omega) (by omega) (fun b20 T20=>?_);(apply Aa);exact⟨_,Z,b20,⟨Z,trivial⟩,Z⟩
 ·refine Hp (α:=Nat) (β:=Nat) [] (fun x=>[(16,.slice (some ⟨x,0,none⟩) 4 4)]) (fun _ _ L=>L=[]) (fun y=>[(18,.slice (some ⟨y,0,none⟩) 4 4)]) (fun _ _ L=>L=[]) [] [] Z
   (fun _ _ _ _ _ q=>q) (fun _ _ _ _ _ q=>q) (fun _=>Z) (fun _=>Z) Z trivial ?_ ?_ ?_
  ·refine Od (n:=4) (c:=4) Z Z (Acj _) (by omega) (by omega) (fun b16 T16=>?_);(apply Aa);exact⟨_,Z,b16,⟨Z,trivial⟩,Z⟩
  ·refine Od (n:=4) (c:=4) Z Z (Acj _) (by omega) (by omega) (fun b18 T18=>?_);(apply Aa);exact⟨_,Z,b18,⟨Z,trivial⟩,Z⟩
  ·rintro b16 b18 ρ2 d2 M1 M2 hl2 rfl rfl;(apply Aa);exact⟨_,Z,(b16,b18),⟨Z,Z,trivial⟩,Z⟩
 ·rintro b20 ⟨b16,b18⟩ ρ2 d2 M1 M2 hl2 rfl rfl;refine Ch (cs:=[pZ b,nV,.slice (some ⟨b16,0,none⟩) 4 4,.slice (some ⟨b18,0,none⟩) 4 4,.slice (some ⟨b20,0,none⟩) 4 4,nV,vZ 0,vZ 0,vZ 0]) Z ?_;refine BA d2 [emp,emp] (Vs.emp.trans Vs.emp) ?_;refine CC Z (fun q T=>?_);refine Du<|Ah Z<|Aa<|Ag<|Ad<|Ac Z<|Aa<|Az<|BM (α:=Nat×Option Addr×Nat×Option Addr×Nat) (fun x=>[(1,vZ 4),(6,pZ q),(7,vZ x.1)])
   (fun x d' L'=>x.1≤4∧∃h1 h5 xs ys,[bx q T [pZ b,.slice x.2.1 x.1 x.2.2.1,.slice (some ⟨b16,0,none⟩) 4 4,.slice (some ⟨b18,0,none⟩) 4 4,.slice (some ⟨b20,0,none⟩) 4 4,.slice x.2.2.2.1 x.1 x.2.2.2.2,vZ 0,vZ 0,vZ 0],h1,h5].Sublist L'∧
    An 1 A7 d' (.slice x.2.1 x.1 x.2.2.1) xs h1∧An 1 A7 d' (.slice x.2.2.2.1 x.1 x.2.2.2.2) ys h5∧xs.length=x.1∧ys.length=x.1) (fun x=>4 - x.1) (0,none,0,none,0) ⟨Z,Z,Z,trivial⟩ ⟨Adf _,emp,emp,[],[],Acd _,An.nil,An.nil,Z,Z⟩ ?_
  rintro⟨i,a1,c1,a5,c5⟩ ρ d' L' ⟨hi,h1,h5,xs,ys,hsub,r1,r5,x1,y1⟩;simp only at hi hsub r1 r5 x1 y1⊢;apply Ag;apply Ag;apply AI;refine BA d' _ (Vs.drop hsub) ?_;by_cases e:i<4
  ·refine Ac Z<|Ac Z<|AA Z Z<|Aa<|AF Z (by omega)<|Al<|Ag<|Az<|Ad<|Ah Z<|Ah Z<|AJ Z<|Aj Z<|Ai Z (Aq 0 Z Z)<|Db (v0:=vZ (-1)) Z Z (fun b33 T33=>?_);refine Ep (R:=A7) 1 Z Z r1 Z (An.D7 (R:=A7) (x:= -1) Z ⟨Z,by omega,by omega⟩) D2 (by omega) (by simp;omega) (by simp;omega) (fun v1 h1' o1=>?_);obtain⟨a1',c1',rfl⟩:=o1.val;rw[Aci,x1] at o1⊢;refine AJ Z<|Aj Z<|Bg 0 [pZ b,.slice a1' (i+1) c1',.slice (some ⟨b16,0,none⟩) 4 4,.slice (some ⟨b18,0,none⟩) 4 4,.slice (some ⟨b20,0,none⟩) 4 4,.slice a5 i c5,vZ 0,vZ 0,vZ 0] Z Z Z Z (Aca Z) Z Z ?_;refine Aa<|AI<|Ah Z<|Ah Z<|AJ Z<|Aj Z<|Ai Z (Aq 0 Z Z)<|Ac Z<|Db (v0:=vZ i) Z Z (fun b43 T43=>?_);refine Ep (R:=A7) 2 Z Z r5 Z (An.D7 (R:=A7) (x:=(i:Int)) Z ⟨Z,by omega,by omega⟩) D2 (by omega) (by simp;omega) (by simp;omega) (fun v5 h5' o5=>?_);obtain⟨a5',c5',rfl⟩:=o5.val;rw[Aci,y1] at o5⊢;refine AJ Z<|Aj Z<|Bg 0 [pZ b,.slice a1' (i+1) c1',.slice (some ⟨b16,0,none⟩) 4 4,.slice (some ⟨b18,0,none⟩) 4 4,.slice (some ⟨b20,0,none⟩) 4 4,.slice a5' (i+1) c5',vZ 0,vZ 0,vZ 0] Z Z Z Z (Aca Z) Z Z ?_;(refine Aa<|AI<|Ac Z<|AY Z Z (by omega) (by omega)<|Ac Z<|Aa ?_);exact⟨(i+1,a1',c1',a5',c5'),by simp only;omega,⟨Z,Z,Z,trivial⟩,e,h1',h5',_,_,Acd _,o1,o5,by rw[Aci,x1];rfl,by rw[Aci,y1];rfl⟩
  ·have:i=4:=by omega
   subst this;(refine Ac Z<|Ac Z<|AA Z Z<|Aa<|Aw Z (by omega)<|Ba<|Ad<|Ah Z<|Ah Z<|Ac Z<|Aa<|Ao ?_);exact Cw Z Z (Adj _) ⟨Z,q,Z⟩
def pdN(n:Nat):PD:=⟨2,Dc n [],fun _=>[],Acq (n+2) IA,0,0⟩
def Np(P:Program)(f:FuncId):Prop:=∀{d}{n:Nat},1≤n→n≤1000→AB P f [vZ n] d [] (Ret fun r d' L'=>∃b bd bp,r=pZ b∧DC d' b 0 (pZ bp)∧Pg d' (pdN n) (pZ bd) (pZ bp) L')
def JY(a0 a1 a2 a3 a4 a5:Nat):A3:=⟨75,[(.tmp 2)],(sR (o1 2 (.mv (.const (.pointer none))) .done) (sR (om 14 0<|ob 15 .add 14 z2<|oc 16 a0 [15]<|om 13 16<|oe 17 13 0<|oe 18 13 1<|om 3 17<|om 4 18 .done) (sR (om 20 0<|ob 21 .add 20 z2<|oc 22 a1 [21]<|om 19 22<|oe 23 19 0<|oe 24 19 1<|om 5 23<|om 6 24 .done) (.seq (sR (om 25 4<|ob 26 .neq 25 z0<|om 27 26<|gF 28 27 3<|oF 29 27 (.eqp false 28 (.const (.pointer none)))<|o1 30 (.pick 27 (.const (.bool true)) 29)<|om 31 30<|gF 32 31 5<|oF 33 31 (.eqp false 32 (.const (.pointer none)))<|o1 34 (.pick 31 (.const (.bool true)) 33) .done) (.cond 34 (sR (o1 2 (.mv (.const (.pointer none))) .done) .ret) .skip)) (sR (om 36 3<|oc 37 a2 [36,(kZ 4)]<|om 35 37<|oe 38 35 0<|oe 39 35 1<|om 7 38<|om 4 39 .done) (sR (om 41 5<|oc 42 a3 [41,(kZ 4)]<|om 40 42<|oe 43 40 0<|oe 44 40 1<|om 8 43<|om 9 44 .done) (.seq (sR (om 45 4<|ob 46 .neq 45 z0<|om 47 46<|gF 48 47 7<|oF 49 47 (.eqp false 48 (.const (.pointer none)))<|o1 50 (.pick 47 (.const (.bool true)) 49) .done) (.cond 50 (sR (o1 2 (.mv (.const (.pointer none))) .done) .ret) .skip)) (sR (om 52 3<|om 53 7<|om 54 0<|oc 55 a4 [52,53,z2,54,nS]<|om 51 55<|oe 56 51 0<|oe 57 51 1<|om 10 56<|om 4 57 .done) (sR (om 59 5<|om 60 8<|om 61 0<|oc 62 a5 [59,60,z2,61,nS]<|om 58 62<|oe 63 58 0<|oe 64 58 1<|om 11 63<|om 12 64 .done) (.seq (sR (om 65 4<|ob 66 .neq 65 z0<|om 67 66<|gF 68 67 10<|oF 69 67 (.eqp false 68 (.const (.pointer none)))<|o1 70 (.pick 67 (.const (.bool true)) 69) .done) (.cond 70 (sR (o1 2 (.mv (.const (.pointer none))) .done) .ret) .skip)) (sR (om 71 10<|om 72 11<|o1 73 (.bld [(0,1),(1,1)] [(.pointer none),(.pointer none)] [(0,71),(1,72)])<|o1 74 (.box 73)<|om 2 74 .done) .ret)))))))))))⟩
set_option maxRecDepth 4000 in
set_option maxHeartbeats 1000000 in
def VI{P f f1 f2 f3 f4 f5 f6}(hd:dec P f=some (JY f1 f2 f3 f4 f5 f6))(h1:Nr P f1)(h2:U5 P f2)(h3:JD P f3)(h4:Ur P f4)(h5:R5 P f5)(h6:Ui P f6):Np P f:=by
 intro d n hn1 hn2;refine AK hd (Aca Z) ?_;show gwp P _ _ _ _ _;refine Ad<|Ah Z<|Aa<|Ad<|Ac Z<|AY Z Z (by omega) (by omega)<|Cz (h1 (n:=n+2) (by omega) (by omega)) Z (fun u d1 L1 hl1 ⟨dv,e1,e2,e3⟩=>?_);subst e1;subst e2;obtain⟨bd,rfl⟩:∃b,dv=pZ b:=let ⟨b,_,_,_,_,_,_,h,_⟩:=e3;⟨b,h⟩
 refine AU Z<|Ap Z Z<|Ap Z Z<|Ah Z<|Ac Z<|Aa<|Ad<|Ac Z<|AY Z Z (by omega) (by omega)<|EP (A:=[]) (B:=L1) Z Z (h2 (n:=n+2) (by omega) (by omega)) (fun u d2 L2 hl2 ⟨q1,br,ar,cr,q2,q3⟩=>?_);subst q1;subst q2;rw[Adr];refine AU Z<|Ap Z Z<|Ap Z Z<|Ah Z<|Ac Z<|Aa<|Ag<|Ad<|Ac Z<|AW Z Z<|Af Z<|A1 Z (by omega)<|Ae Z<|Ah Z<|Ae Z<|BZ Z Z<|Av Z Z<|Af Z<|Ae Z<|Ah Z<|Ae Z<|BZ Z Z<|Av Z Z<|Aa<|AS Z<|Al<|Ad<|Ah Z<|Cz (h3 (n:=4) (e3.mono hl2) (show 1≤(Acq (n+2) IA).length by rw[Adn];omega) (by omega) (by omega)) Z (fun u d3 L3 _ ⟨q4,cv,LC,q5,q6,q7⟩=>?_);subst q4;subst q5;subst q6;obtain⟨bc,rfl⟩:∃b,cv=pZ b:=let ⟨b,_,_,_,_,_,_,_,_,h,_⟩:=q7;⟨b,h⟩
 refine AU Z<|Ap Z Z<|Ap Z Z<|Ah Z<|Ac Z<|Aa<|Ad<|Ah Z<|EP (A:=[]) (B:=LC++L1) Z Z (h4 (b:=br)) (fun u d4 L4 hl4 ⟨p1,bq,p2⟩=>?_);subst p1;subst p2;rw[Adr];refine AU Z<|Ap Z Z<|Ap Z Z<|Ah Z<|Ac Z<|Aa<|Ag<|Ad<|Ac Z<|AW Z Z<|Af Z<|A1 Z (by omega)<|Ae Z<|Ah Z<|Ae Z<|BZ Z Z<|Av Z Z<|Aa<|AS Z<|Al<|Ad<|Ah Z<|Ah Z<|Ac Z<|Cz (h5 (frm:=2) (n:=n) (m:=4) (live:=[]) ((e3.mono hl2).mono hl4) (q7.mono hl4) (by omega) (by omega) (by omega) (by rw[Adn];omega) (by rw[Adn];omega) Agd (fun k hk=>(by cases hk)) (RSl.nil:Dt d4 nV [])) Z (fun u d5 L5 hl5 ⟨pv,g1,g2,g3⟩=>?_);subst g1;obtain⟨bp,rfl⟩:=g3.ptr;refine AU Z<|Ap Z Z<|Ap Z Z<|Ah Z<|Ac Z<|Aa<|Ad<|Ah Z<|Ah Z<|Ac Z<|EP (A:=[]) (B:=L5) Z Z (h6 (n:=n) (b:=br) (q:=bq) ((q3.mono hl4).mono hl5) hn1 (by omega)) (fun u d6 L6 hl6 ⟨p1,xv,p2⟩=>?_);subst p1;subst p2;rw[Adr];(refine AU Z<|Ap Z Z<|Ap Z Z<|Ah Z<|Ac Z<|Aa<|Ag<|Ad<|Ac Z<|AW Z Z<|Af Z<|A1 Z (by omega)<|Ae Z<|Ah Z<|Ae Z<|BZ Z Z<|Av Z Z<|Aa<|AS Z<|Al<|Ad<|Ah Z<|Ah Z<|Ch Z<|CC Z (fun _ _=>Ah Z<|Aa<|Ao ?_));rename_i bm Tm;exact A9 [pZ bm] ⟨Z,trivial⟩ (d':=join d6 (bx bm Tm [pZ bp,pZ xv])) (L':=L5) Vs.freeze ⟨bm,bd,bp,Z,(Le.dcs (Le.AZ _ _)).at (i:=0) Z,(g3.mono hl6).mono (Le.Au _ _)⟩
end Go.Gk.Chn
end
section
namespace Go.Gk.Tre
open Go Go.Gk Go.Gk.Dev Go.Gk.Cch Go.Gk.Pgr Go.Gk.Chn Go.Gk.Node
attribute [local irreducible] gwp gws xwp
def OQ(P:Program)(f:FuncId):Prop:=∀{d w b}{n:Nat},AH d w b→n≤1000000→AB P f [w,vZ n] d [] (Ret fun v d' L'=>L'=[]∧d'=d∧AH d v (b.take n))
def JE:A3:=⟨13,[(.tmp 4)],(sR (o1 4 (.mv nS) .done) (.seq (sR (om 5 0<|oL 6 5<|om 7 1<|ob 8 .gtr 6 7 .done) (.cond 8 (sR (om 9 0<|om 10 1<|o1 11 (.sl 1 9 none (some 10) none)<|om 4 11 .done) .ret) .skip)) (sR (om 12 0<|om 4 12 .done) .ret)))⟩
def Xq{P f}(hd:dec P f=some JE):OQ P f:=by
 intro d w b n hw hn;have hwl:=hw.Bt;obtain⟨a,c,rfl⟩:=hw.val;refine AK hd (Aca Z) ?_;show gwp P _ _ _ _ _;by_cases e1:n<b.length
 ·refine Ad<|Ak Z<|Aa<|Ag<|Ad<|Ak Z<|AO Z<|Ac Z<|Bb Z Z<|Aa<|AF Z (by omega)<|Ad<|Ak Z<|Ac Z<|Oi (n:=n) Z hw Z Z (by omega) (fun v11 r11=>?_);obtain⟨a1,c1,rfl⟩:=r11.val;(refine Ak Z<|Aa<|Ao ?_);exact Ci Z (Acd _) ⟨Z,Z,r11⟩
 ·rw[Ady (by omega)];(refine Ad<|Ak Z<|Aa<|Ag<|Ad<|Ak Z<|AO Z<|Ac Z<|Bb Z Z<|Aa<|Aw Z (by omega)<|Al<|Ad<|Ak Z<|Ak Z<|Aa<|Ao ?_);exact Ci Z (Acd _) ⟨Z,Z,hw⟩
def Ir(P:Program)(f:FuncId):Prop:=∀{d}{n:Nat},1≤n→n≤1000→AB P f [vZ n] d [] (Ret fun r d' L'=>∃bt Tt bd bp L2,r=.tuple #[pZ bp,pZ bt]∧L'=tb bt Tt (pZ bp) (-1) 0 0::L2∧Pg d' (pdN n) (pZ bd) (pZ bp) L2)
def IG(a0 a1:Nat):A3:=⟨26,[(.tmp 2),(.tmp 3)],(sR (o1 2 (.mv (.const (.pointer none)))<|o1 3 (.mv (.const (.pointer none))) .done) (sR (om 7 0<|oc 8 a0 [7]<|om 4 8 .done) (.seq (sR (om 9 4<|o1 10 (.eqp false 9 (.const (.pointer none))) .done) (.cond 10 (sR (o1 2 (.mv (.const (.pointer none)))<|o1 3 (.mv (.const (.pointer none))) .done) .ret) .skip)) (sR (om 12 4<|o1 13 (.nilc 12)<|oj 14 0 13<|ol 15 14<|oc 16 a1 [15]<|om 11 16<|oe 17 11 0<|oe 18 11 1<|om 5 17<|om 6 18 .done) (.seq (sR (om 19 6<|ob 20 .neq 19 z0 .done) (.cond 20 (sR (o1 2 (.mv (.const (.pointer none)))<|o1 3 (.mv (.const (.pointer none))) .done) .ret) .skip)) (sR (om 21 4<|o1 22 (.nilc 21)<|oj 23 0 22<|ol 24 23<|om 25 5<|om 2 24<|om 3 25 .done) .ret))))))⟩
def UI{P f f1 f2}(hd:dec P f=some (IG f1 f2))(h1:Np P f1)(h2:Ny P f2):Ir P f:=by
 intro d n hn1 hn2;refine AK hd (Aca Z) ?_;show gwp P _ _ _ _ _;refine Ad<|Ah Z<|Ah Z<|Aa<|Ad<|Ac Z<|Cz (h1 (n:=n) hn1 hn2) Z (fun u d1 L1 hl1 ⟨b,bd,bp,e1,e2,e3⟩=>?_);subst e1;refine Ah Z<|Aa<|Ag<|Ad<|Ah Z<|BZ Z Z<|Aa<|AS Z<|Al<|Ad<|Ah Z<|AJ Z<|Aj Z<|Ai Z (BH (by assumption))<|Cz (h2 e3) Z (fun u d2 L2 hl2 ⟨_,bt,Tt,e4,e5⟩=>?_);subst e4;subst e5;have e2':=e2.mono hl2;(refine AU Z<|Ap Z Z<|Ap Z Z<|Ah Z<|Ac Z<|Aa<|Ag<|Ad<|Ac Z<|AW Z Z<|Aa<|Aw Z (by omega)<|Al<|Ad<|Ah Z<|AJ Z<|Aj Z<|Ai Z (BH (by assumption))<|Ah Z<|Ah Z<|Ah Z<|Aa<|Ao ?_);exact A9 [pZ bp,pZ bt] ⟨Ar Z,Ar Z,trivial⟩ (Vs.refl _ _) ⟨bt,Tt,bd,bp,_,Z,Z,e3.mono hl2⟩
abbrev KV:=List UInt8×List UInt8
def RKv(_:Ab)(cs:List Value)(x:KV):Prop:=cs=[BC x.1,BC x.2]∧x.1.length≤140737488355328∧x.2.length≤140737488355328
def IV:Gs RKv:=fun _ h=>h
def Bj:List KV→List UInt8→Nat
 |[],_=>0
 |x::l,key=>if Op.bytesLess x.1 key=true then Bj l key+1 else 0
def Yr:GG RKv:=fun _ _ _ h=>by obtain⟨rfl,_⟩:=h;rfl
def isK(l:List KV)(key:List UInt8):Bool:=decide (Bj l key<l.length)&& decide ((l.getD (Bj l key) ([],[])).1=key)
def EY(l:List KV)(key:List UInt8):List UInt8×Bool:=if isK l key=true then((l.getD (Bj l key) ([],[])).2,true) else([],false)
def Cm(l:List KV)(key:List UInt8):List KV×Bool:=if isK l key=true then(l.take (Bj l key)++l.drop (Bj l key+1),true) else(l,false)
def JP:∀(l:List KV) (key:List UInt8),Bj l key≤l.length
 |[],_=>Acj _
 |x::l,key=>by
  rw[Bj,Acx];have:=JP l key;by_cases h:Op.bytesLess x.1 key=true
  ·rw[if_pos h];omega
  ·rw[if_neg h];omega
def Ea(l:List KV)(key v:List UInt8):List KV:=(Cm l key).1.take (Bj (Cm l key).1 key)++[(key,v)]++(Cm l key).1.drop (Bj (Cm l key).1 key)
def Aae(l:List KV)(key:List UInt8):(Cm l key).1.length≤l.length:=by
 unfold Cm;by_cases h:isK l key=true
 ·rw[if_pos h];simp only[Aci,Acs,Ads];omega
 ·rw[if_neg h];exact Acj _
end Go.Gk.Tre
end
section
namespace Go.Gk.Tre
open Go Go.Gk Go.Gk.Dev Go.Gk.Cch Go.Gk.Pgr Go.Gk.Chn Go.Gk.Node
variable{a b c key v:List UInt8}{ks:List (List UInt8)}{cs A B P Q:List Int}{n:Ax}{m l:List KV}{s t:PD}{c' h z:Nat}{k:Int}{lf:Bool}
abbrev Lt(a b:List UInt8):Prop:=Op.bytesLess a b=true
def H8:¬Lt a a:=by simp[Lt,Ev]
def EG(h:Lt a b)(k:Lt b c):Lt a c:=Jv h k
def Jn(h:Lt a b):¬Lt b a:=fun k=>H8 (EG h k)
def I5(h:¬Lt b a)(k:Lt b c):Lt a c:=by
 rcases JB a b with q|q|q
 ·exact EG q k
 ·rw[q];exact k
 ·exact absurd q h
def G6(h:Lt a b)(k:¬Lt c b):Lt a c:=by
 rcases JB b c with q|q|q
 ·exact EG h q
 ·rw[←q];exact h
 ·exact absurd q k
def YU(h:¬Lt b a)(k:¬Lt c b):¬Lt c a:=fun q=>k (G6 q h)
def YL(h:¬Lt a b):a=b∨Lt b a:=by
 rcases JB a b with q|q|q
 ·exact absurd q h
 ·exact .inl q
 ·exact .inr q
def KO(ks:List (List UInt8)):Prop:=(∀k∈ks,1≤k.length∧k.length≤64)∧ks.Pairwise Lt
def Kr:CI ks ks.length=true↔KO ks:=by
 constructor
 ·intro h;refine⟨fun k hk=>?_,Aew.2 fun i j hi hj hij=>Kx h hj hij⟩
  obtain⟨i,hi,rfl⟩:=Aej hk;have:=GK.1 h i hi;simp only[kOk,Acb,decide_eq_true_eq,Acg,Acf hi,Aem] at this;exact this.1
 ·rintro⟨h1,h2⟩;rw[GK];intro k hk;have:=h1 _ (Acz hk);simp only[kOk,Acb,decide_eq_true_eq,Acg,Acf hk,Aem,Adu,beq_iff_eq];refine⟨this,?_⟩
  by_cases e:k=0
  ·exact .inl e
  ·refine .inr ?_;rw[Acf (show k - 1<ks.length by omega)];exact Aew.1 h2 (k - 1) k (by omega) hk (by omega)
def KO.app{a b}:KO (a++b)↔KO a∧KO b∧∀x∈a,∀y∈b,Lt x y:=by
 simp only[KO,List.pairwise_append,Ach];exact⟨fun⟨h,p1,p2,p3⟩=>⟨⟨fun k hk=>h k (.inl hk),p1⟩,⟨fun k hk=>h k (.inr hk),p2⟩,p3⟩,
  fun⟨⟨a1,a2⟩,⟨b1,b2⟩,c⟩=>⟨fun k hk=>hk.elim (a1 k) (b1 k),a2,b2,c⟩⟩
def KO.cons{x b}:KO (x::b)↔(1≤x.length∧x.length≤64)∧KO b∧∀y∈b,Lt x y:=by
 simp only[KO,List.pairwise_cons,Acw];exact⟨fun⟨h,p1,p2⟩=>⟨h x (.inl Z),⟨fun k hk=>h k (.inr hk),p2⟩,p1⟩,
  fun⟨a,⟨b1,b2⟩,c⟩=>⟨fun k hk=>hk.elim (fun e=>e▸a) (b1 k),c,b2⟩⟩
def KO.nil:KO []:=⟨fun _ h=>(by cases h),List.Pairwise.nil⟩
def B6{vs}:AX ⟨true,ks,vs,[]⟩=true↔KO ks∧vs.length=ks.length∧∀v∈vs,v.length≤16:=by
 simp only[AX,Acb,if_true,decide_eq_true_eq,Acv,GZ,Kr];exact⟨fun⟨a,⟨b,_⟩,c⟩=>⟨a,b,c⟩,fun⟨a,b,c⟩=>⟨a,⟨b,Z⟩,c⟩⟩
def BF:AX ⟨false,ks,[],cs⟩=true↔KO ks∧cs.length=ks.length+1∧∀c∈cs,0≤c∧c≤8191:=by
 simp only[AX,Acb,Ack,if_false,decide_eq_true_eq,Acv,FY,Kr];exact⟨fun⟨a,⟨_,b⟩,c⟩=>⟨a,b,c⟩,fun⟨a,b,c⟩=>⟨a,⟨Z,b⟩,c⟩⟩
def C0(h:AX n=true)(hl:n.leaf=true):n=⟨true,n.keys,n.vals,[]⟩:=by
 obtain⟨lf,ks,vs,cs⟩:=n;simp only at hl;subst hl;simp only[AX,Acb,if_true,decide_eq_true_eq] at h;rw[Acl h.2.1.2]
def DI(h:AX n=true)(hl:n.leaf=false):n=⟨false,n.keys,[],n.kids⟩:=by
 obtain⟨lf,ks,vs,cs⟩:=n;simp only at hl;subst hl;simp only[AX,Acb,Ack,if_false,decide_eq_true_eq] at h;rw[Acl h.2.1.1]
def Cf:List (List UInt8)→Nat
 |[]=>0
 |x::l=>x.length+Cf l
def Dd:∀a b:List (List UInt8),Cf (a++b)=Cf a+Cf b
 |[],b=>by simp[Cf]
 |x::a,b=>by simp only[Adv,Cf,Dd a b];omega
def KZ{l:List (List UInt8)}{k:Nat}(h:k<l.length):Cf (l.take (k+1))=Cf (l.take k)+l[k].length:=by
 rw[Acp h,Dd];simp[Cf]
def size_leaf{vs}(h:vs.length=ks.length):Bc ⟨true,ks,vs,[]⟩=2+2*ks.length+Cf ks+Cf vs:=by
 have key:∀k,k≤ks.length→Bx ⟨true,ks,vs,[]⟩ k=2*k+Cf (ks.take k)+Cf (vs.take k):=by
  intro k;induction k with
  |zero=>intro _;simp[Bx,Cf]
  |succ k ih=>
   intro hk
   rw[Bx,ih (by omega),KZ (show k<ks.length by omega),KZ (show k<vs.length by omega)]
   simp only[Ec,if_true,DW,FA,Acg,Acf (show k<ks.length by omega),Acf (show k<vs.length by omega),Aem]
   omega
 have:=key ks.length (Acj _);rw[Aec,←h,Aec,h] at this;simp only[Bc,if_true,this];omega
def size_inner:Bc ⟨false,ks,[],cs⟩=2+2*cs.length+ks.length+Cf ks:=by
 have key:∀k,k≤ks.length→Bx ⟨false,ks,[],cs⟩ k=k+Cf (ks.take k):=by
  intro k;induction k with
  |zero=>intro _;simp[Bx,Cf]
  |succ k ih=>
   intro hk
   rw[Bx,ih (by omega),KZ (show k<ks.length by omega)]
   simp only[Ec,Ack,if_false,DW,Acg,Acf (show k<ks.length by omega),Aem]
   omega
 have:=key ks.length (Acj _);rw[Aec] at this;simp only[Bc,Ack,if_false,this];omega
def OD{l}{n:Nat}(h:∀x∈l,x.length≤n):Cf l≤n*l.length:=by
 induction l with
 |nil=>simp[Cf]
 |cons x l ih=>
  have h1:=ih (fun y hy=>h y (Aco _ hy))
  have h2:=h x (Acm ..)
  simp only[Cf,Acx,Nat.mul_succ];omega
def V0(hs:AX n=true)(h:256<Bc n):F7 n=true:=by
 cases hl:n.leaf with
 |true=>
  have e:=C0 hs hl
  rw[e] at hs h⊢
  obtain⟨h1,h2,h3⟩:=B6.1 hs
  rw[size_leaf h2] at h
  have k1:=OD (fun x hx=>(h1.1 x hx).2)
  have k2:=OD h3
  simp only[F7,hs,Afm,if_true,decide_eq_true_eq]
  omega
 |false=>
  have e:=DI hs hl
  rw[e] at hs h⊢
  obtain⟨h1,h2,h3⟩:=BF.1 hs
  rw[size_inner] at h
  have k1:=OD (fun x hx=>(h1.1 x hx).2)
  simp only[F7,hs,Afm,Ack,if_false,decide_eq_true_eq]
  omega
def Io{vs}(hk:KO ks)(key:List UInt8):
  (∃a b,ks=a++key::b∧findD ⟨true,ks,vs,[]⟩ key=(a.length,true)∧(∀x∈a,Lt x key)∧∀x∈b,Lt key x)∨
  (∃a b,ks=a++b∧findD ⟨true,ks,vs,[]⟩ key=(a.length,false)∧(∀x∈a,Lt x key)∧∀x∈b,Lt key x):=by
 have e:ks=ks.takeWhile (Op.bytesLess · key)++ks.dropWhile (Op.bytesLess · key):=(Ags).symm
 have h1:∀x∈ks.takeWhile (Op.bytesLess · key),Lt x key:=fun x hx=>by
  have:=List.all_takeWhile (p:=(Op.bytesLess · key)) (l:=ks);exact Acv.1 this x hx
 have hl:low ⟨true,ks,vs,[]⟩ key=(ks.takeWhile (Op.bytesLess · key)).length:=Z
 have hf:findD ⟨true,ks,vs,[]⟩ key=(low ⟨true,ks,vs,[]⟩ key,decide (low ⟨true,ks,vs,[]⟩ key<ks.length)&& decide (ks.getD (low ⟨true,ks,vs,[]⟩ key) []=key)):=Z
 rw[hf,hl]
 generalize hA:ks.takeWhile (Op.bytesLess · key)=A at*
 cases hB:ks.dropWhile (Op.bytesLess · key) with
 |nil=>
  rw[hB] at e
  refine .inr ⟨A,[],e,?_,h1,fun x hx=>(by cases hx)⟩
  rw[e];simp
 |cons y B=>
  rw[hB] at e
  have hy:¬Lt y key:=by
   have:=List.head?_dropWhile_not (Op.bytesLess · key) ks;rw[hB] at this;simpa [Lt] using this
  have hr:∀x∈B,Lt y x:=by
   rw[e] at hk;exact(KO.cons.1 (KO.app.1 hk).2.1).2.2
  have hg:(A++y::B).getD A.length []=y:=by simp
  rcases YL hy with q|q
  ·subst q
   refine .inl ⟨A,B,e,?_,h1,hr⟩
   rw[e,hg];simp
  ·refine .inr ⟨A,y::B,e,?_,h1,fun x hx=>?_⟩
   ·rw[e,hg]
    have:y≠key:=fun h=>H8 (h▸q)
    simp[this]
   ·rcases Acw.1 hx with rfl|hx
    ·exact q
    ·exact EG q (hr x hx)
def Hl(hs:AX ⟨false,ks,[],cs⟩=true)(key:List UInt8):
  ∃a b,ks=a++b∧findD ⟨false,ks,[],cs⟩ key=(a.length,false)∧(∀x∈a,¬Lt key x)∧∀x∈b,Lt key x:=by
 have hk:=(BF.1 hs).1
 rw[find_eq _ _ hs]
 refine⟨ks.takeWhile (leB · key),ks.dropWhile (leB · key),(Ags).symm,Z,fun x hx=>?_,fun x hx=>?_⟩
 ·have:=Acv.1 (List.all_takeWhile (p:=(leB · key)) (l:=ks)) x hx
  simp only[leB,Adu,decide_eq_true_eq] at this
  rcases this with h|h
  ·exact Jn h
  ·rw[h];exact H8
 ·cases hB:ks.dropWhile (leB · key) with
  |nil=>rw[hB] at hx;cases hx
  |cons y B=>
   have hy:Lt key y:=by
    have:=List.head?_dropWhile_not (leB · key) ks;rw[hB] at this;simp only[leB,List.head?_cons,Bool.or_eq_false_iff,decide_eq_false_iff_not] at this;rcases YL (a:=y) (b:=key) (by simp[Lt,this.1]) with q|q
    ·exact absurd q this.2
    ·exact q
   have hr:∀x∈B,Lt y x:=by
    rw[←Ags (p:=(leB · key)) (l:=ks),hB] at hk;exact(KO.cons.1 (KO.app.1 hk).2.1).2.2
   rw[hB] at hx
   rcases Acw.1 hx with rfl|hx
   ·exact hy
   ·exact EG hy (hr x hx)
def G7{a b}(h:∀x∈a,Lt x.1 key):Bj (a++b) key=a.length+Bj b key:=by
 induction a with
 |nil=>simp
 |cons x a ih=>
  rw[Adv,Bj,if_pos (h x (Acm ..)),ih (fun y hy=>h y (Aco _ hy)),Acx];omega
def Ij{b}(h:∀x∈b,Lt key x.1):Bj (m++b) key=Bj m key:=by
 induction m with
 |nil=>
  cases b with
  |nil=>rfl
  |cons x b=>
   have:=Jn (h x (Acm ..))
   show(if Op.bytesLess x.1 key=true then Bj b key+1 else 0)=0
   rw[if_neg this]
 |cons x m ih=>
  rw[Adv,Bj,Bj,ih]
def Em{a b}(ha:∀x∈a,Lt x.1 key)(hb:∀x∈b,Lt key x.1):isK (a++m++b) key=isK m key:=by
 unfold isK;rw[Ace,G7 ha,Ij hb];have hle:=JP m key;by_cases e:Bj m key<m.length
 ·rw[show(a++(m++b)).getD (a.length+Bj m key) ([],[])=m.getD (Bj m key) ([],[]) by simp[Aga,Aeo,Aex e]];simp[e];omega
 ·have e1:Bj m key=m.length:=by omega
  rw[e1];cases b with
  |nil=>simp
  |cons x b=>
   have hx:=hb x (Acm ..)
   have:(a++(m++x::b)).getD (a.length+m.length) ([],[])=x:=by simp[Aga]
   rw[this]
   have hne:x.1≠key:=fun h=>H8 (h▸hx)
   simp[hne]
def Ni{a b}(ha:∀x∈a,Lt x.1 key)(hb:∀x∈b,Lt key x.1):Cm (a++m++b) key=(a++(Cm m key).1++b,isK m key):=by
 unfold Cm;rw[Em ha hb];by_cases h:isK m key=true
 ·have hlt:Bj m key<m.length:=by simp only[isK,Acb,decide_eq_true_eq] at h;exact h.1
  rw[if_pos h,if_pos h,h,Ace,G7 ha,Ij hb];congr 1;rw[List.take_append,Ahj,Ady (show a.length≤a.length+Bj m key by omega),Afe (show a.length≤a.length+Bj m key+1 by omega),
   show a.length+Bj m key - a.length=Bj m key by omega,show a.length+Bj m key+1 - a.length=Bj m key+1 by omega,Aep (by omega),Afy (by omega)]
  simp
 ·rw[if_neg h,if_neg h];simp only[Bool.not_eq_true] at h;rw[h]
def MW{a b}(ha:∀x∈a,Lt x.1 key)(hb:∀x∈b,Lt key x.1):EY (a++m++b) key=EY m key:=by
 unfold EY;rw[Em ha hb];by_cases h:isK m key=true
 ·have hlt:Bj m key<m.length:=by simp only[isK,Acb,decide_eq_true_eq] at h;exact h.1
  rw[if_pos h,if_pos h,Ace,G7 ha,Ij hb];congr 2;simp[Aga,Aeo,Aex hlt]
 ·rw[if_neg h,if_neg h]
def ME{a b}(ha:∀x∈a,Lt x.1 key)(hb:∀x∈b,Lt key x.1):Ea (a++m++b) key v=a++Ea m key v++b:=by
 unfold Ea;rw[Ni ha hb];simp only;generalize (Cm m key).1=m;have hle:=JP m key;rw[show a++m++b=a++(m++b) from Ace ..,G7 ha,Ij hb,List.take_append,Ahj,Ady (show a.length≤a.length+Bj m key by omega),Afe (show a.length≤a.length+Bj m key by omega),
   show a.length+Bj m key - a.length=Bj m key by omega,Aep (by omega),Afy (by omega)]
 simp
def O2:isK [] key=false:=Z
def Yy:Ea [] key v=[(key,v)]:=Z
def HA{w}:isK [(key,w)] key=true:=by
 simp[isK,Bj,Ev]
def QO{w}:(Cm [(key,w)] key).1=[]:=by
 simp[Cm,HA,Bj,Ev]
def Xg{w}:Ea [(key,w)] key v=[(key,v)]:=by
 unfold Ea;rw[QO];rfl
def QM{w}:EY [(key,w)] key=(w,true):=by
 simp[EY,HA,Bj,Ev]
def H6{x:KV}(h:x∈(Cm l key).1):x∈l:=by
 unfold Cm at h;split at h
 ·rcases Ach.1 h with q|q
  ·exact Ago q
  ·exact Agp q
 ·exact h
def Nn{x:KV}(h:x∈Ea l key v):x=(key,v)∨x∈l:=by
 unfold Ea at h;rcases Ach.1 h with q|q
 ·rcases Ach.1 q with q|q
  ·exact .inr (H6 (Ago q))
  ·exact .inl (Adh.1 q)
 ·exact .inr (H6 (Agp q))
def QB:(Cm l key).1.length+(if isK l key=true then 1 else 0)=l.length:=by
 unfold Cm;by_cases h:isK l key=true
 ·have hlt:Bj l key<l.length:=by simp only[isK,Acb,decide_eq_true_eq] at h;exact h.1
  rw[if_pos h,if_pos h];simp only[Aci,Acs,Ads];omega
 ·rw[if_neg h,if_neg h];rfl
def Rx:(Ea l key v).length=l.length+(if isK l key=true then 0 else 1):=by
 have h1:=QB (l:=l) (key:=key);have h2:=JP (Cm l key).1 key;unfold Ea;simp only[Aci,Acs,Ads,Afa];by_cases h:isK l key=true
 ·rw[if_pos h] at h1⊢;omega
 ·rw[if_neg h] at h1⊢;omega
structure Mv (s t:PD) (A B:List Int) (c:Nat):Prop where
 lv:∀k,A6 t k↔(A6 s k∧k∉A)∨k∈B
 nw:∀k∈B,A6 s k→k∈A
 nd:B.Nodup
 st:∀k,A6 s k→k∉A→t.kind k=s.kind k∧t.bytes k=s.bytes k
 fr:s.free≤t.free+c
 gd:Pgr.Good t
def Mv.refl(h:Pgr.Good s):Mv s s [] [] 0:=⟨fun k=>by simp,fun k hk=>(by cases hk),Agd,fun _ _ _=>⟨Z,Z⟩,Acj _,h⟩
def Mv.trans{u}{C:List Int}{c:Nat}(h:Mv s t A B c)(k:Mv t u B C c'):Mv s u A C (c+c'):=by
 have hx:∀p,A6 s p→p∉A→p∉B:=fun p h1 h2 h3=>h2 (h.nw p h3 h1);refine⟨fun p=>?_,fun p hp hs=>?_,k.nd,fun p hs hA=>?_,by have:=h.fr;have:=k.fr;omega,k.gd⟩
 ·rw[k.lv,h.lv];constructor
  ·rintro(⟨h1|h1,h2⟩|h1)
   ·exact .inl h1
   ·exact absurd h1 h2
   ·exact .inr h1
  ·rintro(h1|h1)
   ·exact .inl ⟨.inl h1,hx p h1.1 h1.2⟩
   ·exact .inr h1
 ·by_cases q:p∈A
  ·exact q
  ·exact absurd (k.nw p hp ((h.lv p).2 (.inl ⟨hs,q⟩))) (hx p hs q)
 ·obtain⟨a1,a2⟩:=h.st p hs hA;obtain⟨b1,b2⟩:=k.st p ((h.lv p).2 (.inl ⟨hs,hA⟩)) (hx p hs hA);exact⟨b1.trans a1,b2.trans a2⟩
def Mv.frame{R:List Int}{c:Nat}(h:Mv s t A B c)(h1:∀k∈R,A6 s k)(h2:R.Nodup)(h3:∀k∈R,k∉A):Mv s t (A++R) (B++R) c:=by
 refine⟨fun p=>?_,fun p hp hs=>?_,?_,fun p hs hA=>h.st p hs (fun q=>hA (Ada _ q)),h.fr,h.gd⟩
 ·rw[h.lv];simp only[Ach];constructor
  ·rintro(⟨a,b⟩|a)
   ·by_cases q:p∈R
    ·exact .inr (.inr q)
    ·exact .inl ⟨a,fun e=>e.elim b q⟩
   ·exact .inr (.inl a)
  ·rintro(⟨a,b⟩|a|a)
   ·exact .inl ⟨a,fun q=>b (.inl q)⟩
   ·exact .inr a
   ·exact .inl ⟨h1 p a,h3 p a⟩
 ·rcases Ach.1 hp with q|q
  ·exact Ada _ (h.nw p q hs)
  ·exact Acy _ q
 ·refine Ael.2 ⟨h.nd,h2,fun a ha b hb e=>?_⟩;subst e;exact h3 a hb (h.nw a ha (h1 a hb))
def Mv.perm{A' B':List Int}{c:Nat}(h:Mv s t A B c)(ha:A'.Perm A)(hb:B'.Perm B):Mv s t A' B' c:=
 ⟨fun p=>by rw[h.lv,ha.mem_iff,hb.mem_iff],fun p hp hs=>ha.mem_iff.2 (h.nw p (hb.mem_iff.1 hp) hs),hb.nodup_iff.2 h.nd,fun p hs hA=>h.st p hs (fun q=>hA (ha.mem_iff.2 q)),h.fr,h.gd⟩
def Mv.mono{c:Nat}(h:Mv s t A B c)(hc:c≤c'):Mv s t A B c':=⟨h.lv,h.nw,h.nd,h.st,by have:=h.fr;omega,h.gd⟩
def Mv.then{u}{A' B' R:List Int}{c:Nat}(h:Mv s t A B c)(k:Mv t u A' B' c')(hp:(B++R).Perm A')(h1:∀k∈R,A6 s k)(h2:R.Nodup)(h3:∀k∈R,k∉A):Mv s u (A++R) B' (c+c'):=
 (h.frame h1 h2 h3).trans (k.perm hp (Adz _))
def Yv{i:Nat}{x:Int}{fb:Nat→Sec}(hi:i<s.kinds.length):({s with kinds:=s.kinds.set i x,fb:=fb}:PD).kind k=if k=((s.frm+i:Nat):Int) then x else s.kind k:=by
 unfold PD.kind;simp only[Aev];by_cases e:k=((s.frm+i:Nat):Int)
 ·subst e;rw[if_pos (by omega),if_pos Z];show(s.kinds.set i x).getD _ 0=x;rw[Dg hi,if_pos (by omega)]
 ·rw[if_neg e];by_cases q:(s.frm:Int)≤k∧k<(s.frm:Int)+s.kinds.length
  ·rw[if_pos q,if_pos q];show(s.kinds.set i x).getD _ 0=s.kinds.getD _ 0;rw[Dg hi,if_neg (by omega)]
  ·rw[if_neg q,if_neg q]
def Il(hG:Pgr.Good s)(hk:A6 s k):(s.drop k).2=0∧Mv s (s.drop k).1 [k] [] 0:=by
 obtain⟨x,hx,i,i1,rfl,i2,i3,he⟩:∃x:Int,(x=0∨x=3)∧∃i,i<s.kinds.length∧k=((s.frm+i:Nat):Int)∧(s.kd i=1∨s.kd i=2)∧(k - s.frm).toNat=i∧s.drop k=({s with kinds:=s.kinds.set i x},0):=by
  rcases hk with hk|hk
  ·obtain⟨i,i1,i2,i3,i4⟩:=Cu hk (by omega);exact⟨0,.inl Z,i,i1,i2,.inl i3,i4,by unfold PD.drop;rw[if_pos hk,i4]⟩
  ·obtain⟨i,i1,i2,i3,i4⟩:=Cu hk (by omega);exact⟨3,.inr Z,i,i1,i2,.inr i3,i4,by unfold PD.drop;rw[if_neg (by omega),if_pos hk,i4]⟩
 have hGd:=Iv hG ((s.frm+i:Nat):Int);rw[he] at hGd⊢;have hkind:∀p,({s with kinds:=s.kinds.set i x}:PD).kind p=if p=((s.frm+i:Nat):Int) then x else s.kind p:=fun p=>Yv (fb:=s.fb) i1
 refine⟨Z,fun p=>?_,fun p hp=>(by cases hp),Agd,fun p hs hp=>?_,?_,hGd⟩
 ·unfold A6;rw[hkind];by_cases e:p=((s.frm+i:Nat):Int)
  ·subst e;rw[if_pos Z];rcases hx with rfl|rfl<;>simp
  ·rw[if_neg e];exact⟨fun h=>.inl ⟨h,fun q=>e (Adh.1 q)⟩,fun h=>h.elim And.left (fun q=>by cases q)⟩
 ·have e:p≠((s.frm+i:Nat):Int):=by simpa using hp
  have:=hkind p;rw[if_neg e] at this;refine⟨this,?_⟩
  unfold PD.bytes;rw[this]
 ·have:=MF (s:=s) (i:=i) (x:=x) i1;rw[if_neg (by rw[←K4 i1];omega)] at this;show s.free≤(s.kinds.set i x).countP (·==0)+0;omega
def Tk.mv{l:List Int}(h:Tk s t l)(hG:Pgr.Good t):Mv s t [] l l.length:=by
 refine⟨fun p=>?_,fun p hp hs=>?_,h.nd,fun p hs _=>?_,by have:=h.free;omega,hG⟩
 ·unfold A6;rw[h.kind];by_cases q:p∈l
  ·simp[q]
  ·simp[q]
 ·refine absurd hp (h.not ?_);rcases hs with hs|hs<;>omega
 ·have:p∉l:=h.not (by rcases hs with hs|hs<;>omega);exact⟨by rw[h.kind,if_neg this],h.bytes this⟩
def Oz(hG:Pgr.Good s):(s.AR.2.2=0∧Mv s s.AR.1 [] [s.AR.2.1] 1∧s.AR.1.kind s.AR.2.1=1)∨(s.AR.2.2=190∧s.free=0):=by
 rcases (Tk.nil s).take with ⟨h1,h2⟩|⟨h1,_,h3⟩
 ·refine .inl ⟨h1,Tk.mv h2 (ET hG),?_⟩;rw[h2.kind,if_pos (by simp)]
 ·exact .inr ⟨h1,h3⟩
def QH(hG:Pgr.Good s){b:Sec}(hk:s.kind k=1)(hb:b.length=256):(s.put k b).2=0∧Mv s (s.put k b).1 [k] [k] 0∧(s.put k b).1.bytes k=b∧(s.put k b).1.kind k=1:=by
 have hg:=H0 hG k b;have hkd:=fun p=>Rr (k':=p) hk hb;have hby:=fun p=>KA (k':=p) hk hb;refine⟨by unfold PD.put;rw[if_pos hk,if_pos hb],⟨fun p=>?_,fun p hp _=>hp,by simp,fun p hs hp=>⟨hkd p,?_⟩,?_,hg⟩,by rw[hby,if_pos Z],by rw[hkd];exact hk⟩
 ·unfold A6;rw[hkd];by_cases e:p=k
  ·subst e;simp[hk]
  ·simp[e]
 ·rw[hby,if_neg (by simpa using hp)]
 ·rw[Ih hk hb];exact Acj _
structure At (s:PD) (k:Int) (n:Ax):Prop where
 liv:A6 s k
 byt:s.bytes k=B8 n
 rgt:AV n=true
def At.sound(h:At s k n):AX n=true:=by have:=h.rgt;simp only[AV,Acb] at this;exact this.1
def At.size(h:At s k n):Bc n≤256:=by have:=h.rgt;simp only[AV,Acb,decide_eq_true_eq] at this;exact this.2
def At.read(h:At s k n):Bw s k=(n,0):=by
 unfold Bw Dz GA;rw[if_pos h.liv,h.byt,WN h.rgt];rfl
def At.level{x:Int}(h:At s k n)(hl:n.leaf=decide (x=1)):AN s k x=(n,0):=by
 unfold AN;rw[h.read];simp[hl]
def At.stay(h:At s k n)(hs:t.kind k=s.kind k∧t.bytes k=s.bytes k):At t k n:=
 ⟨by unfold A6;rw[hs.1];exact h.liv,by rw[hs.2];exact h.byt,h.rgt⟩
def DD(hG:Pgr.Good s)(h:A6 s k):0≤k∧k≤8191:=by
 have key:∀x:Int,0≤x→s.kind k=x→0≤k∧k≤8191:=fun x hx hk=>by
  obtain⟨i,i1,rfl, -⟩:=Cu hk hx;have:=hG.inn;have:=hG.syn;omega
 rcases h with h|h
 ·exact key 1 (by omega) h
 ·exact key 2 (by omega) h
def Ld(hG:Pgr.Good s)(hr:AV n=true):
  ((A5 s (-1) n).2.2=0∧Mv s (A5 s (-1) n).1 [] [(A5 s (-1) n).2.1] 1∧At (A5 s (-1) n).1 (A5 s (-1) n).2.1 n)∨((A5 s (-1) n).2.2=190∧s.free<1):=by
 have hg:=K7 hG (k:= -1) (n:=n)
 unfold A5 at*
 rw[if_pos hr,if_neg (by omega)] at*
 rcases Oz hG with ⟨h1,h2,h3⟩|⟨h1,h2⟩
 ·rw[if_neg (by omega),if_neg (by omega)] at*
  obtain⟨p1,p2,p3,p4⟩:=QH h2.gd h3 (Fp hr)
  refine .inl ⟨p1,(h2.trans p2).mono (by omega),⟨.inl p4,p3,hr⟩⟩
 ·rw[if_pos (by omega)]
  exact .inr ⟨h1,by omega⟩
def Vu(hG:Pgr.Good s)(hr:AV n=true)(hk:A6 s k):
  ((A5 s k n).2.2=0∧Mv s (A5 s k n).1 [k] [(A5 s k n).2.1] 1∧At (A5 s k n).1 (A5 s k n).2.1 n)∨((A5 s k n).2.2=190∧s.free<1):=by
 have h0:=(DD hG hk).1
 unfold A5
 rw[if_pos hr]
 rcases hk with hk|hk
 ·obtain⟨p1,p2,p3,p4⟩:=QH hG hk (Fp hr)
  rw[if_pos ⟨h0,by rw[p1];decide⟩]
  exact .inl ⟨p1,p2.mono (by omega),⟨.inl p4,p3,hr⟩⟩
 ·rw[if_neg (by unfold PD.put;rw[if_neg (by omega)];simp)]
  rcases Oz hG with ⟨h1,h2,h3⟩|⟨h1,h2⟩
  ·rw[if_neg (by omega),if_pos h0]
   have hl:A6 s.AR.1 k:=(h2.lv k).2 (.inl ⟨.inr hk,by simp⟩)
   obtain⟨d1,d2⟩:=Il h2.gd hl
   rw[if_neg (by omega)]
   have hne:s.AR.2.1≠k:=fun e=>by
    have:=h2.nw s.AR.2.1 (by simp) (by rw[e];exact .inr hk);cases this
   have hl2:A6 s.AR.1 s.AR.2.1:=.inl h3
   have hk2:(s.AR.1.drop k).1.kind s.AR.2.1=1:=by rw[(d2.st _ hl2 (by simpa using hne)).1];exact h3
   obtain⟨p1,p2,p3,p4⟩:=QH d2.gd hk2 (Fp hr)
   refine .inl ⟨p1,?_,⟨.inl p4,p3,hr⟩⟩
   have m1:=h2.frame (R:=[k]) (by simp;exact .inr hk) (by simp) (by simp)
   have m2:=d2.frame (R:=[s.AR.2.1]) (by simp;exact hl2) (by simp) (by simpa using hne)
   exact((m1.trans (m2.perm (by simpa using Adb _ _ _) (Adz _))).trans p2).mono (by omega)
  ·rw[if_pos (by omega)]
   exact .inr ⟨h1,by omega⟩
def Z0(hG:Pgr.Good s)(hs:AX n=true)(hh:256<Bc n→N6 n)(hk:A6 s k):
  ((BG s k n).2.2=0∧((∃p,(BG s k n).2.1=⟨p, -1,[],Bc n⟩∧Mv s (BG s k n).1 [k] [p] 2∧At (BG s k n).1 p n)∨
   (F7 n=true∧N6 n∧∃p q,(BG s k n).2.1=⟨p,q,CE n,256⟩∧0≤q∧Mv s (BG s k n).1 [k] [p,q] 2∧At (BG s k n).1 p (BJ n)∧At (BG s k n).1 q (B0 n))))∨
  ((BG s k n).2.2=190∧s.free<2):=by
 unfold BG
 by_cases hr:AV n=true
 ·rw[if_pos hr]
  rcases Vu hG hr hk with ⟨h1,h2,h3⟩|⟨h1,h2⟩
  ·exact .inl ⟨h1,.inl ⟨_,Z,h2.mono (by omega),h3⟩⟩
  ·exact .inr ⟨h1,by omega⟩
 ·have hz:256<Bc n:=by
   simp only[AV,hs,Afm,decide_eq_true_eq] at hr;omega
  have hc:=V0 hs hz
  have hH:=hh hz
  rw[if_neg hr,if_pos hc]
  dsimp only
  rcases Vu hG hH.r1 hk with ⟨h1,h2,h3⟩|⟨h1,h2⟩
  ·rw[if_pos h1]
   rcases Ld h2.gd hH.r2 with ⟨k1,k2,k3⟩|⟨k1,k2⟩
   ·refine .inl ⟨k1,.inr ⟨hc,hH,_,_,Z,(DD k2.gd k3.liv).1,?_,?_,k3⟩⟩
    ·refine((h2.trans (k2.frame (R:=[(A5 s k (BJ n)).2.1]) (by simp;exact h3.liv) (by simp) (by simp))).perm (Adz _) ?_).mono (by omega)
     exact Adb _ _ _
    ·exact h3.stay (k2.st _ h3.liv (by simp))
   ·exact .inr ⟨k1,by have:=h2.fr;omega⟩
  ·rw[if_neg (by omega)]
   exact .inr ⟨h1,by omega⟩
def Ce(s:PD)(c v:List UInt8)(P:List Int):Prop:=(v.length≤15∧c=0::v∧P=[])∨(15<v.length∧v.length≤16384∧FV s v P∧c=F3 (P.getD 0 0) v.length)
def IP{x:Int}(_:0≤x):(bI x).toNat=(x % 256).toNat:=by
 unfold bI;rw[UInt8.toNat_ofNat'];omega
def M0{h n:Int}:EK (F3 h n)=true:=by simp[EK,F3]
def Lq{h n:Int}:inB (F3 h n)=false:=by simp[inB,F3]
def Mw{h n:Int}(h0:0≤h)(h1:h<65536):((EJ (F3 h n):Nat):Int)=h:=by
 unfold EJ F3;simp only[Afq,Afr];rw[IP (by omega),IP h0];omega
def JM{h:Int}{n:Nat}(h1:n<4294967296):DL (F3 h n)=n:=by
 unfold DL F3;simp only[Afq,Afr];rw[IP (by omega),IP (by omega),IP (by omega),IP (by omega)];omega
def Ce.len(h:Ce s c v P):c.length≤16:=by
 rcases h with ⟨h1,rfl, -⟩|⟨-, -, -,rfl⟩
 ·simp;omega
 ·simp[F3]
def Ce.live(h:Ce s c v P):∀k∈P,A6 s k:=by
 rcases h with ⟨-, -,rfl⟩|⟨-, -,h, -⟩
 ·exact fun k hk=>by cases hk
 ·intro k hk;obtain⟨j,hj,rfl⟩:=Aej hk;exact h.live j hj
def Ce.stay(h:Ce s c v P)(hs:∀k∈P,t.kind k=s.kind k∧t.bytes k=s.bytes k):Ce t c v P:=by
 rcases h with h|⟨h1,h2,h3,h4⟩
 ·exact .inl h
 ·exact .inr ⟨h1,h2,h3.stay hs,h4⟩
def JH(h:FV s v P):0≤P.getD 0 0∧P.getD 0 0<65535:=by
 have h0:0<P.length:=by rw[h.len];exact PM
 rw[HL h0];exact h.rng _ (Acz h0)
def Ce.val(h:Ce s c v P):BU s c=(v,0):=by
 unfold BU;rcases h with ⟨h1,rfl, -⟩|⟨h1,h2,h3,rfl⟩
 ·rw[if_pos (by simp[inB])];rfl
 ·obtain⟨q1,q2⟩:=JH h3;rw[if_neg (by rw[Lq];decide),if_pos M0,JM (by omega),Mw q1 (by omega),IE h3 h2]
def Ce.Dn(h:Ce s c v P):Dn c=if 15<v.length then AM v.length else 0:=by
 unfold Tre.Dn;rcases h with ⟨h1,rfl, -⟩|⟨h1,h2,h3,rfl⟩
 ·rw[if_pos (by simp[inB]),if_neg (by omega)]
 ·rw[if_neg (by rw[Lq];decide),if_pos h1,JM (by omega)]
def Nv:∀{l:List Int}{s},Pgr.Good s→(∀k∈l,A6 s k)→l.Nodup→(GH s l).2=0∧Mv s (GH s l).1 l [] 0
 |[],s,hG,_,_=>⟨Z,Mv.refl hG⟩
 |k::l,s,hG,hl,hn=>by
  obtain⟨n1,n2⟩:=Afn.1 hn;obtain⟨d1,d2⟩:=Il hG (hl k (Acm ..));have hne:∀p∈l,p∉ [k]:=fun p hp q=>n1 (Adh.1 q▸hp);obtain⟨k1,k2⟩:=Nv (l:=l) d2.gd (fun p hp=>(d2.lv p).2 (.inl ⟨hl p (Aco _ hp),hne p hp⟩)) n2;rw[GH,if_pos d1];refine⟨k1,?_⟩
  have:=d2.then (R:=l) k2 (Adz _) (fun p hp=>hl p (Aco _ hp)) n2 hne;exact this
def Ce.Aa4(hG:Pgr.Good s)(h:Ce s c v P)(hn:P.Nodup):(Cs s c).2=0∧Mv s (Cs s c).1 P [] 0:=by
 have hl:=h.live;unfold Cs;rcases h with ⟨h1,rfl,rfl⟩|⟨h1,h2,h3,rfl⟩
 ·rw[if_pos (by simp[inB])];exact⟨Z,Mv.refl hG⟩
 ·obtain⟨q1,q2⟩:=JH h3;rw[if_neg (by rw[Lq];decide),if_pos M0,JM (by omega),Mw q1 (by omega)];unfold NM;rw[IE h3 h2,if_pos Z];exact Nv hG hl hn
def JL:∀(n:Nat) {s}(l:List Int),Pgr.Good s→Pgr.Good (BB s l n).1
 |0,s,l,h=>h
 |n+1,s,l,h=>by
  rw[BB];split
  ·exact JL n _ (ET h)
  ·exact ET h
def Nu:∀(l:List Int) {s},Pgr.Good s→Pgr.Good (C5 s l)
 |[],_,h=>h
 |k::l,_,h=>Nu l (Iv h k)
def Ph(h:Pgr.Good s){l:List Int}:∀i,Pgr.Good (Chn.C8 s l b i)
 |0=>h
 |i+1=>H0 (Ph h i) _ _
def Ps(h:Pgr.Good s):Pgr.Good (B1 s b).1:=by
 have ht:Pgr.Good (Chn.Bi s (AM b.length)).1:=by
  unfold Chn.Bi;split
  ·exact JL _ _ h
  ·exact Nu _ (JL _ _ h)
 unfold B1;dsimp only;split
 ·exact Ph ht _
 ·exact ht
def TC(hG:Pgr.Good s)(hv:v.length≤16384):
  ((Bs s v).2.2=0∧∃P,Mv s (Bs s v).1 [] P (AM v.length)∧Ce (Bs s v).1 (Bs s v).2.1 v P)∨((Bs s v).2.2=190∧s.free<AM v.length):=by
 have hg:Pgr.Good (Bs s v).1:=by
  unfold Bs;split
  ·exact hG
  ·exact Ps hG
 unfold Bs at*
 by_cases h:v.length≤15
 ·rw[if_pos h] at*
  exact .inl ⟨Z,[],(Mv.refl hG).mono (Adf _),.inl ⟨h,Z,Z⟩⟩
 ·rw[if_neg h] at*
  by_cases hr:AM v.length≤s.free
  ·obtain⟨t,l,e,h1,h2,h3,h4,h5,h6⟩:=Wo hG hr
   rw[e] at hg⊢
   refine .inl ⟨Z,l,⟨fun p=>?_,fun p hp hs=>?_,h6,fun p hs _=>?_,(by show s.free≤t.free+_;omega),hg⟩,.inr ⟨by omega,hv,h1,Z⟩⟩
   ·by_cases q:p∈l
    ·have:=(h2 p q).1;simp[A6,q,this]
    ·have:=(h5 p q).1;simp[A6,q,this]
   ·have:=(h2 p hp).2
    rcases hs with hs|hs<;>omega
   ·refine h5 p (fun hp=>?_)
    have:=(h2 p hp).2
    rcases hs with hs|hs<;>omega
  ·obtain⟨t,e, -⟩:=WI (b:=v) (show s.free<AM v.length by omega)
   rw[e]
   exact .inr ⟨Z,by omega⟩
def Lf(s:PD):List (List UInt8)→List (List UInt8)→List KV→List Int→Prop
 |[],[],l,P=>l=[]∧P=[]
 |k::ks,c::cs,l,P=>∃v l' P1 P2,l=(k,v)::l'∧P=P1++P2∧Ce s c v P1∧Lf s ks cs l' P2
 |_,_,_,_=>False
def Lf.len:∀{ks vs l}{P:List Int},Lf s ks vs l P→vs.length=ks.length∧l.length=ks.length
 |[],[],l,P,h=>by rw[Lf] at h;rw[h.1];exact⟨Z,Z⟩
 |[],_::_,l,P,h=>by rw[Lf] at h<;>simp_all
 |_::_,[],l,P,h=>by rw[Lf] at h<;>simp_all
 |k::ks,c::cs,l,P,h=>by
  rw[Lf] at h;obtain⟨v,l',P1,P2,rfl,rfl,h1,h2⟩:=h;obtain⟨a,b⟩:=h2.len;simp[a,b]
def Lf.keys:∀{ks vs l}{P:List Int},Lf s ks vs l P→ks=l.map Prod.fst
 |[],[],l,P,h=>by rw[Lf] at h;rw[h.1];rfl
 |[],_::_,l,P,h=>by rw[Lf] at h<;>simp_all
 |_::_,[],l,P,h=>by rw[Lf] at h<;>simp_all
 |k::ks,c::cs,l,P,h=>by
  rw[Lf] at h;obtain⟨v,l',P1,P2,rfl,rfl,h1,h2⟩:=h;rw[List.map_cons,←h2.keys]
def Lf.join:∀{ks vs ks' vs' l l'}{P P':List Int},Lf s ks vs l P→Lf s ks' vs' l' P'→Lf s (ks++ks') (vs++vs') (l++l') (P++P')
 |[],[],ks',vs',l,l',P,P',h,h'=>by rw[Lf] at h;obtain⟨rfl,rfl⟩:=h;exact h'
 |[],_::_,ks',vs',l,l',P,P',h,h'=>by rw[Lf] at h<;>simp_all
 |_::_,[],ks',vs',l,l',P,P',h,h'=>by rw[Lf] at h<;>simp_all
 |k::ks,c::cs,ks',vs',l,l',P,P',h,h'=>by
  rw[Lf] at h;obtain⟨v,l1,P1,P2,rfl,rfl,h1,h2⟩:=h;rw[Adv,Adv,Lf];exact⟨v,l1++l',P1,P2++P',Z,by rw[Ace],h1,h2.join h'⟩
def Lf.split:∀{ks vs ks' vs' l}{P:List Int},Lf s (ks++ks') (vs++vs') l P→vs.length=ks.length→∃l1 l2 P1 P2,l=l1++l2∧P=P1++P2∧Lf s ks vs l1 P1∧Lf s ks' vs' l2 P2
 |[],[],ks',vs',l,P,h,_=>⟨[],l,[],P,Z,Z,⟨Z,Z⟩,h⟩
 |[],_::_,ks',vs',l,P,h,e=>by cases e
 |_::_,[],ks',vs',l,P,h,e=>by cases e
 |k::ks,c::cs,ks',vs',l,P,h,e=>by
  rw[Adv,Adv,Lf] at h;obtain⟨v,l',P1,P2,rfl,rfl,h1,h2⟩:=h;obtain⟨l1,l2,Q1,Q2,rfl,rfl,k1,k2⟩:=h2.split (by simpa using e);exact⟨(k,v)::l1,l2,P1++Q1,Q2,Z,by rw[Ace],⟨v,l1,P1,Q1,Z,Z,h1,k1⟩,k2⟩
def Lf.stay:∀{ks vs l}{P:List Int},Lf s ks vs l P→(∀k∈P,t.kind k=s.kind k∧t.bytes k=s.bytes k)→Lf t ks vs l P
 |[],[],l,P,h,_=>by rw[Lf] at h⊢;exact h
 |[],_::_,l,P,h,_=>by rw[Lf] at h<;>simp_all
 |_::_,[],l,P,h,_=>by rw[Lf] at h<;>simp_all
 |k::ks,c::cs,l,P,h,hs=>by
  rw[Lf] at h⊢;obtain⟨v,l',P1,P2,rfl,rfl,h1,h2⟩:=h;exact⟨v,l',P1,P2,Z,Z,h1.stay (fun k hk=>hs k (Ada _ hk)),h2.stay (fun k hk=>hs k (Acy _ hk))⟩
def Lf.live:∀{ks vs l}{P:List Int},Lf s ks vs l P→∀k∈P,A6 s k
 |[],[],l,P,h=>by rw[Lf] at h;rw[h.2];exact fun k hk=>by cases hk
 |[],_::_,l,P,h=>by rw[Lf] at h<;>simp_all
 |_::_,[],l,P,h=>by rw[Lf] at h<;>simp_all
 |k::ks,c::cs,l,P,h=>by
  rw[Lf] at h;obtain⟨v,l',P1,P2,rfl,rfl,h1,h2⟩:=h;intro k hk;rcases Ach.1 hk with q|q
  ·exact h1.live k q
  ·exact h2.live k q
def Lf.one{k}(h:Ce s c v P):Lf s [k] [c] [(k,v)] P:=⟨v,[],P,[],Z,by simp,h,⟨Z,Z⟩⟩
def Lf.AaI{k}(h:Lf s [k] [c] l P):∃v,l=[(k,v)]∧Ce s c v P:=by
 rw[Lf] at h;obtain⟨v,l',P1,P2,rfl,rfl,h1,h2⟩:=h;rw[Lf] at h2;obtain⟨rfl,rfl⟩:=h2;exact⟨v,Z,by simpa using h1⟩
abbrev RT:=Int→List KV→List Int→Prop
def Kd(R:RT):List (List UInt8)→List Int→List KV→List Int→Prop
 |[],[c],l,P=>R c l P
 |k::ks,c::cs,l,P=>∃l1 l2 P1 P2,l=l1++l2∧P=P1++P2∧R c l1 P1∧(∀x∈l1,Lt x.1 k)∧(∀x∈l2,¬Lt x.1 k)∧Kd R ks cs l2 P2
 |_,_,_,_=>False
def Kd.one{R:RT}{c:Int}:Kd R [] [c] l P↔R c l P:=Iff.rfl
def Kd.cons{R:RT}{k}{c:Int}:
  Kd R (k::ks) (c::cs) l P↔∃l1 l2 P1 P2,l=l1++l2∧P=P1++P2∧R c l1 P1∧(∀x∈l1,Lt x.1 k)∧(∀x∈l2,¬Lt x.1 k)∧Kd R ks cs l2 P2:=Iff.rfl
def Kd.len{R:RT}:∀{ks}{cs:List Int}{l}{P:List Int},Kd R ks cs l P→cs.length=ks.length+1
 |[],[c],l,P,_=>rfl
 |[],[],l,P,h=>h.elim
 |[],_::_::_,l,P,h=>h.elim
 |_::_,[],l,P,h=>h.elim
 |k::ks,c::cs,l,P,h=>by
  obtain⟨l1,l2,P1,P2,rfl,rfl,h1,h2,h3,h4⟩:=Kd.cons.1 h;simp[h4.len]
def Kd.mono{R R':RT}:∀{ks}{cs:List Int}{l}{P:List Int},Kd R ks cs l P→(∀c l Q,(∀k∈Q,k∈P)→R c l Q→R' c l Q)→Kd R' ks cs l P
 |[],[c],l,P,h,hR=>hR c l P (fun _ h=>h) h
 |[],[],l,P,h,_=>h.elim
 |[],_::_::_,l,P,h,_=>h.elim
 |_::_,[],l,P,h,_=>h.elim
 |k::ks,c::cs,l,P,h,hR=>by
  obtain⟨l1,l2,P1,P2,rfl,rfl,h1,h2,h3,h4⟩:=Kd.cons.1 h;exact Kd.cons.2 ⟨l1,l2,P1,P2,Z,Z,hR _ _ _ (fun k hk=>Ada _ hk) h1,h2,h3,h4.mono (fun c l Q hQ=>hR c l Q (fun k hk=>Acy _ (hQ k hk)))⟩
def Kd.split{R:RT}:∀{ks ks' k}{cs cs':List Int}{l}{P:List Int},Kd R (ks++k::ks') (cs++cs') l P→cs.length=ks.length+1→(∀x∈ks,Lt x k)→
  ∃l1 l2 P1 P2,l=l1++l2∧P=P1++P2∧Kd R ks cs l1 P1∧Kd R ks' cs' l2 P2∧(∀x∈l1,Lt x.1 k)∧∀x∈l2,¬Lt x.1 k
 |_,_,_,[],_,_,_,_,e,_=>by cases e
 |[],ks',k,[c],cs',l,P,h,_,_=>by
  obtain⟨l1,l2,P1,P2,rfl,rfl,h1,h2,h3,h4⟩:=Kd.cons.1 h;exact⟨l1,l2,P1,P2,Z,Z,h1,h4,h2,h3⟩
 |[],_,_,_::_::_,_,_,_,_,e,_=>by simp at e
 |k0::ks,ks',k,c::cs,cs',l,P,h,e,hk=>by
  obtain⟨l1,l2,P1,P2,rfl,rfl,h1,h2,h3,h4⟩:=Kd.cons.1 h;obtain⟨m1,m2,Q1,Q2,rfl,rfl,g1,g2,g3,g4⟩:=Kd.split h4 (by simpa using e) (fun x hx=>hk x (Aco _ hx));refine⟨l1++m1,m2,P1++Q1,Q2,by rw[Ace],by rw[Ace],Kd.cons.2 ⟨l1,m1,P1,Q1,Z,Z,h1,h2,fun x hx=>h3 x (Ada _ hx),g1⟩,g2,fun x hx=>?_,g4⟩
  rcases Ach.1 hx with q|q
  ·exact EG (h2 x q) (hk k0 (Acm ..))
  ·exact g3 x q
def Kd.join{R:RT}:∀{ks ks' k}{cs cs':List Int}{l l'}{P P':List Int},Kd R ks cs l P→Kd R ks' cs' l' P'→(∀x∈ks,Lt x k)→(∀x∈l,Lt x.1 k)→(∀x∈l',¬Lt x.1 k)→
  Kd R (ks++k::ks') (cs++cs') (l++l') (P++P')
 |[],ks',k,[c],cs',l,l',P,P',h,h',_,h1,h2=>Kd.cons.2 ⟨l,l',P,P',Z,Z,h,h1,h2,h'⟩
 |[],_,_,[],_,_,_,_,_,h,_,_,_,_=>h.elim
 |[],_,_,_::_::_,_,_,_,_,_,h,_,_,_,_=>h.elim
 |_::_,_,_,[],_,_,_,_,_,h,_,_,_,_=>h.elim
 |k0::ks,ks',k,c::cs,cs',l,l',P,P',h,h',hk,h1,h2=>by
  obtain⟨l1,l2,P1,P2,rfl,rfl,g1,g2,g3,g4⟩:=Kd.cons.1 h;refine Kd.cons.2 ⟨l1,l2++l',P1,P2++P',by rw[Ace],by rw[Ace],g1,g2,fun x hx=>?_,Kd.join g4 h' (fun x hx=>hk x (Aco _ hx)) (fun x hx=>h1 x (Acy _ hx)) h2⟩;rcases Ach.1 hx with q|q
  ·exact g3 x q
  ·exact fun e=>h2 x q (EG e (hk k0 (Acm ..)))
def Kd.btw{R:RT}(hR:∀c l P,R c l P→l≠[]):∀{ks}{cs:List Int}{l}{P:List Int},Kd R ks cs l P→l≠[]∧∀k∈ks,(∃x∈l,Lt x.1 k)∧∃x∈l,¬Lt x.1 k
 |[],[c],l,P,h=>⟨hR c l P h,fun k hk=>by cases hk⟩
 |[],[],l,P,h=>h.elim
 |[],_::_::_,l,P,h=>h.elim
 |_::_,[],l,P,h=>h.elim
 |k0::ks,c::cs,l,P,h=>by
  obtain⟨l1,l2,P1,P2,rfl,rfl,g1,g2,g3,g4⟩:=Kd.cons.1 h;obtain⟨i1,i2⟩:=Kd.btw hR g4;obtain⟨x1,r1,e1⟩:=Aed (hR _ _ _ g1);obtain⟨x2,r2,e2⟩:=Aed i1;refine⟨by simp[e1],fun k hk=>?_⟩
  rcases Acw.1 hk with rfl|hk
  ·exact⟨⟨x1,by simp[e1],g2 x1 (by simp[e1])⟩,x2,by simp[e2],g3 x2 (by simp[e2])⟩
  ·obtain⟨⟨y,y1,y2⟩,z,z1,z2⟩:=i2 k hk;exact⟨⟨y,Acy _ y1,y2⟩,z,Acy _ z1,z2⟩
def KL(R:RT)(ks:List (List UInt8))(cs:List Int)(l:List KV)(P:List Int):Prop:=(ks=[]∧cs=[]∧l=[]∧P=[])∨∃ks' k,ks=ks'++[k]∧Kd R ks' cs l P∧(∀x∈l,Lt x.1 k)
def KR(R:RT)(ks:List (List UInt8))(cs:List Int)(l:List KV)(P:List Int):Prop:=(ks=[]∧cs=[]∧l=[]∧P=[])∨∃k ks',ks=k::ks'∧Kd R ks' cs l P∧(∀x∈l,¬Lt x.1 k)
def KL.mono{R R':RT}(h:KL R ks cs l P)(hR:∀c l Q,(∀k∈Q,k∈P)→R c l Q→R' c l Q):KL R' ks cs l P:=by
 rcases h with h|⟨ks',k,e,h1,h2⟩
 ·exact .inl h
 ·exact .inr ⟨ks',k,e,h1.mono hR,h2⟩
def KR.mono{R R':RT}(h:KR R ks cs l P)(hR:∀c l Q,(∀k∈Q,k∈P)→R c l Q→R' c l Q):KR R' ks cs l P:=by
 rcases h with h|⟨ks',k,e,h1,h2⟩
 ·exact .inl h
 ·exact .inr ⟨ks',k,e,h1.mono hR,h2⟩
def KL.below{R:RT}(h:KL R ks cs l P):∀x∈l,∃k∈ks,Lt x.1 k:=by
 rcases h with ⟨_,_,rfl,_⟩|⟨ks',k,rfl,h1,h2⟩
 ·exact fun x hx=>by cases hx
 ·exact fun x hx=>⟨k,by simp,h2 x hx⟩
def KR.Qe{R:RT}(h:KR R ks cs l P):∀x∈l,∃k∈ks,¬Lt x.1 k:=by
 rcases h with ⟨_,_,rfl,_⟩|⟨k,ks',rfl,h1,h2⟩
 ·exact fun x hx=>by cases hx
 ·exact fun x hx=>⟨k,by simp,h2 x hx⟩
def Kd.focus{R:RT}{ka km kb}{ca cm cb:List Int}(h:Kd R (ka++km++kb) (ca++cm++cb) l P)(hk:KO (ka++km++kb))(e1:ca.length=ka.length)(e2:cm.length=km.length+1):
  ∃l1 m l2 P1 Pm P2,l=l1++m++l2∧P=P1++Pm++P2∧KL R ka ca l1 P1∧Kd R km cm m Pm∧KR R kb cb l2 P2∧(∀k∈ka,∀x∈m,¬Lt x.1 k)∧∀k∈kb,∀x∈m,Lt x.1 k:=by
 have hlen:=h.len
 simp only[Aci] at hlen
 obtain⟨hk1,hk2,hk3⟩:=KO.app.1 hk
 obtain⟨hk4,hk5,hk6⟩:=KO.app.1 hk1
 have right:∀{cm:List Int}{km l}{P:List Int},Kd R (km++kb) (cm++cb) l P→cm.length=km.length+1→KO (km++kb)→∃m l2 Pm P2,l=m++l2∧P=Pm++P2∧Kd R km cm m Pm∧KR R kb cb l2 P2∧∀k∈kb,∀x∈m,Lt x.1 k:=by
  intro cm km l P h e2 hk;cases kb with
  |nil=>
   have hl:=h.len
   simp only[Adm,Aci] at hl h
   have:cb=[]:=Acl (by omega)
   subst this
   rw[Adm] at h
   exact⟨l,[],P,[],by simp,by simp,h,.inl ⟨Z,Z,Z,Z⟩,fun k hk=>by cases hk⟩
  |cons k kb=>
   obtain⟨q1,q2,q3⟩:=KO.app.1 hk
   obtain⟨l1,l2,P1,P2,rfl,rfl,g1,g2,g3,g4⟩:=h.split e2 (fun x hx=>q3 x hx k (Acm ..))
   refine⟨l1,l2,P1,P2,Z,Z,g1,.inr ⟨k,kb,Z,g2,g4⟩,fun k' hk' x hx=>?_⟩
   rcases Acw.1 hk' with rfl|hk'
   ·exact g3 x hx
   ·exact EG (g3 x hx) ((KO.cons.1 q2).2.2 k' hk')
 rcases List.eq_nil_or_concat ka with rfl|⟨ka',k,rfl⟩
 ·have:ca=[]:=Acl e1
  subst this
  simp only[Adr] at h hk
  obtain⟨m,l2,Pm,P2,rfl,rfl,g1,g2,g3⟩:=right h e2 hk
  exact⟨[],m,l2,[],Pm,P2,by simp,by simp,.inl ⟨Z,Z,Z,Z⟩,g1,g2,fun k hk=>(by cases hk),g3⟩
 ·have h:Kd R (ka'++k::(km++kb)) (ca++(cm++cb)) l P:=by simpa using h
  have hk:KO (ka'++k::(km++kb)):=by simpa using hk
  obtain⟨q1,q2,q3⟩:=KO.app.1 hk
  obtain⟨l1,l2,P1,P2,rfl,rfl,g1,g2,g3,g4⟩:=h.split (by simpa using e1) (fun x hx=>q3 x hx k (Acm ..))
  obtain⟨m,l2,Pm,P2,rfl,rfl,f1,f2,f3⟩:=right g2 e2 (KO.cons.1 q2).2.1
  refine⟨l1,m,l2,P1,Pm,P2,by simp,by simp,.inr ⟨ka',k,by simp,g1,g3⟩,f1,f2,fun k' hk' x hx=>?_,f3⟩
  have hx':=g4 x (Ada _ hx)
  rcases Ach.1 (show k'∈ka'++[k] by simpa using hk') with q|q
  ·exact fun e=>hx' (EG e (q3 k' q k (Acm ..)))
  ·rw[Adh.1 q];exact hx'
def Kd.IN{R:RT}{ka km kb}{ca cm cb:List Int}{l1 l2}{P1 Pm P2:List Int}(h1:KL R ka ca l1 P1)(h2:Kd R km cm m Pm)(h3:KR R kb cb l2 P2)(hk:KO (ka++km++kb))
  (ha:∀k∈ka,∀x∈m,¬Lt x.1 k) (hb:∀k∈kb,∀x∈m,Lt x.1 k):Kd R (ka++km++kb) (ca++cm++cb) (l1++m++l2) (P1++Pm++P2):=by
 obtain⟨hk1,hk2,hk3⟩:=KO.app.1 hk
 obtain⟨hk4,hk5,hk6⟩:=KO.app.1 hk1
 have right:Kd R (km++kb) (cm++cb) (m++l2) (Pm++P2):=by
  rcases h3 with ⟨rfl,rfl,rfl,rfl⟩|⟨k,ks',rfl,g1,g2⟩
  ·simpa using h2
  ·exact h2.join g1 (fun x hx=>hk3 x (Acy _ hx) k (Acm ..)) (fun x hx=>hb k (Acm ..) x hx) g2
 rcases h1 with ⟨rfl,rfl,rfl,rfl⟩|⟨ks',k,rfl,g1,g2⟩
 ·simpa using right
 ·have hl2:∀x∈l2,¬Lt x.1 k:=fun x hx=>by
   obtain⟨k',q1,q2⟩:=h3.Qe x hx;exact fun e=>q2 (EG e (hk3 k (by simp) k' q1))
  have:=g1.join right (k:=k) (fun x hx=>(KO.app.1 hk4).2.2 x hx k (by simp)) g2 (fun x hx=>(Ach.1 hx).elim (ha k (by simp) x) (hl2 x))
  simpa using this
variable{R:RT}
def Nd(s:PD)(R:RT)(lf:Bool)(n:Ax)(l:List KV)(Q:List Int):Prop:=n.leaf=lf∧if lf=true then Lf s n.keys n.vals l Q else Kd R n.keys n.kids l Q
def Tr(s:PD):Nat→RT
 |0,_,_,_=>False
 |h+1,k,l,P=>∃n Q,At s k n∧n.keys≠[]∧P=k::Q∧Nd s (Tr s h) (decide (h=0)) n l Q
def Nd.leaf(h:Nd s R true n l Q):n.leaf=true∧Lf s n.keys n.vals l Q:=by
 obtain⟨h1,h2⟩:=h;rw[if_pos Z] at h2;exact⟨h1,h2⟩
def Nd.inner(h:Nd s R false n l Q):n.leaf=false∧Kd R n.keys n.kids l Q:=by
 obtain⟨h1,h2⟩:=h;rw[if_neg (by decide)] at h2;exact⟨h1,h2⟩
def Nd.mkl(h1:n.leaf=true)(h2:Lf s n.keys n.vals l Q):Nd s R true n l Q:=⟨h1,by rw[if_pos Z];exact h2⟩
def Nd.mki(h1:n.leaf=false)(h2:Kd R n.keys n.kids l Q):Nd s R false n l Q:=⟨h1,by rw[if_neg (by decide)];exact h2⟩
def Kd.all{S:Int→Prop}(hR:∀c l P,R c l P→∀p∈P,S p):∀{ks}{cs:List Int}{l}{P:List Int},Kd R ks cs l P→∀p∈P,S p
 |[],[c],l,P,h=>hR c l P h
 |[],[],l,P,h=>h.elim
 |[],_::_::_,l,P,h=>h.elim
 |_::_,[],l,P,h=>h.elim
 |k::ks,c::cs,l,P,h=>by
  obtain⟨l1,l2,P1,P2,rfl,rfl,h1,h2,h3,h4⟩:=Kd.cons.1 h;intro p hp;exact(Ach.1 hp).elim (hR _ _ _ h1 p) (Kd.all hR h4 p)
def Tr.live:∀{h:Nat}{k:Int}{l}{P:List Int},Tr s h k l P→∀p∈P,A6 s p
 |0,k,l,P,h=>h.elim
 |h+1,k,l,P,⟨n,Q,h1,h2,e,h3⟩=>by
  subst e;intro p hp;rcases Acw.1 hp with rfl|hp
  ·exact h1.liv
  ·by_cases e:h=0
   ·rw[decide_eq_true e] at h3;exact h3.leaf.2.live p hp
   ·rw[decide_eq_false e] at h3;exact Kd.all (fun c l P q=>Tr.live q) h3.inner.2 p hp
def Nd.live(h3:Nd s (Tr s h) lf n l Q):∀p∈Q,A6 s p:=by
 cases lf with
 |true=>exact h3.leaf.2.live
 |false=>exact Kd.all (fun c l P q=>Tr.live q) h3.inner.2
def Tr.ne:∀{h:Nat}{k:Int}{l}{P:List Int},Tr s h k l P→l≠[]
 |0,k,l,P,h=>h.elim
 |h+1,k,l,P,⟨n,Q,h1,h2,e,h3⟩=>by
  by_cases e:h=0
  ·rw[decide_eq_true e] at h3;have:=h3.leaf.2.len.2;intro q;rw[q] at this;exact h2 (Acl this.symm)
  ·rw[decide_eq_false e] at h3;exact(Kd.btw (fun c l P q=>Tr.ne q) h3.inner.2).1
def Ei(s t:PD)(P:List Int):Prop:=∀p∈P,t.kind p=s.kind p∧t.bytes p=s.bytes p
def Nd.mono{R':RT}(h:Nd s R lf n l Q)(hs:Ei s t Q)(hR:∀c l P,(∀p∈P,p∈Q)→R c l P→R' c l P):Nd t R' lf n l Q:=by
 cases lf with
 |true=>exact .mkl h.leaf.1 (h.leaf.2.stay hs)
 |false=>exact .mki h.inner.1 (h.inner.2.mono hR)
def Tr.stay:∀{h:Nat}{k:Int}{l}{P:List Int},Tr s h k l P→Ei s t P→Tr t h k l P
 |0,k,l,P,h,_=>h.elim
 |h+1,k,l,P,⟨n,Q,h1,h2,e,h3⟩,hs=>by
  subst e;exact⟨n,Q,h1.stay (hs k (Acm ..)),h2,Z,h3.mono (fun p hp=>hs p (Aco _ hp)) (fun c l P hP q=>q.stay (fun p hp=>hs p (Aco _ (hP p hp))))⟩
def Nd.stay(h3:Nd s (Tr s h) lf n l Q)(hs:Ei s t Q):Nd t (Tr t h) lf n l Q:=
 h3.mono hs (fun _ _ _ hP q=>q.stay (fun p hp=>hs p (hP p hp)))
def KL.stay(h3:KL (Tr s h) ks cs l Q)(hs:Ei s t Q):KL (Tr t h) ks cs l Q:=
 h3.mono (fun _ _ _ hP q=>q.stay (fun p hp=>hs p (hP p hp)))
def KR.stay(h3:KR (Tr s h) ks cs l Q)(hs:Ei s t Q):KR (Tr t h) ks cs l Q:=
 h3.mono (fun _ _ _ hP q=>q.stay (fun p hp=>hs p (hP p hp)))
def Mv.same{c:Nat}(h:Mv s t A B c)(h1:∀p∈Q,A6 s p)(h2:∀p∈Q,p∉A):Ei s t Q:=fun p hp=>h.st p (h1 p hp) (h2 p hp)
def Nd.join(hR:∀c l P,R c l P→l≠[]){a b:Ax}{l1 l2}{Q1 Q2:List Int}(ha:Nd s R lf a l1 Q1)(hb:Nd s R lf b l2 Q2)(sa:AX a=true)(sb:AX b=true)
  (h1:∀x∈l1,Lt x.1 key) (h2:∀x∈l2,¬Lt x.1 key) (hk:1≤key.length∧key.length≤64):
  Nd s R lf (DN a b key) (l1++l2) (Q1++Q2)∧AX (DN a b key)=true∧Bc (DN a b key)+2≤Bc a+Bc b+(if lf=true then 0 else 65)∧(DN a b key).leaf=lf∧
  ((DN a b key).keys=[]→lf=true∧a.keys=[]∧b.keys=[]):=by
 cases lf with
 |true=>
  obtain⟨a1,a2⟩:=ha.leaf
  obtain⟨b1,b2⟩:=hb.leaf
  have ea:=C0 sa a1
  have eb:=C0 sb b1
  have ka:=a2.keys
  have kb:=b2.keys
  have e:DN a b key=⟨true,a.keys++b.keys,a.vals++b.vals,[]⟩:=by unfold DN;rw[if_pos a1]
  rw[ea] at sa
  rw[eb] at sb
  obtain⟨s1,s2,s3⟩:=B6.1 sa
  obtain⟨t1,t2,t3⟩:=B6.1 sb
  have hso:AX ⟨true,a.keys++b.keys,a.vals++b.vals,[]⟩=true:=by
   refine B6.2 ⟨KO.app.2 ⟨s1,t1,fun x hx y hy=>?_⟩,by simp[s2,t2],fun v hv=>(Ach.1 hv).elim (s3 v) (t3 v)⟩;rw[ka] at hx;rw[kb] at hy;obtain⟨x',hx',rfl⟩:=Aft.1 hx;obtain⟨y',hy',rfl⟩:=Aft.1 hy;exact G6 (h1 x' hx') (h2 y' hy')
  rw[e]
  refine⟨.mkl Z (a2.join b2),hso,?_,Z,fun q=>⟨Z,List.append_eq_nil_iff.1 q⟩⟩
  have za:=(congrArg Bc ea).trans (size_leaf s2)
  have zb:=(congrArg Bc eb).trans (size_leaf t2)
  rw[za,zb,size_leaf (by simp[s2,t2]),Dd,Dd,Aci,if_pos Z]
  omega
 |false=>
  obtain⟨a1,a2⟩:=ha.inner
  obtain⟨b1,b2⟩:=hb.inner
  have ea:=DI sa a1
  have eb:=DI sb b1
  have e:DN a b key=⟨false,a.keys++[key]++b.keys,[],a.kids++b.kids⟩:=by unfold DN;rw[if_neg (by rw[a1];decide)]
  have ka:=(Kd.btw hR a2).2
  have kb:=(Kd.btw hR b2).2
  rw[ea] at sa
  rw[eb] at sb
  obtain⟨s1,s2,s3⟩:=BF.1 sa
  obtain⟨t1,t2,t3⟩:=BF.1 sb
  have ka':∀k∈a.keys,Lt k key:=fun k q=>by
   obtain⟨-,x,x1,x2⟩:=ka k q;exact I5 x2 (h1 x x1)
  have kb':∀k∈b.keys,Lt key k:=fun k q=>by
   obtain⟨⟨x,x1,x2⟩, -⟩:=kb k q;exact I5 (h2 x x1) x2
  have hso:AX ⟨false,a.keys++[key]++b.keys,[],a.kids++b.kids⟩=true:=by
   refine BF.2 ⟨?_,by simp[s2,t2];omega,fun v hv=>(Ach.1 hv).elim (s3 v) (t3 v)⟩;rw[Ace];refine KO.app.2 ⟨s1,KO.cons.2 ⟨hk,t1,kb'⟩,fun x hx y hy=>?_⟩;rcases Acw.1 hy with rfl|hy
   ·exact ka' x hx
   ·exact EG (ka' x hx) (kb' y hy)
  rw[e]
  refine⟨.mki Z ?_,hso,?_,Z,fun q=>by simp at q⟩
  ·show Kd R (a.keys++[key]++b.keys) (a.kids++b.kids) _ _
   rw[Ace]
   exact a2.join b2 ka' h1 h2
  ·have za:=(congrArg Bc ea).trans size_inner
   have zb:=(congrArg Bc eb).trans size_inner
   rw[za,zb,size_inner,Dd,Dd,Aci,Aci,Aci,if_neg (by decide)]
   simp only[Cf,Afa]
   omega
def SG(hc:F7 n=true):(BJ n).leaf=n.leaf:=by
 unfold BJ;rw[if_pos hc];cases h:n.leaf<;>simp
def Sv(hc:F7 n=true):(B0 n).leaf=n.leaf:=by
 unfold B0;rw[if_pos hc];cases h:n.leaf<;>simp
def U2(hc:F7 n=true):CE n∈n.keys:=by
 obtain⟨h1, -⟩:=RC n;unfold CE;rw[if_pos hc];simp only[F7,Acb,decide_eq_true_eq] at hc;have hm:=hc.2;have:(if n.leaf=true then atD n else at2 n - 1)<n.keys.length:=by
  cases hl:n.leaf with
  |true=>rw[hl] at hm;simp only[if_true] at hm⊢;omega
  |false=>rw[hl] at hm;simp only[Ack,if_false,at2] at hm⊢;omega
 rw[Acg,Acf this];exact Acz this
def Mh(h:AV n=true):AX n=true:=by simp only[AV,Acb] at h;exact h.1
def Nd.split(hn:Nd s R lf n l Q)(hs:AX n=true)(hc:F7 n=true)(hH:N6 n):
  ∃l1 l2 Q1 Q2,l=l1++l2∧Q=Q1++Q2∧Nd s R lf (BJ n) l1 Q1∧Nd s R lf (B0 n) l2 Q2∧(∀x∈l1,Lt x.1 (CE n))∧(∀x∈l2,¬Lt x.1 (CE n))∧1≤(CE n).length∧(CE n).length≤64:=by
 have hkm:=U2 hc
 have eL:=SG hc
 have eR:=Sv hc
 have sL:=Mh hH.r1
 have sR:=Mh hH.r2
 have hall:=hH.all
 have hlo:∀k∈(BJ n).keys,Lt k (CE n):=fun k hk=>by
  obtain⟨i,hi,rfl⟩:=Aej hk;exact hH.lo i hi
 have hhi:∀k∈(B0 n).keys,¬Lt k (CE n):=fun k hk=>by
  obtain⟨i,hi,rfl⟩:=Aej hk;rcases hH.hi i hi with q|⟨q,_⟩
  ·exact Jn q
  ·rw[q];exact H8
 cases lf with
 |true=>
  obtain⟨n1,n2⟩:=hn.leaf
  have ho:1≤(CE n).length∧(CE n).length≤64:=by
   rw[C0 hs n1] at hs;exact(B6.1 hs).1.1 _ hkm
  rw[n1] at eL eR
  unfold DN at hall
  rw[if_pos eL] at hall
  have k1:(BJ n).keys++(B0 n).keys=n.keys:=congrArg Ax.keys hall
  have k2:(BJ n).vals++(B0 n).vals=n.vals:=congrArg Ax.vals hall
  rw[←k1,←k2] at n2
  have hL:(BJ n).vals.length=(BJ n).keys.length:=by
   rw[C0 sL eL] at sL;exact(B6.1 sL).2.1
  obtain⟨l1,l2,Q1,Q2,rfl,rfl,g1,g2⟩:=n2.split hL
  refine⟨l1,l2,Q1,Q2,Z,Z,.mkl eL g1,.mkl eR g2,fun x hx=>hlo _ ?_,fun x hx=>hhi _ ?_,ho⟩
  ·rw[g1.keys];exact Aea hx
  ·rw[g2.keys];exact Aea hx
 |false=>
  obtain⟨n1,n2⟩:=hn.inner
  have ho:1≤(CE n).length∧(CE n).length≤64:=by
   rw[DI hs n1] at hs;exact(BF.1 hs).1.1 _ hkm
  rw[n1] at eL eR
  unfold DN at hall
  rw[if_neg (by rw[eL];decide)] at hall
  have k1:(BJ n).keys++[CE n]++(B0 n).keys=n.keys:=congrArg Ax.keys hall
  have k2:(BJ n).kids++(B0 n).kids=n.kids:=congrArg Ax.kids hall
  rw[←k1,←k2,Ace] at n2
  have hL:(BJ n).kids.length=(BJ n).keys.length+1:=by
   rw[DI sL eL] at sL;exact(BF.1 sL).2.1
  obtain⟨l1,l2,Q1,Q2,rfl,rfl,g1,g2,g3,g4⟩:=Kd.split n2 hL hlo
  exact⟨l1,l2,Q1,Q2,Z,Z,.mki eL g1,.mki eR g2,g3,g4,ho⟩
def Out(s:PD)(h z:Nat)(m:MdD)(l:List KV)(P:List Int):Prop:=
 (m.other<0∧∃n Q,At s m.page n∧m.size=Bc n∧P=m.page::Q∧z≤n.keys.length∧Nd s (Tr s h) (decide (h=0)) n l Q)∨
 (0≤m.other∧m.size=256∧∃l1 l2 P1 P2,l=l1++l2∧P=P1++P2∧Tr s (h+1) m.page l1 P1∧Tr s (h+1) m.other l2 P2∧(∀x∈l1,Lt x.1 m.key)∧(∀x∈l2,¬Lt x.1 m.key)∧1≤m.key.length∧m.key.length≤64)
def Out.stay{m:MdD}(o:Out s h z m l P)(hs:Ei s t P):Out t h z m l P:=by
 rcases o with ⟨h1,n,Q,h2,h3,rfl,h4,h5⟩|⟨h1,h2,l1,l2,P1,P2,rfl,rfl,h3,h4,h5⟩
 ·exact .inl ⟨h1,n,Q,h2.stay (hs _ (Acm ..)),h3,Z,h4,h5.stay (fun p hp=>hs p (Aco _ hp))⟩
 ·exact .inr ⟨h1,h2,l1,l2,P1,P2,Z,Z,h3.stay (fun p hp=>hs p (Ada _ hp)),h4.stay (fun p hp=>hs p (Acy _ hp)),h5⟩
def Out.live{m:MdD}(o:Out s h z m l P):∀p∈P,A6 s p:=by
 rcases o with ⟨h1,n,Q,h2,h3,rfl,h4,h5⟩|⟨h1,h2,l1,l2,P1,P2,rfl,rfl,h3,h4,h5⟩
 ·intro p hp;rcases Acw.1 hp with rfl|hp
  ·exact h2.liv
  ·exact h5.live p hp
 ·exact fun p hp=>(Ach.1 hp).elim (h3.live p) (h4.live p)
def Out.tr{m:MdD}(o:Out s h z m l P)(h1:m.other<0)(hz:1≤z):Tr s (h+1) m.page l P:=by
 rcases o with ⟨h1,n,Q,h2,h3,rfl,h4,h5⟩|⟨h2,_⟩
 ·exact⟨n,Q,h2,fun e=>by rw[e] at h4;simp at h4;omega,Z,h5⟩
 ·omega
def Fx{α}{l:List α}:l≠[]↔1≤l.length:=by cases l<;>simp
def F4(hG:Pgr.Good s)(hn:Nd s (Tr s h) (decide (h=0)) n l Q)(hs:AX n=true)(hh:Bc n≤if n.leaf=true then 340 else 440)(hk:A6 s k)(hz:z≤n.keys.length)
  (hnd:(k::Q).Nodup):
  ((BG s k n).2.2=0∧∃P',Mv s (BG s k n).1 (k::Q) P' 2∧Out (BG s k n).1 h z (BG s k n).2.1 l P')∨((BG s k n).2.2=190∧s.free<2):=by
 obtain⟨hkQ,hQ⟩:=Afn.1 hnd
 have hl:=hn.live
 have hkq:∀p∈Q,p∉ [k]:=fun p hp q=>hkQ (Adh.1 q▸hp)
 rcases Z0 hG hs (fun hz=>Z2 hh (V0 hs hz)) hk with ⟨h1,⟨p,e,h2,h3⟩|⟨hc,hH,p,q,e,h0,h2,h3,h4⟩⟩|h1
 ·refine .inl ⟨h1,p::Q,h2.frame hl hQ hkq,.inl ?_⟩
  rw[e]
  exact⟨(by show(-1:Int)<0;decide),n,Q,h3,Z,Z,hz,hn.stay (h2.same hl hkq)⟩
 ·obtain⟨l1,l2,Q1,Q2,rfl,rfl,g1,g2,g3,g4,g5⟩:=(hn.stay (h2.same hl hkq)).split hs hc hH
  refine .inl ⟨h1,(p::Q1)++(q::Q2),(h2.frame hl hQ hkq).perm (Adz _) ?_,.inr ?_⟩
  ·refine List.perm_iff_count.2 fun a=>?_
   simp only[List.count_append,List.count_cons,List.count_nil];omega
  ·rw[e]
   exact⟨h0,Z,l1,l2,_,_,Z,Z,⟨_,Q1,h3,Fx.2 hH.n1,Z,g1⟩,⟨_,Q2,h4,Fx.2 hH.n2,Z,g2⟩,g3,g4,g5⟩
 ·exact .inr h1
end Go.Gk.Tre
end
