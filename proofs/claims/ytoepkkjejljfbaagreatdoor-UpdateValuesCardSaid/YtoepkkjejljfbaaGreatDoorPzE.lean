/-
  Our own texts, one behind the other: GkYB GkT0 Gk23 GkM0 GkY2 GkY3 GkY4 GkY5 GkY6 GkN1 GkN2 GkN3 GkO0 GkO1 GkO2 GkO3 GkO4 GkO5 GkO6 GkO7 GkO8.
-/
import Derived.Lib.ItoaMem
import Derived.Shelf.Strconv.Itoa0
import Derived.Shelf.Strconv.Itoa1
import Derived.Shelf.Strconv.Itoa2
import Derived.Lib.ItoaLen
import Derived.Test.YtoepkkjejljfbaaGreatDoorPzD
set_option linter.defProp false
set_option linter.unusedVariables false
set_option linter.unusedSimpArgs false
open Nat renaming le_of_ble_eq_true→No,le_refl→ZL,zero_le→ZN,mul_le_mul_right→ZQ,not_lt_zero→Z3,zero_add→Aac,add_mul→Aai,one_mul→Abh,mul_one→Abw,zero_mul→Acf,pow_succ→Ach,pow_pos→Acm,pow_le_pow_right→Acn,mul_lt_mul_of_pos_right→Ada
open List renaming append_assoc→Zy,take_succ_eq_append_getElem→ZA,nil_sublist→ZB,getElem_mem→ZC,eq_nil_of_length_eq_zero→ZD,mem_cons_of_mem→ZE,all_eq_true→ZF,mem_cons_self→ZG,length_append→ZH,replicate→ZI,take_append_drop→ZM,length_take→ZP,mem_cons→ZR,drop_eq_getElem_cons→ZT,length_cons→ZU,getElem?_eq_none→ZY,getElem?_take_of_lt→Z4,nil_append→Z5,take_of_length_le→Z7,range→Z8,length_drop→Aab,getElem_of_mem→Aae,drop_length→Aag,getElem?_append_left→Aaq,getElem?_map→Aat,mem_of_mem_drop→Aax,length_map→Aay,length_set→Abb,map_cons→Abc,ext_getElem?→Abd,getElem?_drop→Abi,getElem?_append_right→Abm,mem_map→Abq,length_replicate→Aci,map_append→Acp
open Bool renaming and_eq_true→Zz,false_eq_true→ZX,or_eq_true→Aad
open List.Sublist renaming refl→ZS
open Option renaming map_some→Aba
open List.Perm renaming swap→Z0
open Int renaming toNat_natCast→Z2,natCast_mul→Aam,lt_trichotomy→Aav,mul_assoc→Acr
section
namespace Go.Gk.Val
open Go Go.Gk Go.Gk.Utf
variable{s:St}
def Cl:∀a b:List V,BV (a++b)=BV a+BV b
 |[],b=>by simp[BV]
 |x::a,b=>by simp only[List.cons_append,BV,Cl a b];omega
def Hh{l:List V}{i:Nat}(h:i<l.length):BV l=BV (l.take i)+Bq l[i]+BV (l.drop (i+1)):=by
 have e:l=l.take i++(l[i]::l.drop (i+1)):=by rw[List.getElem_cons_drop,ZM]
 rw[congrArg BV e,Cl];simp only[BV];omega
def F7{l:List V}{i j:Nat}(h:i≤j):BV (l.take i)+BV ((l.drop i).take (j - i))+BV (l.drop j)=BV l:=by
 have e:l=l.take i++((l.drop i).take (j - i)++l.drop j):=by
  have:(l.drop i).take (j - i)++l.drop j=l.drop i:=by
   rw[show l.drop j=(l.drop i).drop (j - i) by rw[List.drop_drop];congr 1;omega,ZM]
  rw[this,ZM]
 have:=congrArg BV e;rw[Cl,Cl] at this;omega
def XH{ks k}(h:rising ks=true)(hk:k∈ks):AZ ks k<ks.length:=by
 have h1:=Fp ks k;rcases Nat.lt_or_ge (AZ ks k) ks.length with q|q
 ·exact q
 ·exfalso;obtain⟨i,hi,rfl⟩:=Aae hk;have:=QU (ks:=ks) (k:=ks[i]) (j:=i) (by omega) hi;rw[F2] at this;cases this
def Wm{v y:V}(hm:BH v=true)(he:(AU v s).2=0)(hk:(AU v s).1.kind≠0):Bq (BP v s y).1+Bq (AU v s).1≤Bq v+Bq y:=by
 have hone:=Gq hm;have ev:=B0 v;have ey:=B0 y;have hz:Bq V.zero=1:=by decide
 unfold AU at he hk⊢;by_cases k0:v.kind=0
 ·rw[if_pos k0] at hk;exact absurd rfl hk
 rw[if_neg k0] at he hk⊢;by_cases c1:s.kind=0∧v.kind=6
 ·rw[if_pos c1] at he hk⊢;by_cases hmem:s.text∈v.keys
  ·simp only[if_pos hmem] at hk⊢;have hlow:=XH (DL hone) hmem;have hkl:=FT hone c1.2;have hll:AZ v.keys s.text<v.list.length:=by omega
   have hg:v.list.getD (AZ v.keys s.text) V.zero=v.list[AZ v.keys s.text]:=by simp[hll]
   rw[hg];have h3:=Hh hll;unfold BP;rw[if_pos ⟨c1.1,.inr c1.2⟩];simp only[Cq,toK,if_pos hmem];rw[B0 (.mk 6 0 0 [] _ _)];show 1+0+(v.keys.take (AZ v.keys s.text)++[s.text]++v.keys.drop (AZ v.keys s.text+1)).length+BV (v.list.take (AZ v.keys s.text)++[y]++v.list.drop (AZ v.keys s.text+1))+_≤_;rw[Cl,Cl];simp only[ZH,ZP,Aab,List.length_singleton,BV];omega
  ·simp only[if_neg hmem] at hk;exact absurd rfl hk
 rw[if_neg c1] at he hk⊢;by_cases c2:s.kind=1∧v.kind=5
 ·rw[if_pos c2] at he hk⊢;simp only[JV] at hk⊢;by_cases hin:0≤Bm s.src v.list.length∧Bm s.src v.list.length<v.list.length
  ·rw[if_pos hin] at hk⊢;obtain⟨n,hn⟩:∃n:Nat,Bm s.src v.list.length=n:=⟨(Bm s.src v.list.length).toNat,by omega⟩
   rw[hn] at hin hk⊢;have hll:n<v.list.length:=by omega
   have hg:v.list.getD ((n:Int)).toNat V.zero=v.list[n]:=by simp[hll]
   rw[hg];have h3:=Hh hll;unfold BP;rw[if_neg (by omega),if_pos ⟨c2.1,.inr c2.2⟩,hn];split
   ·simp only[hz];have:=HW (ZC hll);omega
   ·simp only[Z2];have hp:Cm v.list (n+1)=v.list:=by unfold Cm;rw[show n+1 - v.list.length=0 by omega];simp
    rw[hp,B0 (.mk 5 0 0 [] _ _)];show 1+0+0+BV (v.list.take n++[y]++v.list.drop (n+1))+_≤_;rw[Cl,Cl];simp only[BV];omega
  ·rw[if_neg hin] at hk;exact absurd rfl hk
 rw[if_neg c2] at he hk⊢;by_cases c3:s.kind=2∧v.kind=5
 ·rw[if_pos c3] at he hk⊢;have hle:=C8 s (k:=v.list.length) (by omega);have hc:=F7 (l:=v.list) (show(A5 s v.list.length).1.toNat≤(A5 s v.list.length).2.toNat by omega);rw[B0 (.mk 5 0 0 [] (Ez v.list (A5 s v.list.length)) [])];simp only[Ez];unfold BP;rw[if_neg (by omega),if_neg (by omega)];split
  ·rw[B0 (.mk 5 0 0 [] (v.list.take _++_++_) [])];show 1+0+0+BV (v.list.take (A5 s v.list.length).1.toNat++y.list++v.list.drop (A5 s v.list.length).2.toNat)+(1+0+0+BV ((v.list.drop (A5 s v.list.length).1.toNat).take ((A5 s v.list.length).2.toNat - (A5 s v.list.length).1.toNat)))≤_;rw[Cl,Cl];omega
  ·simp only[hz];show 1+(1+0+0+BV ((v.list.drop (A5 s v.list.length).1.toNat).take ((A5 s v.list.length).2.toNat - (A5 s v.list.length).1.toNat)))≤_;omega
 rw[if_neg c3] at he hk⊢;have hi:=Dj v s;unfold AU at hi;rw[if_neg k0,if_neg c1,if_neg c2,if_neg c3] at hi;by_cases c4:s.kind=2∧v.kind=4
 ·rw[if_pos c4] at hi⊢;simp only at hi⊢;unfold BP;rw[if_neg (by omega),if_neg (by omega),if_neg (by omega)];simp only[hz];omega
 ·rw[if_neg c4] at he;cases he
def PR(v:V)(s:St):Bq (Bv v s).1≤Bq v:=by
 have h3:=B0 v;have hz:Bq V.zero=1:=by decide
 have key:∀(i j:Nat),i≤j→∀ks:List (List UInt8),ks.length≤v.keys.length→Bq (.mk 5 0 0 [] (v.list.take i++[]++v.list.drop j) ks)≤Bq v∧Bq (.mk 6 0 0 [] (v.list.take i++[]++v.list.drop j) ks)≤Bq v:=by
  intro i j hij ks hk;have h4:=F7 (l:=v.list) hij;rw[B0,B0];show 1+0+ks.length+BV (v.list.take i++[]++v.list.drop j)≤_∧1+0+ks.length+BV (v.list.take i++[]++v.list.drop j)≤_;rw[Cl,Cl];simp only[BV];omega
 unfold Bv;split
 ·exact ZL _
 split
 ·simp only;split
  ·exact(key _ _ (by omega) _ (by simp;omega)).2
  ·exact ZL _
 split
 ·simp only;split
  ·exact ZL _
  ·exact(key _ _ (by omega) _ (by simp)).1
 split
 ·have he:=C8 s (k:=v.list.length) (by omega);exact(key _ _ (by omega) _ (by simp)).1
 ·simp only[hz];omega
def OP:∀(l:List St) {v:V},Gd v→Bq (BX v l).1≤Bq v
 |[],v,_=>by
  have hz:Bq V.zero=1:=by decide
  have:=B0 v;simp[BX,hz];omega
 |[s],v,_=>PR v s
 |s::s2::l,v,hg=>by
  have h2:=OP (s2::l) (Gu hg s);rw[BX];split
  ·exact ZL _
  split
  ·exact ZL _
  ·rename_i h1 _;have h1':(AU v s).2=0∧(AU v s).1.kind≠0:=⟨Decidable.not_not.1 fun q=>h1 (.inl q),fun q=>h1 (.inr q)⟩
   have h3:=Wm (y:=(BX (AU v s).1 (s2::l)).1) hg.1 h1'.1 h1'.2;omega
def Kx(v:V)(l:List St)(hb:Bq v≤1000000):Bq (CC v l).1≤Bq v:=by
 have hz:Bq V.zero=1:=by decide
 have hp:=B0 v;unfold CC;split
 ·simp only[hz];omega
 split
 ·simp only[hz];omega
 ·rename_i h _;have hr:AS v=0:=by
   unfold Cw at h;by_cases q:AS v≠0
   ·rw[if_pos q] at h;exact absurd q h
   ·exact Decidable.not_not.1 q
  exact OP l (Gv hr (by omega))
def ET(s:St):St:=(BB (B4 s)).1
def O5{n:Int}{has:Bool}(h:CN n has=true):(decide ((Dk n has).kind≠0)=has)∧(if (Dk n has).kind≠0 then(AQ (Dk n has)).1 else 0)=(if has=true then n else 0)∧(decide ((Dk n has).kind=0)||(AQ (Dk n has)).2)=true:=by
 cases has with
 |false=>exact⟨rfl,rfl,rfl⟩
 |true=>
  have hn:B1 n=true:=by simpa [CN] using h
  rw[NI hn,(IC hn).2]
  exact⟨rfl,rfl,by simp⟩
def Kq(h:BM s=true):BB (B4 s)=(ET s,true)∧ET s=if s.kind=0 then⟨0,s.text,0,0,false,false⟩ else if s.kind=1 then⟨1,[],s.src,0,false,false⟩ else⟨2,[],if s.hf=true then s.src else 0,if s.ht=true then s.dst else 0,s.hf,s.ht⟩:=by
 unfold ET;unfold BM at h;unfold B4;by_cases k0:s.kind=0
 ·rw[if_pos k0,if_pos k0];exact⟨rfl,rfl⟩
 rw[if_neg k0] at h⊢;rw[if_neg k0];by_cases k1:s.kind=1
 ·rw[if_pos k1] at h⊢;rw[if_pos k1,if_pos h];have hp:=(IC h).2;have ht:BB (El s.src)=(⟨1,[],s.src,0,false,false⟩,true):=by
   unfold BB;rw[if_neg (show(El s.src).kind≠4 by simp[El,V.kind]),if_pos (show(El s.src).kind=3 from rfl),hp]
  rw[ht];exact⟨rfl,rfl⟩
 rw[if_neg k1] at h⊢;rw[if_neg k1];by_cases k2:s.kind=2
 ·rw[if_pos k2] at h⊢;rw[Zz] at h;obtain⟨a1,a2,a3⟩:=O5 h.1;obtain⟨b1,b2,b3⟩:=O5 h.2;have ht:BB (.mk 6 0 0 [] [Dk s.dst s.ht,Dk s.src s.hf] [DE,CA])=(⟨2,[],if s.hf=true then s.src else 0,if s.ht=true then s.dst else 0,s.hf,s.ht⟩,true):=by
   rw[←a2,←b2];unfold BB;rw[if_neg (by simp[V.kind]),if_neg (by simp[V.kind]),if_pos rfl,if_pos rfl];show(_,(decide ((Dk s.dst s.ht).kind=0)||(AQ (Dk s.dst s.ht)).2)&&(decide ((Dk s.src s.hf).kind=0)||(AQ (Dk s.src s.hf)).2))=_;rw[a3,b3];show(St.mk 2 [] (if (Dk s.src s.hf).kind≠0 then(AQ (Dk s.src s.hf)).1 else 0) (if (Dk s.dst s.ht).kind≠0 then(AQ (Dk s.dst s.ht)).1 else 0) (decide ((Dk s.src s.hf).kind≠0)) (decide ((Dk s.dst s.ht).kind≠0)),true)=_;rw[b1,a1]
  rw[ht];exact⟨rfl,rfl⟩
 ·rw[if_neg k2] at h;cases h
def H4(h:BM s=true)(k:Int)(k2:s.kind=2):A5 (ET s) k=A5 s k:=by
 rw[(Kq h).2,if_neg (by omega),if_neg (by omega)];simp only[A5];cases s.hf<;>cases s.ht<;>rfl
def Ky(h:BM s=true):(ET s).kind=s.kind∧(s.kind=0→(ET s).text=s.text)∧(s.kind=1→(ET s).src=s.src):=by
 have hk:s.kind=0∨s.kind=1∨s.kind=2:=by
  unfold BM at h;by_cases k0:s.kind=0
  ·exact .inl k0
  by_cases k1:s.kind=1
  ·exact .inr (.inl k1)
  by_cases k2:s.kind=2
  ·exact .inr (.inr k2)
  ·rw[if_neg k0,if_neg k1,if_neg k2] at h;cases h
 rw[(Kq h).2];rcases hk with q|q|q
 ·rw[if_pos q];exact⟨q.symm,fun _=>rfl,fun r=>by omega⟩
 ·rw[if_neg (by omega),if_pos q];exact⟨q.symm,fun r=>by omega,fun _=>rfl⟩
 ·rw[if_neg (by omega),if_neg (by omega)];exact⟨q.symm,fun r=>by omega,fun r=>by omega⟩
def Ui(h:BM s=true)(v:V):AU v (ET s)=AU v s:=by
 obtain⟨h1,h2,h3⟩:=Ky h;unfold AU;rw[h1];by_cases k0:s.kind=0
 ·rw[h2 k0];simp only[k0,show¬(0:Int)=1 by decide,show¬(0:Int)=2 by decide,false_and,if_false]
 by_cases k1:s.kind=1
 ·rw[h3 k1];simp only[k1,show¬(1:Int)=0 by decide,show¬(1:Int)=2 by decide,false_and,if_false]
 by_cases k2:s.kind=2
 ·rw[H4 h _ k2,H4 h _ k2];simp only[k2,show¬(2:Int)=0 by decide,show¬(2:Int)=1 by decide,false_and,if_false]
 ·simp only[k0,k1,k2,false_and,if_false]
def Wt(h:BM s=true)(v y:V):BP v (ET s) y=BP v s y:=by
 obtain⟨h1,h2,h3⟩:=Ky h;unfold BP;rw[h1];by_cases k0:s.kind=0
 ·rw[h2 k0];simp only[k0,show¬(0:Int)=1 by decide,show¬(0:Int)=2 by decide,false_and,if_false]
 by_cases k1:s.kind=1
 ·rw[h3 k1];simp only[k1,show¬(1:Int)=0 by decide,show¬(1:Int)=2 by decide,false_and,if_false]
 by_cases k2:s.kind=2
 ·rw[H4 h _ k2];simp only[k2,show¬(2:Int)=0 by decide,show¬(2:Int)=1 by decide,false_and,if_false]
 ·simp only[k0,k1,k2,false_and,if_false]
def QQ(h:BM s=true)(v:V):Bv v (ET s)=Bv v s:=by
 obtain⟨h1,h2,h3⟩:=Ky h;unfold Bv;rw[h1];by_cases k0:s.kind=0
 ·rw[h2 k0];simp only[k0,show¬(0:Int)=1 by decide,show¬(0:Int)=2 by decide,false_and,if_false]
 by_cases k1:s.kind=1
 ·rw[h3 k1];simp only[k1,show¬(1:Int)=0 by decide,show¬(1:Int)=2 by decide,false_and,if_false]
 by_cases k2:s.kind=2
 ·rw[H4 h _ k2];simp only[k2,show¬(2:Int)=0 by decide,show¬(2:Int)=1 by decide,false_and,if_false]
 ·simp only[k0,k1,k2,false_and,if_false]
def MK:∀(l:List St) (v:V),(∀s∈l,BM s=true)→BX v (l.map ET)=BX v l
 |[],_,_=>rfl
 |[s],v,h=>QQ (h s (ZG ..)) v
 |s::s2::l,v,h=>by
  have hs:=h s (ZG ..);have ih:=MK (s2::l) (AU v s).1 (fun x hx=>h x (ZE _ hx));simp only[Abc] at ih⊢;rw[BX,BX,Ui hs,ih,Wt hs]
def Qz(h:BM s=true):Ca s=true:=by
 unfold BM at h;simp only[Ca,Zz,Aad,decide_eq_true_eq];by_cases k0:s.kind=0
 ·rw[if_pos k0] at h;exact⟨⟨by omega,by omega⟩,.inr h⟩
 by_cases k1:s.kind=1
 ·exact⟨⟨by omega,by omega⟩,.inl k0⟩
 by_cases k2:s.kind=2
 ·exact⟨⟨by omega,by omega⟩,.inl k0⟩
 ·rw[if_neg k0,if_neg k1,if_neg k2] at h;cases h
def Wa(h:BM s=true):BM (ET s)=true:=by
 have h0:=h;rw[(Kq h).2];unfold BM at h;by_cases k0:s.kind=0
 ·rw[if_pos k0] at h⊢;simpa [BM] using h
 rw[if_neg k0] at h⊢;by_cases k1:s.kind=1
 ·rw[if_pos k1] at h⊢;simpa [BM] using h
 rw[if_neg k1] at h⊢;by_cases k2:s.kind=2
 ·rw[if_pos k2,Zz] at h;simp only[BM,show¬(2:Int)=0 by decide,show¬(2:Int)=1 by decide,if_false,if_true,Zz];constructor
  ·have:=h.1;cases hb:s.ht<;>simp[CN,hb] at this⊢;exact this
  ·have:=h.2;cases hb:s.hf<;>simp[CN,hb] at this⊢;exact this
 ·rw[if_neg k2] at h;cases h
def Qw{l:List St}(h:Dc l=true)(v:V):CC v (l.map ET)=CC v l:=by
 have hs:∀s∈l,BM s=true:=fun s hm=>ZF.1 h s hm;have e1:l.all Ca=true:=ZF.2 fun s hm=>Qz (hs s hm);have e2:(l.map ET).all Ca=true:=by
  rw[ZF];intro s hm;obtain⟨x,hx,rfl⟩:=Abq.1 hm;exact Qz (Wa (hs x hx))
 unfold CC Cw;rw[e1,e2,MK l v hs]
def VP(l:List St):l.map ET=(BU l).list.map fun x=>(BB x).1:=by
 show _=(l.map B4).map _;rw[List.map_map];rfl
def Nr(v x:V):V×Int:=CC v (x.list.map fun x=>(BB x).1)
def LR{l:List St}(h:Dc l=true)(v:V):CC v l=Nr v (BU l):=by rw[Nr,←VP,Qw h]
def FG:V→List V→V×Int
 |v,[]=>(v,0)
 |v,x::l=>if (Nr v x).2≠0 then(V.zero,(Nr v x).2) else FG (Nr v x).1 l
end Go.Gk.Val
end
section
namespace Go.Gk.Val
open Go Go.Gk
section
section
variable {P:Program}{pan:List PanicEntry→A0}{Qn:Env→A0}{Ls L:List Ag}{ρ:Env}{d:Ag}{s:GS}{t:Nat}{tk:Bool}
def Hp{x y a b}(ex:ev ρ x=.agg a.toArray)(ha:a.length=6)(ey:ev ρ y=.agg b.toArray)(hb:b.length=6)(h:∀q T,gws P pan Qn s Ls (upd ρ t (.slice (some ⟨q,0,none⟩) 2 2)) d (bx q T (a++b)::L)):
  gws P pan Qn (.op false ⟨some t,none,.bsl 2 6 [vZ 0,vZ 0,vZ 0,Al [],.slice none 0 0,.slice none 0 0] [(0,x),(1,y)]⟩ s) Ls ρ d L:=by
 obtain⟨a0,a1,a2,a3,a4,a5,rfl⟩:=six ha
 obtain⟨b0,b1,b2,b3,b4,b5,rfl⟩:=six hb
 refine DI (by omega) ?_ h
 simp[Instr.fill,BC,Z8,List.range.loop,ex,ey,Value.cells]
def YP{x y z a b c}(ex:ev ρ x=.agg a.toArray)(ha:a.length=6)(ey:ev ρ y=.agg b.toArray)(hb:b.length=6)(ez:ev ρ z=.agg c.toArray)(hc:c.length=6)
  (h:∀q T,gws P pan Qn s Ls (upd ρ t (.slice (some ⟨q,0,none⟩) 3 3)) d (bx q T (a++b++c)::L)):
  gws P pan Qn (.op false ⟨some t,none,.bsl 3 6 [vZ 0,vZ 0,vZ 0,Al [],.slice none 0 0,.slice none 0 0] [(0,x),(1,y),(2,z)]⟩ s) Ls ρ d L:=by
 obtain⟨a0,a1,a2,a3,a4,a5,rfl⟩:=six ha
 obtain⟨b0,b1,b2,b3,b4,b5,rfl⟩:=six hb
 obtain⟨c0,c1,c2,c3,c4,c5,rfl⟩:=six hc
 refine DI (by omega) ?_ h
 simp[Instr.fill,BC,Z8,List.range.loop,ex,ey,ez,Value.cells]
end
def Va{d d'}{q:Nat}{T a b}{x y:V}(hx:Aw d a x)(hy:Aw d b y)(hl:Le d d')(h:Le (bx q T (a++b)) d'):BL d' (.slice (some ⟨q,0,none⟩) 2 2) [x,y]:=by
 obtain⟨a0,a1,a2,a3,a4,a5,rfl⟩:=six hx.len;obtain⟨b0,b1,b2,b3,b4,b5,rfl⟩:=six hy.len;have o:=BO.lit (sz:=6) (b:=q) (T:=T) (n:=2) (l:=[a0,a1,a2,a3,a4,a5]++[b0,b1,b2,b3,b4,b5]) rfl (by omega);refine o.rsl (R:=Aw) h rfl (by omega) (fun i hi=>?_);have hi2:i<2:=hi;obtain rfl|rfl:i=0∨i=1:=by omega
 ·exact Aw.mono hl hx
 ·exact Aw.mono hl hy
def Y6{d d'}{q:Nat}{T a b c}{x y z:V}(hx:Aw d a x)(hy:Aw d b y)(hz:Aw d c z)(hl:Le d d')(h:Le (bx q T (a++b++c)) d'):BL d' (.slice (some ⟨q,0,none⟩) 3 3) [x,y,z]:=by
 obtain⟨a0,a1,a2,a3,a4,a5,rfl⟩:=six hx.len;obtain⟨b0,b1,b2,b3,b4,b5,rfl⟩:=six hy.len;obtain⟨c0,c1,c2,c3,c4,c5,rfl⟩:=six hz.len;have o:=BO.lit (sz:=6) (b:=q) (T:=T) (n:=3) (l:=[a0,a1,a2,a3,a4,a5]++[b0,b1,b2,b3,b4,b5]++[c0,c1,c2,c3,c4,c5]) rfl (by omega);refine o.rsl (R:=Aw) h rfl (by omega) (fun i hi=>?_);have hi2:i<3:=hi;obtain rfl|rfl|rfl:i=0∨i=1∨i=2:=by omega
 ·exact Aw.mono hl hx
 ·exact Aw.mono hl hy
 ·exact Aw.mono hl hz
end
end Go.Gk.Val
end
section
namespace Go.Gk
open Go
section
variable {P:Program}{pan:List PanicEntry→A0}{Qn:Env→A0}{Ls L:List Ag}{ρ:Env}{d:Ag}{s:GS}
def R6{α:Type}{sz by_ t:Nat}{R:Ag→List Value→α→Prop}{z:List Value}{x y:Operand}{v w:Value}{xs ys:List α}{h:Ag}(hR:HG R)(ex:ev ρ x=v)(ho:AN sz R d v xs h)
  (ey:ev ρ y=w) (hs:Src sz R d (Ls++(h::L)++(h::L)) w ys) (hsz:0<sz) (hm:xs.length+ys.length≤140737488355328) (hb:(xs.length+ys.length)*by_≤140737488355328)
  (k:∀a c d',Le d d'→RSl sz R d' (.slice a (xs++ys).length c) (xs++ys)→gws P pan Qn s Ls (upd ρ t (.slice a (xs++ys).length c)) d' L):gws P pan Qn (.op false ⟨some t,none,.app sz by_ z x y⟩ s) Ls ρ d (h::L):=by
 obtain⟨cs,h1,h2⟩:=ho
 obtain⟨news,k1,k2,k3⟩:=hs
 have hl:=h1.1
 refine Ny 0 ex rfl h1 ey k1 k2 hsz hm hb (fun v' h' o=>⟨join d h',L,Vs.freeze,?_⟩)
 have hg:AN sz R d v' (xs++ys) h':=by
  refine⟨cs++news,by rw[ZH];exact o,fun j hj=>?_⟩
  by_cases e:j<xs.length
  ·rw[DO hl e,List.getElem_append_left e];exact h2 j e
  ·rw[Eu hl (by omega),List.getElem_append_right (by omega)];exact k3 _ (by simp at hj;omega)
 have hr:=hg.rsl hR hsz (Le.BD d h') (Le.BZ d h')
 obtain⟨a,c,rfl⟩:=hr.val
 exact k a c _ (Le.BD d h') hr
def UT{α:Type}{sz by_ t0 t1 t2:Nat}{R:Ag→List Value→α→Prop}{z:List Value}{x y:Operand}{vx vy:Value}{xs ys:List α}(hR:HG R)(hc:Eg R)(hsz:0<sz)(_:(t0==t1)=false)
  (rx:RSl sz R d vx xs) (ry:RSl sz R d vy ys) (ex:∀u,ev (upd ρ t0 u) x=vx) (ey:∀u w,ev (upd (upd ρ t0 u) t1 w) y=vy) (hb:(xs.length+ys.length)*by_≤140737488355328) (hm:xs.length+ys.length≤140737488355328)
  (k:∀v0 v1 a c d',Le d d'→RSl sz R d' (.slice a (xs++ys).length c) (xs++ys)→gws P pan Qn s Ls (upd (upd (upd ρ t0 v0) t1 v1) t2 (.slice a (xs++ys).length c)) d' L):
  gws P pan Qn (.op false ⟨some t0,none,.bsl 0 sz z []⟩ (.op false ⟨some t1,none,.app sz by_ z (.tmp t0) x⟩ (.op false ⟨some t2,none,.app sz by_ z (.tmp t1) y⟩ s))) Ls ρ d L:=by
 have up:∀(ρ:Env) (t:Nat) (v:Value),ev (upd ρ t v) (.tmp t)=v:=fun ρ t v=>by simp[ev,upd]
 refine DI (cs:=[]) (by simp) (by simp[Instr.fill,BC]) (fun b T=>?_)
 have hm1:xs.length*by_≤140737488355328:=Nat.le_trans (ZQ _ (by omega)) hb
 refine CO (R:=R) 0 (up _ _ _) rfl (AN.Iw (R:=R) (sz:=sz)) (ex _) (rx.src hc hsz _) hsz (by simp;omega) (by simpa using hm1) (fun v1 h1 o1=>?_)
 rw[Z5] at o1
 exact R6 (R:=R) hR (up _ _ _) o1 (ey _ _) (ry.src hc hsz _) hsz hm hb (fun a c d' hl hr=>k _ _ a c d' hl hr)
def NA{α:Type}{sz by_ t0 t1:Nat}{R:Ag→List Value→α→Prop}{z:List Value}{x:Operand}{vx:Value}{xs:List α}(_:HG R)(hc:Eg R)(hsz:0<sz)
  (rx:RSl sz R d vx xs) (ex:∀u,ev (upd ρ t0 u) x=vx) (hb:xs.length*by_≤140737488355328) (hm:xs.length≤140737488355328)
  (k:∀v0 v1 h1,AN sz R d v1 xs h1→gws P pan Qn s Ls (upd (upd ρ t0 v0) t1 v1) d (h1::L)):
  gws P pan Qn (.op false ⟨some t0,none,.bsl 0 sz z []⟩ (.op false ⟨some t1,none,.app sz by_ z (.tmp t0) x⟩ s)) Ls ρ d L:=by
 have up:∀(ρ:Env) (t:Nat) (v:Value),ev (upd ρ t v) (.tmp t)=v:=fun ρ t v=>by simp[ev,upd]
 refine DI (cs:=[]) (by simp) (by simp[Instr.fill,BC]) (fun b T=>?_)
 refine CO (R:=R) 0 (up _ _ _) rfl (AN.Iw (R:=R) (sz:=sz)) (ex _) (rx.src hc hsz _) hsz (by simp;omega) (by simpa using hb) (fun v1 h1 o1=>?_)
 rw[Z5] at o1
 exact k _ _ _ o1
end
end Go.Gk
namespace Go.Gk
open Go
section
variable {P:Program}{pan:List PanicEntry→A0}{Qn:Env→A0}{Ls L:List Ag}{ρ:Env}{d:Ag}{s:GS}{t:Nat}{tk:Bool}
def YM{x y}{a b:Int}(ex:ev ρ x=vZ a)(ey:ev ρ y=vZ b)(h:∀u,(-9223372036854775808≤a+b→a+b≤9223372036854775807→u=a+b)→gws P pan Qn s Ls (upd ρ t (vZ u)) d L):
  gws P pan Qn (.op tk ⟨some t,none,.bin .add x y⟩ s) Ls ρ d L:=
 Db (by rw[ex,ey];simp[C2]) (h (IntKind.i64.wrap (a+b)) (fun h1 h2=>EJ h1 h2))
end
end Go.Gk
namespace Go.Gk
open Go
def Ik{l vs}{o k:Nat}(h:o+vs.length≤l.length):(patch l o vs)[k]?=if o≤k∧k<o+vs.length then vs[k - o]? else l[k]?:=by
 unfold patch;have hl:(l.take o).length=o:=by rw[ZP];omega
 by_cases h1:k<o
 ·rw[if_neg (by omega),Zy,Aaq (by omega),Z4 h1]
 by_cases h2:k<o+vs.length
 ·rw[if_pos ⟨by omega,h2⟩,Aaq (by rw[ZH];omega),Abm (by omega),hl]
 ·rw[if_neg (by omega),Abm (by rw[ZH];omega),Abi,ZH,hl];congr 1;omega
def EM{l vs}{o:Nat}(h:o+vs.length≤l.length):(patch l o vs).length=l.length:=by
 unfold patch;simp only[ZH,ZP,Aab];omega
def SJ{l vs}{o n:Nat}(h:o+vs.length≤n)(hn:n≤l.length):(patch l o vs).take n=patch (l.take n) o vs:=by
 refine Abd fun k=>?_;have hl:(l.take n).length=n:=by rw[ZP];omega
 rw[Ik (by omega)];by_cases hk:k<n
 ·rw[Z4 hk,Z4 hk,Ik (by omega)]
 ·rw[if_neg (by omega),ZY (by rw[ZP];omega),ZY (by omega)]
def OT{cs}{i sz k:Nat}:(chunk cs i sz)[k]?=if k<sz then cs[i*sz+k]? else none:=by
 unfold chunk;by_cases h:k<sz
 ·rw[Z4 h,Abi,if_pos h]
 ·rw[if_neg h,ZY (by rw[ZP];omega)]
def RQ{cs vs}{i m sz n:Nat}(hl:cs.length=n*sz)(hv:vs.length=sz)(hm:m<n):chunk (patch cs (m*sz) vs) i sz=if i=m then vs else chunk cs i sz:=by
 have h1:m*sz+sz≤n*sz:=by have:=ZQ sz (show m+1≤n from hm);rwa [Aai,Abh] at this
 refine Abd fun k=>?_;rw[OT];by_cases e:i=m
 ·subst e;rw[if_pos rfl];by_cases hk:k<sz
  ·rw[if_pos hk,Ik (by omega),if_pos (by omega)];congr 1;omega
  ·rw[if_neg hk,ZY (by omega)]
 ·rw[if_neg e,OT];by_cases hk:k<sz
  ·rw[if_pos hk,if_pos hk,Ik (by omega),if_neg];rintro⟨a,b⟩;rcases Nat.lt_or_gt_of_ne e with q|q
   ·have:=ZQ sz (show i+1≤m from q);rw[Aai,Abh] at this;omega
   ·have:=ZQ sz (show m+1≤i from q);rw[Aai,Abh] at this;omega
  ·rw[if_neg hk,if_neg hk]
def XQ{P}{pan:List PanicEntry→A0}{Qn:Env→A0}{Ls ρ d g}(h:∀d',Le d d'→Le g d'→Qn ρ d' Ls):gws P pan Qn .done Ls ρ d [g]:=
 ⟨join d g,Ls,(Vs.perm List.perm_append_comm:Vs d (Ls++[g]) d ([g]++Ls)).trans Vs.freeze,h _ (Le.BD _ _) (Le.BZ _ _)⟩
def AN.I6{α}{sz:Nat}{R d v}{xs:List α}{h}(_:0<sz)(o:AN sz R d v xs h){m:Nat}(hm:m<xs.length):
  ∃b T l c,v=.slice (some ⟨b,0,none⟩) xs.length c∧h=bx b T l∧m*sz+sz≤l.length∧∀cs' x,cs'.length=sz→R d cs' x→AN sz R d v (xs.set m x) (bx b T (patch l (m*sz) cs')):=by
 obtain⟨cs,⟨h1,h2,⟨rfl,h0,rfl⟩|⟨b,T,l,c,rfl,rfl,h3,h4,h5,h6⟩⟩,hr⟩:=o
 ·omega
 ·have hmz:m*sz+sz≤xs.length*sz:=by have:=ZQ sz (show m+1≤xs.length from hm);rwa [Aai,Abh] at this
  have hcz:xs.length*sz≤c*sz:=ZQ sz h3
  refine⟨b,T,l,c,rfl,rfl,by omega,fun cs' x hl hx=>⟨patch cs (m*sz) cs',?_,fun i hi=>?_⟩⟩
  ·have hp:(patch cs (m*sz) cs').length=cs.length:=EM (by omega)
   refine⟨by rw[hp,Abb,h1],by rw[Abb];exact h2,.inr ⟨b,T,_,c,by rw[Abb],rfl,by rw[Abb];exact h3,h4,by rw[EM (by omega)];exact h5,?_⟩⟩
   rw[hp,SJ (by omega) (by omega),h6]
  ·rw[RQ h1 hl hm]
   rw[Abb] at hi
   by_cases e:i=m
   ·subst e
    rw[if_pos rfl,List.getElem_set_self];exact hx
   ·rw[if_neg e,List.getElem_set_ne (fun q=>e q.symm)];exact hr i hi
end Go.Gk
end
section
namespace Go.Gk.Val
open Go Go.Gk Go.Gk.Utf
attribute [local irreducible] gwp gws
variable{d:Ag}{P:Program}{f f1:FuncId}{s:St}{v:V}
section
section
variable {P:Program}{pan:List PanicEntry→A0}{Qn:Env→A0}{Ls L:List Ag}{ρ:Env}{d:Ag}{s:GS}{t:Nat}{tk:Bool}
def Ut{x}{a:Int}(ex:ev ρ x=vZ a)(h:gws P pan Qn s Ls (upd ρ t (.agg [vZ a,vZ 0].toArray)) d L):
  gws P pan Qn (.op tk ⟨some t,none,.bld [(0,1),(1,1)] [vZ 0,vZ 0] [(0,x)]⟩ s) Ls ρ d L:=
 BN (cs:=[vZ a,vZ 0]) (by simp[Instr.fill,ex,Value.cells]) h
def PK{x y k}{a m e:Int}(ex:ev ρ x=.int k a)(ey:ev ρ y=.agg [vZ m,vZ e].toArray)(h:gws P pan Qn s Ls (upd ρ t (.agg [.int k a,vZ m,vZ e,Al [],.slice none 0 0,.slice none 0 0].toArray)) d L):
  gws P pan Qn (.op tk ⟨some t,none,.bld [(0,1),(1,2),(3,1),(4,1),(5,1)] [vZ 0,vZ 0,vZ 0,Al [],.slice none 0 0,.slice none 0 0] [(0,x),(1,y)]⟩ s) Ls ρ d L:=
 BN (cs:=[.int k a,vZ m,vZ e,Al [],.slice none 0 0,.slice none 0 0]) (by simp[Instr.fill,ex,ey,Value.cells,Al]) h
end
def WK{d:Ag}{ks:List (List UInt8)}(h:∀k∈ks,k.length≤140737488355328):∀i (hi:i<ks.length),A2 d (chunk (ks.map Al) i 1) ks[i]:=fun i hi=>by
 have hc:chunk (ks.map Al) i 1=[Al ks[i]]:=by
  simp only[chunk,Abw];rw[ZT (by simpa using hi)];simp
 rw[hc];exact⟨rfl,h _ (ZC hi)⟩
def Ip{d}{q:Nat}{T ks}(hk:∀k∈ks,k.length≤140737488355328)(hl:ks.length≤140737488355328)(h:Le (bx q T (ks.map Al)) d):BK d (.slice (some ⟨q,0,none⟩) ks.length ks.length) ks:=
 (BO.lit (sz:=1) (b:=q) (T:=T) (n:=ks.length) (l:=ks.map Al) (by simp) hl).rsl (R:=A2) h rfl (by omega) (WK hk)
def W4:I64 3:=⟨by decide,by decide⟩
end
abbrev Et(n:Int):List Value:=[.int .i64 3,.int .i64 (dig 10 n 0).1,.int .i64 (dig 10 n 0).2,Al [],.slice none 0 0,.slice none 0 0]
def H8(n:Int):List Value:=if B1 n then Et n else A7
def TG(n:Int):V:=if B1 n then El n else V.zero
def XK{n:Int}(h:B1 n=true):I64 (dig 10 n 0).1∧I64 (dig 10 n 0).2:=by
 rw[Dy] at h;have hb:n.natAbs<10 ^ 10:=by rw[show(10:Nat)^ 10=10000000000 by decide];omega
 obtain⟨k,h1,h2,h3,_,_⟩:=ME 10 n 0 hb;have a:=G3 (dig 10 n 0).1 k;rw[←h3] at a;constructor
 ·constructor<;>omega
 ·rw[h2];constructor<;>omega
def FZ{n:Int}:Aw d (H8 n) (TG n):=by
 unfold H8 TG;by_cases h:B1 n=true
 ·rw[if_pos h,if_pos h];obtain⟨h1,h2⟩:=XK h;exact Aw.close (v:=El n) W4 h1 h2 (by simp[El,V.text]) RSl.nil RSl.nil
 ·rw[if_neg h,if_neg h];exact Aw.zero
def Tu(P:Program)(f:FuncId):Prop:=∀{d}{n:Int},I64 n→AM P f [vZ n] d (.tuple #[.agg (H8 n).toArray,.bool (B1 n)])
def NM:A6:=⟨27,[(.cell 2 (some 6)),(.tmp 3)],(sR (o1 2 (.alo (.agg #[(vZ 0),(vZ 0),(vZ 0),(Al []),(.slice none 0 0),(.slice none 0 0)]))<|o1 3 (.mv (.const (.bool false))) .done) (.seq (sR (om 5 0<|ob 6 .lss 5 (kZ (-1000000000))<|om 7 6<|gF 8 7 0<|oF 9 7 (.bin .gtr 8 (kZ 1000000000))<|o1 10 (.pick 7 (.const (.bool true)) 9) .done) (.cond 10 (sR (o1 11 (.bld [(0,1),(1,2),(3,1),(4,1),(5,1)] [(vZ 0),(vZ 0),(vZ 0),(Al []),(.slice none 0 0),(.slice none 0 0)] [])<|o0 (.st 6 2 11)<|o1 3 (.mv (.const (.bool false))) .done) .ret) .skip)) (sR (o1 4 (.mv z0) .done) (.seq (.block 0 (.loop (.seq (sR (om 12 0<|ob 13 .neq 12 z0<|om 14 13<|gT 15 14 0<|oT 16 14 (.bin .rem 15 (kZ 10))<|oT 17 14 (.bin .eql 16 z0)<|gP 18 14 17 .done) (.cond 18 .skip (.exit 0))) (.block 1 (rG (om 19 0<|ob 20 .quo 19 (kZ 10)<|om 21 4<|ob 22 .add 21 z1<|om 0 20<|om 4 22 .done)))))) (sR (om 23 0<|om 24 4<|o1 25 (.bld [(0,1),(1,1)] [(vZ 0),(vZ 0)] [(0,23),(1,24)])<|o1 26 (.bld [(0,1),(1,2),(3,1),(4,1),(5,1)] [(vZ 0),(vZ 0),(vZ 0),(Al []),(.slice none 0 0),(.slice none 0 0)] [(0,(kZ 3)),(1,25)])<|o0 (.st 6 2 26)<|o1 3 (.mv (.const (.bool true))) .done) .ret)))))⟩
set_option maxHeartbeats 1000000 in
def Zq(hd:dec P f=some NM):Tu P f:=by
 intro d n ⟨hi1,hi2⟩;refine AM.of' hd (No rfl) ?_;show gwp P _ _ _ _ _;(refine Ac<|AX (fun _ _=>Ad rfl<|Aa<|Ai<|Ac<|Ab rfl<|Ax rfl rfl<|Ad rfl ?_));rename_i b2 T2;by_cases h:B1 n=true
 ·have hn:=Dy.1 h;rw[H8,if_pos h,h];clear h;have hb:n.natAbs<10 ^ 10:=by rw[show(10:Nat)^ 10=10000000000 by decide];omega
  (refine AB rfl (by omega)<|Ae rfl<|Ab rfl<|Ae rfl<|AP rfl rfl<|An rfl rfl<|Aa<|Ao rfl (by omega)<|Am<|Ac<|Ab rfl<|Aa<|Ai<|Av ?_);refine Bg (α:=Nat×Int×Int) (fun x=>[(0,vZ x.2.1),(2,pZ b2),(4,vZ x.2.2)])
   (fun x d' L'=>d'=d∧dig 10 n 0=dig x.1 x.2.1 x.2.2∧x.2.1.natAbs<10 ^ x.1∧x.2.2+x.1=10∧0≤x.2.2∧ -1000000000≤x.2.1∧x.2.1≤1000000000∧L'=[bx b2 T2 A7]) (fun x=>x.1) (10,n,0)
   ⟨rfl,rfl,rfl,trivial⟩ ⟨rfl,rfl,hb,rfl,Int.le_refl _,hn.1,hn.2,rfl⟩ ?_
  rintro⟨f,m,e⟩ ρ d' L' ⟨hdd,hdg,hlt,hef,he,hm1,hm2,hL⟩;simp only at hdg hlt hef he hm1 hm2⊢;subst hdd;subst hL;by_cases hz:m=0
  ·subst hz;rw[show Et n=[vZ 3,vZ 0,vZ e,Al [],.slice none 0 0,.slice none 0 0] by unfold Et;rw[hdg,Ht (by omega)]];(refine Ai<|Ac<|Ab rfl<|AG rfl rfl<|Ad rfl<|AB rfl (by omega)<|Ak rfl<|Ak rfl<|Ak rfl<|An rfl rfl<|Aa<|AK rfl<|AV<|Ac<|Ab rfl<|Ab rfl<|BN rfl<|PK rfl rfl ?_);refine Az 0 [vZ 3,vZ 0,vZ e,Al [],.slice none 0 0,.slice none 0 0] rfl rfl rfl rfl (No rfl) rfl rfl ?_;(refine Ad rfl<|Aa<|Ar ?_);exact BG (L':=[]) [.agg [vZ 3,vZ 0,vZ e,Al [],.slice none 0 0,.slice none 0 0].toArray,.bool true] ⟨A3 0 rfl rfl rfl,A4 rfl,trivial⟩ (ZB _) ⟨rfl,rfl⟩
  by_cases hq:m % 10=0
  ·obtain⟨f,rfl⟩:∃g,f=g+1:=⟨f - 1,by cases f with|zero=>simp at hlt;omega|succ f=>rfl⟩
   have ht:=JC.2 hq;have hdv:=Qx hq;rw[hdg,Mp ⟨hz,hq⟩];(refine Ai<|Ac<|Ab rfl<|AG rfl rfl<|Ad rfl<|AE rfl (by omega)<|Ae rfl<|Ab rfl<|Ae rfl<|FH rfl rfl (by omega)<|Ae rfl<|Aq rfl rfl<|Ap rfl rfl<|Aa<|Au rfl (by omega)<|Am<|Av<|Ay<|Ab rfl<|Nw rfl rfl (by omega) (by omega) (by omega)<|Ab rfl<|AI rfl rfl (by omega) (by omega)<|Ab rfl<|Ab rfl<|Aa ?_);exact⟨(f,m / 10,e+1),Nat.lt_succ_self f,⟨congrArg (Value.int .i64) hdv,rfl,rfl,trivial⟩,rfl,rfl,by simp only;rw[Ach] at hlt;omega,by simp only;omega,by simp only;omega,by simp only;omega,by simp only;omega,rfl⟩
  ·have ht:m.tmod 10≠0:=fun q=>hq (JC.1 q);rw[show Et n=[vZ 3,vZ m,vZ e,Al [],.slice none 0 0,.slice none 0 0] by unfold Et;rw[hdg,Ht (fun q=>hq q.2)]];(refine Ai<|Ac<|Ab rfl<|AG rfl rfl<|Ad rfl<|AE rfl (by omega)<|Ae rfl<|Ab rfl<|Ae rfl<|FH rfl rfl (by omega)<|Ae rfl<|Aq rfl rfl<|Ap rfl rfl<|Aa<|Ao rfl (by omega)<|AV<|Ac<|Ab rfl<|Ab rfl<|BN rfl<|PK rfl rfl ?_);refine Az 0 [vZ 3,vZ m,vZ e,Al [],.slice none 0 0,.slice none 0 0] rfl rfl rfl rfl (No rfl) rfl rfl ?_;(refine Ad rfl<|Aa<|Ar ?_);exact BG (L':=[]) [.agg [vZ 3,vZ m,vZ e,Al [],.slice none 0 0,.slice none 0 0].toArray,.bool true] ⟨A3 0 rfl rfl rfl,A4 rfl,trivial⟩ (ZB _) ⟨rfl,rfl⟩
 ·have hn:n< -1000000000∨1000000000<n:=by rw[Dy] at h;omega
  have h':B1 n=false:=by simpa using h
  rw[H8,h'];clear h h';by_cases hlo:n< -1000000000
  ·(refine AE rfl (by omega)<|Ak rfl<|Ak rfl<|Ap rfl rfl<|Aa<|Bb rfl<|Ac<|Bl ?_);refine Az 0 [vZ 0,vZ 0,vZ 0,Al [],.slice none 0 0,.slice none 0 0] rfl rfl rfl rfl (No rfl) rfl rfl ?_;(refine Ad rfl<|Aa<|Ar ?_);exact BG (L':=[]) [.agg [vZ 0,vZ 0,vZ 0,Al [],.slice none 0 0,.slice none 0 0].toArray,.bool false] ⟨A3 0 rfl rfl rfl,A4 rfl,trivial⟩ (ZB _) ⟨rfl,rfl⟩
  ·(refine AB rfl (by omega)<|Ae rfl<|Ab rfl<|Ae rfl<|AP rfl rfl<|An rfl rfl<|Aa<|Au rfl (by omega)<|Ac<|Bl ?_);refine Az 0 [vZ 0,vZ 0,vZ 0,Al [],.slice none 0 0,.slice none 0 0] rfl rfl rfl rfl (No rfl) rfl rfl ?_;(refine Ad rfl<|Aa<|Ar ?_);exact BG (L':=[]) [.agg [vZ 0,vZ 0,vZ 0,Al [],.slice none 0 0,.slice none 0 0].toArray,.bool false] ⟨A3 0 rfl rfl rfl,A4 rfl,trivial⟩ (ZB _) ⟨rfl,rfl⟩
def KX{m:Int}(h1: -1000000000≤m)(h2:m≤1000000000){i:Nat}(hi:i≤9): -1000000000000000000≤m*10 ^ i∧m*10 ^ i≤1000000000000000000:=by
 have a:(m*10 ^ i).natAbs=m.natAbs*10 ^ i:=by rw[Int.natAbs_mul,Int.natAbs_pow];rfl
 have b:m.natAbs*10 ^ i≤1000000000*10 ^ 9:=Nat.mul_le_mul (by omega) (Acn (by decide) hi);have c:(1000000000:Nat)*10 ^ 9=1000000000000000000:=by decide
 omega
def LW(P:Program)(f:FuncId):Prop:=∀{d cs}{v:V},Aw d cs v→AM P f [.agg cs.toArray] d (.tuple #[vZ (AQ v).1,.bool (AQ v).2])
def Ox:A6:=⟨44,[(.tmp 2),(.tmp 3)],(sR (o1 1 (.box 0)<|o1 2 (.mv z0)<|o1 3 (.mv (.const (.bool false))) .done) (.seq (sR (oj 5 0 1<|ol 6 5<|ob 7 .neq 6 (kZ 3)<|om 8 7<|oF 9 8 (.fld 1 1)<|oF 10 8 (.fld 1 9)<|oF 11 8 (.ld none 10)<|oF 12 8 (.bin .lss 11 z0)<|o1 13 (.pick 8 (.const (.bool true)) 12)<|om 14 13<|oF 15 14 (.fld 1 1)<|oF 16 14 (.fld 1 15)<|oF 17 14 (.ld none 16)<|oF 18 14 (.bin .gtr 17 (kZ 9))<|o1 19 (.pick 14 (.const (.bool true)) 18) .done) (.cond 19 (sR (o1 2 (.mv z0)<|o1 3 (.mv (.const (.bool false))) .done) .ret) .skip)) (sR (oj 20 1 1<|oj 21 0 20<|ol 22 21<|om 4 22 .done) (.seq (sR (om 23 4<|ob 24 .gtr 23 (kZ 1000000000)<|om 25 24<|gF 26 25 4<|oF 27 25 (.bin .lss 26 (kZ (-1000000000)))<|o1 28 (.pick 25 (.const (.bool true)) 27) .done) (.cond 28 (sR (o1 2 (.mv z0)<|o1 3 (.mv (.const (.bool false))) .done) .ret) .skip)) (.seq (sR (oj 29 1 1<|oj 30 1 29<|ol 31 30<|o1 32 (.mv z0) .done) (.block 0 (.loop (sR (ob 33 .lss 32 31 .done) (.seq (.cond 33 .skip (.exit 0)) (.seq (.block 1 (rG (om 34 4<|ob 35 .mul 34 (kZ 10)<|om 4 35 .done))) (rG (ob 36 .add 32 z1<|om 32 36 .done)))))))) (sR (om 37 4<|om 38 4<|ob 39 .geq 38 (kZ (-1000000000))<|om 40 39<|gT 41 40 4<|oT 42 40 (.bin .leq 41 (kZ 1000000000))<|gP 43 40 42<|om 2 37<|om 3 43 .done) .ret))))))⟩
set_option maxHeartbeats 1000000 in
def Vx(hd:dec P f=some Ox):LW P f:=by
 intro d cs v hv;refine AM.of' hd (No rfl) ?_;obtain⟨lv,kv,rfl,ik,im,ie,it,hl,hks⟩:=hv.open;obtain⟨la,lc,rfl⟩:=RSl.val hl;obtain⟨ka,kc,rfl⟩:=RSl.val hks;obtain⟨kind,m,e,t,l,ks⟩:=v;simp only[V.kind,V.m,V.e,V.text,V.list,V.keys] at ik im ie it hl hks⊢;obtain⟨im1,im2⟩:=im;obtain⟨ie1,ie2⟩:=ie;show gwp P _ _ _ _ _;apply Ai;apply Ay;refine AO (l:=[vZ kind,vZ m,vZ e,Al t,.slice la l.length lc,.slice ka ks.length kc]) rfl (fun b1 T1=>?_);by_cases c1:kind≠3
 ·rw[AQ,if_pos (Or.inl c1)];(refine Ab rfl<|Ad rfl<|Aa<|Ai<|Ac<|Af rfl<|Ah rfl (Aj 0 rfl rfl)<|AG rfl rfl<|Ad rfl<|AE rfl (by omega)<|Ak rfl<|Ak rfl<|Ak rfl<|Ak rfl<|Ap rfl rfl<|Ad rfl<|Ak rfl<|Ak rfl<|Ak rfl<|Ak rfl<|Ap rfl rfl<|Aa<|Bb rfl<|Ac<|Ab rfl<|Ad rfl<|Aa<|Ar ?_);exact BS rfl rfl
 by_cases c2:e<0
 ·rw[AQ,if_pos (Or.inr (Or.inl c2))];(refine Ab rfl<|Ad rfl<|Aa<|Ai<|Ac<|Af rfl<|Ah rfl (Aj 0 rfl rfl)<|AG rfl rfl<|Ad rfl<|AB rfl (by omega)<|Ae rfl<|Af rfl<|Ae rfl<|Af rfl<|Ae rfl<|Ah rfl (Aj 0 rfl rfl)<|Ae rfl<|Ax rfl rfl<|An rfl rfl<|Ad rfl<|AE rfl (by omega)<|Ak rfl<|Ak rfl<|Ak rfl<|Ak rfl<|Ap rfl rfl<|Aa<|Bb rfl<|Ac<|Ab rfl<|Ad rfl<|Aa<|Ar ?_);exact BS rfl rfl
 by_cases c3:e>9
 ·rw[AQ,if_pos (Or.inr (Or.inr c3))];(refine Ab rfl<|Ad rfl<|Aa<|Ai<|Ac<|Af rfl<|Ah rfl (Aj 0 rfl rfl)<|AG rfl rfl<|Ad rfl<|AB rfl (by omega)<|Ae rfl<|Af rfl<|Ae rfl<|Af rfl<|Ae rfl<|Ah rfl (Aj 0 rfl rfl)<|Ae rfl<|Ax rfl rfl<|An rfl rfl<|Ad rfl<|AB rfl (by omega)<|Ae rfl<|Af rfl<|Ae rfl<|Af rfl<|Ae rfl<|Ah rfl (Aj 0 rfl rfl)<|Ae rfl<|AP rfl rfl<|An rfl rfl<|Aa<|Au rfl (by omega)<|Ac<|Ab rfl<|Ad rfl<|Aa<|Ar ?_);exact BS rfl rfl
 rw[AQ,if_neg (by intro q;rcases q with q|q|q;exact c1 q;exact c2 q;exact c3 q)];by_cases c4:m>1000000000
 ·rw[if_pos (show ES m=true by simp[ES];omega)];(refine Ab rfl<|Ad rfl<|Aa<|Ai<|Ac<|Af rfl<|Ah rfl (Aj 0 rfl rfl)<|AG rfl rfl<|Ad rfl<|AB rfl (by omega)<|Ae rfl<|Af rfl<|Ae rfl<|Af rfl<|Ae rfl<|Ah rfl (Aj 0 rfl rfl)<|Ae rfl<|Ax rfl rfl<|An rfl rfl<|Ad rfl<|AB rfl (by omega)<|Ae rfl<|Af rfl<|Ae rfl<|Af rfl<|Ae rfl<|Ah rfl (Aj 0 rfl rfl)<|Ae rfl<|AP rfl rfl<|An rfl rfl<|Aa<|Ao rfl (by omega)<|Am<|Ac<|Af rfl<|Af rfl<|Ah rfl (Aj 0 rfl rfl)<|Ab rfl<|Aa<|Ai<|Ac<|Ab rfl<|AP rfl rfl<|Ad rfl<|AE rfl (by omega)<|Ak rfl<|Ak rfl<|Ap rfl rfl<|Aa<|Bb rfl<|Ac<|Ab rfl<|Ad rfl<|Aa<|Ar ?_);exact BS rfl rfl
 by_cases c5:m< -1000000000
 ·rw[if_pos (show ES m=true by simp[ES];omega)];(refine Ab rfl<|Ad rfl<|Aa<|Ai<|Ac<|Af rfl<|Ah rfl (Aj 0 rfl rfl)<|AG rfl rfl<|Ad rfl<|AB rfl (by omega)<|Ae rfl<|Af rfl<|Ae rfl<|Af rfl<|Ae rfl<|Ah rfl (Aj 0 rfl rfl)<|Ae rfl<|Ax rfl rfl<|An rfl rfl<|Ad rfl<|AB rfl (by omega)<|Ae rfl<|Af rfl<|Ae rfl<|Af rfl<|Ae rfl<|Ah rfl (Aj 0 rfl rfl)<|Ae rfl<|AP rfl rfl<|An rfl rfl<|Aa<|Ao rfl (by omega)<|Am<|Ac<|Af rfl<|Af rfl<|Ah rfl (Aj 0 rfl rfl)<|Ab rfl<|Aa<|Ai<|Ac<|Ab rfl<|AP rfl rfl<|Ad rfl<|AB rfl (by omega)<|Ae rfl<|Ab rfl<|Ae rfl<|Ax rfl rfl<|An rfl rfl<|Aa<|Au rfl (by omega)<|Ac<|Ab rfl<|Ad rfl<|Aa<|Ar ?_);exact BS rfl rfl
 rw[if_neg (show¬ES m=true by simp[ES];omega)];obtain⟨k,rfl⟩:∃k:Nat,e=k:=⟨e.toNat,by omega⟩
 simp only[Z2];(refine Ab rfl<|Ad rfl<|Aa<|Ai<|Ac<|Af rfl<|Ah rfl (Aj 0 rfl rfl)<|AG rfl rfl<|Ad rfl<|AB rfl (by omega)<|Ae rfl<|Af rfl<|Ae rfl<|Af rfl<|Ae rfl<|Ah rfl (Aj 0 rfl rfl)<|Ae rfl<|Ax rfl rfl<|An rfl rfl<|Ad rfl<|AB rfl (by omega)<|Ae rfl<|Af rfl<|Ae rfl<|Af rfl<|Ae rfl<|Ah rfl (Aj 0 rfl rfl)<|Ae rfl<|AP rfl rfl<|An rfl rfl<|Aa<|Ao rfl (by omega)<|Am<|Ac<|Af rfl<|Af rfl<|Ah rfl (Aj 0 rfl rfl)<|Ab rfl<|Aa<|Ai<|Ac<|Ab rfl<|AP rfl rfl<|Ad rfl<|AB rfl (by omega)<|Ae rfl<|Ab rfl<|Ae rfl<|Ax rfl rfl<|An rfl rfl<|Aa<|Ao rfl (by omega)<|Am<|Ai<|Ac<|Af rfl<|Af rfl<|Ah rfl (Aj 0 rfl rfl)<|Ab rfl<|Aa<|Av ?_);refine Bg (α:=Nat×Int) (fun x=>[(1,pZ b1),(4,vZ x.2),(31,vZ k),(32,vZ x.1)])
  (fun x d' L'=>d'=d∧x.2=m*10 ^ x.1∧x.1≤k) (fun x=>k - x.1) (0,m) ⟨rfl,rfl,rfl,rfl,trivial⟩ ⟨rfl,by simp,ZN _⟩ ?_
 rintro⟨i,n⟩ ρ d' L' ⟨hdd,hn,hi⟩;simp only at hn hi⊢;subst hdd;have hb:=KX (show -1000000000≤m by omega) (show m≤1000000000 by omega) (show i≤9 by omega);rw[←hn] at hb;by_cases hc:i<k
 ·have hb':=KX (show -1000000000≤m by omega) (show m≤1000000000 by omega) (show i+1≤9 by omega);have he:m*10 ^(i+1)=n*10:=by rw[hn,Int.pow_succ,Acr]
  rw[he] at hb';(refine Ac<|Ax rfl rfl<|Aa<|Ai<|Au rfl (by omega)<|Am<|Ai<|Av<|Ay<|Ab rfl<|Hb rfl rfl (by omega) (by omega)<|Ab rfl<|Aa<|Ay<|AI rfl rfl (by omega) (by omega)<|Ab rfl<|Aa ?_);exact⟨(i+1,n*10),by simp only;omega,⟨rfl,rfl,rfl,int_eq (by omega),trivial⟩,rfl,he.symm,hc⟩
 ·obtain rfl:i=k:=by omega
  rw[←hn];by_cases c6:n< -1000000000
  ·have h8:B1 n=false:=by simp[B1];omega
   rw[h8];(refine Ac<|Ax rfl rfl<|Aa<|Ai<|Ao rfl (by omega)<|AV<|Ac<|Ab rfl<|Ab rfl<|B5 rfl rfl<|Ad rfl<|AB rfl (by omega)<|Ak rfl<|Ak rfl<|An rfl rfl<|Ab rfl<|Ad rfl<|Aa<|Ar ?_);exact BS rfl rfl
  ·have h8:B1 n=decide (n≤1000000000):=by simp[B1];omega
   rw[h8];(refine Ac<|Ax rfl rfl<|Aa<|Ai<|Ao rfl (by omega)<|AV<|Ac<|Ab rfl<|Ab rfl<|B5 rfl rfl<|Ad rfl<|AE rfl (by omega)<|Ae rfl<|Ab rfl<|Ae rfl<|CW rfl rfl<|Ap rfl rfl<|Ab rfl<|Ad rfl<|Aa<|Ar ?_);exact BS rfl rfl
def NQ(n:Int)(has:Bool):List Value:=if has then H8 n else A7
def Ev{n:Int}{has:Bool}:Aw d (NQ n has) (Dk n has):=by
 cases has with
 |false=>exact Aw.zero
 |true=>exact FZ
def P5(P:Program)(f:FuncId):Prop:=∀{d}{n:Int}{has:Bool},I64 n→AM P f [vZ n,.bool has] d (.tuple #[.agg (NQ n has).toArray,.bool (CN n has)])
def QC(a0:Nat):A6:=⟨13,[(.cell 4 (some 6)),(.tmp 5)],(sR (o1 4 (.alo (.agg #[(vZ 0),(vZ 0),(vZ 0),(Al []),(.slice none 0 0),(.slice none 0 0)]))<|o1 5 (.mv (.const (.bool false))) .done) (.seq (sR (om 6 1<|o1 7 (.un .not 6) .done) (.cond 7 (sR (o1 8 (.bld [(0,1),(1,2),(3,1),(4,1),(5,1)] [(vZ 0),(vZ 0),(vZ 0),(Al []),(.slice none 0 0),(.slice none 0 0)] [])<|o0 (.st 6 4 8)<|o1 5 (.mv (.const (.bool true))) .done) .ret) .skip)) (sR (om 9 0<|oc 10 a0 [9]<|oe 11 10 0<|oe 12 10 1<|o0 (.st 6 4 11)<|om 5 12 .done) .ret)))⟩
def Yh(hd:dec P f=some (QC f1))(h1:Tu P f1):P5 P f:=by
 intro d n has hi;refine AM.of' hd (No rfl) ?_;show gwp P _ _ _ _ _;cases has with
 |false=>
  (refine Ac<|AX (fun _ _=>Ad rfl<|Aa<|Ai<|Ac<|Ad rfl<|Bi rfl<|Aa<|Bb rfl<|Ac<|Bl ?_))
  refine Az 0 A7 rfl rfl rfl rfl (No rfl) rfl rfl ?_
  (refine Ad rfl<|Aa<|Ar ?_)
  exact BG (L':=[]) [.agg A7.toArray,.bool true] ⟨A3 0 rfl rfl rfl,A4 rfl,trivial⟩ (ZB _) ⟨rfl,rfl⟩
 |true=>
  (refine Ac<|AX (fun _ _=>Ad rfl<|Aa<|Ai<|Ac<|Ad rfl<|Bi rfl<|Aa<|AK rfl<|Am<|Ac<|Ab rfl ?_))
  refine AF rfl (h1 hi) ?_
  obtain⟨c0,c1,c2,c3,c4,c5,hc⟩:=six (FZ (d:=d) (n:=n)).len
  have hc1:=AH _ _ _ (FZ (d:=d) (n:=n))
  rw[NQ,if_pos rfl,show CN n true=B1 n by simp[CN]]
  rw[hc] at hc1⊢
  (refine AL rfl rfl<|AL rfl rfl ?_)
  refine Az 0 [c0,c1,c2,c3,c4,c5] rfl rfl rfl rfl (No rfl) hc1 rfl ?_
  (refine Ad rfl<|Aa<|Ar ?_)
  exact BG (L':=[]) [.agg [c0,c1,c2,c3,c4,c5].toArray,.bool (B1 n)] ⟨A3 0 rfl rfl rfl,A4 rfl,trivial⟩ (ZB _) ⟨rfl,rfl⟩
def NX(T:Ag→Prop)(P:Program)(f:FuncId):Prop:=∀{d cs}{s:St},T d→RSt d cs s→A8 P f [.agg cs.toArray] d [] (Ret fun r d' L'=>L'=[]∧∃cs',r=.tuple #[.agg cs'.toArray,.bool (BM s)]∧Aw d' cs' (B4 s))
def WY(h:s.kind=0):BM s=u8 s.text∧B4 s=.mk 4 0 0 s.text [] []:=by unfold BM B4;rw[if_pos h,if_pos h];exact⟨rfl,rfl⟩
def step1(h:s.kind=1):BM s=B1 s.src∧B4 s=TG s.src:=by unfold BM B4;rw[if_neg (by omega),if_pos h,if_neg (by omega),if_pos h];exact⟨rfl,rfl⟩
def step2(h:s.kind=2):BM s=(CN s.dst s.ht && CN s.src s.hf)∧B4 s=.mk 6 0 0 [] [Dk s.dst s.ht,Dk s.src s.hf] [DE,CA]:=by
 unfold BM B4;rw[if_neg (by omega),if_neg (by omega),if_pos h,if_neg (by omega),if_neg (by omega),if_pos h];exact⟨rfl,rfl⟩
def Xh(h0:s.kind≠0)(h1:s.kind≠1)(h2:s.kind≠2):BM s=false∧B4 s=V.zero:=by
 unfold BM B4;rw[if_neg h0,if_neg h1,if_neg h2,if_neg h0,if_neg h1,if_neg h2];exact⟨rfl,rfl⟩
def OK{l}(h:l.length≤140737488355328):Aw d [vZ 4,vZ 0,vZ 0,Al l,.slice none 0 0,.slice none 0 0] (.mk 4 0 0 l [] []):=
 Aw.close (v:=.mk 4 0 0 l [] []) Tw Ba Ba h RSl.nil RSl.nil
def FU{a b:Nat}{Ta Tb xs ys}{x y:V}(hx:Aw d xs x)(hy:Aw d ys y)(ha:Le (bx a Ta [Al DE,Al CA]) d)(hb:Le (bx b Tb (xs++ys)) d):
  Aw d [vZ 6,vZ 0,vZ 0,Al [],.slice (some ⟨b,0,none⟩) 2 2,.slice (some ⟨a,0,none⟩) 2 2] (.mk 6 0 0 [] [x,y] [DE,CA]):=
 Aw.close (v:=.mk 6 0 0 [] [x,y] [DE,CA]) G9 Ba Ba (by simp[V.text]) (Va hx hy (Le.refl _) hb) (Ip (ks:=[DE,CA]) (by decide) (by decide) ha)
def Py(a0 a1 a2:Nat):A6:=⟨53,[(.cell 2 (some 6)),(.tmp 3)],(sR (o1 1 (.box 0)<|o1 2 (.alo (.agg #[(vZ 0),(vZ 0),(vZ 0),(Al []),(.slice none 0 0),(.slice none 0 0)]))<|o1 3 (.mv (.const (.bool false))) .done) (.seq (sR (oj 8 0 1<|ol 9 8 .done) (.block 0 (sR (ob 11 .eql 9 z0<|om 10 11 .done) (.cond 10 (.seq (.reg true (p1 12 (.fld 1 1)<|pl 13 12<|p1 14 (.bld [(0,1),(1,2),(3,1),(4,1),(5,1)] [(vZ 0),(vZ 0),(vZ 0),(Al []),(.slice none 0 0),(.slice none 0 0)] [(0,(kZ 4)),(2,13)])<|p1 15 (.fld 1 1)<|pl 16 15<|oc 17 a0 [16]<|o0 (.st 6 2 14)<|pm 3 17 .done)) .ret) (sR (ob 19 .eql 9 z1<|om 18 19 .done) (.cond 18 (sR (oj 20 2 1<|ol 21 20<|oc 22 a1 [21]<|oe 23 22 0<|oe 24 22 1<|o0 (.st 6 2 23)<|om 3 24 .done) .ret) (sR (ob 26 .eql 9 z2<|om 25 26 .done) (.cond 25 (sR (oj 28 3 1<|ol 29 28<|oj 30 5 1<|ol 31 30<|oc 32 a2 [29,31]<|om 27 32<|oe 33 27 0<|oe 34 27 1<|o1 4 (.alo (.agg #[(vZ 0),(vZ 0),(vZ 0),(Al []),(.slice none 0 0),(.slice none 0 0)]))<|o0 (.st 6 4 33)<|om 5 34 .done) (sR (oj 36 2 1<|ol 37 36<|oj 38 4 1<|ol 39 38<|oc 40 a2 [37,39]<|om 35 40<|oe 41 35 0<|oe 42 35 1<|o1 6 (.alo (.agg #[(vZ 0),(vZ 0),(vZ 0),(Al []),(.slice none 0 0),(.slice none 0 0)]))<|o0 (.st 6 6 41)<|om 7 42 .done) (sR (o1 43 (.bsl 2 1 [(Al [])] [(0,(.const (Al [101,110,100]))),(1,(.const (Al [115,116,97,114,116])))])<|o1 44 (.ld (some 6) 4)<|o1 45 (.ld (some 6) 6)<|o1 46 (.bsl 2 6 [(vZ 0),(vZ 0),(vZ 0),(Al []),(.slice none 0 0),(.slice none 0 0)] [(0,44),(1,45)])<|o1 47 (.bld [(0,1),(1,2),(3,1),(4,1),(5,1)] [(vZ 0),(vZ 0),(vZ 0),(Al []),(.slice none 0 0),(.slice none 0 0)] [(0,(kZ 6)),(4,43),(3,46)])<|om 48 5<|om 49 48<|gT 50 49 7<|gP 51 49 50<|o0 (.st 6 2 47)<|om 3 51 .done) .ret))) .skip)))))))) (sR (o1 52 (.bld [(0,1),(1,2),(3,1),(4,1),(5,1)] [(vZ 0),(vZ 0),(vZ 0),(Al []),(.slice none 0 0),(.slice none 0 0)] [])<|o0 (.st 6 2 52)<|o1 3 (.mv (.const (.bool false))) .done) .ret)))⟩
set_option maxHeartbeats 1000000 in
def We{T:Ag→Prop}{f2 f3}(hd:dec P f=some (Py f1 f2 f3))(h1:DP T P f1)(h2:Tu P f2)(h3:P5 P f3):NX T P f:=by
 intro d cs s ht hs;obtain⟨rfl,hk,htl,hs1,hs2⟩:=hs;refine Bd hd (No rfl) ?_;obtain⟨kind,text,src,dst,hf,hto⟩:=s;simp only at hk htl hs1 hs2⊢;show gwp P _ _ _ _ _;apply Ai;apply Ay;refine AO (l:=[vZ kind,Al text,vZ src,vZ dst,.bool hf,.bool hto]) rfl (fun b1 T1=>?_);by_cases k0:kind=0
 ·obtain⟨e1,e2⟩:=WY (s:=⟨kind,text,src,dst,hf,hto⟩) k0;simp only at e1 e2;rw[e1,e2];(refine AX (fun _ _=>Ad rfl<|Aa<|Ai<|Ac<|Af rfl<|Ah rfl (Aj 1 rfl rfl)<|Aa<|Av<|Ac<|Aq rfl rfl<|Ad rfl<|Aa<|Au rfl (by omega)<|Ai ?_));refine Hw [1] [0] rfl ?_;(refine Af rfl<|Ah rfl (Aj 0 rfl rfl)<|QM rfl rfl<|Af rfl<|Ah rfl (Aj 0 rfl rfl) ?_);refine AF rfl (h1 ht htl) ?_;skip;refine Az 0 [vZ 4,vZ 0,vZ 0,Al text,.slice none 0 0,.slice none 0 0] rfl rfl rfl rfl (No rfl) rfl rfl ?_;(refine Ad rfl<|AW<|Ar ?_);exact BG (L':=[]) [.agg [vZ 4,vZ 0,vZ 0,Al text,.slice none 0 0,.slice none 0 0].toArray,.bool (u8 text)] ⟨A3 1 rfl rfl rfl,A4 rfl,trivial⟩ (ZB _) ⟨rfl,_,rfl,OK htl⟩
 by_cases k1:kind=1
 ·obtain⟨e1,e2⟩:=step1 (s:=⟨kind,text,src,dst,hf,hto⟩) k1;simp only at e1 e2;rw[e1,e2];(refine AX (fun _ _=>Ad rfl<|Aa<|Ai<|Ac<|Af rfl<|Ah rfl (Aj 1 rfl rfl)<|Aa<|Av<|Ac<|Aq rfl rfl<|Ad rfl<|Aa<|Ao rfl (by omega)<|Ac<|Aq rfl rfl<|Ad rfl<|Aa<|Au rfl (by omega)<|Ac<|Af rfl<|Ah rfl (Aj 1 rfl rfl) ?_));refine AF rfl (h2 hs1) ?_;obtain⟨c0,c1,c2,c3,c4,c5,hc⟩:=six (FZ (d:=d) (n:=src)).len;have hr:=FZ (d:=d) (n:=src);have hc1:=AH _ _ _ hr;rw[hc] at hc1 hr⊢;(refine AL rfl rfl<|AL rfl rfl ?_);refine Az 0 [c0,c1,c2,c3,c4,c5] rfl rfl rfl rfl (No rfl) hc1 rfl ?_;(refine Ad rfl<|Aa<|Ar ?_);exact BG (L':=[]) [.agg [c0,c1,c2,c3,c4,c5].toArray,.bool (B1 src)] ⟨A3 0 rfl rfl rfl,A4 rfl,trivial⟩ (ZB _) ⟨rfl,_,rfl,hr⟩
 by_cases k2:kind=2
 ·obtain⟨e1,e2⟩:=step2 (s:=⟨kind,text,src,dst,hf,hto⟩) k2;simp only at e1 e2;rw[e1,e2];cases hA:CN dst hto with
  |false=>
   (refine AX (fun _ _=>Ad rfl<|Aa<|Ai<|Ac<|Af rfl<|Ah rfl (Aj 1 rfl rfl)<|Aa<|Av<|Ac<|Aq rfl rfl<|Ad rfl<|Aa<|Ao rfl (by omega)<|Ac<|Aq rfl rfl<|Ad rfl<|Aa<|Ao rfl (by omega)<|Ac<|Aq rfl rfl<|Ad rfl<|Aa<|Au rfl (by omega)<|Ac<|Af rfl<|Ah rfl (Aj 1 rfl rfl)<|Af rfl<|Ah rfl (Aj 1 rfl rfl) ?_))
   refine AF rfl (h3 hs2) ?_
   rw[hA]
   obtain⟨c0,c1,c2,c3,c4,c5,hc⟩:=six (Ev (d:=d) (n:=dst) (has:=hto)).len
   have hr:=Ev (d:=d) (n:=dst) (has:=hto)
   have hc1:=AH _ _ _ hr
   rw[hc] at hc1 hr⊢
   (refine Bj rfl<|AL rfl rfl<|AL rfl rfl<|AX (fun _ _=>?_))
   refine Az 0 [c0,c1,c2,c3,c4,c5] rfl rfl rfl rfl (No rfl) hc1 rfl ?_
   (refine Ad rfl<|Aa<|Ac<|Af rfl<|Ah rfl (Aj 2 rfl rfl)<|Af rfl<|Ah rfl (Aj 2 rfl rfl) ?_)
   refine AF rfl (h3 hs1) ?_
   obtain⟨o0,o1,o2,o3,o4,o5,ho⟩:=six (Ev (d:=d) (n:=src) (has:=hf)).len
   have hr2:=Ev (d:=d) (n:=src) (has:=hf)
   have hc2:=AH _ _ _ hr2
   rw[ho] at hc2 hr2⊢
   (refine Bj rfl<|AL rfl rfl<|AL rfl rfl<|AX (fun _ _=>?_))
   refine Az 0 [o0,o1,o2,o3,o4,o5] rfl rfl rfl rfl (No rfl) hc2 rfl ?_
   (refine Ad rfl<|Aa<|Ac ?_)
   refine G5 (v0:=Al DE) (v1:=Al CA) rfl rfl rfl rfl (fun b43 T43=>?_)
   (refine AD 2 rfl rfl rfl<|AD 1 rfl rfl rfl ?_)
   refine Hp (a:=[c0,c1,c2,c3,c4,c5]) (b:=[o0,o1,o2,o3,o4,o5]) rfl rfl rfl rfl (fun b46 T46=>?_)
   refine BF (fun d2 hl2 hg2=>?_)
   refine BF (fun d3 hl3 hg3=>?_)
   have hR:=FU (hr.mono (hl2.trans hl3)) (hr2.mono (hl2.trans hl3)) hg3 (hg2.trans hl3)
   (refine Gh rfl rfl rfl<|Ad rfl<|Ad rfl<|Ak rfl<|An rfl rfl ?_)
   refine Az 2 [vZ 6,vZ 0,vZ 0,Al [],.slice (some ⟨b46,0,none⟩) 2 2,.slice (some ⟨b43,0,none⟩) 2 2] rfl rfl rfl rfl (No rfl) rfl rfl ?_
   (refine Ad rfl<|Aa<|Ar ?_)
   exact BG (L':=[]) [.agg [vZ 6,vZ 0,vZ 0,Al [],.slice (some ⟨b46,0,none⟩) 2 2,.slice (some ⟨b43,0,none⟩) 2 2].toArray,.bool (false && CN src hf)] ⟨A3 2 rfl rfl rfl,A4 rfl,trivial⟩ (ZB _) ⟨rfl,_,rfl,hR⟩
  |true=>
   (refine AX (fun _ _=>Ad rfl<|Aa<|Ai<|Ac<|Af rfl<|Ah rfl (Aj 1 rfl rfl)<|Aa<|Av<|Ac<|Aq rfl rfl<|Ad rfl<|Aa<|Ao rfl (by omega)<|Ac<|Aq rfl rfl<|Ad rfl<|Aa<|Ao rfl (by omega)<|Ac<|Aq rfl rfl<|Ad rfl<|Aa<|Au rfl (by omega)<|Ac<|Af rfl<|Ah rfl (Aj 1 rfl rfl)<|Af rfl<|Ah rfl (Aj 1 rfl rfl) ?_))
   refine AF rfl (h3 hs2) ?_
   rw[hA]
   obtain⟨c0,c1,c2,c3,c4,c5,hc⟩:=six (Ev (d:=d) (n:=dst) (has:=hto)).len
   have hr:=Ev (d:=d) (n:=dst) (has:=hto)
   have hc1:=AH _ _ _ hr
   rw[hc] at hc1 hr⊢
   (refine Bj rfl<|AL rfl rfl<|AL rfl rfl<|AX (fun _ _=>?_))
   refine Az 0 [c0,c1,c2,c3,c4,c5] rfl rfl rfl rfl (No rfl) hc1 rfl ?_
   (refine Ad rfl<|Aa<|Ac<|Af rfl<|Ah rfl (Aj 2 rfl rfl)<|Af rfl<|Ah rfl (Aj 2 rfl rfl) ?_)
   refine AF rfl (h3 hs1) ?_
   obtain⟨o0,o1,o2,o3,o4,o5,ho⟩:=six (Ev (d:=d) (n:=src) (has:=hf)).len
   have hr2:=Ev (d:=d) (n:=src) (has:=hf)
   have hc2:=AH _ _ _ hr2
   rw[ho] at hc2 hr2⊢
   (refine Bj rfl<|AL rfl rfl<|AL rfl rfl<|AX (fun _ _=>?_))
   refine Az 0 [o0,o1,o2,o3,o4,o5] rfl rfl rfl rfl (No rfl) hc2 rfl ?_
   (refine Ad rfl<|Aa<|Ac ?_)
   refine G5 (v0:=Al DE) (v1:=Al CA) rfl rfl rfl rfl (fun b43 T43=>?_)
   (refine AD 2 rfl rfl rfl<|AD 1 rfl rfl rfl ?_)
   refine Hp (a:=[c0,c1,c2,c3,c4,c5]) (b:=[o0,o1,o2,o3,o4,o5]) rfl rfl rfl rfl (fun b46 T46=>?_)
   refine BF (fun d2 hl2 hg2=>?_)
   refine BF (fun d3 hl3 hg3=>?_)
   have hR:=FU (hr.mono (hl2.trans hl3)) (hr2.mono (hl2.trans hl3)) hg3 (hg2.trans hl3)
   (refine Gh rfl rfl rfl<|Ad rfl<|Ad rfl<|Ae rfl<|Ad rfl<|Ap rfl rfl ?_)
   refine Az 2 [vZ 6,vZ 0,vZ 0,Al [],.slice (some ⟨b46,0,none⟩) 2 2,.slice (some ⟨b43,0,none⟩) 2 2] rfl rfl rfl rfl (No rfl) rfl rfl ?_
   (refine Ad rfl<|Aa<|Ar ?_)
   exact BG (L':=[]) [.agg [vZ 6,vZ 0,vZ 0,Al [],.slice (some ⟨b46,0,none⟩) 2 2,.slice (some ⟨b43,0,none⟩) 2 2].toArray,.bool (true && CN src hf)] ⟨A3 2 rfl rfl rfl,A4 rfl,trivial⟩ (ZB _) ⟨rfl,_,rfl,hR⟩
 ·obtain⟨e1,e2⟩:=Xh (s:=⟨kind,text,src,dst,hf,hto⟩) k0 k1 k2;rw[e1,e2];(refine AX (fun _ _=>Ad rfl<|Aa<|Ai<|Ac<|Af rfl<|Ah rfl (Aj 1 rfl rfl)<|Aa<|Av<|Ac<|Aq rfl rfl<|Ad rfl<|Aa<|Ao rfl (by omega)<|Ac<|Aq rfl rfl<|Ad rfl<|Aa<|Ao rfl (by omega)<|Ac<|Aq rfl rfl<|Ad rfl<|Aa<|Ao rfl (by omega)<|Am<|Ac<|Bl ?_));refine Az 0 A7 rfl rfl rfl rfl (No rfl) rfl rfl ?_;(refine Ad rfl<|Aa<|Ar ?_);exact BG (L':=[]) [.agg A7.toArray,.bool false] ⟨A3 0 rfl rfl rfl,A4 rfl,trivial⟩ (ZB _) ⟨rfl,_,rfl,Aw.zero⟩
def HB(T:Ag→Prop)(P:Program)(f:FuncId):Prop:=∀{d w}{l:List St},T d→RSl 6 RSt d w l→l.length≤1000000→
 A8 P f [w] d [] (Ret fun r d' L'=>L'=[]∧∃cs',r=.tuple #[.agg cs'.toArray,vZ (Cr l).2]∧Aw d' cs' (Cr l).1)
def UR{l:List St}{i:Nat}(hi:i<l.length)(h:BM l[i]=false):Cr l=(V.zero,2):=by
 unfold Cr Dc;rw[if_neg];intro q;rw[ZF] at q;have:=q _ (ZC hi);rw[h] at this;cases this
def Sv{l:List St}(h:∀i (hi:i<l.length),BM l[i]=true):Cr l=(BU l,0):=by
 unfold Cr Dc;rw[if_pos];rw[ZF];intro s hs;obtain⟨i,hi,rfl⟩:=Aae hs;exact h i hi
def Ol(a0:Nat):A6:=⟨32,[(.cell 2 (some 6)),(.tmp 3)],(sR (o1 2 (.alo (.agg #[(vZ 0),(vZ 0),(vZ 0),(Al []),(.slice none 0 0),(.slice none 0 0)]))<|o1 3 (.mv z0) .done) (sR (o1 9 (.bld [(0,1),(1,2),(3,1),(4,1),(5,1)] [(vZ 0),(vZ 0),(vZ 0),(Al []),(.slice none 0 0),(.slice none 0 0)] [(0,(kZ 5))])<|o1 4 (.alo (.agg #[(vZ 0),(vZ 0),(vZ 0),(Al []),(.slice none 0 0),(.slice none 0 0)]))<|o0 (.st 6 4 9) .done) (.seq (sR (om 10 0<|oL 11 10<|o1 12 (.mv z0) .done) (.block 0 (.loop (sR (ob 13 .lss 12 11 .done) (.seq (.cond 13 .skip (.exit 0)) (.seq (.block 1 (sR (oI 14 6 10 12<|o1 15 (.ld (some 6) 14)<|o1 6 (.alo (.agg #[(vZ 0),(Al []),(vZ 0),(vZ 0),(.bool false),(.bool false)]))<|o0 (.st 6 6 15) .done) (sR (o1 17 (.ld (some 6) 6)<|oc 18 a0 [17]<|om 16 18<|oe 19 16 0<|oe 20 16 1<|o1 7 (.alo (.agg #[(vZ 0),(vZ 0),(vZ 0),(Al []),(.slice none 0 0),(.slice none 0 0)]))<|o0 (.st 6 7 19)<|om 8 20 .done) (.seq (sR (om 21 8<|o1 22 (.un .not 21) .done) (.cond 22 (sR (o1 23 (.bld [(0,1),(1,2),(3,1),(4,1),(5,1)] [(vZ 0),(vZ 0),(vZ 0),(Al []),(.slice none 0 0),(.slice none 0 0)] [])<|o0 (.st 6 2 23)<|o1 3 (.mv z2) .done) .ret) .skip)) (rG (oj 24 4 4<|ol 25 24<|o1 26 (.ld (some 6) 7)<|o1 27 (.bsl 1 6 [(vZ 0),(vZ 0),(vZ 0),(Al []),(.slice none 0 0),(.slice none 0 0)] [(0,26)])<|o1 28 (.app 6 88 [(vZ 0),(vZ 0),(vZ 0),(Al []),(.slice none 0 0),(.slice none 0 0)] 25 27)<|oj 29 4 4<|o0 (.st 1 29 28) .done)))))) (rG (ob 30 .add 12 z1<|om 12 30 .done)))))))) (sR (o1 31 (.ld (some 6) 4)<|o0 (.st 6 2 31)<|o1 3 (.mv z0) .done) .ret))))⟩
set_option maxHeartbeats 1000000 in
def UE{T:Ag→Prop}(hTm:∀{d d'},Le d d'→T d→T d')(hd:dec P f=some (Ol f1))(h1:NX T P f1):HB T P f:=by
 intro d w l ht hw hb;obtain⟨wa,wc,rfl⟩:=RSl.val hw;have hw0:RSl 6 RSt d (.slice wa l.length wc) l:=hw;refine Bd hd (No rfl) ?_;show gwp P _ _ _ _ _;apply Ai;apply Ay;refine B9 d [emp] Vs.emp ?_;(refine AX (fun _ _=>Ab rfl<|Aa<|Ac<|NJ rfl<|AX (fun _ _=>?_)));refine Az 0 [vZ 5,vZ 0,vZ 0,Al [],.slice none 0 0,.slice none 0 0] rfl rfl rfl rfl (No rfl) rfl rfl ?_;(refine Aa<|Ai<|Ac<|As rfl<|AA rfl<|Ab rfl<|Aa<|Av ?_);rename_i b2 T2 b4 T4;refine Bg (α:=Nat) (fun i=>[(2,pZ b2),(4,pZ b4),(10,.slice wa l.length wc),(11,vZ l.length),(12,vZ i)])
  (fun i d' L'=>Le d d'∧i≤l.length∧(∀j (hj:j<l.length),j<i→BM l[j]=true)∧∃J ra rc h,AN 6 Aw d' (.slice ra i rc) ((l.map B4).take i) h∧L'=bx b4 T4 [vZ 5,vZ 0,vZ 0,Al [],.slice ra i rc,.slice none 0 0]::bx b2 T2 A7::h::J)
  (fun i=>l.length - i) 0 ⟨rfl,rfl,rfl,rfl,rfl,trivial⟩ ⟨Le.refl _,ZN _,fun j _ h=>absurd h (Z3 j),[],none,0,emp,AN.nil,rfl⟩ ?_
 rintro i ρ d3 L' ⟨hl3,hi,hall,J,ra,rc,h,hrow,hL⟩;subst hL;have hw3:RSl 6 RSt d3 (.slice wa l.length wc) l:=RSl.mono (R:=RSt) Df hw0 hl3;have ht3:=hTm hl3 ht;by_cases hc:i<l.length
 ·obtain⟨s,hse⟩:∃s,l[i]=s:=⟨_,rfl⟩
  (refine Ac<|Ax rfl rfl<|Aa<|Ai<|Au rfl (by omega)<|Am<|Ai<|Av<|Ac<|AJ (sz:=6) (R:=RSt) (by rfl) (by assumption) (by rfl) rfl (by omega) ?_;rintro _ _ _ _ _ ⟨rfl,_,_,_,_⟩;refine BE rfl (by assumption) rfl<|AX (fun _ _=>?_));rename_i q1 q2 q3 q4 q5 b6 T6;have hs3:RSt d3 [vZ l[i].kind,Al l[i].text,vZ l[i].src,vZ l[i].dst,.bool l[i].hf,.bool l[i].ht] l[i]:=⟨rfl,by assumption,by assumption,by assumption,by assumption⟩
  refine Az 0 [vZ l[i].kind,Al l[i].text,vZ l[i].src,vZ l[i].dst,.bool l[i].hf,.bool l[i].ht] rfl rfl rfl rfl (No rfl) rfl rfl ?_;(refine Aa<|Ac<|AD 0 rfl rfl rfl ?_);refine AR rfl (h1 ht3 hs3) (fun r d4 L4 hl4 ⟨hL,cs',hr,hR⟩=>?_);subst hL;subst hr;obtain⟨c0,c1,c2,c3,c4,c5,rfl⟩:=six hR.len;have hrow4:AN 6 Aw d4 (.slice ra i rc) ((l.map B4).take i) h:=AN.mono (R:=Aw) B8 hrow hl4;(refine Bj rfl<|AL rfl rfl<|AL rfl rfl<|AX (fun _ _=>?_));rename_i b7 T7;refine Az 0 [c0,c1,c2,c3,c4,c5] rfl rfl rfl rfl (No rfl) (AH _ _ _ hR) rfl ?_;cases hok:BM l[i] with
  |false=>
   rw[UR hc hok]
   (refine Ad rfl<|Aa<|Ai<|Ac<|Ad rfl<|Bi rfl<|Aa<|Bb rfl<|Ac<|Bl ?_)
   refine Az 3 A7 rfl rfl rfl rfl (No rfl) rfl rfl ?_
   (refine Ab rfl<|Aa<|Ar ?_)
   exact BG (L':=[]) [.agg A7.toArray,vZ 2] ⟨A3 3 rfl rfl rfl,A4 rfl,trivial⟩ (ZB _) ⟨rfl,_,rfl,Aw.zero⟩
  |true=>
   (refine Ad rfl<|Aa<|Ai<|Ac<|Ad rfl<|Bi rfl<|Aa<|AK rfl<|Am<|Ay<|Af rfl<|Ah rfl (Aj 2 rfl rfl)<|AD 0 rfl rfl rfl ?_)
   refine D4 rfl rfl (fun b27 T27=>?_)
   refine DH (R:=Aw) 4 rfl rfl hrow4 rfl (AN.D8 hR.len hR) AH (by omega) (by simp;omega) (by simp;omega) (fun v5 h5 o5=>?_)
   have htk:(l.map B4).take i++[B4 l[i]]=(l.map B4).take (i+1):=by rw[ZA (show i<(l.map B4).length by simpa using hc)];simp
   rw[htk] at o5
   obtain⟨a5,c5',rfl⟩:=o5.val
   have hlt:((l.map B4).take (i+1)).length=i+1:=by simp;omega
   rw[hlt] at o5⊢
   (apply Af;rfl)
   refine B9 d4 (bx b4 T4 [vZ 5,vZ 0,vZ 0,Al [],.slice ra i rc,.slice none 0 0]::bx b2 T2 A7::h5::J) (Vs.drop (.cons _ (.cons _ (ZS _)))) ?_
   refine Az 0 [vZ 5,vZ 0,vZ 0,Al [],.slice a5 (i+1) c5',.slice none 0 0] rfl rfl rfl rfl (No rfl) rfl rfl ?_
   (refine Aa<|Ay<|AI rfl rfl (by omega) (by omega)<|Ab rfl<|Aa ?_)
   refine⟨i+1,by omega,⟨rfl,rfl,rfl,rfl,int_eq (by omega),trivial⟩,hl3.trans hl4,hc,fun j hj hji=>?_,J,a5,c5',h5,o5,rfl⟩
   by_cases e:j<i
   ·exact hall j hj e
   ·obtain rfl:j=i:=by omega
    exact hok
 ·obtain rfl:i=l.length:=by omega
  rw[Sv (fun j hj=>hall j hj hj)];have hf:(l.map B4).take l.length=l.map B4:=Z7 (by simp);(refine Ac<|Ax rfl rfl<|Aa<|Ai<|Ao rfl (by omega)<|AV<|Ac<|AD 0 rfl rfl rfl ?_);refine Az 1 [vZ 5,vZ 0,vZ 0,Al [],.slice ra l.length rc,.slice none 0 0] rfl rfl rfl rfl (No rfl) rfl rfl ?_;(refine Ab rfl<|Aa<|Ar ?_);refine Iv [.agg [vZ 5,vZ 0,vZ 0,Al [],.slice ra l.length rc,.slice none 0 0].toArray,vZ 0] ⟨A3 1 rfl rfl rfl,A4 rfl,trivial⟩ (fun d' hld hk=>?_);refine⟨rfl,_,rfl,Aw.close (v:=BU l) EB Ba Ba (by simp[BU,V.text]) ?_ RSl.nil⟩
  have hrs:=hrow.rsl (R:=Aw) B8 (by omega) hld (hk h (by simp));rw[hf] at hrs;have hml:(l.map B4).length=l.length:=by simp
  exact hrs
section
abbrev stL(s:St):List Value:=[.int .i64 s.kind,Al s.text,.int .i64 s.src,.int .i64 s.dst,.bool s.hf,.bool s.ht]
def H3(v:V):I64 (AQ v).1:=by
 unfold AQ;split
 ·exact Ba
 split
 ·exact Ba
 ·rename_i h1 h2;simp only[ES,decide_eq_true_eq] at h2;have:=KX (m:=v.m) (by omega) (by omega) (i:=v.e.toNat) (by omega);exact⟨by omega,by omega⟩
def N5(P:Program)(f:FuncId):Prop:=∀{d cs}{v:V},Aw d cs v→BH v=true→AM P f [.agg cs.toArray] d (.tuple #[.agg (stL (BB v).1).toArray,.bool (BB v).2])
def W2(h:v.kind=4):BB v=(⟨0,v.text,0,0,false,false⟩,true):=by unfold BB;rw[if_pos h]
def W7(h:v.kind=3):BB v=(⟨1,[],(AQ v).1,0,false,false⟩,(AQ v).2):=by unfold BB;rw[if_neg (by omega),if_pos h]
def Xc(h:v.kind=6)(hk:v.keys=[DE,CA]){a b:V}(hl:v.list=[a,b]):
  BB v=(⟨2,[],if b.kind≠0 then(AQ b).1 else 0,if a.kind≠0 then(AQ a).1 else 0,decide (b.kind≠0),decide (a.kind≠0)⟩,(decide (a.kind=0)||(AQ a).2)&&(decide (b.kind=0)||(AQ b).2)):=by
 unfold BB;rw[if_neg (by omega),if_neg (by omega),if_pos h,if_pos hk,hl];rfl
def Nl(h:v.kind=6)(hk:v.keys≠[DE,CA]):BB v=(stZ,false):=by unfold BB;rw[if_neg (by omega),if_neg (by omega),if_pos h,if_neg hk]
def Xm(h4:v.kind≠4)(h3:v.kind≠3)(h6:v.kind≠6):BB v=(stZ,false):=by unfold BB;rw[if_neg h4,if_neg h3,if_neg h6]
def R3(h:BH v=true)(h6:v.kind=6)(hk:v.keys=[DE,CA]):∃a b,v.list=[a,b]:=by
 have h1:=Gq h;simp only[BW,Zz,Aad,decide_eq_true_eq] at h1;have h2:v.keys.length=v.list.length:=by rcases h1.2 with q|q;exact absurd h6 q;exact q
 rw[hk] at h2;match hl:v.list with
 |[a,b]=>exact⟨a,b,rfl⟩
 |[]=>rw[hl] at h2;cases h2
 |[a]=>rw[hl] at h2;cases h2
 |a::b::c::l=>rw[hl] at h2;simp at h2
section
variable {P:Program}{pan:List PanicEntry→A0}{Qn:Env→A0}{Ls L:List Ag}{ρ:Env}{d:Ag}{s:GS}{t:Nat}{tk:Bool}
def Yy{x y}{a b:Bool}(ex:ev ρ x=.bool a)(ey:ev ρ y=.bool b)(h:gws P pan Qn s Ls (upd ρ t (.agg [vZ 2,Al [],vZ 0,vZ 0,.bool b,.bool a].toArray)) d L):
  gws P pan Qn (.op tk ⟨some t,none,.bld [(0,1),(1,1),(2,1),(3,1),(4,1),(5,1)] [vZ 0,Al [],vZ 0,vZ 0,.bool false,.bool false] [(0,.const (vZ 2)),(5,x),(4,y)]⟩ s) Ls ρ d L:=
 BN (cs:=[vZ 2,Al [],vZ 0,vZ 0,.bool b,.bool a]) (by have e0:ev ρ (.const (vZ 2))=vZ 2:=rfl;simp[Instr.fill,e0,ex,ey,Value.cells,Al]) h
end
def Pr(a0 a1:Nat):A6:=⟨75,[(.cell 2 (some 6)),(.tmp 3)],(sR (o1 1 (.box 0)<|o1 2 (.alo (.agg #[(vZ 0),(Al []),(vZ 0),(vZ 0),(.bool false),(.bool false)]))<|o1 3 (.mv (.const (.bool false))) .done) (.seq (sR (oj 9 0 1<|ol 10 9 .done) (.block 0 (sR (ob 12 .eql 10 (kZ 4)<|om 11 12 .done) (.cond 11 (sR (oj 13 3 1<|ol 14 13<|o1 15 (.bld [(0,1),(1,1),(2,1),(3,1),(4,1),(5,1)] [(vZ 0),(Al []),(vZ 0),(vZ 0),(.bool false),(.bool false)] [(0,z0),(1,14)])<|o0 (.st 6 2 15)<|o1 3 (.mv (.const (.bool true))) .done) .ret) (sR (ob 17 .eql 10 (kZ 3)<|om 16 17 .done) (.cond 16 (sR (o1 19 (.ld (some 6) 1)<|oc 20 a0 [19]<|om 18 20<|oe 21 18 0<|oe 22 18 1<|om 4 21<|om 5 22 .done) (sR (om 23 4<|o1 24 (.bld [(0,1),(1,1),(2,1),(3,1),(4,1),(5,1)] [(vZ 0),(Al []),(vZ 0),(vZ 0),(.bool false),(.bool false)] [(0,z1),(2,23)])<|om 25 5<|o0 (.st 6 2 24)<|om 3 25 .done) .ret)) (sR (ob 27 .eql 10 (kZ 6)<|om 26 27 .done) (.cond 26 (.seq (sR (oj 28 5 1<|ol 29 28<|o1 30 (.bsl 2 1 [(Al [])] [(0,(.const (Al [101,110,100]))),(1,(.const (Al [115,116,97,114,116])))])<|oc 31 a1 [29,30]<|o1 32 (.un .not 31) .done) (.cond 32 (sR (o1 33 (.bld [(0,1),(1,1),(2,1),(3,1),(4,1),(5,1)] [(vZ 0),(Al []),(vZ 0),(vZ 0),(.bool false),(.bool false)] [])<|o0 (.st 6 2 33)<|o1 3 (.mv (.const (.bool false))) .done) .ret) .skip)) (.seq (.reg true (p1 34 (.fld 4 1)<|pl 35 34<|p1 36 (.idx 6 35 z0)<|p1 37 (.fld 0 36)<|pl 38 37<|p1 39 (.bin .neq 38 z0)<|p1 40 (.fld 4 1)<|pl 41 40<|p1 42 (.idx 6 41 z1)<|p1 43 (.fld 0 42)<|pl 44 43<|p1 45 (.bin .neq 44 z0)<|p1 46 (.bld [(0,1),(1,1),(2,1),(3,1),(4,1),(5,1)] [(vZ 0),(Al []),(vZ 0),(vZ 0),(.bool false),(.bool false)] [(0,z2),(5,39),(4,45)])<|o1 6 (.alo (.agg #[(vZ 0),(Al []),(vZ 0),(vZ 0),(.bool false),(.bool false)])) (.bar (o0 (.st 6 6 46) .done)))) (sR (o1 7 (.mv (.const (.bool true)))<|o1 8 (.mv (.const (.bool true))) .done) (.seq (sR (oj 47 5 6<|ol 48 47 .done) (.cond 48 (rG (oj 50 4 1<|ol 51 50<|o1 52 (.idx 6 51 z0)<|o1 53 (.ld (some 6) 52)<|oc 54 a0 [53]<|om 49 54<|oe 55 49 0<|oe 56 49 1<|oj 57 3 6<|o0 (.st 1 57 55)<|om 7 56 .done)) .skip)) (.seq (sR (oj 58 4 6<|ol 59 58 .done) (.cond 59 (rG (oj 61 4 1<|ol 62 61<|o1 63 (.idx 6 62 z1)<|o1 64 (.ld (some 6) 63)<|oc 65 a0 [64]<|om 60 65<|oe 66 60 0<|oe 67 60 1<|oj 68 2 6<|o0 (.st 1 68 66)<|om 8 67 .done)) .skip)) (sR (o1 69 (.ld (some 6) 6)<|om 70 7<|om 71 70<|gT 72 71 8<|gP 73 71 72<|o0 (.st 6 2 69)<|om 3 73 .done) .ret)))))) .skip)))))))) (sR (o1 74 (.bld [(0,1),(1,1),(2,1),(3,1),(4,1),(5,1)] [(vZ 0),(Al []),(vZ 0),(vZ 0),(.bool false),(.bool false)] [])<|o0 (.st 6 2 74)<|o1 3 (.mv (.const (.bool false))) .done) .ret)))⟩
set_option maxHeartbeats 2000000 in
def WQ{P f2}(hd:dec P f=some (Pr f1 f2))(h1:LW P f1)(h2:Jl P f2):N5 P f:=by
 intro d cs v hv hmay;refine AM.of' hd (No rfl) ?_;have hv0:=hv;obtain⟨lv,kv,rfl,ik,im,ie,it,hl,hks⟩:=hv.open;obtain⟨la,lc,rfl⟩:=RSl.val hl;obtain⟨ka,kc,rfl⟩:=RSl.val hks;show gwp P _ _ _ _ _;apply Ai;apply Ay;refine AO (l:=[vZ v.kind,vZ v.m,vZ v.e,Al v.text,.slice la v.list.length lc,.slice ka v.keys.length kc]) rfl (fun b1 T1=>?_);by_cases k4:v.kind=4
 ·rw[W2 k4];(refine AX (fun _ _=>Ad rfl<|Aa<|Ai<|Ac<|Af rfl<|Ah rfl (Aj 1 rfl rfl)<|Aa<|Av<|Ac<|Aq rfl rfl<|Ad rfl<|Aa<|Au rfl (by omega)<|Ac<|Af rfl<|Ah rfl (Aj 1 rfl rfl)<|PY rfl ?_));refine Az 0 [vZ 0,Al v.text,vZ 0,vZ 0,.bool false,.bool false] rfl rfl rfl rfl (No rfl) rfl rfl ?_;(refine Ad rfl<|Aa<|Ar ?_);exact BG (L':=[]) [.agg [vZ 0,Al v.text,vZ 0,vZ 0,.bool false,.bool false].toArray,.bool true] ⟨A3 0 rfl rfl rfl,A4 rfl,trivial⟩ (ZB _) ⟨rfl,rfl⟩
 by_cases k3:v.kind=3
 ·rw[W7 k3];(refine AX (fun _ _=>Ad rfl<|Aa<|Ai<|Ac<|Af rfl<|Ah rfl (Aj 1 rfl rfl)<|Aa<|Av<|Ac<|Aq rfl rfl<|Ad rfl<|Aa<|Ao rfl (by omega)<|Ac<|Aq rfl rfl<|Ad rfl<|Aa<|Au rfl (by omega)<|Ac<|AD 1 rfl rfl rfl ?_));refine AF rfl (h1 hv0) ?_;(refine Bj rfl<|AL rfl rfl<|AL rfl rfl<|Ab rfl<|Ad rfl<|Aa<|Ac<|Ab rfl<|Nd rfl<|Ad rfl ?_);refine Az 0 [vZ 1,Al [],vZ (AQ v).1,vZ 0,.bool false,.bool false] rfl rfl rfl rfl (No rfl) rfl rfl ?_;(refine Ad rfl<|Aa<|Ar ?_);exact BG (L':=[]) [.agg [vZ 1,Al [],vZ (AQ v).1,vZ 0,.bool false,.bool false].toArray,.bool (AQ v).2] ⟨A3 0 rfl rfl rfl,A4 rfl,trivial⟩ (ZB _) ⟨rfl,rfl⟩
 by_cases k6:v.kind=6
 ·by_cases hk:v.keys=[DE,CA]
  ·obtain⟨a,b,hab⟩:=R3 hmay k6 hk;rw[Xc k6 hk hab];(refine AX (fun _ _=>Ad rfl<|Aa<|Ai<|Ac<|Af rfl<|Ah rfl (Aj 1 rfl rfl)<|Aa<|Av<|Ac<|Aq rfl rfl<|Ad rfl<|Aa<|Ao rfl (by omega)<|Ac<|Aq rfl rfl<|Ad rfl<|Aa<|Ao rfl (by omega)<|Ac<|Aq rfl rfl<|Ad rfl<|Aa<|Au rfl (by omega)<|Ai<|Ac<|Af rfl<|Ah rfl (Aj 1 rfl rfl) ?_));rename_i b2 T2;refine G5 (v0:=Al DE) (v1:=Al CA) rfl rfl rfl rfl (fun b30 T30=>?_);refine BF (fun d2 hl2 hg2=>?_);have hEq:=h2 (BK.mono hks hl2) (Ip (ks:=[DE,CA]) (by decide) (by decide) hg2);rw[decide_eq_true hk] at hEq;refine AF rfl hEq ?_;have hl2':RSl 6 Aw d2 (.slice la v.list.length lc) v.list:=BL.mono hl hl2;have hlen:v.list.length=2:=by rw[hab];rfl
   have ha:v.list[0]=a:=by simp[hab]
   have hb:v.list[1]=b:=by simp[hab]
   (refine Bi rfl<|Aa<|AK rfl<|Am<|Ai<|AT<|Af rfl<|Ah rfl (Aj 1 rfl rfl)<|AJ (m:=0) (sz:=6) (R:=Aw) (by rfl) (by assumption) (by rfl) rfl (by omega) ?_;rintro _ _ _ _ _ _;apply Af;rfl);rename_i q1 q2 cs1 q3 hD1 hR1;obtain⟨lv1,kv1,rfl, -⟩:=hR1.open;(refine Ah rfl (Ci (by assumption) rfl)<|AG rfl rfl<|Af rfl<|Ah rfl (Aj 1 rfl rfl)<|AJ (m:=1) (sz:=6) (R:=Aw) (by rfl) (by assumption) (by rfl) rfl (by omega) ?_;rintro _ _ _ _ _ _;apply Af;rfl);rename_i q1 q2 cs2 q3 hD2 hR2;obtain⟨lv2,kv2,rfl, -⟩:=hR2.open;subst ha;subst hb;(refine Ah rfl (Ci (by assumption) rfl)<|AG rfl rfl<|Yy rfl rfl<|AX (fun _ _=>Bt ?_));rename_i b6 T6;refine Az 2 [vZ 2,Al [],vZ 0,vZ 0,.bool (decide (v.list[1].kind≠0)),.bool (decide (v.list[0].kind≠0))] rfl rfl rfl rfl (No rfl) rfl rfl ?_;by_cases hA:v.list[0].kind=0
   ·rw[if_neg (show¬v.list[0].kind≠0 from fun q=>q hA),show(decide (v.list[0].kind=0)||(AQ v.list[0]).2)=true by simp[hA]];by_cases hB:v.list[1].kind=0
    ·rw[if_neg (show¬v.list[1].kind≠0 from fun q=>q hB),show(decide (v.list[1].kind=0)||(AQ v.list[1]).2)=true by simp[hB]];(refine Aa<|Ac<|Ad rfl<|Ad rfl<|Aa<|Ai<|Ac<|Af rfl<|Ah rfl (Aj 2 rfl rfl)<|Aa<|Ao rfl (by omega)<|Am<|Ai<|Ac<|Af rfl<|Ah rfl (Aj 2 rfl rfl)<|Aa<|Ao rfl (by omega)<|Am<|Ac<|AD 2 rfl rfl rfl<|Ad rfl<|Ad rfl<|Ae rfl<|Ad rfl<|Ap rfl rfl ?_);refine Az 0 [vZ 2,Al [],vZ 0,vZ 0,.bool (decide (v.list[1].kind≠0)),.bool (decide (v.list[0].kind≠0))] rfl rfl rfl rfl (No rfl) rfl rfl ?_;(refine Ad rfl<|Aa<|Ar ?_);exact BG (L':=[]) [.agg [vZ 2,Al [],vZ 0,vZ 0,.bool (decide (v.list[1].kind≠0)),.bool (decide (v.list[0].kind≠0))].toArray,.bool true] ⟨A3 0 rfl rfl rfl,A4 rfl,trivial⟩ (ZB _) ⟨rfl,rfl⟩
    ·rw[if_pos (show v.list[1].kind≠0 from hB),show(decide (v.list[1].kind=0)||(AQ v.list[1]).2)=(AQ v.list[1]).2 by simp[hB]];(refine Aa<|Ac<|Ad rfl<|Ad rfl<|Aa<|Ai<|Ac<|Af rfl<|Ah rfl (Aj 2 rfl rfl)<|Aa<|Ao rfl (by omega)<|Am<|Ai<|Ac<|Af rfl<|Ah rfl (Aj 2 rfl rfl)<|Aa<|Au rfl (by omega)<|Ay<|Af rfl<|Ah rfl (Aj 1 rfl rfl)<|AJ (m:=1) (sz:=6) (R:=Aw) (by rfl) (by assumption) (by rfl) rfl (by omega) ?_;rintro _ _ _ _ _ _;apply BE;rfl;assumption;assumption);refine AF rfl (h1 (by assumption)) ?_;(refine Bj rfl<|AL rfl rfl<|AL rfl rfl<|Af rfl ?_);refine Az 2 [vZ 2,Al [],vZ (AQ v.list[1]).1,vZ 0,.bool (decide (v.list[1].kind≠0)),.bool (decide (v.list[0].kind≠0))] rfl rfl rfl rfl (No rfl) rfl rfl ?_;(refine Ad rfl<|Aa<|Ac<|AD 2 rfl rfl rfl<|Ad rfl<|Ad rfl<|Ae rfl<|Ad rfl<|Ap rfl rfl ?_);refine Az 0 [vZ 2,Al [],vZ (AQ v.list[1]).1,vZ 0,.bool (decide (v.list[1].kind≠0)),.bool (decide (v.list[0].kind≠0))] rfl rfl rfl rfl (No rfl) rfl rfl ?_;(refine Ad rfl<|Aa<|Ar ?_);exact BG (L':=[]) [.agg [vZ 2,Al [],vZ (AQ v.list[1]).1,vZ 0,.bool (decide (v.list[1].kind≠0)),.bool (decide (v.list[0].kind≠0))].toArray,.bool (AQ v.list[1]).2] ⟨A3 0 rfl rfl rfl,A4 rfl,trivial⟩ (ZB _) ⟨rfl,rfl⟩
   ·rw[if_pos (show v.list[0].kind≠0 from hA),show(decide (v.list[0].kind=0)||(AQ v.list[0]).2)=(AQ v.list[0]).2 by simp[hA]];cases hq:(AQ v.list[0]).2 with
    |false=>
     (refine Aa<|Ac<|Ad rfl<|Ad rfl<|Aa<|Ai<|Ac<|Af rfl<|Ah rfl (Aj 2 rfl rfl)<|Aa<|Au rfl (by omega)<|Ay<|Af rfl<|Ah rfl (Aj 1 rfl rfl)<|AJ (m:=0) (sz:=6) (R:=Aw) (by rfl) (by assumption) (by rfl) rfl (by omega) ?_;rintro _ _ _ _ _ _;apply BE;rfl;assumption;assumption)
     have hpl:=h1 (d:=d2) (v:=v.list[0]) (by assumption)
     rw[hq] at hpl
     clear hq
     refine AF rfl hpl ?_
     clear hpl
     (refine Bj rfl<|AL rfl rfl<|AL rfl rfl<|Af rfl ?_)
     refine Az 2 [vZ 2,Al [],vZ 0,vZ (AQ v.list[0]).1,.bool (decide (v.list[1].kind≠0)),.bool (decide (v.list[0].kind≠0))] rfl rfl rfl rfl (No rfl) rfl rfl ?_
     by_cases hB:v.list[1].kind=0
     ·rw[if_neg (show¬v.list[1].kind≠0 from fun q=>q hB),show(decide (v.list[1].kind=0)||(AQ v.list[1]).2)=true by simp[hB]]
      (refine Ad rfl<|Aa<|Ai<|Ac<|Af rfl<|Ah rfl (Aj 2 rfl rfl)<|Aa<|Ao rfl (by omega)<|Am<|Ac<|AD 2 rfl rfl rfl<|Ad rfl<|Ad rfl<|Ak rfl<|An rfl rfl ?_)
      refine Az 0 [vZ 2,Al [],vZ 0,vZ (AQ v.list[0]).1,.bool (decide (v.list[1].kind≠0)),.bool (decide (v.list[0].kind≠0))] rfl rfl rfl rfl (No rfl) rfl rfl ?_
      (refine Ad rfl<|Aa<|Ar ?_)
      exact BG (L':=[]) [.agg [vZ 2,Al [],vZ 0,vZ (AQ v.list[0]).1,.bool (decide (v.list[1].kind≠0)),.bool (decide (v.list[0].kind≠0))].toArray,.bool false] ⟨A3 0 rfl rfl rfl,A4 rfl,trivial⟩ (ZB _) ⟨rfl,rfl⟩
     ·rw[if_pos (show v.list[1].kind≠0 from hB),show(decide (v.list[1].kind=0)||(AQ v.list[1]).2)=(AQ v.list[1]).2 by simp[hB]]
      (refine Ad rfl<|Aa<|Ai<|Ac<|Af rfl<|Ah rfl (Aj 2 rfl rfl)<|Aa<|Au rfl (by omega)<|Ay<|Af rfl<|Ah rfl (Aj 1 rfl rfl)<|AJ (m:=1) (sz:=6) (R:=Aw) (by rfl) (by assumption) (by rfl) rfl (by omega) ?_;rintro _ _ _ _ _ _;apply BE;rfl;assumption;assumption)
      refine AF rfl (h1 (by assumption)) ?_
      (refine Bj rfl<|AL rfl rfl<|AL rfl rfl<|Af rfl ?_)
      refine Az 2 [vZ 2,Al [],vZ (AQ v.list[1]).1,vZ (AQ v.list[0]).1,.bool (decide (v.list[1].kind≠0)),.bool (decide (v.list[0].kind≠0))] rfl rfl rfl rfl (No rfl) rfl rfl ?_
      (refine Ad rfl<|Aa<|Ac<|AD 2 rfl rfl rfl<|Ad rfl<|Ad rfl<|Ak rfl<|An rfl rfl ?_)
      refine Az 0 [vZ 2,Al [],vZ (AQ v.list[1]).1,vZ (AQ v.list[0]).1,.bool (decide (v.list[1].kind≠0)),.bool (decide (v.list[0].kind≠0))] rfl rfl rfl rfl (No rfl) rfl rfl ?_
      (refine Ad rfl<|Aa<|Ar ?_)
      exact BG (L':=[]) [.agg [vZ 2,Al [],vZ (AQ v.list[1]).1,vZ (AQ v.list[0]).1,.bool (decide (v.list[1].kind≠0)),.bool (decide (v.list[0].kind≠0))].toArray,.bool false] ⟨A3 0 rfl rfl rfl,A4 rfl,trivial⟩ (ZB _) ⟨rfl,rfl⟩
    |true=>
     (refine Aa<|Ac<|Ad rfl<|Ad rfl<|Aa<|Ai<|Ac<|Af rfl<|Ah rfl (Aj 2 rfl rfl)<|Aa<|Au rfl (by omega)<|Ay<|Af rfl<|Ah rfl (Aj 1 rfl rfl)<|AJ (m:=0) (sz:=6) (R:=Aw) (by rfl) (by assumption) (by rfl) rfl (by omega) ?_;rintro _ _ _ _ _ _;apply BE;rfl;assumption;assumption)
     have hpl:=h1 (d:=d2) (v:=v.list[0]) (by assumption)
     rw[hq] at hpl
     clear hq
     refine AF rfl hpl ?_
     clear hpl
     (refine Bj rfl<|AL rfl rfl<|AL rfl rfl<|Af rfl ?_)
     refine Az 2 [vZ 2,Al [],vZ 0,vZ (AQ v.list[0]).1,.bool (decide (v.list[1].kind≠0)),.bool (decide (v.list[0].kind≠0))] rfl rfl rfl rfl (No rfl) rfl rfl ?_
     by_cases hB:v.list[1].kind=0
     ·rw[if_neg (show¬v.list[1].kind≠0 from fun q=>q hB),show(decide (v.list[1].kind=0)||(AQ v.list[1]).2)=true by simp[hB]]
      (refine Ad rfl<|Aa<|Ai<|Ac<|Af rfl<|Ah rfl (Aj 2 rfl rfl)<|Aa<|Ao rfl (by omega)<|Am<|Ac<|AD 2 rfl rfl rfl<|Ad rfl<|Ad rfl<|Ae rfl<|Ad rfl<|Ap rfl rfl ?_)
      refine Az 0 [vZ 2,Al [],vZ 0,vZ (AQ v.list[0]).1,.bool (decide (v.list[1].kind≠0)),.bool (decide (v.list[0].kind≠0))] rfl rfl rfl rfl (No rfl) rfl rfl ?_
      (refine Ad rfl<|Aa<|Ar ?_)
      exact BG (L':=[]) [.agg [vZ 2,Al [],vZ 0,vZ (AQ v.list[0]).1,.bool (decide (v.list[1].kind≠0)),.bool (decide (v.list[0].kind≠0))].toArray,.bool true] ⟨A3 0 rfl rfl rfl,A4 rfl,trivial⟩ (ZB _) ⟨rfl,rfl⟩
     ·rw[if_pos (show v.list[1].kind≠0 from hB),show(decide (v.list[1].kind=0)||(AQ v.list[1]).2)=(AQ v.list[1]).2 by simp[hB]]
      (refine Ad rfl<|Aa<|Ai<|Ac<|Af rfl<|Ah rfl (Aj 2 rfl rfl)<|Aa<|Au rfl (by omega)<|Ay<|Af rfl<|Ah rfl (Aj 1 rfl rfl)<|AJ (m:=1) (sz:=6) (R:=Aw) (by rfl) (by assumption) (by rfl) rfl (by omega) ?_;rintro _ _ _ _ _ _;apply BE;rfl;assumption;assumption)
      refine AF rfl (h1 (by assumption)) ?_
      (refine Bj rfl<|AL rfl rfl<|AL rfl rfl<|Af rfl ?_)
      refine Az 2 [vZ 2,Al [],vZ (AQ v.list[1]).1,vZ (AQ v.list[0]).1,.bool (decide (v.list[1].kind≠0)),.bool (decide (v.list[0].kind≠0))] rfl rfl rfl rfl (No rfl) rfl rfl ?_
      (refine Ad rfl<|Aa<|Ac<|AD 2 rfl rfl rfl<|Ad rfl<|Ad rfl<|Ae rfl<|Ad rfl<|Ap rfl rfl ?_)
      refine Az 0 [vZ 2,Al [],vZ (AQ v.list[1]).1,vZ (AQ v.list[0]).1,.bool (decide (v.list[1].kind≠0)),.bool (decide (v.list[0].kind≠0))] rfl rfl rfl rfl (No rfl) rfl rfl ?_
      (refine Ad rfl<|Aa<|Ar ?_)
      exact BG (L':=[]) [.agg [vZ 2,Al [],vZ (AQ v.list[1]).1,vZ (AQ v.list[0]).1,.bool (decide (v.list[1].kind≠0)),.bool (decide (v.list[0].kind≠0))].toArray,.bool (AQ v.list[1]).2] ⟨A3 0 rfl rfl rfl,A4 rfl,trivial⟩ (ZB _) ⟨rfl,rfl⟩
  ·rw[Nl k6 hk];(refine AX (fun _ _=>Ad rfl<|Aa<|Ai<|Ac<|Af rfl<|Ah rfl (Aj 1 rfl rfl)<|Aa<|Av<|Ac<|Aq rfl rfl<|Ad rfl<|Aa<|Ao rfl (by omega)<|Ac<|Aq rfl rfl<|Ad rfl<|Aa<|Ao rfl (by omega)<|Ac<|Aq rfl rfl<|Ad rfl<|Aa<|Au rfl (by omega)<|Ai<|Ac<|Af rfl<|Ah rfl (Aj 1 rfl rfl) ?_));refine G5 (v0:=Al DE) (v1:=Al CA) rfl rfl rfl rfl (fun b30 T30=>?_);refine BF (fun d2 hl2 hg2=>?_);have hEq:=h2 (BK.mono hks hl2) (Ip (ks:=[DE,CA]) (by decide) (by decide) hg2);rw[decide_eq_false hk] at hEq;refine AF rfl hEq ?_;(refine Bi rfl<|Aa<|Bb rfl<|Ac<|BN rfl ?_);refine Az 0 [vZ 0,Al [],vZ 0,vZ 0,.bool false,.bool false] rfl rfl rfl rfl (No rfl) rfl rfl ?_;(refine Ad rfl<|Aa<|Ar ?_);exact BG (L':=[]) [.agg [vZ 0,Al [],vZ 0,vZ 0,.bool false,.bool false].toArray,.bool false] ⟨A3 0 rfl rfl rfl,A4 rfl,trivial⟩ (ZB _) ⟨rfl,rfl⟩
 ·rw[Xm k4 k3 k6];(refine AX (fun _ _=>Ad rfl<|Aa<|Ai<|Ac<|Af rfl<|Ah rfl (Aj 1 rfl rfl)<|Aa<|Av<|Ac<|Aq rfl rfl<|Ad rfl<|Aa<|Ao rfl (by omega)<|Ac<|Aq rfl rfl<|Ad rfl<|Aa<|Ao rfl (by omega)<|Ac<|Aq rfl rfl<|Ad rfl<|Aa<|Ao rfl (by omega)<|Am<|Ac<|BN rfl ?_));refine Az 0 [vZ 0,Al [],vZ 0,vZ 0,.bool false,.bool false] rfl rfl rfl rfl (No rfl) rfl rfl ?_;(refine Ad rfl<|Aa<|Ar ?_);exact BG (L':=[]) [.agg [vZ 0,Al [],vZ 0,vZ 0,.bool false,.bool false].toArray,.bool false] ⟨A3 0 rfl rfl rfl,A4 rfl,trivial⟩ (ZB _) ⟨rfl,rfl⟩
end
section
def P4(T:Ag→Prop)(P:Program)(f:FuncId):Prop:=∀{d cs}{v:V},T d→Aw d cs v→v.list.length≤1000000→
 A8 P f [.agg cs.toArray] d [] (Ret fun r d' L'=>L'=[]∧∃w,r=.tuple #[w,vZ (G1 v).2]∧RSl 6 RSt d' w (G1 v).1)
def MS(h:AS v≠0):G1 v=([],AS v):=by unfold G1;rw[if_pos h]
def OH(h:¬AS v≠0)(hk:v.kind≠5):G1 v=([],80):=by unfold G1;rw[if_neg h,if_pos hk]
def Sr(h:¬AS v≠0)(hk:¬v.kind≠5){i:Nat}(hi:i<v.list.length)(hn:(BB v.list[i]).2=false):G1 v=([],80):=by
 unfold G1;rw[if_neg h,if_neg hk,if_neg];intro q;rw[ZF] at q;have:=q _ (ZC hi);rw[hn] at this;cases this
def Q6(h:¬AS v≠0)(hk:¬v.kind≠5)(ha:∀i (hi:i<v.list.length),(BB v.list[i]).2=true):G1 v=(v.list.map fun x=>(BB x).1,0):=by
 unfold G1;rw[if_neg h,if_neg hk,if_pos];rw[ZF];intro x hx;obtain⟨i,hi,rfl⟩:=Aae hx;exact ha i hi
def JM:I64 1:=⟨by decide,by decide⟩
def PD:I64 2:=⟨by decide,by decide⟩
def PS{d cs}(hv:Aw d cs v):RSt d (stL (BB v).1) (BB v).1:=by
 obtain⟨lv,kv,_,ik,im,ie,it,_,_⟩:=hv.open;refine⟨rfl,?_⟩
 have hp:∀{b:Bool}{w:V},I64 (if b=true then(AQ w).1 else 0):=by intro b w;split;exact H3 w;exact Ba
 unfold BB;split
 ·exact⟨Ba,it,Ba,Ba⟩
 split
 ·exact⟨JM,by simp,H3 v,Ba⟩
 split
 ·split
  ·refine⟨PD,by simp,?_,?_⟩
   ·simp only;split;exact H3 _;exact Ba
   ·simp only;split;exact H3 _;exact Ba
  ·exact⟨Ba,by simp[stZ],Ba,Ba⟩
 ·exact⟨Ba,by simp[stZ],Ba,Ba⟩
section
variable {P:Program}{pan:List PanicEntry→A0}{Qn:Env→A0}{Ls L:List Ag}{ρ:Env}{d:Ag}{s:GS}{t:Nat}{tk:Bool}
def HH{x a0 a1 a2 a3 a4 a5}(ex:ev ρ x=.agg [a0,a1,a2,a3,a4,a5].toArray)(h:∀b T,gws P pan Qn s Ls (upd ρ t (.slice (some ⟨b,0,none⟩) 1 1)) d (bx b T [a0,a1,a2,a3,a4,a5]::L)):
  gws P pan Qn (.op false ⟨some t,none,.bsl 1 6 [vZ 0,Al [],vZ 0,vZ 0,.bool false,.bool false] [(0,x)]⟩ s) Ls ρ d L:=by
 refine DI (by omega) ?_ h
 simp[Instr.fill,BC,Z8,List.range.loop,ex,Value.cells]
end
def Rf(a0 a1:Nat):A6:=⟨38,[(.tmp 2),(.tmp 3)],(sR (o1 1 (.box 0)<|o1 2 (.mv nS)<|o1 3 (.mv z0) .done) (.seq (sR (o1 10 (.ld (some 6) 1)<|oc 11 a0 [10]<|om 4 11 .done) (sR (om 12 4<|ob 13 .neq 12 z0 .done) (.cond 13 (sR (om 14 4<|o1 2 (.mv nS)<|om 3 14 .done) .ret) .skip))) (.seq (sR (oj 15 0 1<|ol 16 15<|ob 17 .neq 16 (kZ 5) .done) (.cond 17 (sR (o1 2 (.mv nS)<|o1 3 (.mv (kZ 80)) .done) .ret) .skip)) (sR (o1 5 (.mv nS) .done) (.seq (sR (oj 18 4 1<|ol 19 18<|oL 20 19<|o1 21 (.mv z0) .done) (.block 0 (.loop (sR (ob 22 .lss 21 20 .done) (.seq (.cond 22 .skip (.exit 0)) (.seq (.block 1 (sR (oI 23 6 19 21<|o1 24 (.ld (some 6) 23)<|o1 7 (.alo (.agg #[(vZ 0),(vZ 0),(vZ 0),(Al []),(.slice none 0 0),(.slice none 0 0)]))<|o0 (.st 6 7 24) .done) (sR (o1 26 (.ld (some 6) 7)<|oc 27 a1 [26]<|om 25 27<|oe 28 25 0<|oe 29 25 1<|o1 8 (.alo (.agg #[(vZ 0),(Al []),(vZ 0),(vZ 0),(.bool false),(.bool false)]))<|o0 (.st 6 8 28)<|om 9 29 .done) (.seq (sR (om 30 9<|o1 31 (.un .not 30) .done) (.cond 31 (sR (o1 2 (.mv nS)<|o1 3 (.mv (kZ 80)) .done) .ret) .skip)) (rG (om 32 5<|o1 33 (.ld (some 6) 8)<|o1 34 (.bsl 1 6 [(vZ 0),(Al []),(vZ 0),(vZ 0),(.bool false),(.bool false)] [(0,33)])<|o1 35 (.app 6 48 [(vZ 0),(Al []),(vZ 0),(vZ 0),(.bool false),(.bool false)] 32 34)<|om 5 35 .done)))))) (rG (ob 36 .add 21 z1<|om 21 36 .done)))))))) (sR (om 37 5<|om 2 37<|o1 3 (.mv z0) .done) .ret))))))⟩
set_option maxHeartbeats 2000000 in
def XF{T:Ag→Prop}{P f2}(hTm:∀{d d'},Le d d'→T d→T d')(hd:dec P f=some (Rf f1 f2))(h1:Fq T P f1)(h2:N5 P f2):P4 T P f:=by
 intro d cs v ht hv hb;refine Bd hd (No rfl) ?_;have hv0:=hv;obtain⟨lv,kv,rfl,ik,im,ie,it,hl,hks⟩:=hv.open;obtain⟨la,lc,rfl⟩:=RSl.val hl;obtain⟨ka,kc,rfl⟩:=RSl.val hks;show gwp P _ _ _ _ _;apply Ai;apply Ay;refine B9 d [emp] Vs.emp ?_;refine AO (l:=[vZ v.kind,vZ v.m,vZ v.e,Al v.text,.slice la v.list.length lc,.slice ka v.keys.length kc]) rfl (fun b1 T1=>?_);(refine As rfl<|Ab rfl<|Aa<|Ai<|Ac<|AD 0 rfl rfl rfl ?_);refine AF rfl (h1 ht hv0) ?_;by_cases hr:AS v≠0
 ·rw[MS hr];(refine Ab rfl<|Aa<|Ac<|Ab rfl<|AG rfl rfl<|Aa<|Au rfl (by omega)<|Ac<|Ab rfl<|As rfl<|Ab rfl<|Aa<|Ar ?_);exact BG (L':=[]) [.slice none 0 0,vZ (AS v)] ⟨A4 rfl,A4 rfl,trivial⟩ (ZB _) ⟨rfl,_,rfl,RSl.nil⟩
 by_cases hk:v.kind≠5
 ·rw[OH hr hk];(refine Ab rfl<|Aa<|Ac<|Ab rfl<|AG rfl rfl<|Aa<|Ao rfl (by omega)<|Am<|Ai<|Ac<|Af rfl<|Ah rfl (Aj 0 rfl rfl)<|AG rfl rfl<|Aa<|Au rfl (by omega)<|Ac<|As rfl<|Ab rfl<|Aa<|Ar ?_);exact BG (L':=[]) [.slice none 0 0,vZ 80] ⟨A4 rfl,A4 rfl,trivial⟩ (ZB _) ⟨rfl,_,rfl,RSl.nil⟩
 have hmay:BH v=true:=(CE.1 (Decidable.not_not.1 hr)).1;have hl':RSl 6 Aw d (.slice la v.list.length lc) v.list:=hl;(refine Ab rfl<|Aa<|Ac<|Ab rfl<|AG rfl rfl<|Aa<|Ao rfl (by omega)<|Am<|Ai<|Ac<|Af rfl<|Ah rfl (Aj 0 rfl rfl)<|AG rfl rfl<|Aa<|Ao rfl (by omega)<|Am<|Ac<|As rfl<|Aa<|Ai<|Ac<|Af rfl<|Ah rfl (Aj 0 rfl rfl)<|AA rfl<|Ab rfl<|Aa<|Av ?_);refine Bg (α:=Nat×Option Addr×Nat) (fun x=>[(5,.slice x.2.1 x.1 x.2.2),(19,.slice la v.list.length lc),(20,vZ v.list.length),(21,vZ x.1)])
  (fun x d' L'=>Le d d'∧x.1≤v.list.length∧(∀j (hj:j<v.list.length),j<x.1→(BB v.list[j]).2=true)∧∃J h,AN 6 RSt d' (.slice x.2.1 x.1 x.2.2) ((v.list.map fun x=>(BB x).1).take x.1) h∧L'=bx b1 T1 [vZ v.kind,vZ v.m,vZ v.e,Al v.text,.slice la v.list.length lc,.slice ka v.keys.length kc]::h::J)
  (fun x=>v.list.length - x.1) (0,none,0) ⟨rfl,rfl,rfl,rfl,trivial⟩ ⟨Le.refl _,ZN _,fun j _ h=>absurd h (Z3 j),[],emp,AN.nil,rfl⟩ ?_
 rintro⟨i,ra,rc⟩ ρ d3 L' ⟨hl3,hi,hall,J,h,hrow,hL⟩;simp only at hi hall hrow⊢;subst hL;have hl3':RSl 6 Aw d3 (.slice la v.list.length lc) v.list:=BL.mono hl' hl3;by_cases hc:i<v.list.length
 ·(refine Ac<|Ax rfl rfl<|Aa<|Ai<|Au rfl (by omega)<|Am<|Ai<|Av<|Ac<|AJ (sz:=6) (R:=Aw) (by rfl) (by assumption) (by rfl) rfl (by omega) ?_;rintro _ _ _ _ _ _;refine BE rfl (by assumption) (by assumption)<|AX (fun _ _=>?_));rename_i q1 q2 q3 q4 q5 hR b7 T7;have hRs:=PS hR;obtain⟨e0,e1,e2,e3,e4,e5,rfl⟩:=six hR.len;refine Az 0 [e0,e1,e2,e3,e4,e5] rfl rfl rfl rfl (No rfl) (AH _ _ _ hR) rfl ?_;cases hok:(BB v.list[i]).2 with
  |false=>
   rw[Sr hr hk hc hok]
   (refine Aa<|Ac<|AD 0 rfl rfl rfl ?_)
   have htl:=h2 hR (CR hmay (ZC hc))
   rw[hok] at htl
   clear hok
   refine AF rfl htl ?_
   clear htl
   (refine Bj rfl<|AL rfl rfl<|AL rfl rfl<|AX (fun _ _=>?_))
   rename_i b8 T8
   refine Az 0 (stL (BB v.list[i]).1) rfl rfl rfl rfl (No rfl) rfl rfl ?_
   (refine Ad rfl<|Aa<|Ai<|Ac<|Ad rfl<|Bi rfl<|Aa<|Bb rfl<|Ac<|As rfl<|Ab rfl<|Aa<|Ar ?_)
   exact BG (L':=[]) [.slice none 0 0,vZ 80] ⟨A4 rfl,A4 rfl,trivial⟩ (ZB _) ⟨rfl,_,rfl,RSl.nil⟩
  |true=>
   have hall2:∀j (hj:j<v.list.length),j<i+1→(BB v.list[j]).2=true:=fun j hj hji=>by
    by_cases e:j<i
    ·exact hall j hj e
    ·obtain rfl:j=i:=by omega
     exact hok
   (refine Aa<|Ac<|AD 0 rfl rfl rfl ?_)
   have htl:=h2 hR (CR hmay (ZC hc))
   rw[hok] at htl
   clear hok
   refine AF rfl htl ?_
   clear htl
   (refine Bj rfl<|AL rfl rfl<|AL rfl rfl<|AX (fun _ _=>?_))
   rename_i b8 T8
   refine Az 0 (stL (BB v.list[i]).1) rfl rfl rfl rfl (No rfl) rfl rfl ?_
   (refine Ad rfl<|Aa<|Ai<|Ac<|Ad rfl<|Bi rfl<|Aa<|AK rfl<|Am<|Ay<|As rfl<|AD 0 rfl rfl rfl ?_)
   refine HH rfl (fun b34 T34=>?_)
   refine DH (R:=RSt) 3 rfl rfl hrow rfl (AN.D8 rfl hRs) HL (by omega) (by simp;omega) (by simp;omega) (fun v5 h5 o5=>?_)
   have htk:(v.list.map fun x=>(BB x).1).take i++[(BB v.list[i]).1]=(v.list.map fun x=>(BB x).1).take (i+1):=by rw[ZA (show i<(v.list.map fun x=>(BB x).1).length by simpa using hc)];simp
   rw[htk] at o5
   obtain⟨a5,c5',rfl⟩:=o5.val
   have hlt:((v.list.map fun x=>(BB x).1).take (i+1)).length=i+1:=by simp;omega
   rw[hlt] at o5⊢
   refine B9 d3 (bx b1 T1 [vZ v.kind,vZ v.m,vZ v.e,Al v.text,.slice la v.list.length lc,.slice ka v.keys.length kc]::h5::J) (Vs.drop (.cons _ (.cons _ (ZS _)))) ?_
   (refine As rfl<|Aa<|Ay<|AI rfl rfl (by omega) (by omega)<|Ab rfl<|Aa ?_)
   exact⟨(i+1,a5,c5'),by simp only;omega,⟨rfl,rfl,rfl,int_eq (by omega),trivial⟩,hl3,hc,hall2,J,h5,o5,rfl⟩
 ·obtain rfl:i=v.list.length:=by omega
  rw[Q6 hr hk (fun j hj=>hall j hj hj)];have hf:(v.list.map fun x=>(BB x).1).take v.list.length=v.list.map fun x=>(BB x).1:=Z7 (by simp);(refine Ac<|Ax rfl rfl<|Aa<|Ai<|Ao rfl (by omega)<|AV<|Ac<|As rfl<|As rfl<|Ab rfl<|Aa<|Ar ?_);refine Iv [.slice ra v.list.length rc,vZ 0] ⟨A4 rfl,A4 rfl,trivial⟩ (fun d' hld hkk=>?_);have hrs:=hrow.rsl (R:=RSt) Df (by omega) hld (hkk h (by simp));rw[hf] at hrs;exact⟨rfl,_,rfl,hrs⟩
end
def BQ(a b:Int):Int:=if a<b then -1 else if b<a then 1 else 0
def Gg(P:Program)(f:FuncId):Prop:=∀{d}{a b:Int},AM P f [vZ a,vZ b] d (vZ (BQ a b))
def Pt:A6:=⟨13,[(.tmp 4)],(sR (o1 4 (.mv z0) .done) (.seq (.block 0 (sR (om 6 0<|om 7 1<|ob 8 .lss 6 7<|om 5 8 .done) (.cond 5 (sR (o1 4 (.mv (kZ (-1))) .done) .ret) (sR (om 10 0<|om 11 1<|ob 12 .gtr 10 11<|om 9 12 .done) (.cond 9 (sR (o1 4 (.mv z1) .done) .ret) .skip))))) (sR (o1 4 (.mv z0) .done) .ret)))⟩
def MG(hd:dec P f=some Pt):Gg P f:=by
 intro d a b;refine AM.of' hd (No rfl) ?_;show gwp P _ _ _ _ _;by_cases h:a<b
 ·rw[BQ,if_pos h];(refine Ac<|Ab rfl<|Aa<|Ai<|Av<|Ac<|Ab rfl<|Ab rfl<|Ax rfl rfl<|Ad rfl<|Aa<|Au rfl (by omega)<|Ac<|Ab rfl<|Aa<|Ar ?_);exact BI rfl
 by_cases h2:b<a
 ·rw[BQ,if_neg h,if_pos h2];(refine Ac<|Ab rfl<|Aa<|Ai<|Av<|Ac<|Ab rfl<|Ab rfl<|Ax rfl rfl<|Ad rfl<|Aa<|Ao rfl (by omega)<|Ac<|Ab rfl<|Ab rfl<|AP rfl rfl<|Ad rfl<|Aa<|Au rfl (by omega)<|Ac<|Ab rfl<|Aa<|Ar ?_);exact BI rfl
 ·rw[BQ,if_neg h,if_neg h2];(refine Ac<|Ab rfl<|Aa<|Ai<|Av<|Ac<|Ab rfl<|Ab rfl<|Ax rfl rfl<|Ad rfl<|Aa<|Ao rfl (by omega)<|Ac<|Ab rfl<|Ab rfl<|AP rfl rfl<|Ad rfl<|Aa<|Ao rfl (by omega)<|Am<|Ac<|Ab rfl<|Aa<|Ar ?_);exact BI rfl
def Jd:A6:=⟨11,[(.tmp 4)],(sR (o1 4 (.mv z0) .done) (.seq (sR (om 5 0<|om 6 1<|ob 7 .lss 5 6 .done) (.cond 7 (sR (o1 4 (.mv (kZ (-1))) .done) .ret) .skip)) (.seq (sR (om 8 0<|om 9 1<|ob 10 .gtr 8 9 .done) (.cond 10 (sR (o1 4 (.mv z1) .done) .ret) .skip)) (sR (o1 4 (.mv z0) .done) .ret))))⟩
def HZ(hd:dec P f=some Jd):Gg P f:=by
 intro d a b;refine AM.of' hd (No rfl) ?_;show gwp P _ _ _ _ _;by_cases h:a<b
 ·rw[BQ,if_pos h];(refine Ac<|Ab rfl<|Aa<|Ai<|Ac<|Ab rfl<|Ab rfl<|Ax rfl rfl<|Aa<|Au rfl (by omega)<|Ac<|Ab rfl<|Aa<|Ar ?_);exact BI rfl
 by_cases h2:b<a
 ·rw[BQ,if_neg h,if_pos h2];(refine Ac<|Ab rfl<|Aa<|Ai<|Ac<|Ab rfl<|Ab rfl<|Ax rfl rfl<|Aa<|Ao rfl (by omega)<|Am<|Ai<|Ac<|Ab rfl<|Ab rfl<|AP rfl rfl<|Aa<|Au rfl (by omega)<|Ac<|Ab rfl<|Aa<|Ar ?_);exact BI rfl
 ·rw[BQ,if_neg h,if_neg h2];(refine Ac<|Ab rfl<|Aa<|Ai<|Ac<|Ab rfl<|Ab rfl<|Ax rfl rfl<|Aa<|Ao rfl (by omega)<|Am<|Ai<|Ac<|Ab rfl<|Ab rfl<|AP rfl rfl<|Aa<|Ao rfl (by omega)<|Am<|Ac<|Ab rfl<|Aa<|Ar ?_);exact BI rfl
def Rs(P:Program)(f:FuncId):Prop:=∀{d}{a:Int},AM P f [vZ a] d (.bool false)
def NC:A6:=⟨6,[(.tmp 2)],(sR (o1 2 (.mv (.const (.bool false))) .done) (sR (om 3 0<|om 4 0<|ob 5 .neq 3 4<|om 2 5 .done) .ret))⟩
def Xp(hd:dec P f=some NC):Rs P f:=by
 intro d a;refine AM.of' hd (No rfl) ?_;show gwp P _ _ _ _ _;(refine Ac<|Ad rfl<|Aa<|Ac<|Ab rfl<|Ab rfl<|AG rfl rfl<|Ad rfl<|Aa<|Ar ?_);apply Bf;rfl;simp
def LD(a0:Nat):A6:=⟨20,[(.tmp 4)],(sR (o1 4 (.mv z0) .done) (sR (om 7 0<|oc 8 a0 [7]<|om 5 8 .done) (sR (om 9 1<|oc 10 a0 [9]<|om 6 10 .done) (.seq (sR (om 11 5 .done) (.cond 11 (.seq (sR (om 12 6 .done) (.cond 12 (sR (o1 4 (.mv z0) .done) .ret) .skip)) (sR (o1 4 (.mv (kZ (-1))) .done) .ret)) .skip)) (.seq (sR (om 13 6 .done) (.cond 13 (sR (o1 4 (.mv z1) .done) .ret) .skip)) (.seq (sR (om 14 0<|om 15 1<|ob 16 .lss 14 15 .done) (.cond 16 (sR (o1 4 (.mv (kZ (-1))) .done) .ret) .skip)) (.seq (sR (om 17 0<|om 18 1<|ob 19 .gtr 17 18 .done) (.cond 19 (sR (o1 4 (.mv z1) .done) .ret) .skip)) (sR (o1 4 (.mv z0) .done) .ret))))))))⟩
def TT(hd:dec P f=some (LD f1))(h1:Rs P f1):Gg P f:=by
 intro d a b;refine AM.of' hd (No rfl) ?_;show gwp P _ _ _ _ _;(refine Ac<|Ab rfl<|Aa<|Ac<|Ab rfl ?_);refine AF rfl h1 ?_;(refine Ad rfl<|Aa<|Ac<|Ab rfl ?_);refine AF rfl h1 ?_;by_cases h:a<b
 ·rw[BQ,if_pos h];(refine Ad rfl<|Aa<|Ai<|Ac<|Ad rfl<|Aa<|AK rfl<|Am<|Ai<|Ac<|Ad rfl<|Aa<|AK rfl<|Am<|Ai<|Ac<|Ab rfl<|Ab rfl<|Ax rfl rfl<|Aa<|Au rfl (by omega)<|Ac<|Ab rfl<|Aa<|Ar ?_);exact BI rfl
 by_cases h2:b<a
 ·rw[BQ,if_neg h,if_pos h2];(refine Ad rfl<|Aa<|Ai<|Ac<|Ad rfl<|Aa<|AK rfl<|Am<|Ai<|Ac<|Ad rfl<|Aa<|AK rfl<|Am<|Ai<|Ac<|Ab rfl<|Ab rfl<|Ax rfl rfl<|Aa<|Ao rfl (by omega)<|Am<|Ai<|Ac<|Ab rfl<|Ab rfl<|AP rfl rfl<|Aa<|Au rfl (by omega)<|Ac<|Ab rfl<|Aa<|Ar ?_);exact BI rfl
 ·rw[BQ,if_neg h,if_neg h2];(refine Ad rfl<|Aa<|Ai<|Ac<|Ad rfl<|Aa<|AK rfl<|Am<|Ai<|Ac<|Ad rfl<|Aa<|AK rfl<|Am<|Ai<|Ac<|Ab rfl<|Ab rfl<|Ax rfl rfl<|Aa<|Ao rfl (by omega)<|Am<|Ai<|Ac<|Ab rfl<|Ab rfl<|AP rfl rfl<|Aa<|Ao rfl (by omega)<|Am<|Ac<|Ab rfl<|Aa<|Ar ?_);exact BI rfl
def E7(P:Program)(f:FuncId):Prop:=∀{d a b},AM P f [Al a,Al b] d (vZ (Lib.compareBytes a b))
def FN:A6:=⟨8,[(.tmp 4)],(sR (o1 4 (.mv z0) .done) (sR (om 5 0<|om 6 1<|o1 7 (.bcmp 5 6)<|om 4 7 .done) .ret))⟩
def XN(hd:dec P f=some FN):E7 P f:=by
 intro d a b;refine AM.of' hd (No rfl) ?_;show gwp P _ _ _ _ _;(refine Ac<|Ab rfl<|Aa<|Ac<|Bk rfl<|Bk rfl ?_);refine Xq rfl rfl ?_;(refine Ab rfl<|Aa<|Ar ?_);exact BI rfl
def LG(a0:Nat):A6:=⟨8,[(.tmp 4)],(sR (o1 4 (.mv z0) .done) (sR (om 5 0<|om 6 1<|oc 7 a0 [5,6]<|om 4 7 .done) .ret))⟩
def Xr(hd:dec P f=some (LG f1))(h1:E7 P f1):E7 P f:=by
 intro d a b;refine AM.of' hd (No rfl) ?_;show gwp P _ _ _ _ _;(refine Ac<|Ab rfl<|Aa<|Ac<|Bk rfl<|Bk rfl ?_);refine AF rfl h1 ?_;(refine Ab rfl<|Aa<|Ar ?_);exact BI rfl
def O9:∀a b:List UInt8,Lib.compareBytes a b=if Op.bytesLess a b then -1 else if Op.bytesLess b a then 1 else 0
 |[],[]=>by simp[Lib.compareBytes,Op.bytesLess]
 |[],_::_=>by simp[Lib.compareBytes,Op.bytesLess]
 |_::_,[]=>by simp[Lib.compareBytes,Op.bytesLess]
 |a::l,b::m=>by
  have ih:=O9 l m;simp only[Lib.compareBytes,Op.bytesLess];by_cases h1:a<b
  ·simp[h1]
  ·by_cases h2:b<a
   ·have:¬a=b:=fun e=>by subst e;exact h1 h2
    have h3:¬b=a:=fun e=>this e.symm;simp[h1,h2,this,h3]
   ·have e:a=b:=by
     rw[UInt8.lt_iff_toNat_lt] at h1 h2;exact UInt8.toNat_inj.1 (by omega)
    subst e;simp[h1,ih]
def JR:A6:=⟨11,[(.tmp 4)],(sR (o1 4 (.mv z0) .done) (.seq (sR (om 5 0<|om 6 1<|ob 7 .lss 5 6 .done) (.cond 7 (sR (o1 4 (.mv (kZ (-1))) .done) .ret) .skip)) (.seq (sR (om 8 0<|om 9 1<|ob 10 .gtr 8 9 .done) (.cond 10 (sR (o1 4 (.mv z1) .done) .ret) .skip)) (sR (o1 4 (.mv z0) .done) .ret))))⟩
def V3(hd:dec P f=some JR):E7 P f:=by
 intro d a b;refine AM.of' hd (No rfl) ?_;show gwp P _ _ _ _ _;rw[O9];have h3:∀h:Op.bytesLess a b=false,(!(Op.bytesLess a b||decide (a=b)))=Op.bytesLess b a:=fun h=>by
  rcases Mx a b with q|q|q
  ·rw[q] at h;cases h
  ·subst q;simp[F2]
  ·have:a≠b:=fun e=>by subst e;rw[F2] at q;cases q
   rw[h,q];simp[this]
 cases h:Op.bytesLess a b with
 |true=>
  (refine Ac<|Ab rfl<|Aa<|Ai<|Ac<|Bk rfl<|Bk rfl<|Lf rfl rfl<|Aa ?_;apply E9;rfl;(with_reducible assumption);refine Ac<|Ab rfl<|Aa<|Ar ?_)
  exact BI rfl
 |false=>
  have h4:=h3 h
  cases h2:Op.bytesLess b a with
  |true=>
   rw[h2] at h4
   (refine Ac<|Ab rfl<|Aa<|Ai<|Ac<|Bk rfl<|Bk rfl<|Lf rfl rfl<|Aa ?_;apply CU;rfl;(with_reducible assumption);refine Am<|Ai<|Ac<|Bk rfl<|Bk rfl<|Xj rfl rfl<|Aa ?_;apply E9;rfl;(with_reducible assumption);refine Ac<|Ab rfl<|Aa<|Ar ?_)
   exact BI rfl
  |false=>
   rw[h2] at h4
   (refine Ac<|Ab rfl<|Aa<|Ai<|Ac<|Bk rfl<|Bk rfl<|Lf rfl rfl<|Aa ?_;apply CU;rfl;(with_reducible assumption);refine Am<|Ai<|Ac<|Bk rfl<|Bk rfl<|Xj rfl rfl<|Aa ?_;apply CU;rfl;(with_reducible assumption);refine Am<|Ac<|Ab rfl<|Aa<|Ar ?_)
   exact BI rfl
def sgn(m:Int):Int:=if m<0 then -1 else if 0<m then 1 else 0
def PO(P:Program)(f:FuncId):Prop:=∀{d}{m e:Int},AM P f [.agg [vZ m,vZ e].toArray] d (vZ (sgn m))
def TC:A6:=⟨11,[(.tmp 2)],(sR (o1 1 (.box 0)<|o1 2 (.mv z0) .done) (.seq (.block 0 (sR (oj 4 0 1<|ol 5 4<|ob 6 .lss 5 z0<|om 3 6 .done) (.cond 3 (sR (o1 2 (.mv (kZ (-1))) .done) .ret) (sR (oj 8 0 1<|ol 9 8<|ob 10 .gtr 9 z0<|om 7 10 .done) (.cond 7 (sR (o1 2 (.mv z1) .done) .ret) .skip))))) (sR (o1 2 (.mv z0) .done) .ret)))⟩
def Yr(hd:dec P f=some TC):PO P f:=by
 intro d m e;refine AM.of' hd (No rfl) ?_;show gwp P _ _ _ _ _;by_cases h:m<0
 ·rw[sgn,if_pos h];(refine Ac<|AO rfl (fun _ _=>Ab rfl<|Aa<|Ai<|Av<|Ac<|Af rfl<|Ah rfl (Aj 0 rfl rfl)<|Ax rfl rfl<|Ad rfl<|Aa<|Au rfl (by omega)<|Ac<|Ab rfl<|Aa<|Ar ?_));exact BI rfl
 by_cases h2:0<m
 ·rw[sgn,if_neg h,if_pos h2];(refine Ac<|AO rfl (fun _ _=>Ab rfl<|Aa<|Ai<|Av<|Ac<|Af rfl<|Ah rfl (Aj 0 rfl rfl)<|Ax rfl rfl<|Ad rfl<|Aa<|Ao rfl (by omega)<|Ac<|Af rfl<|Ah rfl (Aj 0 rfl rfl)<|AP rfl rfl<|Ad rfl<|Aa<|Au rfl (by omega)<|Ac<|Ab rfl<|Aa<|Ar ?_));exact BI rfl
 ·rw[sgn,if_neg h,if_neg h2];(refine Ac<|AO rfl (fun _ _=>Ab rfl<|Aa<|Ai<|Av<|Ac<|Af rfl<|Ah rfl (Aj 0 rfl rfl)<|Ax rfl rfl<|Ad rfl<|Aa<|Ao rfl (by omega)<|Ac<|Af rfl<|Ah rfl (Aj 0 rfl rfl)<|AP rfl rfl<|Ad rfl<|Aa<|Ao rfl (by omega)<|Am<|Ac<|Ab rfl<|Aa<|Ar ?_));exact BI rfl
end Go.Gk.Val
end
section
namespace Go.Gk.Val
open Go Go.Gk Go.Gk.Utf Go.Proofs Go.RowKit Go.Shelf
attribute [local irreducible] gwp gws
variable{P:Program}{ρ:Ren}
def Kt{f args d v}(hc:Ey P f)(h:∀W,Calls P f args.toArray W fun e W'=>e=.returned v∧W'=W):AM P f args d v:=
 ⟨hc,fun F W x=>(h W).mono fun e W' ⟨he,hw⟩=>⟨d,[],by subst hw;exact x,Le.refl d,by subst hw;exact B6.refl _,by subst he;exact⟨rfl,rfl,rfl⟩⟩⟩
def N0(P:Program)(f:FuncId):Prop:=∀{d}{u:Nat},u<18446744073709551616→AM P f [.int .u64 u] d (vZ (Lib.bitLen u:Nat))
def Wz(L:Lays.n129 P ρ)(hc:Ey P (ρ.f 129)):N0 P (ρ.f 129):=fun{d u} hu=>
 Kt hc fun W=>Any.bits_Len64 L u W (by omega) (by omega)
def Ow(P:Program)(f:FuncId):Prop:=∀{d}{x:Nat},x≤64→AM P f [vZ x] d (vZ (Lib.l10 x:Nat))
def V7(L:Lays.n317 P ρ)(hc:Ey P (ρ.f 317)):Ow P (ρ.f 317):=fun{d x} hx=>
 Kt hc fun W=>Any.internal_strconv_log10Pow2 L x hx W
def Om(P:Program)(f:FuncId):Prop:=∀{d}{i:Nat},i<100→AM P f [vZ i] d (Al (Lib.decDigits i))
def Wu(L:Lays.n283 P ρ)(hc:Ey P (ρ.f 283)):Om P (ρ.f 283):=fun{d i} hi=>
 Kt hc fun W=>Any.internal_strconv_small L i hi W
def TL(P:Program)(f:FuncId):Prop:=∀{d}{b:Nat}{T l}{c u:Nat},u<18446744073709551616→l.take (Lib.nDigits u)=ZI (Lib.nDigits u) (.int .u8 0)→
 A8 P f [.slice (some ⟨b,0,none⟩) (Lib.nDigits u) c,.int .u64 u] d [bx b T l] (Ret fun r d' L'=>d'=d∧∃l',L'=[bx b T l']∧l'.length=l.length∧l'.take (Lib.nDigits u)=(Lib.decDigits u).map Bz)
def Zr{hs W}{b:Nat}{T l}{f:Array Value→Array Value}(x:Ok (bx b T l::hs) W):Ok (bx b T (f l.toArray).toList::hs) (Sort.mapBlock W b f):=by
 have hb:=x.head b _ (CI _ _);refine x.write _ ?_;show W.heap.modify b (Sort.onCells f)=W.heap.setIfInBounds b (.cells (f l.toArray).toList.toArray T (0,0));apply Array.ext_getElem?;intro i;rw[Array.getElem?_modify,Array.getElem?_setIfInBounds];obtain⟨hg,hv⟩:=Array.getElem?_eq_some_iff.1 hb;by_cases e:b=i
 ·subst e;simp[hg,hv,Sort.onCells]
 ·simp[e]
def YL(L:Lays.n285 P ρ)(hc:Ey P (ρ.f 285)):TL P (ρ.f 285):=by
 intro d b T l c u hu hz;generalize hn:Lib.nDigits u=n at*;have hnl:n≤l.length:=by
  have:=congrArg List.length hz;rw[ZP,Aci] at this;omega
 have h20:=Lib.nDigits_le20 u hu;have hlt:=Lib.lt_pow_nDigits u;refine⟨hc,fun F W hOk=>?_⟩
 have y:Ok (bx b T l::d::F) W:=hOk.perm (Z0 _ _ _);have hb:=y.head b _ (CI _ _);have hH:Sort.Holds (fun(b:UInt8)=>Value.int .u8 (b.toNat:Int)) W b 0 (Array.replicate n (0:UInt8)):=fun j hj=>by
  have hj':j<n:=by simpa using hj
  refine⟨?_,by simp[World.frozen?,hb]⟩
  have:=congrArg (·[j]?) hz;simp only[List.getElem?_replicate,hj',if_true] at this;rw[Z4 hj'] at this;simp only[World.cell?,hb,Aac];rw[getElem!_pos _ j hj];simpa using this
 have hk:=Any.internal_strconv_formatBase10 L b 0 c u (Array.replicate n (0:UInt8)) W hH (by rw[Array.size_replicate,←hn];exact hlt) hu (by rw[Array.size_replicate];omega);rw[Array.size_replicate] at hk;refine hk.mono ?_;rintro e W' ⟨rfl,m,v',dk,rfl,hinv⟩;have hdk:dk.size=n:=hinv.size;refine⟨d,[bx b T (Sort.putCells (fun(b:UInt8)=>Value.int .u8 (b.toNat:Int)) 0 dk l.toArray).toList],?_,Le.refl d,⟨rfl,rfl,rfl,?_⟩,rfl,_,rfl,by simp[Sort.putCells],?_⟩
 ·have z:=(Zr (f:=Sort.putCells (fun(b:UInt8)=>Value.int .u8 (b.toNat:Int)) 0 dk) y)
  exact(z.perm (Z0 _ _ _)).same rfl
 ·show W.heap.size≤(W.heap.modify b _).size;simp
 ·have hdl:=Lib.decDigits_length u;apply Abd;intro j;by_cases hj:j<n
  ·have hjd:j<(Lib.decDigits u).length:=by rw[hdl,hn];exact hj
   have hrow:=Lib.row_is_numeral (u:=u) (v':=v') (dk:=dk) (by rw[hn];exact hinv) j hjd;have hjl:j<l.length:=by omega
   rw[Z4 hj,Aat,List.getElem?_eq_getElem hjd,hrow];simp[Sort.putCells,hjl,hdk,hj,Bz]
  ·rw[ZY (by rw[ZP];omega),ZY (by rw[Aay,hdl];omega)]
def Ou(P:Program)(f:FuncId):Prop:=∀{d}{b:Bool},AM P f [.bool b] d (vZ (if b then 1 else 0))
def Gr:A6:=⟨4,[(.tmp 2)],(sR (o1 2 (.mv z0) .done) (.seq (sR (om 3 0 .done) (.cond 3 (sR (o1 2 (.mv z1) .done) .ret) .skip)) (sR (o1 2 (.mv z0) .done) .ret)))⟩
def VT{f}(hd:dec P f=some Gr):Ou P f:=by
 intro d b;refine AM.of' hd (No rfl) ?_;show gwp P _ _ _ _ _;cases b with
 |true=>
  (refine Ac<|Ab rfl<|Aa<|Ai<|Ac<|Ad rfl<|Aa<|Bb rfl<|Ac<|Ab rfl<|Aa<|Ar ?_)
  exact BI rfl
 |false=>
  (refine Ac<|Ab rfl<|Aa<|Ai<|Ac<|Ad rfl<|Aa<|AK rfl<|Am<|Ac<|Ab rfl<|Aa<|Ar ?_)
  exact BI rfl
def QL(T:Ag→Prop)(P:Program)(f:FuncId):Prop:=∀{d}{u:Nat},T d→1≤u→u<18446744073709551616→AM P f [.int .u64 u] d (vZ (Lib.nDigits u:Nat))
def Gz(a0 a1 a2 a3:Nat):A6:=⟨15,[(.tmp 2)],(sR (o1 2 (.mv z0) .done) (sR (om 4 0<|oc 5 a0 [4]<|oc 6 a1 [5]<|om 3 6 .done) (sR (om 7 3<|om 8 0<|om 9 3<|o1 10 (.idxa 20 1 (.global a2) 9)<|ol 11 10<|ob 12 .geq 8 11<|oc 13 a3 [12]<|ob 14 .add 7 13<|om 2 14 .done) .ret)))⟩
def XW{T:Ag→Prop}{f f1 f2 g3 f4}(hT:∀d,T d→DCs d g3 0 H2)(hd:dec P f=some (Gz f1 f2 g3 f4))(h1:N0 P f1)(h2:Ow P f2)(h4:Ou P f4):QL T P f:=by
 intro d u ht hu1 hu2;obtain⟨he,hl⟩:=Lib.numDigits_eq u hu1 hu2;have hb:Lib.bitLen u≤64:=Lib.bitLen_le u 64 (ZL _) hu2;have htab:DC d g3 (Lib.l10 (Lib.bitLen u)) (.int .u64 ((10 ^ Lib.l10 (Lib.bitLen u):Nat):Int)):=by
  have:=(hT d ht).at (i:=Lib.l10 (Lib.bitLen u)) (by simp[H2,show Lib.l10 (Lib.bitLen u)<20 by omega];rfl);rwa [Aac] at this
 refine AM.of' hd (No rfl) ?_;show gwp P _ _ _ _ _;(refine Ac<|Ab rfl<|Aa<|Ac<|Ab rfl ?_);refine AF rfl (h1 hu2) ?_;refine AF rfl (h2 hb) ?_;generalize hlg:Lib.l10 (Lib.bitLen u)=n at*;(refine Ab rfl<|Aa<|Ac<|Ab rfl<|Ab rfl<|Ab rfl ?_);refine Ds n rfl rfl rfl (by omega) ?_;refine Ah rfl (MA (by rw[Abw,Aac];exact htab)) ?_;(apply B5;rfl;rfl);refine AF rfl h4 ?_;have hlen:(if (decide (((10 ^ n:Nat):Int)≤(u:Int))) then(1:Int) else 0)=((if 10 ^ n≤u then 1 else 0:Nat):Int):=by
  by_cases q:10 ^ n≤u
  ·have q2:((10 ^ n:Nat):Int)≤(u:Int):=by omega
   rw[if_pos q,if_pos (by simpa using q2)];rfl
  ·have q2:¬((10 ^ n:Nat):Int)≤(u:Int):=by omega
   rw[if_neg q,if_neg (by simpa using q2)];rfl
 have hnd:=Lib.nDigits_le20 u hu2;rw[hlen];clear hlen;generalize (if 10 ^ n≤u then 1 else 0:Nat)=m at*;have hm:m≤20:=by omega
 (refine AI rfl rfl (by omega) (by omega)<|Ab rfl<|Aa<|Ar ?_);apply CF;rfl;omega
end Go.Gk.Val
end
section
namespace Go.Gk.Val
open Go Go.Gk Go.Gk.Utf
attribute [local irreducible] gwp gws
section
section
variable {P:Program}{pan:List PanicEntry→A0}{Qn:Env→A0}{Ls L:List Ag}{ρ:Env}{d:Ag}{s:GS}{t:Nat}{tk:Bool}
def T0{len n b:Nat}{x y}(hl:0<len)(hn:n≤len)(ex:ev ρ x=pZ b)(ey:ev ρ y=vZ (n:Nat))(h:gws P pan Qn s Ls (upd ρ t (.slice (some ⟨b,0,none⟩) n len)) d L):
  gws P pan Qn (.op tk ⟨some t,none,.sla len 1 x none (some y) none⟩ s) Ls ρ d L:=by
 refine w_q rfl ⟨b,0,0,n,len,ex,?_,?_⟩ h
 ·have hb:bnd (vZ (n:Nat)) len=some n:=by
   rw[bnd,if_pos (by omega),Z2]
  simp only[Aba,Option.map_none,ey]
  simp[EU,Iz,Hr,IB,hb]
 ·rw[if_neg (by omega)];simp
end
def IG(T:Ag→Prop)(P:Program)(f:FuncId):Prop:=∀{d}{u:Nat},T d→u<18446744073709551616→AM P f [.int .u64 u,vZ 10] d (Al (Lib.decDigits u))
def Gl(a0 a1 a2 a3:Nat):A6:=⟨32,[(.tmp 4)],(sR (o1 4 (.mv (.const (Al []))) .done) (.seq (sR (om 9 1<|ob 10 .eql 9 (kZ 10) .done) (.cond 10 (.seq (sR (om 11 0<|ob 12 .lss 11 (.const (.int .u64 100)) .done) (.cond 12 (sR (om 13 0<|o1 14 (.cvi .i64 13)<|oc 15 a0 [14]<|om 4 15 .done) .ret) .skip)) (sR (o1 5 (.alo (.agg #[(.int .u8 0),(.int .u8 0),(.int .u8 0),(.int .u8 0),(.int .u8 0),(.int .u8 0),(.int .u8 0),(.int .u8 0),(.int .u8 0),(.int .u8 0),(.int .u8 0),(.int .u8 0),(.int .u8 0),(.int .u8 0),(.int .u8 0),(.int .u8 0),(.int .u8 0),(.int .u8 0),(.int .u8 0),(.int .u8 0),(.int .u8 0),(.int .u8 0),(.int .u8 0),(.int .u8 0)])) .done) (sR (om 16 0<|oc 17 a1 [16]<|om 6 17 .done) (sR (om 18 6<|o1 19 (.sla 24 1 5 none (some 18) none)<|om 20 0<|oc 21 a2 [19,20] .done) (sR (om 22 6<|o1 23 (.sla 24 1 5 none (some 22) none)<|o1 24 (.b2s 23)<|om 4 24 .done) .ret))))) .skip)) (sR (om 26 0<|om 27 1<|oc 28 a3 [nS,26,27,(.const (.bool false)),(.const (.bool false))]<|om 25 28<|oe 29 25 0<|oe 30 25 1<|om 7 29<|om 8 30 .done) (sR (om 31 8<|om 4 31 .done) .ret))))⟩
def Xw{T:Ag→Prop}{P f f1 f2 f3 f4}(hd:dec P f=some (Gl f1 f2 f3 f4))(h1:Om P f1)(h2:QL T P f2)(h3:TL P f3):IG T P f:=by
 intro d u ht hu;refine AM.of' hd (No rfl) ?_;show gwp P _ _ _ _ _;by_cases hs:(u:Int)<100
 ·(refine Ac<|Bk rfl<|Aa<|Ai<|Ac<|Ab rfl<|Aq rfl rfl<|Aa<|Au rfl (by omega)<|Ai<|Ac<|Ab rfl<|Ax rfl rfl<|Aa<|Au rfl (by omega)<|Ac<|Ab rfl<|FW rfl (by omega) (by omega) ?_);refine AF rfl (h1 (by omega)) ?_;(refine Bk rfl<|Aa<|Ar ?_);exact BI rfl
 have hnd:=Lib.nDigits_le20 u hu;have hdl:=Lib.decDigits_length u;(refine Ac<|Bk rfl<|Aa<|Ai<|Ac<|Ab rfl<|Aq rfl rfl<|Aa<|Au rfl (by omega)<|Ai<|Ac<|Ab rfl<|Ax rfl rfl<|Aa<|Ao rfl (by omega)<|Am<|Ac<|AX (fun _ _=>Aa<|Ac<|Ab rfl ?_));rename_i b5 T5;refine AF rfl (h2 ht (by omega) hu) ?_;(refine Ab rfl<|Aa<|Ac<|Ab rfl ?_);refine T0 (n:=Lib.nDigits u) (by omega) (by omega) rfl rfl ?_;(apply Ab;rfl);have hz:(ZI 24 (Value.int .u8 0)).take (Lib.nDigits u)=ZI (Lib.nDigits u) (.int .u8 0):=by rw[List.take_replicate,Nat.min_eq_left (by omega)]
 refine B9 d [bx b5 T5 (ZI 24 (Value.int .u8 0))] (Vs.refl _ _) ?_;refine Xz (A:=[bx b5 T5 (ZI 24 (Value.int .u8 0))]) (B:=[]) rfl rfl (h3 (d:=d) (b:=b5) (T:=T5) (c:=24) hu hz) (fun r d6 L6 _ ⟨hdd,l',hL,hll,hlt⟩=>?_);subst hdd;subst hL;(refine Aa<|Ac<|Ab rfl ?_);refine T0 (n:=Lib.nDigits u) (by omega) (by omega) rfl rfl ?_;refine Xg (b:=b5) (o:=0) (l:=Lib.decDigits u) rfl hdl.symm (SAd.some _ b5 0) (fun i w hw=>?_) ?_
 ·refine Aj 0 rfl ?_;have:=congrArg (·[i]?) hlt;have hi:i<Lib.nDigits u:=by rw[←hdl];exact(List.getElem?_eq_some_iff.1 hw).1
  simp only[Aat,hw,Aba] at this;rw[Z4 hi] at this;rw[Aac];exact this
 (refine Bk rfl<|Aa<|Ar ?_);exact BI rfl
def Js(a0:Nat):A6:=⟨8,[(.tmp 4)],(sR (o1 4 (.mv (.const (Al []))) .done) (sR (om 5 0<|om 6 1<|oc 7 a0 [5,6]<|om 4 7 .done) .ret))⟩
def VC{T:Ag→Prop}{P f f1}(hd:dec P f=some (Js f1))(h1:IG T P f1):IG T P f:=by
 intro d u ht hu;refine AM.of' hd (No rfl) ?_;show gwp P _ _ _ _ _;(refine Ac<|Bk rfl<|Aa<|Ac<|Ab rfl<|Ab rfl ?_);refine AF rfl (h1 ht hu) ?_;(refine Bk rfl<|Aa<|Ar ?_);exact BI rfl
end
end Go.Gk.Val
end
section
namespace Go.Gk.Val
open Go Go.Gk Go.Gk.Num
variable{a b m m1 e1 m2 e2:Int}
def C1(h:a<b):BQ a b= -1:=if_pos h
def CT(h:b<a):BQ a b=1:=by rw[BQ,if_neg (by omega),if_pos h]
def Dg(h:a=b):BQ a b=0:=by rw[BQ,if_neg (by omega),if_neg (by omega)]
def GJ(a b:Int):BQ a b= -BQ b a:=by
 rcases Aav a b with h|h|h
 ·rw[C1 h,CT h]
 ·rw[Dg h,Dg h.symm];rfl
 ·rw[CT h,C1 h];rfl
def Ei:BQ a b=0↔a=b:=by
 rcases Aav a b with h|h|h
 ·rw[C1 h];simp;omega
 ·rw[Dg h];simp[h]
 ·rw[CT h];simp;omega
def Jt(a b:Int):BQ a b= -1∨BQ a b=0∨BQ a b=1:=by
 rcases Aav a b with h|h|h
 ·exact .inl (C1 h)
 ·exact .inr (.inl (Dg h))
 ·exact .inr (.inr (CT h))
def Lm{c d:Int}(h1:a<b↔c<d)(h2:b<a↔d<c):BQ a b=BQ c d:=by
 rcases Aav a b with h|h|h
 ·rw[C1 h,C1 (h1.1 h)]
 ·have h3:¬c<d:=fun q=>by have:=h1.2 q;omega
  have h4:¬d<c:=fun q=>by have:=h2.2 q;omega
  rw[Dg h,Dg (by omega)]
 ·rw[CT h,CT (h2.1 h)]
def Wk(a b:Int):BQ (-a) (-b)= -BQ a b:=by
 rw[←GJ];exact Lm (by omega) (by omega)
def Mh(a b:Int){n:Nat}(h:0<n):BQ (a*n) (b*n)=BQ a b:=by
 have hn:(0:Int)<n:=by omega
 have key:∀x y:Int,x*n<y*n↔x<y:=fun x y=>⟨fun q=>Int.lt_of_mul_lt_mul_right q (by omega),fun q=>Int.mul_lt_mul_of_pos_right q hn⟩
 exact Lm (key _ _) (key _ _)
def Cn(m1 e1 m2 e2:Int):Int:=BQ (m1*((10 ^(e1 - min e1 e2).toNat:Nat):Int)) (m2*((10 ^(e2 - min e1 e2).toNat:Nat):Int))
def Lh(m1 e1 m2 e2 e:Int)(h1:e≤e1)(h2:e≤e2):BQ (m1*((10 ^(e1 - e).toNat:Nat):Int)) (m2*((10 ^(e2 - e).toNat:Nat):Int))=Cn m1 e1 m2 e2:=by
 obtain⟨k,hk⟩:∃k:Nat,min e1 e2 - e=k:=⟨(min e1 e2 - e).toNat,by omega⟩
 have f1:(e1 - e).toNat=(e1 - min e1 e2).toNat+k:=by omega
 have f2:(e2 - e).toNat=(e2 - min e1 e2).toNat+k:=by omega
 rw[f1,f2,Nat.pow_add,Nat.pow_add,Aam,Aam,←Acr,←Acr,Mh _ _ (Acm (by omega)),Cn]
def OF(m1 e1 m2 e2:Int):Cn m1 e1 m2 e2= -Cn m2 e2 m1 e1:=by
 rw[Cn,Cn,GJ,Int.min_comm]
def Pm(l:List Nat):∀m,l.foldl (fun m d=>m*10+d) m=m*10 ^ l.length+val l:=by
 induction l with
 |nil=>intro m;simp[val]
 |cons a l ih=>
  intro m
  simp only[List.foldl_cons,val,ZU]
  rw[ih,ih (0*10+a),Acf,Aac,Ach,Aai,Nat.mul_assoc,Nat.mul_comm 10,Nat.add_assoc]
def EA(a:Nat)(l:List Nat):val (a::l)=a*10 ^ l.length+val l:=by
 rw[val,List.foldl_cons,Pm];simp
def Od:val []=0:=rfl
def EK{l:List Nat}(h:∀d∈l,d<10):val l<10 ^ l.length:=by
 induction l with
 |nil=>decide
 |cons a l ih=>
  have:=ih (fun d hd=>h d (ZE _ hd))
  have ha:=h a (ZG ..)
  rw[EA,ZU,Ach]
  have:(a+1)*10 ^ l.length≤10*10 ^ l.length:=ZQ _ (by omega)
  rw[Aai,Abh] at this
  omega
def NP{l:List Nat}(h:∃d∈l,d≠0):0<val l:=by
 induction l with
 |nil=>obtain⟨d,hd,_⟩:=h;cases hd
 |cons a l ih=>
  rw[EA]
  obtain⟨d,hd,hn⟩:=h
  rcases ZR.1 hd with rfl|hd
  ·have:=Nat.mul_pos (Nat.pos_of_ne_zero hn) (Acm (n:=l.length) (show 0<10 by omega));omega
  ·have:=ih ⟨d,hd,hn⟩;omega
def KG{l:List Nat}:val l=0↔∀d∈l,d=0:=by
 constructor
 ·intro h d hd;apply Classical.byContradiction;intro hn;have:=NP ⟨d,hd,hn⟩;omega
 ·intro h;induction l with
  |nil=>rfl
  |cons a l ih=>
   rw[EA,ih (fun d hd=>h d (ZE _ hd)),h a (ZG ..)];simp
def G6(a b:List Nat):val (a++b)=val a*10 ^ b.length+val b:=by
 rw[val,List.foldl_append,Pm];rfl
def OI(n:Nat):val (ZI n 0)=0:=KG.2 fun d hd=>(List.mem_replicate.1 hd).2
def VW{n:Nat}(h:n≠0):10 ^((Bw n).length - 1)≤n:=by
 have:=(FM n ((Bw n).length - 1))
 apply Classical.byContradiction;intro q;have h2:=this.2 (by omega);have:(Bw n).length≠0:=by obtain⟨d,l,e,_⟩:=GQ h;rw[e];simp
 omega
def dch(d:Nat):UInt8:=UInt8.ofNat (48+d)
def Jw:∀u,u≠0→Lib.decDigits u=(Bw u).map dch:=by
 intro u;induction u using Nat.strongRecOn with
 |_ u ih=>
  intro hu
  rw[Lib.decDigits,EP hu,Acp]
  by_cases h:u<10
  ·rw[dif_pos h,show u / 10=0 by omega,Fc,show u % 10=u by omega];rfl
  ·rw[dif_neg h,ih (u / 10) (by omega) (by omega)];rfl
def MO{a b:Nat}(ha:a<10)(hb:b<10):dch a<dch b↔a<b:=by
 rw[UInt8.lt_iff_toNat_lt];simp only[dch,UInt8.toNat_ofNat'];omega
def Ov:∀(B A:List Nat) (k:Nat),A.length=B.length+k→(∀d∈A,d<10)→(∀d∈B,d<10)→(k≠0→∃d∈A.drop B.length,d≠0)→
  Lib.compareBytes (A.map dch) (B.map dch)=BQ (val A) ((val B*10 ^ k:Nat):Int)
 |[],A,k,hl,hA,_,hz=>by
  cases A with
  |nil=>
   have:k=0:=by simpa using hl.symm
   subst this;rfl
  |cons a A=>
   have hk:k≠0:=by simp at hl;omega
   have:=NP (hz hk)
   simp only[List.length_nil,List.drop_zero] at this
   rw[CT (by rw[Od];omega)];rfl
 |b::B,[],k,hl,_,_,_=>by simp at hl;omega
 |b::B,a::A,k,hl,hA,hB,hz=>by
  have hl':A.length=B.length+k:=by simp at hl;omega
  have ha:=hA a (ZG ..);have hb:=hB b (ZG ..);have hA':∀d∈A,d<10:=fun d hd=>hA d (ZE _ hd);have hB':∀d∈B,d<10:=fun d hd=>hB d (ZE _ hd);have vA:=EK hA';have vB:val B*10 ^ k<10 ^ A.length:=by
   rw[hl',Nat.pow_add];exact Ada (EK hB') (Acm (by omega))
  have e:val (b::B)*10 ^ k=b*10 ^ A.length+val B*10 ^ k:=by rw[EA,Aai,hl',Nat.pow_add,Nat.mul_assoc]
  rw[Abc,Abc,Lib.compareBytes,EA,e];by_cases h1:a<b
  ·rw[if_pos ((MO ha hb).2 h1),C1];have:(a+1)*10 ^ A.length≤b*10 ^ A.length:=ZQ _ h1;rw[Aai,Abh] at this;omega
  ·rw[if_neg (fun h=>h1 ((MO ha hb).1 h))];by_cases h2:b<a
   ·rw[if_pos ((MO hb ha).2 h2),CT];have:(b+1)*10 ^ A.length≤a*10 ^ A.length:=ZQ _ h2;rw[Aai,Abh] at this;omega
   ·rw[if_neg (fun h=>h2 ((MO hb ha).1 h))];obtain rfl:a=b:=by omega
    rw[Ov B A k hl' hA' hB' (fun hk=>by simpa using hz hk)];exact Lm (by omega) (by omega)
def Ig:∀a b:List UInt8,Lib.compareBytes a b= -Lib.compareBytes b a
 |[],[]=>rfl
 |[],_::_=>rfl
 |_::_,[]=>rfl
 |a::l,b::m=>by
  simp only[Lib.compareBytes];by_cases h1:a<b
  ·have h2:¬b<a:=fun h=>by rw[UInt8.lt_iff_toNat_lt] at h h1;omega
   rw[if_pos h1,if_neg h2,if_pos h1]
  ·by_cases h2:b<a
   ·rw[if_neg h1,if_pos h2,if_pos h2];rfl
   ·rw[if_neg h1,if_neg h2,if_neg h2,if_neg h1,Ig l m]
def Pk{n:Nat}(h:n % 10≠0){k:Nat}(hk:k<(Bw n).length):∃d∈(Bw n).drop k,d≠0:=by
 have hn:n≠0:=by rintro rfl;simp at h
 refine⟨n % 10,?_,h⟩
 rw[EP hn] at hk⊢;simp at hk;rw[List.drop_append_of_le_length (by omega)];simp
def SC{m1 m2 a b:Nat}(h1:m1≠0)(h2:m2≠0)(h:(Bw m1).length+a<(Bw m2).length+b):m1*10 ^ a<m2*10 ^ b:=by
 have hlow:=VW h2;have hhi:=(FM m1 (Bw m1).length).1 (ZL _);have hpos:(Bw m2).length≠0:=by obtain⟨d,l,e,_⟩:=GQ h2;rw[e];simp
 have s1:m1*10 ^ a<10 ^(Bw m1).length*10 ^ a:=Ada hhi (Acm (by omega));have s2:10 ^((Bw m2).length - 1)*10 ^ b≤m2*10 ^ b:=ZQ _ hlow;have s3:10 ^(Bw m1).length*10 ^ a≤10 ^((Bw m2).length - 1)*10 ^ b:=by
  rw[←Nat.pow_add,←Nat.pow_add];exact Acn (by omega) (by omega)
 omega
def Yt{m1 m2 a b:Nat}(h1:m1 % 10≠0)(h2:m2 % 10≠0)(h:(Bw m1).length+a=(Bw m2).length+b)(hab:a=0∨b=0):
  Lib.compareBytes (Lib.decDigits m1) (Lib.decDigits m2)=BQ ((m1*10 ^ a:Nat):Int) ((m2*10 ^ b:Nat):Int):=by
 have n1:m1≠0:=by rintro rfl;simp at h1
 have n2:m2≠0:=by rintro rfl;simp at h2
 have p1:(Bw m1).length≠0:=by obtain⟨d,l,e,_⟩:=GQ n1;rw[e];simp
 have p2:(Bw m2).length≠0:=by obtain⟨d,l,e,_⟩:=GQ n2;rw[e];simp
 rw[Jw _ n1,Jw _ n2]
 rcases hab with rfl|rfl
 ·rw[Ov (Bw m2) (Bw m1) b (by omega) (Gn _) (Gn _) (fun hb=>Pk h1 (by omega)),FR,FR];simp
 ·rw[Ig,Ov (Bw m1) (Bw m2) a (by omega) (Gn _) (Gn _) (fun hb=>Pk h2 (by omega)),FR,FR,←GJ];simp
def Di(h:m<0):sgn m= -1:=if_pos h
def F6(h:0<m):sgn m=1:=by rw[sgn,if_neg (by omega),if_pos h]
def VD:sgn 0=0:=rfl
def Ho(h:sgn m1≠sgn m2∨sgn m1=0):Cn m1 e1 m2 e2=BQ (sgn m1) (sgn m2):=by
 rw[Cn];have q1:(0:Int)<((10 ^(e1 - min e1 e2).toNat:Nat):Int):=by have:=Acm (n:=(e1 - min e1 e2).toNat) (show 0<10 by omega);omega
 have q2:(0:Int)<((10 ^(e2 - min e1 e2).toNat:Nat):Int):=by have:=Acm (n:=(e2 - min e1 e2).toNat) (show 0<10 by omega);omega
 generalize ((10 ^(e1 - min e1 e2).toNat:Nat):Int)=x at*;generalize ((10 ^(e2 - min e1 e2).toNat:Nat):Int)=y at*;have key:∀(m:Int) {x:Int},0<x→(m<0∧m*x<0∧sgn m= -1)∨(m=0∧m*x=0∧sgn m=0)∨(0<m∧0<m*x∧sgn m=1):=fun m x hx=>by
  rcases Aav m 0 with h|h|h
  ·exact .inl ⟨h,Int.mul_neg_of_neg_of_pos h hx,Di h⟩
  ·subst h;exact .inr (.inl ⟨rfl,by simp,rfl⟩)
  ·exact .inr (.inr ⟨h,Int.mul_pos h hx,F6 h⟩)
 rcases key m1 q1 with ⟨a1,a2,a3⟩|⟨a1,a2,a3⟩|⟨a1,a2,a3⟩<;>rcases key m2 q2 with ⟨b1,b2,b3⟩|⟨b1,b2,b3⟩|⟨b1,b2,b3⟩<;>rw[a3,b3] at h⊢<;>first|(exfalso;revert h;decide)|exact Lm (by omega) (by omega)
def Q5(h:sgn m1=sgn m2)(h0:sgn m1≠0):
  Cn m1 e1 m2 e2=sgn m1*BQ ((m1.natAbs*10 ^(e1 - min e1 e2).toNat:Nat):Int) ((m2.natAbs*10 ^(e2 - min e1 e2).toNat:Nat):Int):=by
 rw[Cn]
 generalize (10 ^(e1 - min e1 e2).toNat:Nat)=x at*
 generalize (10 ^(e2 - min e1 e2).toNat:Nat)=y at*
 rw[Aam,Aam]
 rcases Aav m1 0 with q|q|q
 ·have q2:m2<0:=by
   rw[Di q] at h;rcases Aav m2 0 with r|r|r
   ·exact r
   ·subst r;cases h
   ·rw[F6 r] at h;cases h
  rw[Di q,show m1= -(m1.natAbs:Int) by omega,show m2= -(m2.natAbs:Int) by omega,Int.neg_mul,Int.neg_mul,Wk]
  simp
 ·subst q;exact absurd rfl h0
 ·have q2:0<m2:=by
   rw[F6 q] at h;rcases Aav m2 0 with r|r|r
   ·rw[Di r] at h;cases h
   ·subst r;cases h
   ·exact r
  rw[F6 q,show(m1.natAbs:Int)=m1 by omega,show(m2.natAbs:Int)=m2 by omega,Int.one_mul]
def Qh{e:Int}(h:Br m e=true)(h0:m≠0): -1000000000000000000<m∧m<1000000000000000000∧m.natAbs % 10≠0∧ -64≤e∧e≤64:=by
 rw[Br,if_neg h0,decide_eq_true_eq] at h;omega
def PL{e:Int}(h:Br m e=true): -1000000000000000000<m∧m<1000000000000000000∧ -64≤e∧e≤64:=by
 by_cases h0:m=0
 ·subst h0;simp[Br] at h;omega
 ·have:=Qh h h0;omega
def Tn(r1:Br m1 e1=true)(r2:Br m2 e2=true)(h:sgn m1=sgn m2)(h0:sgn m1≠0):
  Cn m1 e1 m2 e2=sgn m1*(if ((Lib.decDigits m1.natAbs).length:Int)+e1≠(Lib.decDigits m2.natAbs).length+e2 then BQ ((Lib.decDigits m1.natAbs).length+e1) ((Lib.decDigits m2.natAbs).length+e2) else Lib.compareBytes (Lib.decDigits m1.natAbs) (Lib.decDigits m2.natAbs)):=by
 have z1:m1≠0:=by rintro rfl;exact h0 rfl
 have z2:m2≠0:=by rintro rfl;exact h0 (h.trans rfl)
 obtain⟨_,_,d1,_,_⟩:=Qh r1 z1
 obtain⟨_,_,d2,_,_⟩:=Qh r2 z2
 rw[Q5 h h0]
 congr 1
 have n1:m1.natAbs≠0:=by omega
 have n2:m2.natAbs≠0:=by omega
 have l1:(Lib.decDigits m1.natAbs).length=(Bw m1.natAbs).length:=by rw[Jw _ n1,Aay]
 have l2:(Lib.decDigits m2.natAbs).length=(Bw m2.natAbs).length:=by rw[Jw _ n2,Aay]
 rw[l1,l2]
 split
 ·rename_i hne
  rcases Int.lt_or_gt_of_ne hne with q|q
  ·rw[C1 q,C1]
   have:=SC (a:=(e1 - min e1 e2).toNat) (b:=(e2 - min e1 e2).toNat) n1 n2 (by omega)
   omega
  ·rw[CT q,CT]
   have:=SC (a:=(e2 - min e1 e2).toNat) (b:=(e1 - min e1 e2).toNat) n2 n1 (by omega)
   omega
 ·rename_i he
  exact(Yt d1 d2 (by omega) (by omega)).symm
def Up(r1:Br m1 e1=true)(r2:Br m2 e2=true)(h:Cn m1 e1 m2 e2=0):m1=m2∧e1=e2:=by
 by_cases h0:sgn m1=sgn m2∧sgn m1≠0
 ·obtain⟨h1,h2⟩:=h0;have z1:m1≠0:=by rintro rfl;exact h2 rfl
  have z2:m2≠0:=by rintro rfl;exact h2 (h1.trans rfl)
  obtain⟨_,_,d1,_,_⟩:=Qh r1 z1;obtain⟨_,_,d2,_,_⟩:=Qh r2 z2;rw[Cn,Ei] at h;have key:∀(a b:Int) (k:Nat),a.natAbs % 10≠0→a=b*((10 ^ k:Nat):Int)→k=0:=by
   intro a b k ha e;cases k with
   |zero=>rfl
   |succ k=>
    exfalso;apply ha
    rw[e,Int.natAbs_mul,Int.natAbs_natCast,Ach,←Nat.mul_assoc];simp
  rcases Int.le_total e1 e2 with q|q
  ·rw[show(e1 - min e1 e2).toNat=0 by omega,Nat.pow_zero,Int.natCast_one,Int.mul_one] at h;have:=key _ _ _ d1 h;rw[this] at h;exact⟨by simpa using h,by omega⟩
  ·rw[show(e2 - min e1 e2).toNat=0 by omega,Nat.pow_zero,Int.natCast_one,Int.mul_one] at h;have:=key _ _ _ d2 h.symm;rw[this] at h;exact⟨by simpa using h,by omega⟩
 ·rw[Ho (by
   by_cases q:sgn m1=sgn m2
   ·right;apply Classical.byContradiction;intro r;exact h0 ⟨q,r⟩
   ·exact .inl q),Ei] at h
  have hz:sgn m1=0:=by apply Classical.byContradiction;intro r;exact h0 ⟨h,r⟩
  have z:∀m:Int,sgn m=0→m=0:=fun m hm=>by
   rcases Aav m 0 with r|r|r
   ·rw[Di r] at hm;cases hm
   ·exact r
   ·rw[F6 r] at hm;cases hm
  have a:=z m1 hz;have b:=z m2 (h▸hz);subst a;subst b;simp[Br] at r1 r2;omega
end Go.Gk.Val
end
section
namespace Go.Gk.Val
open Go Go.Gk Go.Gk.Num
attribute [local irreducible] gwp gws
variable{P:Program}{f f1 f2:FuncId}{xe e many e1 e2:Int}{D1 D2:List Nat}
def Mi(P:Program)(f:FuncId):Prop:=∀{d}{a b:Int},AM P f [vZ a,vZ b] d (vZ (min a b))
def JO:A6:=⟨10,[(.tmp 4)],(sR (o1 4 (.mv z0) .done) (.seq (sR (om 5 0<|om 6 1<|ob 7 .lss 5 6 .done) (.cond 7 (sR (om 8 0<|om 4 8 .done) .ret) .skip)) (sR (om 9 1<|om 4 9 .done) .ret)))⟩
def Uq(hd:dec P f=some JO):Mi P f:=by
 intro d a b;refine AM.of' hd (No rfl) ?_;show gwp P _ _ _ _ _;by_cases h:a<b
 ·(refine Ac<|Ab rfl<|Aa<|Ai<|Ac<|Ab rfl<|Ab rfl<|Ax rfl rfl<|Aa<|Au rfl (by omega)<|Ac<|Ab rfl<|Ab rfl<|Aa<|Ar ?_);apply CF;rfl;omega
 ·(refine Ac<|Ab rfl<|Aa<|Ai<|Ac<|Ab rfl<|Ab rfl<|Ax rfl rfl<|Aa<|Ao rfl (by omega)<|Am<|Ac<|Ab rfl<|Ab rfl<|Aa<|Ar ?_);apply CF;rfl;omega
def Wd{A B:List Nat}{i:Nat}(hl:A.length=B.length)(hA:∀d∈A,d<10)(hB:∀d∈B,d<10)(hi:i<A.length)(ht:A.take i=B.take i)(hne:A[i]≠B[i]'(by omega)):val B<val A↔B[i]'(by omega)<A[i]:=by
 have hi':i<B.length:=by omega
 have eA:A=A.take i++A[i]::A.drop (i+1):=by rw[←ZT hi,ZM]
 have eB:B=A.take i++B[i]::B.drop (i+1):=by rw[ht,←ZT hi',ZM]
 have hld:(A.drop (i+1)).length=(B.drop (i+1)).length:=by simp[hl]
 have vA:=EK (l:=A.drop (i+1)) (fun d hd=>hA d (Aax hd));have vB:=EK (l:=B.drop (i+1)) (fun d hd=>hB d (Aax hd));have wA:val A=val (A.take i)*10 ^((A.drop (i+1)).length+1)+(A[i]*10 ^(A.drop (i+1)).length+val (A.drop (i+1))):=by
  conv=>lhs;rw[eA]
  rw[G6,EA,ZU]
 have wB:val B=val (A.take i)*10 ^((A.drop (i+1)).length+1)+(B[i]*10 ^(A.drop (i+1)).length+val (B.drop (i+1))):=by
  conv=>lhs;rw[eB]
  rw[G6,EA,ZU,hld]
 rw[←hld] at vB;generalize A[i]=x at*;generalize B[i]=y at*;constructor
 ·intro h;apply Classical.byContradiction;intro q;have:(x+1)*10 ^(A.drop (i+1)).length≤y*10 ^(A.drop (i+1)).length:=ZQ _ (by omega);rw[Aai,Abh] at this;omega
 ·intro h;have:(y+1)*10 ^(A.drop (i+1)).length≤x*10 ^(A.drop (i+1)).length:=ZQ _ (by omega);rw[Aai,Abh] at this;omega
def Oi(P:Program)(f:FuncId):Prop:=∀{d v w}{A B:List Nat},CL d v (ints A)→CL d w (ints B)→A.length=B.length→(∀x∈A,x<10)→(∀x∈B,x<10)→A.length≤1000000→AM P f [v,w] d (.bool (decide (val B<val A)))
def Ju:A6:=⟨30,[(.tmp 4)],(sR (o1 4 (.mv (.const (.bool false))) .done) (.seq (sR (o1 5 (.mv z0) .done) (.block 0 (.loop (.seq (sR (om 6 5<|om 7 0<|oL 8 7<|ob 9 .lss 6 8 .done) (.cond 9 .skip (.exit 0))) (.seq (.block 1 (.seq (.reg true (pm 12 0<|pm 13 5<|p1 14 (.idx 1 12 13)<|pl 15 14<|pm 16 1<|pm 17 5<|p1 18 (.idx 1 16 17)<|pl 19 18<|p1 20 (.bin .neq 15 19) .done)) (.cond 20 (.seq (.reg true (pm 21 0<|pm 22 5<|p1 23 (.idx 1 21 22)<|pl 24 23<|pm 25 1<|pm 26 5<|p1 27 (.idx 1 25 26)<|pl 28 27<|p1 29 (.bin .gtr 24 28) (.bar (pm 4 29 .done)))) .ret) .skip))) (rG (om 10 5<|ob 11 .add 10 z1<|om 5 11 .done))))))) (sR (o1 4 (.mv (.const (.bool false))) .done) .ret)))⟩
def VU(hd:dec P f=some Ju):Oi P f:=by
 intro d v w A B hv hw hl hA hB hn;refine AM.of' hd (No rfl) ?_;obtain⟨a,c,rfl⟩:=RSl.val hv;obtain⟨a',c',rfl⟩:=RSl.val hw;rw[Bx] at hv hw;rw[Bx,Bx];have q1:RSl 1 By d (.slice a A.length c) (ints A):=hv;have q2:RSl 1 By d (.slice a' B.length c') (ints B):=hw;have n1:=Bx A;have n2:=Bx B;show gwp P _ _ _ _ _;(refine Ac<|Ad rfl<|Aa<|Ai<|Ac<|Ab rfl<|Aa<|Av ?_);refine CD (α:=Nat) (fun i=>[(0,.slice a A.length c),(1,.slice a' B.length c'),(5,vZ i)]) (fun _=>[]) (fun i=>i≤A.length∧A.take i=B.take i) (fun i=>A.length - i) 0 ⟨rfl,rfl,rfl,trivial⟩ rfl ⟨ZN _,by simp⟩ ?_;rintro i ρ ⟨hi,ht⟩;by_cases hc:i<A.length
 ·have hc':i<B.length:=by omega
  have e1:=ints_at A (i:=i) (by omega);have e2:=ints_at B (i:=i) (by omega);by_cases h:(ints A)[i]'(by omega)=(ints B)[i]'(by omega)
  ·(refine Ai<|Ac<|Ab rfl<|As rfl<|AA rfl<|Ax rfl rfl<|Aa<|Au rfl (by omega)<|Am<|Ai<|Av<|Ai<|AT<|As rfl<|Ab rfl<|AJ (sz:=1) (R:=By) (by rfl) (by assumption) (by rfl) rfl (by omega) ?_;rintro _ _ _ _ _ ⟨rfl,_,_⟩;refine Ah rfl (A1 (by assumption) rfl)<|As rfl<|Ab rfl<|AJ (sz:=1) (R:=By) (by rfl) (by assumption) (by rfl) rfl (by omega) ?_;rintro _ _ _ _ _ ⟨rfl,_,_⟩;refine Ah rfl (A1 (by assumption) rfl)<|AG rfl rfl<|Aa<|Ao rfl (by omega)<|Am<|Ay<|Ab rfl<|AI rfl rfl (by omega) (by omega)<|Ab rfl<|Aa ?_);refine⟨i+1,by omega,⟨rfl,rfl,int_eq (by omega),trivial⟩,rfl,rfl,hc,?_⟩
   rw[ZA hc,ZA hc',ht,show A[i]=B[i] by omega]
  ·have hk:=Wd hl hA hB hc ht (by omega);(refine Ai<|Ac<|Ab rfl<|As rfl<|AA rfl<|Ax rfl rfl<|Aa<|Au rfl (by omega)<|Am<|Ai<|Av<|Ai<|AT<|As rfl<|Ab rfl<|AJ (sz:=1) (R:=By) (by rfl) (by assumption) (by rfl) rfl (by omega) ?_;rintro _ _ _ _ _ ⟨rfl,_,_⟩;refine Ah rfl (A1 (by assumption) rfl)<|As rfl<|Ab rfl<|AJ (sz:=1) (R:=By) (by rfl) (by assumption) (by rfl) rfl (by omega) ?_;rintro _ _ _ _ _ ⟨rfl,_,_⟩;refine Ah rfl (A1 (by assumption) rfl)<|AG rfl rfl<|Aa<|Au rfl (by omega)<|Ai<|AT<|As rfl<|Ab rfl<|AJ (sz:=1) (R:=By) (by rfl) (by assumption) (by rfl) rfl (by omega) ?_;rintro _ _ _ _ _ ⟨rfl,_,_⟩;refine Ah rfl (A1 (by assumption) rfl)<|As rfl<|Ab rfl<|AJ (sz:=1) (R:=By) (by rfl) (by assumption) (by rfl) rfl (by omega) ?_;rintro _ _ _ _ _ ⟨rfl,_,_⟩;refine Ah rfl (A1 (by assumption) rfl)<|AP rfl rfl<|Bt<|Ad rfl<|Aa<|Ar ?_);apply Bf;rfl;simp only[decide_eq_decide];rw[hk,e1,e2];omega
 obtain rfl:i=A.length:=by omega
 have e:A=B:=by
  rw[List.take_length] at ht;rw[ht];exact Z7 (by omega)
 (refine Ai<|Ac<|Ab rfl<|As rfl<|AA rfl<|Ax rfl rfl<|Aa<|Ao rfl (by omega)<|AV<|Ac<|Ad rfl<|Aa<|Ar ?_);apply Bf;rfl;rw[e];simp
def VG(a b:List Nat):ints (a++b)=ints a++ints b:=Acp ..
def GB(D:List Nat)(xe e many:Int):List Nat:=
 ZI (many.toNat - (D++ZI (xe - e).toNat 0).length) 0++(D++ZI (xe - e).toNat 0)
def RL(P:Program)(f:FuncId)(args:List Value)(d:Ag)(l:List Nat):Prop:=A8 P f args d [] (Ret fun r d' L'=>L'=[]∧CL d' r (ints l))
def QP(P:Program)(f:FuncId):Prop:=∀{d}{neg:Bool}{dv}{D:List Nat}{xe e many:Int},CL d dv (ints D)→D.length≤1000→ -1000≤xe→xe≤1000→ -1000≤e→e≤1000→0≤many→many≤10000→
 RL P f [.agg [.bool neg,dv,vZ xe].toArray,vZ e,vZ many] d (GB D xe e many)
def J0:A6:=⟨31,[(.tmp 6)],(sR (o1 3 (.box 0)<|o1 6 (.mv nS) .done) (sR (o1 9 (.bsl 0 1 [(vZ 0)] [])<|oj 10 1 3<|ol 11 10<|o1 12 (.app 1 8 [(vZ 0)] 9 11)<|om 7 12 .done) (.seq (sR (om 13 1<|om 8 13 .done) (.block 0 (.loop (.seq (sR (om 14 8<|oj 15 2 3<|ol 16 15<|ob 17 .lss 14 16 .done) (.cond 17 .skip (.exit 0))) (.seq (.block 1 (rG (om 20 7<|o1 21 (.bsl 1 1 [(vZ 0)] [(0,z0)])<|o1 22 (.app 1 8 [(vZ 0)] 20 21)<|om 7 22 .done))) (rG (om 18 8<|ob 19 .add 18 z1<|om 8 19 .done))))))) (.seq (.block 2 (.loop (.seq (sR (om 23 7<|oL 24 23<|om 25 2<|ob 26 .lss 24 25 .done) (.cond 26 .skip (.exit 2))) (.block 3 (rG (o1 27 (.bsl 1 1 [(vZ 0)] [(0,z0)])<|om 28 7<|o1 29 (.app 1 8 [(vZ 0)] 27 28)<|om 7 29 .done)))))) (sR (om 30 7<|om 6 30 .done) .ret)))))⟩
set_option maxHeartbeats 1000000 in
def Xn(hd:dec P f=some J0):QP P f:=by
 intro d neg dv D xe e many hv hD hx1 hx2 he1 he2 hm1 hm2;refine Bd hd (No rfl) ?_;obtain⟨a,c,rfl⟩:=RSl.val hv;have n1:=Bx D;show gwp P _ _ _ _ _;apply Ai;apply Ay;refine AO (l:=[.bool neg,.slice a (ints D).length c,vZ xe]) rfl (fun b3 T3=>?_);(refine As rfl<|Aa<|Ac ?_);refine DI (cs:=[]) (by omega) rfl (fun b9 T9=>?_);(refine Af rfl<|Ah rfl (Aj 1 rfl rfl) ?_);refine CO (xs:=[]) (ys:=ints D) 0 rfl rfl (AN.Iw (R:=By) (sz:=1)) rfl (RSl.src (R:=By) (xs:=ints D) hv GU (by omega) _) (by omega) (by simp;omega) (by simp;omega) (fun v7 h7 o7=>?_);rw[Z5] at o7;(refine Ew<|Aa<|Ai<|Ac<|Ab rfl<|Ab rfl<|Aa<|Av ?_);refine OB (α:=Nat) (fun k v=>[(2,vZ many),(3,pZ b3),(7,v),(8,vZ (e+k))]) (fun k v h d' L'=>d'=d∧k≤(xe - e).toNat∧AN 1 By d v (ints (D++ZI k 0)) h∧L'=[h,bx b3 T3 [.bool neg,.slice a (ints D).length c,vZ xe]])
   (fun k=>(xe - e).toNat - k) 0 v7 h7 ⟨rfl,rfl,rfl,int_eq (by omega),trivial⟩ ⟨rfl,ZN _,by simpa using o7,rfl⟩ ?_
 clear o7;rintro k v h ρ d' L' ⟨hdd,hk,o,hL⟩;subst hdd;subst hL;have hkl:(ints (D++ZI k 0)).length=D.length+k:=by rw[Bx];simp
 by_cases hc:e+k<xe
 ·(refine Ai<|Ac<|Ab rfl<|Af rfl<|Ah rfl (Aj 1 rfl rfl)<|Ax rfl rfl<|Aa<|Au rfl (by omega)<|Am<|Ai<|Av<|Ay<|Ew ?_);refine E5 (v0:=vZ 0) rfl rfl (fun b21 T21=>?_);refine DH (R:=By) 0 rfl rfl o rfl (AN.D8 (R:=By) (x:=0) rfl ⟨rfl,by omega,by omega⟩) GU (by omega) (by simp;omega) (by simp;omega) (fun v22 h22 o22=>?_);(refine Ew<|Aa<|Ay<|Ab rfl<|AI rfl rfl (by omega) (by omega)<|Ab rfl<|Aa ?_);refine⟨k+1,v22,h22,by omega,⟨rfl,rfl,rfl,int_eq (by omega),trivial⟩,rfl,by omega,?_,rfl⟩
  rw[List.replicate_succ',←Zy,VG];exact o22
 obtain rfl:k=(xe - e).toNat:=by omega
 have wf:GB D xe e many=ZI (many.toNat - (D++ZI (xe - e).toNat 0).length) 0++(D++ZI (xe - e).toNat 0):=rfl;rw[wf];generalize hE:D++ZI (xe - e).toNat 0=E at*;have hEl:E.length≤4000:=by rw[←hE];simp;omega
 clear wf hE hv;(refine Ai<|Ac<|Ab rfl<|Af rfl<|Ah rfl (Aj 1 rfl rfl)<|Ax rfl rfl<|Aa<|Ao rfl (by omega)<|AV<|Ai<|Av ?_);refine OB (α:=Nat) (fun k v=>[(2,vZ many),(7,v)]) (fun k v h d2 L'=>k≤many.toNat - E.length∧AN 1 By d2 v (ints (ZI k 0++E)) h∧L'=[h,bx b3 T3 [.bool neg,.slice a (ints D).length c,vZ xe]]) (fun k=>many.toNat - E.length - k) 0 v h ⟨rfl,rfl,trivial⟩ ⟨ZN _,o,rfl⟩ ?_;clear o hkl hk;rintro k v h ρ d' L' ⟨hk,o,hL⟩;subst hL;obtain⟨a7,c7,rfl⟩:=o.val;have hkl:(ints (ZI k 0++E)).length=k+E.length:=by rw[Bx];simp
 by_cases hc:((ints (ZI k 0++E)).length:Int)<many
 ·(refine Ai<|Ac<|As rfl<|AA rfl<|Ab rfl<|Ax rfl rfl<|Aa<|Au rfl (by omega)<|Am<|Av<|Ay ?_);refine E5 (v0:=vZ 0) rfl rfl (fun b21 T21=>?_);(apply As;rfl);refine YF [1,0,2] rfl ?_;refine BF (fun d2 hl2 hg2=>?_);have r2:=o.rsl CM (by omega) hl2 hg2;refine CO (R:=By) (xs:=[0]) (ys:=ints (ZI k 0++E)) 0 rfl rfl (AN.D8 (R:=By) (x:=0) rfl ⟨rfl,by omega,by omega⟩) rfl (RSl.src r2 GU (by omega) _) (by omega) (by simp;omega) (by simp;omega) (fun v22 h22 o22=>?_);(refine Ew<|Aa ?_);exact⟨k+1,v22,h22,by omega,⟨rfl,rfl,trivial⟩,by omega,o22,rfl⟩
 obtain rfl:k=many.toNat - E.length:=by omega
 (refine Ai<|Ac<|As rfl<|AA rfl<|Ab rfl<|Ax rfl rfl<|Aa<|Ao rfl (by omega)<|AV<|Ac<|As rfl<|As rfl<|Aa<|Ar ?_);refine Iv [_] ⟨rfl,trivial⟩ (fun d2 hl2 hg2=>⟨rfl,o.rsl CM (by omega) hl2 (hg2 _ (ZG ..))⟩)
def Gp{D:List Nat}:val (GB D xe e many)=val D*10 ^(xe - e).toNat:=by
 rw[GB,G6,OI,G6,OI,Aci];simp
def R9{D:List Nat}(h:∀d∈D,d<10):∀d∈GB D xe e many,d<10:=by
 intro d hd;simp only[GB,List.mem_append,List.mem_replicate] at hd;rcases hd with hd|hd|hd
 ·omega
 ·exact h d hd
 ·omega
def Rq{D:List Nat}(h:D.length+(xe - e).toNat≤many.toNat):(GB D xe e many).length=many.toNat:=by
 simp[GB];omega
def Eb(s:Int):Int:=if s>9 then 1 else if s<0 then -1 else 0
def CS(s:Int):Nat:=(if s>9 then s - 10 else if s<0 then s+10 else s).toNat
def DJ(mi:Bool)(a b:Nat)(c:Int):Int:=(if mi then(a:Int) - b else a+b)+c
def Cj(mi:Bool):List Nat→List Nat→List Nat×Int
 |a::A,b::B=>(CS (DJ mi a b (Cj mi A B).2)::(Cj mi A B).1,Eb (DJ mi a b (Cj mi A B).2))
 |_,_=>([],0)
def GH(mi:Bool):∀A B,(Cj mi A B).2= -1∨(Cj mi A B).2=0∨(Cj mi A B).2=1
 |a::A,b::B=>by simp only[Cj,Eb];split<;>(try split)<;>simp
 |[],_=>by simp[Cj]
 |_::_,[]=>by simp[Cj]
def F3(mi:Bool):∀A B,A.length=B.length→(Cj mi A B).1.length=A.length
 |a::A,b::B,h=>by simp only[Cj,ZU];rw[F3 mi A B (by simpa using h)]
 |[],_,_=>by simp[Cj]
 |_::_,[],h=>by simp at h
def HQ(mi:Bool):∀A B,(∀x∈A,x<10)→(∀x∈B,x<10)→∀x∈(Cj mi A B).1,x<10
 |a::A,b::B,hA,hB=>by
  intro x hx;simp only[Cj,ZR] at hx;rcases hx with rfl|hx
  ·have h1:=hA a (ZG ..);have h2:=hB b (ZG ..);have h3:=GH mi A B;simp only[CS,DJ];split<;>split<;>(try split)<;>omega
  ·exact HQ mi A B (fun x hx=>hA x (ZE _ hx)) (fun x hx=>hB x (ZE _ hx)) x hx
 |[],_,_,_=>by simp[Cj]
 |_::_,[],_,_=>by simp[Cj]
def Oj(mi:Bool):∀A B,A.length=B.length→(∀x∈A,x<10)→(∀x∈B,x<10)→
  (val (Cj mi A B).1:Int)+(Cj mi A B).2*(10 ^ A.length:Nat)=if mi then(val A:Int) - val B else val A+val B
 |a::A,b::B,h,hA,hB=>by
  have hl:A.length=B.length:=by simpa using h
  have ih:=Oj mi A B hl (fun x hx=>hA x (ZE _ hx)) (fun x hx=>hB x (ZE _ hx));have h1:=hA a (ZG ..);have h2:=hB b (ZG ..);have h3:=GH mi A B;have hdc:(CS (DJ mi a b (Cj mi A B).2):Int)+10*Eb (DJ mi a b (Cj mi A B).2)=DJ mi a b (Cj mi A B).2:=by
   simp only[CS,Eb,DJ];split<;>split<;>(try split)<;>omega
  simp only[Cj,ZU];rw[EA,EA,EA,F3 mi A B hl,←hl,Ach];generalize (Cj mi A B).2=c at*;generalize val (Cj mi A B).1=w at*;generalize CS (DJ mi a b c)=g at*;generalize Eb (DJ mi a b c)=k at*;generalize (10 ^ A.length:Nat)=p at*;simp only[Int.natCast_add,Aam,DJ] at*;have e1:(g:Int)*p+10*(k*p)=(if mi then(a:Int)*p - b*p else a*p+b*p)+c*p:=by
   have:=congrArg (·*(p:Int)) hdc;simp only[Int.add_mul,Acr] at this;rw[this];cases mi<;>simp[Int.sub_mul,Int.add_mul]
  have e2:k*((p:Int)*((10:Nat):Int))=10*(k*p):=by rw[Int.mul_comm (p:Int),Int.mul_left_comm];rfl
  rw[e2];cases mi<;>simp only[ZX,if_false,if_true] at ih e1⊢<;>omega
 |[],[],_,_,_=>by cases mi<;>simp[Cj,val]
 |[],_::_,h,_,_=>by simp at h
 |_::_,[],h,_,_=>by simp at h
def D6(l:List Nat):List Value:=l.map fun(n:Nat)=>vZ n
def Td(l:List Nat):D6 l=(ints l).map (Value.int .i64):=by simp[D6,ints]
def V8(n:Nat):BC [vZ 0] (n*1)=D6 (ZI n 0):=by
 rw[Abw,BC,D6];apply List.ext_getElem
 ·simp
 ·intro i h1 h2;simp[Nat.mod_one]
def U7{α:Type}(l m:List Value)(x v:Value):patch (l++x::m) l.length [v]=l++v::m:=by
 simp[patch,List.drop_append]
def F5{k:Nat}{l:List Nat}{n:Nat}:patch (D6 (ZI (k+1) 0++l)) k [vZ n]=D6 (ZI k 0++n::l):=by
 rw[List.replicate_succ',Zy,D6,D6,Acp,Acp];have:=U7 (α:=Unit) ((ZI k 0).map fun(n:Nat)=>Value.int .i64 n) (l.map fun(n:Nat)=>Value.int .i64 n) (vZ (0:Nat)) (vZ n);simpa using this
def Rr{s x:Int}(e:s=x)(h:x>9):x - 10=(CS s:Nat)∧Eb s=1:=by subst e;rw[CS,Eb,if_pos h,if_pos h];omega
def Q4{s x:Int}(e:s=x)(h:x<0)(h2: -10≤x):x+10=(CS s:Nat)∧Eb s= -1:=by subst e;rw[CS,Eb,if_neg (by omega),if_pos h,if_neg (by omega),if_pos h];omega
def Pf{s x:Int}(e:s=x)(h:¬x>9)(h2:¬x<0):x=(CS s:Nat)∧Eb s=0:=by subst e;rw[CS,Eb,if_neg h,if_neg h2,if_neg h,if_neg h2];omega
def NS(P:Program)(f:FuncId):Prop:=∀{d v w}{A B:List Nat}{mi:Bool},CL d v (ints A)→CL d w (ints B)→A.length=B.length→(∀x∈A,x<10)→(∀x∈B,x<10)→A.length≤1000000→RL P f [v,w,.bool mi] d (Cj mi A B).1
def Jf:A6:=⟨57,[(.tmp 6)],(sR (o1 6 (.mv nS) .done) (sR (om 11 0<|oL 12 11<|o1 13 (.mks 1 8 [(vZ 0)] 12 12)<|om 7 13 .done) (sR (o1 8 (.mv z0) .done) (.seq (sR (om 14 0<|oL 15 14<|ob 16 .sub 15 z1<|om 9 16 .done) (.block 0 (.loop (.seq (sR (om 17 9<|ob 18 .geq 17 z0 .done) (.cond 18 .skip (.exit 0))) (.seq (.block 1 (.seq (.reg true (pm 21 0<|pm 22 9<|p1 23 (.idx 1 21 22)<|pl 24 23<|pm 25 1<|pm 26 9<|p1 27 (.idx 1 25 26)<|pl 28 27<|p1 29 (.bin .add 24 28)<|pm 30 8<|p1 31 (.bin .add 29 30) (.bar (pm 10 31 .done)))) (.seq (sR (om 32 2 .done) (.cond 32 (.reg true (pm 33 0<|pm 34 9<|p1 35 (.idx 1 33 34)<|pl 36 35<|pm 37 1<|pm 38 9<|p1 39 (.idx 1 37 38)<|pl 40 39<|p1 41 (.bin .sub 36 40)<|pm 42 8<|p1 43 (.bin .add 41 42) (.bar (pm 10 43 .done)))) .skip)) (sR (o1 8 (.mv z0) .done) (.seq (sR (om 44 10<|ob 45 .gtr 44 (kZ 9) .done) (.cond 45 (sR (om 46 10<|ob 47 .sub 46 (kZ 10)<|om 10 47 .done) (rG (o1 8 (.mv z1) .done))) .skip)) (.seq (sR (om 48 10<|ob 49 .lss 48 z0 .done) (.cond 49 (sR (om 50 10<|ob 51 .add 50 (kZ 10)<|om 10 51 .done) (rG (o1 8 (.mv (kZ (-1))) .done))) .skip)) (rG (om 52 7<|om 53 9<|om 54 10<|oI 55 1 52 53<|o0 (.st 1 55 54) .done)))))))) (rG (om 19 9<|ob 20 .sub 19 z1<|om 9 20 .done))))))) (sR (om 56 7<|om 6 56 .done) .ret)))))⟩
set_option maxHeartbeats 1000000 in
def V4(hd:dec P f=some Jf):NS P f:=by
 intro d v w A B mi hv hw hl hA hB hn;refine Bd hd (No rfl) ?_;obtain⟨a,c,rfl⟩:=RSl.val hv;obtain⟨a',c',rfl⟩:=RSl.val hw;rw[Bx] at hv hw;rw[Bx,Bx];have q1:RSl 1 By d (.slice a A.length c) (ints A):=hv;have q2:RSl 1 By d (.slice a' B.length c') (ints B):=hw;have n1:=Bx A;have n2:=Bx B;show gwp P _ _ _ _ _;(refine Ac<|As rfl<|Aa<|Ac<|As rfl<|AA rfl ?_);refine Io (n:=A.length) (c:=A.length) rfl rfl (ZL _) (by omega) (by omega) (fun b7 T7=>?_);rw[V8];(refine As rfl<|Aa<|Ac<|Ab rfl<|Aa<|Ai<|Ac<|As rfl<|AA rfl<|Bn rfl rfl (by omega) (by omega)<|Ab rfl<|Aa<|Av ?_);refine Bg (α:=Nat) (fun k=>[(0,.slice a A.length c),(1,.slice a' B.length c'),(2,.bool mi),(7,.slice (some ⟨b7,0,none⟩) A.length A.length),(8,vZ (Cj mi (A.drop k) (B.drop k)).2),(9,vZ ((k:Int) - 1))])
  (fun k d' L'=>d'=d∧k≤A.length∧L'=[bx b7 T7 (D6 (ZI k 0++(Cj mi (A.drop k) (B.drop k)).1))]) (fun k=>k) A.length
  ⟨rfl,rfl,rfl,rfl,by rw[Aag];rfl,rfl,trivial⟩ ⟨rfl,ZL _,by rw[Aag];simp[Cj]⟩ ?_
 rintro k ρ d' L' ⟨hdd,hk,hL⟩;subst hdd;subst hL;cases k with
 |zero=>
  (refine Ai<|Ac<|Ab rfl<|B5 rfl rfl<|Aa<|Ao rfl (by omega)<|AV<|Ac<|As rfl<|As rfl<|Aa<|Ar ?_)
  have hfin:(Cj mi A B).1.length=A.length:=F3 mi A B hl
  refine Iv [_] ⟨rfl,trivial⟩ (fun d2 hl2 hg2=>⟨rfl,?_⟩)
  have hlt:=HQ mi A B hA hB
  have o:AN 1 By d2 (.slice (some ⟨b7,0,none⟩) A.length A.length) (ints (Cj mi A B).1) (bx b7 T7 (D6 (Cj mi A B).1)):=AN.Zv (Td _) (fun x hx=>by
   obtain⟨y,hy,rfl⟩:=Abq.1 hx;have:=hlt y hy;show -9223372036854775808≤(y:Int)∧(y:Int)≤9223372036854775807;omega) (by rw[Bx,hfin]) (by rw[Bx,hfin];omega)
  exact o.rsl CM (by omega) (Le.refl _) (hg2 _ (ZG ..))
 |succ k=>
  have hk1:k<A.length:=by omega
  have hk2:k<B.length:=by omega
  have e1:=ints_at A (i:=k) (by omega)
  have e2:=ints_at B (i:=k) (by omega)
  have a1:=hA _ (ZC hk1)
  have a2:=hB _ (ZC hk2)
  have hcr:=GH mi (A.drop (k+1)) (B.drop (k+1))
  have hst:Cj mi (A.drop k) (B.drop k)=(CS (DJ mi A[k] B[k] (Cj mi (A.drop (k+1)) (B.drop (k+1))).2)::(Cj mi (A.drop (k+1)) (B.drop (k+1))).1,Eb (DJ mi A[k] B[k] (Cj mi (A.drop (k+1)) (B.drop (k+1))).2)):=by
   rw[ZT hk1,ZT hk2];rfl
  have hT:∀x,Cj mi (A.drop (k+1)) (B.drop (k+1))=x→True:=fun _ _=>trivial
  generalize hTT:Cj mi (A.drop (k+1)) (B.drop (k+1))=T at*
  obtain⟨Tl,Tc⟩:=T
  simp only at hcr hst⊢
  have hbl:(D6 (ZI (k+1) 0++Tl)).length=k+1+Tl.length:=by simp[D6]
  have hk9:((k+1:Nat):Int) - 1=(k:Int):=by omega
  rw[hk9]
  cases mi with
  |false=>
   by_cases h9:(ints A)[k]'(by omega)+(ints B)[k]'(by omega)+Tc>9
   ·obtain⟨hdg,hcg⟩:=Rr (show DJ false A[k] B[k] Tc=(ints A)[k]'(by omega)+(ints B)[k]'(by omega)+Tc from by rw[e1,e2];rfl) h9
    (refine Ai<|Ac<|Ab rfl<|B5 rfl rfl<|Aa<|Au rfl (by omega)<|Am<|Ai<|Av<|Ai<|AT<|As rfl<|Ab rfl<|AJ (sz:=1) (R:=By) (by rfl) (by assumption) (by rfl) rfl (by omega) ?_;rintro _ _ _ _ _ ⟨rfl,_,_⟩;refine Ah rfl (A1 (by assumption) rfl)<|As rfl<|Ab rfl<|AJ (sz:=1) (R:=By) (by rfl) (by assumption) (by rfl) rfl (by omega) ?_;rintro _ _ _ _ _ ⟨rfl,_,_⟩;refine Ah rfl (A1 (by assumption) rfl)<|AI rfl rfl (by omega) (by omega)<|Ab rfl<|AI rfl rfl (by omega) (by omega)<|Bt<|Ab rfl<|Aa<|Ai<|Ac<|Ad rfl<|Aa<|AK rfl<|Am<|Ac<|Ab rfl<|Aa<|Ai<|Ac<|Ab rfl<|AP rfl rfl<|Aa<|Au rfl (by omega)<|Ac<|Ab rfl<|Bn rfl rfl (by omega) (by omega)<|Ab rfl<|Aa<|Ay<|Ab rfl<|Aa<|Ai<|Ac<|Ab rfl<|Ax rfl rfl<|Aa<|Ao rfl (by omega)<|Am<|Ay<|As rfl<|Ab rfl<|Ab rfl ?_)
    refine IX k rfl rfl (by omega) hk1 ?_
    refine Az 0 (D6 (ZI k 0++CS (DJ false A[k] B[k] Tc)::Tl)) rfl rfl rfl rfl (by rw[hbl];show k+1≤_;omega) rfl ?_ ?_
    ·rw[←F5]
     show patch _ k [_]=_
     congr 3;exact congrArg _ hdg
    (refine Aa<|Ay<|Ab rfl<|Bn rfl rfl (by omega) (by omega)<|Ab rfl<|Aa ?_)
    refine⟨k,by omega,⟨rfl,rfl,rfl,rfl,?_,int_eq (by omega),trivial⟩,rfl,by omega,?_⟩
    ·rw[hst];exact int_eq hcg.symm
    ·rw[hst];rfl
   by_cases h0:(ints A)[k]'(by omega)+(ints B)[k]'(by omega)+Tc<0
   ·obtain⟨hdg,hcg⟩:=Q4 (show DJ false A[k] B[k] Tc=(ints A)[k]'(by omega)+(ints B)[k]'(by omega)+Tc from by rw[e1,e2];rfl) h0 (by omega)
    (refine Ai<|Ac<|Ab rfl<|B5 rfl rfl<|Aa<|Au rfl (by omega)<|Am<|Ai<|Av<|Ai<|AT<|As rfl<|Ab rfl<|AJ (sz:=1) (R:=By) (by rfl) (by assumption) (by rfl) rfl (by omega) ?_;rintro _ _ _ _ _ ⟨rfl,_,_⟩;refine Ah rfl (A1 (by assumption) rfl)<|As rfl<|Ab rfl<|AJ (sz:=1) (R:=By) (by rfl) (by assumption) (by rfl) rfl (by omega) ?_;rintro _ _ _ _ _ ⟨rfl,_,_⟩;refine Ah rfl (A1 (by assumption) rfl)<|AI rfl rfl (by omega) (by omega)<|Ab rfl<|AI rfl rfl (by omega) (by omega)<|Bt<|Ab rfl<|Aa<|Ai<|Ac<|Ad rfl<|Aa<|AK rfl<|Am<|Ac<|Ab rfl<|Aa<|Ai<|Ac<|Ab rfl<|AP rfl rfl<|Aa<|Ao rfl (by omega)<|Am<|Ai<|Ac<|Ab rfl<|Ax rfl rfl<|Aa<|Au rfl (by omega)<|Ac<|Ab rfl<|AI rfl rfl (by omega) (by omega)<|Ab rfl<|Aa<|Ay<|Ab rfl<|Aa<|Ay<|As rfl<|Ab rfl<|Ab rfl ?_)
    refine IX k rfl rfl (by omega) hk1 ?_
    refine Az 0 (D6 (ZI k 0++CS (DJ false A[k] B[k] Tc)::Tl)) rfl rfl rfl rfl (by rw[hbl];show k+1≤_;omega) rfl ?_ ?_
    ·rw[←F5]
     show patch _ k [_]=_
     congr 3;exact congrArg _ hdg
    (refine Aa<|Ay<|Ab rfl<|Bn rfl rfl (by omega) (by omega)<|Ab rfl<|Aa ?_)
    refine⟨k,by omega,⟨rfl,rfl,rfl,rfl,?_,int_eq (by omega),trivial⟩,rfl,by omega,?_⟩
    ·rw[hst];exact int_eq hcg.symm
    ·rw[hst];rfl
   ·obtain⟨hdg,hcg⟩:=Pf (show DJ false A[k] B[k] Tc=(ints A)[k]'(by omega)+(ints B)[k]'(by omega)+Tc from by rw[e1,e2];rfl) h9 h0
    (refine Ai<|Ac<|Ab rfl<|B5 rfl rfl<|Aa<|Au rfl (by omega)<|Am<|Ai<|Av<|Ai<|AT<|As rfl<|Ab rfl<|AJ (sz:=1) (R:=By) (by rfl) (by assumption) (by rfl) rfl (by omega) ?_;rintro _ _ _ _ _ ⟨rfl,_,_⟩;refine Ah rfl (A1 (by assumption) rfl)<|As rfl<|Ab rfl<|AJ (sz:=1) (R:=By) (by rfl) (by assumption) (by rfl) rfl (by omega) ?_;rintro _ _ _ _ _ ⟨rfl,_,_⟩;refine Ah rfl (A1 (by assumption) rfl)<|AI rfl rfl (by omega) (by omega)<|Ab rfl<|AI rfl rfl (by omega) (by omega)<|Bt<|Ab rfl<|Aa<|Ai<|Ac<|Ad rfl<|Aa<|AK rfl<|Am<|Ac<|Ab rfl<|Aa<|Ai<|Ac<|Ab rfl<|AP rfl rfl<|Aa<|Ao rfl (by omega)<|Am<|Ai<|Ac<|Ab rfl<|Ax rfl rfl<|Aa<|Ao rfl (by omega)<|Am<|Ay<|As rfl<|Ab rfl<|Ab rfl ?_)
    refine IX k rfl rfl (by omega) hk1 ?_
    refine Az 0 (D6 (ZI k 0++CS (DJ false A[k] B[k] Tc)::Tl)) rfl rfl rfl rfl (by rw[hbl];show k+1≤_;omega) rfl ?_ ?_
    ·rw[←F5]
     show patch _ k [_]=_
     congr 3;exact congrArg _ hdg
    (refine Aa<|Ay<|Ab rfl<|Bn rfl rfl (by omega) (by omega)<|Ab rfl<|Aa ?_)
    refine⟨k,by omega,⟨rfl,rfl,rfl,rfl,?_,int_eq (by omega),trivial⟩,rfl,by omega,?_⟩
    ·rw[hst];exact int_eq hcg.symm
    ·rw[hst];rfl
  |true=>
   by_cases h9:(ints A)[k]'(by omega) - (ints B)[k]'(by omega)+Tc>9
   ·obtain⟨hdg,hcg⟩:=Rr (show DJ true A[k] B[k] Tc=(ints A)[k]'(by omega) - (ints B)[k]'(by omega)+Tc from by rw[e1,e2];rfl) h9
    (refine Ai<|Ac<|Ab rfl<|B5 rfl rfl<|Aa<|Au rfl (by omega)<|Am<|Ai<|Av<|Ai<|AT<|As rfl<|Ab rfl<|AJ (sz:=1) (R:=By) (by rfl) (by assumption) (by rfl) rfl (by omega) ?_;rintro _ _ _ _ _ ⟨rfl,_,_⟩;refine Ah rfl (A1 (by assumption) rfl)<|As rfl<|Ab rfl<|AJ (sz:=1) (R:=By) (by rfl) (by assumption) (by rfl) rfl (by omega) ?_;rintro _ _ _ _ _ ⟨rfl,_,_⟩;refine Ah rfl (A1 (by assumption) rfl)<|AI rfl rfl (by omega) (by omega)<|Ab rfl<|AI rfl rfl (by omega) (by omega)<|Bt<|Ab rfl<|Aa<|Ai<|Ac<|Ad rfl<|Aa<|Bb rfl<|AT<|As rfl<|Ab rfl<|AJ (sz:=1) (R:=By) (by rfl) (by assumption) (by rfl) rfl (by omega) ?_;rintro _ _ _ _ _ ⟨rfl,_,_⟩;refine Ah rfl (A1 (by assumption) rfl)<|As rfl<|Ab rfl<|AJ (sz:=1) (R:=By) (by rfl) (by assumption) (by rfl) rfl (by omega) ?_;rintro _ _ _ _ _ ⟨rfl,_,_⟩;refine Ah rfl (A1 (by assumption) rfl)<|Bn rfl rfl (by omega) (by omega)<|Ab rfl<|AI rfl rfl (by omega) (by omega)<|Bt<|Ab rfl<|Aa<|Ac<|Ab rfl<|Aa<|Ai<|Ac<|Ab rfl<|AP rfl rfl<|Aa<|Au rfl (by omega)<|Ac<|Ab rfl<|Bn rfl rfl (by omega) (by omega)<|Ab rfl<|Aa<|Ay<|Ab rfl<|Aa<|Ai<|Ac<|Ab rfl<|Ax rfl rfl<|Aa<|Ao rfl (by omega)<|Am<|Ay<|As rfl<|Ab rfl<|Ab rfl ?_)
    refine IX k rfl rfl (by omega) hk1 ?_
    refine Az 0 (D6 (ZI k 0++CS (DJ true A[k] B[k] Tc)::Tl)) rfl rfl rfl rfl (by rw[hbl];show k+1≤_;omega) rfl ?_ ?_
    ·rw[←F5]
     show patch _ k [_]=_
     congr 3;exact congrArg _ hdg
    (refine Aa<|Ay<|Ab rfl<|Bn rfl rfl (by omega) (by omega)<|Ab rfl<|Aa ?_)
    refine⟨k,by omega,⟨rfl,rfl,rfl,rfl,?_,int_eq (by omega),trivial⟩,rfl,by omega,?_⟩
    ·rw[hst];exact int_eq hcg.symm
    ·rw[hst];rfl
   by_cases h0:(ints A)[k]'(by omega) - (ints B)[k]'(by omega)+Tc<0
   ·obtain⟨hdg,hcg⟩:=Q4 (show DJ true A[k] B[k] Tc=(ints A)[k]'(by omega) - (ints B)[k]'(by omega)+Tc from by rw[e1,e2];rfl) h0 (by omega)
    (refine Ai<|Ac<|Ab rfl<|B5 rfl rfl<|Aa<|Au rfl (by omega)<|Am<|Ai<|Av<|Ai<|AT<|As rfl<|Ab rfl<|AJ (sz:=1) (R:=By) (by rfl) (by assumption) (by rfl) rfl (by omega) ?_;rintro _ _ _ _ _ ⟨rfl,_,_⟩;refine Ah rfl (A1 (by assumption) rfl)<|As rfl<|Ab rfl<|AJ (sz:=1) (R:=By) (by rfl) (by assumption) (by rfl) rfl (by omega) ?_;rintro _ _ _ _ _ ⟨rfl,_,_⟩;refine Ah rfl (A1 (by assumption) rfl)<|AI rfl rfl (by omega) (by omega)<|Ab rfl<|AI rfl rfl (by omega) (by omega)<|Bt<|Ab rfl<|Aa<|Ai<|Ac<|Ad rfl<|Aa<|Bb rfl<|AT<|As rfl<|Ab rfl<|AJ (sz:=1) (R:=By) (by rfl) (by assumption) (by rfl) rfl (by omega) ?_;rintro _ _ _ _ _ ⟨rfl,_,_⟩;refine Ah rfl (A1 (by assumption) rfl)<|As rfl<|Ab rfl<|AJ (sz:=1) (R:=By) (by rfl) (by assumption) (by rfl) rfl (by omega) ?_;rintro _ _ _ _ _ ⟨rfl,_,_⟩;refine Ah rfl (A1 (by assumption) rfl)<|Bn rfl rfl (by omega) (by omega)<|Ab rfl<|AI rfl rfl (by omega) (by omega)<|Bt<|Ab rfl<|Aa<|Ac<|Ab rfl<|Aa<|Ai<|Ac<|Ab rfl<|AP rfl rfl<|Aa<|Ao rfl (by omega)<|Am<|Ai<|Ac<|Ab rfl<|Ax rfl rfl<|Aa<|Au rfl (by omega)<|Ac<|Ab rfl<|AI rfl rfl (by omega) (by omega)<|Ab rfl<|Aa<|Ay<|Ab rfl<|Aa<|Ay<|As rfl<|Ab rfl<|Ab rfl ?_)
    refine IX k rfl rfl (by omega) hk1 ?_
    refine Az 0 (D6 (ZI k 0++CS (DJ true A[k] B[k] Tc)::Tl)) rfl rfl rfl rfl (by rw[hbl];show k+1≤_;omega) rfl ?_ ?_
    ·rw[←F5]
     show patch _ k [_]=_
     congr 3;exact congrArg _ hdg
    (refine Aa<|Ay<|Ab rfl<|Bn rfl rfl (by omega) (by omega)<|Ab rfl<|Aa ?_)
    refine⟨k,by omega,⟨rfl,rfl,rfl,rfl,?_,int_eq (by omega),trivial⟩,rfl,by omega,?_⟩
    ·rw[hst];exact int_eq hcg.symm
    ·rw[hst];rfl
   ·obtain⟨hdg,hcg⟩:=Pf (show DJ true A[k] B[k] Tc=(ints A)[k]'(by omega) - (ints B)[k]'(by omega)+Tc from by rw[e1,e2];rfl) h9 h0
    (refine Ai<|Ac<|Ab rfl<|B5 rfl rfl<|Aa<|Au rfl (by omega)<|Am<|Ai<|Av<|Ai<|AT<|As rfl<|Ab rfl<|AJ (sz:=1) (R:=By) (by rfl) (by assumption) (by rfl) rfl (by omega) ?_;rintro _ _ _ _ _ ⟨rfl,_,_⟩;refine Ah rfl (A1 (by assumption) rfl)<|As rfl<|Ab rfl<|AJ (sz:=1) (R:=By) (by rfl) (by assumption) (by rfl) rfl (by omega) ?_;rintro _ _ _ _ _ ⟨rfl,_,_⟩;refine Ah rfl (A1 (by assumption) rfl)<|AI rfl rfl (by omega) (by omega)<|Ab rfl<|AI rfl rfl (by omega) (by omega)<|Bt<|Ab rfl<|Aa<|Ai<|Ac<|Ad rfl<|Aa<|Bb rfl<|AT<|As rfl<|Ab rfl<|AJ (sz:=1) (R:=By) (by rfl) (by assumption) (by rfl) rfl (by omega) ?_;rintro _ _ _ _ _ ⟨rfl,_,_⟩;refine Ah rfl (A1 (by assumption) rfl)<|As rfl<|Ab rfl<|AJ (sz:=1) (R:=By) (by rfl) (by assumption) (by rfl) rfl (by omega) ?_;rintro _ _ _ _ _ ⟨rfl,_,_⟩;refine Ah rfl (A1 (by assumption) rfl)<|Bn rfl rfl (by omega) (by omega)<|Ab rfl<|AI rfl rfl (by omega) (by omega)<|Bt<|Ab rfl<|Aa<|Ac<|Ab rfl<|Aa<|Ai<|Ac<|Ab rfl<|AP rfl rfl<|Aa<|Ao rfl (by omega)<|Am<|Ai<|Ac<|Ab rfl<|Ax rfl rfl<|Aa<|Ao rfl (by omega)<|Am<|Ay<|As rfl<|Ab rfl<|Ab rfl ?_)
    refine IX k rfl rfl (by omega) hk1 ?_
    refine Az 0 (D6 (ZI k 0++CS (DJ true A[k] B[k] Tc)::Tl)) rfl rfl rfl rfl (by rw[hbl];show k+1≤_;omega) rfl ?_ ?_
    ·rw[←F5]
     show patch _ k [_]=_
     congr 3;exact congrArg _ hdg
    (refine Aa<|Ay<|Ab rfl<|Bn rfl rfl (by omega) (by omega)<|Ab rfl<|Aa ?_)
    refine⟨k,by omega,⟨rfl,rfl,rfl,rfl,?_,int_eq (by omega),trivial⟩,rfl,by omega,?_⟩
    ·rw[hst];exact int_eq hcg.symm
    ·rw[hst];rfl
def LC(D1:List Nat)(e1:Int)(D2:List Nat)(e2:Int)(X Y:List Nat):Prop:=
 X.length=Y.length∧X.length≤2000∧(∀d∈X,d<10)∧(∀d∈Y,d<10)∧val X*10<10 ^ X.length∧val Y*10<10 ^ X.length∧
 BQ (val X) (val Y)=Cn (val D1) e1 (val D2) e2∧(val X=0↔val D1=0)∧(val Y=0↔val D2=0)
def Sy{m:Int}:Cn 0 e1 m e2=BQ 0 m:=by
 rw[Ho (.inr rfl),VD];rcases Aav m 0 with h|h|h
 ·rw[Di h,CT h,CT (by omega)]
 ·subst h;rfl
 ·rw[F6 h,C1 h,C1 (by omega)]
def XS{m:Int}:Cn m e1 0 e2=BQ m 0:=by rw[OF,Sy,←GJ]
def Us{D:List Nat}(hD:∀d∈D,d<10)(h:1+D.length+(xe - e).toNat≤many.toNat):val D*10 ^(xe - e).toNat*10<10 ^ many.toNat:=by
 have h1:=EK hD;have h2:val D*10 ^((xe - e).toNat+1)<10 ^ D.length*10 ^((xe - e).toNat+1):=Ada h1 (Acm (by omega));rw[←Nat.pow_add] at h2;have h3:10 ^(D.length+((xe - e).toNat+1))≤10 ^ many.toNat:=Acn (by omega) (by omega);rw[Nat.mul_assoc,←Ach,Nat.succ_eq_add_one];omega
def KA{a n:Nat}:a*10 ^ n=0↔a=0:=by
 rw[Nat.mul_eq_zero];have:=Acm (n:=n) (show 0<10 by omega);omega
def Hu{ye:Int}(h1:∀d∈D1,d<10)(h2:∀d∈D2,d<10)(hx:D1=[]∨xe=e1)(hy:D2=[]∨ye=e2)(q1:e≤xe)(q2:e≤ye)
  (m1:1+D1.length+(xe - e)≤many) (m2:1+D2.length+(ye - e)≤many) (hm:many≤2000):LC D1 e1 D2 e2 (GB D1 xe e many) (GB D2 ye e many):=by
 have l1:=Rq (D:=D1) (xe:=xe) (e:=e) (many:=many) (by omega)
 have l2:=Rq (D:=D2) (xe:=ye) (e:=e) (many:=many) (by omega)
 refine⟨by rw[l1,l2],by rw[l1];omega,R9 h1,R9 h2,?_,?_,?_,?_,?_⟩
 ·rw[l1,Gp];exact Us h1 (by omega)
 ·rw[l1,Gp];exact Us h2 (by omega)
 ·rw[Gp,Gp]
  rcases hx with rfl|rfl
  ·rw[Od,Acf]
   show BQ 0 _=Cn 0 _ _ _
   rw[Sy]
   have:=Acm (n:=(ye - e).toNat) (show 0<10 by omega)
   have:=Mh 0 (val D2) this
   rw[Aam,←this,Int.zero_mul]
  ·rcases hy with rfl|rfl
   ·rw[Od,Acf]
    show BQ _ 0=Cn _ _ 0 _
    rw[XS]
    have:=Acm (n:=(xe - e).toNat) (show 0<10 by omega)
    have:=Mh (val D1) 0 this
    rw[Aam,←this,Int.zero_mul]
   ·rw[←Lh _ _ _ _ e q1 q2,Aam,Aam]
 ·rw[Gp,KA]
 ·rw[Gp,KA]
def QZ(P:Program)(f:FuncId):Prop:=∀{d}{na nb:Bool}{v w}{D1 D2:List Nat}{e1 e2:Int},CL d v (ints D1)→CL d w (ints D2)→D1.length≤100→D2.length≤100→(∀x∈D1,x<10)→(∀x∈D2,x<10)→
 -100≤e1→e1≤100→ -100≤e2→e2≤100→
 A8 P f [.agg [.bool na,v,vZ e1].toArray,.agg [.bool nb,w,vZ e2].toArray] d [] (Ret fun r d' L'=>L'=[]∧∃x y X Y,∃e:Int,r=.tuple #[x,y,vZ e]∧CL d' x (ints X)∧CL d' y (ints Y)∧LC D1 e1 D2 e2 X Y)
def J7(a0 a1:Nat):A6:=⟨76,[(.tmp 4),(.tmp 5),(.tmp 6)],(sR (o1 2 (.box 0)<|o1 3 (.box 1)<|o1 4 (.mv nS)<|o1 5 (.mv nS)<|o1 6 (.mv z0) .done) (sR (oj 9 2 2<|ol 10 9<|oj 11 2 3<|ol 12 11<|oc 13 a0 [10,12]<|om 7 13 .done) (.seq (sR (oj 14 1 2<|ol 15 14<|oL 16 15<|ob 17 .eql 16 z0 .done) (.cond 17 (rG (oj 18 2 3<|ol 19 18<|om 7 19 .done)) .skip)) (.seq (sR (oj 20 1 3<|ol 21 20<|oL 22 21<|ob 23 .eql 22 z0 .done) (.cond 23 (rG (oj 24 2 2<|ol 25 24<|om 7 25 .done)) .skip)) (.seq (sR (oj 26 1 2<|ol 27 26<|oL 28 27<|ob 29 .eql 28 z0 .done) (.cond 29 (rG (om 30 7<|oj 31 2 2<|o0 (.st 1 31 30) .done)) .skip)) (.seq (sR (oj 32 1 3<|ol 33 32<|oL 34 33<|ob 35 .eql 34 z0 .done) (.cond 35 (rG (om 36 7<|oj 37 2 3<|o0 (.st 1 37 36) .done)) .skip)) (sR (oj 38 1 2<|ol 39 38<|oL 40 39<|ob 41 .add z1 40<|oj 42 2 2<|ol 43 42<|ob 44 .add 41 43<|om 45 7<|ob 46 .sub 44 45<|om 8 46 .done) (.seq (sR (oj 47 1 3<|ol 48 47<|oL 49 48<|ob 50 .add z1 49<|oj 51 2 3<|ol 52 51<|ob 53 .add 50 52<|om 54 7<|ob 55 .sub 53 54<|om 56 8<|ob 57 .gtr 55 56 .done) (.cond 57 (rG (oj 58 1 3<|ol 59 58<|oL 60 59<|ob 61 .add z1 60<|oj 62 2 3<|ol 63 62<|ob 64 .add 61 63<|om 65 7<|ob 66 .sub 64 65<|om 8 66 .done)) .skip)) (.seq (.reg true (p1 67 (.ld (some 3) 2)<|pm 68 7<|pm 69 8<|p1 71 (.ld (some 3) 3)<|pm 72 7<|pm 73 8<|pm 75 7<|oc 70 a1 [67,68,69]<|oc 74 a1 [71,72,73]<|pm 4 70<|pm 5 74<|pm 6 75 .done)) .ret)))))))))⟩
set_option maxHeartbeats 1000000 in
def XA(hd:dec P f=some (J7 f1 f2))(h1:Mi P f1)(h2:QP P f2):QZ P f:=by
 intro d na nb v w D1 D2 e1 e2 hv hw n1 n2 b1 b2 p1 p2 p3 p4;refine Bd hd (No rfl) ?_;obtain⟨a,c,rfl⟩:=RSl.val hv;obtain⟨a',c',rfl⟩:=RSl.val hw;rw[Bx] at hv hw;rw[Bx,Bx];show gwp P _ _ _ _ _;apply Ai;apply Ay;refine AO (l:=[.bool na,.slice a D1.length c,vZ e1]) rfl (fun t2 T2=>?_);refine AO (l:=[.bool nb,.slice a' D2.length c',vZ e2]) rfl (fun t3 T3=>?_);(refine As rfl<|As rfl<|Ab rfl<|Aa<|Ac<|Af rfl<|Ah rfl (Aj 1 rfl rfl)<|Af rfl<|Ah rfl (Aj 0 rfl rfl) ?_);refine AF rfl h1 ?_;by_cases z1:D1.length=0
 ·by_cases z2:D2.length=0
  ·(refine Ab rfl<|Aa<|Ai<|Ac<|Af rfl<|Ah rfl (Aj 1 rfl rfl)<|AA rfl<|Aq rfl rfl<|Aa<|Au rfl (by omega)<|Ay<|Af rfl<|Ah rfl (Aj 0 rfl rfl)<|Ab rfl<|Aa<|Ai<|Ac<|Af rfl<|Ah rfl (Aj 0 rfl rfl)<|AA rfl<|Aq rfl rfl<|Aa<|Au rfl (by omega)<|Ay<|Af rfl<|Ah rfl (Aj 1 rfl rfl)<|Ab rfl<|Aa<|Ai<|Ac<|Af rfl<|Ah rfl (Aj 1 rfl rfl)<|AA rfl<|Aq rfl rfl<|Aa<|Au rfl (by omega)<|Ay<|Ab rfl<|Af rfl ?_);refine Az 1 [.bool na,.slice a D1.length c,vZ e1] rfl rfl rfl rfl (No rfl) rfl rfl ?_;(refine Aa<|Ai<|Ac<|Af rfl<|Ah rfl (Aj 0 rfl rfl)<|AA rfl<|Aq rfl rfl<|Aa<|Au rfl (by omega)<|Ay<|Ab rfl<|Af rfl ?_);refine Az 0 [.bool nb,.slice a' D2.length c',vZ e1] rfl rfl rfl rfl (No rfl) rfl rfl ?_;(refine Aa<|Ac<|Af rfl<|Ah rfl (Aj 1 rfl rfl)<|AA rfl<|AI rfl rfl (by omega) (by omega)<|Af rfl<|Ah rfl (Aj 1 rfl rfl)<|AI rfl rfl (by omega) (by omega)<|Ab rfl<|Bn rfl rfl (by omega) (by omega)<|Ab rfl<|Aa<|Ai<|Ac<|Af rfl<|Ah rfl (Aj 0 rfl rfl)<|AA rfl<|AI rfl rfl (by omega) (by omega)<|Af rfl<|Ah rfl (Aj 0 rfl rfl)<|AI rfl rfl (by omega) (by omega)<|Ab rfl<|Bn rfl rfl (by omega) (by omega)<|Ab rfl<|AP rfl rfl<|Aa<|Ao rfl (by omega)<|Am<|Ai<|AT<|AD 1 rfl rfl rfl<|Ab rfl<|Ab rfl<|AD 0 rfl rfl rfl<|Ab rfl<|Ab rfl<|Ab rfl ?_);refine AR rfl (h2 (neg:=na) (D:=D1) (xe:=e1) (e:=e1) hv (by omega) (by omega) (by omega) (by omega) (by omega) (by omega) (by omega)) (fun x d2 L2 hl2 ⟨hL,rx⟩=>?_);subst hL;refine AR rfl (h2 (neg:=nb) (D:=D2) (xe:=e1) (e:=e1) (RSl.mono (R:=By) CM hw hl2) (by omega) (by omega) (by omega) (by omega) (by omega) (by omega) (by omega)) (fun y d3 L3 hl3 ⟨hL,ry⟩=>?_);subst hL;(refine Ew<|Ew<|Ab rfl<|AW<|Ar ?_);exact BG [x,y,vZ e1] ⟨rfl,rfl,rfl,trivial⟩ (ZB _) ⟨rfl,x,y,_,_,e1,rfl,RSl.mono (R:=By) CM rx hl3,ry,Hu b1 b2 (.inl (ZD z1)) (.inl (ZD z2)) (by omega) (by omega) (by omega) (by omega) (by omega)⟩
  ·(refine Ab rfl<|Aa<|Ai<|Ac<|Af rfl<|Ah rfl (Aj 1 rfl rfl)<|AA rfl<|Aq rfl rfl<|Aa<|Au rfl (by omega)<|Ay<|Af rfl<|Ah rfl (Aj 0 rfl rfl)<|Ab rfl<|Aa<|Ai<|Ac<|Af rfl<|Ah rfl (Aj 0 rfl rfl)<|AA rfl<|Aq rfl rfl<|Aa<|Ao rfl (by omega)<|Am<|Ai<|Ac<|Af rfl<|Ah rfl (Aj 1 rfl rfl)<|AA rfl<|Aq rfl rfl<|Aa<|Au rfl (by omega)<|Ay<|Ab rfl<|Af rfl ?_);refine Az 1 [.bool na,.slice a D1.length c,vZ e2] rfl rfl rfl rfl (No rfl) rfl rfl ?_;(refine Aa<|Ai<|Ac<|Af rfl<|Ah rfl (Aj 0 rfl rfl)<|AA rfl<|Aq rfl rfl<|Aa<|Ao rfl (by omega)<|Am<|Ac<|Af rfl<|Ah rfl (Aj 1 rfl rfl)<|AA rfl<|AI rfl rfl (by omega) (by omega)<|Af rfl<|Ah rfl (Aj 1 rfl rfl)<|AI rfl rfl (by omega) (by omega)<|Ab rfl<|Bn rfl rfl (by omega) (by omega)<|Ab rfl<|Aa<|Ai<|Ac<|Af rfl<|Ah rfl (Aj 0 rfl rfl)<|AA rfl<|AI rfl rfl (by omega) (by omega)<|Af rfl<|Ah rfl (Aj 0 rfl rfl)<|AI rfl rfl (by omega) (by omega)<|Ab rfl<|Bn rfl rfl (by omega) (by omega)<|Ab rfl<|AP rfl rfl<|Aa<|Au rfl (by omega)<|Ay<|Af rfl<|Ah rfl (Aj 0 rfl rfl)<|AA rfl<|AI rfl rfl (by omega) (by omega)<|Af rfl<|Ah rfl (Aj 0 rfl rfl)<|AI rfl rfl (by omega) (by omega)<|Ab rfl<|Bn rfl rfl (by omega) (by omega)<|Ab rfl<|Aa<|Ai<|AT<|AD 1 rfl rfl rfl<|Ab rfl<|Ab rfl<|AD 0 rfl rfl rfl<|Ab rfl<|Ab rfl<|Ab rfl ?_);refine AR rfl (h2 (neg:=na) (D:=D1) (xe:=e2) (e:=e2) hv (by omega) (by omega) (by omega) (by omega) (by omega) (by omega) (by omega)) (fun x d2 L2 hl2 ⟨hL,rx⟩=>?_);subst hL;refine AR rfl (h2 (neg:=nb) (D:=D2) (xe:=e2) (e:=e2) (RSl.mono (R:=By) CM hw hl2) (by omega) (by omega) (by omega) (by omega) (by omega) (by omega) (by omega)) (fun y d3 L3 hl3 ⟨hL,ry⟩=>?_);subst hL;(refine Ew<|Ew<|Ab rfl<|AW<|Ar ?_);exact BG [x,y,vZ (e2)] ⟨rfl,rfl,rfl,trivial⟩ (ZB _) ⟨rfl,x,y,_,_,_,rfl,RSl.mono (R:=By) CM rx hl3,ry,Hu b1 b2 (.inl (ZD z1)) (.inr rfl) (by omega) (by omega) (by omega) (by omega) (by omega)⟩
 by_cases z2:D2.length=0
 ·(refine Ab rfl<|Aa<|Ai<|Ac<|Af rfl<|Ah rfl (Aj 1 rfl rfl)<|AA rfl<|Aq rfl rfl<|Aa<|Ao rfl (by omega)<|Am<|Ai<|Ac<|Af rfl<|Ah rfl (Aj 0 rfl rfl)<|AA rfl<|Aq rfl rfl<|Aa<|Au rfl (by omega)<|Ay<|Af rfl<|Ah rfl (Aj 1 rfl rfl)<|Ab rfl<|Aa<|Ai<|Ac<|Af rfl<|Ah rfl (Aj 1 rfl rfl)<|AA rfl<|Aq rfl rfl<|Aa<|Ao rfl (by omega)<|Am<|Ai<|Ac<|Af rfl<|Ah rfl (Aj 0 rfl rfl)<|AA rfl<|Aq rfl rfl<|Aa<|Au rfl (by omega)<|Ay<|Ab rfl<|Af rfl ?_);refine Az 0 [.bool nb,.slice a' D2.length c',vZ e1] rfl rfl rfl rfl (No rfl) rfl rfl ?_;(refine Aa<|Ac<|Af rfl<|Ah rfl (Aj 1 rfl rfl)<|AA rfl<|AI rfl rfl (by omega) (by omega)<|Af rfl<|Ah rfl (Aj 1 rfl rfl)<|AI rfl rfl (by omega) (by omega)<|Ab rfl<|Bn rfl rfl (by omega) (by omega)<|Ab rfl<|Aa<|Ai<|Ac<|Af rfl<|Ah rfl (Aj 0 rfl rfl)<|AA rfl<|AI rfl rfl (by omega) (by omega)<|Af rfl<|Ah rfl (Aj 0 rfl rfl)<|AI rfl rfl (by omega) (by omega)<|Ab rfl<|Bn rfl rfl (by omega) (by omega)<|Ab rfl<|AP rfl rfl<|Aa<|Ao rfl (by omega)<|Am<|Ai<|AT<|AD 1 rfl rfl rfl<|Ab rfl<|Ab rfl<|AD 0 rfl rfl rfl<|Ab rfl<|Ab rfl<|Ab rfl ?_);refine AR rfl (h2 (neg:=na) (D:=D1) (xe:=e1) (e:=e1) hv (by omega) (by omega) (by omega) (by omega) (by omega) (by omega) (by omega)) (fun x d2 L2 hl2 ⟨hL,rx⟩=>?_);subst hL;refine AR rfl (h2 (neg:=nb) (D:=D2) (xe:=e1) (e:=e1) (RSl.mono (R:=By) CM hw hl2) (by omega) (by omega) (by omega) (by omega) (by omega) (by omega) (by omega)) (fun y d3 L3 hl3 ⟨hL,ry⟩=>?_);subst hL;(refine Ew<|Ew<|Ab rfl<|AW<|Ar ?_);exact BG [x,y,vZ (e1)] ⟨rfl,rfl,rfl,trivial⟩ (ZB _) ⟨rfl,x,y,_,_,_,rfl,RSl.mono (R:=By) CM rx hl3,ry,Hu b1 b2 (.inr rfl) (.inl (ZD z2)) (by omega) (by omega) (by omega) (by omega) (by omega)⟩
 by_cases hm:1+(D2.length:Int)+e2 - min e1 e2>1+(D1.length:Int)+e1 - min e1 e2
 ·(refine Ab rfl<|Aa<|Ai<|Ac<|Af rfl<|Ah rfl (Aj 1 rfl rfl)<|AA rfl<|Aq rfl rfl<|Aa<|Ao rfl (by omega)<|Am<|Ai<|Ac<|Af rfl<|Ah rfl (Aj 0 rfl rfl)<|AA rfl<|Aq rfl rfl<|Aa<|Ao rfl (by omega)<|Am<|Ai<|Ac<|Af rfl<|Ah rfl (Aj 1 rfl rfl)<|AA rfl<|Aq rfl rfl<|Aa<|Ao rfl (by omega)<|Am<|Ai<|Ac<|Af rfl<|Ah rfl (Aj 0 rfl rfl)<|AA rfl<|Aq rfl rfl<|Aa<|Ao rfl (by omega)<|Am<|Ac<|Af rfl<|Ah rfl (Aj 1 rfl rfl)<|AA rfl<|AI rfl rfl (by omega) (by omega)<|Af rfl<|Ah rfl (Aj 1 rfl rfl)<|AI rfl rfl (by omega) (by omega)<|Ab rfl<|Bn rfl rfl (by omega) (by omega)<|Ab rfl<|Aa<|Ai<|Ac<|Af rfl<|Ah rfl (Aj 0 rfl rfl)<|AA rfl<|AI rfl rfl (by omega) (by omega)<|Af rfl<|Ah rfl (Aj 0 rfl rfl)<|AI rfl rfl (by omega) (by omega)<|Ab rfl<|Bn rfl rfl (by omega) (by omega)<|Ab rfl<|AP rfl rfl<|Aa<|Au rfl (by omega)<|Ay<|Af rfl<|Ah rfl (Aj 0 rfl rfl)<|AA rfl<|AI rfl rfl (by omega) (by omega)<|Af rfl<|Ah rfl (Aj 0 rfl rfl)<|AI rfl rfl (by omega) (by omega)<|Ab rfl<|Bn rfl rfl (by omega) (by omega)<|Ab rfl<|Aa<|Ai<|AT<|AD 1 rfl rfl rfl<|Ab rfl<|Ab rfl<|AD 0 rfl rfl rfl<|Ab rfl<|Ab rfl<|Ab rfl ?_);refine AR rfl (h2 (neg:=na) (D:=D1) (xe:=e1) (e:=min e1 e2) hv (by omega) (by omega) (by omega) (by omega) (by omega) (by omega) (by omega)) (fun x d2 L2 hl2 ⟨hL,rx⟩=>?_);subst hL;refine AR rfl (h2 (neg:=nb) (D:=D2) (xe:=e2) (e:=min e1 e2) (RSl.mono (R:=By) CM hw hl2) (by omega) (by omega) (by omega) (by omega) (by omega) (by omega) (by omega)) (fun y d3 L3 hl3 ⟨hL,ry⟩=>?_);subst hL;(refine Ew<|Ew<|Ab rfl<|AW<|Ar ?_);exact BG [x,y,vZ (min e1 e2)] ⟨rfl,rfl,rfl,trivial⟩ (ZB _) ⟨rfl,x,y,_,_,_,rfl,RSl.mono (R:=By) CM rx hl3,ry,Hu b1 b2 (.inr rfl) (.inr rfl) (by omega) (by omega) (by omega) (by omega) (by omega)⟩
 ·(refine Ab rfl<|Aa<|Ai<|Ac<|Af rfl<|Ah rfl (Aj 1 rfl rfl)<|AA rfl<|Aq rfl rfl<|Aa<|Ao rfl (by omega)<|Am<|Ai<|Ac<|Af rfl<|Ah rfl (Aj 0 rfl rfl)<|AA rfl<|Aq rfl rfl<|Aa<|Ao rfl (by omega)<|Am<|Ai<|Ac<|Af rfl<|Ah rfl (Aj 1 rfl rfl)<|AA rfl<|Aq rfl rfl<|Aa<|Ao rfl (by omega)<|Am<|Ai<|Ac<|Af rfl<|Ah rfl (Aj 0 rfl rfl)<|AA rfl<|Aq rfl rfl<|Aa<|Ao rfl (by omega)<|Am<|Ac<|Af rfl<|Ah rfl (Aj 1 rfl rfl)<|AA rfl<|AI rfl rfl (by omega) (by omega)<|Af rfl<|Ah rfl (Aj 1 rfl rfl)<|AI rfl rfl (by omega) (by omega)<|Ab rfl<|Bn rfl rfl (by omega) (by omega)<|Ab rfl<|Aa<|Ai<|Ac<|Af rfl<|Ah rfl (Aj 0 rfl rfl)<|AA rfl<|AI rfl rfl (by omega) (by omega)<|Af rfl<|Ah rfl (Aj 0 rfl rfl)<|AI rfl rfl (by omega) (by omega)<|Ab rfl<|Bn rfl rfl (by omega) (by omega)<|Ab rfl<|AP rfl rfl<|Aa<|Ao rfl (by omega)<|Am<|Ai<|AT<|AD 1 rfl rfl rfl<|Ab rfl<|Ab rfl<|AD 0 rfl rfl rfl<|Ab rfl<|Ab rfl<|Ab rfl ?_);refine AR rfl (h2 (neg:=na) (D:=D1) (xe:=e1) (e:=min e1 e2) hv (by omega) (by omega) (by omega) (by omega) (by omega) (by omega) (by omega)) (fun x d2 L2 hl2 ⟨hL,rx⟩=>?_);subst hL;refine AR rfl (h2 (neg:=nb) (D:=D2) (xe:=e2) (e:=min e1 e2) (RSl.mono (R:=By) CM hw hl2) (by omega) (by omega) (by omega) (by omega) (by omega) (by omega) (by omega)) (fun y d3 L3 hl3 ⟨hL,ry⟩=>?_);subst hL;(refine Ew<|Ew<|Ab rfl<|AW<|Ar ?_);exact BG [x,y,vZ (min e1 e2)] ⟨rfl,rfl,rfl,trivial⟩ (ZB _) ⟨rfl,x,y,_,_,_,rfl,RSl.mono (R:=By) CM rx hl3,ry,Hu b1 b2 (.inr rfl) (.inr rfl) (by omega) (by omega) (by omega) (by omega) (by omega)⟩
def HJ(neg:Bool)(C:List Nat):Int:=if val C=0 then 0 else if neg then -1 else 1
def sg(b:Bool):Int:=if b then -1 else 1
def FL(na nb:Bool)(z:Bool)(c:Int):Int:=if na=nb then(if z then 0 else sg na) else if c<0 then sg nb else if c=0 then 0 else sg na
def Wv{X Y:List Nat}(h:LC D1 e1 D2 e2 X Y):val (Cj false X Y).1=val X+val Y:=by
 obtain⟨hl,h2,hX,hY,l1,l2,_⟩:=h;have ht:=Oj false X Y hl hX hY;have hb:=EK (HQ false X Y hX hY);rw[F3 false X Y hl] at hb;have hc:=GH false X Y;simp only[ZX,if_false] at ht;rcases hc with hc|hc|hc<;>rw[hc] at ht<;>omega
def OG{X Y:List Nat}(hl:X.length=Y.length)(hX:∀d∈X,d<10)(hY:∀d∈Y,d<10)(h:val Y≤val X):val (Cj true X Y).1=val X - val Y:=by
 have ht:=Oj true X Y hl hX hY;have hb:=EK (HQ true X Y hX hY);have hbx:=EK hX;rw[F3 true X Y hl] at hb;have hc:=GH true X Y;simp only[if_true] at ht;rcases hc with hc|hc|hc<;>rw[hc] at ht<;>omega
def U1{X Y:List Nat}(n:Bool)(h:LC D1 e1 D2 e2 X Y):HJ n (Cj false X Y).1=FL n n (decide (val D1=0∧val D2=0)) (Cn (val D1) e1 (val D2) e2):=by
 have z1:=h.2.2.2.2.2.2.2.1;have z2:=h.2.2.2.2.2.2.2.2;rw[HJ,Wv h,FL,if_pos rfl];by_cases q:val X=0∧val Y=0
 ·rw[if_pos (show val X+val Y=0 by omega),decide_eq_true (by omega)];rfl
 ·rw[if_neg (show¬val X+val Y=0 by omega),decide_eq_false (by omega)];rfl
def Ym{X Y:List Nat}{na nb:Bool}(hn:na≠nb)(h:LC D1 e1 D2 e2 X Y)(hlt:val X<val Y):HJ nb (Cj true Y X).1=FL na nb (decide (val D1=0∧val D2=0)) (Cn (val D1) e1 (val D2) e2):=by
 obtain⟨hl,h2,hX,hY,l1,l2,hc,_⟩:=h;rw[HJ,OG hl.symm hY hX (by omega),FL,if_neg hn,←hc,C1 (by omega),if_neg (show¬val Y - val X=0 by omega),if_pos (show(-1:Int)<0 by decide)];rfl
def TV{X Y:List Nat}{na nb:Bool}(hn:na≠nb)(h:LC D1 e1 D2 e2 X Y)(hlt:¬val X<val Y):HJ na (Cj true X Y).1=FL na nb (decide (val D1=0∧val D2=0)) (Cn (val D1) e1 (val D2) e2):=by
 obtain⟨hl,h2,hX,hY,l1,l2,hc,_⟩:=h;rw[HJ,OG hl hX hY (by omega),FL,if_neg hn,←hc];by_cases q:val X=val Y
 ·rw[if_pos (show val X - val Y=0 by omega),Dg (by omega)];rfl
 ·rw[if_neg (show¬val X - val Y=0 by omega),CT (by omega),if_neg (show¬(1:Int)<0 by decide),if_neg (show¬(1:Int)=0 by decide)];rfl
def Y8(d:Ag)(r:Value)(ans:Int):Prop:=∃neg a c C,∃e:Int,r=.agg [.bool neg,.slice a C.length c,vZ e].toArray∧CL d (.slice a C.length c) (ints C)∧(∀x∈C,x<10)∧C.length≤2000∧HJ neg C=ans
def Ri(P:Program)(f:FuncId):Prop:=∀{d}{na nb:Bool}{v w}{D1 D2:List Nat}{e1 e2:Int},CL d v (ints D1)→CL d w (ints D2)→D1.length≤100→D2.length≤100→(∀x∈D1,x<10)→(∀x∈D2,x<10)→
 -100≤e1→e1≤100→ -100≤e2→e2≤100→
 A8 P f [.agg [.bool na,v,vZ e1].toArray,.agg [.bool nb,w,vZ e2].toArray] d [] (Ret fun r d' L'=>L'=[]∧Y8 d' r (FL na nb (decide (val D1=0∧val D2=0)) (Cn (val D1) e1 (val D2) e2)))
def Ke(a0 a1 a2:Nat):A6:=⟨44,[(.cell 4 (some 3))],(sR (o1 2 (.box 0)<|o1 3 (.box 1)<|o1 4 (.alo (.agg #[(.bool false),(.slice none 0 0),(vZ 0)])) .done) (sR (o1 9 (.ld (some 3) 2)<|o1 10 (.ld (some 3) 3)<|oc 11 a0 [9,10]<|om 8 11<|oe 12 8 0<|oe 13 8 1<|oe 14 8 2<|om 5 12<|om 6 13<|om 7 14 .done) (.seq (sR (oj 15 0 2<|ol 16 15<|oj 17 0 3<|ol 18 17<|o1 19 (.eqb false 16 18) .done) (.cond 19 (.seq (.reg true (p1 20 (.fld 0 2)<|pl 21 20<|pm 22 5<|pm 23 6<|pm 25 7<|oc 24 a1 [22,23,(.const (.bool false))]<|p1 26 (.bld [(0,1),(1,1),(2,1)] [(.bool false),(.slice none 0 0),(vZ 0)] [(0,21),(1,24),(2,25)]) (.bar (o0 (.st 3 4 26) .done)))) .ret) .skip)) (.seq (sR (om 27 6<|om 28 5<|oc 29 a2 [27,28] .done) (.cond 29 (.seq (.reg true (p1 30 (.fld 0 3)<|pl 31 30<|pm 32 6<|pm 33 5<|pm 35 7<|oc 34 a1 [32,33,(.const (.bool true))]<|p1 36 (.bld [(0,1),(1,1),(2,1)] [(.bool false),(.slice none 0 0),(vZ 0)] [(0,31),(1,34),(2,35)]) (.bar (o0 (.st 3 4 36) .done)))) .ret) .skip)) (.seq (.reg true (p1 37 (.fld 0 2)<|pl 38 37<|pm 39 5<|pm 40 6<|pm 42 7<|oc 41 a1 [39,40,(.const (.bool true))]<|p1 43 (.bld [(0,1),(1,1),(2,1)] [(.bool false),(.slice none 0 0),(vZ 0)] [(0,38),(1,41),(2,42)]) (.bar (o0 (.st 3 4 43) .done)))) .ret)))))⟩
set_option maxHeartbeats 1000000 in
def XD{f3}(hd:dec P f=some (Ke f1 f2 f3))(h1:QZ P f1)(h2:NS P f2)(h3:Oi P f3):Ri P f:=by
 intro d na nb v w D1 D2 e1 e2 hv hw n1 n2 b1 b2 p1 p2 p3 p4;refine Bd hd (No rfl) ?_;obtain⟨a,c,rfl⟩:=RSl.val hv;obtain⟨a',c',rfl⟩:=RSl.val hw;rw[Bx] at hv hw;rw[Bx,Bx];show gwp P _ _ _ _ _;apply Ai;apply Ay;refine AO (l:=[.bool na,.slice a D1.length c,vZ e1]) rfl (fun t2 T2=>?_);refine AO (l:=[.bool nb,.slice a' D2.length c',vZ e2]) rfl (fun t3 T3=>?_);(refine AX (fun _ _=>Aa<|Ac<|AD 2 rfl rfl rfl<|AD 1 rfl rfl rfl ?_));rename_i t4 T4;refine AR rfl (h1 hv hw n1 n2 b1 b2 p1 p2 p3 p4) (fun r d2 L2 hl2 ⟨hL,x,y,X,Y,e,hr,rx,ry,hp⟩=>?_);subst hL;subst hr;obtain⟨xa,xc,hx⟩:=RSl.val rx;rw[Bx] at hx;subst hx;obtain⟨ya,yc,hy⟩:=RSl.val ry;rw[Bx] at hy;subst hy;have hp':=hp;obtain⟨hl,hX2,hX,hY,_⟩:=hp';have hfl1:=F3 false X Y hl;have hfl2:=F3 true X Y hl;have hfl3:=F3 true Y X hl.symm;by_cases hn:na=nb
 ·subst hn;have hb:(false ^^(na==na))=true:=by simp
  (refine Bj rfl<|AL rfl rfl<|AL rfl rfl<|AL rfl rfl<|As rfl<|As rfl<|Ab rfl<|Aa<|Ai<|Ac<|Af rfl<|Ah rfl (Aj 2 rfl rfl)<|Af rfl<|Ah rfl (Aj 1 rfl rfl)<|SQ rfl rfl<|Aa ?_;apply E9;rfl;(with_reducible assumption);refine Ai<|AT<|Af rfl<|Ah rfl (Aj 2 rfl rfl)<|As rfl<|As rfl<|Ab rfl ?_);refine AR rfl (h2 (mi:=false) rx ry hl hX hY (by omega)) (fun r d3 L3 hl3 ⟨hL,rr⟩=>?_);subst hL;obtain⟨ra,rc,hre⟩:=RSl.val rr;rw[Bx] at hre;subst hre;(refine BN rfl<|Bt ?_);refine Az 0 [.bool na,.slice ra (Cj false X Y).1.length rc,vZ e] rfl rfl rfl rfl (No rfl) rfl rfl ?_;(refine Aa<|Ar ?_);exact BG [_] ⟨A3 0 rfl rfl rfl,trivial⟩ (ZB _) ⟨rfl,na,ra,rc,_,e,rfl,rr,HQ false X Y hX hY,by omega,U1 na hp⟩
 have hb:(false ^^(na==nb))=false:=by simpa using hn
 by_cases hlt:val X<val Y
 ·have hlt':=decide_eq_true hlt;(refine Bj rfl<|AL rfl rfl<|AL rfl rfl<|AL rfl rfl<|As rfl<|As rfl<|Ab rfl<|Aa<|Ai<|Ac<|Af rfl<|Ah rfl (Aj 2 rfl rfl)<|Af rfl<|Ah rfl (Aj 1 rfl rfl)<|SQ rfl rfl<|Aa ?_;apply CU;rfl;(with_reducible assumption);refine Am<|Ai<|Ac<|As rfl<|As rfl ?_);refine AF rfl (h3 ry rx hl.symm hY hX (by omega)) ?_;(refine Aa<|Au rfl (by omega)<|Ai<|AT<|Af rfl<|Ah rfl (Aj 1 rfl rfl)<|As rfl<|As rfl<|Ab rfl ?_);refine AR rfl (h2 (mi:=true) ry rx hl.symm hY hX (by omega)) (fun r d3 L3 hl3 ⟨hL,rr⟩=>?_);subst hL;obtain⟨ra,rc,hre⟩:=RSl.val rr;rw[Bx] at hre;subst hre;(refine BN rfl<|Bt ?_);refine Az 0 [.bool nb,.slice ra (Cj true Y X).1.length rc,vZ e] rfl rfl rfl rfl (No rfl) rfl rfl ?_;(refine Aa<|Ar ?_);exact BG [_] ⟨A3 0 rfl rfl rfl,trivial⟩ (ZB _) ⟨rfl,nb,ra,rc,_,e,rfl,rr,HQ true Y X hY hX,by omega,Ym hn hp hlt⟩
 ·have hlt':=decide_eq_false hlt;(refine Bj rfl<|AL rfl rfl<|AL rfl rfl<|AL rfl rfl<|As rfl<|As rfl<|Ab rfl<|Aa<|Ai<|Ac<|Af rfl<|Ah rfl (Aj 2 rfl rfl)<|Af rfl<|Ah rfl (Aj 1 rfl rfl)<|SQ rfl rfl<|Aa ?_;apply CU;rfl;(with_reducible assumption);refine Am<|Ai<|Ac<|As rfl<|As rfl ?_);refine AF rfl (h3 ry rx hl.symm hY hX (by omega)) ?_;(refine Aa<|Ao rfl (by omega)<|Am<|Ai<|AT<|Af rfl<|Ah rfl (Aj 2 rfl rfl)<|As rfl<|As rfl<|Ab rfl ?_);refine AR rfl (h2 (mi:=true) rx ry hl hX hY (by omega)) (fun r d3 L3 hl3 ⟨hL,rr⟩=>?_);subst hL;obtain⟨ra,rc,hre⟩:=RSl.val rr;rw[Bx] at hre;subst hre;(refine BN rfl<|Bt ?_);refine Az 0 [.bool na,.slice ra (Cj true X Y).1.length rc,vZ e] rfl rfl rfl rfl (No rfl) rfl rfl ?_;(refine Aa<|Ar ?_);exact BG [_] ⟨A3 0 rfl rfl rfl,trivial⟩ (ZB _) ⟨rfl,na,ra,rc,_,e,rfl,rr,HQ true X Y hX hY,by omega,TV hn hp hlt⟩
def UU{m1 m2:Int}:FL (decide (m1<0)) (!decide (m2<0)) (decide (val (Bw m1.natAbs)=0∧val (Bw m2.natAbs)=0)) (Cn (val (Bw m1.natAbs)) e1 (val (Bw m2.natAbs)) e2)=Cn m1 e1 m2 e2:=by
 rw[FR,FR];have sgn1:∀m:Int,0≤m→m≠0→sgn m=1:=fun m a b=>F6 (by omega);by_cases q1:m1<0
 ·by_cases q2:m2<0
  ·have:=Q5 (m1:=m1) (e1:=e1) (m2:=m2) (e2:=e2) (by rw[Di q1,Di q2]) (by rw[Di q1];decide);rw[Di q1] at this;have h2:Cn m1.natAbs e1 m2.natAbs e2= -Cn m1 e1 m2 e2:=by rw[this,Cn,Aam,Aam];omega
   rw[h2,FL,if_neg (by simp[q1,q2])];rcases Jt (m1*((10 ^(e1 - min e1 e2).toNat:Nat):Int)) (m2*((10 ^(e2 - min e1 e2).toNat:Nat):Int)) with h|h|h<;>(have h:Cn m1 e1 m2 e2=_:=h;rw[h];simp[sg,q1,q2])
  ·rw[FL,if_pos (by simp[q1,q2]),decide_eq_false (by omega),sg];rw[Ho (.inl (by rw[Di q1];by_cases z:m2=0;(· subst z;decide);rw[sgn1 m2 (by omega) z];decide)),Di q1];by_cases z:m2=0
   ·subst z;simp[q1];decide
   ·rw[sgn1 m2 (by omega) z];simp[q1];decide
 ·by_cases q2:m2<0
  ·rw[FL,if_pos (by simp[q1,q2]),decide_eq_false (by omega),sg];rw[Ho (.inl (by rw[Di q2];by_cases z:m1=0;(· subst z;decide);rw[sgn1 m1 (by omega) z];decide)),Di q2];by_cases z:m1=0
   ·subst z;simp;decide
   ·rw[sgn1 m1 (by omega) z];simp[q1];decide
  ·rw[show((m1.natAbs:Nat):Int)=m1 by omega,show((m2.natAbs:Nat):Int)=m2 by omega,FL,if_neg (by simp[q1,q2])];rcases Jt (m1*((10 ^(e1 - min e1 e2).toNat:Nat):Int)) (m2*((10 ^(e2 - min e1 e2).toNat:Nat):Int)) with h|h|h<;>(have h:Cn m1 e1 m2 e2=_:=h;rw[h];simp[sg,q1,q2])
def Dw(m1 e1 m2 e2:Int):Int×Int:=if Br m1 e1 && Br m2 e2 then(Cn m1 e1 m2 e2,0) else(0,10)
def FO(T:Ag→Prop)(P:Program)(f:FuncId):Prop:=∀{d}{m1 e1 m2 e2:Int},T d→I64 m1→I64 e1→I64 m2→I64 e2→
 AM P f [.agg [vZ m1,vZ e1].toArray,.agg [vZ m2,vZ e2].toArray] d (.tuple #[vZ (Dw m1 e1 m2 e2).1,vZ (Dw m1 e1 m2 e2).2])
def YK{C:List Nat}{i:Nat}(hi:i<C.length)(h:C[i]≠0):val C≠0:=by
 have:=NP ⟨C[i],ZC hi,h⟩;omega
def KJ(a0 a1 a2:Nat):A6:=⟨50,[(.tmp 4),(.tmp 5)],(sR (o1 2 (.box 0)<|o1 3 (.box 1)<|o1 4 (.mv z0)<|o1 5 (.mv z0) .done) (.seq (sR (o1 9 (.ld (some 2) 2)<|oc 10 a0 [9]<|o1 11 (.un .not 10)<|om 12 11<|oF 13 12 (.ld (some 2) 3)<|oF 14 12 (.call a0 [13])<|oF 15 12 (.un .not 14)<|o1 16 (.pick 12 (.const (.bool true)) 15) .done) (.cond 16 (sR (o1 4 (.mv z0)<|o1 5 (.mv (kZ 10)) .done) .ret) .skip)) (sR (o1 17 (.ld (some 2) 3)<|oc 18 a1 [17]<|o1 6 (.alo (.agg #[(.bool false),(.slice none 0 0),(vZ 0)]))<|o0 (.st 3 6 18) .done) (sR (oj 19 0 6<|ol 20 19<|o1 21 (.un .not 20)<|oj 22 0 6<|o0 (.st 1 22 21) .done) (.seq (.reg true (p1 23 (.ld (some 2) 2)<|p1 25 (.ld (some 3) 6) (.par (oc 24 a1 [23] (oc 26 a2 [24,25] .done)) (o1 7 (.alo (.agg #[(.bool false),(.slice none 0 0),(vZ 0)])) .done) (.bar (o0 (.st 3 7 26) .done))))) (.seq (sR (o1 8 (.mv z0) .done) (.block 0 (.loop (.seq (sR (om 27 8<|oj 28 1 7<|ol 29 28<|oL 30 29<|ob 31 .lss 27 30 .done) (.cond 31 .skip (.exit 0))) (.seq (.block 1 (.seq (sR (oj 34 1 7<|ol 35 34<|om 36 8<|oI 37 1 35 36<|ol 38 37<|ob 39 .neq 38 z0<|om 40 39<|oT 41 40 (.fld 0 7)<|oT 42 40 (.ld none 41)<|gP 43 40 42 .done) (.cond 43 (sR (o1 4 (.mv (kZ (-1)))<|o1 5 (.mv z0) .done) .ret) .skip)) (sR (oj 44 1 7<|ol 45 44<|om 46 8<|oI 47 1 45 46<|ol 48 47<|ob 49 .neq 48 z0 .done) (.cond 49 (sR (o1 4 (.mv z1)<|o1 5 (.mv z0) .done) .ret) .skip)))) (rG (om 32 8<|ob 33 .add 32 z1<|om 8 33 .done))))))) (sR (o1 4 (.mv z0)<|o1 5 (.mv z0) .done) .ret)))))))⟩
set_option maxHeartbeats 1000000 in
def Xt{T:Ag→Prop}{f3}(hd:I7 P f=some (KJ f1 f2 f3))(h1:G7 T P f1)(h2:KM P f2)(h3:Ri P f3):FO T P f:=by
 intro d m1 e1 m2 e2 ht i1 i2 i3 i4;refine AM.of' hd (No rfl) ?_;show gwp P _ _ _ _ _;apply Ai;apply Ay;refine AO (l:=[vZ m1,vZ e1]) rfl (fun t2 T2=>?_);refine AO (l:=[vZ m2,vZ e2]) rfl (fun t3 T3=>?_);cases r1:Br m1 e1 with
 |false=>
  rw[Dw,r1]
  (refine Ab rfl<|Ab rfl<|Aa<|Ai<|Ac<|AD 1 rfl rfl rfl ?_)
  refine AF rfl (h1 ht i1 i2) ?_
  rw[r1]
  (refine Bi rfl<|Ad rfl<|Ak rfl<|Ak rfl<|Ak rfl<|Ap rfl rfl<|Aa<|Bb rfl<|Ac<|Ab rfl<|Ab rfl<|Aa<|Ar ?_)
  exact BS rfl rfl
 |true=>
  cases r2:Br m2 e2 with
  |false=>
   rw[Dw,r1,r2]
   (refine Ab rfl<|Ab rfl<|Aa<|Ai<|Ac<|AD 1 rfl rfl rfl ?_)
   refine AF rfl (h1 ht i1 i2) ?_
   rw[r1]
   (refine Bi rfl<|Ad rfl<|Ae rfl<|AD 0 rfl rfl rfl<|Ae rfl ?_)
   refine AF rfl (h1 ht i3 i4) ?_
   rw[r2]
   (refine Ae rfl<|Bi rfl<|An rfl rfl<|Aa<|Bb rfl<|Ac<|Ab rfl<|Ab rfl<|Aa<|Ar ?_)
   exact BS rfl rfl
  |true=>
   have b1:=PL r1
   have b2:=PL r2
   rw[Dw,r1,r2]
   (refine Ab rfl<|Ab rfl<|Aa<|Ai<|Ac<|AD 1 rfl rfl rfl ?_)
   refine AF rfl (h1 ht i1 i2) ?_
   rw[r1]
   (refine Bi rfl<|Ad rfl<|Ae rfl<|AD 0 rfl rfl rfl<|Ae rfl ?_)
   refine AF rfl (h1 ht i3 i4) ?_
   rw[r2]
   (refine Ae rfl<|Bi rfl<|An rfl rfl<|Aa<|AK rfl<|Am<|Ac<|AD 0 rfl rfl rfl ?_)
   refine AR rfl (h2 i3 i4) (fun r d2 L2 hl2 ⟨hL,dv,hr,hdv⟩=>?_)
   subst hL;subst hr
   obtain⟨ba,bc,hx⟩:=RSl.val hdv
   rw[Bx] at hx
   subst hx
   (apply AX;intro _ _)
   rename_i t6 T6
   refine Az 0 [.bool (decide (m2<0)),.slice ba (Bw m2.natAbs).length bc,vZ e2] rfl rfl rfl rfl (No rfl) rfl rfl ?_
   (refine Aa<|Ac<|Af rfl<|Ah rfl (Aj 0 rfl rfl)<|Bi rfl<|Af rfl ?_)
   refine Az 0 [.bool (!decide (m2<0)),.slice ba (Bw m2.natAbs).length bc,vZ e2] rfl rfl rfl rfl (No rfl) rfl rfl ?_
   (refine Aa<|Ai ?_)
   refine AT ?_
   (refine AD 2 rfl rfl rfl<|AD 0 rfl rfl rfl ?_)
   refine F8 (α:=Bool×Option Addr×Nat×List Nat×Int) (β:=Nat×TypeId) [(4,vZ 0),(5,vZ 0)] (fun x=>[(26,.agg [.bool x.1,.slice x.2.1 x.2.2.2.1.length x.2.2.1,vZ x.2.2.2.2].toArray)])
    (fun x d L=>L=[]∧CL d (.slice x.2.1 x.2.2.2.1.length x.2.2.1) (ints x.2.2.2.1)∧x.2.2.2.1.length≤2000∧HJ x.1 x.2.2.2.1=Cn m1 e1 m2 e2)
    (fun y=>[(7,.pointer (some ⟨y.1,0,none⟩))]) (fun y d L=>L=[bx y.1 y.2 [.bool false,.slice none 0 0,vZ 0]]) [] [] rfl
    (fun x d d' M hl h=>⟨h.1,RSl.mono (R:=By) CM h.2.1 hl,h.2.2⟩) (fun y d d' M hl h=>h) (fun x=>rfl) (fun y=>rfl) rfl ⟨rfl,rfl,trivial⟩ ?_ ?_ ?_
   ·refine AR rfl (h2 i1 i2) (fun r d3 L3 hl3 ⟨hL,dv,hr,hdv3⟩=>?_)
    subst hL;subst hr
    have l1:=(FM m1.natAbs 18).2 (by rw[show(10:Nat)^ 18=1000000000000000000 by decide];omega)
    have l2:=(FM m2.natAbs 18).2 (by rw[show(10:Nat)^ 18=1000000000000000000 by decide];omega)
    refine AR rfl (h3 hdv3 (RSl.mono (R:=By) CM hdv hl3) (by omega) (by omega) (Gn _) (Gn _) (by omega) (by omega) (by omega) (by omega)) (fun r d4 L4 hl4 ⟨hL,neg,a,c,C,e,hr,rC,hC,hCl,ha⟩=>?_)
    subst hL;subst hr
    rw[UU] at ha
    refine AW ?_
    exact⟨_,rfl,(neg,a,c,C,e),⟨rfl,trivial⟩,rfl,rC,hCl,ha⟩
   ·(refine AX (fun _ _=>AW ?_))
    exact⟨_,rfl,(_,_),⟨rfl,trivial⟩,rfl⟩
   rintro⟨neg,a,c,C,e⟩ ⟨b7,T7⟩ ρ d3 M1 M2 hl3 ⟨hM1,rC,hCl,ha⟩ hM2
   simp only at hM1 rC hCl ha hM2
   subst hM1;subst hM2
   (apply Bt)
   refine Az 3 [.bool neg,.slice a C.length c,vZ e] rfl rfl rfl rfl (No rfl) rfl rfl ?_
   have n1:=Bx C
   have q1:RSl 1 By d3 (.slice a C.length c) (ints C):=rC
   have n2:C.length≤2000:=hCl
   (refine Aa<|Ai<|Ac<|Ab rfl<|Aa<|Av ?_)
   refine CD (α:=Nat) (fun i=>[(7,pZ b7),(8,vZ i)]) (fun _=>[bx t6 T6 [.bool (!decide (m2<0)),.slice ba (Bw m2.natAbs).length bc,vZ e2],bx t3 T3 [vZ m2,vZ e2],bx t2 T2 [vZ m1,vZ e1],bx b7 T7 [.bool neg,.slice a C.length c,vZ e]])
    (fun i=>i≤C.length∧(∀j (h:j<C.length),j<i→C[j]=0)) (fun i=>C.length - i) 0 ⟨rfl,rfl,trivial⟩ rfl ⟨ZN _,fun j h h'=>absurd h' (Z3 j)⟩ ?_
   rintro i ρ ⟨hi,hz⟩
   by_cases hc:i<C.length
   ·have e1:=ints_at C (i:=i) (by omega)
    by_cases h0:(ints C)[i]'(by omega)=0
    ·(refine Ai<|Ac<|Ab rfl<|Af rfl<|Ah rfl (Aj 3 rfl rfl)<|AA rfl<|Ax rfl rfl<|Aa<|Au rfl (by omega)<|Am<|Ai<|Av<|Ai<|Ac<|Af rfl<|Ah rfl (Aj 3 rfl rfl)<|Ab rfl<|AJ (sz:=1) (R:=By) (by rfl) (by assumption) (by rfl) rfl (by omega) ?_;rintro _ _ _ _ _ ⟨rfl,_,_⟩;refine Ah rfl (A1 (by assumption) rfl)<|AG rfl rfl<|Ad rfl<|AB rfl (by omega)<|Ak rfl<|Ak rfl<|An rfl rfl<|Aa<|AK rfl<|Am<|Ac<|Af rfl<|Ah rfl (Aj 3 rfl rfl)<|Ab rfl<|AJ (sz:=1) (R:=By) (by rfl) (by assumption) (by rfl) rfl (by omega) ?_;rintro _ _ _ _ _ ⟨rfl,_,_⟩;refine Ah rfl (A1 (by assumption) rfl)<|AG rfl rfl<|Aa<|Ao rfl (by omega)<|Am<|Ay<|Ab rfl<|AI rfl rfl (by omega) (by omega)<|Ab rfl<|Aa ?_)
     exact⟨i+1,by omega,⟨rfl,int_eq (by omega),trivial⟩,rfl,rfl,hc,fun j h h'=>if q:j=i then(by subst q;omega) else hz j h (by omega)⟩
    ·have hv:=YK hc (by omega)
     cases neg with
     |true=>
      rw[HJ,if_neg hv,if_pos rfl] at ha
      (refine Ai<|Ac<|Ab rfl<|Af rfl<|Ah rfl (Aj 3 rfl rfl)<|AA rfl<|Ax rfl rfl<|Aa<|Au rfl (by omega)<|Am<|Ai<|Av<|Ai<|Ac<|Af rfl<|Ah rfl (Aj 3 rfl rfl)<|Ab rfl<|AJ (sz:=1) (R:=By) (by rfl) (by assumption) (by rfl) rfl (by omega) ?_;rintro _ _ _ _ _ ⟨rfl,_,_⟩;refine Ah rfl (A1 (by assumption) rfl)<|AG rfl rfl<|Ad rfl<|AE rfl (by omega)<|Ae rfl<|Af rfl<|Ae rfl<|Ah rfl (Aj 3 rfl rfl)<|Ap rfl rfl<|Aa<|Bb rfl<|Ac<|Ab rfl<|Ab rfl<|Aa<|Ar ?_)
      refine BS (int_eq ?_) rfl
      exact ha
     |false=>
      rw[HJ,if_neg hv,if_neg (by decide)] at ha
      (refine Ai<|Ac<|Ab rfl<|Af rfl<|Ah rfl (Aj 3 rfl rfl)<|AA rfl<|Ax rfl rfl<|Aa<|Au rfl (by omega)<|Am<|Ai<|Av<|Ai<|Ac<|Af rfl<|Ah rfl (Aj 3 rfl rfl)<|Ab rfl<|AJ (sz:=1) (R:=By) (by rfl) (by assumption) (by rfl) rfl (by omega) ?_;rintro _ _ _ _ _ ⟨rfl,_,_⟩;refine Ah rfl (A1 (by assumption) rfl)<|AG rfl rfl<|Ad rfl<|AE rfl (by omega)<|Ae rfl<|Af rfl<|Ae rfl<|Ah rfl (Aj 3 rfl rfl)<|Ap rfl rfl<|Aa<|AK rfl<|Am<|Ac<|Af rfl<|Ah rfl (Aj 3 rfl rfl)<|Ab rfl<|AJ (sz:=1) (R:=By) (by rfl) (by assumption) (by rfl) rfl (by omega) ?_;rintro _ _ _ _ _ ⟨rfl,_,_⟩;refine Ah rfl (A1 (by assumption) rfl)<|AG rfl rfl<|Aa<|Au rfl (by omega)<|Ac<|Ab rfl<|Ab rfl<|Aa<|Ar ?_)
      refine BS (int_eq ?_) rfl
      exact ha
   obtain rfl:i=C.length:=by omega
   have hv:val C=0:=KG.2 fun x hx=>by
    obtain⟨j,hj,rfl⟩:=Aae hx;exact hz j hj hj
   rw[HJ,if_pos hv] at ha
   (refine Ai<|Ac<|Ab rfl<|Af rfl<|Ah rfl (Aj 3 rfl rfl)<|AA rfl<|Ax rfl rfl<|Aa<|Ao rfl (by omega)<|AV<|Ac<|Ab rfl<|Ab rfl<|Aa<|Ar ?_)
   refine BS (int_eq ?_) rfl
   exact ha
section
def Xe(m:Int):sgn m= -1∨sgn m=0∨sgn m=1:=by
 rcases Aav m 0 with h|h|h
 ·exact .inl (Di h)
 ·subst h;exact .inr (.inl rfl)
 ·exact .inr (.inr (F6 h))
def Vu:∀a b:List UInt8,Lib.compareBytes a b= -1∨Lib.compareBytes a b=0∨Lib.compareBytes a b=1
 |[],[]=>.inr (.inl rfl)
 |[],_::_=>.inl rfl
 |_::_,[]=>.inr (.inr rfl)
 |a::l,b::m=>by
  simp only[Lib.compareBytes];by_cases h1:a<b
  ·rw[if_pos h1];exact .inl rfl
  ·rw[if_neg h1];by_cases h2:b<a
   ·rw[if_pos h2];exact .inr (.inr rfl)
   ·rw[if_neg h2];exact Vu l m
section
variable {P:Program}{pan:List PanicEntry→A0}{Qn:Env→A0}{Ls L:List Ag}{ρ:Env}{d:Ag}{s:GS}{t:Nat}{tk:Bool}
def Ub{x y}{a b:Int}(ex:ev ρ x=vZ a)(ey:ev ρ y=vZ b)(ha:a= -1∨a=0∨a=1)(hb:b= -1∨b=0∨b=1)(h:gws P pan Qn s Ls (upd ρ t (vZ (a*b))) d L):
  gws P pan Qn (.op tk ⟨some t,none,.bin .mul x y⟩ s) Ls ρ d L:=by
 refine Db ?_ h
 rw[ex,ey]
 simp only[C2]
 rcases ha with rfl|rfl|rfl<;>rcases hb with rfl|rfl|rfl<;>rfl
end
def Uz(a0 a1 a2 a3 a4 a5:Nat):A6:=⟨63,[(.tmp 4),(.tmp 5)],(sR (o1 2 (.box 0)<|o1 3 (.box 1)<|o1 4 (.mv z0)<|o1 5 (.mv z0) .done) (.seq (sR (o1 10 (.ld (some 2) 2)<|oc 11 a0 [10]<|o1 12 (.un .not 11)<|om 13 12<|oF 14 13 (.ld (some 2) 3)<|oF 15 13 (.call a0 [14])<|oF 16 13 (.un .not 15)<|o1 17 (.pick 13 (.const (.bool true)) 16) .done) (.cond 17 (sR (o1 4 (.mv z0)<|o1 5 (.mv (kZ 10)) .done) .ret) .skip)) (.seq (.reg true (p1 18 (.ld (some 2) 2)<|p1 20 (.ld (some 2) 3)<|oc 19 a1 [18]<|oc 21 a1 [20]<|pm 6 19<|pm 7 21 .done)) (.seq (sR (om 22 6<|om 23 7<|ob 24 .neq 22 23<|om 25 24<|gF 26 25 6<|oF 27 25 (.bin .eql 26 z0)<|o1 28 (.pick 25 (.const (.bool true)) 27) .done) (.cond 28 (sR (om 29 6<|om 30 7<|oc 31 a2 [29,30]<|om 4 31<|o1 5 (.mv z0) .done) .ret) .skip)) (.seq (.reg true (p1 32 (.ld (some 2) 2)<|p1 36 (.fld 1 2)<|pl 37 36<|p1 39 (.ld (some 2) 3)<|p1 43 (.fld 1 3)<|pl 44 43<|oc 33 a3 [32]<|oc 34 a4 [33,(kZ 10)]<|p1 35 (.lens 34)<|p1 38 (.bin .add 35 37)<|oc 40 a3 [39]<|oc 41 a4 [40,(kZ 10)]<|p1 42 (.lens 41)<|p1 45 (.bin .add 42 44)<|pm 8 38<|pm 9 45 .done)) (.seq (sR (om 46 8<|om 47 9<|ob 48 .neq 46 47 .done) (.cond 48 (sR (om 49 6<|om 50 8<|om 51 9<|oc 52 a2 [50,51]<|ob 53 .mul 49 52<|om 4 53<|o1 5 (.mv z0) .done) .ret) .skip)) (.seq (.reg true (pm 54 6<|p1 55 (.ld (some 2) 2)<|p1 58 (.ld (some 2) 3)<|oc 56 a3 [55]<|oc 57 a4 [56,(kZ 10)]<|oc 59 a3 [58]<|oc 60 a4 [59,(kZ 10)]<|oc 61 a5 [57,60]<|p1 62 (.bin .mul 54 61) (.bar (pm 4 62 (p1 5 (.mv z0) .done))))) .ret)))))))⟩
set_option maxHeartbeats 1000000 in
def XE{T:Ag→Prop}{P f3 f4 f5 f6}(hd:dec P f=some (Uz f1 f2 f3 f4 f5 f6))(h1:G7 T P f1)(h2:PO P f2)(h3:Gg P f3)(h4:Nt P f4)(h5:IG T P f5)(h6:E7 P f6):FO T P f:=by
 intro d m1 e1 m2 e2 ht i1 i2 i3 i4;refine AM.of' hd (No rfl) ?_;show gwp P _ _ _ _ _;apply Ai;apply Ay;refine AO (l:=[vZ m1,vZ e1]) rfl (fun t2 T2=>?_);refine AO (l:=[vZ m2,vZ e2]) rfl (fun t3 T3=>?_);cases r1:Br m1 e1 with
 |false=>
  rw[Dw,r1]
  (refine Ab rfl<|Ab rfl<|Aa<|Ai<|Ac<|AD 1 rfl rfl rfl ?_)
  refine AF rfl (h1 ht i1 i2) ?_
  rw[r1]
  (refine Bi rfl<|Ad rfl<|Ak rfl<|Ak rfl<|Ak rfl<|Ap rfl rfl<|Aa<|Bb rfl<|Ac<|Ab rfl<|Ab rfl<|Aa<|Ar ?_)
  exact BS rfl rfl
 |true=>
  cases r2:Br m2 e2 with
  |false=>
   rw[Dw,r1,r2]
   (refine Ab rfl<|Ab rfl<|Aa<|Ai<|Ac<|AD 1 rfl rfl rfl ?_)
   refine AF rfl (h1 ht i1 i2) ?_
   rw[r1]
   (refine Bi rfl<|Ad rfl<|Ae rfl<|AD 0 rfl rfl rfl<|Ae rfl ?_)
   refine AF rfl (h1 ht i3 i4) ?_
   rw[r2]
   (refine Ae rfl<|Bi rfl<|An rfl rfl<|Aa<|Bb rfl<|Ac<|Ab rfl<|Ab rfl<|Aa<|Ar ?_)
   exact BS rfl rfl
  |true=>
   have b1:=PL r1
   have b2:=PL r2
   have hpl:= @Tn m1 e1 m2 e2 r1 r2
   have hsg:= @Ho m1 e1 m2 e2
   have u1:m1.natAbs<18446744073709551616:=by omega
   have u2:m2.natAbs<18446744073709551616:=by omega
   have l1:=Lib.decDigits_length m1.natAbs
   have l2:=Lib.decDigits_length m2.natAbs
   have k1:=Lib.nDigits_le20 m1.natAbs u1
   have k2:=Lib.nDigits_le20 m2.natAbs u2
   rw[Dw,r1,r2]
   (refine Ab rfl<|Ab rfl<|Aa<|Ai<|Ac<|AD 1 rfl rfl rfl ?_)
   refine AF rfl (h1 ht i1 i2) ?_
   rw[r1]
   (refine Bi rfl<|Ad rfl<|Ae rfl<|AD 0 rfl rfl rfl<|Ae rfl ?_)
   refine AF rfl (h1 ht i3 i4) ?_
   rw[r2]
   (refine Ae rfl<|Bi rfl<|An rfl rfl<|Aa<|AK rfl<|Am<|Ai<|AT<|AD 1 rfl rfl rfl<|AD 0 rfl rfl rfl ?_)
   refine AF rfl h2 ?_
   refine AF rfl h2 ?_
   have hfin:∀{x:Int},x=Cn m1 e1 m2 e2→Value.int .i64 x=vZ (if (true && true)=true then(Cn m1 e1 m2 e2,(0:Int)) else(0,10)).1:=fun h=>by rw[h];rfl
   by_cases hs:sgn m1=sgn m2
   ·by_cases h0:sgn m1=0
    ·(refine Ab rfl<|Ab rfl<|AW<|Ai<|Ac<|Ab rfl<|Ab rfl<|AG rfl rfl<|Ad rfl<|AB rfl (by omega)<|Ae rfl<|Ab rfl<|Ae rfl<|Aq rfl rfl<|An rfl rfl<|Aa<|Au rfl (by omega)<|Ac<|Ab rfl<|Ab rfl ?_)
     refine AF rfl h3 ?_
     (refine Ab rfl<|Ab rfl<|Aa<|Ar ?_)
     exact BS (hfin (hsg (.inr h0)).symm) rfl
    ·have hpl:=hpl hs h0
     by_cases hp:((Lib.decDigits m1.natAbs).length:Int)+e1=(Lib.decDigits m2.natAbs).length+e2
     ·rw[if_neg (by omega)] at hpl
      have q1:=Xe m1
      have q2:=Vu (Lib.decDigits m1.natAbs) (Lib.decDigits m2.natAbs)
      (refine Ab rfl<|Ab rfl<|AW<|Ai<|Ac<|Ab rfl<|Ab rfl<|AG rfl rfl<|Ad rfl<|AB rfl (by omega)<|Ae rfl<|Ab rfl<|Ae rfl<|Aq rfl rfl<|An rfl rfl<|Aa<|Ao rfl (by omega)<|Am<|Ai<|AT<|AD 1 rfl rfl rfl<|Af rfl<|Ah rfl (Aj 1 rfl rfl)<|AD 0 rfl rfl rfl<|Af rfl<|Ah rfl (Aj 0 rfl rfl) ?_)
      refine AF rfl (h4 i1) ?_
      refine AF rfl (h5 ht u1) ?_
      (refine ED rfl<|AI rfl rfl (by omega) (by omega) ?_)
      refine AF rfl (h4 i3) ?_
      refine AF rfl (h5 ht u2) ?_
      (refine ED rfl<|AI rfl rfl (by omega) (by omega)<|Ab rfl<|Ab rfl<|AW<|Ai<|Ac<|Ab rfl<|Ab rfl<|AG rfl rfl<|Aa<|Ao rfl (by omega)<|Am<|Ai<|AT<|Ab rfl<|AD 1 rfl rfl rfl<|AD 0 rfl rfl rfl ?_)
      refine AF rfl (h4 i1) ?_
      refine AF rfl (h5 ht u1) ?_
      refine AF rfl (h4 i3) ?_
      refine AF rfl (h5 ht u2) ?_
      refine AF rfl h6 ?_
      refine Ub rfl rfl q1 q2 ?_
      (refine Bt<|Ab rfl<|Ab rfl<|Aa<|Ar ?_)
      exact BS (hfin hpl.symm) rfl
     ·rw[if_pos (by omega)] at hpl
      have q1:=Xe m1
      have q2:=Jt ((Lib.decDigits m1.natAbs).length+e1) ((Lib.decDigits m2.natAbs).length+e2)
      (refine Ab rfl<|Ab rfl<|AW<|Ai<|Ac<|Ab rfl<|Ab rfl<|AG rfl rfl<|Ad rfl<|AB rfl (by omega)<|Ae rfl<|Ab rfl<|Ae rfl<|Aq rfl rfl<|An rfl rfl<|Aa<|Ao rfl (by omega)<|Am<|Ai<|AT<|AD 1 rfl rfl rfl<|Af rfl<|Ah rfl (Aj 1 rfl rfl)<|AD 0 rfl rfl rfl<|Af rfl<|Ah rfl (Aj 0 rfl rfl) ?_)
      refine AF rfl (h4 i1) ?_
      refine AF rfl (h5 ht u1) ?_
      (refine ED rfl<|AI rfl rfl (by omega) (by omega) ?_)
      refine AF rfl (h4 i3) ?_
      refine AF rfl (h5 ht u2) ?_
      (refine ED rfl<|AI rfl rfl (by omega) (by omega)<|Ab rfl<|Ab rfl<|AW<|Ai<|Ac<|Ab rfl<|Ab rfl<|AG rfl rfl<|Aa<|Au rfl (by omega)<|Ac<|Ab rfl<|Ab rfl<|Ab rfl ?_)
      refine AF rfl h3 ?_
      refine Ub rfl rfl q1 q2 ?_
      (refine Ab rfl<|Ab rfl<|Aa<|Ar ?_)
      exact BS (hfin hpl.symm) rfl
   ·(refine Ab rfl<|Ab rfl<|AW<|Ai<|Ac<|Ab rfl<|Ab rfl<|AG rfl rfl<|Ad rfl<|AE rfl (by omega)<|Ak rfl<|Ak rfl<|Ap rfl rfl<|Aa<|Bb rfl<|Ac<|Ab rfl<|Ab rfl ?_)
    refine AF rfl h3 ?_
    (refine Ab rfl<|Ab rfl<|Aa<|Ar ?_)
    exact BS (hfin (hsg (.inl hs)).symm) rfl
end
end Go.Gk.Val
end
section
namespace Go.Gk.Val
open Go Go.Gk Go.Gk.Num
section
def thn(a b:Int):Int:=if a=0 then b else a
def BT{α}(f:α→α→Int):List α→List α→Int
 |[],[]=>0
 |[],_::_=> -1
 |_::_,[]=>1
 |a::l,b::m=>thn (f a b) (BT f l m)
abbrev C4:List UInt8→List UInt8→Int:=Lib.compareBytes
mutual
def BA:V→V→Int
 |.mk k m e t l ks,b=>thn (BQ k b.kind) (thn (if k=3 then Cn m e b.m b.e else 0) (thn (C4 t b.text) (thn (BT C4 ks b.keys) (Jo l b.list))))
def Jo:List V→List V→Int
 |[],[]=>0
 |[],_::_=> -1
 |_::_,[]=>1
 |a::l,b::m=>thn (BA a b) (Jo l m)
end
def PU:∀l m:List V,Jo l m=BT BA l m
 |[],[]=>by simp[Jo,BT]
 |[],_::_=>by simp[Jo,BT]
 |_::_,[]=>by simp[Jo,BT]
 |a::l,b::m=>by simp only[Jo,BT];rw[PU l m]
def E0(a b:V):BA a b=thn (BQ a.kind b.kind) (thn (if a.kind=3 then Cn a.m a.e b.m b.e else 0) (thn (C4 a.text b.text) (thn (BT C4 a.keys b.keys) (BT BA a.list b.list)))):=by
 obtain⟨k,m,e,t,l,ks⟩:=a;rw[BA,PU]
def DS(b:Int):thn 0 b=b:=if_pos rfl
def D7{a:Int}(h:a≠0)(b:Int):thn a b=a:=if_neg h
def W5(a:Int):thn a 0=a:=by rw[thn];split<;>simp_all
def HD{a b:Int}:thn a b=0↔a=0∧b=0:=by rw[thn];split<;>simp_all
def IH(a b:Int):thn (-a) (-b)= -thn a b:=by rw[thn,thn];split<;>split<;>omega
section
variable {α:Type}{f:α→α→Int}
def WI:BT f [] []=0:=rfl
def Ff:∀(i:Nat) (l m:List α),i≤l.length→i≤m.length→(i=l.length∨i=m.length)→BT f (l.drop i) (m.drop i)=BQ l.length m.length:=by
 intro i l m h1 h2 h3;by_cases q1:i=l.length
 ·subst q1;rw[Aag];by_cases q2:l.length=m.length
  ·rw[q2,Aag,Dg rfl];rfl
  ·rw[ZT (by omega),C1 (by omega)];rfl
 ·obtain rfl:i=m.length:=by omega
  rw[Aag,ZT (by omega),CT (by omega)];rfl
def H6{i:Nat}{l m:List α}(h1:i<l.length)(h2:i<m.length):BT f (l.drop i) (m.drop i)=thn (f l[i] m[i]) (BT f (l.drop (i+1)) (m.drop (i+1))):=by
 rw[ZT h1,ZT h2];rfl
def Kn:∀l m:List α,(∀x∈l,∀y∈m,f x y= -f y x)→BT f l m= -BT f m l
 |[],[],_=>rfl
 |[],_::_,_=>rfl
 |_::_,[],_=>rfl
 |a::l,b::m,h=>by
  rw[BT,BT,h a (ZG ..) b (ZG ..),Kn l m (fun x hx y hy=>h x (ZE _ hx) y (ZE _ hy)),IH]
def Iq:∀l m:List α,(∀x∈l,∀y∈m,f x y=0↔x=y)→(BT f l m=0↔l=m)
 |[],[],_=>by simp[BT]
 |[],_::_,_=>by simp[BT]
 |_::_,[],_=>by simp[BT]
 |a::l,b::m,h=>by
  rw[BT,HD,h a (ZG ..) b (ZG ..),Iq l m (fun x hx y hy=>h x (ZE _ hx) y (ZE _ hy)),List.cons.injEq]
def DZ(x z w:Int):Prop:=(x≤0→z≤0→w≤0)∧(x<0→z≤0→w<0)∧(x≤0→z<0→w<0)∧(x=0→z=0→w=0)
def GX{a1 a2 a3 b1 b2 b3:Int}(ha:DZ a1 a2 a3)(hb:a1=0→a2=0→a3=0→DZ b1 b2 b3):DZ (thn a1 b1) (thn a2 b2) (thn a3 b3):=by
 obtain⟨p1,p2,p3,p4⟩:=ha;by_cases q1:a1=0
 ·by_cases q2:a2=0
  ·have q3:=p4 q1 q2;rw[q1,q2,q3,DS,DS,DS];exact hb q1 q2 q3
  ·rw[D7 q2];refine⟨fun h1 h2=>?_,fun h1 h2=>?_,fun h1 h2=>?_,fun h1 h2=>absurd h2 q2⟩<;>
   ·have:=p3 (by omega) (by omega);rw[D7 (by omega)];omega
 ·rw[D7 q1];refine⟨fun h1 h2=>?_,fun h1 h2=>?_,fun h1 h2=>?_,fun h1 h2=>absurd h1 q1⟩<;>
  ·have h3:a2≤0:=by rw[thn] at h2;split at h2<;>omega
   have:=p2 (by omega) h3;rw[D7 (by omega)];omega
def Ha:∀l m n:List α,(∀x∈l,∀y∈m,∀z∈n,DZ (f x y) (f y z) (f x z))→DZ (BT f l m) (BT f m n) (BT f l n)
 |[],m,[],_=>by cases m<;>simp[BT,DZ]
 |[],m,c::n,_=>by cases m<;>simp[BT,DZ]
 |a::l,[],n,_=>by cases n<;>simp[BT,DZ]
 |a::l,b::m,[],_=>by simp[BT,DZ]
 |a::l,b::m,c::n,h=>by
  rw[BT,BT,BT];exact GX (h a (ZG ..) b (ZG ..) c (ZG ..)) (fun _ _ _=>Ha l m n (fun x hx y hy z hz=>h x (ZE _ hx) y (ZE _ hy) z (ZE _ hz)))
end
def I5(a b c:Int):DZ (BQ a b) (BQ b c) (BQ a c):=by
 have key:∀x y:Int,(BQ x y≤0↔x≤y)∧(BQ x y<0↔x<y)∧(BQ x y=0↔x=y):=fun x y=>by
  rcases Aav x y with h|h|h
  ·rw[C1 h];omega
  ·rw[Dg h];omega
  ·rw[CT h];omega
 obtain⟨k1,k2,k3⟩:=key a b;obtain⟨k4,k5,k6⟩:=key b c;obtain⟨k7,k8,k9⟩:=key a c;rw[DZ,k1,k2,k3,k4,k5,k6,k7,k8,k9];omega
def TR(m1 e1 m2 e2 m3 e3:Int):DZ (Cn m1 e1 m2 e2) (Cn m2 e2 m3 e3) (Cn m1 e1 m3 e3):=by
 have h1:min e1 (min e2 e3)≤e1:=by omega
 have h2:min e1 (min e2 e3)≤e2:=by omega
 have h3:min e1 (min e2 e3)≤e3:=by omega
 rw[←Lh m1 e1 m2 e2 _ h1 h2,←Lh m2 e2 m3 e3 _ h2 h3,←Lh m1 e1 m3 e3 _ h1 h3];exact I5 _ _ _
def HE:∀a b:List UInt8,C4 a b=BT (fun(x y:UInt8)=>BQ x.toNat y.toNat) a b
 |[],[]=>rfl
 |[],_::_=>rfl
 |_::_,[]=>rfl
 |a::l,b::m=>by
  rw[C4,Lib.compareBytes,BT];by_cases h1:a<b
  ·rw[if_pos h1];rw[UInt8.lt_iff_toNat_lt] at h1;rw[C1 (by omega),D7 (by decide)]
  ·by_cases h2:b<a
   ·rw[if_neg h1,if_pos h2];rw[UInt8.lt_iff_toNat_lt] at h2;rw[CT (by omega),D7 (by decide)]
   ·rw[if_neg h1,if_neg h2];rw[UInt8.lt_iff_toNat_lt] at h1 h2;rw[Dg (by omega),DS];exact HE l m
def O3(a b:List UInt8):C4 a b=0↔a=b:=by
 rw[HE];exact Iq _ _ (fun x _ y _=>by rw[Ei];exact⟨fun h=>UInt8.toNat_inj.1 (by omega),fun h=>by rw[h]⟩)
def Ng(a b c:List UInt8):DZ (C4 a b) (C4 b c) (C4 a c):=by
 rw[HE,HE,HE];exact Ha _ _ _ (fun _ _ _ _ _ _=>I5 _ _ _)
def Fb(a b:V):BA a b= -BA b a:=by
 induction a using V.ind generalizing b with
 |h a ih=>
  rw[E0,E0,Kn _ _ (fun x hx y _=>ih x hx y),Kn a.keys b.keys (fun x _ y _=>Ig x y),show C4 a.text b.text= -C4 b.text a.text from Ig _ _,GJ]
  by_cases h:b.kind=a.kind
  ·rw[h]
   have:(if a.kind=3 then Cn a.m a.e b.m b.e else 0)= -(if a.kind=3 then Cn b.m b.e a.m a.e else 0):=by
    split
    ·exact OF ..
    ·rfl
   rw[this,IH,IH,IH,IH]
  ·have hz:BQ b.kind a.kind≠0:=fun q=>h (Ei.1 q)
   rw[D7 (by omega),D7 hz]
def Tv(a b c:V):DZ (BA a b) (BA b c) (BA a c):=by
 induction a using V.ind generalizing b c with
 |h a ih=>
  rw[E0 a b,E0 b c,E0 a c]
  refine GX (I5 _ _ _) (fun h1 h2 _=>?_)
  rw[Ei] at h1 h2
  refine GX ?_ (fun _ _ _=>GX (Ng _ _ _) (fun _ _ _=>GX (Ha _ _ _ (fun _ _ _ _ _ _=>Ng _ _ _)) (fun _ _ _=>Ha _ _ _ (fun x hx y _ z _=>ih x hx y z))))
  rw[←h1]
  split
  ·exact TR ..
  ·simp[DZ]
def Gs{v:V}(h:BH v=true):(0≤v.kind∧v.kind≤6)∧(v.kind=3∨(v.m=0∧v.e=0))∧(v.kind=4∨v.text=[])∧(5≤v.kind∨v.list=[])∧(v.kind=6∨v.keys=[])∧Br v.m v.e=true:=by
 have h1:=Gq h;simp only[BW,Cf,Zz,Aad,decide_eq_true_eq] at h1;obtain⟨⟨⟨⟨⟨⟨⟨⟨a,b⟩,c⟩,d⟩,e⟩,n⟩,_⟩,_⟩,_⟩:=h1;exact⟨a,b,c,d,e,n⟩
def H5{a b:V}(ha:BH a=true)(hb:BH b=true):BA a b=0↔a=b:=by
 induction a using V.ind generalizing b with
 |h a ih=>
  obtain⟨_,a2,_,_,_,an⟩:=Gs ha
  obtain⟨_,b2,_,_,_,bn⟩:=Gs hb
  rw[E0,HD,HD,HD,HD,Ei,O3,Iq _ _ (fun x _ y _=>O3 x y),Iq _ _ (fun x hx y hy=>ih x hx (CR ha hx) (CR hb hy))]
  constructor
  ·rintro⟨h1,h2,h3,h4,h5⟩
   have hn:a.m=b.m∧a.e=b.e:=by
    by_cases q:a.kind=3
    ·rw[if_pos q] at h2;exact Up an bn h2
    ·have q2:b.kind≠3:=by omega
     rcases a2 with a2|a2
     ·exact absurd a2 q
     ·rcases b2 with b2|b2
      ·exact absurd b2 q2
      ·omega
   exact V.ext h1 hn.1 hn.2 h3 h5 h4
  ·intro h
   subst h
   refine⟨rfl,?_,rfl,rfl,rfl⟩
   split
   ·rw[Cn,Ei]
   ·rfl
end
end Go.Gk.Val
end
