/-
  Our own texts, one behind the other: GkJS GkJT GkJU GkJV GkJF GkJW GkI2 GkJ4 GkJ5 GkJA GkJB GkJC GkI3 GkI4 GkI5 Gk25 GkM4.
-/
import Derived.Shelf.Sort.Plain
import Derived.Shelf.Slices.In.SortNone
import Derived.Test.YtakjmidegfgjoaaGreatDoorPtE
set_option linter.defProp false
set_option linter.unusedVariables false
set_option linter.unusedSimpArgs false
open Nat renaming le_of_ble_eq_true→Aca,le_refl→Ack,zero_le→Acu,le_trans→Adp,zero_add→Adw,not_lt_zero→Aec,sub_self→Aeu,mul_one→Aex,add_sub_cancel_left→Afd
open List renaming nil_sublist→Acb,length_append→Acd,getElem?_eq_getElem→Acf,length_cons→Acg,append_assoc→Ach,mem_cons_of_mem→Aci,getElem?_eq_some_iff→Acj,length_drop→Acl,eq_nil_of_length_eq_zero→Acm,length_take→Aco,getElem_mem→Acq,mem_cons_self→Acr,length_nil→Acs,drop_eq_getElem_cons→Acv,take_succ_eq_append_getElem→Acx,getElem?_eq_none→Acz,getElem?_take_of_lt→Ada,drop_of_length_le→Adb,mem_singleton→Ade,length_singleton→Adf,mem_cons→Adj,length_pos_iff→Adk,take_of_length_le→Adm,append_nil→Ado,length_map→Adq,getElem_of_mem→Aea,drop_drop→Aeb,length_replicate→Aef,getElem?_drop→Aeg,nil_append→Aer,mem_map_of_mem→Aey,getD→Aez,filter_append→Afe,take_succ_cons→Afh,mem_map→Afj,length→Afp,drop_append_of_le_length→Afq,not_mem_nil→Afz,map_take→Agj,drop_one→Agm,getElem_map→Agq,drop_zero→Agr,map_drop→Aha,perm_ext_iff_of_nodup→Ahc
open Bool renaming true_and→Afi
open List.Sublist renaming cons_cons→Agt,refl→Acy,cons→Ads
open Int renaming toNat_natCast→Adc,le_refl→Afv
open List.Perm renaming swap→Adz
section
namespace Go.Gk.Jsn
open Go Go.Gk Go.Gk.Val
attribute [local irreducible] gwp gws
def OK(P:Program)(f:FuncId):Prop:=∀{d}{c:UInt8},AO P f [.int .u8 (c.toNat:Int)] d (.bool (isD c))
def Kw:Bo:=⟨9,[(.tmp 2)],(sR (o1 2 (.mv (.const (.bool false))) .done) (sR (om 3 0<|ob 4 .geq 3 (.const (.int .u8 48))<|om 5 4<|gT 6 5 0<|oT 7 5 (.bin .leq 6 (.const (.int .u8 57)))<|gP 8 5 7<|om 2 8 .done) .ret))⟩
def AaQ{P f}(hd:dec P f=some Kw):OK P f:=by
 intro d c;refine AO.of' hd (Aca Z) ?_;show gwp P _ _ _ _ _;have hcb:=UInt8.toNat_lt c;have hx:isD c=(decide (48≤c.toNat)&& decide (c.toNat≤57)):=Z;rw[hx];by_cases k1:48≤c.toNat
 ·refine Aj<|Ao Z<|AD Z<|A5 Z Z<|Ac Z<|AA Z<|Aa Z<|Ab Z<|Aa Z<|BN Z Z<|Ah Z Z<|Bk Z<|BF Z ?_;rw[decide_eq_true k1,Afi];exact decide_eq_decide.2 (by omega)
 ·refine Aj<|Ao Z<|AD Z<|A5 Z Z<|Ac Z<|Aw Z<|Aq Z Z<|Af Z Z<|Bk Z<|BF Z ?_;rw[decide_eq_false k1];rfl
def Ew(s:List UInt8):Nat:=(s.filter isD).foldl (fun n c=>if n<1000000 then n*10+dg c else n) 0
def Qb(s:List UInt8)(c:UInt8):Ew (s++[c])=if isD c=true then(if Ew s<1000000 then Ew s*10+dg c else Ew s) else Ew s:=by
 unfold Ew;rw[Afe,List.foldl_append];by_cases h:isD c=true
 ·rw[if_pos h];simp[List.filter,h]
 ·rw[if_neg h];have:isD c=false:=by simpa using h
  simp[List.filter,this]
def MG:∀(n:Nat) (s:List UInt8),s.length=n→Ew s≤10000000
 |0,s,h=>by
  have:s=[]:=Acm h;subst this;decide
 |n+1,s,h=>by
  have hne:s≠[]:=by intro q;subst q;cases h
  have ih:=MG n s.dropLast (by simp[h]);rw[←List.dropLast_concat_getLast hne,Qb];split
  ·rename_i q;have:=Io q;split<;>omega
  ·exact ih
def Re(P:Program)(f:FuncId):Prop:=∀{d s},s.length≤1000000→AO P f [Ag s] d (vZ (sgn (s.any (·==45)) (Ew s)))
def KT(a0:Nat):Bo:=⟨36,[(.tmp 2)],(sR (o1 2 (.mv z0) .done) (sR (o1 3 (.mv z0) .done) (sR (o1 4 (.mv (.const (.bool false))) .done) (.seq (sR (o1 5 (.mv z0) .done) (.block 0 (.loop (.seq (sR (om 6 5<|om 7 0<|o1 8 (.lens 7)<|ob 9 .lss 6 8 .done) (.cond 9 .skip (.exit 0))) (.seq (.block 1 (.seq (sR (om 12 0<|om 13 5<|o1 14 (.sidx 12 13)<|ob 15 .eql 14 (.const (.int .u8 45)) .done) (.cond 15 (rG (o1 4 (.mv (.const (.bool true))) .done)) .skip)) (sR (om 16 0<|om 17 5<|o1 18 (.sidx 16 17)<|oc 19 a0 [18]<|om 20 19<|gT 21 20 3<|oT 22 20 (.bin .lss 21 (kZ 1000000))<|gP 23 20 22 .done) (.cond 23 (rG (om 24 3<|ob 25 .mul 24 (kZ 10)<|om 26 0<|om 27 5<|o1 28 (.sidx 26 27)<|o1 29 (.cvi .i64 28)<|ob 30 .add 25 29<|ob 31 .sub 30 (kZ 48)<|om 3 31 .done)) .skip)))) (rG (om 10 5<|ob 11 .add 10 z1<|om 5 11 .done))))))) (.seq (sR (om 32 4 .done) (.cond 32 (sR (om 33 3<|o1 34 (.un .neg 33)<|om 2 34 .done) .ret) .skip)) (sR (om 35 3<|om 2 35 .done) .ret))))))⟩
set_option maxHeartbeats 1000000 in
def ZC{P f f1}(hd:dec P f=some (KT f1))(h1:OK P f1):Re P f:=by
 intro d s hl;refine AO.of' hd (Aca Z) ?_;show gwp P _ _ _ _ _;refine AD Z<|Br<|Bt Z<|Ao Z<|Ap<|AL Z<|Am<|FJ 0 (fun ρ d' L'=>AZ ρ [(3,vZ (Ew s:Nat)),(4,.bool (s.any (·==45)))]∧d'=d∧L'=[]) ?_ ?_
 ·refine BP (α:=Nat) (fun k=>[(0,Ag s),(3,vZ (Ew (s.take k):Nat)),(4,.bool ((s.take k).any (·==45))),(5,vZ (k:Int))]) (fun k d' L'=>d'=d∧k≤s.length∧L'=[]) (fun k=>s.length - k) 0 ⟨Z,Z,Z,Z,trivial⟩ ⟨Z,Acu _,Z⟩ ?_;rintro k ρ d' L' ⟨hdd,hk,hL⟩;subst hdd;subst hL;have hcq:=MG _ (s.take k) Z;by_cases hk2:k<s.length
  ·have hcx:s[k]?=some s[k]:=Acf hk2;have hsn:=Qb (s.take k) s[k];have hsa:(s.take k++[s[k]]).any (·==45)=((s.take k).any (·==45)||(s[k]==45)):=by rw[List.any_append];simp
   rw[←Acx hk2] at hsn hsa;have p1:=h1 (d:=d') (c:=s[k]);have hub:=UInt8.toNat_lt s[k];generalize s[k]=u at*;generalize (s.take k).any (·==45)=sa at*;generalize Ew (s.take k)=q at*;refine Ap<|Ab Z<|Ak Z<|AX Z<|As Z Z<|AE Z<|Ay<|Ax<|Am<|Ap<|Ak Z<|Ab Z<|AU k Z Z Z hcx<|Ai Z Z<|Av<|KL (fun ρ d2 L'=>AZ ρ [(0,Ag s),(3,vZ (q:Int)),(4,.bool (sa||u==45)),(5,vZ (k:Int))]∧d2=d'∧L'=[]) ?_ ?_
   ·by_cases g:u.toNat=45
    ·have:(u==45)=true:=by simpa using UInt8.toNat_inj.1 g
     rw[this,Bool.or_true];clear this;(refine Bn Z<|Ar<|Ao Z ?_);exact⟨⟨Z,Z,Z,Z,trivial⟩,Z,Z⟩
    ·have:(u==45)=false:=by simpa using fun h=>g (by rw[h];rfl)
     rw[this,Bool.or_false];clear this;(refine AH Z<|Ay ?_);exact⟨⟨Z,Z,Z,Z,trivial⟩,Z,Z⟩
   rintro ρ d2 L' ⟨hs,hdd,hL⟩;subst hdd;subst hL;show gwp P _ _ _ _ _;refine A4 _ hs ?_;clear hs;generalize (sa||u==45)=sb at*;replace hsa:=congrArg Value.bool hsa;by_cases g:isD u=true
   ·have hd9:=Io g;have hd48:48≤u.toNat:=by simp[isD] at g;exact g.1
    have hdu:((dg u:Nat):Int)=(u.toNat:Int) - 48:=by unfold dg;omega
    rw[g] at p1;rw[if_pos g] at hsn;clear g;refine Aj<|Ak Z<|Ab Z<|AU k Z Z Z hcx<|AG Z p1 ?_;by_cases g2:q<1000000
    ·rw[if_pos g2] at hsn;refine Ac Z<|Aa Z<|Ab Z<|Aa Z<|As Z Z<|Ah Z Z<|AE Z<|Ar<|Ab Z<|Me Z Z (by omega) (by omega)<|Ak Z<|Ab Z<|AU k Z Z Z hcx<|Gu Z (by omega) (by omega)<|AY Z Z<|DQ Z Z<|AL Z<|Ar<|Ab Z<|AY Z Z<|AL Z ?_;exact⟨k+1,by omega,⟨Z,congrArg (Value.int .i64) (by rw[hsn];omega),hsa.symm,Z,trivial⟩,Z,by omega,Z⟩
    ·rw[if_neg g2] at hsn;(refine Ac Z<|Aa Z<|Ab Z<|Aa Z<|As Z Z<|Ah Z Z<|AJ Z<|Ar<|Ab Z<|AY Z Z<|AL Z ?_);exact⟨k+1,by omega,⟨Z,congrArg (Value.int .i64) (by rw[hsn]),hsa.symm,Z,trivial⟩,Z,by omega,Z⟩
   ·rw[show isD u=false by simpa using g] at p1;rw[if_neg g] at hsn;clear g;refine Aj<|Ak Z<|Ab Z<|AU k Z Z Z hcx<|AG Z p1<|Ac Z<|Aq Z Z<|Af Z Z<|Bh Z<|Ar<|Ab Z<|AY Z Z<|AL Z ?_;exact⟨k+1,by omega,⟨Z,congrArg (Value.int .i64) (by rw[hsn]),hsa.symm,Z,trivial⟩,Z,by omega,Z⟩
  ·(refine Ap<|Ab Z<|Ak Z<|AX Z<|As Z Z<|BM Z<|A6 ?_);rw[Adm (by omega)];exact Er 0 ⟨⟨Z,Z,trivial⟩,Z,Z⟩
 rintro ρ d2 L' ⟨hs,hdd,hL⟩;subst hdd;subst hL;show gwp P _ _ _ _ _;refine A4 _ hs ?_;clear hs;have hcq:=MG _ s Z;generalize s.any (·==45)=sa at*;cases sa with
 |true=>
  (refine Ap<|Ao Z<|Ci Z<|AD Z<|Ik Z (by omega) (by omega)<|AM Z ?_)
  exact CX Z
 |false=>
  (refine Ap<|Ao Z<|A7 Z<|Ay<|AD Z<|AM Z ?_)
  exact CX Z
def GK(s:List UInt8)(n:Nat):Bool:= !(decide (Bl (s.drop n)=0)||(decide (1<Bl (s.drop n))&& decide (s[n]?=some 48)))
def HR(s:List UInt8)(w:Nat):Option Nat:=if s[w]?=some 46 then(if Bl (s.drop (w+1))=0 then none else some (w+1+Bl (s.drop (w+1)))) else some w
def Ge(s:List UInt8)(q:Nat):Nat:=if s[q]?=some 43∨s[q]?=some 45 then q+1 else q
def I7(s:List UInt8)(q:Nat):Bool:=match s[q]? with
 |none=>true
 |some c=>if c=101∨c=69 then !(decide (Bl (s.drop (Ge s (q+1)))=0))&& decide (((Ge s (q+1)+Bl (s.drop (Ge s (q+1))):Nat):Int)=(s.length:Int)) else false
def CF(s:List UInt8):Nat:=if s[0]?=some 45 then 1 else 0
def BU(s:List UInt8):Nat:=CF s+Bl (s.drop (CF s))
def Fb(s:List UInt8):Option (Nat×Nat):=if GK s (CF s)=false then none else match HR s (BU s) with
 |none=>none
 |some q=>if I7 s q=true then some (BU s,q) else none
def QR(P:Program)(f:FuncId):Prop:=∀{d s},s.length≤1000000→
 Be P f [Ag s] d [] (Ret fun r d' L'=>d'=d∧L'=[]∧∃a b:Int,r=.tuple #[vZ a,vZ b,.bool (Fb s).isSome]∧∀x,Fb s=some x→a=(x.1:Int)∧b=(x.2:Int))
def K2(a0:Nat):Bo:=⟨137,[(.tmp 2),(.tmp 3),(.tmp 4)],(sR (o1 2 (.mv z0)<|o1 3 (.mv z0)<|o1 4 (.mv (.const (.bool false))) .done) (sR (o1 5 (.mv z0) .done) (.seq (sR (om 9 5<|om 10 0<|o1 11 (.lens 10)<|ob 12 .lss 9 11<|om 13 12<|gT 14 13 0<|gT 15 13 5<|oT 16 13 (.sidx 14 15)<|oT 17 13 (.bin .eql 16 (.const (.int .u8 45)))<|gP 18 13 17 .done) (.cond 18 (rG (om 19 5<|ob 20 .add 19 z1<|om 5 20 .done)) .skip)) (sR (om 21 5<|om 6 21 .done) (.seq (.block 0 (.loop (.seq (sR (om 22 5<|om 23 0<|o1 24 (.lens 23)<|ob 25 .lss 22 24<|om 26 25<|gT 27 26 0<|gT 28 26 5<|oT 29 26 (.sidx 27 28)<|oT 30 26 (.call a0 [29])<|gP 31 26 30 .done) (.cond 31 .skip (.exit 0))) (.block 1 (rG (om 32 5<|ob 33 .add 32 z1<|om 5 33 .done)))))) (.seq (sR (om 34 5<|om 35 6<|ob 36 .eql 34 35<|om 37 36<|gF 38 37 5<|gF 39 37 6<|oF 40 37 (.bin .add 39 z1)<|oF 41 37 (.bin .gtr 38 40)<|gF 42 37 41<|gT 43 42 0<|gT 44 42 6<|oT 45 42 (.sidx 43 44)<|oT 46 42 (.bin .eql 45 (.const (.int .u8 48)))<|oF 47 37 (.pick 42 46 (.const (.bool false)))<|o1 48 (.pick 37 (.const (.bool true)) 47) .done) (.cond 48 (sR (o1 2 (.mv z0)<|o1 3 (.mv z0)<|o1 4 (.mv (.const (.bool false))) .done) .ret) .skip)) (sR (om 49 5<|om 7 49 .done) (.seq (sR (om 50 5<|om 51 0<|o1 52 (.lens 51)<|ob 53 .lss 50 52<|om 54 53<|gT 55 54 0<|gT 56 54 5<|oT 57 54 (.sidx 55 56)<|oT 58 54 (.bin .eql 57 (.const (.int .u8 46)))<|gP 59 54 58 .done) (.cond 59 (sR (om 60 5<|ob 61 .add 60 z1<|om 5 61 .done) (.seq (.block 2 (.loop (.seq (sR (om 62 5<|om 63 0<|o1 64 (.lens 63)<|ob 65 .lss 62 64<|om 66 65<|gT 67 66 0<|gT 68 66 5<|oT 69 66 (.sidx 67 68)<|oT 70 66 (.call a0 [69])<|gP 71 66 70 .done) (.cond 71 .skip (.exit 2))) (.block 3 (rG (om 72 5<|ob 73 .add 72 z1<|om 5 73 .done)))))) (sR (om 74 5<|om 75 7<|ob 76 .add 75 z1<|ob 77 .eql 74 76 .done) (.cond 77 (sR (o1 2 (.mv z0)<|o1 3 (.mv z0)<|o1 4 (.mv (.const (.bool false))) .done) .ret) .skip)))) .skip)) (sR (om 78 5<|om 8 78 .done) (.seq (sR (om 79 5<|om 80 0<|o1 81 (.lens 80)<|ob 82 .lss 79 81<|om 83 82<|gT 84 83 0<|gT 85 83 5<|oT 86 83 (.sidx 84 85)<|oT 87 83 (.bin .eql 86 (.const (.int .u8 101)))<|gT 88 83 87<|gF 89 88 0<|gF 90 88 5<|oF 91 88 (.sidx 89 90)<|oF 92 88 (.bin .eql 91 (.const (.int .u8 69)))<|oT 93 83 (.pick 88 (.const (.bool true)) 92)<|gP 94 83 93 .done) (.cond 94 (sR (om 95 5<|ob 96 .add 95 z1<|om 5 96 .done) (.seq (sR (om 97 5<|om 98 0<|o1 99 (.lens 98)<|ob 100 .lss 97 99<|om 101 100<|gT 102 101 0<|gT 103 101 5<|oT 104 101 (.sidx 102 103)<|oT 105 101 (.bin .eql 104 (.const (.int .u8 43)))<|gT 106 101 105<|gF 107 106 0<|gF 108 106 5<|oF 109 106 (.sidx 107 108)<|oF 110 106 (.bin .eql 109 (.const (.int .u8 45)))<|oT 111 101 (.pick 106 (.const (.bool true)) 110)<|gP 112 101 111 .done) (.cond 112 (rG (om 113 5<|ob 114 .add 113 z1<|om 5 114 .done)) .skip)) (sR (om 115 5<|om 6 115 .done) (.seq (.block 4 (.loop (.seq (sR (om 116 5<|om 117 0<|o1 118 (.lens 117)<|ob 119 .lss 116 118<|om 120 119<|gT 121 120 0<|gT 122 120 5<|oT 123 120 (.sidx 121 122)<|oT 124 120 (.call a0 [123])<|gP 125 120 124 .done) (.cond 125 .skip (.exit 4))) (.block 5 (rG (om 126 5<|ob 127 .add 126 z1<|om 5 127 .done)))))) (sR (om 128 5<|om 129 6<|ob 130 .eql 128 129 .done) (.cond 130 (sR (o1 2 (.mv z0)<|o1 3 (.mv z0)<|o1 4 (.mv (.const (.bool false))) .done) .ret) .skip)))))) .skip)) (sR (om 131 7<|om 132 8<|om 133 5<|om 134 0<|o1 135 (.lens 134)<|ob 136 .eql 133 135<|om 2 131<|om 3 132<|om 4 136 .done) .ret)))))))))))⟩
set_option maxHeartbeats 2000000 in
def YF{P f f1}(hd:dec P f=some (K2 f1))(h1:OK P f1):QR P f:=by
 intro d s hl;refine EK hd ?_;have hbad:∀(ρ:Env) (a b:Int),ρ 2=vZ a→ρ 3=vZ b→ρ 4=.bool false→Fb s=none→Cb [.tmp 2,.tmp 3,.tmp 4] (Ret fun r d' L'=>d'=d∧L'=[]∧∃a b:Int,r=.tuple #[vZ a,vZ b,.bool (Fb s).isSome]∧∀x,Fb s=some x→a=(x.1:Int)∧b=(x.2:Int)) ρ d []:=fun ρ a b e2 e3 e4 e=>by
  rw[e];exact Ba [vZ a,vZ b,.bool false] ⟨e2.symm,e3.symm,e4.symm,trivial⟩ (Acb _) ⟨Z,Z,a,b,Z,fun x h=>by cases h⟩
 apply Ax;apply Ar;(refine Ab Z<|Ab Z<|Ao Z ?_);apply Ax;apply Ar;refine AL Z<|CJ (fun ρ d2 L'=>AZ ρ [(0,Ag s),(5,vZ (CF s:Nat))]∧d2=d∧L'=[]) ?_ ?_
 ·clear hbad;unfold CF;by_cases k0:s.length=0
  ·rw[if_neg (by rw[Acz (by omega)];simp)];(refine AD Z<|Ak Z<|AX Z<|As Z Z<|Ac Z<|Aw Z<|Aq Z Z<|Aq Z Z<|Af Z Z<|Bh Z ?_);exact⟨⟨Z,Z,trivial⟩,Z,Z⟩
  obtain⟨c,hc⟩:∃c,s[0]?=some c:=⟨_,Acf (by omega)⟩
  have hcb:=UInt8.toNat_lt c;by_cases k1:c.toNat=45
  ·rw[if_pos (by rw[hc,show c=45 from UInt8.toNat_inj.1 k1])];refine AD Z<|Ak Z<|AX Z<|As Z Z<|Ac Z<|AA Z<|Aa Z<|Ak Z<|Aa Z<|Ab Z<|Aa Z<|AU 0 Z Z Z hc<|Aa Z<|Ai Z Z<|Ah Z Z<|AE Z<|Ar<|Ab Z<|AY Z Z<|AL Z ?_;exact⟨⟨Z,Z,trivial⟩,Z,Z⟩
  ·rw[if_neg (by rw[hc];exact fun h=>k1 (by rw[Option.some.inj h];rfl))];refine AD Z<|Ak Z<|AX Z<|As Z Z<|Ac Z<|AA Z<|Aa Z<|Ak Z<|Aa Z<|Ab Z<|Aa Z<|AU 0 Z Z Z hc<|Aa Z<|Ai Z Z<|Ah Z Z<|AJ Z ?_;exact⟨⟨Z,Z,trivial⟩,Z,Z⟩
 rintro ρ d2 L' ⟨hs,hdd,hL⟩;subst hdd;subst hL;refine A4 _ hs ?_;clear hs;have hn1:CF s≤s.length:=by
  unfold CF;split
  ·rename_i q;obtain⟨h,_⟩:=Acj.1 q;omega
  ·omega
 have hform:Fb s=if GK s (CF s)=false then none else match HR s (CF s+Bl (s.drop (CF s))) with
  |none=>none
  |some q=>if I7 s q=true then some (CF s+Bl (s.drop (CF s)),q) else none:=Z
 generalize CF s=n at*;refine AD Z<|AL Z<|Ax<|Am<|FJ 0 (fun ρ d3 L'=>AZ ρ [(0,Ag s),(6,vZ (n:Int)),(5,vZ ((n+Bl (s.drop (n)):Nat):Int))]∧d3=d2∧L'=[]) ?_ ?_
 ·refine BP (α:=Nat) (fun k=>[(0,Ag s),(6,vZ (n:Int)),(5,vZ ((n+k:Nat):Int))]) (fun k d3 L'=>d3=d2∧n+k≤s.length∧k≤Bl (s.drop (n))∧L'=[]) (fun k=>s.length - k) 0 ⟨Z,Z,Z,trivial⟩ ⟨Z,by omega,Acu _,Z⟩ ?_;rintro k ρ d3 L' ⟨hdd,hk,hr,hL⟩;subst hdd;subst hL;have hat:=J4 (s.drop (n)) k hr;rw[Aeb] at hat;clear hbad hform;by_cases hk2:n+k<s.length
  ·have hc:s[n+k]?=some s[n+k]:=Acf hk2;rw[Acv hk2,Bl] at hat;have p1:=h1 (d:=d3) (c:=s[n+k]);by_cases g:isD s[n+k]=true
   ·rw[if_pos g] at hat;rw[g] at p1;clear g;generalize s[n+k]=u at*;refine Ap<|Ab Z<|Ak Z<|AX Z<|As Z Z<|Ac Z<|AA Z<|Aa Z<|Ak Z<|Aa Z<|Ab Z<|Aa Z<|AU (n+k) Z Z (by omega) hc ?_;(apply Aa;rfl);refine AG Z p1<|Ah Z Z<|BK Z<|Ay<|Am<|Ar<|Ab Z<|AY Z Z<|AL Z ?_;exact⟨k+1,by omega,⟨Z,Z,congrArg (Value.int .i64) (by omega),trivial⟩,Z,by omega,by omega,Z⟩
   ·rw[if_neg g] at hat;rw[show isD s[n+k]=false by simpa using g] at p1;clear g;generalize s[n+k]=u at*;refine Ap<|Ab Z<|Ak Z<|AX Z<|As Z Z<|Ac Z<|AA Z<|Aa Z<|Ak Z<|Aa Z<|Ab Z<|Aa Z<|AU (n+k) Z Z (by omega) hc ?_;(apply Aa;rfl);refine AG Z p1<|Ah Z Z<|EX Z<|A6<|Er 0 ⟨⟨Z,Z,congrArg (Value.int .i64) (by omega),trivial⟩,Z,Z⟩
  ·have e0:s.drop (n+k)=[]:=Adb (by omega);rw[e0] at hat;have h0:Bl []=0:=Z;refine Ap<|Ab Z<|Ak Z<|AX Z<|As Z Z<|Ac Z<|Aw Z<|Aq Z Z<|Aq Z Z<|Af Z Z<|EX Z<|A6<|Er 0 ⟨⟨Z,Z,congrArg (Value.int .i64) (by omega),trivial⟩,Z,Z⟩
 rintro ρ d3 L' ⟨hs,hdd,hL⟩;subst hdd;subst hL;show gwp P _ _ _ _ _;refine A4 _ hs ?_;clear hs;have hrn:=EJ (s.drop n);rw[Acl] at hrn;refine CJ (fun ρ d4 L'=>GK s n=true∧AZ ρ [(0,Ag s),(5,vZ ((n+Bl (s.drop n):Nat):Int))]∧d4=d3∧L'=[]) ?_ ?_
 ·by_cases k1:Bl (s.drop n)=0
  ·have hb:Fb s=none:=by rw[hform,GK,if_pos (by simp[k1])]
   clear hform;rw[k1];refine AD Z<|Ab Z<|Ai Z Z<|Ac Z<|AA Z<|Aq Z Z<|Aq Z Z<|AF Z<|AN Z<|AN Z<|AN Z<|AN Z<|AF Z<|Ah Z Z<|BK Z<|AD Z<|Ab Z<|Bk Z<|hbad _ _ _ Z Z Z hb
  by_cases k2:1<Bl (s.drop n)
  ·obtain⟨c,hc⟩:∃c,s[n]?=some c:=⟨_,Acf (by omega)⟩
   have hcb:=UInt8.toNat_lt c;by_cases k3:c.toNat=48
   ·have hb:Fb s=none:=by rw[hform,GK,if_pos (by rw[hc,show c=48 from UInt8.toNat_inj.1 k3];simp[k2])]
    clear hform;generalize Bl (s.drop n)=w at*;refine AD Z<|Ab Z<|Ai Z Z<|Ac Z<|Aw Z<|Aa Z<|Ab Z<|Aa Z<|Ab Z<|Aa Z<|AY Z Z<|Aa Z<|AS Z Z<|Aa Z<|Ac Z<|AA Z<|Aa Z<|Ak Z<|Aa Z<|Ab Z<|Aa Z<|AU n Z Z Z hc<|Aa Z<|Ai Z Z<|Aa Z<|Ah Z Z<|Af Z Z<|AE Z<|AD Z<|Ab Z<|Bk Z<|hbad _ _ _ Z Z Z hb
   ·have hb:GK s n=true∧True:=⟨by
     rw[GK,hc,decide_eq_false k1,decide_eq_false (show¬(some c=some 48) from fun h=>k3 (by rw[Option.some.inj h];rfl))];simp,trivial⟩
    clear hform hbad;generalize Bl (s.drop n)=w at*;refine AD Z<|Ab Z<|Ai Z Z<|Ac Z<|Aw Z<|Aa Z<|Ab Z<|Aa Z<|Ab Z<|Aa Z<|AY Z Z<|Aa Z<|AS Z Z<|Aa Z<|Ac Z<|AA Z<|Aa Z<|Ak Z<|Aa Z<|Ab Z<|Aa Z<|AU n Z Z Z hc<|Aa Z<|Ai Z Z<|Aa Z<|Ah Z Z<|Af Z Z<|AJ Z ?_;exact⟨hb.1,⟨Z,Z,trivial⟩,Z,Z⟩
  ·have hb:GK s n=true∧True:=⟨by rw[GK,decide_eq_false k1,decide_eq_false k2];simp,trivial⟩
   clear hform hbad;generalize Bl (s.drop n)=w at*;(refine AD Z<|Ab Z<|Ai Z Z<|Ac Z<|Aw Z<|Aa Z<|Ab Z<|Aa Z<|Ab Z<|Aa Z<|AY Z Z<|Aa Z<|AS Z Z<|Aa Z<|Ac Z<|Aw Z<|Aq Z Z<|Aq Z Z<|Aa Z<|Af Z Z<|Af Z Z<|Bh Z ?_);exact⟨hb.1,⟨Z,Z,trivial⟩,Z,Z⟩
 rintro ρ d4 L' ⟨hb1,hs,hdd,hL⟩;subst hdd;subst hL;rw[if_neg (by rw[hb1];decide)] at hform;clear hb1;refine A4 _ hs ?_;clear hs;have hwl:n+Bl (s.drop n)≤s.length:=by omega
 generalize n+Bl (s.drop n)=w at*;apply Ax;apply Ar;refine Ab Z<|AL Z<|CJ (fun ρ d5 L'=>∃q,HR s w=some q∧q≤s.length∧AZ ρ [(0,Ag s),(5,vZ (q:Int)),(7,vZ (w:Int))]∧d5=d4∧L'=[]) ?_ ?_
 ·by_cases k0:w<s.length
  ·obtain⟨c,hc⟩:∃c,s[w]?=some c:=⟨_,Acf (by omega)⟩
   have hcb:=UInt8.toNat_lt c;by_cases k1:c.toNat=46
   ·have hf:HR s w=if Bl (s.drop (w+1))=0 then none else some (w+1+Bl (s.drop (w+1))):=by rw[HR,if_pos (by rw[hc,show c=46 from UInt8.toNat_inj.1 k1])]
    refine AD Z<|Ak Z<|AX Z<|As Z Z<|Ac Z<|AA Z<|Aa Z<|Ak Z<|Aa Z<|Ab Z<|Aa Z<|AU w Z Z Z hc<|Aa Z<|Ai Z Z<|Ah Z Z<|AE Z<|AD Z<|AY Z Z<|AL Z<|Ax<|Am ?_;have hw1:w+1≤s.length:=by omega
    refine FJ 2 (fun ρ d5 L'=>AZ ρ [(0,Ag s),(7,vZ (w:Int)),(5,vZ ((w+1+Bl (s.drop (w+1)):Nat):Int))]∧d5=d4∧L'=[]) ?_ ?_
    ·refine BP (α:=Nat) (fun k=>[(0,Ag s),(7,vZ (w:Int)),(5,vZ ((w+1+k:Nat):Int))]) (fun k d5 L'=>d5=d4∧w+1+k≤s.length∧k≤Bl (s.drop (w+1))∧L'=[]) (fun k=>s.length - k) 0 ⟨Z,Z,Z,trivial⟩ ⟨Z,by omega,Acu _,Z⟩ ?_;rintro k ρ d5 L' ⟨hdd,hk,hr,hL⟩;subst hdd;subst hL;have hat:=J4 (s.drop (w+1)) k hr;rw[Aeb] at hat;clear hbad hform;by_cases hk2:w+1+k<s.length
     ·have hc:s[w+1+k]?=some s[w+1+k]:=Acf hk2;rw[Acv hk2,Bl] at hat;have p1:=h1 (d:=d5) (c:=s[w+1+k]);by_cases g:isD s[w+1+k]=true
      ·rw[if_pos g] at hat;rw[g] at p1;clear g;generalize s[w+1+k]=u at*;refine Ap<|Ab Z<|Ak Z<|AX Z<|As Z Z<|Ac Z<|AA Z<|Aa Z<|Ak Z<|Aa Z<|Ab Z<|Aa Z<|AU (w+1+k) Z Z (by omega) hc ?_;(apply Aa;rfl);refine AG Z p1<|Ah Z Z<|BK Z<|Ay<|Am<|Ar<|Ab Z<|AY Z Z<|AL Z ?_;exact⟨k+1,by omega,⟨Z,Z,congrArg (Value.int .i64) (by omega),trivial⟩,Z,by omega,by omega,Z⟩
      ·rw[if_neg g] at hat;rw[show isD s[w+1+k]=false by simpa using g] at p1;clear g;generalize s[w+1+k]=u at*;refine Ap<|Ab Z<|Ak Z<|AX Z<|As Z Z<|Ac Z<|AA Z<|Aa Z<|Ak Z<|Aa Z<|Ab Z<|Aa Z<|AU (w+1+k) Z Z (by omega) hc ?_;(apply Aa;rfl);refine AG Z p1<|Ah Z Z<|EX Z<|A6<|Er 2 ⟨⟨Z,Z,congrArg (Value.int .i64) (by omega),trivial⟩,Z,Z⟩
     ·have e0:s.drop (w+1+k)=[]:=Adb (by omega);rw[e0] at hat;have h0:Bl []=0:=Z;refine Ap<|Ab Z<|Ak Z<|AX Z<|As Z Z<|Ac Z<|Aw Z<|Aq Z Z<|Aq Z Z<|Af Z Z<|EX Z<|A6<|Er 2 ⟨⟨Z,Z,congrArg (Value.int .i64) (by omega),trivial⟩,Z,Z⟩
    rintro ρ d5 L' ⟨hs,hdd,hL⟩;subst hdd;subst hL;show gwp P _ _ _ _ _;refine A4 _ hs ?_;clear hs;have hrw:=EJ (s.drop (w+1));rw[Acl] at hrw;by_cases k2:Bl (s.drop (w+1))=0
    ·rw[if_pos k2] at hf;have hb:Fb s=none:=by rw[hform,hf]
     clear hform;rw[k2];refine AD Z<|Ab Z<|AY Z Z<|Ai Z Z<|AE Z<|AD Z<|Ab Z<|Bk Z<|hbad _ _ _ Z Z Z hb
    ·rw[if_neg k2] at hf;clear hform hbad;generalize Bl (s.drop (w+1))=r at*;(refine AD Z<|Ab Z<|AY Z Z<|Ai Z Z<|AJ Z ?_);exact⟨_,hf,by omega,⟨Z,Z,Z,trivial⟩,Z,Z⟩
   ·have hf:HR s w=some w:=by rw[HR,if_neg (by rw[hc];exact fun h=>k1 (by rw[Option.some.inj h];rfl))]
    clear hform hbad;refine AD Z<|Ak Z<|AX Z<|As Z Z<|Ac Z<|AA Z<|Aa Z<|Ak Z<|Aa Z<|Ab Z<|Aa Z<|AU w Z Z Z hc<|Aa Z<|Ai Z Z<|Ah Z Z<|AJ Z ?_;exact⟨_,hf,by omega,⟨Z,Z,Z,trivial⟩,Z,Z⟩
  ·have hf:HR s w=some w:=by rw[HR,if_neg (by rw[Acz (by omega)];simp)]
   clear hform hbad;(refine AD Z<|Ak Z<|AX Z<|As Z Z<|Ac Z<|Aw Z<|Aq Z Z<|Aq Z Z<|Af Z Z<|Bh Z ?_);exact⟨_,hf,by omega,⟨Z,Z,Z,trivial⟩,Z,Z⟩
 rintro ρ d5 L' ⟨q,hq,hql,hs,hdd,hL⟩;subst hdd;subst hL;rw[hq] at hform;simp only at hform;clear hq;refine A4 _ hs ?_;clear hs;apply Ax;apply Ar;refine Ab Z<|AL Z<|CJ (fun ρ d6 L'=>∃i:Nat,I7 s q=decide ((i:Int)=(s.length:Int))∧i≤s.length∧AZ ρ [(0,Ag s),(5,vZ (i:Int)),(7,vZ (w:Int)),(8,vZ (q:Int))]∧d6=d5∧L'=[]) ?_ ?_
 ·by_cases k0:q<s.length
  ·obtain⟨c,hc⟩:∃c,s[q]?=some c:=⟨_,Acf (by omega)⟩
   have hcb:=UInt8.toNat_lt c;by_cases k1:c.toNat=101∨c.toNat=69
   ·have hex:I7 s q=(!(decide (Bl (s.drop (Ge s (q+1)))=0))&& decide (((Ge s (q+1)+Bl (s.drop (Ge s (q+1))):Nat):Int)=(s.length:Int))):=by
     rw[I7,hc];simp only;rw[if_pos (k1.elim (fun h=>.inl (UInt8.toNat_inj.1 h)) (fun h=>.inr (UInt8.toNat_inj.1 h)))]
    refine CJ (fun ρ d6 L'=>AZ ρ [(0,Ag s),(5,vZ (q:Int)),(7,vZ (w:Int)),(8,vZ (q:Int)),(94,.bool true)]∧d6=d5∧L'=[]) ?_ ?_
    ·clear hform hbad hex;by_cases k2:c.toNat=101
     ·refine Ar<|Ab Z<|Ak Z<|AX Z<|As Z Z<|Ac Z<|AA Z<|Aa Z<|Ak Z<|Aa Z<|Ab Z<|Aa Z<|AU q Z Z Z hc<|Aa Z<|Ai Z Z<|Aa Z<|Ac Z<|AA Z<|Aq Z Z<|Aq Z Z<|Aa Z<|Ah Z Z<|Ah Z Z<|Av ?_;exact⟨⟨Z,Z,Z,Z,Z,trivial⟩,Z,Z⟩
     ·have k3:c.toNat=69:=by omega
      refine Ar<|Ab Z<|Ak Z<|AX Z<|As Z Z<|Ac Z<|AA Z<|Aa Z<|Ak Z<|Aa Z<|Ab Z<|Aa Z<|AU q Z Z Z hc<|Aa Z<|Ai Z Z<|Aa Z<|Ac Z<|Aw Z<|Aa Z<|Ak Z<|Aa Z<|Ab Z<|Aa Z<|AU q Z Z Z hc<|Aa Z<|Ai Z Z<|Aa Z<|Af Z Z<|Ah Z Z<|Av ?_;exact⟨⟨Z,Z,Z,Z,congrArg Value.bool (decide_eq_true (by omega)),trivial⟩,Z,Z⟩
    rintro ρ d6 L' ⟨hs,hdd,hL⟩;subst hdd;subst hL;refine A4 _ hs ?_;clear hs;apply Ci
    ·rfl
    apply Ax;apply Ar;refine Ab Z<|AY Z Z<|AL Z<|CJ (fun ρ d7 L'=>AZ ρ [(0,Ag s),(5,vZ (Ge s (q+1):Nat)),(7,vZ (w:Int)),(8,vZ (q:Int))]∧d7=d6∧L'=[]) ?_ ?_
    ·clear hform hbad hex;unfold Ge;by_cases k2:q+1<s.length
     ·obtain⟨u,hu⟩:∃u,s[q+1]?=some u:=⟨_,Acf (by omega)⟩
      have hub:=UInt8.toNat_lt u;by_cases k3:u.toNat=43
      ·rw[if_pos (by rw[hu,show u=43 from UInt8.toNat_inj.1 k3];exact .inl Z)];refine AD Z<|Ak Z<|AX Z<|As Z Z<|Ac Z<|AA Z<|Aa Z<|Ak Z<|Aa Z<|Ab Z<|Aa Z<|AU (q+1) Z Z Z hu<|Aa Z<|Ai Z Z<|Aa Z<|Ac Z<|AA Z<|Aq Z Z<|Aq Z Z<|Aa Z<|Ah Z Z<|Ah Z Z<|BK Z<|Ar<|Ab Z<|AY Z Z<|AL Z ?_;exact⟨⟨Z,Z,Z,Z,trivial⟩,Z,Z⟩
      by_cases k4:u.toNat=45
      ·rw[if_pos (by rw[hu,show u=45 from UInt8.toNat_inj.1 k4];exact .inr Z)];refine AD Z<|Ak Z<|AX Z<|As Z Z<|Ac Z<|AA Z<|Aa Z<|Ak Z<|Aa Z<|Ab Z<|Aa Z<|AU (q+1) Z Z Z hu<|Aa Z<|Ai Z Z<|Aa Z<|Ac Z<|Aw Z<|Aa Z<|Ak Z<|Aa Z<|Ab Z<|Aa Z<|AU (q+1) Z Z Z hu<|Aa Z<|Ai Z Z<|Aa Z<|Af Z Z<|Ah Z Z<|AE Z<|Ar<|Ab Z<|AY Z Z<|AL Z ?_;exact⟨⟨Z,Z,Z,Z,trivial⟩,Z,Z⟩
      ·rw[if_neg (by rw[hu];rintro(h|h);exact k3 (by rw[Option.some.inj h];rfl);exact k4 (by rw[Option.some.inj h];rfl))];refine AD Z<|Ak Z<|AX Z<|As Z Z<|Ac Z<|AA Z<|Aa Z<|Ak Z<|Aa Z<|Ab Z<|Aa Z<|AU (q+1) Z Z Z hu<|Aa Z<|Ai Z Z<|Aa Z<|Ac Z<|Aw Z<|Aa Z<|Ak Z<|Aa Z<|Ab Z<|Aa Z<|AU (q+1) Z Z Z hu<|Aa Z<|Ai Z Z<|Aa Z<|Af Z Z<|Ah Z Z<|AJ Z ?_;exact⟨⟨Z,Z,Z,Z,trivial⟩,Z,Z⟩
     ·rw[if_neg (by rw[Acz (by omega)];simp)];(refine AD Z<|Ak Z<|AX Z<|As Z Z<|Ac Z<|Aw Z<|Aq Z Z<|Aq Z Z<|AF Z<|AN Z<|AN Z<|AN Z<|AN Z<|AF Z<|Af Z Z<|Bh Z ?_);exact⟨⟨Z,Z,Z,Z,trivial⟩,Z,Z⟩
    rintro ρ d7 L' ⟨hs,hdd,hL⟩;subst hdd;subst hL;have hel:Ge s (q+1)≤s.length:=by
     unfold Ge;split
     ·rename_i h;rcases h with h|h
      ·obtain⟨h,_⟩:=Acj.1 h;omega
      ·obtain⟨h,_⟩:=Acj.1 h;omega
     ·omega
    generalize Ge s (q+1)=x at*;refine A4 _ hs ?_;clear hs;refine AD Z<|AL Z<|Ax<|Am<|FJ 4 (fun ρ d8 L'=>AZ ρ [(0,Ag s),(6,vZ (x:Int)),(7,vZ (w:Int)),(8,vZ (q:Int)),(5,vZ ((x+Bl (s.drop (x)):Nat):Int))]∧d8=d7∧L'=[]) ?_ ?_
    ·refine BP (α:=Nat) (fun k=>[(0,Ag s),(6,vZ (x:Int)),(7,vZ (w:Int)),(8,vZ (q:Int)),(5,vZ ((x+k:Nat):Int))]) (fun k d8 L'=>d8=d7∧x+k≤s.length∧k≤Bl (s.drop (x))∧L'=[]) (fun k=>s.length - k) 0 ⟨Z,Z,Z,Z,Z,trivial⟩ ⟨Z,by omega,Acu _,Z⟩ ?_;rintro k ρ d8 L' ⟨hdd,hk,hr,hL⟩;subst hdd;subst hL;have hat:=J4 (s.drop (x)) k hr;rw[Aeb] at hat;clear hbad hform;by_cases hk2:x+k<s.length
     ·have hc:s[x+k]?=some s[x+k]:=Acf hk2;rw[Acv hk2,Bl] at hat;have p1:=h1 (d:=d8) (c:=s[x+k]);by_cases g:isD s[x+k]=true
      ·rw[if_pos g] at hat;rw[g] at p1;clear g;generalize s[x+k]=u at*;refine Ap<|Ab Z<|Ak Z<|AX Z<|As Z Z<|Ac Z<|AA Z<|Aa Z<|Ak Z<|Aa Z<|Ab Z<|Aa Z<|AU (x+k) Z Z (by omega) hc ?_;(apply Aa;rfl);refine AG Z p1<|Ah Z Z<|BK Z<|Ay<|Am<|Ar<|Ab Z<|AY Z Z<|AL Z ?_;exact⟨k+1,by omega,⟨Z,Z,Z,Z,congrArg (Value.int .i64) (by omega),trivial⟩,Z,by omega,by omega,Z⟩
      ·rw[if_neg g] at hat;rw[show isD s[x+k]=false by simpa using g] at p1;clear g;generalize s[x+k]=u at*;refine Ap<|Ab Z<|Ak Z<|AX Z<|As Z Z<|Ac Z<|AA Z<|Aa Z<|Ak Z<|Aa Z<|Ab Z<|Aa Z<|AU (x+k) Z Z (by omega) hc ?_;(apply Aa;rfl);refine AG Z p1<|Ah Z Z<|EX Z<|A6<|Er 4 ⟨⟨Z,Z,Z,Z,congrArg (Value.int .i64) (by omega),trivial⟩,Z,Z⟩
     ·have e0:s.drop (x+k)=[]:=Adb (by omega);rw[e0] at hat;have h0:Bl []=0:=Z;refine Ap<|Ab Z<|Ak Z<|AX Z<|As Z Z<|Ac Z<|Aw Z<|Aq Z Z<|Aq Z Z<|Af Z Z<|EX Z<|A6<|Er 4 ⟨⟨Z,Z,Z,Z,congrArg (Value.int .i64) (by omega),trivial⟩,Z,Z⟩
    rintro ρ d8 L' ⟨hs,hdd,hL⟩;subst hdd;subst hL;show gwp P _ _ _ _ _;refine A4 _ hs ?_;clear hs;have hrx:=EJ (s.drop x);rw[Acl] at hrx;by_cases k2:Bl (s.drop x)=0
    ·have hb:Fb s=none:=by rw[hform,hex,if_neg (by simp[k2])]
     clear hform hex;rw[k2];refine AD Z<|Ab Z<|Ai Z Z<|AE Z<|AD Z<|Ab Z<|Bk Z<|hbad _ _ _ Z Z Z hb
    ·rw[decide_eq_false k2,Bool.not_false,Afi] at hex;clear hform hbad;generalize Bl (s.drop x)=r at*;(refine AD Z<|Ab Z<|Ai Z Z<|AJ Z ?_);exact⟨_,hex,by omega,⟨Z,Z,Z,Z,trivial⟩,Z,Z⟩
   ·have hex:I7 s q=decide ((q:Int)=(s.length:Int)):=by
     rw[I7,hc];simp only;rw[if_neg (fun h=>k1 (h.elim (fun h=>.inl (by rw[h];rfl)) (fun h=>.inr (by rw[h];rfl)))),decide_eq_false (by omega)]
    have k2:c.toNat≠101:=fun h=>k1 (.inl h);have k3:c.toNat≠69:=fun h=>k1 (.inr h);clear hform hbad k1;refine AD Z<|Ak Z<|AX Z<|As Z Z<|Ac Z<|AA Z<|Aa Z<|Ak Z<|Aa Z<|Ab Z<|Aa Z<|AU q Z Z Z hc<|Aa Z<|Ai Z Z<|Aa Z<|Ac Z<|Aw Z<|Aa Z<|Ak Z<|Aa Z<|Ab Z<|Aa Z<|AU q Z Z Z hc<|Aa Z<|Ai Z Z<|Aa Z<|Af Z Z<|Ah Z Z<|AJ Z ?_;exact⟨_,hex,by omega,⟨Z,Z,Z,Z,trivial⟩,Z,Z⟩
  ·have hex:I7 s q=decide ((q:Int)=(s.length:Int)):=by
    have e0:s[q]?=none:=Acz (by omega);have e1:(q:Int)=(s.length:Int):=by omega
    rw[decide_eq_true e1,I7,e0]
   clear hform hbad;(refine AD Z<|Ak Z<|AX Z<|As Z Z<|Ac Z<|Aw Z<|Aq Z Z<|Aq Z Z<|AF Z<|AN Z<|AN Z<|AN Z<|AN Z<|AF Z<|Af Z Z<|Bh Z ?_);exact⟨_,hex,by omega,⟨Z,Z,Z,Z,trivial⟩,Z,Z⟩
 rintro ρ d6 L' ⟨i,hex,hil,hs,hdd,hL⟩;subst hdd;subst hL;rw[hex] at hform;have hsome:(Fb s).isSome=decide ((i:Int)=(s.length:Int)):=by
  rw[hform];by_cases h:(i:Int)=(s.length:Int)
  ·rw[decide_eq_true h];rfl
  ·rw[decide_eq_false h];rfl
 have hval:∀x,Fb s=some x→(w:Int)=(x.1:Int)∧(q:Int)=(x.2:Int):=fun x hx=>by
  rw[hform] at hx;split at hx
  ·cases hx;exact⟨Z,Z⟩
  ·cases hx
 refine A4 _ hs ?_;clear hs hform hex hbad;(refine AD Z<|Ab Z<|Ab Z<|Ak Z<|AX Z<|Ai Z Z<|Ab Z<|Ab Z<|Bk Z ?_);rw[hsome];exact Ba [vZ (w:Int),vZ (q:Int),.bool (decide ((i:Int)=(s.length:Int)))] ⟨Z,Z,Z,trivial⟩ (Acb _) ⟨Z,Z,w,q,Z,hval⟩
end Go.Gk.Jsn
end
section
namespace Go.Gk.Jsn
open Go Go.Gk Go.Gk.Val
def at0(s:List UInt8):s[0]?=s.head?:=by cases s<;>rfl
def Je(s:List UInt8)(n:Nat):(s.drop n).head?=s[n]?:=by rw[←at0,Aeg];rfl
def drop_tail(s:List UInt8)(n:Nat):(s.drop n).tail=s.drop (n+1):=by rw[←Agm,Aeb]
def Td(s:List UInt8):(if decide (s.head?=some 45)=true then s.tail else s)=s.drop (CF s):=by
 unfold CF;rw[at0];by_cases h:s.head?=some 45
 ·rw[if_pos (by simpa using h),if_pos h,Agm]
 ·rw[if_neg (by simpa using h),if_neg h];rfl
def X0(s:List UInt8):Fb s=match FL s with
  |none=>none
  |some t=>match ED t.x with
   |none=>none
   |some _=>some (BU s,s.length - t.x.length):=by
 have hn1:CF s≤s.length:=by
  unfold CF;split
  ·rename_i q;obtain⟨h,_⟩:=Acj.1 q;omega
  ·omega
 have hrn:=EJ (s.drop (CF s))
 rw[Acl] at hrn
 rw[Rf,Td,O7,Fb]
 simp only[Aeb]
 have hw1:BU s≤s.length:=by unfold BU;omega
 rw[show CF s+Bl (s.drop (CF s))=BU s from Z]
 generalize decide (s.head?=some 45)=neg
 have hf1:GK s (CF s)=false↔(Bl (s.drop (CF s))=0∨(1<Bl (s.drop (CF s))∧(s.drop (CF s)).head?=some 48)):=by
  rw[GK,Je];simp only[Bool.not_eq_false',Bool.or_eq_true,Bool.and_eq_true,decide_eq_true_eq]
 by_cases h1:GK s (CF s)=false
 ·rw[if_pos h1,if_pos (hf1.1 h1)]
 rw[if_neg h1,if_neg (fun q=>h1 (hf1.2 q))]
 generalize hw:BU s=w at*
 rw[Je,drop_tail,HR]
 have fin:∀q,q≤s.length→(if I7 s q=true then some (w,q) else none)=match ED (s.drop q) with|none=>none|some _=>some (w,s.length - (s.drop q).length):=by
  intro q hq;have hlen:s.length - (s.drop q).length=q:=by rw[Acl];omega
  rw[hlen,I7];cases hs:s[q]? with
  |none=>
   have:s.drop q=[]:=Adb (by have:=List.getElem?_eq_none_iff.1 hs;omega)
   rw[this]
   rfl
  |some c=>
   obtain⟨hlt,hc⟩:=Acj.1 hs
   have hd:s.drop q=c::s.drop (q+1):=by rw[Acv hlt,hc]
   rw[hd]
   by_cases k1:c=101∨c=69
   ·have hce:¬(c.toNat≠101∧c.toNat≠69):=fun h=>k1.elim (fun e=>h.1 (by rw[e];rfl)) (fun e=>h.2 (by rw[e];rfl))
    rw[LF hce]
    have hx:(if decide ((s.drop (q+1)).head?=some 45)=true∨(s.drop (q+1)).head?=some 43 then(s.drop (q+1)).tail else s.drop (q+1))=s.drop (Ge s (q+1)):=by
     rw[Je,drop_tail,Ge];by_cases e:s[q+1]?=some 43∨s[q+1]?=some 45
     ·rw[if_pos (by simpa [or_comm] using e),if_pos e]
     ·rw[if_neg (by simpa [or_comm] using e),if_neg e]
    rw[hx]
    simp only[k1,if_true]
    have hel:Ge s (q+1)≤s.length:=by
     unfold Ge;split
     ·rename_i h;rcases h with h|h
      ·obtain⟨h,_⟩:=Acj.1 h;omega
      ·obtain⟨h,_⟩:=Acj.1 h;omega
     ·omega
    have hrx:=EJ (s.drop (Ge s (q+1)))
    rw[Acl] at hrx⊢
    generalize Ge s (q+1)=x at*
    generalize Bl (s.drop x)=r at*
    by_cases k2:r=0
    ·rw[if_neg (by rw[decide_eq_true k2];simp),if_pos (.inl k2)]
    by_cases k3:r<s.length - x
    ·rw[if_neg (by rw[decide_eq_false (show¬((x+r:Nat):Int)=(s.length:Int) by omega)];simp),if_pos (.inr k3)]
    ·rw[if_pos (by rw[decide_eq_false k2,decide_eq_true (show((x+r:Nat):Int)=(s.length:Int) by omega)];rfl),if_neg (fun h=>h.elim k2 k3)]
   ·have e:ED (c::s.drop (q+1))=none:=by rw[ED,if_pos ⟨fun h=>k1 (.inl (UInt8.toNat_inj.1 h)),fun h=>k1 (.inr (UInt8.toNat_inj.1 h))⟩]
    rw[e]
    simp only[k1,if_false]
    rfl
 by_cases h2:s[w]?=some 46
 ·rw[if_pos h2,if_pos h2]
  by_cases h3:Bl (s.drop (w+1))=0
  ·rw[if_pos h3,if_pos h3]
  ·rw[if_neg h3,if_neg h3]
   simp only
   obtain⟨hlt,_⟩:=Acj.1 h2
   have hr:=EJ (s.drop (w+1))
   rw[Acl] at hr
   rw[fin _ (by omega),Aeb]
 ·rw[if_neg h2,if_neg h2]
  simp only
  exact fin w hw1
end Go.Gk.Jsn
end
section
namespace Go.Gk.Jsn
open Go Go.Gk Go.Gk.Val Go.Gk.Num
attribute [local irreducible] gwp gws
def IG{s:List UInt8}(h:∀c∈s,isD c=true):s.filter isD=s:=List.filter_eq_self.2 h
def Vy{s}{t:NT}(h:FL s=some t):(s.take (s.length - t.x.length)).filter isD=t.w++t.f∧
  ((s.take (s.length - t.x.length)).drop (BU s+1)).filter isD=t.f∧s.drop (s.length - t.x.length)=t.x∧t.neg=decide (s.head?=some 45)∧s≠[]:=by
 have hd:=JT h
 rw[Rf,Td,O7] at h
 have hn1:CF s≤s.length:=by
  unfold CF;split
  ·rename_i q;obtain⟨h,_⟩:=Acj.1 q;omega
  ·omega
 have hrn:=EJ (s.drop (CF s))
 rw[Acl] at hrn
 have hw1:BU s≤s.length:=by unfold BU;omega
 simp only[Aeb] at h
 rw[show CF s+Bl (s.drop (CF s))=BU s from Z] at h
 have hpre:∀q,BU s≤q→s.take q=s.take (CF s)++(s.drop (CF s)).take (Bl (s.drop (CF s)))++(s.drop (BU s)).take (q - BU s):=by
  intro q hq;have e1:s.take q=s.take (BU s)++(s.drop (BU s)).take (q - BU s):=by
   have:=List.take_add (l:=s) (i:=BU s) (j:=q - BU s);rwa [show BU s+(q - BU s)=q by omega] at this
  have e2:s.take (BU s)=s.take (CF s)++(s.drop (CF s)).take (Bl (s.drop (CF s))):=List.take_add;rw[e1,e2]
 have hneg:(s.take (CF s)).filter isD=[]:=by
  unfold CF;split
  ·rename_i q;obtain⟨hl,hc⟩:=Acj.1 q;have:s.take 1=[45]:=by
    cases s with
    |nil=>cases q
    |cons c s=>cases q;rfl
   rw[this];rfl
  ·simp
 have hne:s≠[]:=by
  intro q;subst q;rw[if_pos (.inl Z)] at h;cases h
 by_cases h1:Bl (s.drop (CF s))=0∨(1<Bl (s.drop (CF s))∧(s.drop (CF s)).head?=some 48)
 ·rw[if_pos h1] at h;cases h
 rw[if_neg h1] at h
 rw[Je,drop_tail] at h
 by_cases h2:s[BU s]?=some 46
 ·rw[if_pos h2] at h
  obtain⟨hlt,hc⟩:=Acj.1 h2
  have hr:=EJ (s.drop (BU s+1))
  rw[Acl] at hr
  by_cases h3:Bl (s.drop (BU s+1))=0
  ·rw[if_pos h3] at h;cases h
  rw[if_neg h3] at h
  cases h
  simp only[Aeb,Acl] at hd⊢
  have hq:s.length - (s.length - (BU s+1+Bl (s.drop (BU s+1))))=BU s+1+Bl (s.drop (BU s+1)):=by omega
  rw[hq]
  have hdot:(s.drop (BU s)).take (BU s+1+Bl (s.drop (BU s+1)) - BU s)=46::(s.drop (BU s+1)).take (Bl (s.drop (BU s+1))):=by
   rw[Acv hlt,hc,show BU s+1+Bl (s.drop (BU s+1)) - BU s=Bl (s.drop (BU s+1))+1 by omega,Afh]
  have hlen:(s.take (CF s)++(s.drop (CF s)).take (Bl (s.drop (CF s)))).length=BU s:=by
   rw[Acd,Aco,Aco,Acl];unfold BU;omega
  have hdw:∀c∈(s.drop (CF s)).take (Bl (s.drop (CF s))),isD c=true:=fun c hc=>hd.1 c (List.mem_append_left _ hc)
  have hdf:∀c∈(s.drop (BU s+1)).take (Bl (s.drop (BU s+1))),isD c=true:=fun c hc=>hd.1 c (List.mem_append_right _ hc)
  rw[hpre _ (by omega),hdot]
  refine⟨?_,?_,Z,trivial,hne⟩
  ·rw[Afe,Afe,hneg,IG hdw,Aer,List.filter_cons]
   rw[if_neg (by decide),IG hdf]
  ·rw[List.drop_append,Adb (by omega),hlen,Aer,show BU s+1 - BU s=1 by omega,List.drop_succ_cons,Agr,IG hdf]
 ·rw[if_neg h2] at h
  cases h
  simp only[Ado,Acl] at hd⊢
  have hq:s.length - (s.length - BU s)=BU s:=by omega
  rw[hq]
  have hdw:∀c∈(s.drop (CF s)).take (Bl (s.drop (CF s))),isD c=true:=hd.1
  refine⟨?_,?_,Z,trivial,hne⟩
  ·rw[hpre _ (Ack _),Aeu,List.take_zero,Ado,Afe,hneg,IG hdw];rfl
  ·rw[Adb (by rw[Aco];omega)];rfl
def YY{x}{y:Bool×List UInt8}(h:ED x=some y):sgn (x.any (·==45)) (Ew x)=sgn y.1 (H8 y.2):=by
 cases x with
 |nil=>cases h;rfl
 |cons c r=>
  have hcd:=Sf h
  by_cases k:c.toNat≠101∧c.toNat≠69
  ·rw[ED,if_pos k] at h;cases h
  rw[LF k] at h
  have hc45:(c==45)=false:=by
   apply Bool.eq_false_iff.2;intro q;have:c=45:=by simpa using q
   subst this;exact k ⟨by decide,by decide⟩
  have hcD:isD c=false:=by
   apply Bool.eq_false_iff.2;intro q;simp[isD] at q;exact k ⟨by omega,by omega⟩
  by_cases q:Bl (if decide (r.head?=some 45)=true∨r.head?=some 43 then r.tail else r)=0∨Bl (if decide (r.head?=some 45)=true∨r.head?=some 43 then r.tail else r)<(if decide (r.head?=some 45)=true∨r.head?=some 43 then r.tail else r).length
  ·rw[if_pos q] at h;cases h
  ·rw[if_neg q] at h
   clear q
   obtain rfl:=Option.some.inj h
   simp only at hcd⊢
   have hno:∀l:List UInt8,(∀u∈l,isD u=true)→l.any (·==45)=false:=by
    intro l hl;rw[List.any_eq_false];intro u hu q;have:u=45:=by simpa using q
    have:=hl u hu;subst u;exact absurd this (by decide)
   have hcapeq:∀l:List UInt8,(∀u∈l,isD u=true)→Ew l=H8 l:=fun l hl=>by rw[Ew,IG hl];rfl
   rw[List.any_cons,hc45,Bool.false_or]
   have hq0:Ew (c::r)=Ew r:=by unfold Ew;rw[List.filter_cons,if_neg (by rw[hcD];decide)]
   rw[hq0]
   by_cases k1:r.head?=some 45
   ·rw[if_pos (.inl (by simpa using k1))] at hcd⊢
    obtain⟨r',rfl⟩:∃r',r=45::r':=by cases r with|nil=>cases k1|cons a r'=>cases k1;exact⟨r',Z⟩
    have hcd:∀u∈r',isD u=true:=hcd
    show _=sgn _ (H8 r')
    have:Ew (45::r')=Ew r':=by unfold Ew;rw[List.filter_cons,if_neg (by decide)]
    rw[this,hcapeq _ hcd]
    rfl
   by_cases k2:r.head?=some 43
   ·rw[if_pos (.inr k2)] at hcd⊢
    obtain⟨r',rfl⟩:∃r',r=43::r':=by cases r with|nil=>cases k2|cons a r'=>cases k2;exact⟨r',Z⟩
    have hcd:∀u∈r',isD u=true:=hcd
    show _=sgn _ (H8 r')
    have:Ew (43::r')=Ew r':=by unfold Ew;rw[List.filter_cons,if_neg (by decide)]
    rw[this,hcapeq _ hcd,List.any_cons,hno _ hcd]
    rfl
   ·have hn:¬(decide (r.head?=some 45)=true∨r.head?=some 43):=fun q=>q.elim (fun q=>k1 (by simpa using q)) k2
    rw[if_neg hn] at hcd⊢
    rw[hcapeq _ hcd,hno _ hcd,decide_eq_false k1]
def Ka(a0 a1 a2 a3:Nat):Bo:=⟨56,[(.cell 2 (some 2)),(.tmp 3)],(sR (o1 2 (.alo (.agg #[(vZ 0),(vZ 0)]))<|o1 3 (.mv z0) .done) (sR (om 10 0<|oc 11 a0 [10]<|om 9 11<|oe 12 9 0<|oe 13 9 1<|oe 14 9 2<|om 4 12<|om 5 13<|om 6 14 .done) (.seq (sR (om 15 6<|o1 16 (.un .not 15) .done) (.cond 16 (sR (o1 17 (.bld [(0,1),(1,1)] [(vZ 0),(vZ 0)] [])<|o0 (.st 2 2 17)<|o1 3 (.mv (kZ 10)) .done) .ret) .skip)) (.seq (.reg true (pm 18 0<|p1 19 (.sidx 18 z0)<|p1 20 (.bin .eql 19 (.const (.int .u8 45)))<|pm 21 0<|pm 22 5<|p1 23 (.sls 21 (some 22) none) (.alt ⟨(some 24),none,(.call a1 [23])⟩ (p1 25 (.bld [(0,1),(1,1),(2,1)] [(.bool false),nV,(vZ 0)] [(0,20),(2,24)]) (o1 7 (.alo (.agg #[(.bool false),nV,(vZ 0)])) (.bar (o0 (.st 3 7 25) .done)))) (o1 7 (.alo (.agg #[(.bool false),nV,(vZ 0)])) (oc 24 a1 [23] (p1 25 (.bld [(0,1),(1,1),(2,1)] [(.bool false),nV,(vZ 0)] [(0,20),(2,24)]) (.bar (o0 (.st 3 7 25) .done)))))))) (.seq (sR (o1 8 (.mv z0) .done) (.block 0 (.loop (.seq (sR (om 26 8<|om 27 5<|ob 28 .lss 26 27 .done) (.cond 28 .skip (.exit 0))) (.seq (.block 1 (sR (om 31 0<|om 32 8<|o1 33 (.sidx 31 32)<|oc 34 a2 [33] .done) (.cond 34 (.seq (.reg true (p1 35 (.fld 1 7)<|pl 36 35<|pm 37 0<|pm 38 8<|p1 39 (.sidx 37 38)<|p1 40 (.cvi .i64 39)<|p1 41 (.bin .sub 40 (kZ 48))<|o1 42 (.bsl 1 1 [(vZ 0)] [(0,41)])<|o1 43 (.app 1 8 [(vZ 0)] 36 42)<|p1 44 (.fld 1 7) (.bar (o0 (.st 1 44 43) .done)))) (sR (om 45 8<|om 46 4<|ob 47 .gtr 45 46 .done) (.cond 47 (rG (oj 48 2 7<|ol 49 48<|ob 50 .sub 49 z1<|oj 51 2 7<|o0 (.st 1 51 50) .done)) .skip))) .skip))) (rG (om 29 8<|ob 30 .add 29 z1<|om 8 30 .done))))))) (sR (o1 52 (.ld (some 3) 7)<|oc 53 a3 [52]<|oe 54 53 0<|oe 55 53 1<|o0 (.st 2 2 54)<|om 3 55 .done) .ret))))))⟩
set_option maxHeartbeats 2000000 in
def Wp{P f f1 f2 f3 f4}(hd:dec P f=some (Ka f1 f2 f3 f4))(h1:QR P f1)(h2:Re P f2)(h3:OK P f3)(h4:MH P f4){T:Ad→Prop}:Hr T P f:=by
 intro d s ht hl;rw[AaR hl];refine AO.of' hd (Aca Z) ?_;show gwp P _ _ _ _ _;(refine Aj<|BR (fun _ _=>Bt Z<|Ak Z ?_));rename_i b2 T2;refine Bi Z (h1 (s:=s) (by omega)) (fun r d2 L2 _ ⟨hdd,hL,a,b,hr,hab⟩=>?_);subst hdd;subst hL;subst hr;have hfc:=X0 s;have hbad:Fb s=none→PF s=(0,0,10):=by
  intro h;rw[PF];cases hc:FL s with
  |none=>rfl
  |some t=>
   simp only
   cases hx:ED t.x with
   |none=>rfl
   |some x=>rw[hc] at hfc;simp only at hfc;rw[hx] at hfc;simp only at hfc;rw[h] at hfc;cases hfc
 cases hfn:Fb s with
 |none=>
  have hn:=hbad hfn
  clear hbad hab hfc
  (refine Bm Z<|Bx Z Z Z Z<|CH Z Z<|Ab Z<|Ab Z<|Ao Z<|Ap<|Ac Z<|Bu Z<|BK Z<|Aj<|B2 Z ?_)
  refine Au 0 _ Z Z Z Z (Aca Z) Z Z ?_
  (refine AM Z ?_)
  rw[hn]
  exact Ba [.agg [vZ 0,vZ 0].toArray,vZ 10] ⟨Bc 0 Z Z Z,Z,trivial⟩ (Acb _) ⟨Z,Z⟩
 |some x=>
 obtain⟨t,y,hcut,hx,hxw,hxq⟩:∃t y,FL s=some t∧ED t.x=some y∧x.1=BU s∧x.2=s.length - t.x.length:=by
  rw[hfn] at hfc;cases hc:FL s with
  |none=>rw[hc] at hfc;cases hfc
  |some t=>
   rw[hc] at hfc
   simp only at hfc
   cases hx:ED t.x with
   |none=>rw[hx] at hfc;cases hfc
   |some y=>rw[hx] at hfc;simp only at hfc;cases hfc;exact⟨t,y,Z,hx,Z,Z⟩
 obtain⟨ha,hb⟩:=hab x hfn;rw[hxw] at ha;rw[hxq] at hb;have hnum:PF s=Eh t.neg ((t.w++t.f).map dg) (sgn y.1 (H8 y.2) - t.f.length):=by rw[PF,hcut];simp only;rw[hx]
 obtain⟨hfil,hcnt,hdrop,hneg,hne⟩:=Vy hcut;have hpow:=YY hx;obtain⟨hdig,hlen,_⟩:=JT hcut;have hql:s.length - t.x.length≤s.length:=by omega
 generalize s.length - t.x.length=q at*;generalize BU s=w at*;rw[←hdrop] at hpow;clear hbad hab hfc hfn hcut hx hxw hxq;subst ha;subst hb;obtain⟨c,r,rfl⟩:∃c r,s=c::r:=by cases s with|nil=>exact absurd Z hne|cons c r=>exact⟨c,r,Z⟩
 have hc0:(c::r)[0]?=some c:=Z;generalize hs:(c::r)=s at*;have hnc:t.neg=decide ((c.toNat:Int)=45):=by
  rw[hneg,←hs];refine decide_eq_decide.2 ?_;rw[List.head?_cons];exact⟨fun h=>by rw[Option.some.inj h];rfl,fun h=>by rw[UInt8.toNat_inj.1 (show c.toNat=(45:UInt8).toNat by show c.toNat=45;omega)]⟩
 have hcap:=MG _ (s.drop q) Z;have hsg: -10000000≤sgn ((s.drop q).any (·==45)) (Ew (s.drop q))∧sgn ((s.drop q).any (·==45)) (Ew (s.drop q))≤10000000:=by
  unfold sgn;split<;>omega
 have p2:=h2 (d:=d2) (s:=s.drop q) (by rw[Acl];omega);rw[hpow] at hsg p2;generalize sgn y.1 (H8 y.2)=E0 at*;clear hpow hcap hneg hs hdrop;(refine Bm Z<|Bx Z Z Z Z<|CH Z Z<|Ab Z<|Ab Z<|Ao Z<|Ap<|Ac Z<|Bu Z<|EX Z ?_);apply Ay;refine CJ (fun ρ d3 L'=>∃b7 T7,AZ ρ [(0,Ag s),(2,pZ b2),(4,vZ (w:Int)),(5,vZ (q:Int)),(7,pZ b7)]∧d3=d2∧L'=[bx b7 T7 [.bool t.neg,nV,vZ E0],bx b2 T2 [vZ 0,vZ 0],emp]) ?_ ?_
 ·refine BS [] [bx b2 T2 [vZ 0,vZ 0]] Z ?_;(apply Ak;rfl);refine AU 0 Z Z Z hc0<|Ai Z Z<|Ak Z<|Ab Z<|B6 (n:=q) Z Z Z (by omega)<|G9 ?_ ?_
  ·refine AG Z p2<|B2 (cs:=[.bool (decide ((c.toNat:Int)=45)),nV,vZ E0]) Z<|BR (fun _ _=>B0 ?_);refine Au 0 [.bool (decide ((c.toNat:Int)=45)),nV,vZ E0] Z Z Z Z (Aca Z) Z Z<|FB _ _ (Vs.emp.trans (Vs.pick [1,2,0] Z)) ?_;rw[hnc];exact⟨_,_,⟨Z,Z,Z,Z,Z,trivial⟩,Z,Z⟩
  ·(apply BR;intro _ _);refine AG Z p2<|B2 (cs:=[.bool (decide ((c.toNat:Int)=45)),nV,vZ E0]) Z ?_;(apply B0);refine Au 0 [.bool (decide ((c.toNat:Int)=45)),nV,vZ E0] Z Z Z Z (Aca Z) Z Z<|FB _ _ (Vs.emp.trans (Vs.pick [1,2,0] Z)) ?_;rw[hnc];exact⟨_,_,⟨Z,Z,Z,Z,Z,trivial⟩,Z,Z⟩
 rintro ρ d3 L' ⟨b7,T7,hs,hdd,hL⟩;subst hdd;subst hL;refine A4 _ hs ?_;clear hs hnc p2 hc0;refine Ap<|AL Z<|Am<|FJ 0 (fun ρ d4 L'=>∃dv g,AQ 1 EU d3 dv (ints ((t.w++t.f).map dg)) g∧AZ ρ [(2,pZ b2),(7,pZ b7)]∧d4=d3∧L'=[bx b7 T7 [.bool t.neg,dv,vZ (E0 - t.f.length)],bx b2 T2 [vZ 0,vZ 0],g]) ?_ ?_
 ·refine BP (α:=Nat) (fun k=>[(0,Ag s),(2,pZ b2),(4,vZ (w:Int)),(5,vZ (q:Int)),(7,pZ b7),(8,vZ (k:Int))])
   (fun k d4 L'=>d4=d3∧k≤q∧∃dv g,AQ 1 EU d3 dv (ints (((s.take k).filter isD).map dg)) g∧L'=[bx b7 T7 [.bool t.neg,dv,vZ (E0 - (((s.take k).drop (w+1)).filter isD).length)],bx b2 T2 [vZ 0,vZ 0],g]) (fun k=>q - k) 0 ⟨Z,Z,Z,Z,Z,Z,trivial⟩ ⟨Z,Acu _,nV,emp,AQ.nil,by rw[List.take_zero];simp⟩ ?_
  rintro k ρ d4 L' ⟨hdd,hk,dv,g,hg,hL⟩;subst hdd;subst hL;have hfl:((s.take k).filter isD).length≤k:=Adp (List.length_filter_le ..) (by rw[Aco];omega);have hgl:(ints (((s.take k).filter isD).map dg)).length≤k:=by simp only[ints,Adq];exact hfl
  have hcl:(((s.take k).drop (w+1)).filter isD).length≤k:=Adp (List.length_filter_le ..) (by rw[Acl,Aco];omega);by_cases hk2:k<q
  ·have hcx:s[k]?=some (s[k]'(by omega)):=Acf (by omega);have hts:=Acx (l:=s) (i:=k) (by omega);have hub:=UInt8.toNat_lt (s[k]'(by omega));have p3:=h3 (d:=d4) (c:=s[k]'(by omega));generalize s[k]'(by omega)=u at*;by_cases g0:isD u=true
   ·have hd48:48≤u.toNat:=by simp[isD] at g0;exact g0.1
    have hdu:(u.toNat:Int) - 48=((dg u:Nat):Int):=by unfold dg;omega
    have hf1:(s.take (k+1)).filter isD=(s.take k).filter isD++[u]:=by rw[hts,Afe];simp[List.filter,g0]
    have hi1:ints (((s.take (k+1)).filter isD).map dg)=ints (((s.take k).filter isD).map dg)++[(u.toNat:Int) - 48]:=by rw[hf1,hdu];simp[ints]
    have hc1:((((s.take (k+1)).drop (w+1)).filter isD).length:Int)=((((s.take k).drop (w+1)).filter isD).length:Int)+if (w:Int)<(k:Int) then 1 else 0:=by
     rw[hts];by_cases e:(w:Int)<(k:Int)
     ·rw[if_pos e,Afq (by rw[Aco];omega),Afe];simp[List.filter,g0]
     ·rw[if_neg e,Adb (by rw[Acd,Aco,Adf];omega),Adb (by rw[Aco];omega)];rfl
    rw[g0] at p3;clear g0 hf1 hts;generalize hcn:(((s.take k).drop (w+1)).filter isD).length=cn at*;generalize ints (((s.take k).filter isD).map dg)=D0 at*;refine Ap<|Ab Z<|Ab Z<|As Z Z<|AE Z<|Ay<|Ax<|Am<|Aj<|Ak Z<|Ab Z<|AU k Z Z Z hcx<|AG Z p3<|BK Z<|Ax<|BS [bx b7 T7 [.bool t.neg,dv,vZ (E0 - (cn:Int))],bx b2 T2 [vZ 0,vZ 0]] [g] Z<|AI Z Z Z<|Ak Z<|Ab Z<|AU k Z Z Z hcx<|Gu Z (by omega) (by omega)<|DQ Z Z<|Ff (v0:=vZ ((u.toNat:Int) - 48)) Z Z (fun bl Tl=>?_);refine Dc (R:=EU) (ys:=[(u.toNat:Int) - 48]) 1 Z Z hg Z (Src.lit (ys:=[(u.toNat:Int) - 48]) 2 Z Z Z Z (fun i hi=>?_)) (by omega) (by simp;omega) (by simp;omega) (fun dv2 g2 hg2=>?_)
    ·obtain rfl:i=0:=by simpa using hi
     have hI:EU d4 [vZ ((u.toNat:Int) - 48)] ((u.toNat:Int) - 48):=⟨Z,by omega,by omega⟩
     exact hI
    obtain⟨a2,c2,rfl⟩:=hg2.val;refine Ae Z<|B0<|DT d4 [bx b7 T7 [.bool t.neg,dv,vZ (E0 - (cn:Int))],bx b2 T2 [vZ 0,vZ 0],g2] (Vs.drop (Agt _ (Agt _ (Ads _ (Acy _)))))<|Au 0 [.bool t.neg,.slice a2 (D0++[(u.toNat:Int) - 48]).length c2,vZ (E0 - (cn:Int))] Z Z Z Z (Aca Z) Z Z ?_;by_cases e:(w:Int)<(k:Int)
    ·rw[if_pos e] at hc1;refine Br<|Ab Z<|Ab Z<|AS Z Z<|AE Z<|Ar<|AI Z Z Z<|DQ Z Z<|Ae Z<|Au 0 [.bool t.neg,.slice a2 (D0++[(u.toNat:Int) - 48]).length c2,vZ (E0 - (cn:Int) - 1)] Z Z Z Z (Aca Z) Z Z<|Av<|Ar<|Ab Z<|AY Z Z<|AL Z ?_;exact⟨k+1,by omega,⟨Z,Z,Z,Z,Z,Z,trivial⟩,Z,by omega,.slice a2 (D0++[(u.toNat:Int) - 48]).length c2,g2,by rw[hi1];exact hg2,by rw[hc1,show E0 - (cn:Int) - 1=E0 - ((cn:Int)+1) by omega];rfl⟩
    ·rw[if_neg e] at hc1;(refine Br<|Ab Z<|Ab Z<|AS Z Z<|AJ Z<|Ar<|Ab Z<|AY Z Z<|AL Z ?_);exact⟨k+1,by omega,⟨Z,Z,Z,Z,Z,Z,trivial⟩,Z,by omega,.slice a2 (D0++[(u.toNat:Int) - 48]).length c2,g2,by rw[hi1];exact hg2,by rw[hc1,Int.add_zero];rfl⟩
   ·have hf1:(s.take (k+1)).filter isD=(s.take k).filter isD:=by rw[hts,Afe];simp[List.filter,g0]
    have hc1:(((s.take (k+1)).drop (w+1)).filter isD).length=(((s.take k).drop (w+1)).filter isD).length:=by
     rw[hts];by_cases e:(w:Int)<(k:Int)
     ·rw[Afq (by rw[Aco];omega),Afe];simp[List.filter,g0]
     ·rw[Adb (by rw[Acd,Aco,Adf];omega),Adb (by rw[Aco];omega)]
    rw[show isD u=false by simpa using g0] at p3;clear g0 hts;refine Ap<|Ab Z<|Ab Z<|As Z Z<|AE Z<|Ay<|Ax<|Am<|Aj<|Ak Z<|Ab Z<|AU k Z Z Z hcx<|AG Z p3<|Bh Z<|Ar<|Ab Z<|AY Z Z<|AL Z ?_;exact⟨k+1,by omega,⟨Z,Z,Z,Z,Z,Z,trivial⟩,Z,by omega,dv,g,by rw[hf1];exact hg,by rw[hc1]⟩
  ·have hkq:k=q:=by omega
   subst hkq;rw[hfil] at hg;refine Ap<|Ab Z<|Ab Z<|As Z Z<|BM Z<|A6<|Er 0 ⟨dv,g,hg,⟨Z,Z,trivial⟩,Z,by rw[hcnt]⟩
 rintro ρ d4 L' ⟨dv,g,hg,hs,hdd,hL⟩;subst hdd;subst hL;show gwp P _ _ _ _ _;refine A4 _ hs ?_;clear hs;have hdl:((t.w++t.f).map dg).length=t.w.length+t.f.length:=by rw[Adq,Acd]
 have hdlt:∀n∈(t.w++t.f).map dg,n<10:=fun n hn=>by
  obtain⟨c,hc,rfl⟩:=Afj.1 hn;exact Io (hdig c hc)
 rw[hnum];generalize (t.w++t.f).map dg=D at*;obtain⟨a1,c1,rfl⟩:=hg.val;skip;apply Ax;apply Ar;refine AP 0 Z Z Z<|DT d4 [g,bx b2 T2 [vZ 0,vZ 0]] ((Vs.drop (Ads _ (Acy _))).trans (Vs.pick [1,0] Z))<|DI (fun d5 hl5 hg5=>?_);have hrs:=hg.rsl NA (by omega) hl5 hg5;have p4:=h4 (d:=d5) (neg:=t.neg) (e:=E0 - (t.f.length:Int)) hrs hdlt (by omega) (by omega) (by omega);generalize Eh t.neg D (E0 - (t.f.length:Int))=r3 at*;obtain⟨r1,r2,r3⟩:=r3;refine AG Z p4<|Bx Z Z Z Z<|Au 0 [vZ r1,vZ r2] Z Z Z Z (Aca Z) Z Z<|AM Z<|Ba [.agg [vZ r1,vZ r2].toArray,vZ r3] ⟨Bc 0 Z Z Z,Z,trivial⟩ (Acb _) ⟨Z,Z⟩
def LJ(P:Program)(f:FuncId):Prop:=∀{d}{n:Nat},n≤1000000→AO P f [vZ (n:Int)] d (Ag (Dm n))
def JC:Bo:=⟨13,[(.tmp 2)],(sR (o1 2 (.mv (.const (Ag []))) .done) (sR (o1 3 (.mv (.const (Ag []))) .done) (.seq (sR (o1 4 (.mv z0) .done) (.block 0 (.loop (.seq (sR (om 5 4<|om 6 0<|ob 7 .lss 5 6 .done) (.cond 7 .skip (.exit 0))) (.seq (.block 1 (rG (om 10 3<|ob 11 .add 10 (.const (Ag [48]))<|om 3 11 .done))) (rG (om 8 4<|ob 9 .add 8 z1<|om 4 9 .done))))))) (sR (om 12 3<|om 2 12 .done) .ret))))⟩
def TZ{P f}(hd:dec P f=some JC):LJ P f:=by
 intro d n hn;refine AO.of' hd (Aca Z) ?_;show gwp P _ _ _ _ _;refine Aj<|Ak Z<|Br<|Ak Z<|Bw<|AL Z<|Am<|BP (α:=Nat) (fun k=>[(0,vZ (n:Int)),(3,Ag (Dm k)),(4,vZ (k:Int))]) (fun k d' L'=>d'=d∧k≤n∧L'=[]) (fun k=>n - k) 0 ⟨Z,Z,Z,trivial⟩ ⟨Z,Acu _,Z⟩ ?_;rintro k ρ d' L' ⟨hdd,hk,hL⟩;subst hdd;subst hL;have hkl:(Dm k).length=k:=Aef ..;by_cases hc:k<n
 ·refine Ap<|Ab Z<|Ab Z<|As Z Z<|AE Z<|Ay<|Ax<|Am<|Ar<|Ak Z<|BI (a:=Dm k) (b:=[48]) Z Z (by simp[hkl];omega)<|Ak Z<|Av<|Ar<|Ab Z<|AY Z Z<|AL Z ?_;exact⟨k+1,by omega,⟨Z,congrArg Ag (by simp[Dm,List.replicate_succ']),Z,trivial⟩,Z,by omega,Z⟩
 ·(refine Ap<|Ab Z<|Ab Z<|As Z Z<|BM Z<|A6<|Aj<|Ak Z<|Ak Z<|Bz ?_);have e:k=n:=by omega
  subst e;exact CX Z
def R8(P:Program)(f:FuncId):Prop:=∀{d v}{D:List Nat},FF d v (ints D)→(∀x∈D,x<10)→D.length≤1000000→AO P f [v] d (Ag (D.map CQ))
def K5:Bo:=⟨24,[(.tmp 2)],(sR (o1 2 (.mv (.const (Ag []))) .done) (sR (o1 3 (.mv (.const (Ag []))) .done) (.seq (sR (o1 4 (.mv z0) .done) (.block 0 (.loop (.seq (sR (om 5 4<|om 6 0<|oL 7 6<|ob 8 .lss 5 7 .done) (.cond 8 .skip (.exit 0))) (.seq (.block 1 (.reg true (pm 11 3<|pm 12 0<|pm 13 4<|p1 14 (.idx 1 12 13)<|pl 15 14<|pm 16 0<|pm 17 4<|p1 18 (.idx 1 16 17)<|pl 19 18<|p1 20 (.bin .add 19 z1)<|p1 21 (.sls (.const (Ag [48,49,50,51,52,53,54,55,56,57])) (some 15) (some 20))<|p1 22 (.bin .add 11 21) (.bar (pm 3 22 .done))))) (rG (om 9 4<|ob 10 .add 9 z1<|om 4 10 .done))))))) (sR (om 23 3<|om 2 23 .done) .ret))))⟩
def ZM{P f}(hd:dec P f=some K5):R8 P f:=by
 intro d v D hv hD hl;have hv':RSl 1 EU d v (ints D):=hv;obtain⟨a,cc,rfl⟩:=RSl.val hv;have hil:(ints D).length=D.length:=by simp[ints]
 rw[hil] at hv'⊢;refine AO.of' hd (Aca Z) ?_;show gwp P _ _ _ _ _;refine Aj<|Ak Z<|Br<|Ak Z<|Bw<|AL Z<|Am<|BP (α:=Nat) (fun k=>[(0,.slice a D.length cc),(3,Ag ((D.take k).map CQ)),(4,vZ (k:Int))]) (fun k d' L'=>d'=d∧k≤D.length∧L'=[]) (fun k=>D.length - k) 0 ⟨Z,Z,Z,trivial⟩ ⟨Z,Acu _,Z⟩ ?_;rintro k ρ d' L' ⟨hdd,hk,hL⟩;subst hdd;subst hL;by_cases hc:k<D.length
 ·have hki:k<(ints D).length:=by omega
  have hdk:=hD _ (Acq hc);have hval:(ints D)[k]=(D[k]:Int):=by simp[ints]
  have cut:((([48,49,50,51,52,53,54,55,56,57]:List UInt8).drop D[k]).take (D[k]+1 - D[k]))=[CQ D[k]]:=by
   have kk:∀m:Fin 10,((([48,49,50,51,52,53,54,55,56,57]:List UInt8).drop m.val).take (m.val+1 - m.val))=[CQ m.val]:=by decide
   exact kk ⟨D[k],hdk⟩
  (refine Ap<|Ab Z<|AR Z<|AK Z<|As Z Z<|AE Z<|Ay<|Ax<|Am<|Bd<|Ak Z<|AR Z<|Ab Z<|A2 (sz:=1) (R:=EU) (by rfl) (by assumption) (by rfl) Z (by omega) ?_;rintro _ _ _ _ _ ⟨rfl,_,_⟩;refine Al Z (BQ (by assumption) Z)<|AR Z<|Ab Z<|A2 (sz:=1) (R:=EU) (by rfl) (by assumption) (by rfl) Z (by omega) ?_;rintro _ _ _ _ _ ⟨rfl,_,_⟩;refine Al Z (BQ (by assumption) Z)<|AY Z Z ?_);refine DG (n:=D[k]) (m:=D[k]+1) Z Z Z hval (by rw[hval];omega) (by omega) (by simp;omega) ?_;rw[cut];refine BI (a:=(D.take k).map CQ) (b:=[CQ D[k]]) Z Z (by simp;omega)<|B0<|Ak Z<|Av<|Ar<|Ab Z<|AY Z Z<|AL Z ?_;exact⟨k+1,by omega,⟨Z,congrArg Ag (by rw[Acx hc,List.map_append];rfl),Z,trivial⟩,Z,by omega,Z⟩
 ·(refine Ap<|Ab Z<|AR Z<|AK Z<|As Z Z<|BM Z<|A6<|Aj<|Ak Z<|Ak Z<|Bz ?_);rw[Adm (by omega)];exact CX Z
def AaK(m e:Int):prR m e=if (B1 m.natAbs).map CQ=[] then [48] else
 if 0≤e∧(((B1 m.natAbs).map CQ).length:Int)+e≤21 then DE m++(B1 m.natAbs).map CQ++Dm e.toNat else
 if e<0∧ -20≤e then
  if -e<(((B1 m.natAbs).map CQ).length:Int) then DE m++((B1 m.natAbs).map CQ).take (((B1 m.natAbs).map CQ).length+e).toNat++[46]++((B1 m.natAbs).map CQ).drop (((B1 m.natAbs).map CQ).length+e).toNat
  else DE m++[48,46]++Dm (-e - ((B1 m.natAbs).map CQ).length).toNat++(B1 m.natAbs).map CQ
 else DE m++(B1 m.natAbs).map CQ++[101]++DE e++(B1 e.natAbs).map CQ:=Z
def J9(a0 a1 a2 a3:Nat):Bo:=⟨104,[(.tmp 2),(.tmp 3)],(sR (o1 1 (.box 0)<|o1 2 (.mv (.const (Ag [])))<|o1 3 (.mv z0) .done) (.seq (sR (o1 8 (.ld (some 2) 1)<|oc 9 a0 [8]<|o1 10 (.un .not 9) .done) (.cond 10 (sR (o1 2 (.mv (.const (Ag [])))<|o1 3 (.mv (kZ 10)) .done) .ret) .skip)) (sR (o1 11 (.ld (some 2) 1)<|oc 12 a1 [11]<|o1 4 (.alo (.agg #[(.bool false),nV,(vZ 0)]))<|o0 (.st 3 4 12) .done) (sR (o1 5 (.mv (.const (Ag []))) .done) (.seq (sR (oj 13 0 4<|ol 14 13 .done) (.cond 14 (rG (o1 5 (.mv (.const (Ag [45]))) .done)) .skip)) (sR (oj 15 1 4<|ol 16 15<|oL 17 16<|om 6 17 .done) (.seq (sR (om 18 6<|ob 19 .eql 18 z0 .done) (.cond 19 (sR (o1 2 (.mv (.const (Ag [48])))<|o1 3 (.mv z0) .done) .ret) .skip)) (.seq (sR (oj 20 2 4<|ol 21 20<|ob 22 .geq 21 z0<|om 23 22<|gT 24 23 6<|oT 25 23 (.fld 2 4)<|oT 26 23 (.ld none 25)<|oT 27 23 (.bin .add 24 26)<|oT 28 23 (.bin .leq 27 (kZ 21))<|gP 29 23 28 .done) (.cond 29 (.seq (.reg true (pm 30 5<|p1 31 (.fld 1 4)<|pl 32 31<|p1 35 (.fld 2 4)<|pl 36 35<|oc 33 a2 [32]<|p1 34 (.bin .add 30 33)<|oc 37 a3 [36]<|p1 38 (.bin .add 34 37) (.bar (pm 2 38 (p1 3 (.mv z0) .done))))) .ret) .skip)) (.seq (sR (oj 39 2 4<|ol 40 39<|ob 41 .lss 40 z0<|om 42 41<|oT 43 42 (.fld 2 4)<|oT 44 42 (.ld none 43)<|oT 45 42 (.bin .geq 44 (kZ (-20)))<|gP 46 42 45 .done) (.cond 46 (.seq (sR (om 47 6<|oj 48 2 4<|ol 49 48<|o1 50 (.un .neg 49)<|ob 51 .gtr 47 50 .done) (.cond 51 (.seq (.reg true (pm 52 5<|p1 53 (.fld 1 4)<|pl 54 53<|pm 55 6<|p1 56 (.fld 2 4)<|pl 57 56<|p1 58 (.bin .add 55 57)<|p1 59 (.sl 1 54 none (some 58) none)<|p1 63 (.fld 1 4)<|pl 64 63<|pm 65 6<|p1 66 (.fld 2 4)<|pl 67 66<|p1 68 (.bin .add 65 67)<|p1 69 (.sl 1 64 (some 68) none none)<|oc 60 a2 [59]<|p1 61 (.bin .add 52 60)<|p1 62 (.bin .add 61 (.const (Ag [46])))<|oc 70 a2 [69]<|p1 71 (.bin .add 62 70) (.bar (pm 2 71 (p1 3 (.mv z0) .done))))) .ret) .skip)) (.seq (.reg true (pm 72 5<|p1 73 (.bin .add 72 (.const (Ag [48,46])))<|p1 74 (.fld 2 4)<|pl 75 74<|p1 76 (.un .neg 75)<|pm 77 6<|p1 78 (.bin .sub 76 77)<|p1 81 (.fld 1 4)<|pl 82 81<|oc 79 a3 [78]<|p1 80 (.bin .add 73 79)<|oc 83 a2 [82]<|p1 84 (.bin .add 80 83) (.bar (pm 2 84 (p1 3 (.mv z0) .done))))) .ret)) .skip)) (sR (oj 85 2 4<|ol 86 85<|o1 87 (.bld [(0,1),(1,1)] [(vZ 0),(vZ 0)] [(0,86)])<|oc 88 a1 [87]<|o1 7 (.alo (.agg #[(.bool false),nV,(vZ 0)]))<|o0 (.st 3 7 88) .done) (sR (om 89 5<|oj 90 1 4<|ol 91 90<|oc 92 a2 [91]<|ob 93 .add 89 92<|ob 94 .add 93 (.const (Ag [101]))<|om 5 94 .done) (.seq (sR (oj 95 0 7<|ol 96 95 .done) (.cond 96 (rG (om 97 5<|ob 98 .add 97 (.const (Ag [45]))<|om 5 98 .done)) .skip)) (sR (om 99 5<|oj 100 1 7<|ol 101 100<|oc 102 a2 [101]<|ob 103 .add 99 102<|om 2 103<|o1 3 (.mv z0) .done) .ret)))))))))))))⟩
set_option maxHeartbeats 2000000 in
def ZJ{T:Ad→Prop}{P f f1 f2 f3 f4}(hd:dec P f=some (J9 f1 f2 f3 f4))(h1:Jg T P f1)(h2:Ol P f2)(h3:R8 P f3)(h4:LJ P f4):MO T P f:=by
 intro d m e ht hr;obtain⟨hm,he1,he2,h0⟩:=Jz hr;have p1:=h1 (d:=d) (m:=m) (e:=e) ht ⟨by omega,by omega⟩ ⟨by omega,by omega⟩;rw[hr] at p1;rw[Yd h0 (by omega),AaK];refine AO.of' hd (Aca Z) ?_;show gwp P _ _ _ _ _;apply Ax;apply Ar;refine Bg (l:=[vZ m,vZ e]) Z (fun b1 T1=>?_);clear hr;refine Ak Z<|A1 Z<|AP 0 Z Z Z<|AG Z p1<|Bu Z<|Bh Z<|Aj<|AP 0 Z Z Z<|Bi Z (h2 (m:=m) (e:=e) ⟨by omega,by omega⟩ ⟨by omega,by omega⟩) (fun r d2 L2 hl2 ⟨hL,dv,hr,hdv⟩=>?_);subst hL;subst hr;have hdl:=(F4 m.natAbs 18).2 (by omega);have hdlt:=ON m.natAbs;obtain⟨a0,c0,rfl⟩:=RSl.val hdv;have hil:(ints (B1 m.natAbs)).length=(B1 m.natAbs).length:=by simp[ints]
 rw[hil] at hdv⊢;generalize B1 m.natAbs=D at*;(apply BR;intro _ _);rename_i b4 T4;refine Au 0 [.bool (decide (m<0)),.slice a0 D.length c0,vZ e] Z Z Z Z (Aca Z) Z Z<|Br<|Ak Z<|Bw<|AI Z Z Z<|Av<|KL (fun ρ d' L'=>AZ ρ [(4,pZ b4),(5,Ag (DE m))]∧d'=d2∧L'=[bx b4 T4 [.bool (decide (m<0)),.slice a0 D.length c0,vZ e],bx b1 T1 [vZ m,vZ e]]) ?_ ?_
 ·unfold DE;by_cases k1:m<0
  ·rw[if_pos k1];(refine Bn Z<|Ar<|Ak Z<|Av ?_);exact⟨⟨Z,Z,trivial⟩,Z,Z⟩
  ·rw[if_neg k1];(refine AH Z<|Ay ?_);exact⟨⟨Z,Z,trivial⟩,Z,Z⟩
 rintro ρ d3 L' ⟨hs,hdd,hL⟩;subst hdd;subst hL;have hsl:(DE m).length≤1:=by unfold DE;split<;>simp
 generalize DE m=sg at*;show gwp P _ _ _ _ _;refine A4 _ hs ?_;clear hs p1;have hml:(D.map CQ).length=D.length:=Adq ..;by_cases k0:D.length=0
 ·have hD:D.map CQ=[]:=by rw[Acm k0];rfl
  rw[if_pos hD];refine Aj<|AI Z Z Z<|AK Z<|A1 Z<|Ab Z<|Ai Z Z<|AE Z<|Aj<|Ak Z<|AM Z<|Dy Z Z
 rw[if_neg (by intro q;rw[q] at hml;exact k0 hml.symm),hml];(refine Aj<|AI Z Z Z<|AK Z<|A1 Z<|Ab Z<|Ai Z Z<|BM Z ?_);apply Ay;refine CJ (fun ρ d' L'=>¬(0≤e∧(D.length:Int)+e≤21)∧AZ ρ [(4,pZ b4),(5,Ag sg),(6,vZ D.length)]∧d'=d3∧L'=[bx b4 T4 [.bool (decide (m<0)),.slice a0 D.length c0,vZ e],bx b1 T1 [vZ m,vZ e]]) ?_ ?_
 ·by_cases k1:0≤e
  ·obtain⟨n,rfl⟩:∃n:Nat,e=n:=⟨e.toNat,by omega⟩
   by_cases k2:(D.length:Int)+n≤21
   ·rw[if_pos ⟨k1,k2⟩];refine Aj<|AI Z Z Z<|A5 Z Z<|Ac Z<|AA Z<|Aa Z<|Ab Z<|Aa Z<|Ae Z<|Aa Z<|c_l Z Z Z<|Aa Z<|AY Z Z<|Aa Z<|BN Z Z<|Ah Z Z<|AE Z<|Ax<|Bd<|Ak Z<|AI Z Z Z<|AI Z Z Z<|AG Z (h3 hdv hdlt (by omega))<|BI (a:=sg) (b:=D.map CQ) Z Z (by omega)<|AG Z (h4 (n:=n) (by omega))<|BI (a:=sg++D.map CQ) (b:=Dm n) Z Z (by rw[Acd,Dm,Aef];omega)<|B0<|Ak Z<|AM Z<|Dy (by show _=Ag _;rw[Adc];rfl) Z
   ·(refine Aj<|AI Z Z Z<|A5 Z Z<|Ac Z<|AA Z<|Aa Z<|Ab Z<|Aa Z<|Ae Z<|Aa Z<|c_l Z Z Z<|Aa Z<|AY Z Z<|Aa Z<|BN Z Z<|Ah Z Z<|AJ Z ?_);exact⟨fun q=>k2 q.2,⟨Z,Z,Z,trivial⟩,Z,Z⟩
  ·(refine Aj<|AI Z Z Z<|A5 Z Z<|Ac Z<|Aw Z<|Aq Z Z<|Aq Z Z<|AF Z<|Af Z Z<|Bh Z ?_);exact⟨fun q=>k1 q.1,⟨Z,Z,Z,trivial⟩,Z,Z⟩
 rintro ρ d4 L' ⟨c29,hs,hdd,hL⟩;subst hdd;subst hL;rw[if_neg c29];refine A4 _ hs ?_;clear hs;refine CJ (fun ρ d' L'=>¬(e<0∧ -20≤e)∧AZ ρ [(4,pZ b4),(5,Ag sg)]∧d'=d4∧L'=[bx b4 T4 [.bool (decide (m<0)),.slice a0 D.length c0,vZ e],bx b1 T1 [vZ m,vZ e]]) ?_ ?_
 ·by_cases k1:e<0
  ·by_cases k2: -20≤e
   ·rw[if_pos ⟨k1,k2⟩];by_cases k3: -e<(D.length:Int)
    ·rw[if_pos k3];obtain⟨n,hn⟩:∃n:Nat,(D.length:Int)+e=n:=⟨((D.length:Int)+e).toNat,by omega⟩
     rw[hn,Adc];refine Aj<|AI Z Z Z<|As Z Z<|Ac Z<|AA Z<|Aa Z<|Ae Z<|Aa Z<|c_l Z Z Z<|Aa Z<|A5 Z Z<|Ah Z Z<|AE Z<|Ap<|Ab Z<|AI Z Z Z<|Ik Z (by omega) (by omega)<|AS Z Z<|AE Z<|Ax<|Bd<|Ak Z<|AI Z Z Z<|Ab Z<|AI Z Z Z<|AY Z Z<|F8 (n:=n) Z hdv Z hn (by omega) (fun v1 hv1=>?_);refine AI Z Z Z<|Ab Z<|AI Z Z Z<|AY Z Z<|DN (n:=n) Z hdv Z hn (by omega) (fun v2 hv2=>?_);rw[show(ints D).take n=ints (D.take n) by simp[ints,Agj]] at hv1;rw[show(ints D).drop n=ints (D.drop n) by simp[ints,Aha]] at hv2;refine AG Z (h3 hv1 (fun x hx=>hdlt x (List.mem_of_mem_take hx)) (by rw[Aco];omega)) ?_;have ht1:((D.take n).map CQ).length≤100:=by rw[Adq,Aco];omega
     have ht2:((D.drop n).map CQ).length≤100:=by rw[Adq,Acl];omega
     rw[←Agj,←Aha];refine BI (a:=sg) (b:=(D.take n).map CQ) Z Z (by omega)<|BI (a:=sg++(D.take n).map CQ) (b:=[46]) Z Z (by rw[Acd,Adf];omega)<|AG Z (h3 hv2 (fun x hx=>hdlt x (List.mem_of_mem_drop hx)) (by rw[Acl];omega))<|BI (a:=sg++(D.take n).map CQ++[46]) (b:=(D.drop n).map CQ) Z Z (by rw[Acd,Acd,Adf];omega)<|B0<|Ak Z<|AM Z<|Dy Z Z
    ·rw[if_neg k3];obtain⟨n,hn⟩:∃n:Nat, -e - (D.length:Int)=n:=⟨(-e - (D.length:Int)).toNat,by omega⟩
     rw[hn,Adc];refine Aj<|AI Z Z Z<|As Z Z<|Ac Z<|AA Z<|Aa Z<|Ae Z<|Aa Z<|c_l Z Z Z<|Aa Z<|A5 Z Z<|Ah Z Z<|AE Z<|Ap<|Ab Z<|AI Z Z Z<|Ik Z (by omega) (by omega)<|AS Z Z<|AJ Z<|Ax<|Bd ?_;(apply Ak;rfl);refine BI (a:=sg) (b:=[48,46]) Z Z (by simp;omega)<|AI Z Z Z<|Ik Z (by omega) (by omega)<|Ab Z<|DQ Z Z<|AI Z Z Z ?_;rw[hn];refine AG Z (h4 (n:=n) (by omega)) ?_;have hnl:(Dm n).length≤100:=by rw[Dm,Aef];omega
     refine BI (a:=sg++[48,46]) (b:=Dm n) Z Z (by rw[Acd];simp;omega)<|AG Z (h3 hdv hdlt (by omega))<|BI (a:=sg++[48,46]++Dm n) (b:=D.map CQ) Z Z (by simp only[Acd,Acg,Acs];omega)<|B0<|Ak Z<|AM Z<|Dy Z Z
   ·(refine Aj<|AI Z Z Z<|As Z Z<|Ac Z<|AA Z<|Aa Z<|Ae Z<|Aa Z<|c_l Z Z Z<|Aa Z<|A5 Z Z<|Ah Z Z<|AJ Z ?_);exact⟨fun q=>k2 q.2,⟨Z,Z,trivial⟩,Z,Z⟩
  ·(refine Aj<|AI Z Z Z<|As Z Z<|Ac Z<|Aw Z<|Aq Z Z<|AF Z<|Af Z Z<|Bh Z ?_);exact⟨fun q=>k1 q.1,⟨Z,Z,trivial⟩,Z,Z⟩
 rintro ρ d5 L' ⟨c46,hs,hdd,hL⟩;subst hdd;subst hL;rw[if_neg c46];refine A4 _ hs ?_;clear hs c29 c46;have hel:=(F4 e.natAbs 18).2 (by omega);have helt:=ON e.natAbs;refine Aj<|AI Z Z Z<|B2 Z<|Bi Z (h2 (m:=e) (e:=0) ⟨by omega,by omega⟩ ⟨by omega,by omega⟩) (fun r d6 L6 hl6 ⟨hL,ev,hr,hev⟩=>?_);subst hL;subst hr;obtain⟨a1,c1,rfl⟩:=RSl.val hev;have hil2:(ints (B1 e.natAbs)).length=(B1 e.natAbs).length:=by simp[ints]
 rw[hil2] at hev⊢;generalize B1 e.natAbs=D2 at*;have hdv6:=RSl.mono (R:=EU) (fun _ h=>h) hdv hl6;(apply BR;intro _ _);rename_i b7 T7;refine Au 0 [.bool (decide (e<0)),.slice a1 D2.length c1,vZ 0] Z Z Z Z (Aca Z) Z Z<|Br<|Ak Z<|Ae Z<|Al Z (An 1 Z Z)<|AG Z (h3 hdv6 hdlt (by omega))<|BI (a:=sg) (b:=D.map CQ) Z Z (by omega)<|BI (a:=sg++D.map CQ) (b:=[101]) Z Z (by rw[Acd,Adf];omega)<|Ak Z<|Bw<|AI Z Z Z<|Av<|KL (fun ρ d' L'=>AZ ρ [(7,pZ b7),(5,Ag (sg++D.map CQ++[101]++DE e))]∧d'=d6∧∃J,L'=bx b7 T7 [.bool (decide (e<0)),.slice a1 D2.length c1,vZ 0]::J) ?_ ?_
 ·unfold DE;by_cases k1:e<0
  ·rw[if_pos k1];refine Bn Z<|Ar<|Ak Z<|BI (a:=sg++D.map CQ++[101]) (b:=[45]) Z Z (by simp only[Acd,Adf];omega)<|Ak Z<|Av ?_;exact⟨⟨Z,Z,trivial⟩,Z,_,Z⟩
  ·rw[if_neg k1];(refine AH Z<|Ay ?_);exact⟨⟨Z,congrArg Ag (Ado _).symm,trivial⟩,Z,_,Z⟩
 rintro ρ d7 L' ⟨hs,hdd,J,hL⟩;subst hdd;subst hL;have hse:(DE e).length≤1:=by unfold DE;split<;>simp
 have hml2:(D2.map CQ).length=D2.length:=Adq ..;generalize DE e=se at*;show gwp P _ _ _ _ _;refine A4 _ hs ?_;clear hs;refine Aj<|Ak Z<|AI Z Z Z<|AG Z (h3 hev helt (by omega))<|BI (a:=sg++D.map CQ++[101]++se) (b:=D2.map CQ) Z Z (by simp only[Acd,Adf];omega)<|Ak Z<|AM Z<|Dy Z Z
end Go.Gk.Jsn
end
section
namespace Go.Gk.Jsn
open Go Go.Gk Go.Gk.Val
attribute [local irreducible] gwp gws
def Cx{c:UInt8}{n:Nat}(u:UInt8)(hu:u.toNat=n):c=u↔c.toNat=n:=⟨fun h=>by rw[h];exact hu,fun h=>UInt8.toNat_inj.1 (by rw[h,hu])⟩
def WD{c:UInt8}:Cu c=decide (c.toNat=32∨c.toNat=9∨c.toNat=10∨c.toNat=13):=by
 rw[Cu];refine decide_eq_decide.2 ?_;rw[Cx (n:=32) 32 Z,Cx (n:=9) 9 Z,Cx (n:=10) 10 Z,Cx (n:=13) 13 Z]
def PE{c:UInt8}:E9 c=decide (c.toNat=123∨c.toNat=125∨c.toNat=91∨c.toNat=93∨c.toNat=58∨c.toNat=44):=by
 rw[E9];refine decide_eq_decide.2 ?_;simp only[Adj,Afz,or_false];rw[Cx (n:=123) 123 Z,Cx (n:=125) 125 Z,Cx (n:=91) 91 Z,Cx (n:=93) 93 Z,Cx (n:=58) 58 Z,Cx (n:=44) 44 Z]
def Y6{c:UInt8}:CY c=decide ((48≤c.toNat∧c.toNat≤57)∨c.toNat=43∨c.toNat=45∨c.toNat=46∨c.toNat=101∨c.toNat=69):=by
 rw[CY];refine decide_eq_decide.2 ?_;simp only[Adj,Afz,or_false];rw[Cx (n:=48) 48 Z,Cx (n:=49) 49 Z,Cx (n:=50) 50 Z,Cx (n:=51) 51 Z,Cx (n:=52) 52 Z,Cx (n:=53) 53 Z,Cx (n:=54) 54 Z,Cx (n:=55) 55 Z,Cx (n:=56) 56 Z,Cx (n:=57) 57 Z,
  Cx (n:=43) 43 Z,Cx (n:=45) 45 Z,Cx (n:=46) 46 Z,Cx (n:=101) 101 Z,Cx (n:=69) 69 Z]
 omega
def Py(P:Program)(f:FuncId):Prop:=∀{d}{c:UInt8},AO P f [.int .u8 (c.toNat:Int)] d (.bool (Cu c))
def KW:Bo:=⟨17,[(.tmp 2)],(sR (o1 2 (.mv (.const (.bool false))) .done) (sR (om 3 0<|ob 4 .eql 3 (.const (.int .u8 32))<|om 5 4<|gF 6 5 0<|oF 7 5 (.bin .eql 6 (.const (.int .u8 9)))<|o1 8 (.pick 5 (.const (.bool true)) 7)<|om 9 8<|gF 10 9 0<|oF 11 9 (.bin .eql 10 (.const (.int .u8 10)))<|o1 12 (.pick 9 (.const (.bool true)) 11)<|om 13 12<|gF 14 13 0<|oF 15 13 (.bin .eql 14 (.const (.int .u8 13)))<|o1 16 (.pick 13 (.const (.bool true)) 15)<|om 2 16 .done) .ret))⟩
def V3{P f}(hd:dec P f=some KW):Py P f:=by
 intro d c;refine AO.of' hd (Aca Z) ?_;show gwp P _ _ _ _ _;rw[WD];by_cases k1:c.toNat=32
 ·refine Aj<|Ao Z<|AD Z<|Ai Z Z<|Ac Z<|AA Z<|Aq Z Z<|Ah Z Z<|Ac Z<|Aq Z Z<|Ah Z Z<|Ac Z<|Aq Z Z<|Ah Z Z<|Bk Z<|BF Z (decide_eq_true (by omega)).symm
 by_cases k2:c.toNat=9
 ·refine Aj<|Ao Z<|AD Z<|Ai Z Z<|Ac Z<|Aw Z<|Aa Z<|Ab Z<|Aa Z<|Ai Z Z<|Af Z Z<|Ac Z<|AA Z<|Aq Z Z<|Ah Z Z<|Ac Z<|Aq Z Z<|Ah Z Z<|Bk Z<|BF Z (decide_eq_true (by omega)).symm
 by_cases k3:c.toNat=10
 ·refine Aj<|Ao Z<|AD Z<|Ai Z Z<|Ac Z<|Aw Z<|Aa Z<|Ab Z<|Aa Z<|Ai Z Z<|Af Z Z<|Ac Z<|Aw Z<|Aa Z<|Ab Z<|Aa Z<|Ai Z Z<|Af Z Z<|Ac Z<|AA Z<|Aq Z Z<|Ah Z Z<|Bk Z<|BF Z (decide_eq_true (by omega)).symm
 ·refine Aj<|Ao Z<|AD Z<|Ai Z Z<|Ac Z<|Aw Z<|Aa Z<|Ab Z<|Aa Z<|Ai Z Z<|Af Z Z<|Ac Z<|Aw Z<|Aa Z<|Ab Z<|Aa Z<|Ai Z Z<|Af Z Z<|Ac Z<|Aw Z<|Aa Z<|Ab Z<|Aa Z<|Ai Z Z<|Af Z Z<|Bk Z<|BF Z (decide_eq_decide.2 (by omega))
def Sx(P:Program)(f:FuncId):Prop:=∀{d}{c:UInt8},AO P f [.int .u8 (c.toNat:Int)] d (.bool (E9 c))
def K1:Bo:=⟨25,[(.tmp 2)],(sR (o1 2 (.mv (.const (.bool false))) .done) (sR (om 3 0<|ob 4 .eql 3 (.const (.int .u8 123))<|om 5 4<|gF 6 5 0<|oF 7 5 (.bin .eql 6 (.const (.int .u8 125)))<|o1 8 (.pick 5 (.const (.bool true)) 7)<|om 9 8<|gF 10 9 0<|oF 11 9 (.bin .eql 10 (.const (.int .u8 91)))<|o1 12 (.pick 9 (.const (.bool true)) 11)<|om 13 12<|gF 14 13 0<|oF 15 13 (.bin .eql 14 (.const (.int .u8 93)))<|o1 16 (.pick 13 (.const (.bool true)) 15)<|om 17 16<|gF 18 17 0<|oF 19 17 (.bin .eql 18 (.const (.int .u8 58)))<|o1 20 (.pick 17 (.const (.bool true)) 19)<|om 21 20<|gF 22 21 0<|oF 23 21 (.bin .eql 22 (.const (.int .u8 44)))<|o1 24 (.pick 21 (.const (.bool true)) 23)<|om 2 24 .done) .ret))⟩
def YN{P f}(hd:dec P f=some K1):Sx P f:=by
 intro d c;refine AO.of' hd (Aca Z) ?_;show gwp P _ _ _ _ _;rw[PE];by_cases k1:c.toNat=123
 ·refine Aj<|Ao Z<|AD Z<|Ai Z Z<|Ac Z<|AA Z<|Aq Z Z<|Ah Z Z<|Ac Z<|Aq Z Z<|Ah Z Z<|Ac Z<|Aq Z Z<|Ah Z Z<|Ac Z<|Aq Z Z<|Ah Z Z<|Ac Z<|Aq Z Z<|Ah Z Z<|Bk Z<|BF Z (decide_eq_true (by omega)).symm
 by_cases k2:c.toNat=125
 ·refine Aj<|Ao Z<|AD Z<|Ai Z Z<|Ac Z<|Aw Z<|Aa Z<|Ab Z<|Aa Z<|Ai Z Z<|Af Z Z<|Ac Z<|AA Z<|Aq Z Z<|Ah Z Z<|Ac Z<|Aq Z Z<|Ah Z Z<|Ac Z<|Aq Z Z<|Ah Z Z<|Ac Z<|Aq Z Z<|Ah Z Z<|Bk Z<|BF Z (decide_eq_true (by omega)).symm
 by_cases k3:c.toNat=91
 ·refine Aj<|Ao Z<|AD Z<|Ai Z Z<|Ac Z<|Aw Z<|Aa Z<|Ab Z<|Aa Z<|Ai Z Z<|Af Z Z<|Ac Z<|Aw Z<|Aa Z<|Ab Z<|Aa Z<|Ai Z Z<|Af Z Z<|Ac Z<|AA Z<|Aq Z Z<|Ah Z Z<|Ac Z<|Aq Z Z<|Ah Z Z<|Ac Z<|Aq Z Z<|Ah Z Z<|Bk Z<|BF Z (decide_eq_true (by omega)).symm
 by_cases k4:c.toNat=93
 ·refine Aj<|Ao Z<|AD Z<|Ai Z Z<|Ac Z<|Aw Z<|Aa Z<|Ab Z<|Aa Z<|Ai Z Z<|Af Z Z<|Ac Z<|Aw Z<|Aa Z<|Ab Z<|Aa Z<|Ai Z Z<|Af Z Z<|Ac Z<|Aw Z<|Aa Z<|Ab Z<|Aa Z<|Ai Z Z<|Af Z Z<|Ac Z<|AA Z<|Aq Z Z<|Ah Z Z<|Ac Z<|Aq Z Z<|Ah Z Z<|Bk Z<|BF Z (decide_eq_true (by omega)).symm
 by_cases k5:c.toNat=58
 ·refine Aj<|Ao Z<|AD Z<|Ai Z Z<|Ac Z<|Aw Z<|Aa Z<|Ab Z<|Aa Z<|Ai Z Z<|Af Z Z<|Ac Z<|Aw Z<|Aa Z<|Ab Z<|Aa Z<|Ai Z Z<|Af Z Z<|Ac Z<|Aw Z<|Aa Z<|Ab Z<|Aa Z<|Ai Z Z<|Af Z Z<|Ac Z<|Aw Z<|Aa Z<|Ab Z<|Aa Z<|Ai Z Z<|Af Z Z<|Ac Z<|AA Z<|Aq Z Z<|Ah Z Z<|Bk Z<|BF Z (decide_eq_true (by omega)).symm
 ·refine Aj<|Ao Z<|AD Z<|Ai Z Z<|Ac Z<|Aw Z<|Aa Z<|Ab Z<|Aa Z<|Ai Z Z<|Af Z Z<|Ac Z<|Aw Z<|Aa Z<|Ab Z<|Aa Z<|Ai Z Z<|Af Z Z<|Ac Z<|Aw Z<|Aa Z<|Ab Z<|Aa Z<|Ai Z Z<|Af Z Z<|Ac Z<|Aw Z<|Aa Z<|Ab Z<|Aa Z<|Ai Z Z<|Af Z Z<|Ac Z<|Aw Z<|Aa Z<|Ab Z<|Aa Z<|Ai Z Z<|Af Z Z<|Bk Z<|BF Z (decide_eq_decide.2 (by omega))
abbrev Lt(b:Bool):UInt8→Bool:=if b=true then Cc else CY
def QV(P:Program)(f:FuncId):Prop:=∀{d s}{p:Nat}{b:Bool},s.length≤1000000→p≤s.length→AO P f [Ag s,vZ (p:Int),.bool b] d (vZ ((p+BD (Lt b) (s.drop p):Nat):Int))
def Lm:Bo:=⟨59,[(.tmp 6)],(sR (o1 6 (.mv z0) .done) (.seq (.block 0 (.loop (.seq (sR (om 8 1<|om 9 0<|o1 10 (.lens 9)<|ob 11 .lss 8 10 .done) (.cond 11 .skip (.exit 0))) (.block 1 (sR (om 12 0<|om 13 1<|o1 14 (.sidx 12 13)<|om 7 14 .done) (.seq (sR (om 15 2<|om 16 15<|gT 17 16 7<|oT 18 16 (.bin .lss 17 (.const (.int .u8 97)))<|gT 19 16 18<|gF 20 19 7<|oF 21 19 (.bin .gtr 20 (.const (.int .u8 122)))<|oT 22 16 (.pick 19 (.const (.bool true)) 21)<|gP 23 16 22 .done) (.cond 23 (sR (om 24 1<|om 6 24 .done) .ret) .skip)) (.seq (sR (om 25 2<|o1 26 (.un .not 25)<|om 27 26<|gT 28 27 7<|oT 29 27 (.bin .lss 28 (.const (.int .u8 48)))<|gT 30 27 29<|gF 31 30 7<|oF 32 30 (.bin .gtr 31 (.const (.int .u8 57)))<|oT 33 27 (.pick 30 (.const (.bool true)) 32)<|gP 34 27 33<|om 35 34<|gT 36 35 7<|oT 37 35 (.bin .neq 36 (.const (.int .u8 43)))<|gP 38 35 37<|om 39 38<|gT 40 39 7<|oT 41 39 (.bin .neq 40 (.const (.int .u8 45)))<|gP 42 39 41<|om 43 42<|gT 44 43 7<|oT 45 43 (.bin .neq 44 (.const (.int .u8 46)))<|gP 46 43 45<|om 47 46<|gT 48 47 7<|oT 49 47 (.bin .neq 48 (.const (.int .u8 101)))<|gP 50 47 49<|om 51 50<|gT 52 51 7<|oT 53 51 (.bin .neq 52 (.const (.int .u8 69)))<|gP 54 51 53 .done) (.cond 54 (sR (om 55 1<|om 6 55 .done) .ret) .skip)) (rG (om 56 1<|ob 57 .add 56 z1<|om 1 57 .done))))))))) (sR (om 58 1<|om 6 58 .done) .ret)))⟩
set_option maxHeartbeats 1000000 in
def Zv{P f}(hd:dec P f=some Lm):QV P f:=by
 intro d s p b hl hp;refine AO.of' hd (Aca Z) ?_;show gwp P _ _ _ _ _;refine AD Z<|Cr<|Am<|BP (α:=Nat) (fun k=>[(0,Ag s),(1,vZ ((p+k:Nat):Int)),(2,.bool b)]) (fun k d' L'=>d'=d∧p+k≤s.length∧k≤BD (Lt b) (s.drop p)∧L'=[]) (fun k=>s.length - k) 0 ⟨Z,Z,Z,trivial⟩ ⟨Z,hp,Acu _,Z⟩ ?_;rintro k ρ d' L' ⟨hdd,hk,hr,hL⟩;subst hdd;subst hL;have hat:=Iy (Lt b) (s.drop p) k hr;rw[Aeb] at hat;by_cases hk2:p+k<s.length
 ·obtain⟨c,hc⟩:∃c,s[p+k]?=some c:=⟨_,Acf hk2⟩
  have hdr:s.drop (p+k)=c::s.drop (p+k+1):=by
   obtain⟨hlt,he⟩:=Acj.1 hc;rw[Acv hlt,he]
  rw[hdr,BD] at hat;have hcb:=UInt8.toNat_lt c;cases b with
  |true=>
   have hpb:Lt true c=Cc c:=Z
   rw[hpb] at hat
   generalize Lt true=pp at*
   by_cases g1:97≤c.toNat
   ·by_cases g2:c.toNat≤122
    ·rw[if_pos (by simp[Cc,g1,g2])] at hat
     clear hpb
     (refine Ap<|Ab Z<|Ak Z<|AX Z<|As Z Z<|AE Z<|Ay<|Am<|Aj<|Ak Z<|Ab Z ?_)
     refine AU (p+k) Z Z Z hc ?_
     (refine A1 Z<|Ac Z<|Ac Z<|Aa Z<|Ab Z<|Aa Z<|As Z Z<|Aa Z<|Ac Z<|Aw Z<|Aa Z<|Ab Z<|Aa Z<|AS Z Z<|Aa Z<|Af Z Z<|Ah Z Z<|AJ Z<|Ap<|Ac Z<|Bu Z<|Ac Z<|Aq Z Z<|AF Z<|AN Z<|AN Z<|AF Z<|Af Z Z<|Ac Z<|Aq Z Z<|Af Z Z<|Ac Z<|Aq Z Z<|Af Z Z<|Ac Z<|Aq Z Z<|Af Z Z<|Ac Z<|Aq Z Z<|Af Z Z<|Ac Z<|Aq Z Z<|Af Z Z<|Bh Z<|Ar<|Ab Z<|AY Z Z<|AL Z ?_)
     exact⟨k+1,by omega,⟨Z,congrArg (Value.int .i64) (by omega),Z,trivial⟩,Z,by omega,by omega,Z⟩
    ·rw[if_neg (by simp[Cc];omega)] at hat
     clear hpb
     (refine Ap<|Ab Z<|Ak Z<|AX Z<|As Z Z<|AE Z<|Ay<|Am<|Aj<|Ak Z<|Ab Z ?_)
     refine AU (p+k) Z Z Z hc ?_
     (refine A1 Z<|Ac Z<|Ac Z<|Aa Z<|Ab Z<|Aa Z<|As Z Z<|Aa Z<|Ac Z<|Aw Z<|Aa Z<|Ab Z<|Aa Z<|AS Z Z<|Aa Z<|Af Z Z<|Ah Z Z<|AE Z<|AD Z<|AM Z ?_)
     exact C7 Z (by omega)
   ·rw[if_neg (by simp[Cc];omega)] at hat
    clear hpb
    (refine Ap<|Ab Z<|Ak Z<|AX Z<|As Z Z<|AE Z<|Ay<|Am<|Aj<|Ak Z<|Ab Z ?_)
    refine AU (p+k) Z Z Z hc ?_
    (refine A1 Z<|Ac Z<|Ac Z<|Aa Z<|Ab Z<|Aa Z<|As Z Z<|Aa Z<|Ac Z<|AA Z<|Aq Z Z<|Aa Z<|Ah Z Z<|Ah Z Z<|BK Z<|AD Z<|AM Z ?_)
    exact C7 Z (by omega)
  |false=>
   have hpb:Lt false c=CY c:=Z
   rw[hpb,Y6] at hat
   clear hpb
   generalize Lt false=pp at*
   by_cases g:48≤c.toNat∧c.toNat≤57
   ·rw[if_pos (by rw[decide_eq_true_eq];omega)] at hat
    (refine Ap<|Ab Z<|Ak Z<|AX Z<|As Z Z<|AE Z<|Ay<|Am<|Aj<|Ak Z<|Ab Z ?_)
    refine AU (p+k) Z Z Z hc ?_
    (refine A1 Z<|Ac Z<|Ac Z<|Aq Z Z<|AF Z<|AN Z<|AN Z<|AF Z<|Af Z Z<|Bh Z<|Ap<|Ac Z<|Bu Z<|Ac Z<|Aa Z<|Ab Z<|Aa Z<|As Z Z<|Aa Z<|Ac Z<|Aw Z<|Aa Z<|Ab Z<|Aa Z<|AS Z Z<|Aa Z<|Af Z Z<|Ah Z Z<|Ac Z<|Aw Z<|Aq Z Z<|Af Z Z<|Ac Z<|Aq Z Z<|Af Z Z<|Ac Z<|Aq Z Z<|Af Z Z<|Ac Z<|Aq Z Z<|Af Z Z<|Ac Z<|Aq Z Z<|Af Z Z<|Bh Z<|Ar<|Ab Z<|AY Z Z<|AL Z ?_)
    exact⟨k+1,by omega,⟨Z,congrArg (Value.int .i64) (by omega),Z,trivial⟩,Z,by omega,by omega,Z⟩
   by_cases g:c.toNat=43
   ·rw[if_pos (by rw[decide_eq_true_eq];omega)] at hat
    (refine Ap<|Ab Z<|Ak Z<|AX Z<|As Z Z<|AE Z<|Ay<|Am<|Aj<|Ak Z<|Ab Z ?_)
    refine AU (p+k) Z Z Z hc ?_
    (refine A1 Z<|Ac Z<|Ac Z<|Aq Z Z<|AF Z<|AN Z<|AN Z<|AF Z<|Af Z Z<|Bh Z<|Ap<|Ac Z<|Bu Z<|Ac Z<|Aa Z<|Ab Z<|Aa Z<|As Z Z<|Aa Z<|Ac Z<|AA Z<|Aq Z Z<|Aa Z<|Ah Z Z<|Ah Z Z<|Ac Z<|Aa Z<|Ab Z<|Aa Z<|AB Z Z<|Ah Z Z<|Ac Z<|Aw Z<|Aq Z Z<|Af Z Z<|Ac Z<|Aq Z Z<|Af Z Z<|Ac Z<|Aq Z Z<|Af Z Z<|Ac Z<|Aq Z Z<|Af Z Z<|Bh Z<|Ar<|Ab Z<|AY Z Z<|AL Z ?_)
    exact⟨k+1,by omega,⟨Z,congrArg (Value.int .i64) (by omega),Z,trivial⟩,Z,by omega,by omega,Z⟩
   by_cases g:c.toNat=45
   ·rw[if_pos (by rw[decide_eq_true_eq];omega)] at hat
    (refine Ap<|Ab Z<|Ak Z<|AX Z<|As Z Z<|AE Z<|Ay<|Am<|Aj<|Ak Z<|Ab Z ?_)
    refine AU (p+k) Z Z Z hc ?_
    (refine A1 Z<|Ac Z<|Ac Z<|Aq Z Z<|AF Z<|AN Z<|AN Z<|AF Z<|Af Z Z<|Bh Z<|Ap<|Ac Z<|Bu Z<|Ac Z<|Aa Z<|Ab Z<|Aa Z<|As Z Z<|Aa Z<|Ac Z<|AA Z<|Aq Z Z<|Aa Z<|Ah Z Z<|Ah Z Z<|Ac Z<|Aa Z<|Ab Z<|Aa Z<|AB Z Z<|Ah Z Z<|Ac Z<|AA Z<|Aa Z<|Ab Z<|Aa Z<|AB Z Z<|Ah Z Z<|Ac Z<|Aw Z<|Aq Z Z<|Af Z Z<|Ac Z<|Aq Z Z<|Af Z Z<|Ac Z<|Aq Z Z<|Af Z Z<|Bh Z<|Ar<|Ab Z<|AY Z Z<|AL Z ?_)
    exact⟨k+1,by omega,⟨Z,congrArg (Value.int .i64) (by omega),Z,trivial⟩,Z,by omega,by omega,Z⟩
   by_cases g:c.toNat=46
   ·rw[if_pos (by rw[decide_eq_true_eq];omega)] at hat
    (refine Ap<|Ab Z<|Ak Z<|AX Z<|As Z Z<|AE Z<|Ay<|Am<|Aj<|Ak Z<|Ab Z ?_)
    refine AU (p+k) Z Z Z hc ?_
    (refine A1 Z<|Ac Z<|Ac Z<|Aq Z Z<|AF Z<|AN Z<|AN Z<|AF Z<|Af Z Z<|Bh Z<|Ap<|Ac Z<|Bu Z<|Ac Z<|Aa Z<|Ab Z<|Aa Z<|As Z Z<|Aa Z<|Ac Z<|AA Z<|Aq Z Z<|Aa Z<|Ah Z Z<|Ah Z Z<|Ac Z<|Aa Z<|Ab Z<|Aa Z<|AB Z Z<|Ah Z Z<|Ac Z<|AA Z<|Aa Z<|Ab Z<|Aa Z<|AB Z Z<|Ah Z Z<|Ac Z<|AA Z<|Aa Z<|Ab Z<|Aa Z<|AB Z Z<|Ah Z Z<|Ac Z<|Aw Z<|Aq Z Z<|Af Z Z<|Ac Z<|Aq Z Z<|Af Z Z<|Bh Z<|Ar<|Ab Z<|AY Z Z<|AL Z ?_)
    exact⟨k+1,by omega,⟨Z,congrArg (Value.int .i64) (by omega),Z,trivial⟩,Z,by omega,by omega,Z⟩
   by_cases g:c.toNat=101
   ·rw[if_pos (by rw[decide_eq_true_eq];omega)] at hat
    (refine Ap<|Ab Z<|Ak Z<|AX Z<|As Z Z<|AE Z<|Ay<|Am<|Aj<|Ak Z<|Ab Z ?_)
    refine AU (p+k) Z Z Z hc ?_
    (refine A1 Z<|Ac Z<|Ac Z<|Aq Z Z<|AF Z<|AN Z<|AN Z<|AF Z<|Af Z Z<|Bh Z<|Ap<|Ac Z<|Bu Z<|Ac Z<|Aa Z<|Ab Z<|Aa Z<|As Z Z<|Aa Z<|Ac Z<|Aw Z<|Aa Z<|Ab Z<|Aa Z<|AS Z Z<|Aa Z<|Af Z Z<|Ah Z Z<|Ac Z<|AA Z<|Aa Z<|Ab Z<|Aa Z<|AB Z Z<|Ah Z Z<|Ac Z<|AA Z<|Aa Z<|Ab Z<|Aa Z<|AB Z Z<|Ah Z Z<|Ac Z<|AA Z<|Aa Z<|Ab Z<|Aa Z<|AB Z Z<|Ah Z Z<|Ac Z<|AA Z<|Aa Z<|Ab Z<|Aa Z<|AB Z Z<|Ah Z Z<|Ac Z<|Aw Z<|Aq Z Z<|Af Z Z<|Bh Z<|Ar<|Ab Z<|AY Z Z<|AL Z ?_)
    exact⟨k+1,by omega,⟨Z,congrArg (Value.int .i64) (by omega),Z,trivial⟩,Z,by omega,by omega,Z⟩
   by_cases g:c.toNat=69
   ·rw[if_pos (by rw[decide_eq_true_eq];omega)] at hat
    (refine Ap<|Ab Z<|Ak Z<|AX Z<|As Z Z<|AE Z<|Ay<|Am<|Aj<|Ak Z<|Ab Z ?_)
    refine AU (p+k) Z Z Z hc ?_
    (refine A1 Z<|Ac Z<|Ac Z<|Aq Z Z<|AF Z<|AN Z<|AN Z<|AF Z<|Af Z Z<|Bh Z<|Ap<|Ac Z<|Bu Z<|Ac Z<|Aa Z<|Ab Z<|Aa Z<|As Z Z<|Aa Z<|Ac Z<|Aw Z<|Aa Z<|Ab Z<|Aa Z<|AS Z Z<|Aa Z<|Af Z Z<|Ah Z Z<|Ac Z<|AA Z<|Aa Z<|Ab Z<|Aa Z<|AB Z Z<|Ah Z Z<|Ac Z<|AA Z<|Aa Z<|Ab Z<|Aa Z<|AB Z Z<|Ah Z Z<|Ac Z<|AA Z<|Aa Z<|Ab Z<|Aa Z<|AB Z Z<|Ah Z Z<|Ac Z<|AA Z<|Aa Z<|Ab Z<|Aa Z<|AB Z Z<|Ah Z Z<|Ac Z<|AA Z<|Aa Z<|Ab Z<|Aa Z<|AB Z Z<|Ah Z Z<|AJ Z<|Ar<|Ab Z<|AY Z Z<|AL Z ?_)
    exact⟨k+1,by omega,⟨Z,congrArg (Value.int .i64) (by omega),Z,trivial⟩,Z,by omega,by omega,Z⟩
   rw[if_neg (by rw[decide_eq_true_eq];omega)] at hat
   by_cases g9:c.toNat<48
   ·(refine Ap<|Ab Z<|Ak Z<|AX Z<|As Z Z<|AE Z<|Ay<|Am<|Aj<|Ak Z<|Ab Z ?_)
    refine AU (p+k) Z Z Z hc ?_
    (refine A1 Z<|Ac Z<|Ac Z<|Aq Z Z<|AF Z<|AN Z<|AN Z<|AF Z<|Af Z Z<|Bh Z<|Ap<|Ac Z<|Bu Z<|Ac Z<|Aa Z<|Ab Z<|Aa Z<|As Z Z<|Aa Z<|Ac Z<|AA Z<|Aq Z Z<|Aa Z<|Ah Z Z<|Ah Z Z<|Ac Z<|Aa Z<|Ab Z<|Aa Z<|AB Z Z<|Ah Z Z<|Ac Z<|AA Z<|Aa Z<|Ab Z<|Aa Z<|AB Z Z<|Ah Z Z<|Ac Z<|AA Z<|Aa Z<|Ab Z<|Aa Z<|AB Z Z<|Ah Z Z<|Ac Z<|AA Z<|Aa Z<|Ab Z<|Aa Z<|AB Z Z<|Ah Z Z<|Ac Z<|AA Z<|Aa Z<|Ab Z<|Aa Z<|AB Z Z<|Ah Z Z<|AE Z<|AD Z<|AM Z ?_)
    exact C7 Z (by omega)
   ·(refine Ap<|Ab Z<|Ak Z<|AX Z<|As Z Z<|AE Z<|Ay<|Am<|Aj<|Ak Z<|Ab Z ?_)
    refine AU (p+k) Z Z Z hc ?_
    (refine A1 Z<|Ac Z<|Ac Z<|Aq Z Z<|AF Z<|AN Z<|AN Z<|AF Z<|Af Z Z<|Bh Z<|Ap<|Ac Z<|Bu Z<|Ac Z<|Aa Z<|Ab Z<|Aa Z<|As Z Z<|Aa Z<|Ac Z<|Aw Z<|Aa Z<|Ab Z<|Aa Z<|AS Z Z<|Aa Z<|Af Z Z<|Ah Z Z<|Ac Z<|AA Z<|Aa Z<|Ab Z<|Aa Z<|AB Z Z<|Ah Z Z<|Ac Z<|AA Z<|Aa Z<|Ab Z<|Aa Z<|AB Z Z<|Ah Z Z<|Ac Z<|AA Z<|Aa Z<|Ab Z<|Aa Z<|AB Z Z<|Ah Z Z<|Ac Z<|AA Z<|Aa Z<|Ab Z<|Aa Z<|AB Z Z<|Ah Z Z<|Ac Z<|AA Z<|Aa Z<|Ab Z<|Aa Z<|AB Z Z<|Ah Z Z<|AE Z<|AD Z<|AM Z ?_)
    exact C7 Z (by omega)
 ·have:s.drop (p+k)=[]:=Adb (by omega);rw[this] at hat;have h0:BD (Lt b) []=0:=Z;refine Ap<|Ab Z<|Ak Z<|AX Z<|As Z Z<|BM Z<|A6<|AD Z<|AM Z<|C7 Z (by omega)
end Go.Gk.Jsn
end
section
namespace Go.Gk.Jsn
open Go Go.Gk Go.Lib Go.Gk.Val
attribute [local irreducible] gwp gws
def H0{n:Nat}(h:n<16):([48,49,50,51,52,53,54,55,56,57,97,98,99,100,101,102]:List UInt8)[n]?=some (hxd (n:Int)):=by
 have k:∀n:Fin 16,([48,49,50,51,52,53,54,55,56,57,97,98,99,100,101,102]:List UInt8)[n.val]?=some (hxd (n.val:Int)):=by decide
 exact k ⟨n,h⟩
def Nx(T:Ad→Prop)(P:Program)(f:FuncId):Prop:=∀{d l},T d→l.length≤2000000→u8 l=true→AO P f [Ag l] d (.tuple #[Ag (ET l),vZ 0])
def Qk(a0 a1:Nat):Bo:=⟨77,[(.tmp 2),(.tmp 3)],(sR (o1 2 (.mv (.const (Ag [])))<|o1 3 (.mv z0) .done) (.seq (sR (om 7 0<|oc 8 a0 [7]<|o1 9 (.un .not 8) .done) (.cond 9 (sR (o1 2 (.mv (.const (Ag [])))<|o1 3 (.mv (kZ 20)) .done) .ret) .skip)) (sR (o1 10 (.bsl 1 1 [(.int .u8 0)] [(0,(.const (.int .u8 34)))])<|om 4 10 .done) (.seq (sR (om 11 0<|o1 12 (.mop (.rgs 11)) .done) (.block 0 (.loop (sR (o1 13 (.mop (.nxs 12))<|oe 14 13 0 .done) (.seq (.cond 14 .skip (.exit 0)) (.block 1 (sR (oe 15 13 2<|om 6 15 .done) (.block 2 (sR (om 20 6<|ob 21 .eql 20 (.const (.int .i32 34))<|om 22 21<|gF 23 22 6<|oF 24 22 (.bin .eql 23 (.const (.int .i32 92)))<|o1 25 (.pick 22 (.const (.bool true)) 24)<|om 19 25 .done) (.cond 19 (rG (om 26 4<|om 27 6<|o1 28 (.cvi .u8 27)<|o1 29 (.bsl 2 1 [(.int .u8 0)] [(0,(.const (.int .u8 92))),(1,28)])<|o1 30 (.app 1 1 [(.int .u8 0)] 26 29)<|om 4 30 .done)) (sR (om 32 6<|ob 33 .eql 32 (.const (.int .i32 8))<|om 31 33 .done) (.cond 31 (rG (om 34 4<|o1 35 (.bsl 2 1 [(.int .u8 0)] [(0,(.const (.int .u8 92))),(1,(.const (.int .u8 98)))])<|o1 36 (.app 1 1 [(.int .u8 0)] 34 35)<|om 4 36 .done)) (sR (om 38 6<|ob 39 .eql 38 (.const (.int .i32 9))<|om 37 39 .done) (.cond 37 (rG (om 40 4<|o1 41 (.bsl 2 1 [(.int .u8 0)] [(0,(.const (.int .u8 92))),(1,(.const (.int .u8 116)))])<|o1 42 (.app 1 1 [(.int .u8 0)] 40 41)<|om 4 42 .done)) (sR (om 44 6<|ob 45 .eql 44 (.const (.int .i32 10))<|om 43 45 .done) (.cond 43 (rG (om 46 4<|o1 47 (.bsl 2 1 [(.int .u8 0)] [(0,(.const (.int .u8 92))),(1,(.const (.int .u8 110)))])<|o1 48 (.app 1 1 [(.int .u8 0)] 46 47)<|om 4 48 .done)) (sR (om 50 6<|ob 51 .eql 50 (.const (.int .i32 12))<|om 49 51 .done) (.cond 49 (rG (om 52 4<|o1 53 (.bsl 2 1 [(.int .u8 0)] [(0,(.const (.int .u8 92))),(1,(.const (.int .u8 102)))])<|o1 54 (.app 1 1 [(.int .u8 0)] 52 53)<|om 4 54 .done)) (sR (om 56 6<|ob 57 .eql 56 (.const (.int .i32 13))<|om 55 57 .done) (.cond 55 (rG (om 58 4<|o1 59 (.bsl 2 1 [(.int .u8 0)] [(0,(.const (.int .u8 92))),(1,(.const (.int .u8 114)))])<|o1 60 (.app 1 1 [(.int .u8 0)] 58 59)<|om 4 60 .done)) (sR (om 62 6<|ob 63 .lss 62 (.const (.int .i32 32))<|om 61 63 .done) (.cond 61 (.reg true (pm 64 4<|pm 65 6<|p1 66 (.bin .shr 65 (.const (.int .u64 4)))<|p1 67 (.sidx (.const (Ag [48,49,50,51,52,53,54,55,56,57,97,98,99,100,101,102])) 66)<|pm 68 6<|p1 69 (.bin .and 68 (.const (.int .i32 15)))<|p1 70 (.sidx (.const (Ag [48,49,50,51,52,53,54,55,56,57,97,98,99,100,101,102])) 69)<|o1 71 (.bsl 6 1 [(.int .u8 0)] [(0,(.const (.int .u8 92))),(1,(.const (.int .u8 117))),(2,(.const (.int .u8 48))),(3,(.const (.int .u8 48))),(4,67),(5,70)])<|o1 72 (.app 1 1 [(.int .u8 0)] 64 71) (.bar (pm 4 72 .done)))) (rG (om 16 4<|om 17 6<|oc 18 a1 [16,17]<|om 4 18 .done)))))))))))))))))))))))) (sR (om 73 4<|o1 74 (.bsl 1 1 [(.int .u8 0)] [(0,(.const (.int .u8 34)))])<|o1 75 (.app 1 1 [(.int .u8 0)] 73 74)<|o1 76 (.b2s 75)<|om 2 76<|o1 3 (.mv z0) .done) .ret)))))⟩
set_option maxHeartbeats 2000000 in
set_option maxRecDepth 4000 in
def VL{T:Ad→Prop}{P f f1 f2}(hd:dec P f=some (Qk f1 f2))(h1:Ek T P f1)(h2:IJ 0 P f2):Nx T P f:=by
 intro d l ht hl hu;refine AO.of' hd (Aca Z) ?_;have p1:=h1 ht (by omega:l.length≤140737488355328);rw[hu] at p1;show gwp P _ _ _ _ _;refine Aj<|Ak Z<|A1 Z<|Ak Z<|AG Z p1<|Bu Z<|Bh Z<|Aj<|Ff (v0:=Bb 34) Z Z (fun b T1=>?_);refine AR Z<|Bw<|Ak Z<|Aby Z (fun q=>?_);refine Tv [1,0] Z ?_;(apply Am);have o1:AQ 1 Cd d (.slice (some ⟨b,0,none⟩) 1 1) [34] (bx b T1 [Bb 34]):=AQ.G7 Z Z (by simp);refine Pn (α:=Nat×List UInt8) (fun x v=>[(4,v),(12,pZ q)])
  (fun x v h d' L'=>d'=d∧x.1≤l.length∧AQ 1 Cd d v x.2 h∧u8 (l.drop x.1)=true∧x.2.length≤6*x.1+1∧x.2++(Utf.rns (l.drop x.1)).flatMap qch=[34]++(Utf.rns l).flatMap qch∧L'=[h,Km q l x.1])
  (fun x=>l.length - x.1) (0,[34]) _ _ ⟨Z,Z,trivial⟩ ⟨Z,Acu _,o1,hu,by simp,Z,Z⟩ ?_
 rintro⟨p,out⟩ v h ρ d' L' ⟨hdd,hp,ho,hv,hlen,heq,hL⟩;subst hdd;subst hL;simp only at hp ho hv hlen heq;refine Aj<|Abr 1 Z Z (fun hlt=>?_) (fun hge=>?_)
 ·have hne:l.drop p≠[]:=by simp;omega
  have hw:=decodeL_width (l.drop p);have hwl:=decodeL_le (l.drop p) hne;have hsc:=Fy (l.drop p);have hvr:u8 ((l.drop p).drop (decodeL (l.drop p)).2)=true:=Utf.G6 hne hv;rw[Acl] at hwl;rw[QL hne,List.flatMap_cons] at heq;rw[Aeb] at hvr heq;generalize hr:((decodeL (l.drop p)).1:Int)=r at*;generalize (decodeL (l.drop p)).2=w at*;have hr1:=hsc.1;have hr2:=hsc.2;have next:∀v' h',AQ 1 Cd d' v' (out++qch r) h'→∀ρ',AZ ρ' [(4,v'),(12,pZ q)]→
    ∃(x':Nat×List UInt8) (v'':Value) (h'':Ad),l.length - x'.1<l.length - p∧AZ ρ' [(4,v''),(12,pZ q)]∧(d'=d'∧x'.1≤l.length∧AQ 1 Cd d' v'' x'.2 h''∧u8 (l.drop x'.1)=true∧x'.2.length≤6*x'.1+1∧x'.2++(Utf.rns (l.drop x'.1)).flatMap qch=[34]++(Utf.rns l).flatMap qch∧[h',Km q l (p+w)]=[h'',Km q l x'.1]):=
   fun v' h' o ρ' hs=>⟨(p+w,out++qch r),v',h',by simp only;omega,hs,Z,by simp only;omega,o,hvr,by have:=Pq r;rw[Acd];simp only;omega,by rw[Ach];exact heq,Z⟩
  by_cases c34:r=34
  ·subst c34;refine CH Z Z<|Cr<|Ci Z<|Ay<|Am<|Aj<|CH Z Z<|AL Z<|Am<|AD Z<|Ai Z Z<|Ac Z<|AA Z<|Aq Z Z<|Ah Z Z<|Ao Z<|Ci Z<|Ar<|B3<|Ab Z<|Em Z<|Hz (b:=92) (b':=UInt8.ofNat ((34:Int) % 256).toNat) Z Z ho (fun _=>Z) (by omega) (fun u2 v2 h2 o2=>?_);refine B3<|Av<|next v2 h2 o2 _ ⟨rfl,rfl,trivial⟩
  by_cases c92:r=92
  ·subst c92;refine CH Z Z<|Cr<|Ci Z<|Ay<|Am<|Aj<|CH Z Z<|AL Z<|Am<|AD Z<|Ai Z Z<|Ac Z<|Aw Z<|Aa Z<|Ab Z<|Aa Z<|Ai Z Z<|Af Z Z<|Ao Z<|Bn Z<|Ar<|B3<|Ab Z<|Em Z<|Hz (b:=92) (b':=UInt8.ofNat ((92:Int) % 256).toNat) Z Z ho (fun _=>Z) (by omega) (fun u2 v2 h2 o2=>?_);refine B3<|Av<|next v2 h2 o2 _ ⟨rfl,rfl,trivial⟩
  by_cases c8:r=8
  ·subst c8;refine CH Z Z<|Cr<|Ci Z<|Ay<|Am<|Aj<|CH Z Z<|AL Z<|Am<|AD Z<|Ai Z Z<|Ac Z<|Aw Z<|Aa Z<|Ab Z<|Aa Z<|Ai Z Z<|Af Z Z<|Ao Z<|AH Z<|AD Z<|Ai Z Z<|Ao Z<|Bn Z<|Ar<|B3<|Hz (b:=92) (b':=98) Z Z ho (fun _=>Z) (by omega) (fun u2 v2 h2 o2=>?_);refine B3<|Av<|next v2 h2 o2 _ ⟨rfl,rfl,trivial⟩
  by_cases c9:r=9
  ·subst c9;refine CH Z Z<|Cr<|Ci Z<|Ay<|Am<|Aj<|CH Z Z<|AL Z<|Am<|AD Z<|Ai Z Z<|Ac Z<|Aw Z<|Aa Z<|Ab Z<|Aa Z<|Ai Z Z<|Af Z Z<|Ao Z<|AH Z<|AD Z<|Ai Z Z<|Ao Z<|AH Z<|AD Z<|Ai Z Z<|Ao Z<|Bn Z<|Ar<|B3<|Hz (b:=92) (b':=116) Z Z ho (fun _=>Z) (by omega) (fun u2 v2 h2 o2=>?_);refine B3<|Av<|next v2 h2 o2 _ ⟨rfl,rfl,trivial⟩
  by_cases c10:r=10
  ·subst c10;refine CH Z Z<|Cr<|Ci Z<|Ay<|Am<|Aj<|CH Z Z<|AL Z<|Am<|AD Z<|Ai Z Z<|Ac Z<|Aw Z<|Aa Z<|Ab Z<|Aa Z<|Ai Z Z<|Af Z Z<|Ao Z<|AH Z<|AD Z<|Ai Z Z<|Ao Z<|AH Z<|AD Z<|Ai Z Z<|Ao Z<|AH Z<|AD Z<|Ai Z Z<|Ao Z<|Bn Z<|Ar<|B3<|Hz (b:=92) (b':=110) Z Z ho (fun _=>Z) (by omega) (fun u2 v2 h2 o2=>?_);refine B3<|Av<|next v2 h2 o2 _ ⟨rfl,rfl,trivial⟩
  by_cases c12:r=12
  ·subst c12;refine CH Z Z<|Cr<|Ci Z<|Ay<|Am<|Aj<|CH Z Z<|AL Z<|Am<|AD Z<|Ai Z Z<|Ac Z<|Aw Z<|Aa Z<|Ab Z<|Aa Z<|Ai Z Z<|Af Z Z<|Ao Z<|AH Z<|AD Z<|Ai Z Z<|Ao Z<|AH Z<|AD Z<|Ai Z Z<|Ao Z<|AH Z<|AD Z<|Ai Z Z<|Ao Z<|AH Z<|AD Z<|Ai Z Z<|Ao Z<|Bn Z<|Ar<|B3<|Hz (b:=92) (b':=102) Z Z ho (fun _=>Z) (by omega) (fun u2 v2 h2 o2=>?_);refine B3<|Av<|next v2 h2 o2 _ ⟨rfl,rfl,trivial⟩
  by_cases c13:r=13
  ·subst c13;refine CH Z Z<|Cr<|Ci Z<|Ay<|Am<|Aj<|CH Z Z<|AL Z<|Am<|AD Z<|Ai Z Z<|Ac Z<|Aw Z<|Aa Z<|Ab Z<|Aa Z<|Ai Z Z<|Af Z Z<|Ao Z<|AH Z<|AD Z<|Ai Z Z<|Ao Z<|AH Z<|AD Z<|Ai Z Z<|Ao Z<|AH Z<|AD Z<|Ai Z Z<|Ao Z<|AH Z<|AD Z<|Ai Z Z<|Ao Z<|AH Z<|AD Z<|Ai Z Z<|Ao Z<|Bn Z<|Ar<|B3<|Hz (b:=92) (b':=114) Z Z ho (fun _=>Z) (by omega) (fun u2 v2 h2 o2=>?_);refine B3<|Av<|next v2 h2 o2 _ ⟨rfl,rfl,trivial⟩
  by_cases c32:r<32
  ·have hq:qch r=[92,117,48,48,hxd (r / 16),hxd (r % 16)]:=by
    rw[qch,if_neg (by omega),if_neg c8,if_neg c9,if_neg c10,if_neg c12,if_neg c13,if_pos c32]
   obtain⟨n,rfl⟩:∃n:Nat,r=n:=⟨r.toNat,by omega⟩
   refine CH Z Z<|Cr<|Ci Z<|Ay<|Am<|Aj<|CH Z Z<|AL Z<|Am<|AD Z<|Ai Z Z<|Ac Z<|Aw Z<|Aa Z<|Ab Z<|Aa Z<|Ai Z Z<|Af Z Z<|Ao Z<|AH Z<|AD Z<|Ai Z Z<|Ao Z<|AH Z<|AD Z<|Ai Z Z<|Ao Z<|AH Z<|AD Z<|Ai Z Z<|Ao Z<|AH Z<|AD Z<|Ai Z Z<|Ao Z<|AH Z<|AD Z<|Ai Z Z<|Ao Z<|AH Z<|AD Z<|As Z Z<|Ao Z<|Bn Z<|IH [Km q l (p+w)] [h] (Vs.pick [1,0] Z)<|B3<|Ab Z<|G4 4 Z Z (by decide)<|AU (n / 16) Z Z (by omega) (H0 (by omega)) ?_;(apply Ab;rfl);refine Zx Z Z (by omega) (by omega)<|AU (n % 16) Z Z (by omega) (H0 (by omega))<|Aan (a0:=92) (a1:=117) (a2:=48) (a3:=48) (a4:=hxd ((n / 16:Nat):Int)) (a5:=hxd ((n % 16:Nat):Int)) Z Z Z Z Z Z (fun b2 T2=>?_);refine Ei (R:=Cd) 0 Z Z ho Z (AQ.G7 Z Z (by simp)) E2 (by decide) (by simp;omega) (by simp;omega) (fun v2 h2 o2=>?_);apply B0;apply B3;refine Tv [1,0] Z ?_;skip;exact next v2 h2 (by rw[hq];exact o2) _ ⟨rfl,rfl,trivial⟩
  ·have hq:qch r=EV r:=by
    rw[qch,if_neg (by omega),if_neg c8,if_neg c9,if_neg c10,if_neg c12,if_neg c13,if_neg c32]
   refine CH Z Z<|Cr<|Ci Z<|Ay<|Am<|Aj<|CH Z Z<|AL Z<|Am<|AD Z<|Ai Z Z<|Ac Z<|Aw Z<|Aa Z<|Ab Z<|Aa Z<|Ai Z Z<|Af Z Z<|Ao Z<|AH Z<|AD Z<|Ai Z Z<|Ao Z<|AH Z<|AD Z<|Ai Z Z<|Ao Z<|AH Z<|AD Z<|Ai Z Z<|Ao Z<|AH Z<|AD Z<|Ai Z Z<|Ao Z<|AH Z<|AD Z<|Ai Z Z<|Ao Z<|AH Z<|AD Z<|As Z Z<|Ao Z<|AH Z<|Ar<|B3<|Ab Z<|JY 1 Z (h2 ho (by omega) hr1 ⟨hr1,hr2⟩) (fun v2 d2 L2 hl2 hr2=>?_);obtain⟨rfl,h2',rfl,o2⟩:=hr2;refine B3<|Av<|next v2 h2' (by rw[hq];exact o2) _ ⟨rfl,rfl,trivial⟩
 ·(refine CH Z Z<|Cr<|A7 Z<|A6<|Aj<|B3 ?_);have hpl:p=l.length:=by omega
  subst hpl;rw[List.drop_length] at heq;have e0:Utf.rns []=[]:=Z;rw[e0,List.flatMap_nil,Ado] at heq;refine Z9 (b:=34) Z ho (fun _=>Z) (by omega) (fun u2 v2 h2 o2=>?_);refine HW (by rfl) (by assumption) (by simp[lk])<|Ak Z<|AM Z<|Ba [Ag (out++[34]),vZ 0] ⟨Z,Z,trivial⟩ (Acb _) ⟨by rw[heq];rfl,Z⟩
end Go.Gk.Jsn
end
section
namespace Go.Gk.Jsn
open Go Go.Gk Go.Lib Go.Gk.Val Go.Gk.Utf
attribute [local irreducible] gwp gws
variable{P:Program}{f f1:FuncId}
def IK(P:Program)(f:FuncId):Prop:=∀{d}{c:Int},JD c→AO P f [vZ c] d (Ag (qch c))
def Mc(a0:Nat):Bo:=⟨51,[(.tmp 2)],(sR (o1 2 (.mv (.const (Ag []))) .done) (sR (o1 3 (.mv (.const (Ag [98,116,110,46,102,114]))) .done) (.seq (.block 0 (sR (om 5 0<|ob 6 .eql 5 (kZ 34)<|om 7 6<|gF 8 7 0<|oF 9 7 (.bin .eql 8 (kZ 92))<|o1 10 (.pick 7 (.const (.bool true)) 9)<|om 4 10 .done) (.cond 4 (sR (om 11 0<|oc 12 a0 [11]<|ob 13 .add (.const (Ag [92])) 12<|om 2 13 .done) .ret) (sR (om 15 0<|ob 16 .geq 15 (kZ 8)<|om 17 16<|gT 18 17 0<|oT 19 17 (.bin .leq 18 (kZ 13))<|gP 20 17 19<|om 21 20<|gT 22 21 0<|oT 23 21 (.bin .neq 22 (kZ 11))<|gP 24 21 23<|om 14 24 .done) (.cond 14 (sR (om 25 3<|om 26 0<|ob 27 .sub 26 (kZ 8)<|om 28 0<|ob 29 .sub 28 (kZ 7)<|o1 30 (.sls 25 (some 27) (some 29))<|ob 31 .add (.const (Ag [92])) 30<|om 2 31 .done) .ret) (sR (om 33 0<|ob 34 .lss 33 (kZ 32)<|om 32 34 .done) (.cond 32 (.seq (.reg true (pm 35 0<|p1 36 (.bin .quo 35 (kZ 16))<|pm 37 0<|p1 38 (.bin .quo 37 (kZ 16))<|p1 39 (.bin .add 38 z1)<|p1 40 (.sls (.const (Ag [48,49,50,51,52,53,54,55,56,57,97,98,99,100,101,102])) (some 36) (some 39))<|p1 41 (.bin .add (.const (Ag [92,117,48,48])) 40)<|pm 42 0<|p1 43 (.bin .rem 42 (kZ 16))<|pm 44 0<|p1 45 (.bin .rem 44 (kZ 16))<|p1 46 (.bin .add 45 z1)<|p1 47 (.sls (.const (Ag [48,49,50,51,52,53,54,55,56,57,97,98,99,100,101,102])) (some 43) (some 46))<|p1 48 (.bin .add 41 47) (.bar (pm 2 48 .done)))) .ret) .skip))))))) (sR (om 49 0<|oc 50 a0 [49]<|om 2 50 .done) .ret))))⟩
set_option maxHeartbeats 1000000 in
def Z5(hd:dec P f=some (Mc f1))(h1:Lu P f1):IK P f:=by
 intro d c hc;have hcs:=hc;obtain⟨hc1,hc2⟩:=hcs;refine AO.of' hd (Aca Z) ?_;have p1:=h1 (d:=d) (n:=c) ⟨by omega,by omega⟩;show gwp P _ _ _ _ _;by_cases c34:c=34
 ·subst c34;refine Aj<|Ak Z<|Br<|Ak Z<|Cr<|Am<|AD Z<|Ai Z Z<|Ac Z<|AA Z<|Aq Z Z<|Ah Z Z<|Ao Z<|Ci Z<|AD Z<|AG Z p1 ?_;skip;refine BI (a:=[92]) (b:=Dr 34) Z Z (by decide)<|Ak Z<|Bz<|CX (congrArg Ag (show [92]++Dr 34=qch 34 by decide))
 by_cases c92:c=92
 ·subst c92;refine Aj<|Ak Z<|Br<|Ak Z<|Cr<|Am<|AD Z<|Ai Z Z<|Ac Z<|Aw Z<|Aa Z<|Ab Z<|Aa Z<|Ai Z Z<|Af Z Z<|Ao Z<|Bn Z<|AD Z<|AG Z p1 ?_;skip;refine BI (a:=[92]) (b:=Dr 92) Z Z (by decide)<|Ak Z<|Bz<|CX (congrArg Ag (show [92]++Dr 92=qch 92 by decide))
 by_cases c8:8≤c∧c≤13∧c≠11
 ·obtain⟨g1,g2,g3⟩:=c8;refine Aj<|Ak Z<|Br<|Ak Z<|Cr<|Am<|AD Z<|Ai Z Z<|Ac Z<|Aw Z<|Aa Z<|Ab Z<|Aa Z<|Ai Z Z<|Af Z Z<|Ao Z<|AH Z<|AD Z<|A5 Z Z<|Ac Z<|AA Z<|Aa Z<|Ab Z<|Aa Z<|BN Z Z<|Ah Z Z<|Ac Z<|AA Z<|Aa Z<|Ab Z<|Aa Z<|AB Z Z<|Ah Z Z<|Ao Z<|Bn Z<|Aj<|Ak Z<|Ab Z<|DQ Z Z<|Ab Z<|DQ Z Z<|DG (n:=(c - 8).toNat) (m:=(c - 7).toNat) Z Z Z (by omega) (by omega) (by omega) (by simp;omega)<|BI (a:=[92]) Z Z (by simp;omega)<|Ak Z<|Bz<|CX (congrArg Ag ?_);rcases (by omega:c=8∨c=9∨c=10∨c=12∨c=13) with rfl|rfl|rfl|rfl|rfl<;>decide
 by_cases c32:c<32
 ·obtain⟨n,rfl⟩:∃n:Nat,c=n:=⟨c.toNat,by omega⟩
  have hq:qch (n:Int)=[92,117,48,48,hxd ((n / 16:Nat):Int),hxd ((n % 16:Nat):Int)]:=by
   rw[qch,if_neg (by omega),if_neg (by omega),if_neg (by omega),if_neg (by omega),if_neg (by omega),if_neg (by omega),if_pos c32];rfl
  have cut:∀m,m<16→((([48,49,50,51,52,53,54,55,56,57,97,98,99,100,101,102]:List UInt8).drop m).take (m+1 - m))=[hxd (m:Int)]:=by
   have k:∀m:Fin 16,((([48,49,50,51,52,53,54,55,56,57,97,98,99,100,101,102]:List UInt8).drop m.val).take (m.val+1 - m.val))=[hxd (m.val:Int)]:=by decide
   exact fun m h=>k ⟨m,h⟩
  by_cases g1:8≤(n:Int)
  ·by_cases g2:(n:Int)≤13
   ·refine Aj<|Ak Z<|Br<|Ak Z<|Cr<|Am<|AD Z<|Ai Z Z<|Ac Z<|Aw Z<|Aa Z<|Ab Z<|Aa Z<|Ai Z Z<|Af Z Z<|Ao Z<|AH Z<|AD Z<|A5 Z Z<|Ac Z<|AA Z<|Aa Z<|Ab Z<|Aa Z<|BN Z Z<|Ah Z Z<|Ac Z<|AA Z<|Aa Z<|Ab Z<|Aa Z<|AB Z Z<|Ah Z Z<|Ao Z<|AH Z<|AD Z<|As Z Z<|Ao Z<|Bn Z<|Ax<|Bd<|Ab Z<|F2 Z Z (by omega) (by omega) (by omega)<|Ab Z<|F2 Z Z (by omega) (by omega) (by omega)<|AY Z Z<|DG (n:=n / 16) (m:=n / 16+1) Z Z Z (by omega) (by omega) (by omega) (by simp;omega) ?_;rw[cut (n / 16) (by omega)];refine BI (a:=[92,117,48,48]) (b:=[hxd ((n / 16:Nat):Int)]) Z Z (by simp)<|Ab Z<|Fc Z Z (by omega) (by omega)<|Ab Z<|Fc Z Z (by omega) (by omega)<|AY Z Z<|DG (n:=n % 16) (m:=n % 16+1) Z Z Z (by omega) (by omega) (by omega) (by simp;omega) ?_;rw[cut (n % 16) (by omega)];refine BI (a:=[92,117,48,48]++[hxd ((n / 16:Nat):Int)]) (b:=[hxd ((n % 16:Nat):Int)]) Z Z (by simp)<|B0<|Ak Z<|Bz<|CX (congrArg Ag (by rw[hq];rfl))
   ·refine Aj<|Ak Z<|Br<|Ak Z<|Cr<|Am<|AD Z<|Ai Z Z<|Ac Z<|Aw Z<|Aa Z<|Ab Z<|Aa Z<|Ai Z Z<|Af Z Z<|Ao Z<|AH Z<|AD Z<|A5 Z Z<|Ac Z<|AA Z<|Aa Z<|Ab Z<|Aa Z<|BN Z Z<|Ah Z Z<|Ac Z<|Aw Z<|Aq Z Z<|Af Z Z<|Ao Z<|A7 Z<|AD Z<|As Z Z<|Ao Z<|Bn Z<|Ax<|Bd<|Ab Z<|F2 Z Z (by omega) (by omega) (by omega)<|Ab Z<|F2 Z Z (by omega) (by omega) (by omega)<|AY Z Z<|DG (n:=n / 16) (m:=n / 16+1) Z Z Z (by omega) (by omega) (by omega) (by simp;omega) ?_;rw[cut (n / 16) (by omega)];refine BI (a:=[92,117,48,48]) (b:=[hxd ((n / 16:Nat):Int)]) Z Z (by simp)<|Ab Z<|Fc Z Z (by omega) (by omega)<|Ab Z<|Fc Z Z (by omega) (by omega)<|AY Z Z<|DG (n:=n % 16) (m:=n % 16+1) Z Z Z (by omega) (by omega) (by omega) (by simp;omega) ?_;rw[cut (n % 16) (by omega)];refine BI (a:=[92,117,48,48]++[hxd ((n / 16:Nat):Int)]) (b:=[hxd ((n % 16:Nat):Int)]) Z Z (by simp)<|B0<|Ak Z<|Bz<|CX (congrArg Ag (by rw[hq];rfl))
  ·refine Aj<|Ak Z<|Br<|Ak Z<|Cr<|Am<|AD Z<|Ai Z Z<|Ac Z<|Aw Z<|Aa Z<|Ab Z<|Aa Z<|Ai Z Z<|Af Z Z<|Ao Z<|AH Z<|AD Z<|A5 Z Z<|Ac Z<|Aw Z<|Aq Z Z<|Af Z Z<|Ac Z<|Aq Z Z<|Af Z Z<|Ao Z<|A7 Z<|AD Z<|As Z Z<|Ao Z<|Bn Z<|Ax<|Bd<|Ab Z<|F2 Z Z (by omega) (by omega) (by omega)<|Ab Z<|F2 Z Z (by omega) (by omega) (by omega)<|AY Z Z<|DG (n:=n / 16) (m:=n / 16+1) Z Z Z (by omega) (by omega) (by omega) (by simp;omega) ?_;rw[cut (n / 16) (by omega)];refine BI (a:=[92,117,48,48]) (b:=[hxd ((n / 16:Nat):Int)]) Z Z (by simp)<|Ab Z<|Fc Z Z (by omega) (by omega)<|Ab Z<|Fc Z Z (by omega) (by omega)<|AY Z Z<|DG (n:=n % 16) (m:=n % 16+1) Z Z Z (by omega) (by omega) (by omega) (by simp;omega) ?_;rw[cut (n % 16) (by omega)];refine BI (a:=[92,117,48,48]++[hxd ((n / 16:Nat):Int)]) (b:=[hxd ((n % 16:Nat):Int)]) Z Z (by simp)<|B0<|Ak Z<|Bz<|CX (congrArg Ag (by rw[hq];rfl))
 ·refine Aj<|Ak Z<|Br<|Ak Z<|Cr<|Am<|AD Z<|Ai Z Z<|Ac Z<|Aw Z<|Aa Z<|Ab Z<|Aa Z<|Ai Z Z<|Af Z Z<|Ao Z<|AH Z<|AD Z<|A5 Z Z<|Ac Z<|AA Z<|Aa Z<|Ab Z<|Aa Z<|BN Z Z<|Ah Z Z<|Ac Z<|Aw Z<|Aq Z Z<|Af Z Z<|Ao Z<|A7 Z<|AD Z<|As Z Z<|Ao Z<|AH Z<|Ay<|AD Z<|AG Z p1<|Ak Z<|Bz<|CX (congrArg Ag ?_);rw[qch,if_neg (by omega),if_neg (by omega),if_neg (by omega),if_neg (by omega),if_neg (by omega),if_neg (by omega),if_neg c32,IV hc]
def NB(P:Program)(f:FuncId):Prop:=∀{d l},l.length≤2000000→u8 l=true→AO P f [Ag l] d (.tuple #[Ag (ET l),vZ 0])
def KQ(a0 a1 a2:Nat):Bo:=⟨27,[(.tmp 2),(.tmp 3)],(sR (o1 2 (.mv (.const (Ag [])))<|o1 3 (.mv z0) .done) (.seq (sR (om 7 0<|oc 8 a0 [7]<|o1 9 (.un .not 8) .done) (.cond 9 (sR (o1 2 (.mv (.const (Ag [])))<|o1 3 (.mv (kZ 20)) .done) .ret) .skip)) (sR (o1 4 (.mv (.const (Ag [34]))) .done) (.seq (.block 0 (.loop (.seq (sR (om 10 0<|o1 11 (.lens 10)<|ob 12 .gtr 11 z0 .done) (.cond 12 .skip (.exit 0))) (.block 1 (sR (om 14 0<|oc 15 a1 [14]<|om 13 15<|oe 16 13 0<|oe 17 13 1<|om 5 16<|om 6 17 .done) (sR (om 18 4<|om 19 5<|oc 20 a2 [19]<|ob 21 .add 18 20<|om 4 21 .done) (rG (om 22 0<|om 23 6<|o1 24 (.sls 22 (some 23) none)<|om 0 24 .done)))))))) (sR (om 25 4<|ob 26 .add 25 (.const (Ag [34]))<|om 2 26<|o1 3 (.mv z0) .done) .ret)))))⟩
set_option maxHeartbeats 1000000 in
def VR{T:Ad→Prop}(hT:∀d,T d){f2 f3}(hd:dec P f=some (KQ f1 f2 f3))(h1:Ek T P f1)(h2:IC P f2)(h3:IK P f3):NB P f:=by
 intro d l hl hu;refine AO.of' hd (Aca Z) ?_;have p1:=h1 (hT d) (by omega:l.length≤140737488355328);rw[hu] at p1;show gwp P _ _ _ _ _;refine Aj<|Ak Z<|A1 Z<|Ak Z<|AG Z p1<|Bu Z<|Bh Z<|Aj<|Ak Z<|Cr<|Am<|BP (α:=List UInt8×List UInt8) (fun x=>[(0,Ag x.1),(4,Ag x.2)])
  (fun x d' L'=>d'=d∧u8 x.1=true∧x.1.length≤l.length∧x.2.length+6*x.1.length≤6*l.length+1∧x.2++(rns x.1).flatMap qch=[34]++(rns l).flatMap qch∧L'=[])
  (fun x=>x.1.length) (l,[34]) ⟨Z,Z,trivial⟩ ⟨Z,hu,Ack _,by simp;omega,Z,Z⟩ ?_
 rintro x ρ d' L' ⟨hdd,hv,hsl,hlen,heq,hL⟩;subst hdd;subst hL;by_cases hs:x.1=[]
 ·have h0:x.1.length=0:=by rw[hs];rfl
  (refine Ap<|Ak Z<|AX Z<|AS Z Z<|BM Z<|A6<|Aj<|Ak Z ?_);rw[hs] at heq;have e0:rns []=[]:=Z;rw[e0,List.flatMap_nil,Ado] at heq;refine BI (a:=x.2) (b:=[34]) Z Z (by simp;omega)<|Ak Z<|AM Z<|Ba [Ag (x.2++[34]),vZ 0] ⟨Z,Z,trivial⟩ (Acb _) ⟨by rw[heq];rfl,Z⟩
 ·have hpos:0<x.1.length:=Adk.2 hs;have hf:=Utf.GO hs;have hb:¬decodeL x.1=(65533,1):=fun q=>by
   rw[u8,validD_step x.1 hs,q] at hv;simp at hv
  rw[if_neg hb] at hf;have hsc:=Fy x.1;have hw:=decodeL_width x.1;have hwl:=decodeL_le x.1 hs;have hvr:u8 (x.1.drop (decodeL x.1).2)=true:=Utf.G6 hs hv;have hq:=Pq ((decodeL x.1).1:Int);rw[QL hs,List.flatMap_cons] at heq;have p2:=h2 (d:=d') hs (by omega);rw[hf] at p2;have p3:=h3 (d:=d') hsc;generalize (decodeL x.1).1=r at*;generalize (decodeL x.1).2=w at*;generalize qch (r:Int)=qr at*;refine Ap<|Ak Z<|AX Z<|AS Z Z<|AE Z<|Ay<|Am<|Aj<|Ak Z<|AG Z p2<|Bm Z<|Bx Z Z Z Z<|Ab Z<|Bt Z<|Ak Z<|Ab Z<|AG Z p3<|BI (a:=x.2) (b:=qr) Z Z (by omega)<|Ak Z<|Av<|Ar<|Ak Z<|Ab Z<|B6 (n:=w) Z Z Z hwl<|Ak Z<|Av ?_;exact⟨(x.1.drop w,x.2++qr),by simp only[Acl];omega,⟨Z,Z,trivial⟩,Z,hvr,by simp only[Acl];omega,by simp only[Acd,Acl];omega,by rw[Ach];exact heq,Z⟩
def Fv(c:UInt8):Nat:=if 65≤c.toNat∧c.toNat≤70 then c.toNat+32 else c.toNat
def TK{n:Nat}(h:n<16):(hxd (n:Int)).toNat=if n<10 then 48+n else 87+n:=by
 have k:∀n:Fin 16,(hxd (n.val:Int)).toNat=if n.val<10 then 48+n.val else 87+n.val:=by decide
 exact k ⟨n,h⟩
def OU{c:UInt8}{n:Nat}(h:n<16)(e:(hxd (n:Int)).toNat=Fv c):CW c=n:=by
 rw[TK h] at e;unfold Fv at e;unfold CW;split at e<;>split at e<;>(split<;>try omega)<;>(split<;>try omega)<;>(split<;>omega)
def Pb{c:UInt8}(e:∀n:Nat,n<16→(hxd (n:Int)).toNat≠Fv c):CW c= -1:=by
 apply Classical.byContradiction;intro h;have hh:=HH c;obtain⟨n,hn⟩:∃n:Nat,CW c=n:=⟨(CW c).toNat,by omega⟩
 refine e n (by omega) ?_;rw[TK (by omega)];unfold CW at hn;unfold Fv;split at hn
 ·rw[if_pos (by omega),if_neg (by omega)];omega
 ·split at hn
  ·rw[if_neg (by omega),if_neg (by omega)];omega
  ·split at hn
   ·rw[if_neg (by omega),if_pos (by omega)];omega
   ·omega
def QH(P:Program)(f:FuncId):Prop:=∀{d}{c:UInt8},AO P f [Bb c] d (vZ (CW c))
def Kb:Bo:=⟨22,[(.tmp 2)],(sR (o1 2 (.mv z0) .done) (.seq (sR (om 4 0<|ob 5 .geq 4 (.const (.int .u8 65))<|om 6 5<|gT 7 6 0<|oT 8 6 (.bin .leq 7 (.const (.int .u8 70)))<|gP 9 6 8 .done) (.cond 9 (rG (om 10 0<|ob 11 .sub 10 (.const (.int .u8 65))<|ob 12 .add 11 (.const (.int .u8 97))<|om 0 12 .done)) .skip)) (.seq (sR (o1 3 (.mv z0) .done) (.block 0 (.loop (.seq (sR (om 13 3<|ob 14 .lss 13 (kZ 16) .done) (.cond 14 .skip (.exit 0))) (.seq (.block 1 (sR (om 17 3<|o1 18 (.sidx (.const (Ag [48,49,50,51,52,53,54,55,56,57,97,98,99,100,101,102])) 17)<|om 19 0<|ob 20 .eql 18 19 .done) (.cond 20 (sR (om 21 3<|om 2 21 .done) .ret) .skip))) (rG (om 15 3<|ob 16 .add 15 z1<|om 3 16 .done))))))) (sR (o1 2 (.mv (kZ (-1))) .done) .ret))))⟩
set_option maxHeartbeats 1000000 in
def Aar(hd:dec P f=some Kb):QH P f:=by
 intro d c;have hcb:=UInt8.toNat_lt c;refine AO.of' hd (Aca Z) ?_;show gwp P _ _ _ _ _;by_cases c65:65≤c.toNat
 ·by_cases c70:c.toNat≤70
  ·have hlow:((Fv c:Nat):Int)=c.toNat - 65+97:=by unfold Fv;rw[if_pos ⟨c65,c70⟩];omega
   refine AD Z<|Bw<|Ab Z<|A5 Z Z<|Ac Z<|AA Z<|Aa Z<|Ab Z<|Aa Z<|BN Z Z<|Ah Z Z<|AE Z<|Ar<|Ab Z<|JQ Z Z (by omega) (by omega)<|Rn Z Z (by omega) (by omega)<|A1 Z<|AL Z<|Am<|BP (α:=Nat) (fun k=>[(0,.int .u8 ((Fv c:Nat):Int)),(3,vZ (k:Int))])
    (fun k d' L'=>d'=d∧k≤16∧(∀n:Nat,n<k→(hxd (n:Int)).toNat≠Fv c)∧L'=[])
    (fun k=>16 - k) 0 ⟨congrArg (Value.int .u8) hlow.symm,Z,trivial⟩ ⟨Z,by omega,fun n hn=>by omega,Z⟩ ?_
   rintro k ρ d' L' ⟨hdd,hk,hno,hL⟩;subst hdd;subst hL;by_cases hk16:k<16
   ·by_cases he:(hxd (k:Int)).toNat=Fv c
    ·rw[OU hk16 he];refine Ap<|Ab Z<|As Z Z<|AE Z<|Ay<|Ax<|Am<|AD Z<|AU k Z Z Z (H0 hk16) ?_;rw[he];refine Ab Z<|Ai Z Z<|AE Z<|AD Z<|AM Z<|CX Z
    ·(refine Ap<|Ab Z<|As Z Z<|AE Z<|Ay<|Ax<|Am<|AD Z ?_);refine AU k Z Z Z (H0 hk16) ?_;have he':=he;generalize hh:(hxd (k:Int)).toNat=hx at he;(refine Ab Z<|Ai Z Z<|AJ Z<|Ar<|Ab Z<|AY Z Z<|AL Z ?_);exact⟨k+1,by omega,⟨Z,Z,trivial⟩,Z,by omega,fun n hn=>by
      by_cases e:n=k
      ·subst e;exact he'
      ·exact hno n (by omega),Z⟩
   ·rw[Pb (fun n hn=>hno n (by omega))];refine Ap<|Ab Z<|As Z Z<|BM Z<|A6<|AD Z<|Bz<|CX Z
  ·have hlow:Fv c=c.toNat:=by unfold Fv;rw[if_neg (by omega)]
   refine AD Z<|Bw<|Ab Z<|A5 Z Z<|Ac Z<|AA Z<|Aa Z<|Ab Z<|Aa Z<|BN Z Z<|Ah Z Z<|AJ Z<|Ap<|AL Z<|Am<|BP (α:=Nat) (fun k=>[(0,.int .u8 ((Fv c:Nat):Int)),(3,vZ (k:Int))])
    (fun k d' L'=>d'=d∧k≤16∧(∀n:Nat,n<k→(hxd (n:Int)).toNat≠Fv c)∧L'=[])
    (fun k=>16 - k) 0 ⟨congrArg (fun z:Nat=>Value.int .u8 (z:Int)) hlow.symm,Z,trivial⟩ ⟨Z,by omega,fun n hn=>by omega,Z⟩ ?_
   rintro k ρ d' L' ⟨hdd,hk,hno,hL⟩;subst hdd;subst hL;by_cases hk16:k<16
   ·by_cases he:(hxd (k:Int)).toNat=Fv c
    ·rw[OU hk16 he];refine Ap<|Ab Z<|As Z Z<|AE Z<|Ay<|Ax<|Am<|AD Z<|AU k Z Z Z (H0 hk16) ?_;rw[he];refine Ab Z<|Ai Z Z<|AE Z<|AD Z<|AM Z<|CX Z
    ·(refine Ap<|Ab Z<|As Z Z<|AE Z<|Ay<|Ax<|Am<|AD Z ?_);refine AU k Z Z Z (H0 hk16) ?_;have he':=he;generalize hh:(hxd (k:Int)).toNat=hx at he;(refine Ab Z<|Ai Z Z<|AJ Z<|Ar<|Ab Z<|AY Z Z<|AL Z ?_);exact⟨k+1,by omega,⟨Z,Z,trivial⟩,Z,by omega,fun n hn=>by
      by_cases e:n=k
      ·subst e;exact he'
      ·exact hno n (by omega),Z⟩
   ·rw[Pb (fun n hn=>hno n (by omega))];refine Ap<|Ab Z<|As Z Z<|BM Z<|A6<|AD Z<|Bz<|CX Z
 ·have hlow:Fv c=c.toNat:=by unfold Fv;rw[if_neg (by omega)]
  refine AD Z<|Bw<|Ab Z<|A5 Z Z<|Ac Z<|Aw Z<|Aq Z Z<|Af Z Z<|Bh Z<|Ap<|AL Z<|Am<|BP (α:=Nat) (fun k=>[(0,.int .u8 ((Fv c:Nat):Int)),(3,vZ (k:Int))])
   (fun k d' L'=>d'=d∧k≤16∧(∀n:Nat,n<k→(hxd (n:Int)).toNat≠Fv c)∧L'=[])
   (fun k=>16 - k) 0 ⟨congrArg (fun z:Nat=>Value.int .u8 (z:Int)) hlow.symm,Z,trivial⟩ ⟨Z,by omega,fun n hn=>by omega,Z⟩ ?_
  rintro k ρ d' L' ⟨hdd,hk,hno,hL⟩;subst hdd;subst hL;by_cases hk16:k<16
  ·by_cases he:(hxd (k:Int)).toNat=Fv c
   ·rw[OU hk16 he];refine Ap<|Ab Z<|As Z Z<|AE Z<|Ay<|Ax<|Am<|AD Z<|AU k Z Z Z (H0 hk16) ?_;rw[he];refine Ab Z<|Ai Z Z<|AE Z<|AD Z<|AM Z<|CX Z
   ·(refine Ap<|Ab Z<|As Z Z<|AE Z<|Ay<|Ax<|Am<|AD Z ?_);refine AU k Z Z Z (H0 hk16) ?_;have he':=he;generalize hh:(hxd (k:Int)).toNat=hx at he;(refine Ab Z<|Ai Z Z<|AJ Z<|Ar<|Ab Z<|AY Z Z<|AL Z ?_);exact⟨k+1,by omega,⟨Z,Z,trivial⟩,Z,by omega,fun n hn=>by
     by_cases e:n=k
     ·subst e;exact he'
     ·exact hno n (by omega),Z⟩
  ·rw[Pb (fun n hn=>hno n (by omega))];refine Ap<|Ab Z<|As Z Z<|BM Z<|A6<|AD Z<|Bz<|CX Z
def C5(s:List UInt8):Int:=if s[0]?=some 92∧s[1]?=some 117 then Cp (s.drop 2) else -1
def Ps(P:Program)(f:FuncId):Prop:=∀{d s},s.length≤100000000→AO P f [Ag s] d (vZ (C5 s))
def K4(a0:Nat):Bo:=⟨34,[(.tmp 2)],(sR (o1 2 (.mv z0) .done) (.seq (sR (om 6 0<|o1 7 (.lens 6)<|ob 8 .lss 7 (kZ 6)<|om 9 8<|gF 10 9 0<|oF 11 9 (.sidx 10 z0)<|oF 12 9 (.bin .neq 11 (.const (.int .u8 92)))<|o1 13 (.pick 9 (.const (.bool true)) 12)<|om 14 13<|gF 15 14 0<|oF 16 14 (.sidx 15 z1)<|oF 17 14 (.bin .neq 16 (.const (.int .u8 117)))<|o1 18 (.pick 14 (.const (.bool true)) 17) .done) (.cond 18 (sR (o1 2 (.mv (kZ (-1))) .done) .ret) .skip)) (sR (o1 3 (.mv z0) .done) (.seq (sR (o1 4 (.mv z2) .done) (.block 0 (.loop (.seq (sR (om 19 4<|ob 20 .lss 19 (kZ 6) .done) (.cond 20 .skip (.exit 0))) (.seq (.block 1 (sR (om 23 0<|om 24 4<|o1 25 (.sidx 23 24)<|oc 26 a0 [25]<|om 5 26 .done) (.seq (sR (om 27 5<|ob 28 .lss 27 z0 .done) (.cond 28 (sR (o1 2 (.mv (kZ (-1))) .done) .ret) .skip)) (rG (om 29 3<|ob 30 .mul 29 (kZ 16)<|om 31 5<|ob 32 .add 30 31<|om 3 32 .done))))) (rG (om 21 4<|ob 22 .add 21 z1<|om 4 22 .done))))))) (sR (om 33 3<|om 2 33 .done) .ret)))))⟩
set_option maxHeartbeats 1000000 in
def Zn(hd:dec P f=some (K4 f1))(h1:QH P f1):Ps P f:=by
 intro d s hl;have e92:(92:UInt8).toNat=92:=Z;have e117:(117:UInt8).toNat=117:=Z;refine AO.of' hd (Aca Z) ?_;show gwp P _ _ _ _ _;by_cases h6:s.length<6
 ·have e:C5 s= -1:=by
   unfold C5;split
   ·exact Classical.byContradiction fun q=>by have:=G3 q;rw[Acl] at this;omega
   ·rfl
  rw[e];refine AD Z<|Bw<|Ak Z<|AX Z<|As Z Z<|Ac Z<|AA Z<|Aq Z Z<|AF Z<|Ah Z Z<|Ac Z<|Aq Z Z<|AF Z<|Ah Z Z<|BK Z<|AD Z<|Bz<|CX Z
 obtain⟨x0,hx0⟩:∃x,s[0]?=some x:=⟨_,Acf (by omega)⟩
 obtain⟨x1,hx1⟩:∃x,s[1]?=some x:=⟨_,Acf (by omega)⟩
 by_cases c0:x0=92
 ·subst c0;by_cases c1:x1=117
  ·subst c1;have hU:C5 s=Cp (s.drop 2):=if_pos ⟨hx0,hx1⟩;have h4:4≤(s.drop 2).length:=by rw[Acl];omega
   rw[hU,R7 h4];refine AD Z<|Bw<|Ak Z<|AX Z<|As Z Z<|Ac Z<|Aw Z<|Aa Z<|Ak Z<|Aa Z<|AU 0 Z Z Z hx0<|Aa Z<|AB Z Z<|Af Z Z<|Ac Z<|Aw Z<|Aa Z<|Ak Z<|Aa Z<|AU 1 Z Z Z hx1<|Aa Z<|AB Z Z<|Af Z Z<|AJ Z<|AD Z<|Bw<|AL Z<|Am<|BP (α:=Nat) (fun k=>[(0,Ag s),(3,vZ (FT (s.drop 2) k)),(4,vZ ((k+2:Nat):Int))])
    (fun k d' L'=>d'=d∧k≤4∧(∀i<k,0≤CW ((s.drop 2).getD i 0))∧L'=[])
    (fun k=>4 - k) 0 ⟨Z,Z,Z,trivial⟩ ⟨Z,by omega,fun i hi=>by omega,Z⟩ ?_
   rintro k ρ d' L' ⟨hdd,hk,hdig,hL⟩;subst hdd;subst hL;have hv:=O2 k hdig;by_cases hk4:k<4
   ·have hv2:FT (s.drop 2) k<65536:=by
     have:(16:Int)^ k≤16 ^ 3:=by
      rcases (by omega:k=0∨k=1∨k=2∨k=3) with rfl|rfl|rfl|rfl<;>decide
     omega
    have hg:s[k+2]?=some ((s.drop 2).getD k 0):=by
     rw[List.getD_eq_getElem?_getD,Aeg,Nat.add_comm 2 k,Acf (by omega)];rfl
    have hx:FT (s.drop 2) (k+1)=FT (s.drop 2) k*16+CW ((s.drop 2).getD k 0):=Z;generalize hc:(s.drop 2).getD k 0=c at*;have hD:=HH c;by_cases cD:CW c<0
    ·have hno:¬∀i<4,0≤CW ((s.drop 2).getD i 0):=fun q=>by have:=q k hk4;rw[hc] at this;omega
     rw[if_neg hno];refine Ap<|Ab Z<|As Z Z<|AE Z<|Ay<|Ax<|Am<|Aj<|Ak Z<|Ab Z<|AU (k+2) Z Z Z hg<|AG Z (h1 (d:=d') (c:=c))<|A1 Z<|Ab Z<|As Z Z<|AE Z<|AD Z<|Bz<|CX Z
    ·(refine Ap<|Ab Z<|As Z Z<|AE Z<|Ay<|Ax<|Am<|Aj<|Ak Z<|Ab Z ?_);refine AU (k+2) Z Z Z hg ?_;refine AG Z (h1 (d:=d') (c:=c)) ?_;(refine A1 Z<|Ab Z<|As Z Z<|AJ Z<|Ar<|Ab Z<|Me Z Z (by omega) (by omega)<|Ab Z<|AY Z Z<|AL Z<|Ar<|Ab Z<|AY Z Z<|AL Z ?_);exact⟨k+1,by omega,⟨Z,congrArg (Value.int .i64) (by rw[hx]),congrArg (Value.int .i64) (by omega),trivial⟩,Z,by omega,fun i hi=>by
      by_cases e:i=k
      ·subst e;rw[hc];omega
      ·exact hdig i (by omega),Z⟩
   ·(refine Ap<|Ab Z<|As Z Z<|BM Z<|A6<|AD Z<|AM Z ?_);have e4:k=4:=by omega
    subst e4;rw[if_pos hdig];exact CX Z
  ·have hU:C5 s= -1:=if_neg (fun q=>by rw[hx1] at q;exact c1 (Option.some.inj q.2));have n1:x1.toNat≠117:=fun q=>c1 (UInt8.toNat_inj.1 q);rw[hU];refine AD Z<|Bw<|Ak Z<|AX Z<|As Z Z<|Ac Z<|Aw Z<|Aa Z<|Ak Z<|Aa Z<|AU 0 Z Z Z hx0<|Aa Z<|AB Z Z<|Af Z Z<|Ac Z<|Aw Z<|Aa Z<|Ak Z<|Aa Z<|AU 1 Z Z Z hx1<|Aa Z<|AB Z Z<|Af Z Z<|AE Z<|AD Z<|Bz<|CX Z
 ·have hU:C5 s= -1:=if_neg (fun q=>by rw[hx0] at q;exact c0 (Option.some.inj q.1));have n0:x0.toNat≠92:=fun q=>c0 (UInt8.toNat_inj.1 q);rw[hU];refine AD Z<|Bw<|Ak Z<|AX Z<|As Z Z<|Ac Z<|Aw Z<|Aa Z<|Ak Z<|Aa Z<|AU 0 Z Z Z hx0<|Aa Z<|AB Z Z<|Af Z Z<|Ac Z<|AA Z<|Aq Z Z<|AF Z<|Ah Z Z<|BK Z<|AD Z<|Bz<|CX Z
def KU:List UInt8:=[34,92,47,98,102,110,114,116]
def toT:List Int:=[34,92,47,8,12,10,13,9]
def Xb{c:UInt8}{n:Nat}(h:n<8)(e:KU[n]?=some c):Eg c=some (toT.getD n 0):=by
 have k:∀n:Fin 8,∀c,KU[n.val]?=some c→Eg c=some (toT.getD n.val 0):=by
  intro n c e;match n with
  |0|1|2|3|4|5|6|7=>injection e with e;subst e;rfl
 exact k ⟨n,h⟩ c e
def Yb{c:UInt8}(e:∀n:Nat,n<8→KU[n]?≠some c):Eg c=none:=by
 unfold Eg;have h:=fun(n:Nat) (hn:n<8) (x:UInt8) (hx:KU[n]?=some x)=>(fun q:c=x=>e n hn (by rw[hx,q]))
 rw[if_neg (h 0 (by decide) _ Z),if_neg (h 1 (by decide) _ Z),if_neg (h 2 (by decide) _ Z),if_neg (h 3 (by decide) _ Z),if_neg (h 4 (by decide) _ Z),if_neg (h 5 (by decide) _ Z),if_neg (h 6 (by decide) _ Z),if_neg (h 7 (by decide) _ Z)]
def Sq{s}(h0:s[0]?=some 92)(hs:∀c,s[1]?=some c→Eg c=none):pcR s=
  (if C5 s<0∨(56320≤C5 s∧C5 s≤57343) then(0,0) else if C5 s<55296∨57343<C5 s then(C5 s,6) else
   if C5 (s.drop 6)<56320∨57343<C5 (s.drop 6) then(0,0) else(65536+(C5 s - 55296)*1024+C5 (s.drop 6) - 56320,12)):=by
 match s,h0 with
 |[_],h0=>
  injection h0 with h0;subst h0
  rfl
 |b::c::r,h0=>
  injection h0 with h0;subst h0
  have hc:=hs c Z
  rw[Jp,Dz,hc]
  simp only
  by_cases q:c=117
  ·subst q
   have hu:C5 (92::117::r)=Cp r:=if_pos ⟨Z,Z⟩
   have hu2:C5 ((92::117::r).drop 6)=if r[4]?=some 92∧r[5]?=some 117 then Cp (r.drop 6) else -1:=by
    show C5 (r.drop 4)=_;unfold C5;rw[Aeg,Aeg,Aeb]
   rw[hu,hu2,if_pos Z]
   have hU:Dw r=(if Cp r<0∨(56320≤Cp r∧Cp r≤57343) then(0,0) else if Cp r<55296∨57343<Cp r then(Cp r,4) else
    if (if r[4]?=some 92∧r[5]?=some 117 then Cp (r.drop 6) else -1)<56320∨57343<(if r[4]?=some 92∧r[5]?=some 117 then Cp (r.drop 6) else -1) then(0,0) else(65536+(Cp r - 55296)*1024+(if r[4]?=some 92∧r[5]?=some 117 then Cp (r.drop 6) else -1) - 56320,10)):=Z
   rw[hU]
   generalize Cp r=a
   generalize (if r[4]?=some 92∧r[5]?=some 117 then Cp (r.drop 6) else -1)=b
   by_cases c1:a<0∨(56320≤a∧a≤57343)
   ·simp[if_pos c1]
   ·rw[if_neg c1,if_neg c1]
    by_cases c2:a<55296∨57343<a
    ·rw[if_pos c2,if_pos c2];rfl
    ·rw[if_neg c2,if_neg c2]
     by_cases c3:b<56320∨57343<b
     ·rw[if_pos c3,if_pos c3];rfl
     ·rw[if_neg c3,if_neg c3];rfl
  ·have hu:C5 (92::c::r)= -1:=if_neg (fun h=>q (Option.some.inj h.2))
   rw[hu,if_neg q];rfl
def No(P:Program)(f:FuncId):Prop:=∀{d s},s≠[]→s.length≤100000000→AO P f [Ag s] d (.tuple #[vZ (pcR s).1,vZ (pcR s).2])
def Kk(a0 a1:Nat):Bo:=⟨79,[(.tmp 2),(.tmp 3)],(sR (o1 2 (.mv z0)<|o1 3 (.mv z0) .done) (.seq (sR (om 11 0<|o1 12 (.sidx 11 z0)<|ob 13 .neq 12 (.const (.int .u8 92)) .done) (.cond 13 (sR (om 15 0<|oc 16 a0 [15]<|om 14 16<|oe 17 14 0<|oe 18 14 1<|om 4 17<|om 5 18 .done) (.seq (sR (om 19 4<|ob 20 .lss 19 (kZ 32)<|om 21 20<|gF 22 21 4<|oF 23 21 (.bin .eql 22 (kZ 34))<|o1 24 (.pick 21 (.const (.bool true)) 23) .done) (.cond 24 (sR (o1 2 (.mv z0)<|o1 3 (.mv z0) .done) .ret) .skip)) (sR (om 25 4<|om 26 5<|om 2 25<|om 3 26 .done) .ret))) .skip)) (.seq (sR (om 27 0<|o1 28 (.lens 27)<|ob 29 .gtr 28 z1 .done) (.cond 29 (sR (o1 6 (.mv (.const (Ag [34,92,47,98,102,110,114,116]))) .done) (sR (o1 30 (.bld [(0,1),(1,1),(2,1),(3,1),(4,1),(5,1),(6,1),(7,1)] [(vZ 0),(vZ 0),(vZ 0),(vZ 0),(vZ 0),(vZ 0),(vZ 0),(vZ 0)] [(0,(kZ 34)),(1,(kZ 92)),(2,(kZ 47)),(3,(kZ 8)),(4,(kZ 12)),(5,(kZ 10)),(6,(kZ 13)),(7,(kZ 9))])<|o1 7 (.alo (.agg #[(vZ 0),(vZ 0),(vZ 0),(vZ 0),(vZ 0),(vZ 0),(vZ 0),(vZ 0)]))<|o0 (.st 8 7 30) .done) (sR (o1 8 (.mv z0) .done) (.block 0 (.loop (.seq (sR (om 31 8<|ob 32 .lss 31 (kZ 8) .done) (.cond 32 .skip (.exit 0))) (.seq (.block 1 (.seq (.reg true (pm 35 6<|pm 36 8<|p1 37 (.sidx 35 36)<|pm 38 0<|p1 39 (.sidx 38 z1)<|p1 40 (.bin .eql 37 39) .done)) (.cond 40 (sR (om 41 8<|o1 42 (.idxa 8 1 7 41)<|ol 43 42<|om 2 43<|o1 3 (.mv z2) .done) .ret) .skip))) (rG (om 33 8<|ob 34 .add 33 z1<|om 8 34 .done))))))))) .skip)) (sR (om 44 0<|oc 45 a1 [44]<|om 9 45 .done) (.seq (sR (om 46 9<|ob 47 .lss 46 z0<|om 48 47<|gF 49 48 9<|oF 50 48 (.bin .geq 49 (kZ 56320))<|gF 51 48 50<|gT 52 51 9<|oT 53 51 (.bin .leq 52 (kZ 57343))<|oF 54 48 (.pick 51 53 (.const (.bool false)))<|o1 55 (.pick 48 (.const (.bool true)) 54) .done) (.cond 55 (sR (o1 2 (.mv z0)<|o1 3 (.mv z0) .done) .ret) .skip)) (.seq (sR (om 56 9<|ob 57 .lss 56 (kZ 55296)<|om 58 57<|gF 59 58 9<|oF 60 58 (.bin .gtr 59 (kZ 57343))<|o1 61 (.pick 58 (.const (.bool true)) 60) .done) (.cond 61 (sR (om 62 9<|om 2 62<|o1 3 (.mv (kZ 6)) .done) .ret) .skip)) (sR (om 63 0<|o1 64 (.sls 63 (some (kZ 6)) none)<|oc 65 a1 [64]<|om 10 65 .done) (.seq (sR (om 66 10<|ob 67 .lss 66 (kZ 56320)<|om 68 67<|gF 69 68 10<|oF 70 68 (.bin .gtr 69 (kZ 57343))<|o1 71 (.pick 68 (.const (.bool true)) 70) .done) (.cond 71 (sR (o1 2 (.mv z0)<|o1 3 (.mv z0) .done) .ret) .skip)) (sR (om 72 9<|ob 73 .sub 72 (kZ 55296)<|ob 74 .mul 73 (kZ 1024)<|ob 75 .add (kZ 65536) 74<|om 76 10<|ob 77 .add 75 76<|ob 78 .sub 77 (kZ 56320)<|om 2 78<|o1 3 (.mv (kZ 12)) .done) .ret)))))))))⟩
set_option maxHeartbeats 1000000 in
def WS{f2}(hd:dec P f=some (Kk f1 f2))(h1:IC P f1)(h2:Ps P f2):No P f:=by
 intro d s hne hl;have hpos:0<s.length:=Adk.2 hne;refine AO.of' hd (Aca Z) ?_;show gwp P _ _ _ _ _;obtain⟨b,t,hbt⟩:∃b t,s=b::t:=by cases s with|nil=>exact absurd Z hne|cons c r=>exact⟨c,r,Z⟩
 have h0:s[0]?=some b:=by rw[hbt];rfl
 by_cases c0:b=92
 ·have q0:b.toNat=92:=by rw[c0];rfl
  have h092:s[0]?=some 92:=by rw[h0,c0]
  have p2:=h2 (d:=d) hl;have p3:=h2 (d:=d) (s:=s.drop 6) (by rw[Acl];omega);have ulen:0≤C5 s→6≤s.length:=fun h=>by
   unfold C5 at h;split at h
   ·have:=G3 (l:=s.drop 2) (by omega);rw[Acl] at this;omega
   ·omega
  have ub: -1≤C5 s∧C5 s<65536:=by unfold C5;split;exact Hm _;omega
  have ub6: -1≤C5 (s.drop 6)∧C5 (s.drop 6)<65536:=by unfold C5;split;exact Hm _;omega
  by_cases hl1:s.length=1
  ·have hn1:s[1]?=none:=Acz (by omega);have hu:C5 s= -1:=if_neg (fun h=>by rw[hn1] at h;cases h.2);rw[Sq h092 (fun c hc=>by rw[hn1] at hc;cases hc),hu];rw[hu] at p2;refine AD Z<|A1 Z<|Ak Z<|AU 0 Z Z Z h0<|AB Z Z<|AJ Z<|Ap<|Ak Z<|AX Z<|AS Z Z<|AJ Z<|Aj<|Ak Z<|AG Z p2<|A1 Z<|Ab Z<|As Z Z<|Ac Z<|AA Z<|Aq Z Z<|AF Z<|AN Z<|AN Z<|AF Z<|Ah Z Z<|BK Z<|AD Z<|AM Z<|Ba [vZ 0,vZ 0] ⟨Z,Z,trivial⟩ (Acb _) ⟨Z,Z⟩
  obtain⟨c,hc⟩:∃c,s[1]?=some c:=⟨_,Acf (by omega)⟩
  have hbc:s=92::s.drop 1:=by rw[hbt,c0];rfl
  have hdc:s.drop 1=c::s.drop 2:=by
   obtain⟨hlt,he⟩:=Acj.1 hc;rw[Acv hlt,he]
  have hcb:=UInt8.toNat_lt c;refine AD Z<|A1 Z<|Ak Z<|AU 0 Z Z Z h0<|AB Z Z<|AJ Z<|Ap<|Ak Z<|AX Z<|AS Z Z<|AE Z<|Aj<|Ak Z<|Br<|AaL Z Z Z Z Z Z Z Z<|BR (fun _ _=>?_);rename_i b4 T4;refine Au 0 [vZ 34,vZ 92,vZ 47,vZ 8,vZ 12,vZ 10,vZ 13,vZ 9] Z Z Z Z (Aca Z) Z Z<|Br<|AL Z<|Am<|BP (α:=Nat) (fun k=>[(0,Ag s),(6,Ag KU),(7,pZ b4),(8,vZ (k:Int))])
   (fun k d' L'=>d'=d∧k≤8∧(∀n:Nat,n<k→KU[n]?≠some c)∧L'=[bx b4 T4 [vZ 34,vZ 92,vZ 47,vZ 8,vZ 12,vZ 10,vZ 13,vZ 9]])
   (fun k=>8 - k) 0 ⟨Z,Z,Z,Z,trivial⟩ ⟨Z,by omega,fun n hn=>by omega,Z⟩ ?_
  rintro k ρ d' L' ⟨hdd,hk,hno,hL⟩;subst hdd;subst hL;by_cases hk8:k<8
  ·obtain⟨fc,hfc⟩:∃fc,KU[k]?=some fc:=⟨_,Acf (by exact hk8)⟩
   have hfb:=UInt8.toNat_lt fc;have hto:([vZ 34,vZ 92,vZ 47,vZ 8,vZ 12,vZ 10,vZ 13,vZ 9]:List Value)[k]?=some (vZ (toT.getD k 0)):=by
    rcases (by omega:k=0∨k=1∨k=2∨k=3∨k=4∨k=5∨k=6∨k=7) with rfl|rfl|rfl|rfl|rfl|rfl|rfl|rfl<;>rfl
   by_cases he:fc=c
   ·have hsh:=Xb hk8 (by rw[hfc,he]);have hR:pcR s=(toT.getD k 0,2):=by
     rw[hbc,Jp,hdc,Dz,hsh];rfl
    have hn:fc.toNat=c.toNat:=by rw[he]
    rw[hR];refine Ap<|Ab Z<|As Z Z<|AE Z<|Ay<|Ax<|Am<|Ax<|Bd<|Ak Z<|Ab Z<|AU k Z Z Z hfc ?_;(apply Ak;rfl);refine AU 1 Z Z Z hc<|Ai Z Z<|AV<|Bn Z<|AD Z<|Dd k Z Z Z (by omega)<|Al Z (An 0 Z (by rw[Adw,Aex];exact hto))<|Ab Z<|AM Z<|Ba [vZ (toT.getD k 0),vZ 2] ⟨Z,Z,trivial⟩ (Acb _) ⟨Z,Z⟩
   ·have hn:fc.toNat≠c.toNat:=fun q=>he (UInt8.toNat_inj.1 q);(refine Ap<|Ab Z<|As Z Z<|AE Z<|Ay<|Ax<|Am<|Ax ?_);refine Bd ?_;(refine Ak Z<|Ab Z ?_);refine AU k Z Z Z hfc ?_;(apply Ak;rfl);refine AU 1 Z Z Z hc ?_;(refine Ai Z Z<|AV<|AH Z<|Ay<|Ar<|Ab Z<|AY Z Z<|AL Z ?_);exact⟨k+1,by omega,⟨Z,Z,Z,Z,trivial⟩,Z,by omega,fun n hn'=>by
     by_cases e:n=k
     ·subst e;rw[hfc];exact fun h=>he (Option.some.inj h)
     ·exact hno n (by omega),Z⟩
  ·have hE:Eg c=none:=Yb (fun n hn=>hno n (by omega));rw[Sq h092 (fun c' hc'=>by rw[hc] at hc';injection hc' with hc';rw[←hc'];exact hE)];generalize C5 s=a at*;generalize C5 (s.drop 6)=bb at*;refine Ap<|Ab Z<|As Z Z<|BM Z<|A6<|Aj<|Ak Z<|AG Z p2 ?_;by_cases g1:a<0
   ·rw[if_pos (.inl g1)];refine A1 Z<|Ab Z<|As Z Z<|Ac Z<|AA Z<|Aq Z Z<|AF Z<|AN Z<|AN Z<|AF Z<|Ah Z Z<|BK Z<|AD Z<|AM Z<|Ba [vZ 0,vZ 0] ⟨Z,Z,trivial⟩ (Acb _) ⟨Z,Z⟩
   by_cases g2:56320≤a∧a≤57343
   ·obtain⟨g2a,g2b⟩:=g2;rw[if_pos (.inr ⟨g2a,g2b⟩)];refine A1 Z<|Ab Z<|As Z Z<|Ac Z<|Aw Z<|Aa Z<|Ab Z<|Aa Z<|A5 Z Z<|Aa Z<|Ac Z<|AA Z<|Aa Z<|Ab Z<|Aa Z<|BN Z Z<|Aa Z<|Ah Z Z<|Af Z Z<|AE Z<|AD Z<|AM Z<|Ba [vZ 0,vZ 0] ⟨Z,Z,trivial⟩ (Acb _) ⟨Z,Z⟩
   rw[if_neg (by omega)];by_cases g3:a<55296
   ·rw[if_pos (.inl g3)];refine A1 Z<|Ab Z<|As Z Z<|Ac Z<|Aw Z<|Aa Z<|Ab Z<|Aa Z<|A5 Z Z<|Aa Z<|Ac Z<|Aw Z<|Aq Z Z<|Aa Z<|Af Z Z<|Af Z Z<|Bh Z<|Ap<|Ab Z<|As Z Z<|Ac Z<|AA Z<|Aq Z Z<|Ah Z Z<|BK Z<|AD Z<|Ab Z<|AM Z<|Ba [vZ a,vZ 6] ⟨Z,Z,trivial⟩ (Acb _) ⟨Z,Z⟩
   by_cases g4:57343<a
   ·rw[if_pos (.inr g4)];refine A1 Z<|Ab Z<|As Z Z<|Ac Z<|Aw Z<|Aa Z<|Ab Z<|Aa Z<|A5 Z Z<|Aa Z<|Ac Z<|AA Z<|Aa Z<|Ab Z<|Aa Z<|BN Z Z<|Aa Z<|Ah Z Z<|Af Z Z<|AJ Z<|Ap<|Ab Z<|As Z Z<|Ac Z<|Aw Z<|Aa Z<|Ab Z<|Aa Z<|AS Z Z<|Af Z Z<|AE Z<|AD Z<|Ab Z<|AM Z<|Ba [vZ a,vZ 6] ⟨Z,Z,trivial⟩ (Acb _) ⟨Z,Z⟩
   rw[if_neg (by omega)];have h6:=ulen (by omega);by_cases g5:bb<56320
   ·rw[if_pos (.inl g5)];refine A1 Z<|Ab Z<|As Z Z<|Ac Z<|Aw Z<|Aa Z<|Ab Z<|Aa Z<|A5 Z Z<|Aa Z<|Ac Z<|Aw Z<|Aq Z Z<|Aa Z<|Af Z Z<|Af Z Z<|Bh Z<|Ap<|Ab Z<|As Z Z<|Ac Z<|Aw Z<|Aa Z<|Ab Z<|Aa Z<|AS Z Z<|Af Z Z<|AJ Z<|Aj<|Ak Z<|B6 (n:=6) Z Z Z h6<|AG Z p3<|A1 Z<|Ab Z<|As Z Z<|Ac Z<|AA Z<|Aq Z Z<|Ah Z Z<|BK Z<|AD Z<|AM Z<|Ba [vZ 0,vZ 0] ⟨Z,Z,trivial⟩ (Acb _) ⟨Z,Z⟩
   by_cases g6:57343<bb
   ·rw[if_pos (.inr g6)];refine A1 Z<|Ab Z<|As Z Z<|Ac Z<|Aw Z<|Aa Z<|Ab Z<|Aa Z<|A5 Z Z<|Aa Z<|Ac Z<|Aw Z<|Aq Z Z<|Aa Z<|Af Z Z<|Af Z Z<|Bh Z<|Ap<|Ab Z<|As Z Z<|Ac Z<|Aw Z<|Aa Z<|Ab Z<|Aa Z<|AS Z Z<|Af Z Z<|AJ Z<|Aj<|Ak Z<|B6 (n:=6) Z Z Z h6<|AG Z p3<|A1 Z<|Ab Z<|As Z Z<|Ac Z<|Aw Z<|Aa Z<|Ab Z<|Aa Z<|AS Z Z<|Af Z Z<|AE Z<|AD Z<|AM Z<|Ba [vZ 0,vZ 0] ⟨Z,Z,trivial⟩ (Acb _) ⟨Z,Z⟩
   rw[if_neg (by omega)];refine A1 Z<|Ab Z<|As Z Z<|Ac Z<|Aw Z<|Aa Z<|Ab Z<|Aa Z<|A5 Z Z<|Aa Z<|Ac Z<|Aw Z<|Aq Z Z<|Aa Z<|Af Z Z<|Af Z Z<|Bh Z<|Ap<|Ab Z<|As Z Z<|Ac Z<|Aw Z<|Aa Z<|Ab Z<|Aa Z<|AS Z Z<|Af Z Z<|AJ Z<|Aj<|Ak Z<|B6 (n:=6) Z Z Z h6<|AG Z p3<|A1 Z<|Ab Z<|As Z Z<|Ac Z<|Aw Z<|Aa Z<|Ab Z<|Aa Z<|AS Z Z<|Af Z Z<|AJ Z<|AD Z<|DQ Z Z<|Me Z Z (by omega) (by omega)<|AY Z Z<|Ab Z<|AY Z Z<|DQ Z Z<|Ab Z<|AM Z<|Ba [vZ (65536+(a - 55296)*1024+bb - 56320),vZ 12] ⟨Z,Z,trivial⟩ (Acb _) ⟨Z,Z⟩
 ·have n0:b.toNat≠92:=fun q=>c0 (UInt8.toNat_inj.1 q);have p1:=h1 (d:=d) hne (by omega);have hR:pcR s=if (Dp s).1<32∨(Dp s).1=34 then(0,0) else Dp s:=by rw[hbt];exact Np c0
  rw[hR];generalize Dp s=x at*;refine AD Z<|A1 Z<|Ak Z<|AU 0 Z Z Z h0<|AB Z Z<|AE Z<|Aj<|Ak Z<|AG Z p1 ?_;by_cases g1:x.1<32
  ·rw[if_pos (.inl g1)];refine Bm Z<|Bx Z Z Z Z<|Ab Z<|A1 Z<|Ab Z<|As Z Z<|Ac Z<|AA Z<|Aq Z Z<|Ah Z Z<|BK Z<|AD Z<|AM Z<|Ba [vZ 0,vZ 0] ⟨Z,Z,trivial⟩ (Acb _) ⟨Z,Z⟩
  by_cases g2:x.1=34
  ·rw[if_pos (.inr g2)];refine Bm Z<|Bx Z Z Z Z<|Ab Z<|A1 Z<|Ab Z<|As Z Z<|Ac Z<|Aw Z<|Aa Z<|Ab Z<|Aa Z<|Ai Z Z<|Af Z Z<|AE Z<|AD Z<|AM Z<|Ba [vZ 0,vZ 0] ⟨Z,Z,trivial⟩ (Acb _) ⟨Z,Z⟩
  ·rw[if_neg (by omega)];refine Bm Z<|Bx Z Z Z Z<|Ab Z<|A1 Z<|Ab Z<|As Z Z<|Ac Z<|Aw Z<|Aa Z<|Ab Z<|Aa Z<|Ai Z Z<|Af Z Z<|AJ Z<|AD Z<|Ab Z<|Ab Z<|AM Z<|Ba [vZ x.1,vZ x.2] ⟨Z,Z,trivial⟩ (Acb _) ⟨Z,Z⟩
def AaW{b:UInt8}{t}:0≤(pcR (b::t)).2∧((pcR (b::t)).2≠0→JD (pcR (b::t)).1):=by
 by_cases h:b=92
 ·subst h;rw[Jp];by_cases h2:(Dz t).2=0
  ·rw[if_pos h2];exact⟨Afv _,fun h=>absurd Z h⟩
  ·rw[if_neg h2];exact⟨by simp only;omega,fun _=>Jl h2⟩
 ·rw[Np h,Utf.GO (by simp)];by_cases h3:decodeL (b::t)=(65533,1)
  ·rw[if_pos h3];exact⟨by decide,fun h=>absurd (by decide) h⟩
  ·rw[if_neg h3];split
   ·exact⟨Afv _,fun h=>absurd Z h⟩
   ·exact⟨by simp only;omega,fun _=>Fy _⟩
def Pa(P:Program)(f:FuncId):Prop:=∀{d s},s.length≤1000000→AO P f [Ag s] d (.tuple #[Ag (Ck s).1,vZ (Ck s).2.1,vZ (Ck s).2.2])
def Lb(a0 a1:Nat):Bo:=⟨50,[(.tmp 2),(.tmp 3),(.tmp 4)],(sR (o1 2 (.mv (.const (Ag [])))<|o1 3 (.mv z0)<|o1 4 (.mv z0) .done) (.seq (sR (om 9 0<|o1 10 (.lens 9)<|ob 11 .eql 10 z0<|om 12 11<|gF 13 12 0<|oF 14 12 (.sidx 13 z0)<|oF 15 12 (.bin .neq 14 (.const (.int .u8 34)))<|o1 16 (.pick 12 (.const (.bool true)) 15) .done) (.cond 16 (sR (o1 2 (.mv (.const (Ag [])))<|o1 3 (.mv z0)<|o1 4 (.mv (kZ 20)) .done) .ret) .skip)) (sR (o1 5 (.mv (.const (Ag []))) .done) (sR (o1 6 (.mv z1) .done) (.seq (.block 0 (.loop (.seq (sR (om 17 6<|om 18 0<|o1 19 (.lens 18)<|ob 20 .lss 17 19<|om 21 20<|gT 22 21 0<|gT 23 21 6<|oT 24 21 (.sidx 22 23)<|oT 25 21 (.bin .neq 24 (.const (.int .u8 34)))<|gP 26 21 25 .done) (.cond 26 .skip (.exit 0))) (.block 1 (sR (om 28 0<|om 29 6<|o1 30 (.sls 28 (some 29) none)<|oc 31 a0 [30]<|om 27 31<|oe 32 27 0<|oe 33 27 1<|om 7 32<|om 8 33 .done) (.seq (sR (om 34 8<|ob 35 .eql 34 z0 .done) (.cond 35 (sR (o1 2 (.mv (.const (Ag [])))<|o1 3 (.mv z0)<|o1 4 (.mv (kZ 20)) .done) .ret) .skip)) (sR (om 36 5<|om 37 7<|oc 38 a1 [37]<|ob 39 .add 36 38<|om 5 39 .done) (rG (om 40 6<|om 41 8<|ob 42 .add 40 41<|om 6 42 .done))))))))) (.seq (sR (om 43 6<|om 44 0<|o1 45 (.lens 44)<|ob 46 .geq 43 45 .done) (.cond 46 (sR (o1 2 (.mv (.const (Ag [])))<|o1 3 (.mv z0)<|o1 4 (.mv (kZ 20)) .done) .ret) .skip)) (sR (om 47 5<|om 48 6<|ob 49 .add 48 z1<|om 2 47<|om 3 49<|o1 4 (.mv z0) .done) .ret)))))))⟩
set_option maxHeartbeats 2000000 in
def XA{f2}(hd:dec P f=some (Lb f1 f2))(h1:No P f1)(h2:Lu P f2):Pa P f:=by
 intro d s hl;have bad:∀(ρ:Env) (L:List Ad),ρ 2=Ag []→ρ 3=vZ 0→ρ 4=vZ 20→Ck s=([],0,20)→Cb [.tmp 2,.tmp 3,.tmp 4] (Ret fun r _ L'=>r=.tuple #[Ag (Ck s).1,vZ (Ck s).2.1,vZ (Ck s).2.2]∧L'=[]) ρ d L:=fun ρ L e2 e3 e4 e=>by
  rw[e];exact Ba [Ag [],vZ 0,vZ 20] ⟨e2.symm,e3.symm,e4.symm,trivial⟩ (Acb _) ⟨Z,Z⟩
 refine AO.of' hd (Aca Z) ?_;show gwp P _ _ _ _ _;by_cases hs:s.length=0
 ·refine Aj<|Ak Z<|Ab Z<|A1 Z<|Ak Z<|AX Z<|Ai Z Z<|Ac Z<|AA Z<|Aq Z Z<|AF Z<|Ah Z Z<|BK Z<|Aj<|Ak Z<|Ab Z<|AM Z<|bad _ _ Z Z Z (by rw[Acm hs];rfl)
 obtain⟨c,r,hcr⟩:∃c r,s=c::r:=by cases s with|nil=>exact absurd Z hs|cons c r=>exact⟨c,r,Z⟩
 have h0:s[0]?=some c:=by rw[hcr];rfl
 by_cases hc:c=34
 ·have hcn:c.toNat=34:=by rw[hc];rfl
  have hQ:Ck s=FZ (s.drop 1) [] 1:=by rw[hcr,hc];rfl
  rw[hQ] at bad⊢;refine Aj<|Ak Z<|Ab Z<|A1 Z<|Ak Z<|AX Z<|Ai Z Z<|Ac Z<|Aw Z<|Aa Z<|Ak Z<|Aa Z<|AU 0 Z Z Z h0<|Aa Z<|AB Z Z<|Af Z Z<|AJ Z<|Aj<|Ak Z<|Br<|AL Z<|Ax<|Am<|BP (α:=Nat×List UInt8) (fun x=>[(0,Ag s),(5,Ag x.2),(6,vZ (x.1:Int))])
   (fun x d' L'=>d'=d∧1≤x.1∧x.1≤s.length∧x.2.length≤4*x.1∧FZ (s.drop x.1) x.2 x.1=FZ (s.drop 1) [] 1∧L'=[])
   (fun x=>s.length - x.1) (1,[]) ⟨Z,Z,Z,trivial⟩ ⟨Z,Ack _,by omega,Acu _,Z,Z⟩ ?_
  rintro x ρ d' L' ⟨hdd,hx1,hx2,hlen,heq,hL⟩;subst hdd;subst hL;by_cases hend:x.1=s.length
  ·refine Ap<|Ab Z<|Ak Z<|AX Z<|As Z Z<|Ac Z<|Aw Z<|Aq Z Z<|Aq Z Z<|Af Z Z<|EX Z<|A6<|Ap<|Ab Z<|Ak Z<|AX Z<|A5 Z Z<|AE Z<|Aj<|Ak Z<|Ab Z<|AM Z<|bad _ _ Z Z Z (by rw[←heq,Adb (by omega)];rfl)
  obtain⟨b,hb⟩:∃b,s[x.1]?=some b:=⟨_,Acf (by omega)⟩
  have hdr:s.drop x.1=b::s.drop (x.1+1):=by
   obtain⟨hlt,he⟩:=Acj.1 hb;rw[Acv hlt,he]
  have hbt:=UInt8.toNat_lt b;rw[hdr] at heq;by_cases c34:b=34
  ·have q:b.toNat=34:=by rw[c34];rfl
   rw[c34,PQ] at heq;rw[←heq];refine Ap<|Ab Z<|Ak Z<|AX Z<|As Z Z<|Ac Z<|AA Z<|Aa Z<|Ak Z<|Aa Z<|Ab Z<|Aa Z<|AU x.1 Z Z Z hb<|Aa Z<|AB Z Z<|Ah Z Z<|BM Z<|A6<|Ap<|Ab Z<|Ak Z<|AX Z<|A5 Z Z<|AJ Z<|Aj<|Ak Z<|Ab Z<|AY Z Z<|Ak Z<|Ab Z<|AM Z<|Ba [Ag x.2,vZ ((x.1+1:Nat):Int),vZ 0] ⟨Z,Z,Z,trivial⟩ (Acb _) ⟨Z,Z⟩
  have n34:b.toNat≠34:=fun q=>c34 (UInt8.toNat_inj.1 q);have p1:=h1 (d:=d') (s:=s.drop x.1) (by rw[hdr];simp) (by rw[Acl];omega);have hpe:=Abf (b:=b) (t:=s.drop (x.1+1)) c34;have hok:=AaW (b:=b) (t:=s.drop (x.1+1));have hle:=RW (b::s.drop (x.1+1));rw[←hdr] at hpe hok hle;rw[Acl] at hle;by_cases hz:(pcR (s.drop x.1)).2=0
  ·rw[if_pos hz] at hpe;rw[Jq c34 (by rw[←hdr,hpe])] at heq;generalize pcR (s.drop x.1)=pr at*;refine Ap<|Ab Z<|Ak Z<|AX Z<|As Z Z<|Ac Z<|AA Z<|Aa Z<|Ak Z<|Aa Z<|Ab Z<|Aa Z<|AU x.1 Z Z Z hb<|Aa Z<|AB Z Z<|Ah Z Z<|AE Z<|Ay<|Am<|Aj<|Ak Z<|Ab Z<|B6 (n:=x.1) Z Z Z (by omega)<|AG Z p1<|Bm Z<|Bx Z Z Z Z<|Ab Z<|A1 Z<|Ab Z<|Ai Z Z<|AE Z<|Aj<|Ak Z<|Ab Z<|AM Z<|bad _ _ Z Z Z heq.symm
  ·rw[if_neg hz] at hpe;rw[Kt c34 (by rw[←hdr,hpe];simp only;omega),←hdr,Aeb] at heq;rw[hpe] at heq hle;simp only at heq hle;have hsc:=hok.2 hz;have p2:=h2 (d:=d') (n:=(pcR (s.drop x.1)).1) ⟨by have:=hsc.1;omega,by have:=hsc.2;omega⟩;obtain⟨en,hen⟩:∃en:Nat,(pcR (s.drop x.1)).2=en:=⟨(pcR (s.drop x.1)).2.toNat,by omega⟩
   rw[hen] at heq hle hz p1;simp only[Adc] at heq hle;generalize Dr (pcR (s.drop x.1)).1=ch at*;generalize (pcR (s.drop x.1)).1=er at*;refine Ap<|Ab Z<|Ak Z<|AX Z<|As Z Z<|Ac Z<|AA Z<|Aa Z<|Ak Z<|Aa Z<|Ab Z<|Aa Z<|AU x.1 Z Z Z hb<|Aa Z<|AB Z Z<|Ah Z Z<|AE Z<|Ay<|Am<|Aj<|Ak Z<|Ab Z<|B6 (n:=x.1) Z Z Z (by omega)<|AG Z p1<|Bm Z<|Bx Z Z Z Z<|Ab Z<|A1 Z<|Ab Z<|Ai Z Z<|AJ Z<|Aj<|Ak Z<|Ab Z<|AG Z p2<|BI (a:=x.2) (b:=ch) Z Z (by omega)<|Ak Z<|Av<|Ar<|Ab Z<|Ab Z<|AY Z Z<|AL Z ?_;exact⟨(x.1+en,x.2++ch),by simp only;omega,⟨Z,Z,congrArg (Value.int .i64) (by omega),trivial⟩,Z,by simp only;omega,by simp only;omega,by rw[Acd];simp only;omega,heq,Z⟩
 ·have hcn:c.toNat≠34:=fun q=>hc (UInt8.toNat_inj.1 q);refine Aj<|Ak Z<|Ab Z<|A1 Z<|Ak Z<|AX Z<|Ai Z Z<|Ac Z<|Aw Z<|Aa Z<|Ak Z<|Aa Z<|AU 0 Z Z Z h0<|Aa Z<|AB Z Z<|Af Z Z<|AE Z<|Aj<|Ak Z<|Ab Z<|AM Z<|bad _ _ Z Z Z (by rw[Ck,if_neg];rw[hcr];exact fun q=>hc (Option.some.inj q))
end Go.Gk.Jsn
end
section
namespace Go.Gk.Jsn
open Go Go.Gk Go.Gk.Val
attribute [local irreducible] gwp gws
variable{f:FuncId}
def CB(t:Tk):List Value:=[.int .u8 ((if t.sign=255 then 1 else t.sign:Nat):Int),vZ t.v.kind,vZ t.v.m,vZ t.v.e,Ag t.v.text,nV,nV,vZ (t.at_:Nat),vZ t.e]
def I9(s:List UInt8)(p:Nat):Nat:=if (s[p]?).any Cc=true then p+BD Cc (s.drop p) else(EO p (C2 (s.drop p))).too
def R3{s:List UInt8}{p:Nat}{c:UInt8}(hc:s[p]?=some c)(h:Cc c=true):I9 s p=p+BD Cc (s.drop p):=by rw[I9,hc,if_pos (by simpa using h)]
def Sy{s:List UInt8}{p:Nat}{c:UInt8}(hc:s[p]?=some c)(h:¬Cc c=true):I9 s p=p+(C2 (s.drop p)).2.2.1:=by rw[I9,hc,if_neg (by simpa using h)];rfl
def W9{s}{p:Nat}(h:(EO p (C2 (s.drop p))).e=0)(hp:p<s.length):I9 s p=(EO p (C2 (s.drop p))).too:=by
 obtain⟨c,hc⟩:∃c,s[p]?=some c:=⟨_,Acf hp⟩
 have hdr:s.drop p=c::s.drop (p+1):=by
  obtain⟨hlt,he⟩:=Acj.1 hc;rw[Acv hlt,he]
 by_cases hL:Cc c=true
 ·rw[R3 hc hL];have h1:¬E9 c=true:=by
   rw[PE];have:97≤c.toNat∧c.toNat≤122:=by simpa [Cc] using hL
   simp;omega
  have h2:¬c=34:=by
   rintro rfl;exact absurd hL (by decide)
  have e:(C2 (s.drop p)).2.2.2=0:=h;show _=p+(C2 (s.drop p)).2.2.1;rw[hdr,Nd h1 h2 hL] at e⊢;simp only at e⊢;unfold E1 at e⊢;cases hw:Hh ((c::s.drop (p+1)).take (BD Cc (c::s.drop (p+1)))) with
  |none=>rw[hw] at e;simp at e
  |some k=>rfl
 ·rw[Sy hc hL];rfl
def OP(T:Ad→Prop)(P:Program)(f:FuncId):Prop:=∀{d s}{p:Nat},T d→s.length≤900000→p<s.length→AO P f [Ag s,vZ (p:Int)] d (.tuple #[.agg (CB (EO p (C2 (s.drop p)))).toArray,vZ ((I9 s p:Nat):Int)])
def Fg(g:List UInt8):Nat→Int×Int
 |0=>(0,60)
 |k+1=>if g=([[110,117,108,108],[102,97,108,115,101],[116,114,117,101]]:List (List UInt8)).getD k [] then((k:Int),0) else Fg g k
def Ww(g:List UInt8):Fg g 3=match Hh g with|some k=>(k,0)|none=>(0,60):=by
 simp only[Fg,Hh,List.getD_cons_zero,List.getD_cons_succ];by_cases h1:g=[110,117,108,108]
 ·subst h1;decide
 by_cases h2:g=[102,97,108,115,101]
 ·subst h2;decide
 by_cases h3:g=[116,114,117,101]
 ·subst h3;decide
 ·simp[h1,h2,h3]
def LC(a0 a1 a2 a3:Nat):Bo:=⟨108,[(.cell 4 (some 9)),(.tmp 5)],(sR (o1 4 (.alo (.agg #[(.int .u8 0),(vZ 0),(vZ 0),(vZ 0),(Ag []),nV,nV,(vZ 0),(vZ 0)]))<|o1 5 (.mv z0) .done) (sR (om 17 1<|o1 18 (.bld [(0,1),(1,6),(7,1),(8,1)] [(.int .u8 0),(vZ 0),(vZ 0),(vZ 0),(Ag []),nV,nV,(vZ 0),(vZ 0)] [(2,17)])<|o1 6 (.alo (.agg #[(.int .u8 0),(vZ 0),(vZ 0),(vZ 0),(Ag []),nV,nV,(vZ 0),(vZ 0)]))<|o0 (.st 9 6 18) .done) (sR (om 19 0<|om 20 1<|o1 21 (.sidx 19 20)<|om 7 21 .done) (.seq (sR (om 22 7<|oc 23 a0 [22] .done) (.cond 23 (sR (om 24 7<|oj 25 0 6<|o0 (.st 1 25 24) .done) (sR (o1 26 (.ld (some 9) 6)<|om 27 1<|ob 28 .add 27 z1<|o0 (.st 9 4 26)<|om 5 28 .done) .ret)) .skip)) (.seq (sR (om 29 7<|ob 30 .eql 29 (.const (.int .u8 34)) .done) (.cond 30 (sR (om 32 0<|om 33 1<|o1 34 (.sls 32 (some 33) none)<|oc 35 a1 [34]<|om 31 35<|oe 36 31 0<|oe 37 31 1<|oe 38 31 2<|om 8 36<|om 9 37<|om 10 38 .done) (sR (om 39 8<|o1 40 (.bld [(0,1),(1,2),(3,1),(4,1),(5,1)] [(vZ 0),(vZ 0),(vZ 0),(Ag []),nV,nV] [(0,(kZ 4)),(2,39)])<|oj 41 1 6<|o0 (.st 6 41 40) .done) (sR (om 42 10<|oj 43 8 6<|o0 (.st 1 43 42) .done) (sR (o1 44 (.ld (some 9) 6)<|om 45 1<|om 46 9<|ob 47 .add 45 46<|o0 (.st 9 4 44)<|om 5 47 .done) .ret)))) .skip)) (.seq (sR (om 48 7<|ob 49 .geq 48 (.const (.int .u8 97))<|om 50 49<|gT 51 50 7<|oT 52 50 (.bin .leq 51 (.const (.int .u8 122)))<|gP 53 50 52 .done) (.cond 53 (sR (om 54 0<|om 55 1<|oc 56 a2 [54,55,(.const (.bool true))]<|om 11 56 .done) (sR (o1 57 (.bld [(0,1),(1,1),(2,1)] [(Ag []),(Ag []),(Ag [])] [(0,(.const (Ag [110,117,108,108]))),(1,(.const (Ag [102,97,108,115,101]))),(2,(.const (Ag [116,114,117,101])))])<|o1 12 (.alo (.agg #[(Ag []),(Ag []),(Ag [])]))<|o0 (.st 3 12 57) .done) (sR (oj 58 8 6<|o0 (.st 1 58 (kZ 60)) .done) (.seq (sR (o1 13 (.mv z0) .done) (.block 0 (.loop (.seq (sR (om 59 13<|ob 60 .lss 59 (kZ 3) .done) (.cond 60 .skip (.exit 0))) (.seq (.block 1 (.seq (.reg true (pm 63 0<|pm 64 1<|pm 65 11<|p1 66 (.sls 63 (some 64) (some 65))<|pm 67 13<|p1 68 (.idxa 3 1 12 67)<|pl 69 68<|p1 70 (.bin .eql 66 69) .done)) (.cond 70 (sR (om 71 13<|oj 72 1 6<|oj 73 0 72<|o0 (.st 1 73 71) .done) (rG (oj 74 8 6<|o0 (.st 1 74 z0) .done))) .skip))) (rG (om 61 13<|ob 62 .add 61 z1<|om 13 62 .done))))))) (sR (o1 75 (.ld (some 9) 6)<|om 76 11<|o0 (.st 9 4 75)<|om 5 76 .done) .ret))))) .skip)) (.seq (sR (om 77 7<|ob 78 .eql 77 (.const (.int .u8 45))<|om 79 78<|gF 80 79 7<|oF 81 79 (.bin .geq 80 (.const (.int .u8 48)))<|gF 82 79 81<|gT 83 82 7<|oT 84 82 (.bin .leq 83 (.const (.int .u8 57)))<|oF 85 79 (.pick 82 84 (.const (.bool false)))<|o1 86 (.pick 79 (.const (.bool true)) 85) .done) (.cond 86 (sR (om 87 0<|om 88 1<|oc 89 a2 [87,88,(.const (.bool false))]<|om 14 89 .done) (sR (om 91 0<|om 92 1<|om 93 14<|o1 94 (.sls 91 (some 92) (some 93))<|oc 95 a3 [94]<|om 90 95<|oe 96 90 0<|oe 97 90 1<|o1 15 (.alo (.agg #[(vZ 0),(vZ 0)]))<|o0 (.st 2 15 96)<|om 16 97 .done) (sR (o1 98 (.ld (some 2) 15)<|o1 99 (.bld [(0,1),(1,2),(3,1),(4,1),(5,1)] [(vZ 0),(vZ 0),(vZ 0),(Ag []),nV,nV] [(0,(kZ 3)),(1,98)])<|oj 100 1 6<|o0 (.st 6 100 99) .done) (sR (om 101 16<|oj 102 8 6<|o0 (.st 1 102 101) .done) (sR (o1 103 (.ld (some 9) 6)<|om 104 14<|o0 (.st 9 4 103)<|om 5 104 .done) .ret))))) .skip)) (sR (oj 105 8 6<|o0 (.st 1 105 (kZ 60)) .done) (sR (o1 106 (.ld (some 9) 6)<|om 107 1<|o0 (.st 9 4 106)<|om 5 107 .done) .ret)))))))))⟩
set_option maxHeartbeats 2000000 in
def Xc{T:Ad→Prop}{P f1 f2 f3 f4}(hd:dec P f=some (LC f1 f2 f3 f4))(h1:Sx P f1)(h2:Pa P f2)(h3:QV P f3)(h4:Hr T P f4):OP T P f:=by
 intro d s q ht hl hq;refine AO.of' hd (Aca Z) ?_;show gwp P _ _ _ _ _;obtain⟨c,hc⟩:∃c,s[q]?=some c:=⟨_,Acf (by omega)⟩
 have hdr:s.drop q=c::s.drop (q+1):=by
  obtain⟨hlt,hx⟩:=Acj.1 hc;rw[Acv hlt,hx]
 have hcb:=UInt8.toNat_lt c;have hlq2:(s.drop q).length=s.length - q:=Acl;have p1:=h1 (d:=d) (c:=c);(refine Aj<|BR (fun _ _=>Bt Z<|Ab Z<|B2 Z<|BR (fun _ _=>?_)));rename_i b4 T4 b6 T6;refine Au 0 [.int .u8 0,vZ 0,vZ 0,vZ 0,Ag [],nV,nV,vZ (q:Int),vZ 0] Z Z Z Z (Aca Z) Z Z<|Br<|Ak Z<|Ab Z<|AU q Z Z Z hc<|A1 Z<|Ab Z<|AG Z p1 ?_;have he1:= @R3 s q c hc
 have he2:= @Sy s q c hc
 have hsg:= @PE c
 by_cases g1:E9 c=true
 ·have k1:¬Cc c=true:=by
   rw[hsg,decide_eq_true_eq] at g1;simp[Cc];omega
  have k2:=(TQ g1).1;rw[he2 k1,hdr,TD g1,g1];clear g1 hsg he1 he2 k1;refine BK Z<|AD Z<|Ae Z<|Au 0 _ Z Z Z Z (Aca Z) Z Z<|Br<|AP 0 Z Z Z<|Ab Z<|AY Z Z<|Au 1 _ Z Z Z Z (Aca Z) Z Z<|AM Z ?_;have hrt:CB (EO q (c.toNat,V.zero,1,0))=[.int .u8 (c.toNat:Int),vZ 0,vZ 0,vZ 0,Ag [],nV,nV,vZ (q:Int),vZ 0]:=by
   have e:(EO q (c.toNat,V.zero,1,0)).sign=c.toNat:=Z;rw[CB,e,if_neg k2];rfl
  rw[hrt];exact Ba [.agg [.int .u8 (c.toNat:Int),vZ 0,vZ 0,vZ 0,Ag [],nV,nV,vZ (q:Int),vZ 0].toArray,vZ ((q+1:Nat):Int)] ⟨Bc 1 Z Z Z,Z,trivial⟩ (Acb _) ⟨Z,Z⟩
 have hsf:E9 c=false:=by simpa using g1
 rw[hsf];by_cases k1:c=34
 ·have kL:¬Cc c=true:=by rw[k1];decide
  rw[he2 kL,hdr,Tx g1 k1,←hdr];have hcn:c.toNat=34:=by rw[k1];rfl
  have p2:=h2 (d:=d) (s:=s.drop q) (by omega);have hrl:=Jo (s.drop q);obtain⟨n,hn⟩:∃n:Nat,(Ck (s.drop q)).2.1=n:=⟨(Ck (s.drop q)).2.1.toNat,by omega⟩
  rw[hn] at hrl p2⊢;rw[Adc];generalize (Ck (s.drop q)).1=rt at*;generalize (Ck (s.drop q)).2.2=rw' at*;clear hsf g1 hsg he1 he2 kL;refine Bh Z<|Ap<|Ab Z<|Ai Z Z<|AE Z<|Aj<|Ak Z<|Ab Z<|B6 (n:=q) Z Z Z (by omega)<|AG Z p2<|Bm Z<|Bx Z Z Z Z<|CH Z Z<|Ak Z<|Ab Z<|Bt Z<|Ak Z<|Vz Z Z<|Ae Z<|Au 0 [.int .u8 0,vZ 4,vZ 0,vZ 0,Ag rt,nV,nV,vZ (q:Int),vZ 0] Z Z Z Z (Aca Z) Z Z<|Br<|Ab Z<|Ae Z<|Au 0 _ Z Z Z Z (Aca Z) Z Z<|Br<|AP 0 Z Z Z<|Ab Z<|Ab Z<|AY Z Z<|Au 1 _ Z Z Z Z (Aca Z) Z Z<|AM Z<|Ba [.agg (CB (EO q (0,MF rt,n,rw'))).toArray,vZ ((q+n:Nat):Int)] ⟨Bc 1 Z Z Z,Z,trivial⟩ (Acb _) ⟨Z,Z⟩
 have hcn:c.toNat≠34:=fun h=>k1 (UInt8.toNat_inj.1 h);by_cases k2:Cc c=true
 ·have k3:97≤c.toNat∧c.toNat≤122:=by simpa [Cc] using k2
  rw[he1 k2,hdr,Nd g1 k1 k2,←hdr];have p3:AO P f3 [Ag s,vZ (q:Int),.bool true] d (vZ ((q+BD Cc (s.drop q):Nat):Int)):=h3 (b:=true) (by omega) (by omega);have hrb:=D5 Cc (s.drop q);have htake:((s.drop q).take (q+BD Cc (s.drop q) - q))=(s.drop q).take (BD Cc (s.drop q)):=by rw[Afd]
  have hwr:∀nn:Nat,CB (EO q (0,(E1 (s.drop q)).1,nn,(E1 (s.drop q)).2.2))=[.int .u8 0,vZ (Fg ((s.drop q).take (BD Cc (s.drop q))) 3).1,vZ 0,vZ 0,Ag [],nV,nV,vZ (q:Int),vZ (Fg ((s.drop q).take (BD Cc (s.drop q))) 3).2]:=fun nn=>by
   rw[Ww,E1];cases Hh ((s.drop q).take (BD Cc (s.drop q)))<;>rfl
  rw[hwr];clear hwr;generalize (s.drop q).take (BD Cc (s.drop q))=g at*;generalize BD Cc (s.drop q)=n at*;clear hsf g1 hsg he1 he2 k2;refine Bh Z<|Ap<|Ab Z<|Ai Z Z<|AJ Z<|Ap<|Ab Z<|A5 Z Z<|Ac Z<|AA Z<|Aa Z<|Ab Z<|Aa Z<|BN Z Z<|Ah Z Z<|AE Z<|Aj<|Ak Z<|Ab Z<|AG Z p3<|AL Z ?_;apply Ax;apply Ar;refine B2 (cs:=[Ag [110,117,108,108],Ag [102,97,108,115,101],Ag [116,114,117,101]]) Z ?_;(apply BR;intro _ _);rename_i b12 T12;refine Au 0 [Ag [110,117,108,108],Ag [102,97,108,115,101],Ag [116,114,117,101]] Z Z Z Z (Aca Z) Z Z<|Br<|Ae Z<|Au 1 [.int .u8 0,vZ 0,vZ 0,vZ 0,Ag [],nV,nV,vZ (q:Int),vZ 60] Z Z Z Z (Aca Z) Z Z<|Bw<|AL Z<|Am<|FJ 0 (fun ρ d2 L'=>AZ ρ [(4,pZ b4),(6,pZ b6),(11,vZ ((q+n:Nat):Int))]∧d2=d∧L'=[bx b12 T12 [Ag [110,117,108,108],Ag [102,97,108,115,101],Ag [116,114,117,101]],bx b6 T6 [.int .u8 0,vZ (Fg g 3).1,vZ 0,vZ 0,Ag [],nV,nV,vZ (q:Int),vZ (Fg g 3).2],bx b4 T4 [.int .u8 0,vZ 0,vZ 0,vZ 0,Ag [],nV,nV,vZ 0,vZ 0]]) ?_ ?_
  ·refine BP (α:=Nat) (fun k=>[(0,Ag s),(1,vZ (q:Int)),(4,pZ b4),(6,pZ b6),(11,vZ ((q+n:Nat):Int)),(12,pZ b12),(13,vZ (k:Int))])
    (fun k d2 L'=>d2=d∧k≤3∧L'=[bx b12 T12 [Ag [110,117,108,108],Ag [102,97,108,115,101],Ag [116,114,117,101]],bx b6 T6 [.int .u8 0,vZ (Fg g k).1,vZ 0,vZ 0,Ag [],nV,nV,vZ (q:Int),vZ (Fg g k).2],bx b4 T4 [.int .u8 0,vZ 0,vZ 0,vZ 0,Ag [],nV,nV,vZ 0,vZ 0]]) (fun k=>3 - k) 0 ⟨Z,Z,Z,Z,Z,Z,Z,trivial⟩ ⟨Z,by omega,Z⟩ ?_
   rintro k ρ d2 L' ⟨hdd,hk,hL⟩;subst hdd;subst hL;by_cases hk3:k<3
   ·have hsc:∀w,([[110,117,108,108],[102,97,108,115,101],[116,114,117,101]]:List (List UInt8)).getD k []=w→Fg g (k+1)=if g=w then((k:Int),0) else Fg g k:=fun w hw=>by rw[Fg,hw]
    obtain rfl|rfl|rfl:k=0∨k=1∨k=2:=by omega
    ·have hsc:=hsc [110,117,108,108] Z;refine Ap<|Ab Z<|As Z Z<|AE Z<|Ay<|Ax<|Am<|Ax<|Bd<|Ak Z<|Ab Z<|Ab Z<|DG (n:=q) (m:=q+n) Z Z Z Z Z (by omega) (by omega) ?_;rw[htake];(apply Ab;rfl);refine Dd 0 Z Z Z (by omega) ?_;by_cases kg:g=[110,117,108,108]
     ·rw[if_pos kg] at hsc;refine c_l Z Z Z<|CS Z Z<|AV<|Bn Z<|AD Z<|Ae Z<|Ae Z<|Au 1 [.int .u8 0,vZ 0,vZ 0,vZ 0,Ag [],nV,nV,vZ (q:Int),vZ (Fg g 0).2] Z Z Z Z (Aca Z) Z Z<|Av<|Ar<|Ae Z<|Au 1 [.int .u8 0,vZ 0,vZ 0,vZ 0,Ag [],nV,nV,vZ (q:Int),vZ 0] Z Z Z Z (Aca Z) Z Z<|Av<|Ar<|Ab Z<|AY Z Z<|AL Z ?_;exact⟨0+1,by omega,⟨Z,Z,Z,Z,Z,Z,Z,trivial⟩,Z,by omega,by rw[hsc];rfl⟩
     ·rw[if_neg kg] at hsc;(refine c_l Z Z Z<|CS Z Z<|AV<|AH Z<|Ay<|Ar<|Ab Z<|AY Z Z<|AL Z ?_);exact⟨0+1,by omega,⟨Z,Z,Z,Z,Z,Z,Z,trivial⟩,Z,by omega,by rw[hsc];rfl⟩
    ·have hsc:=hsc [102,97,108,115,101] Z;refine Ap<|Ab Z<|As Z Z<|AE Z<|Ay<|Ax<|Am<|Ax<|Bd<|Ak Z<|Ab Z<|Ab Z<|DG (n:=q) (m:=q+n) Z Z Z Z Z (by omega) (by omega) ?_;rw[htake];(apply Ab;rfl);refine Dd 1 Z Z Z (by omega) ?_;by_cases kg:g=[102,97,108,115,101]
     ·rw[if_pos kg] at hsc;refine c_l Z Z Z<|CS Z Z<|AV<|Bn Z<|AD Z<|Ae Z<|Ae Z<|Au 1 [.int .u8 0,vZ 1,vZ 0,vZ 0,Ag [],nV,nV,vZ (q:Int),vZ (Fg g 1).2] Z Z Z Z (Aca Z) Z Z<|Av<|Ar<|Ae Z<|Au 1 [.int .u8 0,vZ 1,vZ 0,vZ 0,Ag [],nV,nV,vZ (q:Int),vZ 0] Z Z Z Z (Aca Z) Z Z<|Av<|Ar<|Ab Z<|AY Z Z<|AL Z ?_;exact⟨1+1,by omega,⟨Z,Z,Z,Z,Z,Z,Z,trivial⟩,Z,by omega,by rw[hsc];rfl⟩
     ·rw[if_neg kg] at hsc;(refine c_l Z Z Z<|CS Z Z<|AV<|AH Z<|Ay<|Ar<|Ab Z<|AY Z Z<|AL Z ?_);exact⟨1+1,by omega,⟨Z,Z,Z,Z,Z,Z,Z,trivial⟩,Z,by omega,by rw[hsc];rfl⟩
    ·have hsc:=hsc [116,114,117,101] Z;refine Ap<|Ab Z<|As Z Z<|AE Z<|Ay<|Ax<|Am<|Ax<|Bd<|Ak Z<|Ab Z<|Ab Z<|DG (n:=q) (m:=q+n) Z Z Z Z Z (by omega) (by omega) ?_;rw[htake];(apply Ab;rfl);refine Dd 2 Z Z Z (by omega) ?_;by_cases kg:g=[116,114,117,101]
     ·rw[if_pos kg] at hsc;refine c_l Z Z Z<|CS Z Z<|AV<|Bn Z<|AD Z<|Ae Z<|Ae Z<|Au 1 [.int .u8 0,vZ 2,vZ 0,vZ 0,Ag [],nV,nV,vZ (q:Int),vZ (Fg g 2).2] Z Z Z Z (Aca Z) Z Z<|Av<|Ar<|Ae Z<|Au 1 [.int .u8 0,vZ 2,vZ 0,vZ 0,Ag [],nV,nV,vZ (q:Int),vZ 0] Z Z Z Z (Aca Z) Z Z<|Av<|Ar<|Ab Z<|AY Z Z<|AL Z ?_;exact⟨2+1,by omega,⟨Z,Z,Z,Z,Z,Z,Z,trivial⟩,Z,by omega,by rw[hsc];rfl⟩
     ·rw[if_neg kg] at hsc;(refine c_l Z Z Z<|CS Z Z<|AV<|AH Z<|Ay<|Ar<|Ab Z<|AY Z Z<|AL Z ?_);exact⟨2+1,by omega,⟨Z,Z,Z,Z,Z,Z,Z,trivial⟩,Z,by omega,by rw[hsc];rfl⟩
   ·obtain rfl:k=3:=by omega
    refine Ap<|Ab Z<|As Z Z<|BM Z<|A6<|Er 0 ⟨⟨Z,Z,Z,trivial⟩,Z,Z⟩
  rintro ρ d2 L' ⟨hs,hdd,hL⟩;subst hdd;subst hL;show gwp P _ _ _ _ _;refine A4 _ hs ?_;clear hs;generalize Fg g 3=sc at*;refine Aj<|AP 1 Z Z Z<|Ab Z<|Au 2 [.int .u8 0,vZ sc.1,vZ 0,vZ 0,Ag [],nV,nV,vZ (q:Int),vZ sc.2] Z Z Z Z (Aca Z) Z Z<|AM Z<|Ba [.agg [.int .u8 0,vZ sc.1,vZ 0,vZ 0,Ag [],nV,nV,vZ (q:Int),vZ sc.2].toArray,vZ ((q+n:Nat):Int)] ⟨Bc 2 Z Z Z,Z,trivial⟩ (Acb _) ⟨Z,Z⟩
 have k3:¬(97≤c.toNat∧c.toNat≤122):=by simpa [Cc] using k2
 by_cases k4:c=45
 ·have hc45:c.toNat=45:=by rw[k4];rfl
  rw[he2 k2,hdr,one_num g1 k1 k2 (.inl k4),←hdr];have p3:AO P f3 [Ag s,vZ (q:Int),.bool false] d (vZ ((q+BD CY (s.drop q):Nat):Int)):=h3 (b:=false) (by omega) (by omega);have hrb:=D5 CY (s.drop q);have p4:=h4 (d:=d) (s:=(s.drop q).take (BD CY (s.drop q))) ht (by rw[Aco];omega);unfold FV;simp only;have htake:((s.drop q).take (q+BD CY (s.drop q) - q))=(s.drop q).take (BD CY (s.drop q)):=by rw[Afd]
  generalize DX ((s.drop q).take (BD CY (s.drop q)))=x at*;obtain⟨x1,x2,x3⟩:=x;generalize BD CY (s.drop q)=n at*;clear hsf g1 hsg he1 he2 k2;refine Bh Z<|Ap<|Ab Z<|Ai Z Z<|AJ Z<|Ap<|Ab Z<|A5 Z Z<|Ac Z<|Aw Z<|Aq Z Z<|Af Z Z<|Bh Z<|Ap<|Ab Z<|Ai Z Z<|Ac Z<|AA Z<|Aq Z Z<|AF Z<|AN Z<|AN Z<|AF Z<|Ah Z Z<|BK Z<|Aj<|Ak Z<|Ab Z<|AG Z p3<|Bt Z<|Ak Z<|Ab Z<|Ab Z<|DG (n:=q) (m:=q+n) Z Z Z Z Z (by omega) (by omega) ?_;rw[htake];refine AG Z p4<|Bm Z<|Bx Z Z Z Z<|BR (fun _ _=>?_);rename_i b15 T15;refine Au 0 [vZ x1,vZ x2] Z Z Z Z (Aca Z) Z Z<|Bt Z<|AP 0 Z Z Z<|B2 Z<|Ae Z<|Au 1 [.int .u8 0,vZ 3,vZ x1,vZ x2,Ag [],nV,nV,vZ (q:Int),vZ 0] Z Z Z Z (Aca Z) Z Z<|Br<|Ab Z<|Ae Z<|Au 1 _ Z Z Z Z (Aca Z) Z Z<|Br<|AP 1 Z Z Z<|Ab Z<|Au 2 _ Z Z Z Z (Aca Z) Z Z<|AM Z<|Ba [.agg (CB (EO q (0,MC x1 x2,n,x3))).toArray,vZ ((q+n:Nat):Int)] ⟨Bc 2 Z Z Z,Z,trivial⟩ (Acb _) ⟨Z,Z⟩
 by_cases k5:isD c=true
 ·rw[he2 k2,hdr,one_num g1 k1 k2 (.inr k5),←hdr];have k6:48≤c.toNat∧c.toNat≤57:=by simpa [isD] using k5
  have k7:c.toNat≠45:=by omega
  clear k5;have p3:AO P f3 [Ag s,vZ (q:Int),.bool false] d (vZ ((q+BD CY (s.drop q):Nat):Int)):=h3 (b:=false) (by omega) (by omega);have hrb:=D5 CY (s.drop q);have p4:=h4 (d:=d) (s:=(s.drop q).take (BD CY (s.drop q))) ht (by rw[Aco];omega);unfold FV;simp only;have htake:((s.drop q).take (q+BD CY (s.drop q) - q))=(s.drop q).take (BD CY (s.drop q)):=by rw[Afd]
  generalize DX ((s.drop q).take (BD CY (s.drop q)))=x at*;obtain⟨x1,x2,x3⟩:=x;generalize BD CY (s.drop q)=n at*;clear hsf g1 hsg he1 he2 k2;refine Bh Z<|Ap<|Ab Z<|Ai Z Z<|AJ Z<|Ap<|Ab Z<|A5 Z Z<|Ac Z<|Aw Z<|Aq Z Z<|Af Z Z<|Bh Z<|Ap<|Ab Z<|Ai Z Z<|Ac Z<|Aw Z<|Aa Z<|Ab Z<|Aa Z<|A5 Z Z<|Aa Z<|Ac Z<|AA Z<|Aa Z<|Ab Z<|Aa Z<|BN Z Z<|Aa Z<|Ah Z Z<|Af Z Z<|AE Z<|Aj<|Ak Z<|Ab Z<|AG Z p3<|Bt Z<|Ak Z<|Ab Z<|Ab Z<|DG (n:=q) (m:=q+n) Z Z Z Z Z (by omega) (by omega) ?_;rw[htake];refine AG Z p4<|Bm Z<|Bx Z Z Z Z<|BR (fun _ _=>?_);rename_i b15 T15;refine Au 0 [vZ x1,vZ x2] Z Z Z Z (Aca Z) Z Z<|Bt Z<|AP 0 Z Z Z<|B2 Z<|Ae Z<|Au 1 [.int .u8 0,vZ 3,vZ x1,vZ x2,Ag [],nV,nV,vZ (q:Int),vZ 0] Z Z Z Z (Aca Z) Z Z<|Br<|Ab Z<|Ae Z<|Au 1 _ Z Z Z Z (Aca Z) Z Z<|Br<|AP 1 Z Z Z<|Ab Z<|Au 2 _ Z Z Z Z (Aca Z) Z Z<|AM Z<|Ba [.agg (CB (EO q (0,MC x1 x2,n,x3))).toArray,vZ ((q+n:Nat):Int)] ⟨Bc 2 Z Z Z,Z,trivial⟩ (Acb _) ⟨Z,Z⟩
 rw[he2 k2,hdr,Tf g1 k1 k2 (fun h=>h.elim k4 k5)];have k7:c.toNat≠45:=fun h=>k4 (UInt8.toNat_inj.1 h);have k6:¬(48≤c.toNat∧c.toNat≤57):=by simpa [isD] using k5
 clear k5 hsf g1 hsg he1 he2 k2;by_cases k8:97≤c.toNat
 ·have k9:¬c.toNat≤122:=by omega
  have ka:¬c.toNat≤57:=by omega
  have kb:48≤c.toNat:=by omega
  refine Bh Z<|Ap<|Ab Z<|Ai Z Z<|AJ Z<|Ap<|Ab Z<|A5 Z Z<|Ac Z<|AA Z<|Aa Z<|Ab Z<|Aa Z<|BN Z Z<|Ah Z Z<|AJ Z<|Ap<|Ab Z<|Ai Z Z<|Ac Z<|Aw Z<|Aa Z<|Ab Z<|Aa Z<|A5 Z Z<|Aa Z<|Ac Z<|AA Z<|Aa Z<|Ab Z<|Aa Z<|BN Z Z<|Aa Z<|Ah Z Z<|Af Z Z<|AJ Z<|Aj<|Ae Z<|Au 0 _ Z Z Z Z (Aca Z) Z Z<|Br<|AP 0 Z Z Z<|Ab Z<|Au 1 _ Z Z Z Z (Aca Z) Z Z<|AM Z<|Ba [.agg (CB (EO q (0,V.zero,0,60))).toArray,vZ ((q+0:Nat):Int)] ⟨Bc 1 Z Z Z,Z,trivial⟩ (Acb _) ⟨Z,Z⟩
 by_cases k9:48≤c.toNat
 ·have ka:¬c.toNat≤57:=by omega
  refine Bh Z<|Ap<|Ab Z<|Ai Z Z<|AJ Z<|Ap<|Ab Z<|A5 Z Z<|Ac Z<|Aw Z<|Aq Z Z<|Af Z Z<|Bh Z<|Ap<|Ab Z<|Ai Z Z<|Ac Z<|Aw Z<|Aa Z<|Ab Z<|Aa Z<|A5 Z Z<|Aa Z<|Ac Z<|AA Z<|Aa Z<|Ab Z<|Aa Z<|BN Z Z<|Aa Z<|Ah Z Z<|Af Z Z<|AJ Z<|Aj<|Ae Z<|Au 0 _ Z Z Z Z (Aca Z) Z Z<|Br<|AP 0 Z Z Z<|Ab Z<|Au 1 _ Z Z Z Z (Aca Z) Z Z<|AM Z<|Ba [.agg (CB (EO q (0,V.zero,0,60))).toArray,vZ ((q+0:Nat):Int)] ⟨Bc 1 Z Z Z,Z,trivial⟩ (Acb _) ⟨Z,Z⟩
 ·skip;refine Bh Z<|Ap<|Ab Z<|Ai Z Z<|AJ Z<|Ap<|Ab Z<|A5 Z Z<|Ac Z<|Aw Z<|Aq Z Z<|Af Z Z<|Bh Z<|Ap<|Ab Z<|Ai Z Z<|Ac Z<|Aw Z<|Aa Z<|Ab Z<|Aa Z<|A5 Z Z<|Aa Z<|Ac Z<|Aw Z<|Aq Z Z<|Aa Z<|Af Z Z<|Af Z Z<|Bh Z<|Aj<|Ae Z<|Au 0 _ Z Z Z Z (Aca Z) Z Z<|Br<|AP 0 Z Z Z<|Ab Z<|Au 1 _ Z Z Z Z (Aca Z) Z Z<|AM Z<|Ba [.agg (CB (EO q (0,V.zero,0,60))).toArray,vZ ((q+0:Nat):Int)] ⟨Bc 1 Z Z Z,Z,trivial⟩ (Acb _) ⟨Z,Z⟩
def Df(_:Ad)(cs:List Value)(t:Tk):Prop:=cs=CB t
def QY:Kl Df:=fun _ h=>h
def NO(T:Ad→Prop)(P:Program)(f:FuncId):Prop:=∀{d s},T d→s.length≤1000→Be P f [Ag s] d [] (Ret fun r d' L'=>L'=[]∧RSl 9 Df d' r (Dh s 0))
def NH(n:Nat):Tk:=⟨255,V.zero,n,n,0⟩
def ZS{s}{p:Nat}(h:p+BD Cu (s.drop p)=s.length):Ce s p=(NH s.length):=by
 rw[Pk,h,Adb (Ack _),Ti];rfl
def JS(a0 a1:Nat):Bo:=⟨43,[(.tmp 2)],(sR (o1 2 (.mv nS) .done) (sR (o1 3 (.mv nS) .done) (sR (o1 4 (.mv z0) .done) (.block 0 (.loop (.block 1 (.seq (.block 2 (.loop (.seq (sR (om 7 4<|om 8 0<|o1 9 (.lens 8)<|ob 10 .lss 7 9<|om 11 10<|gT 12 11 0<|gT 13 11 4<|oT 14 11 (.sidx 12 13)<|oT 15 11 (.call a0 [14])<|gP 16 11 15 .done) (.cond 16 .skip (.exit 2))) (.block 3 (rG (om 17 4<|ob 18 .add 17 z1<|om 4 18 .done)))))) (.seq (sR (om 19 4<|om 20 0<|o1 21 (.lens 20)<|ob 22 .eql 19 21 .done) (.cond 22 (sR (om 23 3<|om 24 4<|o1 25 (.bld [(0,1),(1,6),(7,1),(8,1)] [(.int .u8 0),(vZ 0),(vZ 0),(vZ 0),(Ag []),nV,nV,(vZ 0),(vZ 0)] [(0,(.const (.int .u8 1))),(2,24)])<|o1 26 (.bsl 1 9 [(.int .u8 0),(vZ 0),(vZ 0),(vZ 0),(Ag []),nV,nV,(vZ 0),(vZ 0)] [(0,25)])<|o1 27 (.app 9 112 [(.int .u8 0),(vZ 0),(vZ 0),(vZ 0),(Ag []),nV,nV,(vZ 0),(vZ 0)] 23 26)<|om 2 27 .done) .ret) .skip)) (sR (om 29 0<|om 30 4<|oc 31 a1 [29,30]<|om 28 31<|oe 32 28 0<|oe 33 28 1<|o1 5 (.alo (.agg #[(.int .u8 0),(vZ 0),(vZ 0),(vZ 0),(Ag []),nV,nV,(vZ 0),(vZ 0)]))<|o0 (.st 9 5 32)<|om 6 33 .done) (sR (om 34 3<|o1 35 (.ld (some 9) 5)<|o1 36 (.bsl 1 9 [(.int .u8 0),(vZ 0),(vZ 0),(vZ 0),(Ag []),nV,nV,(vZ 0),(vZ 0)] [(0,35)])<|o1 37 (.app 9 112 [(.int .u8 0),(vZ 0),(vZ 0),(vZ 0),(Ag []),nV,nV,(vZ 0),(vZ 0)] 34 36)<|om 3 37 .done) (.seq (sR (oj 38 8 5<|ol 39 38<|ob 40 .neq 39 z0 .done) (.cond 40 (sR (om 41 3<|om 2 41 .done) .ret) .skip)) (rG (om 42 6<|om 4 42 .done)))))))))))))⟩
set_option maxHeartbeats 2000000 in
def Wz{T:Ad→Prop}{P f1 f2}(hd:dec P f=some (JS f1 f2))(h1:Py P f1)(h2:OP T P f2):NO T P f:=by
 intro d s ht hl;have hwt:=JK s;have hwl:=PB (Dh s 0);refine EK hd ?_;apply Ax;apply Ar;refine DT d [emp] Vs.emp<|AR Z<|Br<|AR Z<|Br<|AL Z<|Am<|BP (α:=Value×Nat×List Tk×Ad) (fun x=>[(0,Ag s),(3,x.1),(4,vZ (x.2.1:Int))])
  (fun x d' L'=>d'=d∧x.2.1≤s.length∧Dh s 0=x.2.2.1++Dh s x.2.1∧AQ 9 Df d x.1 x.2.2.1 x.2.2.2∧∃J,L'=x.2.2.2::J) (fun x=>s.length+1 - x.2.1) (nV,0,[],emp) ⟨Z,Z,Z,trivial⟩ ⟨Z,Acu _,Z,AQ.nil,[],Z⟩ ?_
 rintro⟨ov,p,acc,hh⟩ ρ d' L' ⟨hdd,hp,hacc,hg,J,hL⟩;simp only at hp hacc hg hL⊢;subst hdd;subst hL;have hal:acc.length≤5001:=by
  have:=congrArg Afp hacc;rw[Acd] at this;omega
 have hrl:=D5 Cu (s.drop p);rw[Acl] at hrl;have hcons:=G2 hp;have hnt:=Hy hp;apply Am;refine CJ (fun ρ d2 L'=>AZ ρ [(0,Ag s),(3,ov),(4,vZ ((p+BD Cu (s.drop p):Nat):Int))]∧d2=d'∧L'=hh::J) ?_ ?_
 ·apply Am;refine BP (α:=Nat) (fun k=>[(0,Ag s),(3,ov),(4,vZ ((p+k:Nat):Int))]) (fun k d2 L'=>d2=d'∧p+k≤s.length∧k≤BD Cu (s.drop p)∧L'=hh::J) (fun k=>s.length - k) 0 ⟨Z,Z,Z,trivial⟩ ⟨Z,hp,Acu _,Z⟩ ?_;rintro k ρ d2 L' ⟨hdd,hk,hr,hL⟩;subst hdd;subst hL;have hat:=Iy Cu (s.drop p) k hr;rw[Aeb] at hat;clear hcons hnt hacc;by_cases hk2:p+k<s.length
  ·obtain⟨c,hc⟩:∃c,s[p+k]?=some c:=⟨_,Acf hk2⟩
   have hdr:s.drop (p+k)=c::s.drop (p+k+1):=by
    obtain⟨hlt,he⟩:=Acj.1 hc;rw[Acv hlt,he]
   rw[hdr,BD] at hat;have p1:=h1 (d:=d2) (c:=c);by_cases g:Cu c=true
   ·rw[if_pos g] at hat;rw[g] at p1;clear g;refine Ap<|Ab Z<|Ak Z<|AX Z<|As Z Z<|Ac Z<|AA Z<|Aa Z<|Ak Z<|Aa Z<|Ab Z<|Aa Z<|AU (p+k) Z Z Z hc ?_;(apply Aa;rfl);refine AG Z p1<|Ah Z Z<|BK Z<|Ay<|Am<|Ar<|Ab Z<|AY Z Z<|AL Z ?_;exact⟨k+1,by omega,⟨Z,Z,congrArg (Value.int .i64) (by omega),trivial⟩,Z,by omega,by omega,Z⟩
   ·rw[if_neg g] at hat;rw[show Cu c=false by simpa using g] at p1;clear g;refine Ap<|Ab Z<|Ak Z<|AX Z<|As Z Z<|Ac Z<|AA Z<|Aa Z<|Ak Z<|Aa Z<|Ab Z<|Aa Z<|AU (p+k) Z Z Z hc ?_;(apply Aa;rfl);refine AG Z p1<|Ah Z Z<|EX Z<|A6<|Er 2 ⟨⟨Z,Z,congrArg (Value.int .i64) (by omega),trivial⟩,Z,Z⟩
  ·have e0:s.drop (p+k)=[]:=Adb (by omega);rw[e0] at hat;have h0:BD Cu []=0:=Z;refine Ap<|Ab Z<|Ak Z<|AX Z<|As Z Z<|Ac Z<|Aw Z<|Aq Z Z<|Aq Z Z<|Af Z Z<|EX Z<|A6<|Er 2 ⟨⟨Z,Z,congrArg (Value.int .i64) (by omega),trivial⟩,Z,Z⟩
 rintro ρ d2 L' ⟨hs,hdd,hL⟩;subst hdd;subst hL;refine A4 _ hs ?_;clear hs;obtain⟨oa,oc,rfl⟩:=hg.val;by_cases k1:p+BD Cu (s.drop p)=s.length
 ·have hte:=ZS k1;have hfin:Dh s 0=acc++[(NH s.length)]:=by rw[hacc,hcons,hte];rfl
  rw[k1];clear hacc hcons hte hnt;refine Ap<|Ab Z<|Ak Z<|AX Z<|Ai Z Z<|AE Z<|Es Z<|Ab Z<|B2 Z<|OB (cs:=CB (NH s.length)) Z Z Z (by omega) (fun bl Tl=>?_);refine Dc (R:=Df) (ys:=[(NH s.length)]) 1 Z Z hg Z (Src.lit (ys:=[(NH s.length)]) 0 Z Z Z Z (fun i hi=>?_)) (by omega) (by simp;omega) (by simp;omega) (fun dv2 g2 hg2=>?_)
  ·obtain rfl:i=0:=by simpa using hi
   have hI:Df d2 (CB (NH s.length)) (NH s.length):=Z;exact hI
  refine B3<|Bz<|Oj Z (fun d3 hl3 hk3=>⟨Z,?_⟩);rw[hfin];exact hg2.rsl QY (by omega) hl3 (hk3 _ (Aci _ (Acr ..)))
 have hq:p+BD Cu (s.drop p)<s.length:=by omega
 have hmk:=Pk s p;have hone:=W9 (s:=s) (p:=p+BD Cu (s.drop p));have p2:=h2 (d:=d2) (s:=s) (p:=p+BD Cu (s.drop p)) ht (by omega) hq;have hsgn:(C2 (s.drop (p+BD Cu (s.drop p)))).1≠255:=fun e=>by
  have:=congrArg Afp (ZU.1 e);rw[Acl,Acs] at this;omega
 have hto:(EO (p+BD Cu (s.drop p)) (C2 (s.drop (p+BD Cu (s.drop p))))).sign≠255:=hsgn;rw[←hmk] at hto p2 hone;generalize Ce s p=t at*;generalize hen:I9 s (p+BD Cu (s.drop p))=en at*;have hrt:∃a0 a1 a2 a3 a4,CB t=[a0,a1,a2,a3,a4,nV,nV,vZ (t.at_:Nat),vZ t.e]∧(CB t).length=9:=⟨_,_,_,_,_,Z,Z⟩
 clear hmk hsgn;refine Ap<|Ab Z<|Ak Z<|AX Z<|Ai Z Z<|AJ Z<|Aj<|Ak Z<|Ab Z<|AG Z p2<|Bm Z<|Bx Z Z Z Z<|BR (fun _ _=>?_);rename_i b5 T5;refine Au 0 (CB t) Z Z Z Z (Aca Z) Z Z<|Bt Z<|AR Z<|AP 0 Z Z Z<|OB (cs:=CB t) Z Z Z (by omega) (fun bl Tl=>?_);refine Dc (R:=Df) (ys:=[t]) 2 Z Z hg Z (Src.lit (ys:=[t]) 0 Z Z Z Z (fun i hi=>?_)) (by omega) (by simp;omega) (by simp;omega) (fun dv2 g2 hg2=>?_)
 ·obtain rfl:i=0:=by simpa using hi
  have hI:Df d2 (CB t) t:=Z;exact hI
 by_cases ke:t.e=0
 ·have hon:t.on=true:=by simp only[Tk.on,decide_eq_true_eq];exact⟨ke,hto⟩
  rw[if_pos hon] at hcons;have hgo:=hnt.2.2.2 hon;have heq:=hone ke hq;subst heq;have hfin:Dh s 0=(acc++[t])++Dh s t.too:=by rw[hacc,hcons];simp
  clear hon;(refine B3<|Bw<|Ae Z<|Al Z (An 1 Z Z)<|AB Z Z<|BM Z ?_);apply Ay;apply Ar;refine DT d2 (g2::J) (Vs.drop (Ads _ (Ads _ (Acy _))))<|Ab Z<|AL Z ?_;exact⟨(dv2,t.too,acc++[t],g2),by simp only;omega,⟨Z,Z,Z,trivial⟩,Z,by simp only;omega,hfin,hg2,J,Z⟩
 ·have hfin:Dh s 0=acc++[t]:=by
   rw[hacc,hcons,if_neg (by simp only[Tk.on,decide_eq_true_eq];exact fun q=>ke q.1)]
  clear hacc hcons hone;refine B3<|Bw<|Ae Z<|Al Z (An 1 Z Z)<|AB Z Z<|AE Z<|Aj<|B3<|B3<|Bz<|Oj Z (fun d3 hl3 hk3=>⟨Z,?_⟩);rw[hfin];exact hg2.rsl QY (by omega) hl3 (hk3 _ (Aci _ (Aci _ (Acr ..))))
def rsg(t:Tk):Nat:=if t.sign=255 then 1 else t.sign
def isT(t:Tk)(c:Nat):Bool:=decide (t.e=0)&& decide ((rsg t:Int)=(c:Int))
def QA(P:Program)(f:FuncId):Prop:=∀{d}{q:Nat}{tv}{full:List Tk}{i c:Nat}{er wh:Int},RSl 9 Df d tv full→DCs d q 0 [tv,vZ (i:Int),vZ er,vZ wh]→(hi:i<full.length)→
 AO P f [pZ q,.int .u8 (c:Int)] d (.bool (isT full[i] c))
def IP:Bo:=⟨32,[(.tmp 4)],(sR (o1 4 (.mv (.const (.bool false))) .done) (.seq (.reg true (pm 5 0<|p1 6 (.nilc 5)<|p1 7 (.fld 0 6)<|pl 8 7<|pm 9 0<|p1 10 (.nilc 9)<|p1 11 (.fld 1 10)<|pl 12 11<|p1 13 (.idx 9 8 12)<|p1 14 (.fld 8 13)<|pl 15 14<|p1 16 (.bin .eql 15 z0)<|pm 17 16 (.op true ⟨(some 18),(some (17,true)),(.mv 0)⟩ (.op true ⟨(some 19),(some (17,true)),(.nilc 18)⟩ (.op true ⟨(some 20),(some (17,true)),(.fld 0 19)⟩ (.op true ⟨(some 21),(some (17,true)),(.ld none 20)⟩ (.op true ⟨(some 22),(some (17,true)),(.mv 0)⟩ (.op true ⟨(some 23),(some (17,true)),(.nilc 22)⟩ (.op true ⟨(some 24),(some (17,true)),(.fld 1 23)⟩ (.op true ⟨(some 25),(some (17,true)),(.ld none 24)⟩ (.op true ⟨(some 26),(some (17,true)),(.idx 9 21 25)⟩ (.op true ⟨(some 27),(some (17,true)),(.fld 0 26)⟩ (.op true ⟨(some 28),(some (17,true)),(.ld none 27)⟩ (.op true ⟨(some 29),(some (17,true)),(.mv 1)⟩ (.op true ⟨(some 30),(some (17,true)),(.bin .eql 28 29)⟩ (p1 31 (.pick 17 30 (.const (.bool false))) (.bar (pm 4 31 .done)))))))))))))))))) .ret))⟩
def Aap{P}(hd:dec P f=some IP):QA P f:=by
 intro d q tv full i c er wh hr hq hi;have e0:DC d q 0 tv:=hq.at (i:=0) Z;have e1:DC d q 1 (vZ (i:Int)):=hq.at (i:=1) Z;refine AO.of' hd (Aca Z) ?_;show gwp P _ _ _ _ _;refine Aj<|Ao Z<|Ax<|Bd<|Bp Z<|A3 Z<|Ae Z<|Al Z (C0 (by assumption))<|Bp Z<|A3 Z<|Ae Z<|Al Z (C0 (by assumption)) ?_;obtain⟨t,htt⟩:∃t,full[i]=t:=⟨_,Z⟩
 rw[htt];refine A2 (sz:=9) (R:=Df) (by rfl) hr (by rfl) Z (by omega) ?_;rintro b o cs hcs hD hR;obtain rfl:cs=CB t:=by rw[←htt];exact hR
 have t8:DC d b (o+8) (vZ t.e):=hD.at (i:=8) Z;unfold isT;by_cases k:t.e=0
 ·refine Ae Z<|Al Z (C0 (by assumption))<|Ai Z Z<|Ac Z<|AA Z<|Aa Z<|Bp Z<|Aa Z<|A3 Z<|Aa Z<|Ae Z<|Aa Z<|Al Z (C0 (by assumption))<|Aa Z<|Bp Z<|Aa Z<|A3 Z<|Aa Z<|Ae Z<|Aa Z<|Al Z (C0 (by assumption))<|Aa Z<|A2 (sz:=9) (R:=Df) (by rfl) hr (by rfl) Z (by omega) ?_;rintro b2 o2 cs2 hcs2 hD2 hR2;obtain rfl:cs2=CB t:=by rw[←htt];exact hR2
  have t0:DC d b2 (o2+0) (.int .u8 (rsg t:Nat)):=hD2.at (i:=0) Z;refine Aa Z<|Ae Z<|Aa Z<|Al Z (C0 (by assumption))<|Aa Z<|Ab Z<|Aa Z<|Ai Z Z<|Ah Z Z<|B0<|Bk Z<|BF Z (by rw[decide_eq_true k];rfl)
 ·refine Ae Z<|Al Z (C0 (by assumption))<|Ai Z Z<|Ac Z<|Aw Z<|Aq Z Z<|Aq Z Z<|Aq Z Z<|Aq Z Z<|Aq Z Z<|Aq Z Z<|AF Z<|Af Z Z<|B0<|Bk Z<|BF Z (by rw[decide_eq_false k];rfl)
def Dq(t:Tk)(e:Int):Int:=if t.e≠0 then t.e else e
abbrev rdC(tv:Value)(i:Nat)(er wh:Int):List Value:=[tv,.int .i64 (i:Int),.int .i64 er,.int .i64 wh]
def Mp(P:Program)(f:FuncId):Prop:=∀{d}{q:Nat}{Tq tv}{full:List Tk}{i:Nat}{e wh:Int},RSl 9 Df d tv full→(hi:i<full.length)→
 Be P f [pZ q,vZ e] d [bx q Tq (rdC tv i 0 wh)] (Ret fun r d' L'=>d'=d∧∃wh',L'=[bx q Tq (rdC tv i (Dq full[i] e) wh')])
def H9:Bo:=⟨50,[],(.seq (.seq (.reg true (pm 4 0<|p1 5 (.nilc 4)<|p1 6 (.fld 0 5)<|pl 7 6<|pm 8 0<|p1 9 (.nilc 8)<|p1 10 (.fld 1 9)<|pl 11 10<|p1 12 (.idx 9 7 11)<|p1 13 (.fld 8 12)<|pl 14 13<|p1 15 (.bin .neq 14 z0) .done)) (.cond 15 (.reg true (pm 16 0<|p1 17 (.nilc 16)<|p1 18 (.fld 0 17)<|pl 19 18<|pm 20 0<|p1 21 (.nilc 20)<|p1 22 (.fld 1 21)<|pl 23 22<|p1 24 (.idx 9 19 23)<|p1 25 (.fld 8 24)<|pl 26 25 (.bar (pm 1 26 .done)))) .skip)) (sR (om 27 0<|o1 28 (.nilc 27)<|oj 29 2 28<|ol 30 29<|ob 31 .eql 30 z0 .done) (.cond 31 (sR (om 32 0<|om 33 1<|o1 34 (.nilc 32)<|oj 35 2 34<|o0 (.st 1 35 33) .done) (.reg true (pm 36 0<|pm 37 0<|p1 38 (.nilc 37)<|p1 39 (.fld 0 38)<|pl 40 39<|pm 41 0<|p1 42 (.nilc 41)<|p1 43 (.fld 1 42)<|pl 44 43<|p1 45 (.idx 9 40 44)<|p1 46 (.fld 7 45)<|pl 47 46<|p1 48 (.nilc 36)<|p1 49 (.fld 3 48) (.bar (o0 (.st 1 49 47) .done))))) .skip)))⟩
def Ya{P}(hd:H6 P f=some H9):Mp P f:=by
 intro d q Tq tv full i e wh hr hi;obtain⟨t,htt⟩:∃t,full[i]=t:=⟨_,Z⟩
 rw[htt];obtain⟨ta,tc,rfl⟩:=RSl.val hr;refine EK hd ?_;apply Ax;refine KL (fun ρ d2 L'=>AZ ρ [(0,pZ q),(1,vZ (Dq t e))]∧d2=d∧L'=[bx q Tq (rdC (.slice ta full.length tc) i 0 wh)]) ?_ ?_
 ·unfold Dq;(apply Ax);refine Bd<|Bp Z<|A3 Z<|AI Z Z Z<|Bp Z<|A3 Z<|AI Z Z Z<|A2 (sz:=9) (R:=Df) (by rfl) hr (by rfl) Z (by omega) ?_;rintro b o cs hcs hD hR;obtain rfl:cs=CB t:=by rw[←htt];exact hR
  have t8:DC d b (o+8) (vZ t.e):=hD.at (i:=8) Z;by_cases k:t.e≠0
  ·rw[if_pos k];refine Ae Z<|Al Z (C0 (by assumption))<|AB Z Z<|AV<|Bn Z<|Bd<|Bp Z<|A3 Z<|AI Z Z Z<|Bp Z<|A3 Z<|AI Z Z Z<|A2 (sz:=9) (R:=Df) (by rfl) hr (by rfl) Z (by omega) ?_;rintro b2 o2 cs2 hcs2 hD2 hR2;obtain rfl:cs2=CB t:=by rw[←htt];exact hR2
   have t8':DC d b2 (o2+8) (vZ t.e):=hD2.at (i:=8) Z;(refine Ae Z<|Al Z (C0 (by assumption))<|B0<|AL Z ?_);exact⟨⟨Z,Z,trivial⟩,Z,Z⟩
  ·rw[if_neg k];(refine Ae Z<|Al Z (C0 (by assumption))<|AB Z Z<|AV<|AH Z<|Ay ?_);exact⟨⟨Z,Z,trivial⟩,Z,Z⟩
 rintro ρ d2 L' ⟨hs,hdd,hL⟩;subst hdd;subst hL;show gwp P _ _ _ _ _;refine A4 _ hs ?_;clear hs;generalize Dq t e=e2 at*;refine Et Z<|A3 Z<|AI Z Z Z<|Ai Z Z<|AE Z<|Et Z<|Ab Z<|A3 Z<|Ae Z<|Au 0 (rdC (.slice ta full.length tc) i e2 wh) Z Z Z Z (Aca Z) Z Z ?_;(apply Av);refine Bd<|Bp Z<|Bp Z<|A3 Z<|AI Z Z Z<|Bp Z<|A3 Z<|AI Z Z Z<|A2 (sz:=9) (R:=Df) (by rfl) hr (by rfl) Z (by omega) ?_;rintro b o cs hcs hD hR;obtain rfl:cs=CB t:=by rw[←htt];exact hR
 have t7:DC d2 b (o+7) (vZ (t.at_:Nat)):=hD.at (i:=7) Z;refine Ae Z<|Al Z (C0 (by assumption))<|A3 Z<|Ae Z<|B0<|Au 0 (rdC (.slice ta full.length tc) i e2 (t.at_:Nat)) Z Z Z Z (Aca Z) Z Z ?_;(apply Av);exact Ba [] trivial (Acy _) ⟨Z,_,Z⟩
def HQ(full:List Tk)(i:Nat)(er:Int)(c:Nat):Nat×Int:=if er≠0 then(i,er) else match full[i]? with
 |some t=>if isT t c=true then(i+1,0) else(i,Dq t 60)
 |none=>(i,0)
def Mq(P:Program)(f:FuncId):Prop:=∀{d}{q:Nat}{Tq tv}{full:List Tk}{i c:Nat}{er wh:Int},RSl 9 Df d tv full→full.length≤100000→(hi:i<full.length)→
 Be P f [pZ q,.int .u8 (c:Int)] d [bx q Tq (rdC tv i er wh)] (Ret fun r d' L'=>d'=d∧∃wh',L'=[bx q Tq (rdC tv (HQ full i er c).1 (HQ full i er c).2 wh')])
def FN(a0 a1:Nat):Bo:=⟨22,[],(.seq (sR (om 4 0<|o1 5 (.nilc 4)<|oj 6 2 5<|ol 7 6<|ob 8 .neq 7 z0 .done) (.cond 8 .ret .skip)) (.seq (sR (om 9 0<|om 10 1<|oc 11 a0 [9,10]<|o1 12 (.un .not 11) .done) (.cond 12 (sR (om 13 0<|oc 14 a1 [13,(kZ 60)] .done) .ret) .skip)) (rG (om 15 0<|o1 16 (.nilc 15)<|oj 17 1 16<|ol 18 17<|ob 19 .add 18 z1<|o1 20 (.nilc 15)<|oj 21 1 20<|o0 (.st 1 21 19) .done))))⟩
def X5{P f1 f2}(hd:dec P f=some (FN f1 f2))(h1:QA P f1)(h2:Mp P f2):Mq P f:=by
 intro d q Tq tv full i c er wh hr hfl hi;obtain⟨ta,tc,rfl⟩:=RSl.val hr;have hfi:full[i]?=some full[i]:=Acf hi;refine EK hd ?_;unfold HQ;rw[hfi];by_cases k:er≠0
 ·rw[if_pos k];refine Ap<|Bp Z<|A3 Z<|AI Z Z Z<|AB Z Z<|AE Z<|En<|Ba [] trivial (Acy _) ⟨Z,_,Z⟩
 obtain rfl:er=0:=by omega
 rw[if_neg (by simp)];simp only;have p1:∀d1,Le d d1→(∀k∈[bx q Tq (rdC (.slice ta full.length tc) i 0 wh)],Le k d1)→AO P f1 [pZ q,.int .u8 (c:Int)] d1 (.bool (isT full[i] c)):=fun d1 hl1 hk1=>
  h1 (RSl.mono (R:=Df) (fun _ h=>h) hr hl1) (Dn (hk1 _ (Ade.2 Z))) hi
 generalize hb:isT full[i] c=b at*;clear hb;cases b with
 |true=>
  rw[if_pos Z]
  (refine Ap<|Bp Z<|A3 Z<|AI Z Z Z<|AB Z Z<|AJ Z<|Ap<|Bp Z<|Ab Z ?_)
  refine Cv Z p1 ?_
  (refine Bu Z<|Bh Z<|Ar<|Bp Z<|A3 Z<|AI Z Z Z<|AY Z Z<|A3 Z<|Ae Z ?_)
  refine Au 0 (rdC (.slice ta full.length tc) (i+1) 0 wh) Z Z Z Z (Aca Z) Z Z ?_
  (apply Av)
  exact Ba [] trivial (Acy _) ⟨Z,_,Z⟩
 |false=>
  rw[if_neg (by decide)]
  (refine Ap<|Bp Z<|A3 Z<|AI Z Z Z<|AB Z Z<|AJ Z<|Ap<|Bp Z<|Ab Z ?_)
  refine Cv Z p1 ?_
  (refine Bu Z<|BK Z<|Et Z ?_)
  refine Cg (A:=[bx q Tq (rdC (.slice ta full.length tc) i 0 wh)]) (B:=[]) Z Z (h2 (e:=60) hr hi) (fun r d3 L3 _ ⟨hdd,wh',hL⟩=>?_)
  subst hdd;subst hL
  (refine Bz ?_)
  exact Ba [] trivial (Acy _) ⟨Z,_,Z⟩
end Go.Gk.Jsn
end
section
namespace Go.Gk
open Go Go.Proofs Go.RowKit Go.Shelf
def Ok.grown{hs W}(x:Ok hs W)(os:Array Obj):Ok hs (Sort.grow W os):=
 ⟨x.1,fun h hh b o e=>by
  have h1:=x.2 h hh b o e;show(W.heap++os)[b]?=some o;obtain⟨hlt,_⟩:=Array.getElem?_eq_some_iff.1 h1;rw[Array.getElem?_append_left hlt];exact h1⟩
def Ok.Qz{hs W}{b:Nat}{T l}{f:Array Value→Array Value}(x:Ok (bx b T l::hs) W):Ok (bx b T (f l.toArray).toList::hs) (Sort.mapBlock W b f):=by
 have hb:=x.head b _ (CG _ _);refine x.write _ ?_;show W.heap.modify b (Sort.onCells f)=W.heap.setIfInBounds b (.cells (f l.toArray).toList.toArray T (0,0));apply Array.ext_getElem?;intro i;rw[Array.getElem?_modify,Array.getElem?_setIfInBounds];obtain⟨hg,hv⟩:=Array.getElem?_eq_some_iff.1 hb;by_cases e:b=i
 ·subst e;simp[hg,hv,Sort.onCells]
 ·simp[e]
def YZ{d:Ad}{ks:List (List UInt8)}(h:∀k∈ks,k.length≤140737488355328):∀i (hi:i<ks.length),A9 d (chunk (ks.map Ag) i 1) ks[i]:=fun i hi=>by
 refine⟨?_,h _ (Acq hi)⟩
 simp only[chunk,Aex];rw[Acv (by simpa using hi)];simp
def Lw(P:Program)(f:FuncId):Prop:=∀{d a}{c:Nat}{ks h},AQ 1 A9 emp (.slice a ks.length c) ks h→
 Be P f [.slice a ks.length c] d [h] (Ret fun r d' L'=>d'=d∧r=.tuple #[]∧∃h',L'=[h']∧AQ 1 A9 emp (.slice a ks.length c) (ks.mergeSort fun x y=>decide (x≤y)) h')
def Ui{P}{ρ:Ren}(Ly:Lays.n190 P ρ)(hc:Du P (ρ.f 190)):Lw P (ρ.f 190):=by
 intro d a c ks h hg;obtain⟨cs,⟨hl,hn,ho⟩,hel⟩:=hg;have hcs:cs=ks.map Ag:=by
  rw[Aex] at hl;apply List.ext_getElem
  ·simpa using hl
  ·intro i h1 h2;have h3:i<ks.length:=by simpa using h2
   have:=(hel i h3).1;simp only[chunk,Aex] at this;rw[Acv h1,Afh,List.take_zero] at this;rw[Agq];exact(List.cons.inj this).1
 subst hcs;have hlen:∀k∈ks,k.length≤140737488355328:=fun k hk=>by
  obtain⟨i,hi,rfl⟩:=Aea hk;exact(hel i hi).2
 have hperm:=List.mergeSort_perm ks (fun x y=>decide (x≤y));have hsl:(ks.mergeSort fun x y=>decide (x≤y)).length=ks.length:=hperm.length_eq;have hlen':∀k∈(ks.mergeSort fun x y=>decide (x≤y)),k.length≤140737488355328:=fun k hk=>hlen k (hperm.mem_iff.1 hk);refine⟨hc,fun F W hOk=>?_⟩
 rcases ho with ⟨hv,h0,rfl⟩|⟨b,T,l,c',hv,rfl,h1,h2,h3,h4⟩
 ·simp only[Value.slice.injEq] at hv;obtain⟨rfl,_,rfl⟩:=hv;have hnil:ks=[]:=List.length_eq_zero_iff.1 h0;subst hnil;refine(Any.slices_Sort_string_none Ly none 0 W).mono ?_;rintro e W' ⟨rfl,rfl⟩;refine⟨d,[emp],hOk,Le.refl d,Ca.refl _,Z,Z,emp,Z,?_⟩
  exact⟨[],⟨by simp,by simp,.inl ⟨Z,by simp,Z⟩⟩,fun i hi=>by simp at hi⟩
 ·simp only[Value.slice.injEq] at hv;obtain⟨rfl,_,rfl⟩:=hv;rw[Adq] at h4;have y:Ok (bx b T l::d::F) W:=hOk.perm (Adz _ _ _);have hb:=y.head b _ (CG _ _);have hlt:=(Array.getElem?_eq_some_iff.1 hb).1;have hle:ks.length≤l.length:=by omega
  have hget:∀j (hj:j<ks.length),l[j]?=some (Ag ks[j]):=fun j hj=>by
   have:=congrArg (·[j]?) h4;simp only[List.getElem?_map,Acf hj,Option.map_some] at this;rw[Ada hj] at this;exact this
  have hH:Sort.Holds encStr W b 0 ks.toArray:=fun j hj=>by
   have hj':j<ks.length:=by simpa using hj
   refine⟨?_,?_⟩
   ·have:=hget j hj';simp only[World.cell?,hb,Adw];rw[getElem!_pos _ j hj];simpa [encStr,Ag] using this
   ·simp[World.frozen?,hb]
  refine(Any.slices_Sort_string Ly b 0 c ks W hH hlt (by omega)).mono ?_;rintro e W' ⟨rfl,n,os,rfl⟩;generalize hss:(ks.mergeSort fun x y=>decide (x≤y))=ss at*;refine⟨d,[bx b T (Sort.putCells encStr 0 ss.toArray l.toArray).toList],?_,Le.refl d,?_,Z,Z,_,Z,?_⟩
  ·have z:Ok (bx b T l::d::F) (Sort.ahead W n):=y.same Z;have z2:=(z.Qz (f:=Sort.putCells encStr 0 ss.toArray)).grown os;exact z2.perm (Adz _ _ _)
  ·refine⟨Z,Z,Z,?_⟩
   show W.heap.size≤((W.heap.modify b _)++os).size;simp
  ·have hpl:(Sort.putCells encStr 0 ss.toArray l.toArray).toList.length=l.length:=by simp[Sort.putCells]
   refine⟨ss.map Ag,⟨by simp,by omega,.inr ⟨b,T,_,c,by rw[hsl],Z,by omega,h2,by rw[hpl];exact h3,?_⟩⟩,YZ hlen'⟩
   apply List.ext_getElem?;intro j;by_cases hj:j<ss.length
   ·rw[Adq,Ada hj];have hjl:j<l.length:=by omega
    simp[Sort.putCells,hj,hjl,encStr,Ag]
   ·rw[Acz (by simp;omega),Acz (by simp;omega)]
end Go.Gk
end
section
namespace Go.Gk.Val
open Go Go.Gk Go.Gk.Utf
attribute [local irreducible] gwp gws
section
abbrev Gc(i:Int):Value:=.int .i64 i
def OT(T:Ad→Prop)(P:Program)(f:FuncId):Prop:=∀{d w1 w2 ks}{l:List V},T d→B9 d w1 ks→Cw d w2 l→ks.length≤1000000→(∀x∈l,C8 x≤1000000)→
 Be P f [w1,w2] d [] (Ret fun r d' L'=>d'=d∧∃cs' h,r=.tuple #[.agg cs'.toArray,vZ (Dk ks l).2]∧L'=[h]∧Ds cs' (Dk ks l).1 h)
def Wv{P f}{v:V}{e:Int}{d args}(hk:I64 v.kind∧I64 v.m∧I64 v.e∧v.text.length≤140737488355328)(h:Be P f args d [] (Ret fun r d' L'=>d'=d∧∃cs',r=.tuple #[.agg cs'.toArray,vZ e]∧H2 v cs' L')):
  Be P f args d [] (Ret fun r d' L'=>d'=d∧∃cs' h,r=.tuple #[.agg cs'.toArray,vZ e]∧L'=[h]∧Ds cs' v h):=by
 refine(Ok.AaM h).UH (fun e d' L' _ r=>?_)
 cases e with
 |panicked c=>exact r.elim
 |outgrown=>exact r.elim
 |returned u=>
  obtain⟨⟨hdd,cs',hr,lv,kv,hk',hl,ccs,hs,hcs,gk,gl,hsl,el,hL⟩,hp⟩:=r
  subst hL
  obtain⟨k,m,e,t,l,ks⟩:=v
  obtain⟨ik,im,ie,it⟩:=hk
  exact⟨d',_,Vs.pack _,hdd,cs',_,hr,Z,by rw[hcs];exact Ds.mk ik im ie it gk gl hsl el (List.pairwise_cons.1 hp).2⟩
def XD(ks:List (List UInt8))(l:List V):I64 (Dk ks l).1.kind∧I64 (Dk ks l).1.m∧I64 (Dk ks l).1.e∧(Dk ks l).1.text.length≤140737488355328:=by
 have hz:I64 V.zero.kind∧I64 V.zero.m∧I64 V.zero.e∧V.zero.text.length≤140737488355328:=⟨⟨by decide,by decide⟩,⟨by decide,by decide⟩,⟨by decide,by decide⟩,by decide⟩
 have hv:I64 (FE ks l).kind∧I64 (FE ks l).m∧I64 (FE ks l).e∧(FE ks l).text.length≤140737488355328:=⟨HM,BY,BY,by show([]:List UInt8).length≤_;simp⟩
 unfold Dk;repeat' split
 ·exact hz
 ·exact hz
 ·exact hz
 ·exact hz
 ·exact hv
def H2.zero:H2 V.zero BJ [emp,emp]:=⟨_,_,emp,emp,[],[],Z,AQ.nil,B5.nil 6,Z,fun i h=>absurd h (Aec i),Z⟩
def Rp{α β}(f:α→β){l:List α}(h:(l.map f).Nodup):l.Nodup:=(List.pairwise_map.1 h).imp fun hne e=>hne (by rw[e])
def ZI{ms qs:Ms}{p:List UInt8×Int×Nat}(hn:qs.Nodup)(hs:qs ⊆ ms)(hp:p∈ms)(hq:p∉qs):qs.length<ms.length:=by
 have h1:(p::qs).Nodup:=List.nodup_cons.2 ⟨hq,hn⟩;have h2:p::qs ⊆ ms:=fun x hx=>(Adj.1 hx).elim (fun e=>e▸hp) (fun h=>hs h);have:=h1.length_le_of_subset h2;rw[Acg] at this;exact this
def born_inj{ks}{n:Nat}{p q:List UInt8×Int×Nat}(hp:p∈msN ks n)(hq:q∈msN ks n)(h:p.2.2=q.2.2):p=q:=by
 have hb:=Mx ks n;obtain⟨i,hi,rfl⟩:=Aea hp;obtain⟨j,hj,rfl⟩:=Aea hq;have e1:((msN ks n).map (·.2.2))[i]'(by simpa using hi)=i:=by simp[hb]
 have e2:((msN ks n).map (·.2.2))[j]'(by simpa using hj)=j:=by simp[hb]
 rw[Agq] at e1 e2;have:i=j:=by rw[←e1,←e2];exact h
 subst this;rfl
def Uj(ks:List (List UInt8))(n:Nat):((msN ks n).map (·.2.2)).Nodup:=by rw[Mx];exact List.nodup_range
section
variable {P:Program}{pan:List PanicEntry→A0}{Qn:Env→A0}{Ls L:List Ad}{ρ:Env}{d:Ad}{s:GS}{t:Nat}{tk:Bool}
def Abk{x}{b o:Nat}{T l u}(i:Nat)(e:ev ρ x=.pointer (some ⟨b,o,none⟩))(hi:(lk tk Ls L)[i]?=some (bx b T l))(hu:l[o]?=some u)(h:gws P pan Qn s Ls (upd ρ t u) d L):
  gws P pan Qn (.op tk ⟨some t,none,.ld none x⟩ s) Ls ρ d L:=Al e (An i hi hu) h
end
def Vt{d v xs h}(o:AQ 1 A9 d v xs h){m:Nat}(hm:m<xs.length):
  ∃b T l c,v=.slice (some ⟨b,0,none⟩) xs.length c∧h=bx b T l∧l[m]?=some (Ag xs[m]):=by
 obtain⟨cs,ho,hr⟩:=o
 obtain⟨b,T,l,c,h1,h2,_,h4,_⟩:=ho.Aa9 hm
 have hl:=ho.1
 refine⟨b,T,l,c,h1,h2,h4 _ ?_⟩
 have he:=(hr m hm).1
 have hm2:m<cs.length:=by omega
 simp only[chunk,Aex] at he
 rw[Acv hm2,Afh,List.take_zero] at he
 rw[Acf hm2,(List.cons.inj he).1]
def Uz{ρ d L}{b t u:Nat}{T}{e:Int}(i:Nat)(e4:ρ t=pZ b)(hi:L[i]?=some (bx b T BJ))(e5:ρ u=vZ e):
  Cb [.cell t (some 6),.tmp u] (Ret fun r _ L'=>∃cs',r=.tuple #[.agg cs'.toArray,vZ e]∧H2 V.zero cs' L') ρ d L:=
 Se (L':=[emp,emp]) [.agg BJ.toArray,vZ e] ⟨Bc i e4 hi Z,Ea e5,trivial⟩ ((Vs.emp.trans Vs.emp).trans (Vs.drop (((Acb L).cons_cons _).cons_cons _))) ⟨BJ,Z,H2.zero⟩
def RD(a0 a1 a2 a3 a4:Nat):Bo:=⟨91,[(.cell 4 (some 6)),(.tmp 5)],(sR (o1 4 (.alo (.agg #[(vZ 0),(vZ 0),(vZ 0),(Ag []),nV,nV]))<|o1 5 (.mv z0) .done) (.seq (.block 0 (sR (om 16 0<|oL 17 16<|om 18 1<|oL 19 18<|ob 20 .neq 17 19<|om 15 20 .done) (.cond 15 (sR (o1 21 (.bld [(0,1),(1,2),(3,1),(4,1),(5,1)] [(vZ 0),(vZ 0),(vZ 0),(Ag []),nV,nV] [])<|o0 (.st 6 4 21)<|o1 5 (.mv z2) .done) .ret) (sR (om 23 0<|oc 24 a0 [23,(.func a1)]<|o1 25 (.un .not 24)<|om 22 25 .done) (.cond 22 (sR (o1 26 (.bld [(0,1),(1,2),(3,1),(4,1),(5,1)] [(vZ 0),(vZ 0),(vZ 0),(Ag []),nV,nV] [])<|o0 (.st 6 4 26)<|o1 5 (.mv (kZ 30)) .done) .ret) .skip))))) (sR (o1 27 (.mop .mk)<|om 6 27 .done) (.seq (sR (om 28 0<|oL 29 28<|o1 30 (.mv z0) .done) (.block 1 (.loop (sR (ob 31 .lss 30 29 .done) (.seq (.cond 31 .skip (.exit 1)) (.seq (.block 2 (sR (om 32 30<|oI 33 1 28 30<|ol 34 33<|om 7 32<|om 8 34 .done) (.seq (sR (om 35 1<|om 36 7<|oI 37 6 35 36<|o1 38 (.ld (some 6) 37)<|oc 39 a2 [38]<|om 9 39 .done) (sR (om 40 9<|ob 41 .neq 40 z0 .done) (.cond 41 (sR (o1 42 (.bld [(0,1),(1,2),(3,1),(4,1),(5,1)] [(vZ 0),(vZ 0),(vZ 0),(Ag []),nV,nV] [])<|om 43 9<|o0 (.st 6 4 42)<|om 5 43 .done) .ret) .skip))) (rG (om 44 6<|om 45 8<|om 46 7<|o0 (.mop (.up 1 44 45 46)) .done))))) (rG (ob 47 .add 30 z1<|om 30 47 .done)))))))) (sR (o1 48 (.bld [(0,1),(1,2),(3,1),(4,1),(5,1)] [(vZ 0),(vZ 0),(vZ 0),(Ag []),nV,nV] [(0,(kZ 6))])<|o1 10 (.alo (.agg #[(vZ 0),(vZ 0),(vZ 0),(Ag []),nV,nV]))<|o0 (.st 6 10 48) .done) (.seq (sR (om 49 6<|o1 50 (.mop (.rng 49)) .done) (.block 3 (.loop (sR (o1 51 (.mop (.nxt 50))<|oe 52 51 0 .done) (.seq (.cond 52 .skip (.exit 3)) (.block 4 (sR (o1 53 (.mop (.ent 50))<|oe 54 53 0<|om 11 54 .done) (rG (oj 55 5 10<|ol 56 55<|om 57 11<|o1 58 (.bsl 1 1 [(Ag [])] [(0,57)])<|o1 59 (.app 1 16 [(Ag [])] 56 58)<|oj 60 5 10<|o0 (.st 1 60 59) .done))))))))) (sR (oj 61 5 10<|ol 62 61<|oc 63 a3 [62] .done) (.seq (sR (oj 64 5 10<|ol 65 64<|oL 66 65<|o1 67 (.mv z0) .done) (.block 5 (.loop (sR (ob 68 .lss 67 66 .done) (.seq (.cond 68 .skip (.exit 5)) (.seq (.block 6 (sR (oI 69 1 65 67<|ol 70 69<|om 13 70 .done) (.reg true (p1 71 (.fld 4 10)<|pl 72 71<|pm 73 1<|pm 74 6<|pm 75 13<|o1 76 (.mop (.lk 1 (vZ 0) false 74 75))<|p1 77 (.idx 6 73 76)<|p1 78 (.ld (some 6) 77)<|oc 79 a4 [78]<|o1 80 (.bsl 1 6 [(vZ 0),(vZ 0),(vZ 0),(Ag []),nV,nV] [(0,79)])<|o1 81 (.app 6 88 [(vZ 0),(vZ 0),(vZ 0),(Ag []),nV,nV] 72 80)<|p1 82 (.fld 4 10) (.bar (o0 (.st 1 82 81) .done)))))) (rG (ob 83 .add 67 z1<|om 67 83 .done)))))))) (.seq (sR (o1 84 (.ld (some 6) 10)<|oc 85 a2 [84]<|om 14 85 .done) (sR (om 86 14<|ob 87 .neq 86 z0 .done) (.cond 87 (sR (o1 88 (.bld [(0,1),(1,2),(3,1),(4,1),(5,1)] [(vZ 0),(vZ 0),(vZ 0),(Ag []),nV,nV] [])<|om 89 14<|o0 (.st 6 4 88)<|om 5 89 .done) .ret) .skip))) (sR (o1 90 (.ld (some 6) 10)<|o0 (.st 6 4 90)<|o1 5 (.mv z0) .done) .ret))))))))))⟩
set_option maxHeartbeats 4000000 in
def XB{T:Ad→Prop}(hTm:∀{d d'},T d→Le d d'→T d'){P f f1 f2 f3 f4 f5}(hd:H6 P f=some (RD f1 f2 f3 f4 f5))(h1:Ko P f1)(h2:Ek T P f2)(h3:Iz T P f3)(h4:Lw P f4)(h5:J3 P f5):OT T P f:=by
 intro d w1 w2 ks l ht hks hl hb hcnt;refine Wv (XD ks l)<|Be.forget (Q:=fun r L'=>∃cs',r=.tuple #[.agg cs'.toArray,vZ (Dk ks l).2]∧H2 (Dk ks l).1 cs' L')<|Cq hd (Aca Z) ?_;obtain⟨ka,kc,rfl⟩:=RSl.val hks;obtain⟨la,lc,rfl⟩:=RSl.val hl;have hks0:RSl 1 A9 d (.slice ka ks.length kc) ks:=hks;have hl0:RSl 6 Az d (.slice la l.length lc) l:=hl;have hkl:∀k∈ks,k.length≤140737488355328:=fun k hk=>by
  obtain⟨i,hi,rfl⟩:=Aea hk;obtain⟨_,_,_,_,_,_,_,_,_,_,_,hg⟩:=hks0;obtain⟨_,_,_,_,hkl⟩:=hg i hi;exact hkl
 show gwp P _ _ _ _ _;by_cases hlen:ks.length≠l.length
 ·have hk0:(ks.length:Int)≠l.length:=by omega
  rw[Dk,if_pos hlen];(refine Aj<|BV (fun _ _=>AL Z<|Ax<|Am<|Es Z<|AK Z<|AR Z<|AK Z<|AB Z Z<|Ao Z<|Bn Z<|Aj<|Bs ?_));rename_i b4 T4;refine Au 0 BJ Z Z Z Z (Aca Z) Z Z<|AM Z<|Uz 0 Z Z Z
 have hlen:ks.length=l.length:=by omega
 have hk0:(ks.length:Int)=l.length:=by omega
 rw[Dk,if_neg (by omega)];(refine Aj<|BV (fun _ _=>AL Z<|Ax<|Am<|Es Z<|AK Z<|AR Z<|AK Z<|AB Z Z<|Ao Z<|AH Z<|Es Z ?_));rename_i b4 T4;refine AG Z (h1 hks (p:=u8) (fun k hk=>h2 ht (hkl k hk))) ?_;cases hall:ks.all u8 with
 |false=>
  rw[if_pos Z]
  (refine Bu Z<|Ao Z<|Ci Z<|Aj<|Bs ?_)
  refine Au 0 BJ Z Z Z Z (Aca Z) Z Z ?_
  (refine AM Z ?_)
  exact Uz 0 Z Z Z
 |true=>
 have hu:∀k∈ks,u8 k=true:=List.all_eq_true.1 hall;rw[if_neg (by simp)];refine Bu Z<|Ao Z<|A7 Z<|Ay<|Aj<|Abo Ag Gc (fun b6=>?_);refine B3<|Bw<|AR Z<|AK Z<|AL Z<|Am<|DJ (α:=Nat) (fun i=>[(0,.slice ka ks.length kc),(1,.slice la l.length lc),(4,pZ b4),(6,.map (some b6)),(28,.slice ka ks.length kc),(29,vZ ks.length),(30,vZ i)])
  (fun i=>[mp Ag Gc b6 (msN ks i) (msN ks i).length,bx b4 T4 BJ])
  (fun i=>i≤ks.length∧∀j (h1:j<i) (h2:j<l.length),Bf l[j]=0) (fun i=>ks.length - i) 0 ⟨Z,Z,Z,Z,Z,Z,Z,trivial⟩ Z ⟨Acu _,fun j h=>absurd h (Aec j)⟩ ?_
 rintro i ρ ⟨hi,hrt⟩;by_cases hc:i<ks.length
 ·have hcl:i<l.length:=by omega
  (refine Aj<|As Z Z<|Cr<|Bn Z<|Ay<|Ax<|Am<|AD Z<|A2 (sz:=1) (R:=A9) (by rfl) (by assumption) (by rfl) Z (by omega) ?_;rintro _ _ _ _ _ ⟨rfl,_⟩;refine Al Z (BQ (by assumption) Z)<|Ab Z<|Ak Z<|Bw<|AR Z<|Ab Z<|A2 (sz:=6) (R:=Az) (by rfl) (by assumption) (by rfl) Z (by omega) ?_;rintro _ _ _ _ _ _;apply CT;rfl;assumption;assumption);rename_i hcs hD hR;refine AG Z (h3 ht hR) ?_;by_cases hr0:Bf l[i]≠0
  ·have hfw:=Rl hcl (fun j hj=>hrt j hj (by omega)) hr0;rw[if_pos (by rw[hfw];exact hr0),hfw];refine Bt Z<|Ab Z<|AB Z Z<|AE Z<|Aj<|Bs<|Ab Z<|Au 1 BJ Z Z Z Z (Aca Z) Z Z<|AM Z<|Uz 1 Z Z Z
  have hr0:Bf l[i]=0:=by omega
  rw[hr0];have hms:EW ks[i] (i:Int) (msN ks i).length (msN ks i)=msN ks (i+1):=by rw[msN];simp[Aez,hc]
  refine Bt Z<|Ab Z<|AB Z Z<|AJ Z<|Ar<|B3<|Ak Z<|Ab Z<|Aa6 (vE:=Gc) (v:=(i:Int)) V8 0 Z Z Z Z ?_;rw[ZV _ (i:Int),hms];(refine Av<|Ar<|AY Z Z<|AL Z ?_);exact⟨i+1,by omega,⟨Z,Z,Z,Z,Z,Z,int_eq (by omega),trivial⟩,Z,Z,hc,fun j h1 h2=>if e:j=i then(by subst e;exact hr0) else hrt j (by omega) h2⟩
 obtain rfl:i=ks.length:=by omega
 have hrt':∀x∈l,Bf x=0:=fun x hx=>by
  obtain⟨j,hj,rfl⟩:=Aea hx;exact hrt j (by omega) hj
 rw[if_neg (by rw[Iq.2 hrt'];simp)];have hmr:=Uc hu hlen hrt';have hmd:=NP hu hlen hrt';have hlt:=Abg (ks:=ks) (n:=ks.length);have hbn:=Uj ks ks.length;have hbi:= @born_inj ks ks.length
 have hgb:= @RS ks ks.length
 have hmk:∀k,k∈CC (msN ks ks.length)→k∈ks:=fun k hk=>by have:=(Wx ks k _ (Ack _)).1 hk;rwa [List.take_length] at this
 have hsort:=fun p=>Vu (ks:=ks) (l:=l) hu (p:=p);have hmap:=I5 (l:=l) hu ks.length (Ack _);have hget:=fun k=>Ru ks k ks.length;have hlst:∀k n,n=ks.length→Ii ks k n<ks.length:=fun k n e=>by subst e;exact Tc ks k _
 (refine Aj<|As Z Z<|Cr<|AH Z<|A6<|Aj<|Oz Z<|BV (fun _ _=>?_));rename_i b10 T10;refine Au 0 [vZ 6,vZ 0,vZ 0,Ag [],nV,nV] Z Z Z Z (Aca Z) Z Z<|Bw<|B3<|Abv Ag Gc 1 Z Z (fun q=>?_);generalize hmsd:msN ks ks.length=ms at*;refine JI ⟨d,[mit q b6 ms.length [],bx b10 T10 [vZ 6,vZ 0,vZ 0,Ag [],nV,nV],mp Ag Gc b6 ms ms.length,bx b4 T4 BJ,emp],Vs.emp.trans (Vs.pick [1,2,3,4,0] Z),?_⟩;(apply Am);refine BP (α:=Ms) (fun qs=>[(1,.slice la l.length lc),(4,pZ b4),(6,.map (some b6)),(10,pZ b10),(50,pZ q)])
  (fun qs d' L'=>d'=d∧qs.Nodup∧qs ⊆ ms∧∃qa qc h,AQ 1 A9 emp (.slice qa (CC qs).length qc) (CC qs) h∧
   L'=[mit q b6 ms.length (qs.map (·.2.2)),bx b10 T10 [vZ 6,vZ 0,vZ 0,Ag [],nV,.slice qa (CC qs).length qc],mp Ag Gc b6 ms ms.length,bx b4 T4 BJ,h])
  (fun qs=>ms.length - qs.length) [] ⟨Z,Z,Z,Z,Z,trivial⟩ ⟨Z,List.nodup_nil,List.nil_subset _,none,0,emp,AQ.nil,Z⟩ ?_
 rintro qs ρ d' L' ⟨hdd,hn,hsub,qa,qc,h,hrow,hL⟩;subst hdd;subst hL;have hqn:(CC qs).length=qs.length:=Fp qs;have hml:ms.length≤1000000:=by
  have h1:=(FA ks l ks.length).2;have h2:=(Ahc (by rw[←hmsd];exact Nz ks _) (Kp (DW.1 hmap.1).2)).2 (fun k=>(hmap.2.1 k).symm);have h3:=h2.length_eq;rw[Fp] at h3;omega
 refine Aj<|Aa8 Ag Gc 0 Z 2 Z Z hlt (fun h0 e=>h0 (by subst e;rw[List.eq_nil_of_subset_nil hsub];rfl)) (fun p hp hq=>?_) (fun hall2=>?_)
 ·have hpq:p∉qs:=fun e=>hq (Aey e);have hql:=ZI hn hsub hp hpq;have hpl:p.1.length≤140737488355328:=hkl _ (hmk _ (Aey hp));refine CH Z Z<|Cr<|Ci Z<|Ay<|Am<|Aj<|Abh Ag Gc 0 Z 2 Z Z hp hbn<|CH Z Z<|Ak Z<|Av<|Ar<|Ae Z<|Al Z (An 1 Z Z)<|Ak Z<|Ff (v0:=Ag p.1) Z Z (fun b58 T58=>?_);refine Ei (R:=A9) 4 Z Z hrow Z (AQ.G8 (R:=A9) Z ⟨Z,hpl⟩) Dt (by omega) (by simp;omega) (by simp;omega) (fun v59 h59 o59=>?_);obtain⟨qa2,qc2,rfl⟩:=o59.val;(apply Ae;rfl);refine Au 1 [vZ 6,vZ 0,vZ 0,Ag [],nV,.slice qa2 (CC qs++[p.1]).length qc2] Z Z Z Z (Aca Z) Z Z ?_;(apply Av);have e1:CC (qs++[p])=CC qs++[p.1]:=by simp[CC]
  have e2:(qs++[p]).map (·.2.2)=qs.map (·.2.2)++[p.2.2]:=by simp
  refine⟨qs++[p],by simp;omega,⟨Z,Z,Z,Z,Z,trivial⟩,Z,?_,?_,qa2,qc2,h59,by rw[e1];exact o59,by rw[e1,e2];rfl⟩
  ·rw[List.nodup_append];exact⟨hn,by simp,fun a ha b hb=>by simp at hb;subst hb;intro e;subst e;exact hpq ha⟩
  ·intro x hx;rcases List.mem_append.1 hx with hx|hx
   ·exact hsub hx
   ·rw[Ade.1 hx];exact hp
 have hperm:(CC qs).Perm (CC ms):=by
  refine((Ahc hn (Rp _ hbn)).2 fun p=>⟨fun h=>hsub h,fun hp=>?_⟩).map _;obtain⟨p2,h1,h2⟩:=Afj.1 (hall2 p hp);rw[←hbi (hsub h1) hp h2];exact h1
 clear hall2 hlt;generalize (qs.map fun x=>x.2.2)=seen;refine CH Z Z<|Cr<|A7 Z<|A6<|Aj<|Ae Z<|Al Z (An 1 Z Z)<|DT d' [h,mit q b6 ms.length seen,bx b10 T10 [vZ 6,vZ 0,vZ 0,Ag [],nV,.slice qa (CC qs).length qc],mp Ag Gc b6 ms ms.length,bx b4 T4 BJ] (Vs.pick [4,0,1,2,3] Z)<|Cg (A:=[h]) (B:=[mit q b6 ms.length seen,bx b10 T10 [vZ 6,vZ 0,vZ 0,Ag [],nV,.slice qa (CC qs).length qc],mp Ag Gc b6 ms ms.length,bx b4 T4 BJ]) Z Z (h4 hrow) (fun r d6 L6 _ ⟨hdd,hr,h',hL,hrow'⟩=>?_);subst hdd;subst hL;subst hr;have hKl:(CC qs).length=(BO ks l ks.length).1.length:=by rw[←hsort _ hperm];exact(List.mergeSort_perm _ _).length_eq.symm
 rw[hsort _ hperm,hKl] at hrow';rw[hKl];have hln:=(FA ks l ks.length).1;have hln3:=(FA ks l ks.length).2;have hmv:FE ks l=.mk 6 0 0 [] (BO ks l ks.length).2 (BO ks l ks.length).1:=Z;rw[hmv] at hmr hmd⊢;generalize BO ks l ks.length=o at*;obtain⟨oks,ol⟩:=o;simp only at hrow' hln hln3 hmr hmd hmap⊢;obtain⟨hm1,hm2,hm3⟩:=hmap;refine JI ⟨d6,[bx b10 T10 [vZ 6,vZ 0,vZ 0,Ag [],nV,.slice qa oks.length qc],mp Ag Gc b6 ms ms.length,bx b4 T4 BJ,h',emp],Vs.emp.trans ((Vs.pick [3,4,5,1,0,2] Z).trans (Vs.drop (List.sublist_append_left [bx b10 T10 [vZ 6,vZ 0,vZ 0,Ag [],nV,.slice qa oks.length qc],mp Ag Gc b6 ms ms.length,bx b4 T4 BJ,h',emp] [mit q b6 ms.length seen]))),?_⟩;have hdn:=hrow'.BW;refine Ap<|AI Z Z Z<|AK Z<|AL Z<|Am<|BP (α:=Nat) (fun i=>[(1,.slice la l.length lc),(4,pZ b4),(6,.map (some b6)),(10,pZ b10),(65,.slice qa oks.length qc),(66,vZ oks.length),(67,vZ i)])
  (fun i d3 L'=>d3=d6∧i≤ol.length∧∃ra rc hl ccs hs,B5 6 (.slice ra i rc) i ccs hl∧hs.length=i∧(∀j (hj:j<ol.length),j<i→Ds (chunk ccs j 6) ol[j] (hs.getD j emp))∧
   L'=bx b10 T10 [vZ 6,vZ 0,vZ 0,Ag [],.slice ra i rc,.slice qa oks.length qc]::mp Ag Gc b6 ms ms.length::bx b4 T4 BJ::h'::hl::hs)
  (fun i=>ol.length - i) 0 ⟨Z,Z,Z,Z,Z,Z,Z,trivial⟩ ⟨Z,Acu _,none,0,emp,[],[],B5.nil 6,Z,fun j _ h=>absurd h (Aec j),Z⟩ ?_
 rintro i ρ d3 L' ⟨hdd,hi,ra,rc,hrw,ccs,hs,horow,hhs,hel,hL⟩;subst hdd;subst hL;by_cases hc:i<ol.length
 ·have hco:i<oks.length:=by omega
  obtain⟨z,hz⟩:=Option.isSome_iff_exists.1 ((get_some oks[i] ms).2 ((hm2 _).1 (Acq hco)));obtain⟨hz0,hz1⟩:=hgb hz;obtain⟨n,rfl⟩:∃n:Nat,z=n:=⟨z.toNat,by omega⟩
  have hnl:n<l.length:=by omega
  have hln2:l[n]=ol[i]:=by
   simp only[hm3,Agq,plK,hz,Option.getD_some,Adc];simp[Aez,hnl]
  have hoi:(oks.length:Int)=ol.length:=by omega
  obtain⟨b5,T5,l5,c5,e5,rfl,hu5⟩:=Vt hrow' hco;cases e5;refine Aj<|As Z Z<|Cr<|Bn Z<|Ay<|Ax<|Am<|Aj<|AaF i Z Z Z hco<|Abk 3 Z Z hu5<|Ak Z<|Av<|BS [bx b10 T10 [vZ 6,vZ 0,vZ 0,Ag [],.slice ra i rc,.slice (some ⟨b5,0,none⟩) oks.length qc],mp Ag Gc b6 ms ms.length,bx b4 T4 BJ,bx b5 T5 l5] (hrw::hs) Z<|AI Z Z Z<|AR Z<|B3<|Ak Z<|Abn (vE:=Gc) V8 1 Z Z Z hz ?_;(refine A2 (sz:=6) (R:=Az) (by rfl) (by assumption) (by rfl) Z (by omega) ?_;rintro _ _ _ _ _ _;apply CT;rfl;assumption;assumption);rename_i csx hcsx hDx hRx;refine Bi Z (h5 _ hRx (by have:=hcnt _ (Acq hnl);omega)) (fun r d4 L4 _ ⟨hdd,cs',g,hr,hL,ho⟩=>?_);subst hdd;subst hr;subst hL;obtain⟨hc6,hc1'⟩:=ho.cells;refine FC Z hc6 (fun b27 T27=>?_);refine Tt 1 Z Z horow Z (by rw[hc6]) hc1' (by omega) (by omega) (by omega) (fun v5 h5' o5=>?_);obtain⟨a5,_,c5',rfl,_⟩:=o5.slice;refine Ae Z<|B0<|DT _ (bx b10 T10 [vZ 6,vZ 0,vZ 0,Ag [],.slice ra i rc,.slice (some ⟨b5,0,none⟩) oks.length qc]::mp Ag Gc b6 ms ms.length::bx b4 T4 BJ::bx b5 T5 l5::h5'::(hs++[g]))
   (Vs.perm (List.Perm.append_left [bx b10 T10 [vZ 6,vZ 0,vZ 0,Ag [],.slice ra i rc,.slice (some ⟨b5,0,none⟩) oks.length qc],mp Ag Gc b6 ms ms.length,bx b4 T4 BJ,bx b5 T5 l5] ((Adz _ _ _).trans ((List.perm_append_singleton g hs).symm.cons _)))) ?_
  refine Au 0 [vZ 6,vZ 0,vZ 0,Ag [],.slice a5 (i+1) c5',.slice (some ⟨b5,0,none⟩) oks.length qc] Z Z Z Z (Aca Z) Z Z<|Av<|Ar<|AY Z Z<|AL Z ?_;rw[hln2] at ho;refine⟨i+1,by omega,⟨Z,Z,Z,Z,Z,Z,int_eq (by omega),trivial⟩,Z,hc,a5,c5',h5',_,hs++[g],o5,by simp[hhs],fun j hj hji=>?_,Z⟩
  have h6:ccs.length=i*6:=horow.1;by_cases e:j<i
  ·rw[EG h6 e,show(hs++[g]).getD j emp=hs.getD j emp by simp[Aez,List.getElem?_append_left (show j<hs.length by omega)]];exact hel j hj e
  ·obtain rfl:j=i:=by omega
   rw[El h6 (Ack _),Aeu,show chunk cs' 0 6=cs' by simp only[chunk,Nat.zero_mul,Agr];exact Adm (by omega),show(hs++[g]).getD j emp=g by simp[Aez,hhs]];exact ho
 obtain rfl:i=ol.length:=by omega
 have hoi:(oks.length:Int)=ol.length:=by omega
 have hrv:∀d9:Ad,Le h' d9→Le hrw d9→(∀g∈hs,Le g d9)→Az d9 [vZ 6,vZ 0,vZ 0,Ag [],.slice ra ol.length rc,.slice qa oks.length qc] (.mk 6 0 0 [] ol oks):=fun d9 k1 k2 k3=>
  Az.close (v:=.mk 6 0 0 [] ol oks) HM BY BY (by simp)
   (horow.rsl (R:=Az) k2 Z (by omega) (fun j hj=>Ds.OL (hel j hj hj) (k3 _ (by
    have e:hs.getD j emp=hs[j]'(by rw[hhs];exact hj):=by simp[Aez,show j<hs.length by rw[hhs];exact hj]
    rw[e];exact Acq _))))
   (AQ.rsl (R:=A9) hrow' CL (by omega) (d':=d9) (fun _ _ e=>e.elim) k1)
 refine Aj<|As Z Z<|Cr<|AH Z<|A6<|Ap<|AP 0 Z Z Z<|Cv Z (fun d9 hl9 hk9=>h3 (hTm ht hl9) (hrv d9 (hk9 _ (by simp)) (hk9 _ (by simp)) (fun g hg=>hk9 _ (by simp[hg])))) ?_;rw[hmr];by_cases hdp:48<Bj (.mk 6 0 0 [] ol oks)
 ·rw[if_pos hdp,if_pos hdp];refine Bt Z<|Ab Z<|AB Z Z<|AE Z<|Aj<|Bs<|Ab Z<|Au 2 BJ Z Z Z Z (Aca Z) Z Z<|AM Z<|Uz 2 Z Z Z
 ·rw[if_neg hdp,if_neg hdp];refine Bt Z<|Ab Z<|AB Z Z<|AJ Z<|Aj<|AP 0 Z Z Z<|Au 2 [vZ 6,vZ 0,vZ 0,Ag [],.slice ra ol.length rc,.slice qa oks.length qc] Z Z Z Z (Aca Z) Z Z<|AM Z<|Se (L':=h'::hrw::hs) [.agg [vZ 6,vZ 0,vZ 0,Ag [],.slice ra ol.length rc,.slice qa oks.length qc].toArray,vZ 0] ⟨Bc 2 Z Z Z,Ea Z,trivial⟩
   (Vs.drop ((((Acy _).cons _).cons _).cons _)) ⟨_,Z,_,_,h',hrw,ccs,hs,Z,hrow',horow,hhs,fun j hj=>hel j hj hj,Z⟩
end
end Go.Gk.Val
end
