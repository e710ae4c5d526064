/-
  Our own texts, one behind the other: GkO9 GkY9 GkQ0 GkQ1 GkQ2 GkQ3 GkQ4 GkQ5 GkYA GkOA Gk26 GkOB0 GkYC GkQN2 GkQN3 GkQN4 GkQN5 GkCv GkYD GkY7 GkY8 GkYE GkYG GkG4.
-/
import Derived.Test.YtoepkkjejljfbaaGreatDoorPzE
set_option linter.defProp false
set_option linter.unusedVariables false
set_option linter.unusedSimpArgs false
open Nat renaming le_of_ble_eq_true→No,le_refl→ZL,zero_le→ZN,mul_le_mul_right→ZQ,not_lt_zero→Z3,zero_add→Aac,add_mul→Aai,one_mul→Abh,eq_of_beq_eq_true→Abp,sub_self→Acg,min_eq_left→Acq
open List renaming append_assoc→Zy,take_succ_eq_append_getElem→ZA,getElem_mem→ZC,eq_nil_of_length_eq_zero→ZD,mem_cons_of_mem→ZE,all_eq_true→ZF,mem_cons_self→ZG,length_append→ZH,mem_append→ZK,take_append_drop→ZM,length_take→ZP,mem_cons→ZR,drop_eq_getElem_cons→ZT,length_cons→ZU,take_length→ZV,append_nil→ZW,nil_append→Z5,cons_append→Z6,take_of_length_le→Z7,range→Z8,mem_singleton→Z9,length_drop→Aab,drop_length→Aag,pairwise_cons→Aah,perm_append_comm→Aaj,length_singleton→Aak,length_nil→Aal,getElem?_append_left→Aaq,flatten_cons→Aaw,length_map→Aay,length_set→Abb,map_cons→Abc,not_mem_nil→Abl,getElem?_append_right→Abm,perm_append_singleton→Abn,mem_map→Abq,length→Abu,take_succ_cons→Abx,flatten_nil→Aca,sublist_append_left→Aco,drop_zero→Acv,flatten_append→Adc
open Bool renaming and_eq_true→Zz,or_eq_true→Aad
open List.Sublist renaming refl→ZS
open Option renaming bind_some→Aas,map_some→Aba
open List.Perm renaming swap→Z0,cons→Z1,append_left→Abe,refl→Abf
section
namespace Go.Gk.Val
open Go Go.Gk Go.Gk.Num
attribute [local irreducible] gwp gws
variable{P:Program}{f f1:FuncId}
def EX(P:Program)(f:FuncId):Prop:=∀{d v w}{l m:List V}{g},BL d v l→BL d w m→(∀x∈l,∀y∈m,∀cs ds,Aw d cs x→Aw d ds y→AM P g [.agg cs.toArray,.agg ds.toArray] d (vZ (BA x y)))→
 AM P f [v,w,.func (.func g) #[] #[]] d (vZ (BT BA l m))
def C5:A6:=⟨39,[(.tmp 6)],(sR (o1 6 (.mv z0) .done) (.seq (sR (om 11 0<|oL 12 11<|o1 13 (.mv z0) .done) (.block 0 (.loop (sR (ob 14 .lss 13 12 .done) (.seq (.cond 14 .skip (.exit 0)) (.seq (.block 1 (sR (om 15 13<|oI 16 6 11 13<|o1 17 (.ld (some 6) 16)<|o1 8 (.alo (.agg #[(vZ 0),(vZ 0),(vZ 0),(Al []),(.slice none 0 0),(.slice none 0 0)]))<|om 7 15<|o0 (.st 6 8 17) .done) (.seq (sR (om 18 7<|om 19 1<|oL 20 19<|ob 21 .geq 18 20 .done) (.cond 21 (sR (o1 6 (.mv z1) .done) .ret) .skip)) (sR (om 22 1<|om 23 7<|oI 24 6 22 23<|o1 25 (.ld (some 6) 24)<|o1 9 (.alo (.agg #[(vZ 0),(vZ 0),(vZ 0),(Al []),(.slice none 0 0),(.slice none 0 0)]))<|o0 (.st 6 9 25) .done) (sR (om 26 2<|o1 27 (.ld (some 6) 8)<|o1 28 (.ld (some 6) 9)<|o1 29 (.callv 26 [27,28])<|om 10 29 .done) (sR (om 30 10<|ob 31 .neq 30 z0 .done) (.cond 31 (sR (om 32 10<|om 6 32 .done) .ret) .skip))))))) (rG (ob 33 .add 13 z1<|om 13 33 .done)))))))) (.seq (sR (om 34 0<|oL 35 34<|om 36 1<|oL 37 36<|ob 38 .lss 35 37 .done) (.cond 38 (sR (o1 6 (.mv (kZ (-1))) .done) .ret) .skip)) (sR (o1 6 (.mv z0) .done) .ret))))⟩
set_option maxHeartbeats 1000000 in
def RE(hd:dec P f=some C5):EX P f:=by
 intro d v w a b g hv hw hg;have n1:=RSl.Be hv;have n2:=RSl.Be hw;obtain⟨pa,ca,rfl⟩:=RSl.val hv;obtain⟨pb,cb,rfl⟩:=RSl.val hw;have hv':RSl 6 Aw d (.slice pa a.length ca) a:=hv;have hw':RSl 6 Aw d (.slice pb b.length cb) b:=hw;refine AM.of' hd (No rfl) ?_;show gwp P _ _ _ _ _;(refine Ac<|Ab rfl<|Aa<|Ai<|Ac<|As rfl<|AA rfl<|Ab rfl<|Aa<|Av ?_);refine Bg (α:=Nat) (fun i=>[(0,.slice pa a.length ca),(1,.slice pb b.length cb),(2,.func (.func g) #[] #[]),(11,.slice pa a.length ca),(12,vZ a.length),(13,vZ i)]) (fun i d' L'=>d'=d∧i≤a.length∧i≤b.length∧BT BA a b=BT BA (a.drop i) (b.drop i)) (fun i=>a.length - i) 0 ⟨rfl,rfl,rfl,rfl,rfl,rfl,trivial⟩ ⟨rfl,ZN _,ZN _,rfl⟩ ?_;rintro i ρ d' L' ⟨hdd,hi,hj,heq⟩;subst hdd;have hv2:RSl 6 Aw d' (.slice pa a.length ca) a:=hv';have hw2:RSl 6 Aw d' (.slice pb b.length cb) b:=hw';by_cases hc:i<a.length
 ·by_cases hcb:i<b.length
  ·rw[H6 hc hcb] at heq;(refine Ac<|Ax rfl rfl<|Aa<|Ai<|Au rfl (by omega)<|Am<|Ai<|Av<|Ac<|Ab rfl<|AJ (sz:=6) (R:=Aw) (by rfl) (by assumption) (by rfl) rfl (by omega) ?_;rintro _ _ _ _ _ _;refine BE rfl (by assumption) (by assumption)<|AX (fun _ _=>Ab rfl ?_));rename_i cs hcs hD hR b8 T8;obtain⟨c0,c1,c2,c3,c4,c5,rfl⟩:=six hcs;refine Az 0 [c0,c1,c2,c3,c4,c5] rfl rfl rfl rfl (No rfl) (AH _ _ _ hR) rfl ?_;(refine Aa<|Ai<|Ac<|Ab rfl<|As rfl<|AA rfl<|B5 rfl rfl<|Aa<|Ao rfl (by omega)<|Am<|Ac<|As rfl<|Ab rfl<|AJ (sz:=6) (R:=Aw) (by rfl) (by assumption) (by rfl) rfl (by omega) ?_;rintro _ _ _ _ _ _;refine BE rfl (by assumption) (by assumption)<|AX (fun _ _=>?_));rename_i ds hds hD2 hR2 b9 T9;obtain⟨e0,e1,e2,e3,e4,e5,rfl⟩:=six hds;refine Az 0 [e0,e1,e2,e3,e4,e5] rfl rfl rfl rfl (No rfl) (AH _ _ _ hR2) rfl ?_;(refine Aa<|Ac<|CV rfl<|AD 1 rfl rfl rfl<|AD 0 rfl rfl rfl ?_);refine Ea (vs:=[.agg [c0,c1,c2,c3,c4,c5].toArray,.agg [e0,e1,e2,e3,e4,e5].toArray]) rfl rfl (hg _ (ZC hc) _ (ZC hcb) _ _ hR hR2) ?_;by_cases hz:BA a[i] b[i]=0
   ·rw[hz,DS] at heq;(refine Ab rfl<|Aa<|Ac<|Ab rfl<|AG rfl rfl<|Aa<|Ao rfl (by omega)<|Am<|Ay<|AI rfl rfl (by omega) (by omega)<|Ab rfl<|Aa ?_);exact⟨i+1,by omega,⟨rfl,rfl,rfl,rfl,rfl,int_eq (by omega),trivial⟩,rfl,hc,hcb,heq⟩
   ·rw[D7 hz] at heq;(refine Ab rfl<|Aa<|Ac<|Ab rfl<|AG rfl rfl<|Aa<|Au rfl (by omega)<|Ac<|Ab rfl<|Ab rfl<|Aa<|Ar ?_);exact BI (int_eq heq.symm)
  ·have hend:=Ff (f:=BA) i a b hi hj (.inr (by omega));rw[CT (by omega)] at hend;(refine Ac<|Ax rfl rfl<|Aa<|Ai<|Au rfl (by omega)<|Am<|Ai<|Av<|Ac<|Ab rfl<|AJ (sz:=6) (R:=Aw) (by rfl) (by assumption) (by rfl) rfl (by omega) ?_;rintro _ _ _ _ _ _;refine BE rfl (by assumption) (by assumption)<|AX (fun _ _=>Ab rfl ?_));rename_i cs hcs hD hR b8 T8;obtain⟨c0,c1,c2,c3,c4,c5,rfl⟩:=six hcs;refine Az 0 [c0,c1,c2,c3,c4,c5] rfl rfl rfl rfl (No rfl) (AH _ _ _ hR) rfl ?_;(refine Aa<|Ai<|Ac<|Ab rfl<|As rfl<|AA rfl<|B5 rfl rfl<|Aa<|Au rfl (by omega)<|Ac<|Ab rfl<|Aa<|Ar ?_);exact BI (int_eq (by rw[heq,hend]))
 ·have hend:=Ff (f:=BA) i a b hi hj (.inl (by omega));by_cases hcb:(a.length:Int)<b.length
  ·rw[C1 hcb] at hend;(refine Ac<|Ax rfl rfl<|Aa<|Ai<|Ao rfl (by omega)<|AV<|Ai<|Ac<|As rfl<|AA rfl<|As rfl<|AA rfl<|Ax rfl rfl<|Aa<|Au rfl (by omega)<|Ac<|Ab rfl<|Aa<|Ar ?_);exact BI (int_eq (by rw[heq,hend]))
  ·rw[Dg (by omega)] at hend;(refine Ac<|Ax rfl rfl<|Aa<|Ai<|Ao rfl (by omega)<|AV<|Ai<|Ac<|As rfl<|AA rfl<|As rfl<|AA rfl<|Ax rfl rfl<|Aa<|Ao rfl (by omega)<|Am<|Ac<|Ab rfl<|Aa<|Ar ?_);exact BI (int_eq (by rw[heq,hend]))
def Fl(P:Program)(f:FuncId):Prop:=∀{d v w l m g},BK d v l→BK d w m→E7 P g→
 AM P f [v,w,.func (.func g) #[] #[]] d (vZ (BT C4 l m))
def DV:A6:=⟨39,[(.tmp 6)],(sR (o1 6 (.mv z0) .done) (.seq (sR (om 11 0<|oL 12 11<|o1 13 (.mv z0) .done) (.block 0 (.loop (sR (ob 14 .lss 13 12 .done) (.seq (.cond 14 .skip (.exit 0)) (.seq (.block 1 (sR (om 15 13<|oI 16 1 11 13<|ol 17 16<|om 7 15<|om 8 17 .done) (.seq (sR (om 18 7<|om 19 1<|oL 20 19<|ob 21 .geq 18 20 .done) (.cond 21 (sR (o1 6 (.mv z1) .done) .ret) .skip)) (sR (om 22 1<|om 23 7<|oI 24 1 22 23<|ol 25 24<|om 9 25 .done) (sR (om 26 2<|om 27 8<|om 28 9<|o1 29 (.callv 26 [27,28])<|om 10 29 .done) (sR (om 30 10<|ob 31 .neq 30 z0 .done) (.cond 31 (sR (om 32 10<|om 6 32 .done) .ret) .skip))))))) (rG (ob 33 .add 13 z1<|om 13 33 .done)))))))) (.seq (sR (om 34 0<|oL 35 34<|om 36 1<|oL 37 36<|ob 38 .lss 35 37 .done) (.cond 38 (sR (o1 6 (.mv (kZ (-1))) .done) .ret) .skip)) (sR (o1 6 (.mv z0) .done) .ret))))⟩
set_option maxHeartbeats 1000000 in
def RR(hd:dec P f=some DV):Fl P f:=by
 intro d v w a b g hv hw hg;have n1:=RSl.Be hv;have n2:=RSl.Be hw;obtain⟨pa,ca,rfl⟩:=RSl.val hv;obtain⟨pb,cb,rfl⟩:=RSl.val hw;have hv':RSl 1 A2 d (.slice pa a.length ca) a:=hv;have hw':RSl 1 A2 d (.slice pb b.length cb) b:=hw;refine AM.of' hd (No rfl) ?_;show gwp P _ _ _ _ _;(refine Ac<|Ab rfl<|Aa<|Ai<|Ac<|As rfl<|AA rfl<|Ab rfl<|Aa<|Av ?_);refine Bg (α:=Nat) (fun i=>[(0,.slice pa a.length ca),(1,.slice pb b.length cb),(2,.func (.func g) #[] #[]),(11,.slice pa a.length ca),(12,vZ a.length),(13,vZ i)]) (fun i d' L'=>d'=d∧i≤a.length∧i≤b.length∧BT C4 a b=BT C4 (a.drop i) (b.drop i)) (fun i=>a.length - i) 0 ⟨rfl,rfl,rfl,rfl,rfl,rfl,trivial⟩ ⟨rfl,ZN _,ZN _,rfl⟩ ?_;rintro i ρ d' L' ⟨hdd,hi,hj,heq⟩;subst hdd;have hv2:RSl 1 A2 d' (.slice pa a.length ca) a:=hv';have hw2:RSl 1 A2 d' (.slice pb b.length cb) b:=hw';by_cases hc:i<a.length
 ·by_cases hcb:i<b.length
  ·rw[H6 hc hcb] at heq;(refine Ac<|Ax rfl rfl<|Aa<|Ai<|Au rfl (by omega)<|Am<|Ai<|Av<|Ac<|Ab rfl<|AJ (sz:=1) (R:=A2) (by rfl) (by assumption) (by rfl) rfl (by omega) ?_;rintro _ _ _ _ _ ⟨rfl,_⟩;refine Ah rfl (A1 (by assumption) rfl)<|Ab rfl<|Bk rfl<|Aa<|Ai<|Ac<|Ab rfl<|As rfl<|AA rfl<|B5 rfl rfl<|Aa<|Ao rfl (by omega)<|Am<|Ac<|As rfl<|Ab rfl<|AJ (sz:=1) (R:=A2) (by rfl) (by assumption) (by rfl) rfl (by omega) ?_;rintro _ _ _ _ _ ⟨rfl,_⟩;refine Ah rfl (A1 (by assumption) rfl)<|Bk rfl<|Aa<|Ac<|CV rfl<|Bk rfl<|Bk rfl ?_);refine Ea (vs:=[Al a[i],Al b[i]]) rfl rfl hg ?_;by_cases hz:C4 a[i] b[i]=0
   ·rw[hz,DS] at heq;have hz':Lib.compareBytes a[i] b[i]=0:=hz;(refine Ab rfl<|Aa<|Ac<|Ab rfl<|AG rfl rfl<|Aa<|Ao rfl (by omega)<|Am<|Ay<|AI rfl rfl (by omega) (by omega)<|Ab rfl<|Aa ?_);exact⟨i+1,by omega,⟨rfl,rfl,rfl,rfl,rfl,int_eq (by omega),trivial⟩,rfl,hc,hcb,heq⟩
   ·rw[D7 hz] at heq;have hz':¬Lib.compareBytes a[i] b[i]=0:=hz;(refine Ab rfl<|Aa<|Ac<|Ab rfl<|AG rfl rfl<|Aa<|Au rfl (by omega)<|Ac<|Ab rfl<|Ab rfl<|Aa<|Ar ?_);exact BI (int_eq heq.symm)
  ·have hend:=Ff (f:=C4) i a b hi hj (.inr (by omega));rw[CT (by omega)] at hend;(refine Ac<|Ax rfl rfl<|Aa<|Ai<|Au rfl (by omega)<|Am<|Ai<|Av<|Ac<|Ab rfl<|AJ (sz:=1) (R:=A2) (by rfl) (by assumption) (by rfl) rfl (by omega) ?_;rintro _ _ _ _ _ ⟨rfl,_⟩;refine Ah rfl (A1 (by assumption) rfl)<|Ab rfl<|Bk rfl<|Aa<|Ai<|Ac<|Ab rfl<|As rfl<|AA rfl<|B5 rfl rfl<|Aa<|Au rfl (by omega)<|Ac<|Ab rfl<|Aa<|Ar ?_);exact BI (int_eq (by rw[heq,hend]))
 ·have hend:=Ff (f:=C4) i a b hi hj (.inl (by omega));by_cases hcb:(a.length:Int)<b.length
  ·rw[C1 hcb] at hend;(refine Ac<|Ax rfl rfl<|Aa<|Ai<|Ao rfl (by omega)<|AV<|Ai<|Ac<|As rfl<|AA rfl<|As rfl<|AA rfl<|Ax rfl rfl<|Aa<|Au rfl (by omega)<|Ac<|Ab rfl<|Aa<|Ar ?_);exact BI (int_eq (by rw[heq,hend]))
  ·rw[Dg (by omega)] at hend;(refine Ac<|Ax rfl rfl<|Aa<|Ai<|Ao rfl (by omega)<|AV<|Ai<|Ac<|As rfl<|AA rfl<|As rfl<|AA rfl<|Ax rfl rfl<|Aa<|Ao rfl (by omega)<|Am<|Ac<|Ab rfl<|Aa<|Ar ?_);exact BI (int_eq (by rw[heq,hend]))
def IE(a0:Nat):A6:=⟨11,[(.tmp 6)],(sR (o1 6 (.mv z0) .done) (sR (om 7 0<|om 8 1<|om 9 2<|oc 10 a0 [7,8,9]<|om 6 10 .done) .ret))⟩
def V1(hd:dec P f=some (IE f1))(h1:EX P f1):EX P f:=by
 intro d v w a b g hv hw hg;obtain⟨pa,ca,rfl⟩:=RSl.val hv;obtain⟨pb,cb,rfl⟩:=RSl.val hw;refine AM.of' hd (No rfl) ?_;show gwp P _ _ _ _ _;(refine Ac<|Ab rfl<|Aa<|Ac<|As rfl<|As rfl<|CV rfl ?_);refine AF rfl (h1 hv hw hg) ?_;(refine Ab rfl<|Aa<|Ar ?_);exact BI rfl
def J1(a0:Nat):A6:=⟨11,[(.tmp 6)],(sR (o1 6 (.mv z0) .done) (sR (om 7 0<|om 8 1<|om 9 2<|oc 10 a0 [7,8,9]<|om 6 10 .done) .ret))⟩
def Ww(hd:dec P f=some (J1 f1))(h1:Fl P f1):Fl P f:=by
 intro d v w a b g hv hw hg;obtain⟨pa,ca,rfl⟩:=RSl.val hv;obtain⟨pb,cb,rfl⟩:=RSl.val hw;refine AM.of' hd (No rfl) ?_;show gwp P _ _ _ _ _;(refine Ac<|Ab rfl<|Aa<|Ac<|As rfl<|As rfl<|CV rfl ?_);refine AF rfl (h1 hv hw hg) ?_;(refine Ab rfl<|Aa<|Ar ?_);exact BI rfl
def IW(T:Ag→Prop)(P:Program)(f:FuncId):Prop:=∀(a b:V) {d cs ds},T d→Aw d cs a→Aw d ds b→BH a=true→BH b=true→AM P f [.agg cs.toArray,.agg ds.toArray] d (vZ (BA a b))
def Nb(a0 a1 a2 a3 a4 a5:Nat):A6:=⟨53,[(.tmp 4)],(sR (o1 2 (.box 0)<|o1 3 (.box 1)<|o1 4 (.mv z0) .done) (.seq (sR (oj 8 0 2<|ol 9 8<|oj 10 0 3<|ol 11 10<|ob 12 .neq 9 11 .done) (.cond 12 (sR (oj 13 0 2<|ol 14 13<|oj 15 0 3<|ol 16 15<|oc 17 a0 [14,16]<|om 4 17 .done) .ret) .skip)) (.seq (sR (oj 18 0 2<|ol 19 18 .done) (.block 0 (sR (ob 21 .eql 19 (kZ 3)<|om 20 21 .done) (.cond 20 (sR (oj 23 1 2<|o1 24 (.ld (some 2) 23)<|oj 25 1 3<|o1 26 (.ld (some 2) 25)<|oc 27 a1 [24,26]<|om 22 27<|oe 28 22 0<|oe 29 22 1<|om 5 28<|om 6 29 .done) (sR (om 30 5<|om 4 30 .done) .ret)) (sR (ob 32 .eql 19 (kZ 4)<|om 31 32 .done) (.cond 31 (sR (oj 33 3 2<|ol 34 33<|oj 35 3 3<|ol 36 35<|oc 37 a2 [34,36]<|om 4 37 .done) .ret) (sR (ob 39 .eql 19 (kZ 6)<|om 38 39 .done) (.cond 38 (sR (oj 40 5 2<|ol 41 40<|oj 42 5 3<|ol 43 42<|oc 44 a3 [41,43,(.func a2)]<|om 7 44 .done) (sR (om 45 7<|ob 46 .neq 45 z0 .done) (.cond 46 (sR (om 47 7<|om 4 47 .done) .ret) .skip))) .skip)))))))) (sR (oj 48 4 2<|ol 49 48<|oj 50 4 3<|ol 51 50<|oc 52 a4 [49,51,(.func a5)]<|om 4 52 .done) .ret))))⟩
set_option maxHeartbeats 1000000 in
def Rz{T:Ag→Prop}{f2 f3 f4 f5}(hd:dec P f=some (Nb f1 f2 f3 f4 f5 f))(h1:Gg P f1)(h2:FO T P f2)(h3:E7 P f3)(h4:Fl P f4)(h5:EX P f5):IW T P f:=by
 intro a;induction a using V.ind with
 |h a ih=>
 intro b d cs ds ht ha hb ma mb;refine AM.of' hd (No rfl) ?_;obtain⟨x1,x2,x3,x4,x5,x6⟩:=Gs ma;obtain⟨y1,y2,y3,y4,y5,y6⟩:=Gs mb;have hE:=E0 a b;obtain⟨lv,kv,rfl,ik,im,ie,it,hl,hks⟩:=ha.open;obtain⟨lv',kv',rfl,ik',im',ie',it',hl',hks'⟩:=hb.open;obtain⟨la,lc,rfl⟩:=RSl.val hl;obtain⟨ka,kc,rfl⟩:=RSl.val hks;obtain⟨la',lc',rfl⟩:=RSl.val hl';obtain⟨ka',kc',rfl⟩:=RSl.val hks';have hih:∀x∈a.list,∀y∈b.list,∀cs ds,Aw d cs x→Aw d ds y→AM P f [.agg cs.toArray,.agg ds.toArray] d (vZ (BA x y)):=fun x hx y hy cs ds hcx hcy=>ih x hx y ht hcx hcy (CR ma hx) (CR mb hy);show gwp P _ _ _ _ _;apply Ai;apply Ay;refine AO (l:=[vZ a.kind,vZ a.m,vZ a.e,Al a.text,.slice la a.list.length lc,.slice ka a.keys.length kc]) rfl (fun b2 T2=>?_);refine AO (l:=[vZ b.kind,vZ b.m,vZ b.e,Al b.text,.slice la' b.list.length lc',.slice ka' b.keys.length kc']) rfl (fun b3 T3=>?_);by_cases p1:a.kind=b.kind
 ·rw[p1,Dg rfl,DS] at hE;by_cases p3:b.kind=3
  ·rw[if_pos p3,y3.resolve_left (by omega),x3.resolve_left (by omega),y5.resolve_left (by omega),x5.resolve_left (by omega),y4.resolve_left (by omega),x4.resolve_left (by omega)] at hE;have hE:BA a b=Cn a.m a.e b.m b.e:=by rw[hE];exact W5 _
   have hn:Dw a.m a.e b.m b.e=(BA a b,0):=by rw[hE,Dw,x6,y6];rfl
   (refine Ab rfl<|Aa<|Ai<|Ac<|Af rfl<|Ah rfl (Aj 1 rfl rfl)<|Af rfl<|Ah rfl (Aj 0 rfl rfl)<|AG rfl rfl<|Aa<|Ao rfl (by omega)<|Am<|Ai<|Ac<|Af rfl<|Ah rfl (Aj 1 rfl rfl)<|Aa<|Av<|Ac<|Aq rfl rfl<|Ad rfl<|Aa<|Au rfl (by omega)<|Ac<|Af rfl<|BJ 1 rfl rfl rfl<|Af rfl<|BJ 0 rfl rfl rfl ?_);refine AF rfl (h2 ht im ie im' ie') ?_;rw[hn];(refine Bj rfl<|AL rfl rfl<|AL rfl rfl<|Ab rfl<|Ab rfl<|Aa<|Ac<|Ab rfl<|Ab rfl<|Aa<|Ar ?_);exact BI rfl
  rw[if_neg p3,DS] at hE;by_cases p4:b.kind=4
  ·rw[y5.resolve_left (by omega),x5.resolve_left (by omega),y4.resolve_left (by omega),x4.resolve_left (by omega)] at hE;have hE:BA a b=C4 a.text b.text:=by rw[hE];exact W5 _
   (refine Ab rfl<|Aa<|Ai<|Ac<|Af rfl<|Ah rfl (Aj 1 rfl rfl)<|Af rfl<|Ah rfl (Aj 0 rfl rfl)<|AG rfl rfl<|Aa<|Ao rfl (by omega)<|Am<|Ai<|Ac<|Af rfl<|Ah rfl (Aj 1 rfl rfl)<|Aa<|Av<|Ac<|Aq rfl rfl<|Ad rfl<|Aa<|Ao rfl (by omega)<|Ac<|Aq rfl rfl<|Ad rfl<|Aa<|Au rfl (by omega)<|Ac<|Af rfl<|Ah rfl (Aj 1 rfl rfl)<|Af rfl<|Ah rfl (Aj 0 rfl rfl) ?_);refine AF rfl h3 ?_;(refine Ab rfl<|Aa<|Ar ?_);exact BI (int_eq hE.symm)
  rw[y3.resolve_left (by omega),x3.resolve_left (by omega),show C4 [] []=0 from rfl,DS] at hE;by_cases p6:b.kind=6
  ·(refine Ab rfl<|Aa<|Ai<|Ac<|Af rfl<|Ah rfl (Aj 1 rfl rfl)<|Af rfl<|Ah rfl (Aj 0 rfl rfl)<|AG rfl rfl<|Aa<|Ao rfl (by omega)<|Am<|Ai<|Ac<|Af rfl<|Ah rfl (Aj 1 rfl rfl)<|Aa<|Av<|Ac<|Aq rfl rfl<|Ad rfl<|Aa<|Ao rfl (by omega)<|Ac<|Aq rfl rfl<|Ad rfl<|Aa<|Ao rfl (by omega)<|Ac<|Aq rfl rfl<|Ad rfl<|Aa<|Au rfl (by omega)<|Ac<|Af rfl<|Ah rfl (Aj 1 rfl rfl)<|Af rfl<|Ah rfl (Aj 0 rfl rfl) ?_);refine AF rfl (h4 hks hks' h3) ?_;by_cases hz:BT C4 a.keys b.keys=0
   ·rw[hz,DS] at hE;(refine Ab rfl<|Aa<|Ac<|Ab rfl<|AG rfl rfl<|Aa<|Ao rfl (by omega)<|Am<|Ac<|Af rfl<|Ah rfl (Aj 1 rfl rfl)<|Af rfl<|Ah rfl (Aj 0 rfl rfl) ?_);refine AF rfl (h5 hl hl' hih) ?_;(refine Ab rfl<|Aa<|Ar ?_);exact BI (int_eq hE.symm)
   ·rw[D7 hz] at hE;(refine Ab rfl<|Aa<|Ac<|Ab rfl<|AG rfl rfl<|Aa<|Au rfl (by omega)<|Ac<|Ab rfl<|Ab rfl<|Aa<|Ar ?_);exact BI (int_eq hE.symm)
  ·rw[y5.resolve_left (by omega),x5.resolve_left (by omega),WI,DS] at hE;(refine Ab rfl<|Aa<|Ai<|Ac<|Af rfl<|Ah rfl (Aj 1 rfl rfl)<|Af rfl<|Ah rfl (Aj 0 rfl rfl)<|AG rfl rfl<|Aa<|Ao rfl (by omega)<|Am<|Ai<|Ac<|Af rfl<|Ah rfl (Aj 1 rfl rfl)<|Aa<|Av<|Ac<|Aq rfl rfl<|Ad rfl<|Aa<|Ao rfl (by omega)<|Ac<|Aq rfl rfl<|Ad rfl<|Aa<|Ao rfl (by omega)<|Ac<|Aq rfl rfl<|Ad rfl<|Aa<|Ao rfl (by omega)<|Am<|Ac<|Af rfl<|Ah rfl (Aj 1 rfl rfl)<|Af rfl<|Ah rfl (Aj 0 rfl rfl) ?_);refine AF rfl (h5 hl hl' hih) ?_;(refine Ab rfl<|Aa<|Ar ?_);exact BI (int_eq hE.symm)
 ·have hz:BQ a.kind b.kind≠0:=fun q=>p1 (Ei.1 q);rw[D7 hz] at hE;(refine Ab rfl<|Aa<|Ai<|Ac<|Af rfl<|Ah rfl (Aj 1 rfl rfl)<|Af rfl<|Ah rfl (Aj 0 rfl rfl)<|AG rfl rfl<|Aa<|Au rfl (by omega)<|Ac<|Af rfl<|Ah rfl (Aj 1 rfl rfl)<|Af rfl<|Ah rfl (Aj 0 rfl rfl) ?_);refine AF rfl h1 ?_;(refine Ab rfl<|Aa<|Ar ?_);exact BI (int_eq hE.symm)
def HP(a b:V):Int×Int:=if AS a≠0 then(0,AS a) else if AS b≠0 then(0,AS b) else(BA a b,0)
def Mt(T:Ag→Prop)(P:Program)(f:FuncId):Prop:=∀(a b:V) {d cs ds},T d→Aw d cs a→Aw d ds b→Bc a≤1000000000→Bc b≤1000000000→AM P f [.agg cs.toArray,.agg ds.toArray] d (.tuple #[vZ (HP a b).1,vZ (HP a b).2])
def LQ(v:V):AS v=0∨AS v=30∨AS v=31:=by rw[AS];split<;>(try split)<;>simp
def RH(a0 a1:Nat):A6:=⟨21,[(.tmp 4),(.tmp 5)],(sR (o1 2 (.box 0)<|o1 3 (.box 1)<|o1 4 (.mv z0)<|o1 5 (.mv z0) .done) (.seq (sR (o1 8 (.ld (some 6) 2)<|oc 9 a0 [8]<|om 6 9 .done) (sR (om 10 6<|ob 11 .neq 10 z0 .done) (.cond 11 (sR (om 12 6<|o1 4 (.mv z0)<|om 5 12 .done) .ret) .skip))) (.seq (sR (o1 13 (.ld (some 6) 3)<|oc 14 a0 [13]<|om 7 14 .done) (sR (om 15 7<|ob 16 .neq 15 z0 .done) (.cond 16 (sR (om 17 7<|o1 4 (.mv z0)<|om 5 17 .done) .ret) .skip))) (sR (o1 18 (.ld (some 6) 2)<|o1 19 (.ld (some 6) 3)<|oc 20 a1 [18,19]<|om 4 20<|o1 5 (.mv z0) .done) .ret))))⟩
set_option maxHeartbeats 1000000 in
def X7{T:Ag→Prop}{f2}(hd:dec P f=some (RH f1 f2))(h1:Fq T P f1)(h2:IW T P f2):Mt T P f:=by
 intro a b d cs ds ht ha hb _ _;refine AM.of' hd (No rfl) ?_;obtain⟨c0,c1,c2,c3,c4,c5,rfl⟩:=six ha.len;obtain⟨e0,e1,e2,e3,e4,e5,rfl⟩:=six hb.len;have qa:=LQ a;have qb:=LQ b;show gwp P _ _ _ _ _;apply Ai;apply Ay;refine AO (l:=[c0,c1,c2,c3,c4,c5]) rfl (fun b2 T2=>?_);refine AO (l:=[e0,e1,e2,e3,e4,e5]) rfl (fun b3 T3=>?_);by_cases p1:AS a=0
 ·by_cases p2:AS b=0
  ·rw[HP,if_neg (by omega),if_neg (by omega)];(refine Ab rfl<|Ab rfl<|Aa<|Ai<|Ac<|AD 1 rfl rfl rfl ?_);refine AF rfl (h1 ht ha) ?_;(refine Ab rfl<|Aa<|Ac<|Ab rfl<|AG rfl rfl<|Aa<|Ao rfl (by omega)<|Am<|Ai<|Ac<|AD 0 rfl rfl rfl ?_);refine AF rfl (h1 ht hb) ?_;(refine Ab rfl<|Aa<|Ac<|Ab rfl<|AG rfl rfl<|Aa<|Ao rfl (by omega)<|Am<|Ac<|AD 1 rfl rfl rfl<|AD 0 rfl rfl rfl ?_);refine AF rfl (h2 a b ht ha hb (CE.1 p1).1 (CE.1 p2).1) ?_;(refine Ab rfl<|Ab rfl<|Aa<|Ar ?_);exact BS rfl rfl
  ·rw[HP,if_neg (by omega),if_pos p2];(refine Ab rfl<|Ab rfl<|Aa<|Ai<|Ac<|AD 1 rfl rfl rfl ?_);refine AF rfl (h1 ht ha) ?_;(refine Ab rfl<|Aa<|Ac<|Ab rfl<|AG rfl rfl<|Aa<|Ao rfl (by omega)<|Am<|Ai<|Ac<|AD 0 rfl rfl rfl ?_);refine AF rfl (h1 ht hb) ?_;(refine Ab rfl<|Aa<|Ac<|Ab rfl<|AG rfl rfl<|Aa<|Au rfl (by omega)<|Ac<|Ab rfl<|Ab rfl<|Ab rfl<|Aa<|Ar ?_);exact BS rfl rfl
 ·rw[HP,if_pos p1];(refine Ab rfl<|Ab rfl<|Aa<|Ai<|Ac<|AD 1 rfl rfl rfl ?_);refine AF rfl (h1 ht ha) ?_;(refine Ab rfl<|Aa<|Ac<|Ab rfl<|AG rfl rfl<|Aa<|Au rfl (by omega)<|Ac<|Ab rfl<|Ab rfl<|Ab rfl<|Aa<|Ar ?_);exact BS rfl rfl
end Go.Gk.Val
end
section
namespace Go.Gk.Val
open Go Go.Gk Go.Gk.Utf Go.Gk.Num
attribute [local irreducible] gwp gws
variable{f1:FuncId}
def He{v:V}(h:BH v=true)(h3:v.kind=3):v.text=[]∧v.keys=[]∧v.list=[]∧Br v.m v.e=true:=by
 have h1:=Gq h;simp only[BW,Cf,Zz,Aad,decide_eq_true_eq] at h1;obtain⟨⟨⟨⟨⟨⟨⟨⟨_,_⟩,a⟩,b⟩,c⟩,n⟩,_⟩,_⟩,_⟩:=h1;exact⟨by rcases a with q|q;exact absurd q (by omega);exact q,by rcases c with q|q;exact absurd q (by omega);exact q,by rcases b with q|q;exact absurd q (by omega);exact q,n⟩
def Vc{x y:V}(hx:BH x=true)(hy:BH y=true)(kx:x.kind=3)(ky:y.kind=3):BA x y=Cn x.m x.e y.m y.e:=by
 obtain⟨x1,x2,x3,_⟩:=He hx kx;obtain⟨y1,y2,y3,_⟩:=He hy ky;rw[E0,x1,x2,x3,y1,y2,y3,kx,ky,if_pos rfl];have h0:BQ 3 3=0:=by decide
 have h1:C4 [] []=0:=by decide
 rw[h0,h1];simp[thn,BT];exact fun h=>h.symm
def NU(T:Ag→Prop)(P:Program)(f:FuncId):Prop:=∀{d cs ds}{x y:V},T d→Aw d cs x→Aw d ds y→AS x=0→AS y=0→AM P f [.agg cs.toArray,.agg ds.toArray] d (vZ (BA x y))
def KF(a0 a1:Nat):A6:=⟨33,[(.tmp 4)],(sR (o1 2 (.box 0)<|o1 3 (.box 1)<|o1 4 (.mv z0) .done) (.seq (sR (oj 9 0 2<|ol 10 9<|ob 11 .eql 10 (kZ 3)<|om 12 11<|oT 13 12 (.fld 0 3)<|oT 14 12 (.ld none 13)<|oT 15 12 (.bin .eql 14 (kZ 3))<|gP 16 12 15 .done) (.cond 16 (sR (oj 18 1 2<|o1 19 (.ld (some 2) 18)<|oj 20 1 3<|o1 21 (.ld (some 2) 20)<|oc 22 a0 [19,21]<|om 17 22<|oe 23 17 0<|oe 24 17 1<|om 5 23<|om 6 24 .done) (sR (om 25 5<|om 4 25 .done) .ret)) .skip)) (sR (o1 27 (.ld (some 6) 2)<|o1 28 (.ld (some 6) 3)<|oc 29 a1 [27,28]<|om 26 29<|oe 30 26 0<|oe 31 26 1<|om 7 30<|om 8 31 .done) (sR (om 32 7<|om 4 32 .done) .ret))))⟩
set_option maxHeartbeats 1000000 in
def VX{T:Ag→Prop}{P f f2}(hd:dec P f=some (KF f1 f2))(h1:FO T P f1)(h2:Mt T P f2):NU T P f:=by
 intro d cs ds x y ht hx hy rx ry;refine AM.of' hd (No rfl) ?_;have mx:=(CE.1 rx).1;have my:=(CE.1 ry).1;have dx:=(CE.1 rx).2;have dy:=(CE.1 ry).2;have hx0:=hx;have hy0:=hy;have hc:=h2 x y ht hx0 hy0 (by omega) (by omega);rw[show HP x y=(BA x y,0) by unfold HP;rw[if_neg (fun q=>q rx),if_neg (fun q=>q ry)]] at hc;obtain⟨lx,kx,rfl,_,imx,iex,_,hlx,hkx⟩:=hx.open;obtain⟨ly,ky,rfl,_,imy,iey,_,hly,hky⟩:=hy.open;obtain⟨la,lc,rfl⟩:=RSl.val hlx;obtain⟨ka,kc,rfl⟩:=RSl.val hkx;obtain⟨ma,mc,rfl⟩:=RSl.val hly;obtain⟨na,nc,rfl⟩:=RSl.val hky;show gwp P _ _ _ _ _;apply Ai;apply Ay;refine AO (l:=[vZ x.kind,vZ x.m,vZ x.e,Al x.text,.slice la x.list.length lc,.slice ka x.keys.length kc]) rfl (fun b2 T2=>?_);refine AO (l:=[vZ y.kind,vZ y.m,vZ y.e,Al y.text,.slice ma y.list.length mc,.slice na y.keys.length nc]) rfl (fun b3 T3=>?_);by_cases k1:x.kind=3
 ·by_cases k2:y.kind=3
  ·have hn:=h1 ht imx iex imy iey;rw[show Dw x.m x.e y.m y.e=(BA x y,0) by unfold Dw;rw[(He mx k1).2.2.2,(He my k2).2.2.2,Vc mx my k1 k2];rfl] at hn;(refine Ab rfl<|Aa<|Ai<|Ac<|Af rfl<|Ah rfl (Aj 1 rfl rfl)<|Aq rfl rfl<|Ad rfl<|AE rfl (by omega)<|Ae rfl<|Af rfl<|Ae rfl<|Ah rfl (Aj 0 rfl rfl)<|Ae rfl<|Aq rfl rfl<|Ap rfl rfl<|Aa<|Au rfl (by omega)<|Ac<|Af rfl<|BJ 1 rfl rfl rfl<|Af rfl<|BJ 0 rfl rfl rfl ?_);refine AF rfl hn ?_;(refine Bj rfl<|AL rfl rfl<|AL rfl rfl<|Ab rfl<|Ab rfl<|Aa<|Ac<|Ab rfl<|Ab rfl<|Aa<|Ar ?_);exact BI rfl
  ·(refine Ab rfl<|Aa<|Ai<|Ac<|Af rfl<|Ah rfl (Aj 1 rfl rfl)<|Aq rfl rfl<|Ad rfl<|AE rfl (by omega)<|Ae rfl<|Af rfl<|Ae rfl<|Ah rfl (Aj 0 rfl rfl)<|Ae rfl<|Aq rfl rfl<|Ap rfl rfl<|Aa<|Ao rfl (by omega)<|Am<|Ac<|AD 1 rfl rfl rfl<|AD 0 rfl rfl rfl ?_);refine AF rfl hc ?_;(refine Bj rfl<|AL rfl rfl<|AL rfl rfl<|Ab rfl<|Ab rfl<|Aa<|Ac<|Ab rfl<|Ab rfl<|Aa<|Ar ?_);exact BI rfl
 ·(refine Ab rfl<|Aa<|Ai<|Ac<|Af rfl<|Ah rfl (Aj 1 rfl rfl)<|Aq rfl rfl<|Ad rfl<|AB rfl (by omega)<|Ak rfl<|Ak rfl<|Ak rfl<|An rfl rfl<|Aa<|AK rfl<|Am<|Ac<|AD 1 rfl rfl rfl<|AD 0 rfl rfl rfl ?_);refine AF rfl hc ?_;(refine Bj rfl<|AL rfl rfl<|AL rfl rfl<|Ab rfl<|Ab rfl<|Aa<|Ac<|Ab rfl<|Ab rfl<|Aa<|Ar ?_);exact BI rfl
def QK(T:Ag→Prop)(P:Program)(f:FuncId):Prop:=∀{d cs ds}{x y:V},T d→Aw d cs x→Aw d ds y→(∀a∈x.list,AS a=0)→(∀a∈y.list,AS a=0)→AM P f [.agg cs.toArray,.agg ds.toArray] d (vZ (BT BA x.list y.list))
def Mc(a0 a1:Nat):A6:=⟨10,[(.tmp 4)],(sR (o1 2 (.box 0)<|o1 3 (.box 1)<|o1 4 (.mv z0) .done) (sR (oj 5 4 2<|ol 6 5<|oj 7 4 3<|ol 8 7<|oc 9 a0 [6,8,(.func a1)]<|om 4 9 .done) .ret))⟩
set_option maxHeartbeats 1000000 in
def XT{T:Ag→Prop}{P f f2}(hd:dec P f=some (Mc f1 f2))(h1:EX P f1)(h2:NU T P f2):QK T P f:=by
 intro d cs ds x y ht hx hy rx ry;refine AM.of' hd (No rfl) ?_;obtain⟨lx,kx,rfl,_,imx,iex,_,hlx,hkx⟩:=hx.open;obtain⟨ly,ky,rfl,_,imy,iey,_,hly,hky⟩:=hy.open;obtain⟨la,lc,rfl⟩:=RSl.val hlx;obtain⟨ka,kc,rfl⟩:=RSl.val hkx;obtain⟨ma,mc,rfl⟩:=RSl.val hly;obtain⟨na,nc,rfl⟩:=RSl.val hky;show gwp P _ _ _ _ _;apply Ai;apply Ay;refine AO (l:=[vZ x.kind,vZ x.m,vZ x.e,Al x.text,.slice la x.list.length lc,.slice ka x.keys.length kc]) rfl (fun b2 T2=>?_);refine AO (l:=[vZ y.kind,vZ y.m,vZ y.e,Al y.text,.slice ma y.list.length mc,.slice na y.keys.length nc]) rfl (fun b3 T3=>?_);(refine Ab rfl<|Aa<|Ac<|Af rfl<|Ah rfl (Aj 1 rfl rfl)<|Af rfl<|Ah rfl (Aj 0 rfl rfl) ?_);refine AF rfl (h1 hlx hly (fun a ha b hb cs ds q1 q2=>h2 ht q1 q2 (rx a ha) (ry b hb))) ?_;(refine Ab rfl<|Aa<|Ar ?_);exact BI rfl
abbrev Nm:=List St×V
def RNm(d:Ag)(cs:List Value)(p:Nm):Prop:=∃u vs,cs=u::vs∧RSl 6 RSt d u p.1∧Aw d vs p.2
def Je:Eg RNm:=fun d cs p h=>by
 obtain⟨u,vs,rfl,h1,h2⟩:=h;obtain⟨a,c,rfl⟩:=RSl.val h1;have:=AH _ _ _ h2;simpa [Value.oneCell'] using this
def NW:HG RNm:=fun hl h=>by
 obtain⟨u,vs,rfl,h1,h2⟩:=h;exact⟨u,vs,rfl,RSl.mono (R:=RSt) Df h1 hl,h2.mono hl⟩
def RNm.len{d cs}{p:Nm}(h:RNm d cs p):cs.length=7:=by obtain⟨u,vs,rfl,_,h2⟩:=h;simp[h2.len]
def N3(T:Ag→Prop)(P:Program)(f:FuncId):Prop:=∀{d cs ds}{p q:Nm},T d→RNm d cs p→RNm d ds q→(∀a∈p.2.list,AS a=0)→(∀a∈q.2.list,AS a=0)→AM P f [.agg cs.toArray,.agg ds.toArray] d (vZ (BT BA q.2.list p.2.list))
def Nu(a0:Nat):A6:=⟨10,[(.tmp 4)],(sR (o1 2 (.box 0)<|o1 3 (.box 1)<|o1 4 (.mv z0) .done) (sR (oj 5 1 3<|o1 6 (.ld (some 6) 5)<|oj 7 1 2<|o1 8 (.ld (some 6) 7)<|oc 9 a0 [6,8]<|om 4 9 .done) .ret))⟩
def Uw{T:Ag→Prop}{P f}(hd:dec P f=some (Nu f1))(h1:QK T P f1):N3 T P f:=by
 intro d cs ds p q ht hp hq rp rq;refine AM.of' hd (No rfl) ?_;obtain⟨u,vs,rfl,_,hv⟩:=hp;obtain⟨u',vs',rfl,_,hv'⟩:=hq;have hv0:=hv;have hv0':=hv';obtain⟨c0,c1,c2,c3,c4,c5,rfl⟩:=six hv.len;obtain⟨e0,e1,e2,e3,e4,e5,rfl⟩:=six hv'.len;show gwp P _ _ _ _ _;apply Ai;apply Ay;refine AO (l:=[u,c0,c1,c2,c3,c4,c5]) rfl (fun b2 T2=>?_);refine AO (l:=[u',e0,e1,e2,e3,e4,e5]) rfl (fun b3 T3=>?_);(refine Ab rfl<|Aa<|Ac<|Af rfl<|BJ 0 rfl rfl rfl<|Af rfl<|BJ 1 rfl rfl rfl ?_);refine AF rfl (h1 ht hv0' hv0 rq rp) ?_;(refine Ab rfl<|Aa<|Ar ?_);exact BI rfl
def MD(P:Program)(f:FuncId):Prop:=∀{d cs ds}{p q:Nm},RNm d cs p→RNm d ds q→AM P f [.agg cs.toArray,.agg ds.toArray] d (.bool (Ck p.2 q.2))
def M7(a0:Nat):A6:=⟨10,[(.tmp 4)],(sR (o1 2 (.box 0)<|o1 3 (.box 1)<|o1 4 (.mv (.const (.bool false))) .done) (sR (oj 5 1 2<|o1 6 (.ld (some 6) 5)<|oj 7 1 3<|o1 8 (.ld (some 6) 7)<|oc 9 a0 [6,8]<|om 4 9 .done) .ret))⟩
def Um{P f}(hd:dec P f=some (M7 f1))(h1:Gi P f1):MD P f:=by
 intro d cs ds p q hp hq;refine AM.of' hd (No rfl) ?_;obtain⟨u,vs,rfl,_,hv⟩:=hp;obtain⟨u',vs',rfl,_,hv'⟩:=hq;have hv0:=hv;have hv0':=hv';obtain⟨c0,c1,c2,c3,c4,c5,rfl⟩:=six hv.len;obtain⟨e0,e1,e2,e3,e4,e5,rfl⟩:=six hv'.len;show gwp P _ _ _ _ _;apply Ai;apply Ay;refine AO (l:=[u,c0,c1,c2,c3,c4,c5]) rfl (fun b2 T2=>?_);refine AO (l:=[u',e0,e1,e2,e3,e4,e5]) rfl (fun b3 T3=>?_);(refine Ad rfl<|Aa<|Ac<|Af rfl<|BJ 1 rfl rfl rfl<|Af rfl<|BJ 0 rfl rfl rfl ?_);refine AF rfl (h1 _ _ hv0 hv0') ?_;(refine Ad rfl<|Aa<|Ar ?_);exact BI rfl
end Go.Gk.Val
end
section
namespace Go.Gk.Srt
open Go Go.Gk
variable{i:Nat}
section
structure Ord {α:Type}(c:α→α→Int):Prop where
 sw:∀a b,c a b= -c b a
 tr:∀a b e,c a b≤0→c b e≤0→c a e≤0
def Srt{α}(c:α→α→Int)(l:List α):Prop:=l.Pairwise fun x y=>c x y≤0
section
variable {α:Type}{c:α→α→Int}
def Ord.le_of_not_lt(o:Ord c){a b:α}(h:¬c a b<0):c b a≤0:=by have:=o.sw a b;omega
def Ord.le_of_lt(o:Ord c){a b:α}(h:c a b<0):c a b≤0:=by omega
def Srt.nil:Srt c []:=List.Pairwise.nil
def Srt.one(x:α):Srt c [x]:=by simp[Srt]
def IM{l m:List α}:Srt c (l++m)↔Srt c l∧Srt c m∧∀x∈l,∀y∈m,c x y≤0:=List.pairwise_append
def Srt.get{l:List α}(h:Srt c l){j:Nat}(hi:i<j)(hj:j<l.length):c (l[i]'(by omega)) l[j]≤0:=List.pairwise_iff_getElem.1 h i j (by omega) hj hi
def Srt.take{l:List α}(h:Srt c l)(k:Nat):Srt c (l.take k):=h.sublist (List.take_sublist k l)
def Srt.drop{l:List α}(h:Srt c l)(k:Nat):Srt c (l.drop k):=h.sublist (List.drop_sublist k l)
def Srt.cut{l:List α}(h:Srt c l)(k:Nat):∀x∈l.take k,∀y∈l.drop k,c x y≤0:=by
 have:=h;rw[←ZM k l] at this;exact(IM.1 this).2.2
def Srt.put(o:Ord c){l m:List α}{x:α}(h:Srt c (l++m))(h1:l=[]∨∃y,l.getLast?=some y∧c y x≤0)(h2:m=[]∨∃y,m.head?=some y∧c x y≤0):Srt c (l++x::m):=by
 obtain⟨a,b,e⟩:=IM.1 h;refine IM.2 ⟨a,?_,?_⟩
 ·refine Aah.2 ⟨fun y hy=>?_,b⟩;rcases h2 with rfl|⟨z,hz,hx⟩
  ·cases hy
  ·cases m with
   |nil=>cases hy
   |cons w m=>
    cases hz
    rcases ZR.1 hy with rfl|hy
    ·exact hx
    ·exact o.tr _ _ _ hx ((Aah.1 b).1 y hy)
 ·intro y hy z hz;rcases ZR.1 hz with rfl|hz
  ·rcases h1 with rfl|⟨w,hw,hx⟩
   ·cases hy
   ·obtain⟨l',rfl⟩:∃l',l=l'++[w]:=by
     rw[List.getLast?_eq_some_iff] at hw;exact hw
    rcases ZK.1 hy with hy|hy
    ·exact o.tr _ _ _ ((IM.1 a).2.2 y hy w (Z9.2 rfl)) hx
    ·rw[Z9.1 hy];exact hx
  ·exact e y hy z hz
def UP{l1 l2 r1 r2 m1 m2:List α}(p1:m1.Perm (l1++r1))(p2:m2.Perm (l2++r2))(s1:Srt c m1)(s2:Srt c m2)
  (h1:∀x∈l1,∀y∈l2,c x y≤0) (h2:∀x∈l1,∀y∈r2,c x y≤0) (h3:∀x∈r1,∀y∈l2,c x y≤0) (h4:∀x∈r1,∀y∈r2,c x y≤0):Srt c (m1++m2):=by
 refine IM.2 ⟨s1,s2,fun x hx y hy=>?_⟩
 have hx':=ZK.1 (p1.mem_iff.1 hx)
 have hy':=ZK.1 (p2.mem_iff.1 hy)
 rcases hx' with hx'|hx'<;>rcases hy' with hy'|hy'
 ·exact h1 x hx' y hy'
 ·exact h2 x hx' y hy'
 ·exact h3 x hx' y hy'
 ·exact h4 x hx' y hy'
def MN(o:Ord c){l:List α}(h:Srt c l){x:α}{k:Nat}(hk:k<l.length)(hx:c x l[k]≤0):∀y∈l.drop k,c x y≤0:=by
 intro y hy;obtain⟨i,hi,rfl⟩:=List.mem_iff_getElem.1 hy;rw[List.getElem_drop];simp only[Aab] at hi;by_cases q:i=0
 ·subst q;exact hx
 ·exact o.tr _ _ _ hx (h.get (i:=k) (j:=k+i) (by omega) (by omega))
def ML(o:Ord c){l:List α}(h:Srt c l){x:α}{k:Nat}(hk:k<l.length)(hx:c l[k] x≤0):∀y∈l.take (k+1),c y x≤0:=by
 intro y hy;obtain⟨i,hi,rfl⟩:=List.mem_iff_getElem.1 hy;rw[List.getElem_take];simp only[ZP] at hi;by_cases q:i=k
 ·subst q;exact hx
 ·exact o.tr _ _ _ (h.get (i:=i) (j:=k) (by omega) hk) hx
def Zc(o:Ord c){l r:List α}(hl:Srt c l)(hr:Srt c r){s e:Nat}(hs:s≤l.length)(he:e≤r.length)
  (h1:s=0∨e=r.length∨∃(q:s - 1<l.length) (q':e<r.length),0<s∧c l[s - 1] r[e]≤0)
  (h2:e=0∨s=l.length∨∃(q:e - 1<r.length) (q':s<l.length),0<e∧c r[e - 1] l[s]≤0):
  (∀x∈l.take s,∀y∈r.drop e,c x y≤0)∧(∀x∈r.take e,∀y∈l.drop s,c x y≤0):=by
 constructor
 ·rcases h1 with rfl|rfl|⟨q,q',h0,h⟩
  ·simp
  ·simp
  ·intro x hx y hy
   have a:=ML o hl q h x (by rwa [show s - 1+1=s by omega])
   exact o.tr _ _ _ a (MN o hr q' (by have:=o.sw r[e] r[e];omega) y hy)
 ·rcases h2 with rfl|rfl|⟨q,q',h0,h⟩
  ·simp
  ·simp
  ·intro x hx y hy
   have a:=ML o hr q h x (by rwa [show e - 1+1=e by omega])
   exact o.tr _ _ _ a (MN o hl q' (by have:=o.sw l[s] l[s];omega) y hy)
def Lr{A M B:List α}{x y:α}{j:Nat}(h1:i=A.length)(h2:j=A.length+1+M.length):
  ((A++x::M++y::B).set i y).set j x=A++y::M++x::B:=by
 subst h1;subst h2
 apply List.ext_getElem
 ·simp
 ·intro k k1 k2
  simp only[List.getElem_set,List.getElem_append,List.getElem_cons,ZH,ZU]
  by_cases q1:k=A.length
  ·subst q1;simp;intro h;omega
  ·by_cases q2:k=A.length+1+M.length
   ·subst q2
    rw[if_pos rfl,dif_neg (by omega),dif_pos (by omega)]
   ·rw[if_neg (by omega),if_neg (by omega)]
    by_cases q3:k<A.length+(M.length+1)
    ·rw[dif_pos q3,dif_pos q3]
     by_cases q4:k<A.length
     ·rw[dif_pos q4,dif_pos q4]
     ·rw[dif_neg q4,dif_neg q4,dif_neg (by omega),dif_neg (by omega)]
    ·rw[dif_neg q3,dif_neg q3,dif_neg (by omega),dif_neg (by omega)]
def Uf{l:List α}(h:i<l.length):l=l.take i++l[i]::l.drop (i+1):=by rw[←ZT h,ZM]
def FD{l:List α}(A B:List α){x:α}(e:l=A++x::B)(h:i=A.length)(hi:i<l.length):l[i]=x:=by subst e;subst h;simp
end
end
end Go.Gk.Srt
end
section
namespace Go.Gk
open Go
section
def AN.NG{α}{sz:Nat}{R d pa}{n c:Nat}{xs:List α}{h}(hsz:0<sz)(o:AN sz R d (.slice pa n c) xs h)(hne:0<xs.length):
  ∃b T l,pa=some ⟨b,0,none⟩∧n=xs.length∧h=bx b T l∧xs.length*sz≤l.length∧(∀m (hm:m<xs.length),R d (chunk l m sz) xs[m])∧
   ∀i j (hi:i<xs.length) (hj:j<xs.length),AN sz R d (.slice pa n c) ((xs.set i xs[j]).set j xs[i]) (bx b T (patch (patch l (i*sz) (chunk l j sz)) (j*sz) (chunk l i sz))):=by
 have o':=o
 obtain⟨cs,⟨h1,h2,⟨e,h0,rfl⟩|⟨b,T,l,c',e,rfl,h3,h4,h5,h6⟩⟩,hr⟩:=o
 ·omega
 ·injection e with e1 e2 e3
  subst e1;subst e2;subst e3
  have hcz:xs.length*sz≤c*sz:=ZQ sz h3
  have hck:∀m,m<xs.length→chunk l m sz=chunk cs m sz:=by
   intro m hm;have hmz:m*sz+sz≤xs.length*sz:=by have:=ZQ sz (show m+1≤xs.length from hm);rwa [Aai,Abh] at this
   have hp:l=cs++l.drop cs.length:=by conv=>lhs;rw[←ZM cs.length l,h6]
   rw[hp];exact DO h1 hm
  have hR:∀m (hm:m<xs.length),R d (chunk l m sz) xs[m]:=fun m hm=>by rw[hck m hm];exact hr m hm
  have hlen:∀m,m<xs.length→(chunk l m sz).length=sz:=fun m hm=>by rw[hck m hm];exact OD h1 hm
  refine⟨b,T,l,rfl,rfl,rfl,by omega,hR,fun i j hi hj=>?_⟩
  obtain⟨b1,T1,l1,c1,e1,e2,_,k1⟩:=o'.I6 hsz hi
  have e2:b=b1∧bx b T l=bx b T l1∧T1=T:=by
   have hb:b=b1:=by injection e1 with e1;injection e1 with e1;injection e1
   subst hb;have:=congrFun (congrFun e2 b) (.cells l.toArray T (0,0));have q:bx b T1 l1 b (.cells l.toArray T (0,0)):=this▸CI _ _;obtain⟨_,q⟩:=F1 q;injection q with q1 q2
   exact⟨rfl,by rw[e2,q2],q2.symm⟩
  obtain⟨rfl,e3,rfl⟩:=e2
  have e4:l=l1:=by
   have q:bx b T1 l1 b (.cells l.toArray T1 (0,0)):=e3▸CI _ _;obtain⟨_,q⟩:=F1 q;injection q with q1 q2
   exact(Array.toList_inj.2 q1)
  subst e4
  have o2:=k1 (chunk l j sz) xs[j] (hlen j hj) (hR j hj)
  have hj2:j<(xs.set i xs[j]).length:=by rw[Abb];exact hj
  obtain⟨b2,T2,l2,c2,f1,f2,_,k2⟩:=o2.I6 hsz hj2
  have e5:b=b2:=by injection f1 with f1;injection f1 with f1;injection f1
  subst e5
  have q:bx b T2 l2 b (.cells (patch l (i*sz) (chunk l j sz)).toArray T1 (0,0)):=f2▸CI _ _
  obtain⟨_,q⟩:=F1 q
  injection q with q1 q2
  subst q2
  have e6:patch l (i*sz) (chunk l j sz)=l2:=(Array.toList_inj.2 q1)
  subst e6
  exact k2 (chunk l i sz) xs[i] (hlen i hi) (hR i hi)
section
variable {P:Program}{pan:List PanicEntry→A0}{Qn:Env→A0}{Ls L:List Ag}{ρ:Env}{d:Ag}{s:GS}{t:Nat}{tk:Bool}
def Cg{x i}{sz b n c:Nat}{k}{j:Int}(m:Nat)(ex:ev ρ x=.slice (some ⟨b,0,none⟩) n c)(ei:ev ρ i=.int k j)(hm:j=(m:Int))(hl:m<n)
  (h:gws P pan Qn s Ls (upd ρ t (.pointer (some ⟨b,m*sz,none⟩))) d L):gws P pan Qn (.op tk ⟨some t,none,.idx sz x i⟩ s) Ls ρ d L:=
 Eh (b:=b) (o:=0) m ex ei hm hl (SAd.some n b 0) (by rwa [Aac])
def CH{x}{b m sz:Nat}{T l}(i:Nat)(e:ev ρ x=.pointer (some ⟨b,m*sz,none⟩))(hi:(lk tk Ls L)[i]?=some (bx b T l))(hn:m*sz+sz≤l.length)
  (h:gws P pan Qn s Ls (upd ρ t (.agg (chunk l m sz).toArray)) d L):gws P pan Qn (.op tk ⟨some t,none,.ld (some sz) x⟩ s) Ls ρ d L:=
 BJ i e hi (Nat.ble_eq_true_of_le hn) h
end
def Iy{R ρ d L}(L':List Ag)(hs:L'.Sublist L)(h:R (.returned (.tuple #[])) d L'):Cs [] R ρ d L:=⟨[],trivial,d,L',Vs.drop hs,h⟩
def Dr{l}{m sz:Nat}(h:m*sz+sz≤l.length):(chunk l m sz).length=sz:=by simp only[chunk,ZP,Aab];omega
section
variable {P:Program}{pan:List PanicEntry→A0}{Qn:Env→A0}{Ls L:List Ag}{ρ:Env}{d:Ag}{s:GS}{t:Nat}
def Ga{x y}{b m sz:Nat}{T l cs}(i:Nat)(hi:L[i]?=some (bx b T l))(ex:ev ρ x=.pointer (some ⟨b,m*sz,none⟩))(ey:ev ρ y=.agg cs.toArray)(hn:cs.length=sz)(hl:m*sz+sz≤l.length)
  (h1:(cs.all (·.oneCell'))=true) (h:gws P pan Qn s Ls ρ d (L.set i (bx b T (patch l (m*sz) cs)))):gws P pan Qn (.op false ⟨none,none,.st sz x y⟩ s) Ls ρ d L:=
 SS i hi ex ey (by simp[Value.cells,hn]) hl (by simpa [Value.cells] using h1) (by simpa [Value.cells] using h)
end
def V6{ρ}{a b:Nat}(h:Nat.beq a b=false)(x y:Value):upd (upd ρ b y) a x=upd (upd ρ a x) b y:=by
 funext i;simp only[upd];cases e1:Nat.beq i a<;>cases e2:Nat.beq i b<;>simp
 have:=Abp e1;have q:=Abp e2;subst this;subst q;rw[show Nat.beq i i=true from Nat.beq_refl i] at h;cases h
def Xk{P}{pan:List PanicEntry→A0}{Qn:Env→A0}{ρ d}{sz b i j n c:Nat}{T l k1 k2}{j1 j2:Int}{t1 t2 t3 t4 p1 p2 v1 v2 i1 i2:Nat}
  (ne:Nat.beq t1 t2=false) (hl1:i*sz+sz≤l.length) (hl2:j*sz+sz≤l.length) (hi:i<n) (hj:j<n) (c1:((chunk l j sz).all (·.oneCell'))=true) (c2:((chunk l i sz).all (·.oneCell'))=true)
  (e1:ρ p1=.pointer (some ⟨b,j*sz,none⟩)) (e2:ρ p2=.pointer (some ⟨b,i*sz,none⟩)) (e1':upd ρ t2 (.agg (chunk l i sz).toArray) p1=.pointer (some ⟨b,j*sz,none⟩)) (e2':upd ρ t1 (.agg (chunk l j sz).toArray) p2=.pointer (some ⟨b,i*sz,none⟩))
  (f1:upd (upd ρ t1 (.agg (chunk l j sz).toArray)) t2 (.agg (chunk l i sz).toArray) v1=.slice (some ⟨b,0,none⟩) n c) (g1:upd (upd ρ t1 (.agg (chunk l j sz).toArray)) t2 (.agg (chunk l i sz).toArray) i1=.int k1 j1) (hj1:j1=(i:Int))
  (s1:upd (upd (upd ρ t1 (.agg (chunk l j sz).toArray)) t2 (.agg (chunk l i sz).toArray)) t3 (.pointer (some ⟨b,i*sz,none⟩)) t3=.pointer (some ⟨b,i*sz,none⟩)) (s1':upd (upd (upd ρ t1 (.agg (chunk l j sz).toArray)) t2 (.agg (chunk l i sz).toArray)) t3 (.pointer (some ⟨b,i*sz,none⟩)) t1=.agg (chunk l j sz).toArray)
  (f2:upd (upd (upd ρ t1 (.agg (chunk l j sz).toArray)) t2 (.agg (chunk l i sz).toArray)) t3 (.pointer (some ⟨b,i*sz,none⟩)) v2=.slice (some ⟨b,0,none⟩) n c) (g2:upd (upd (upd ρ t1 (.agg (chunk l j sz).toArray)) t2 (.agg (chunk l i sz).toArray)) t3 (.pointer (some ⟨b,i*sz,none⟩)) i2=.int k2 j2) (hj2:j2=(j:Int))
  (s2:upd (upd (upd (upd ρ t1 (.agg (chunk l j sz).toArray)) t2 (.agg (chunk l i sz).toArray)) t3 (.pointer (some ⟨b,i*sz,none⟩))) t4 (.pointer (some ⟨b,j*sz,none⟩)) t4=.pointer (some ⟨b,j*sz,none⟩)) (s2':upd (upd (upd (upd ρ t1 (.agg (chunk l j sz).toArray)) t2 (.agg (chunk l i sz).toArray)) t3 (.pointer (some ⟨b,i*sz,none⟩))) t4 (.pointer (some ⟨b,j*sz,none⟩)) t2=.agg (chunk l i sz).toArray)
  (k:Qn (upd (upd (upd (upd ρ t1 (.agg (chunk l j sz).toArray)) t2 (.agg (chunk l i sz).toArray)) t3 (.pointer (some ⟨b,i*sz,none⟩))) t4 (.pointer (some ⟨b,j*sz,none⟩))) d [bx b T (patch (patch l (i*sz) (chunk l j sz)) (j*sz) (chunk l i sz))]):
  gws P pan Qn (.alt ⟨some t1,none,.ld (some sz) (.tmp p1)⟩
   (.op false ⟨some t2,none,.ld (some sz) (.tmp p2)⟩ (.op true ⟨some t3,none,.idx sz (.tmp v1) (.tmp i1)⟩ (.op false ⟨none,none,.st sz (.tmp t3) (.tmp t1)⟩ (.op true ⟨some t4,none,.idx sz (.tmp v2) (.tmp i2)⟩ (.op false ⟨none,none,.st sz (.tmp t4) (.tmp t2)⟩ .done)))))
   (.op false ⟨some t2,none,.ld (some sz) (.tmp p2)⟩ (.op false ⟨some t1,none,.ld (some sz) (.tmp p1)⟩ (.op true ⟨some t3,none,.idx sz (.tmp v1) (.tmp i1)⟩ (.op false ⟨none,none,.st sz (.tmp t3) (.tmp t1)⟩ (.op true ⟨some t4,none,.idx sz (.tmp v2) (.tmp i2)⟩ (.op false ⟨none,none,.st sz (.tmp t4) (.tmp t2)⟩ .done))))))) [] ρ d [bx b T l]:=by
 have tail:gws P pan Qn (.op true ⟨some t3,none,.idx sz (.tmp v1) (.tmp i1)⟩ (.op false ⟨none,none,.st sz (.tmp t3) (.tmp t1)⟩ (.op true ⟨some t4,none,.idx sz (.tmp v2) (.tmp i2)⟩ (.op false ⟨none,none,.st sz (.tmp t4) (.tmp t2)⟩ .done)))) []
   (upd (upd ρ t1 (.agg (chunk l j sz).toArray)) t2 (.agg (chunk l i sz).toArray)) d [bx b T l]:=by
  refine Cg i f1 g1 hj1 hi ?_
  refine Ga 0 rfl s1 s1' (Dr hl2) hl1 c1 ?_
  refine Cg j f2 g2 hj2 hj ?_
  refine Ga 0 rfl s2 s2' (Dr hl1) (by rw[EM (by rw[Dr hl2];omega)];omega) c2 ?_
  exact Aa k
 refine Dx ?_ ?_
 ·refine CH 0 e1 rfl hl2 ?_
  exact CH 0 e2' rfl hl1 tail
 ·refine CH 0 e2 rfl hl1 ?_
  refine CH 0 e1' rfl hl2 ?_
  rw[V6 ne]
  exact tail
def Ij{α}(P:Program)(R:Ag→List Value→α→Prop)(c:α→α→Int)(g:FuncId)(d:Ag)(xs:List α):Prop:=
 ∀x∈xs,∀y∈xs,∀cs ds,R d cs x→R d ds y→AM P g [.agg cs.toArray,.agg ds.toArray] d (vZ (c x y))
def Ij.perm{α P R}{c:α→α→Int}{g d}{xs ys:List α}(h:Ij P R c g d xs)(p:ys.Perm xs):Ij P R c g d ys:=
 fun x hx y hy=>h x (p.mem_iff.1 hx) y (p.mem_iff.1 hy)
open Srt
def SM(sz:Nat)(P:Program)(f:FuncId):Prop:=∀{α R}{c:α→α→Int}{d pa}{n cp:Nat}{h g}{A M B:List α}{ia ib:Int},
 Ord c→Eg R→AN sz R d (.slice pa n cp) (A++M++B) h→Ij P R c g d (A++M++B)→ia=(A.length:Int)→ib=((A.length+M.length:Nat):Int)→
 A8 P f [.slice pa n cp,vZ ia,vZ ib,.func (.func g) #[] #[]] d [h] (Ret fun _ d' L'=>d'=d∧∃M' h',L'=[h']∧AN sz R d (.slice pa n cp) (A++M'++B) h'∧M'.Perm M∧Srt c M')
def Qk(sz:Nat)(P:Program)(f:FuncId):Prop:=∀{α:Type}{R:Ag→List Value→α→Prop}{d:Ag}{pa:Option Addr}{n cp:Nat}{h:Ag}{g:FuncId}{A X M Y B:List α}{ia ib im:Int},
 Eg R→AN sz R d (.slice pa n cp) (A++X++M++Y++B) h→X.length=Y.length→ia=(A.length:Int)→ib=((A.length+X.length+M.length:Nat):Int)→im=(X.length:Int)→
 A8 P f [.slice pa n cp,vZ ia,vZ ib,vZ im,.func (.func g) #[] #[]] d [h] (Ret fun _ d' L'=>d'=d∧∃h',L'=[h']∧AN sz R d (.slice pa n cp) (A++Y++M++X++B) h')
def SK(sz:Nat)(P:Program)(f:FuncId):Prop:=∀{α:Type}{R:Ag→List Value→α→Prop}{d:Ag}{pa:Option Addr}{n cp:Nat}{h:Ag}{g:FuncId}{A X Y B:List α}{ia im ib:Int},
 Eg R→AN sz R d (.slice pa n cp) (A++X++Y++B) h→X≠[]→Y≠[]→ia=(A.length:Int)→im=((A.length+X.length:Nat):Int)→ib=((A.length+X.length+Y.length:Nat):Int)→
 A8 P f [.slice pa n cp,vZ ia,vZ im,vZ ib,.func (.func g) #[] #[]] d [h] (Ret fun _ d' L'=>d'=d∧∃h',L'=[h']∧AN sz R d (.slice pa n cp) (A++Y++X++B) h')
def Tg(sz:Nat)(P:Program)(f:FuncId):Prop:=∀{α R}{c:α→α→Int}{d pa}{n cp:Nat}{g},Ord c→Eg R→∀(N:Nat) {h}{A X Y B:List α}{ia im ib:Int},
 X.length+Y.length≤N→AN sz R d (.slice pa n cp) (A++X++Y++B) h→Ij P R c g d (A++X++Y++B)→Srt c X→Srt c Y→X≠[]→Y≠[]→ia=(A.length:Int)→im=((A.length+X.length:Nat):Int)→ib=((A.length+X.length+Y.length:Nat):Int)→
 A8 P f [.slice pa n cp,vZ ia,vZ im,vZ ib,.func (.func g) #[] #[]] d [h] (Ret fun _ d' L'=>d'=d∧∃M' h',L'=[h']∧AN sz R d (.slice pa n cp) (A++M'++B) h'∧M'.Perm (X++Y)∧Srt c M')
end
end Go.Gk
end
section
namespace Go.Gk
open Go Srt
section
attribute [local irreducible] gwp gws
end
section
attribute [local irreducible] gwp gws
end
end Go.Gk
end
section
namespace Go.Gk
open Go Srt Val
section
attribute [local irreducible] gwp gws
end
end Go.Gk
end
section
namespace Go.Gk
open Go Srt
attribute [local irreducible] gwp gws
def Ms(sz:Nat)(P:Program)(f:FuncId):Prop:=∀{α R}{c:α→α→Int}{d pa}{n cp:Nat}{g h}{xs:List α},Ord c→Eg R→
 AN sz R d (.slice pa n cp) xs h→Ij P R c g d xs→
 A8 P f [.slice pa n cp,.func (.func g) #[] #[]] d [h] (Ret fun _ d' L'=>d'=d∧∃ys h',L'=[h']∧AN sz R d (.slice pa n cp) ys h'∧ys.Perm xs∧Srt c ys)
def Mb(sz:Nat)(P:Program)(f:FuncId):Prop:=∀{α R}{c:α→α→Int}{d pa}{n cp:Nat}{g h}{xs:List α},Ord c→Eg R→
 AN sz R d (.slice pa n cp) xs h→Ij P R c g d xs→
 A8 P f [.slice pa n cp,vZ n,.func (.func g) #[] #[]] d [h] (Ret fun _ d' L'=>d'=d∧∃ys h',L'=[h']∧AN sz R d (.slice pa n cp) ys h'∧ys.Perm xs∧Srt c ys)
end Go.Gk
end
section
namespace Go.Gk
open Go Srt
section
section
variable {P:Program}{pan:List PanicEntry→A0}{Qn:Env→A0}{Ls L:List Ag}{ρ:Env}{d:Ag}{s:GS}{t:Nat}{tk:Bool}
def Tj{sz:Nat}{x}{b o n c l h m:Nat}{lo hi mx:Option Operand}(ex:ev ρ x=.slice (some ⟨b,o,none⟩) n c)(hc:EU n c (lo.map (ev ρ)) (hi.map (ev ρ)) (mx.map (ev ρ))=some (l,h,m))
  (k:∀o',(m≠l→o'=o+l*sz)→gws P pan Qn s Ls (upd ρ t (.slice (some ⟨b,o',none⟩) (h - l) (m - l))) d L):gws P pan Qn (.op tk ⟨some t,none,.sl sz x lo hi mx⟩ s) Ls ρ d L:=by
 by_cases hml:m=l
 ·refine w_q rfl (v:=.slice (some ⟨b,o,none⟩) (h - l) (m - l)) ⟨some ⟨b,o,none⟩,n,c,l,h,m,ex,fun q=>absurd hml q,hc,by rw[if_pos hml]⟩ (k o (fun q=>absurd hml q))
 ·refine w_q rfl (v:=.slice (some ⟨b,o+l*sz,none⟩) (h - l) (m - l)) ⟨some ⟨b,o,none⟩,n,c,l,h,m,ex,fun _ a' ha=>by cases ha;rfl,hc,by rw[if_neg hml];simp⟩ (k (o+l*sz) (fun _=>rfl))
def YG{sz:Nat}{z x}{t:Option Nat}{a}{n c:Nat}(ex:ev ρ x=.slice a n c) (k:(n=0∧gws P pan Qn s Ls (put ρ t (.tuple #[])) d L)∨∃i b o T l,a=some ⟨b,o,none⟩∧L[i]?=some (bx b T l)∧o+n*sz≤l.length∧
  gws P pan Qn s Ls (put ρ t (.tuple #[])) d (L.set i (bx b T (patch l o (BC z (n*sz)))))):gws P pan Qn (.op false ⟨t,none,.mop (.clz sz z x)⟩ s) Ls ρ d L:=by
 refine⟨d,L,Vs.refl d L,?_⟩
 simp only[gop,gi,mi]
 refine⟨a,n,c,ex,?_⟩
 rcases k with ⟨h1,h2⟩|⟨i,b,o,T,l,h1,h2,h3,h4⟩
 ·exact .inl ⟨h1,_,_,Vs.refl _ _,h2⟩
 ·exact .inr ⟨i,b,o,T,l,h1,h2,h3,_,_,Vs.refl _ _,h4⟩
end
attribute [local irreducible] gwp gws
def Pg{n c:Nat}{v k}{j:Int}{i:Nat}(ev:v=.int k j)(hj:j=(i:Int))(hi:i≤n):EU n c (some v) none none=some (i,n,c):=by
 subst ev;subst hj;simp only[EU,Iz,Hr,IB,Option.isSome_none,Bool.false_eq_true,if_false,Aas,Aba,bnd];rw[if_pos (by omega)];simp
def X0{n c:Nat}{v k}{j:Int}{i:Nat}(ev:v=.int k j)(hj:j=(i:Int))(hi:i≤c):EU n c none (some v) none=some (0,i,c):=by
 subst ev;subst hj;simp only[EU,Iz,Hr,IB,Aas,Aba,bnd];rw[if_pos (by omega)];simp
def Su{b:Nat}{T T' l l'}(h:bx b T l=bx b T' l'):T=T'∧l=l':=by
 have h1:bx b T l b (Obj.cells l.toArray T (0,0)):=CI _ _;rw[h] at h1;have h2:=(F1 h1).2;simp only[Obj.cells.injEq] at h2;exact⟨h2.2.1,by simpa using h2.1⟩
def K5{b o o':Nat}(h:o=o'):Value.pointer (some ⟨b,o,none⟩)=.pointer (some ⟨b,o',none⟩):=by rw[h]
def MV{l}{k m sz:Nat}(h:m<k):chunk (l.take (k*sz)) m sz=chunk l m sz:=by
 have hm:m*sz+sz≤k*sz:=by have:=ZQ sz (show m+1≤k from h);rwa [Aai,Abh] at this
 simp only[chunk];rw[List.drop_take,List.take_take,Acq (by omega)]
def Qf{l zs}{k m sz:Nat}(h:m<k)(hk:k*sz≤l.length):chunk (patch l (k*sz) zs) m sz=chunk l m sz:=by
 have hm:m*sz+sz≤k*sz:=by have:=ZQ sz (show m+1≤k from h);rwa [Aai,Abh] at this
 simp only[chunk,patch];rw[Zy,List.drop_append_of_le_length (by rw[ZP];omega),List.take_append_of_le_length (by rw[Aab,ZP];omega),List.drop_take,List.take_take,Acq (by omega)]
def AN.Xa{α}{sz:Nat}{R d pa}{n c:Nat}{xs:List α}{h}(hsz:0<sz)(o:AN sz R d (.slice pa n c) xs h)(hne:0<xs.length):
  ∃b T l,pa=some ⟨b,0,none⟩∧n=xs.length∧n≤c∧h=bx b T l∧xs.length*sz≤l.length∧(∀m (hm:m<xs.length),R d (chunk l m sz) xs[m])∧
   (∀m x cs',m<xs.length→cs'.length=sz→R d cs' x→AN sz R d (.slice pa n c) (xs.set m x) (bx b T (patch l (m*sz) cs')))∧
   ∀k zs,k≤xs.length→zs.length=(xs.length - k)*sz→AN sz R d (.slice pa k c) (xs.take k) (bx b T (patch l (k*sz) zs)):=by
 have o':=o
 obtain⟨cs,⟨h1,h2,⟨e,h0,rfl⟩|⟨b,T,l,c',e,rfl,h3,h4,h5,h6⟩⟩,hr⟩:=o
 ·omega
 ·injection e with e1 e2 e3
  subst e1;subst e2;subst e3
  have hcz:xs.length*sz≤c*sz:=ZQ sz h3
  have hch:∀m,m<xs.length→chunk cs m sz=chunk l m sz:=fun m hm=>by rw[←h6,h1,MV hm]
  refine⟨b,T,l,rfl,rfl,h3,rfl,by omega,fun m hm=>by rw[←hch m hm];exact hr m hm,fun m x cs' hm hl hx=>?_,fun k zs hk hz=>?_⟩
  ·obtain⟨b',T',l',c'',e4,e5,_,g⟩:=AN.I6 hsz o' hm
   injection e4 with e4 _ _
   injection e4 with e4
   injection e4 with e4 _ _
   subst e4
   obtain⟨rfl,rfl⟩:=Su e5
   exact g cs' x hl hx
  ·have hkz:k*sz≤xs.length*sz:=ZQ sz hk
   have hkl:(xs.length - k)*sz=xs.length*sz - k*sz:=Nat.sub_mul _ _ _
   have hpl:(patch l (k*sz) zs).length=l.length:=EM (by omega)
   have htl:((patch l (k*sz) zs).take (k*sz)).length=k*sz:=by rw[ZP,hpl];omega
   refine⟨(patch l (k*sz) zs).take (k*sz),⟨by rw[htl,ZP,Acq hk],by rw[ZP];omega,.inr ⟨b,T,_,c,by rw[ZP,Acq hk],rfl,by rw[ZP];omega,h4,by rw[hpl];exact h5,by rw[htl]⟩⟩,fun i hi=>?_⟩
   have hik:i<k:=by rw[ZP] at hi;omega
   rw[MV hik,Qf hik (by omega),List.getElem_take,←hch i (by omega)]
   exact hr i (by omega)
def Wh{z}{n:Nat}:(BC z n).length=n:=by simp[BC]
section
variable {α:Type}(e:α→α→Bool)
def Dp:α→List α→List α
 |_,[]=>[]
 |p,x::l=>if e x p then Dp x l else x::Dp x l
def B2:List α→List α
 |[]=>[]
 |x::l=>x::Dp e x l
def MJ(y:α):∀(l:List α) (p z:α),(p::l).getLast?=some z→Dp e p (l++[y])=Dp e p l++(if e y z then [] else [y])
 |[],p,z,h=>by
  have:p=z:=by simpa using h
  subst this;simp only[Z5,Dp]
 |x::l,p,z,h=>by
  have h':(x::l).getLast?=some z:=by rw[List.getLast?_cons_cons] at h;exact h
  simp only[Z6,Dp,MJ y l x z h'];split<;>simp
def Rg{xs:List α}{m:Nat}(hm:m+1<xs.length):B2 e (xs.take (m+2))=B2 e (xs.take (m+1))++(if e xs[m+1] xs[m] then [] else [xs[m+1]]):=by
 rw[ZA hm];cases xs with
 |nil=>simp at hm
 |cons x l=>
  simp only[Abx,Z6,B2]
  rw[MJ e _ _ x ((x::l)[m]'(by omega))]
  rw[show x::List.take m l=(x::l).take (m+1) by simp,List.getLast?_take]
  simp
def GZ{xs:List α}(h:xs.length<2):B2 e xs=xs:=by
 match xs,h with
 |[],_=>rfl
 |[x],_=>rfl
def Kp{xs:List α}{k:Nat}(hk:k<xs.length)(h1:1≤k):B2 e (xs.take (k+1))=B2 e (xs.take k)++(if e xs[k] (xs[k - 1]'(by omega)) then [] else [xs[k]]):=by
 obtain⟨m,rfl⟩:∃m,k=m+1:=⟨k - 1,by omega⟩
 exact Rg e hk
def KO:∀(l:List α) (p:α),(Dp e p l).Sublist l
 |[],_=>ZS _
 |x::l,p=>by
  simp only[Dp];split
  ·exact .cons _ (KO l x)
  ·exact .cons_cons _ (KO l x)
def RA(l:List α):(B2 e l).Sublist l:=by
 cases l with
 |nil=>exact ZS _
 |cons x l=>exact .cons_cons _ (KO e l x)
def RD(xs:List α):(B2 e xs).length≤xs.length:=by
 have h:∀(l:List α) (p:α),(Dp e p l).length≤l.length:=by
  intro l;induction l with
  |nil=>intro p;simp[Dp]
  |cons x l ih=>intro p;simp only[Dp];split;exact Nat.le_succ_of_le (ih x);simpa using ih x
 cases xs with
 |nil=>simp[B2]
 |cons x l=>simpa [B2] using h l x
end
def KY(sz:Nat)(P:Program)(f:FuncId):Prop:=∀{α R}{e:α→α→Bool}{d pa}{n cp:Nat}{g h}{xs:List α},Eg R→AN sz R d (.slice pa n cp) xs h→
 (∀x∈xs,∀y∈xs,∀cs ds,R d cs x→R d ds y→AM P g [.agg cs.toArray,.agg ds.toArray] d (.bool (e x y)))→n=xs.length→
 A8 P f [.slice pa n cp,.func (.func g) #[] #[]] d [h] (Ret fun r d' L'=>d'=d∧∃h',r=.slice pa (B2 e xs).length cp∧L'=[h']∧AN sz R d (.slice pa (B2 e xs).length cp) (B2 e xs) h')
def D9:A6:=⟨66,[(.tmp 4)],(sR (o1 4 (.mv nS) .done) (.seq (sR (om 8 0<|oL 9 8<|ob 10 .lss 9 z2 .done) (.cond 10 (sR (om 11 0<|om 4 11 .done) .ret) .skip)) (.seq (sR (o1 5 (.mv z1) .done) (.block 0 (.loop (.seq (sR (om 12 5<|om 13 0<|oL 14 13<|ob 15 .lss 12 14 .done) (.cond 15 .skip (.exit 0))) (.seq (.block 1 (.seq (.reg true (pm 18 1<|pm 19 0<|pm 20 5<|p1 21 (.idx 7 19 20)<|p1 22 (.ld (some 7) 21)<|pm 23 0<|pm 24 5<|p1 25 (.bin .sub 24 z1)<|p1 26 (.idx 7 23 25)<|p1 27 (.ld (some 7) 26)<|o1 28 (.callv 18 [22,27]) .done)) (.cond 28 (sR (om 29 0<|om 30 5<|o1 31 (.sl 7 29 (some 30) none none)<|om 6 31 .done) (.seq (sR (o1 7 (.mv z1) .done) (.block 2 (.loop (.seq (sR (om 32 7<|om 33 6<|oL 34 33<|ob 35 .lss 32 34 .done) (.cond 35 .skip (.exit 2))) (.seq (.block 3 (.seq (.reg true (pm 38 1<|pm 39 6<|pm 40 7<|p1 41 (.idx 7 39 40)<|p1 42 (.ld (some 7) 41)<|pm 43 6<|pm 44 7<|p1 45 (.bin .sub 44 z1)<|p1 46 (.idx 7 43 45)<|p1 47 (.ld (some 7) 46)<|o1 48 (.callv 38 [42,47])<|p1 49 (.un .not 48) .done)) (.cond 49 (sR (om 50 0<|om 51 5<|om 52 6<|om 53 7<|oI 54 7 52 53<|o1 55 (.ld (some 7) 54)<|oI 56 7 50 51<|o0 (.st 7 56 55) .done) (rG (om 57 5<|ob 58 .add 57 z1<|om 5 58 .done))) .skip))) (rG (om 36 7<|ob 37 .add 36 z1<|om 7 37 .done))))))) (sR (om 59 0<|om 60 5<|o1 61 (.sl 7 59 (some 60) none none)<|o0 (.mop (.clz 7 [(.slice none 0 0),(vZ 0),(vZ 0),(vZ 0),(Al []),(.slice none 0 0),(.slice none 0 0)] 61)) .done) (sR (om 62 0<|om 63 5<|o1 64 (.sl 7 62 none (some 63) none)<|om 4 64 .done) .ret)))) .skip))) (rG (om 16 5<|ob 17 .add 16 z1<|om 5 17 .done))))))) (sR (om 65 0<|om 4 65 .done) .ret))))⟩
set_option maxHeartbeats 2000000 in
def JE{P f}(hd:dec P f=some D9):KY 7 P f:=by
 intro α R e d pa n cp g h xs hc1 ho hg hn;subst hn;refine Bd hd (No rfl) ?_;show gwp P _ _ _ _ _;by_cases hsm:xs.length<2
 ·(refine Ac<|As rfl<|Aa<|Ai<|Ac<|As rfl<|AA rfl<|Ax rfl rfl<|Aa<|Au rfl (by omega)<|Ac<|As rfl<|As rfl<|Aa<|Ar ?_);exact BG (L':=[h]) [.slice pa xs.length cp] ⟨A4 rfl,trivial⟩ (ZS _) ⟨rfl,h,by rw[GZ e hsm];rfl,rfl,by rw[GZ e hsm];exact ho⟩
 have ho':=ho;have hxl:=ho.Be;obtain⟨b,T,l,rfl,_,hcap,rfl,hll,hR, -, -⟩:=ho.Xa (by omega) (by omega);(refine Ac<|As rfl<|Aa<|Ai<|Ac<|As rfl<|AA rfl<|Ax rfl rfl<|Aa<|Ao rfl (by omega)<|Am<|Ai<|Ac<|Ab rfl<|Aa<|Av ?_);refine Bg (α:=Nat) (fun k=>[(0,.slice (some ⟨b,0,none⟩) xs.length cp),(1,.func (.func g) #[] #[]),(5,vZ k)])
  (fun k d' L'=>d'=d∧1≤k∧k≤xs.length∧B2 e (xs.take k)=xs.take k∧L'=[bx b T l]) (fun k=>xs.length - k) 1
  ⟨rfl,rfl,rfl,trivial⟩ ⟨rfl,ZL _,by omega,GZ e (by rw[ZP];omega),rfl⟩ ?_
 rintro k ρ d' L' ⟨hdd,hk1,hkn,hck,hL⟩;subst hdd;subst hL;by_cases hc:k<xs.length
 ·have hmore:=Kp e hc hk1;have hRk:=hR k hc;have hRj:=hR (k - 1) (by omega);cases heq:e xs[k] (xs[k - 1]'(by omega)) with
  |false=>
   have hgk:=hg _ (ZC hc) _ (ZC (show k - 1<xs.length by omega)) _ _ hRk hRj
   rw[heq] at hmore hgk
   clear heq
   (refine Ai<|Ac<|Ab rfl<|As rfl<|AA rfl<|Ax rfl rfl<|Aa<|Au rfl (by omega)<|Am<|Ai<|Av<|Ai<|AT<|CV rfl<|As rfl<|Ab rfl ?_)
   refine Cg k rfl rfl rfl (by omega) ?_
   refine CH 0 rfl rfl (by omega) ?_
   (refine As rfl<|Ab rfl<|Bn rfl rfl (by omega) (by omega) ?_)
   refine Cg (k - 1) rfl rfl (by omega) (by omega) ?_
   refine CH 0 rfl rfl (by omega) ?_
   refine Ea rfl rfl hgk ?_
   (refine AW<|AK rfl<|Am<|Ay<|Ab rfl<|AI rfl rfl (by omega) (by omega)<|Ab rfl<|Aa ?_)
   refine⟨k+1,by omega,⟨rfl,rfl,int_eq (by omega),trivial⟩,rfl,by omega,hc,?_,rfl⟩
   rw[hmore,hck,ZA hc];rfl
  |true=>
   have hgk:=hg _ (ZC hc) _ (ZC (show k - 1<xs.length by omega)) _ _ hRk hRj
   rw[heq] at hmore hgk
   clear heq
   (refine Ai<|Ac<|Ab rfl<|As rfl<|AA rfl<|Ax rfl rfl<|Aa<|Au rfl (by omega)<|Am<|Ai<|Av<|Ai<|AT<|CV rfl<|As rfl<|Ab rfl ?_)
   refine Cg k rfl rfl rfl (by omega) ?_
   refine CH 0 rfl rfl (by omega) ?_
   (refine As rfl<|Ab rfl<|Bn rfl rfl (by omega) (by omega) ?_)
   refine Cg (k - 1) rfl rfl (by omega) (by omega) ?_
   refine CH 0 rfl rfl (by omega) ?_
   refine Ea rfl rfl hgk ?_
   (refine AW<|Bb rfl<|Ac<|As rfl<|Ab rfl ?_)
   refine Tj (l:=k) (h:=xs.length) (m:=cp) rfl (Pg rfl rfl (by omega)) (fun o1 ho1=>?_)
   obtain rfl:o1=0+k*7:=ho1 (by omega)
   (refine As rfl<|Aa<|Ai<|Ac<|Ab rfl<|Aa<|Av ?_)
   have htk:xs.take k=(xs.take (k+1)).take k:=by rw[List.take_take,Acq (by omega)]
   refine Bg (α:=Nat×Nat) (fun x=>[(0,.slice (some ⟨b,0,none⟩) xs.length cp),(1,.func (.func g) #[] #[]),(5,vZ x.1),(6,.slice (some ⟨b,0+k*7,none⟩) (xs.length - k) (cp - k)),(7,vZ x.2)])
    (fun x d2 L'=>d2=d'∧1≤x.2∧x.2≤xs.length - k∧k≤x.1∧x.1+1≤k+x.2∧∃zs l',zs.length=xs.length∧zs.take x.1=B2 e (xs.take (k+x.2))∧(∀m,k+x.2 - 1≤m→zs[m]?=xs[m]?)∧(∀z∈zs,z∈xs)∧L'=[bx b T l']∧
     AN 7 R d' (.slice (some ⟨b,0,none⟩) xs.length cp) zs (bx b T l')) (fun x=>xs.length - k - x.2) (k,1)
    ⟨rfl,rfl,rfl,rfl,rfl,trivial⟩ ⟨rfl,ZL _,by simp only;omega,ZL _,ZL _,xs,l,rfl,by simp only;rw[hmore,hck];simp,fun _ _=>rfl,fun _ h=>h,rfl,ho'⟩ ?_
   rintro⟨kk,j⟩ ρ d2 L' ⟨hdd,hj1,hjn,hkk,hkj,zs,l',hzl,hzt,hzs,hzm,hL,hz⟩
   simp only at hj1 hjn hkk hkj hzt hzs⊢
   subst hdd;subst hL
   obtain⟨b1,T1,l1,q1,q2,q3,q4,hll1,hR1,hset,hcut⟩:=hz.Xa (by omega) (by omega)
   cases q1
   obtain⟨rfl,rfl⟩:=Su q4
   clear q4 q2 q3
   by_cases hc2:j<xs.length - k
   ·have hx1:zs[k+j]'(by omega)=xs[k+j]'(by omega):=by have:=hzs (k+j) (by omega);simpa [show k+j<zs.length by omega,show k+j<xs.length by omega] using this
    have hx2:zs[k+j - 1]'(by omega)=xs[k+j - 1]'(by omega):=by have:=hzs (k+j - 1) (by omega);simpa [show k+j - 1<zs.length by omega,show k+j - 1<xs.length by omega] using this
    have hR1a:=hR1 (k+j) (by omega)
    have hR1b:=hR1 (k+j - 1) (by omega)
    rw[hx1] at hR1a
    rw[hx2] at hR1b
    have hmore2:=Kp e (show k+j<xs.length by omega) (by omega)
    have hgk:=hg _ (ZC (show k+j<xs.length by omega)) _ (ZC (show k+j - 1<xs.length by omega)) _ _ hR1a hR1b
    cases heq:e (xs[k+j]'(by omega)) (xs[k+j - 1]'(by omega)) with
    |true=>
     rw[heq] at hmore2 hgk
     clear heq
     (refine Ai<|Ac<|Ab rfl<|As rfl<|AA rfl<|Ax rfl rfl<|Aa<|Au rfl (by omega)<|Am<|Ai<|Av<|Ai<|AT<|CV rfl<|As rfl<|Ab rfl ?_)
     refine Eh (b:=b) (o:=0+k*7) j rfl rfl rfl (by omega) (SAd.some _ b (0+k*7)) ?_
     refine CH 0 (m:=k+j) (K5 (by omega)) rfl (by omega) ?_
     (refine As rfl<|Ab rfl<|Bn rfl rfl (by omega) (by omega) ?_)
     refine Eh (b:=b) (o:=0+k*7) (j - 1) rfl rfl (by omega) (by omega) (SAd.some _ b (0+k*7)) ?_
     refine CH 0 (m:=k+j - 1) (K5 (by omega)) rfl (by omega) ?_
     refine Ea rfl rfl hgk ?_
     (refine Bi rfl<|AW<|AK rfl<|Am<|Ay<|Ab rfl<|AI rfl rfl (by omega) (by omega)<|Ab rfl<|Aa ?_)
     exact⟨(kk,j+1),by simp only;omega,⟨rfl,rfl,rfl,rfl,int_eq (by omega),trivial⟩,rfl,by simp only;omega,by simp only;omega,hkk,by simp only;omega,zs,l',hzl,by simp only;rw[show k+(j+1)=k+j+1 by omega,hmore2,hzt];simp,fun m hm=>hzs m (by simp only at hm;omega),hzm,rfl,hz⟩
    |false=>
     rw[heq] at hmore2 hgk
     clear heq
     (refine Ai<|Ac<|Ab rfl<|As rfl<|AA rfl<|Ax rfl rfl<|Aa<|Au rfl (by omega)<|Am<|Ai<|Av<|Ai<|AT<|CV rfl<|As rfl<|Ab rfl ?_)
     refine Eh (b:=b) (o:=0+k*7) j rfl rfl rfl (by omega) (SAd.some _ b (0+k*7)) ?_
     refine CH 0 (m:=k+j) (K5 (by omega)) rfl (by omega) ?_
     (refine As rfl<|Ab rfl<|Bn rfl rfl (by omega) (by omega) ?_)
     refine Eh (b:=b) (o:=0+k*7) (j - 1) rfl rfl (by omega) (by omega) (SAd.some _ b (0+k*7)) ?_
     refine CH 0 (m:=k+j - 1) (K5 (by omega)) rfl (by omega) ?_
     refine Ea rfl rfl hgk ?_
     (refine Bi rfl<|AW<|Bb rfl<|Ac<|As rfl<|Ab rfl<|As rfl<|Ab rfl ?_)
     refine Eh (b:=b) (o:=0+k*7) j rfl rfl rfl (by omega) (SAd.some _ b (0+k*7)) ?_
     refine CH 0 (m:=k+j) (K5 (by omega)) rfl (by omega) ?_
     skip
     refine Cg kk rfl rfl rfl (by omega) ?_
     refine Ga 0 rfl rfl rfl (Dr (by omega)) (by omega) (hc1 _ _ _ hR1a) ?_
     have hz2:=hset kk _ _ (by omega) (Dr (by omega)) hR1a
     (refine Aa<|Ay<|Ab rfl<|AI rfl rfl (by omega) (by omega)<|Ab rfl<|Aa<|Ay<|Ab rfl<|AI rfl rfl (by omega) (by omega)<|Ab rfl<|Aa ?_)
     refine⟨(kk+1,j+1),by simp only;omega,⟨rfl,rfl,int_eq (by omega),rfl,int_eq (by omega),trivial⟩,rfl,by simp only;omega,by simp only;omega,by simp only;omega,by simp only;omega,_,_,by rw[Abb];exact hzl,?_,fun m hm=>?_,fun z hz=>?_,rfl,hz2⟩
     ·simp only
      rw[show k+(j+1)=k+j+1 by omega,hmore2,←hzt,ZA (by rw[Abb];omega),List.take_set_of_le (ZL _)]
      simp
     ·simp only at hm
      rw[List.getElem?_set_ne (by omega)]
      exact hzs m (by omega)
     ·rcases List.mem_or_eq_of_mem_set hz with q|q
      ·exact hzm z q
      ·rw[q];exact ZC _
   ·obtain rfl:j=xs.length - k:=by omega
    rw[show k+(xs.length - k)=xs.length by omega,ZV] at hzt
    have hkl:kk=(B2 e xs).length:=by rw[←hzt,ZP];omega
    (refine Ai<|Ac<|Ab rfl<|As rfl<|AA rfl<|Ax rfl rfl<|Aa<|Ao rfl (by omega)<|AV<|Ac<|As rfl<|Ab rfl ?_)
    refine Tj (l:=kk) (h:=xs.length) (m:=cp) rfl (Pg rfl rfl (by omega)) (fun o2 ho2=>?_)
    obtain rfl:o2=0+kk*7:=ho2 (by omega)
    refine YG rfl (.inr ⟨0,b,_,T,_,rfl,rfl,by omega,?_⟩)
    (refine Aa<|Ac<|As rfl<|Ab rfl ?_)
    refine Tj (l:=0) (h:=kk) (m:=cp) rfl (X0 rfl rfl (by omega)) (fun o3 ho3=>?_)
    obtain rfl:o3=0:=by rw[ho3 (by omega)]
    have hfin:=hcut kk (BC [.slice none 0 0,vZ 0,vZ 0,vZ 0,Al [],.slice none 0 0,.slice none 0 0] ((xs.length - kk)*7)) (by omega) (by rw[Wh,hzl])
    rw[hzt] at hfin
    rw[←hkl]
    (refine As rfl<|Aa<|Ar ?_)
    exact BG (L':=[_]) [.slice (some ⟨b,0,none⟩) (kk - 0) (cp - 0)] ⟨A4 rfl,trivial⟩ (ZS _) ⟨rfl,_,rfl,rfl,by rw[Aac];exact hfin⟩
 ·obtain rfl:k=xs.length:=by omega
  rw[ZV] at hck;(refine Ai<|Ac<|Ab rfl<|As rfl<|AA rfl<|Ax rfl rfl<|Aa<|Ao rfl (by omega)<|AV<|Ac<|As rfl<|As rfl<|Aa<|Ar ?_);exact BG (L':=[bx b T l]) [.slice (some ⟨b,0,none⟩) xs.length cp] ⟨A4 rfl,trivial⟩ (ZS _) ⟨rfl,_,by rw[hck];rfl,rfl,by rw[hck];exact ho'⟩
end
end Go.Gk
end
section
namespace Go.Gk.Val
open Go Go.Gk Go.Gk.Num
attribute [local irreducible] gwp gws
def Ur(a b c:Int):thn (thn a b) c=thn a (thn b c):=by
 by_cases h:a=0
 ·subst h;rw[DS,DS]
 ·rw[D7 h,D7 h,D7 h]
def IF(a0 a1 a2 a3:Nat):A6:=⟨112,[(.tmp 4)],(sR (o1 2 (.box 0)<|o1 3 (.box 1)<|o1 4 (.mv z0) .done) (sR (oj 8 0 2<|ol 9 8<|oj 10 0 3<|ol 11 10<|oc 12 a0 [9,11]<|om 5 12 .done) (.seq (sR (om 13 5<|ob 14 .eql 13 z0<|om 15 14<|oT 16 15 (.fld 0 2)<|oT 17 15 (.ld none 16)<|oT 18 15 (.bin .eql 17 (kZ 3))<|gP 19 15 18 .done) (.cond 19 (rG (oj 21 1 2<|o1 22 (.ld (some 2) 21)<|oj 23 1 3<|o1 24 (.ld (some 2) 23)<|oc 25 a1 [22,24]<|om 20 25<|oe 26 20 0<|oe 27 20 1<|om 5 26 .done)) .skip)) (.seq (sR (om 28 5<|ob 29 .eql 28 z0 .done) (.cond 29 (rG (oj 30 3 2<|ol 31 30<|oj 32 3 3<|ol 33 32<|oc 34 a2 [31,33]<|om 5 34 .done)) .skip)) (.seq (sR (o1 6 (.mv z0) .done) (.block 0 (.loop (.seq (sR (om 35 5<|ob 36 .eql 35 z0<|om 37 36<|gT 38 37 6<|oT 39 37 (.fld 5 2)<|oT 40 37 (.ld none 39)<|oT 41 37 (.len 40)<|oT 42 37 (.bin .lss 38 41)<|gP 43 37 42<|om 44 43<|gT 45 44 6<|oT 46 44 (.fld 5 3)<|oT 47 44 (.ld none 46)<|oT 48 44 (.len 47)<|oT 49 44 (.bin .lss 45 48)<|gP 50 44 49 .done) (.cond 50 .skip (.exit 0))) (.seq (.block 1 (.reg true (p1 53 (.fld 5 2)<|pl 54 53<|pm 55 6<|p1 56 (.idx 1 54 55)<|pl 57 56<|p1 58 (.fld 5 3)<|pl 59 58<|pm 60 6<|p1 61 (.idx 1 59 60)<|pl 62 61<|oc 63 a2 [57,62] (.bar (pm 5 63 .done))))) (rG (om 51 6<|ob 52 .add 51 z1<|om 6 52 .done))))))) (.seq (sR (om 64 5<|ob 65 .eql 64 z0 .done) (.cond 65 (rG (oj 66 5 2<|ol 67 66<|oL 68 67<|oj 69 5 3<|ol 70 69<|oL 71 70<|oc 72 a0 [68,71]<|om 5 72 .done)) .skip)) (.seq (sR (o1 7 (.mv z0) .done) (.block 2 (.loop (.seq (sR (om 73 5<|ob 74 .eql 73 z0<|om 75 74<|gT 76 75 7<|oT 77 75 (.fld 4 2)<|oT 78 75 (.ld none 77)<|oT 79 75 (.len 78)<|oT 80 75 (.bin .lss 76 79)<|gP 81 75 80<|om 82 81<|gT 83 82 7<|oT 84 82 (.fld 4 3)<|oT 85 82 (.ld none 84)<|oT 86 82 (.len 85)<|oT 87 82 (.bin .lss 83 86)<|gP 88 82 87 .done) (.cond 88 .skip (.exit 2))) (.seq (.block 3 (.reg true (p1 91 (.fld 4 2)<|pl 92 91<|pm 93 7<|p1 94 (.idx 6 92 93)<|p1 95 (.ld (some 6) 94)<|p1 96 (.fld 4 3)<|pl 97 96<|pm 98 7<|p1 99 (.idx 6 97 98)<|p1 100 (.ld (some 6) 99)<|oc 101 a3 [95,100] (.bar (pm 5 101 .done))))) (rG (om 89 7<|ob 90 .add 89 z1<|om 7 90 .done))))))) (.seq (sR (om 102 5<|ob 103 .eql 102 z0 .done) (.cond 103 (rG (oj 104 4 2<|ol 105 104<|oL 106 105<|oj 107 4 3<|ol 108 107<|oL 109 108<|oc 110 a0 [106,109]<|om 5 110 .done)) .skip)) (sR (om 111 5<|om 4 111 .done) .ret)))))))))⟩
set_option maxHeartbeats 2000000 in
def RJ{T:Ag→Prop}{P f f1 f2 f3}(hd:dec P f=some (IF f1 f2 f3 f))(h1:Gg P f1)(h2:FO T P f2)(h3:E7 P f3):IW T P f:=by
 intro a;induction a using V.ind with
 |h a ih=>
 intro b d cs ds ht ha hb ma mb;refine AM.of' hd (No rfl) ?_;obtain⟨_,_,_,_,_,x6⟩:=Gs ma;obtain⟨_,_,_,_,_,y6⟩:=Gs mb;have hE:=E0 a b;obtain⟨lv,kv,rfl,ik,im,ie,it,hl,hks⟩:=ha.open;obtain⟨lv',kv',rfl,ik',im',ie',it',hl',hks'⟩:=hb.open;have n1:=RSl.Be hl;have n2:=RSl.Be hl';have n3:=RSl.Be hks;have n4:=RSl.Be hks';obtain⟨la,lc,rfl⟩:=RSl.val hl;obtain⟨ka,kc,rfl⟩:=RSl.val hks;obtain⟨la',lc',rfl⟩:=RSl.val hl';obtain⟨ka',kc',rfl⟩:=RSl.val hks';have q1:RSl 6 Aw d (.slice la a.list.length lc) a.list:=hl;have q2:RSl 6 Aw d (.slice la' b.list.length lc') b.list:=hl';have q3:RSl 1 A2 d (.slice ka a.keys.length kc) a.keys:=hks;have q4:RSl 1 A2 d (.slice ka' b.keys.length kc') b.keys:=hks';have hih:∀x∈a.list,∀y∈b.list,∀cs ds,Aw d cs x→Aw d ds y→AM P f [.agg cs.toArray,.agg ds.toArray] d (vZ (BA x y)):=fun x hx y hy cs ds hcx hcy=>ih x hx y ht hcx hcy (CR ma hx) (CR mb hy);show gwp P _ _ _ _ _;apply Ai;apply Ay;refine AO (l:=[vZ a.kind,vZ a.m,vZ a.e,Al a.text,.slice la a.list.length lc,.slice ka a.keys.length kc]) rfl (fun b2 T2=>?_);refine AO (l:=[vZ b.kind,vZ b.m,vZ b.e,Al b.text,.slice la' b.list.length lc',.slice ka' b.keys.length kc']) rfl (fun b3 T3=>?_);(refine Ab rfl<|Aa<|Ac<|Af rfl<|Ah rfl (Aj 1 rfl rfl)<|Af rfl<|Ah rfl (Aj 0 rfl rfl) ?_);refine AF rfl h1 ?_;(refine Ab rfl<|Aa ?_);refine Ct (fun ρ d' L'=>d'=d∧L'=[bx b3 T3 [vZ b.kind,vZ b.m,vZ b.e,Al b.text,.slice la' b.list.length lc',.slice ka' b.keys.length kc'],bx b2 T2 [vZ a.kind,vZ a.m,vZ a.e,Al a.text,.slice la a.list.length lc,.slice ka a.keys.length kc]]∧∃c:Int,A9 ρ [(2,pZ b2),(3,pZ b3),(5,vZ c)]∧BA a b=thn c (thn (C4 a.text b.text) (thn (BT C4 a.keys b.keys) (BT BA a.list b.list)))) ?_ ?_
 ·by_cases p1:a.kind=b.kind
  ·rw[p1,Dg rfl,DS] at hE;have hk:BQ a.kind b.kind=0:=Dg p1;by_cases p3:b.kind=3
   ·rw[if_pos p3] at hE;have hn:Dw a.m a.e b.m b.e=(Cn a.m a.e b.m b.e,0):=by rw[Dw,x6,y6];rfl
    have p3':a.kind=3:=by omega
    (refine Ac<|Ab rfl<|Aq rfl rfl<|Ad rfl<|AE rfl (by omega)<|Ae rfl<|Af rfl<|Ae rfl<|Ah rfl (Aj 1 rfl rfl)<|Ae rfl<|Aq rfl rfl<|Ap rfl rfl<|Aa<|Au rfl (by omega)<|Ay<|Af rfl<|BJ 1 rfl rfl rfl<|Af rfl<|BJ 0 rfl rfl rfl ?_);refine AF rfl (h2 ht im ie im' ie') ?_;rw[hn];(refine Bj rfl<|AL rfl rfl<|AL rfl rfl<|Ab rfl<|Aa ?_);exact⟨rfl,rfl,_,⟨rfl,rfl,rfl,trivial⟩,hE⟩
   ·rw[if_neg p3,DS] at hE;have p3':¬a.kind=3:=by omega
    (refine Ac<|Ab rfl<|Aq rfl rfl<|Ad rfl<|AE rfl (by omega)<|Ae rfl<|Af rfl<|Ae rfl<|Ah rfl (Aj 1 rfl rfl)<|Ae rfl<|Aq rfl rfl<|Ap rfl rfl<|Aa<|Ao rfl (by omega)<|Am ?_);exact⟨rfl,rfl,_,⟨rfl,rfl,rfl,trivial⟩,by rw[hk,DS];exact hE⟩
  ·have hk:¬BQ a.kind b.kind=0:=fun q=>p1 (Ei.1 q);rw[D7 hk] at hE;(refine Ac<|Ab rfl<|Aq rfl rfl<|Ad rfl<|AB rfl (by omega)<|Ak rfl<|Ak rfl<|Ak rfl<|An rfl rfl<|Aa<|AK rfl<|Am ?_);exact⟨rfl,rfl,_,⟨rfl,rfl,rfl,trivial⟩,by rw[D7 hk];exact hE⟩
 clear hE;rintro ρ d' L' ⟨hdd,hL,c,hs,hc⟩;subst hdd;subst hL;refine Bo _ hs ?_;clear hs;refine Ct (fun ρ d2 L'=>d2=d'∧L'=[bx b3 T3 [vZ b.kind,vZ b.m,vZ b.e,Al b.text,.slice la' b.list.length lc',.slice ka' b.keys.length kc'],bx b2 T2 [vZ a.kind,vZ a.m,vZ a.e,Al a.text,.slice la a.list.length lc,.slice ka a.keys.length kc]]∧∃c:Int,A9 ρ [(2,pZ b2),(3,pZ b3),(5,vZ c)]∧BA a b=thn c (thn (BT C4 a.keys b.keys) (BT BA a.list b.list))) ?_ ?_
 ·by_cases hz:c=0
  ·rw[hz,DS] at hc;(refine Ac<|Ab rfl<|Aq rfl rfl<|Aa<|Au rfl (by omega)<|Ay<|Af rfl<|Ah rfl (Aj 1 rfl rfl)<|Af rfl<|Ah rfl (Aj 0 rfl rfl) ?_);refine AF rfl h3 ?_;(refine Ab rfl<|Aa ?_);exact⟨rfl,rfl,_,⟨rfl,rfl,rfl,trivial⟩,hc⟩
  ·rw[D7 hz] at hc;(refine Ac<|Ab rfl<|Aq rfl rfl<|Aa<|Ao rfl (by omega)<|Am ?_);exact⟨rfl,rfl,c,⟨rfl,rfl,rfl,trivial⟩,by rw[D7 hz];exact hc⟩
 clear hc;rintro ρ d2 L' ⟨hdd,hL,c,hs,hc⟩;subst hdd;subst hL;refine Bo _ hs ?_;clear hs;refine Ct (fun ρ d3 L'=>d3=d2∧L'=[bx b3 T3 [vZ b.kind,vZ b.m,vZ b.e,Al b.text,.slice la' b.list.length lc',.slice ka' b.keys.length kc'],bx b2 T2 [vZ a.kind,vZ a.m,vZ a.e,Al a.text,.slice la a.list.length lc,.slice ka a.keys.length kc]]∧∃c:Int,A9 ρ [(2,pZ b2),(3,pZ b3),(5,vZ c)]∧((c=0∧BA a b=thn (BQ a.keys.length b.keys.length) (BT BA a.list b.list))∨(c≠0∧BA a b=c))) ?_ ?_
 ·apply Ai;apply Ay;(refine Ab rfl<|Aa ?_);apply Av;refine CD (α:=Int×Nat) (fun x=>[(2,pZ b2),(3,pZ b3),(5,vZ x.1),(6,vZ x.2)]) (fun _=>[bx b3 T3 [vZ b.kind,vZ b.m,vZ b.e,Al b.text,.slice la' b.list.length lc',.slice ka' b.keys.length kc'],bx b2 T2 [vZ a.kind,vZ a.m,vZ a.e,Al a.text,.slice la a.list.length lc,.slice ka a.keys.length kc]]) (fun x=>x.2≤a.keys.length∧x.2≤b.keys.length∧BA a b=thn x.1 (thn (BT C4 (a.keys.drop x.2) (b.keys.drop x.2)) (BT BA a.list b.list))) (fun x=>a.keys.length - x.2) (c,0) ⟨rfl,rfl,rfl,rfl,trivial⟩ rfl ⟨ZN _,ZN _,hc⟩ ?_;clear hc;rintro⟨c,i⟩ ρ ⟨hi,hj,hc⟩;simp only at hi hj hc;by_cases hz:c=0
  ·by_cases c1:i<a.keys.length
   ·by_cases c2:i<b.keys.length
    ·subst hz;rw[DS,H6 c1 c2] at hc;(refine Ai<|Ac<|Ab rfl<|Aq rfl rfl<|Ad rfl<|AE rfl (by omega)<|Ae rfl<|Ab rfl<|Ae rfl<|Af rfl<|Ae rfl<|Ah rfl (Aj 1 rfl rfl)<|Ae rfl<|AA rfl<|Ae rfl<|Ax rfl rfl<|Ap rfl rfl<|Ad rfl<|AE rfl (by omega)<|Ae rfl<|Ab rfl<|Ae rfl<|Af rfl<|Ae rfl<|Ah rfl (Aj 0 rfl rfl)<|Ae rfl<|AA rfl<|Ae rfl<|Ax rfl rfl<|Ap rfl rfl<|Aa<|Au rfl (by omega)<|Am<|Ai<|Av<|AT<|Af rfl<|Ah rfl (Aj 1 rfl rfl)<|Ab rfl<|AJ (sz:=1) (R:=A2) (by rfl) (by assumption) (by rfl) rfl (by omega) ?_;rintro _ _ _ _ _ ⟨rfl,_⟩;refine Ah rfl (A1 (by assumption) rfl)<|Af rfl<|Ah rfl (Aj 0 rfl rfl)<|Ab rfl<|AJ (sz:=1) (R:=A2) (by rfl) (by assumption) (by rfl) rfl (by omega) ?_;rintro _ _ _ _ _ ⟨rfl,_⟩;apply Ah;rfl;exact A1 (by assumption) rfl);refine AF rfl h3 ?_;(refine Bt<|Ab rfl<|Aa<|Ay<|Ab rfl<|AI rfl rfl (by omega) (by omega)<|Ab rfl<|Aa ?_);refine⟨(_,i+1),by simp only;omega,⟨rfl,rfl,rfl,int_eq (by simp only;omega),trivial⟩,rfl,rfl,by simp only;omega,by simp only;omega,?_⟩
     rw[hc];exact Ur _ _ _
    ·have he:=Ff (f:=C4) i a.keys b.keys hi hj (.inr (by omega));have hn:¬(i:Int)<b.keys.length:=by omega
     (refine Ai<|Ac<|Ab rfl<|Aq rfl rfl<|Ad rfl<|AE rfl (by omega)<|Ae rfl<|Ab rfl<|Ae rfl<|Af rfl<|Ae rfl<|Ah rfl (Aj 1 rfl rfl)<|Ae rfl<|AA rfl<|Ae rfl<|Ax rfl rfl<|Ap rfl rfl<|Ad rfl<|AE rfl (by omega)<|Ae rfl<|Ab rfl<|Ae rfl<|Af rfl<|Ae rfl<|Ah rfl (Aj 0 rfl rfl)<|Ae rfl<|AA rfl<|Ae rfl<|Ax rfl rfl<|Ap rfl rfl<|Aa<|Ao rfl (by omega)<|AV ?_);exact⟨rfl,rfl,c,⟨rfl,rfl,rfl,trivial⟩,.inl ⟨hz,by rw[hc,hz,he,DS]⟩⟩
   ·have he:=Ff (f:=C4) i a.keys b.keys hi hj (.inl (by omega));(refine Ai<|Ac<|Ab rfl<|Aq rfl rfl<|Ad rfl<|AE rfl (by omega)<|Ae rfl<|Ab rfl<|Ae rfl<|Af rfl<|Ae rfl<|Ah rfl (Aj 1 rfl rfl)<|Ae rfl<|AA rfl<|Ae rfl<|Ax rfl rfl<|Ap rfl rfl<|Ad rfl<|AB rfl (by omega)<|Ak rfl<|Ak rfl<|Ak rfl<|Ak rfl<|Ak rfl<|An rfl rfl<|Aa<|AK rfl<|AV ?_);exact⟨rfl,rfl,c,⟨rfl,rfl,rfl,trivial⟩,.inl ⟨hz,by rw[hc,hz,he,DS]⟩⟩
  ·(refine Ai<|Ac<|Ab rfl<|Aq rfl rfl<|Ad rfl<|AB rfl (by omega)<|Ak rfl<|Ak rfl<|Ak rfl<|Ak rfl<|Ak rfl<|An rfl rfl<|Ad rfl<|Ak rfl<|Ak rfl<|Ak rfl<|Ak rfl<|Ak rfl<|An rfl rfl<|Aa<|AK rfl<|AV ?_);exact⟨rfl,rfl,c,⟨rfl,rfl,rfl,trivial⟩,.inr ⟨hz,by rw[hc,D7 hz]⟩⟩
 clear hc;rintro ρ d3 L' ⟨hdd,hL,c,hs,hc⟩;subst hdd;subst hL;refine Bo _ hs ?_;clear hs;refine Ct (fun ρ d4 L'=>d4=d3∧L'=[bx b3 T3 [vZ b.kind,vZ b.m,vZ b.e,Al b.text,.slice la' b.list.length lc',.slice ka' b.keys.length kc'],bx b2 T2 [vZ a.kind,vZ a.m,vZ a.e,Al a.text,.slice la a.list.length lc,.slice ka a.keys.length kc]]∧∃c:Int,A9 ρ [(2,pZ b2),(3,pZ b3),(5,vZ c)]∧BA a b=thn c (BT BA a.list b.list)) ?_ ?_
 ·rcases hc with ⟨hz,hc⟩|⟨hz,hc⟩
  ·(refine Ac<|Ab rfl<|Aq rfl rfl<|Aa<|Au rfl (by omega)<|Ay<|Af rfl<|Ah rfl (Aj 1 rfl rfl)<|AA rfl<|Af rfl<|Ah rfl (Aj 0 rfl rfl)<|AA rfl ?_);refine AF rfl h1 ?_;(refine Ab rfl<|Aa ?_);exact⟨rfl,rfl,_,⟨rfl,rfl,rfl,trivial⟩,hc⟩
  ·(refine Ac<|Ab rfl<|Aq rfl rfl<|Aa<|Ao rfl (by omega)<|Am ?_);exact⟨rfl,rfl,c,⟨rfl,rfl,rfl,trivial⟩,by rw[D7 hz];exact hc⟩
 clear hc;rintro ρ d4 L' ⟨hdd,hL,c,hs,hc⟩;subst hdd;subst hL;refine Bo _ hs ?_;clear hs;refine Ct (fun ρ d5 L'=>d5=d4∧L'=[bx b3 T3 [vZ b.kind,vZ b.m,vZ b.e,Al b.text,.slice la' b.list.length lc',.slice ka' b.keys.length kc'],bx b2 T2 [vZ a.kind,vZ a.m,vZ a.e,Al a.text,.slice la a.list.length lc,.slice ka a.keys.length kc]]∧∃c:Int,A9 ρ [(2,pZ b2),(3,pZ b3),(5,vZ c)]∧((c=0∧BA a b=BQ a.list.length b.list.length)∨(c≠0∧BA a b=c))) ?_ ?_
 ·apply Ai;apply Ay;(refine Ab rfl<|Aa ?_);apply Av;refine CD (α:=Int×Nat) (fun x=>[(2,pZ b2),(3,pZ b3),(5,vZ x.1),(7,vZ x.2)]) (fun _=>[bx b3 T3 [vZ b.kind,vZ b.m,vZ b.e,Al b.text,.slice la' b.list.length lc',.slice ka' b.keys.length kc'],bx b2 T2 [vZ a.kind,vZ a.m,vZ a.e,Al a.text,.slice la a.list.length lc,.slice ka a.keys.length kc]]) (fun x=>x.2≤a.list.length∧x.2≤b.list.length∧BA a b=thn x.1 (BT BA (a.list.drop x.2) (b.list.drop x.2))) (fun x=>a.list.length - x.2) (c,0) ⟨rfl,rfl,rfl,rfl,trivial⟩ rfl ⟨ZN _,ZN _,hc⟩ ?_;clear hc;rintro⟨c,i⟩ ρ ⟨hi,hj,hc⟩;simp only at hi hj hc;by_cases hz:c=0
  ·by_cases c1:i<a.list.length
   ·by_cases c2:i<b.list.length
    ·subst hz;rw[DS,H6 c1 c2] at hc;(refine Ai<|Ac<|Ab rfl<|Aq rfl rfl<|Ad rfl<|AE rfl (by omega)<|Ae rfl<|Ab rfl<|Ae rfl<|Af rfl<|Ae rfl<|Ah rfl (Aj 1 rfl rfl)<|Ae rfl<|AA rfl<|Ae rfl<|Ax rfl rfl<|Ap rfl rfl<|Ad rfl<|AE rfl (by omega)<|Ae rfl<|Ab rfl<|Ae rfl<|Af rfl<|Ae rfl<|Ah rfl (Aj 0 rfl rfl)<|Ae rfl<|AA rfl<|Ae rfl<|Ax rfl rfl<|Ap rfl rfl<|Aa<|Au rfl (by omega)<|Am<|Ai<|Av<|AT<|Af rfl<|Ah rfl (Aj 1 rfl rfl)<|Ab rfl<|AJ (sz:=6) (R:=Aw) (by rfl) (by assumption) (by rfl) rfl (by omega) ?_;rintro _ _ _ _ _ _;refine BE rfl (by assumption) (by assumption)<|Af rfl<|Ah rfl (Aj 0 rfl rfl)<|Ab rfl<|AJ (sz:=6) (R:=Aw) (by rfl) (by assumption) (by rfl) rfl (by omega) ?_;rintro _ _ _ _ _ _;apply BE;rfl;assumption;assumption);rename_i cs1 hcs1 hD1 hR1 _ _ cs2 hcs2 hD2 hR2;refine AF rfl (hih _ (ZC c1) _ (ZC c2) _ _ hR1 hR2) ?_;(refine Bt<|Ab rfl<|Aa<|Ay<|Ab rfl<|AI rfl rfl (by omega) (by omega)<|Ab rfl<|Aa ?_);refine⟨(_,i+1),by simp only;omega,⟨rfl,rfl,rfl,int_eq (by simp only;omega),trivial⟩,rfl,rfl,by simp only;omega,by simp only;omega,?_⟩
     exact hc
    ·have he:=Ff (f:=BA) i a.list b.list hi hj (.inr (by omega));have hn:¬(i:Int)<b.list.length:=by omega
     (refine Ai<|Ac<|Ab rfl<|Aq rfl rfl<|Ad rfl<|AE rfl (by omega)<|Ae rfl<|Ab rfl<|Ae rfl<|Af rfl<|Ae rfl<|Ah rfl (Aj 1 rfl rfl)<|Ae rfl<|AA rfl<|Ae rfl<|Ax rfl rfl<|Ap rfl rfl<|Ad rfl<|AE rfl (by omega)<|Ae rfl<|Ab rfl<|Ae rfl<|Af rfl<|Ae rfl<|Ah rfl (Aj 0 rfl rfl)<|Ae rfl<|AA rfl<|Ae rfl<|Ax rfl rfl<|Ap rfl rfl<|Aa<|Ao rfl (by omega)<|AV ?_);exact⟨rfl,rfl,c,⟨rfl,rfl,rfl,trivial⟩,.inl ⟨hz,by rw[hc,hz,he,DS]⟩⟩
   ·have he:=Ff (f:=BA) i a.list b.list hi hj (.inl (by omega));(refine Ai<|Ac<|Ab rfl<|Aq rfl rfl<|Ad rfl<|AE rfl (by omega)<|Ae rfl<|Ab rfl<|Ae rfl<|Af rfl<|Ae rfl<|Ah rfl (Aj 1 rfl rfl)<|Ae rfl<|AA rfl<|Ae rfl<|Ax rfl rfl<|Ap rfl rfl<|Ad rfl<|AB rfl (by omega)<|Ak rfl<|Ak rfl<|Ak rfl<|Ak rfl<|Ak rfl<|An rfl rfl<|Aa<|AK rfl<|AV ?_);exact⟨rfl,rfl,c,⟨rfl,rfl,rfl,trivial⟩,.inl ⟨hz,by rw[hc,hz,he,DS]⟩⟩
  ·(refine Ai<|Ac<|Ab rfl<|Aq rfl rfl<|Ad rfl<|AB rfl (by omega)<|Ak rfl<|Ak rfl<|Ak rfl<|Ak rfl<|Ak rfl<|An rfl rfl<|Ad rfl<|Ak rfl<|Ak rfl<|Ak rfl<|Ak rfl<|Ak rfl<|An rfl rfl<|Aa<|AK rfl<|AV ?_);exact⟨rfl,rfl,c,⟨rfl,rfl,rfl,trivial⟩,.inr ⟨hz,by rw[hc,D7 hz]⟩⟩
 clear hc;rintro ρ d5 L' ⟨hdd,hL,c,hs,hc⟩;subst hdd;subst hL;refine Bo _ hs ?_;clear hs;rcases hc with ⟨hz,hc⟩|⟨hz,hc⟩
 ·(refine Ai<|Ac<|Ab rfl<|Aq rfl rfl<|Aa<|Au rfl (by omega)<|Ay<|Af rfl<|Ah rfl (Aj 1 rfl rfl)<|AA rfl<|Af rfl<|Ah rfl (Aj 0 rfl rfl)<|AA rfl ?_);refine AF rfl h1 ?_;(refine Ab rfl<|Aa<|Ac<|Ab rfl<|Ab rfl<|Aa<|Ar ?_);exact BI (int_eq hc.symm)
 ·(refine Ai<|Ac<|Ab rfl<|Aq rfl rfl<|Aa<|Ao rfl (by omega)<|Am<|Ac<|Ab rfl<|Ab rfl<|Aa<|Ar ?_);exact BI (int_eq hc.symm)
end Go.Gk.Val
end
section
namespace Go.Gk
open Go
def A8.apart{P f vs d L R}(hc:Ey P f)(h:L.Pairwise DG→A8 P f vs d L R):A8 P f vs d L R:=
 ⟨hc,fun F W x=>(h (x.pw.sublist (List.sublist_cons_self ..))).2 F W x⟩
end Go.Gk
end
section
namespace Go.Gk.Val
open Go Go.Gk Go.Gk.Srt
def Mm:Ord BA:=⟨Fb,fun a b e h1 h2=>(Tv a b e).1 h1 h2⟩
def OV{α}(f:α→V):Ord (fun a b=>BA (f a) (f b)):=⟨fun a b=>Fb _ _,fun a b e=>Mm.tr _ _ _⟩
end Go.Gk.Val
end
section
namespace Go.Gk.Val
open Go Go.Gk Go.Gk.Utf Go.Gk.Srt
section
section
variable {α:Type}{c:α→α→Int}{e:α→α→Bool}
def Ii(he:∀x y,e x y=true↔x=y):∀(l:List α) (p x:α),x∈p::Dp e p l↔x∈p::l
 |[],p,x=>by simp[Dp]
 |y::l,p,x=>by
  simp only[Dp];by_cases h:e y p=true
  ·rw[if_pos h];have:=(he y p).1 h;subst this;rw[Ii he l y x];simp
  ·rw[if_neg h];have:=Ii he l y x;rw[ZR,this,ZR (a:=x) (b:=p)]
def Hn(oc:Ord c)(h0:∀x y,e x y=true↔x=y):∀(l:List α) (p:α),(∀x∈p::l,∀y∈p::l,c x y=0→x=y)→Srt c (p::l)→(p::Dp e p l).Pairwise fun x y=>c x y<0
 |[],p,_,_=>by simp[Dp]
 |y::l,p,ha,hs=>by
  have hs':=Aah.1 hs;simp only[Dp];by_cases h:e y p=true
  ·rw[if_pos h];have:=(h0 y p).1 h;subst this;exact Hn oc h0 l y (fun x hx z hz=>ha x (ZE _ hx) z (ZE _ hz)) hs'.2
  ·rw[if_neg h];have ih:=Hn oc h0 l y (fun x hx z hz=>ha x (ZE _ hx) z (ZE _ hz)) hs'.2;refine Aah.2 ⟨fun z hz=>?_,ih⟩;have hz':z∈y::l:=(Ii h0 l y z).1 hz;have h1:c p z≤0:=hs'.1 z hz';have hpy:c p y≠0:=fun q=>h ((h0 y p).2 (ha p (ZG ..) y (by simp) q).symm);have h2:c p y≤0:=hs'.1 y (ZG ..);rcases Int.lt_or_eq_of_le h1 with q|q
   ·exact q
   ·exfalso;have hpz:=ha p (ZG ..) z (ZE _ hz') q;subst hpz;have hyp:c y p≤0:=by
     rcases ZR.1 hz with r|r
     ·subst r;exact absurd ((h0 p p).2 rfl) h
     ·exact Int.le_of_lt ((Aah.1 ih).1 p r)
    have:=oc.sw p y;omega
def NN(oc:Ord c)(h0:∀x y,e x y=true↔x=y){l:List α}(ha:∀x∈l,∀y∈l,c x y=0→x=y)(hs:Srt c l):((B2 e l).Pairwise fun x y=>c x y<0)∧∀x,x∈B2 e l↔x∈l:=by
 cases l with
 |nil=>exact⟨List.Pairwise.nil,fun x=>Iff.rfl⟩
 |cons p l=>exact⟨Hn oc h0 l p ha hs,fun x=>Ii h0 l p x⟩
def GY(oc:Ord c):∀{l m:List α},(l.Pairwise fun x y=>c x y<0)→(m.Pairwise fun x y=>c x y<0)→(∀x,x∈l↔x∈m)→l=m
 |[],[],_,_,_=>rfl
 |[],y::m,_,_,h=>absurd ((h y).2 (ZG ..)) (Abl)
 |x::l,[],_,_,h=>absurd ((h x).1 (ZG ..)) (Abl)
 |x::l,y::m,hl,hm,h=>by
  have hl':=Aah.1 hl;have hm':=Aah.1 hm;have hxx:∀z,¬c z z<0:=fun z q=>by have:=oc.sw z z;omega
  have hxy:x=y:=by
   rcases ZR.1 ((h x).1 (ZG ..)) with q|q
   ·exact q
   ·rcases ZR.1 ((h y).2 (ZG ..)) with r|r
    ·exact r.symm
    ·have a:=hm'.1 x q;have b:=hl'.1 y r;have:=oc.sw x y;omega
  subst hxy;congr 1;refine GY oc hl'.2 hm'.2 fun z=>?_;constructor
  ·intro hz;rcases ZR.1 ((h z).1 (ZE _ hz)) with q|q
   ·subst q;exact absurd (hl'.1 z hz) (hxx z)
   ·exact q
  ·intro hz;rcases ZR.1 ((h z).2 (ZE _ hz)) with q|q
   ·subst q;exact absurd (hm'.1 z hz) (hxx z)
   ·exact q
end
def Ord.rev{α}{c:α→α→Int}(o:Ord c):Ord (fun a b=>c b a):=⟨fun a b=>o.sw b a,fun a b e h k=>o.tr e b a k h⟩
def Oc(v:V):V:=.mk 5 0 0 [] v.list []
def X9(a b:V):BT BA a.list b.list=BA (Oc a) (Oc b):=by
 rw[E0];have h0:BQ 5 5=0:=by decide
 have h1:C4 [] []=0:=by decide
 simp[Oc,V.kind,V.text,V.keys,V.list,h0,h1,thn,BT]
def cN(p q:Nm):Int:=BA (Oc q.2) (Oc p.2)
def YC:Ord cN:=Ord.rev (OV fun p:Nm=>Oc p.2)
def P2:Ord fun x y:V=>BA y x:=Ord.rev (OV fun x:V=>x)
def NT(x:V):List V→List V
 |[]=>[x]
 |y::l=>if 0<BA x y then x::y::l else if BA x y=0 then y::l else y::NT x l
def ER:List V→List V
 |[]=>[]
 |x::l=>NT x (ER l)
def Pj{x:V}:∀{l:List V},BH x=true→(∀y∈l,BH y=true)→(l.Pairwise fun a b=>BA b a<0)→((NT x l).Pairwise fun a b=>BA b a<0)∧∀z,z∈NT x l↔z=x∨z∈l
 |[],_,_,_=>by simp[NT]
 |y::l,hx,hl,hs=>by
  have hs':=Aah.1 hs;simp only[NT];by_cases h1:0<BA x y
  ·rw[if_pos h1];refine⟨Aah.2 ⟨fun z hz=>?_,hs⟩,fun z=>by simp⟩
   have hyx:BA y x<0:=by have:=Fb y x;omega
   rcases ZR.1 hz with rfl|hz
   ·exact hyx
   ·have a:=hs'.1 z hz;have t:=Mm.tr z y x (by omega) (by omega);rcases Int.lt_or_eq_of_le t with q|q
    ·exact q
    ·exfalso;have e:=(H5 (hl z (ZE _ hz)) hx).1 q;subst e;have:=Fb z y;omega
  rw[if_neg h1];by_cases h2:BA x y=0
  ·rw[if_pos h2];have e:=(H5 hx (hl y (ZG ..))).1 h2;subst e;exact⟨hs,fun z=>by simp⟩
  ·rw[if_neg h2];obtain⟨i1,i2⟩:=Pj (l:=l) hx (fun z hz=>hl z (ZE _ hz)) hs'.2;refine⟨Aah.2 ⟨fun z hz=>?_,i1⟩,fun z=>by simp only[ZR,i2];constructor<;>(rintro(h|h|h)<;>simp[h])⟩
   rcases (i2 z).1 hz with rfl|hz
   ·omega
   ·exact hs'.1 z hz
def G4:∀{l:List V},(∀y∈l,BH y=true)→((ER l).Pairwise fun a b=>BA b a<0)∧∀z,z∈ER l↔z∈l
 |[],_=>⟨List.Pairwise.nil,fun _=>Iff.rfl⟩
 |x::l,h=>by
  obtain⟨i1,i2⟩:=G4 (l:=l) (fun z hz=>h z (ZE _ hz));obtain⟨j1,j2⟩:=Pj (x:=x) (l:=ER l) (h x (ZG ..)) (fun y hy=>h y (ZE _ ((i2 y).1 hy))) i1;exact⟨j1,fun z=>by rw[ER,j2,i2,ZR]⟩
def Ry{l m:List V}(hl:∀y∈l,BH y=true)(hp:∀x,x∈m↔x∈l)(hs:Srt (fun x y=>BA y x) m):B2 Ck m=ER l:=by
 obtain⟨d1,d2⟩:=G4 hl;obtain⟨c1,c2⟩:=NN (e:=Ck) P2 CP (l:=m) (fun x hx y hy h=>((H5 (hl y ((hp y).1 hy)) (hl x ((hp x).1 hx))).1 h).symm) hs;exact GY P2 c1 d1 fun x=>by rw[c2,d2,hp]
def DT(v:V)(ws:List (List St)):V×Int:=if AS v≠0 then(V.zero,AS v) else if ws.all Dc then FG v (ER (ws.map BU)) else(V.zero,2)
def Pp{p:Nm}:∀l:List Nm,(Dp (fun a b=>Ck a.2 b.2) p l).map (·.2)=Dp Ck p.2 (l.map (·.2))
 |[]=>rfl
 |x::l=>by
  have ih:=Pp (p:=x) l;simp only[Dp,Abc];split
  ·exact ih
  ·rw[Abc,ih]
def RI(l:List Nm):(B2 (fun a b=>Ck a.2 b.2) l).map (·.2)=B2 Ck (l.map (·.2)):=by
 cases l with
 |nil=>rfl
 |cons x l=>simp only[B2,Abc,Pp]
end
end Go.Gk.Val
end
section
namespace Go.Gk
open Go Srt
attribute [local irreducible] gwp gws
def EI:A6:=⟨53,[],(sR (om 10 1<|ob 11 .add 10 z1<|om 8 11 .done) (.block 0 (.loop (.seq (sR (om 12 8<|om 13 2<|ob 14 .lss 12 13 .done) (.cond 14 .skip (.exit 0))) (.seq (.block 1 (sR (om 17 8<|om 9 17 .done) (.block 2 (.loop (.seq (.seq (.reg true (pm 18 9<|pm 19 1<|p1 20 (.bin .gtr 18 19)<|pm 21 20 (.op true ⟨(some 22),(some (21,true)),(.mv 3)⟩ (.op true ⟨(some 23),(some (21,true)),(.mv 0)⟩ (.op true ⟨(some 24),(some (21,true)),(.mv 9)⟩ (.op true ⟨(some 25),(some (21,true)),(.idx 7 23 24)⟩ (.op true ⟨(some 26),(some (21,true)),(.ld (some 7) 25)⟩ (.op true ⟨(some 27),(some (21,true)),(.mv 0)⟩ (.op true ⟨(some 28),(some (21,true)),(.mv 9)⟩ (.op true ⟨(some 29),(some (21,true)),(.bin .sub 28 z1)⟩ (.op true ⟨(some 30),(some (21,true)),(.idx 7 27 29)⟩ (.op true ⟨(some 31),(some (21,true)),(.ld (some 7) 30)⟩ (oT 32 21 (.callv 22 [26,31]) (.op true ⟨(some 33),(some (21,true)),(.bin .lss 32 z0)⟩ (p1 34 (.pick 21 33 (.const (.bool false))) .done))))))))))))))) (.cond 34 .skip (.exit 2))) (.seq (.block 3 (.reg true (pm 37 0<|pm 38 9<|pm 39 0<|pm 40 9<|p1 41 (.bin .sub 40 z1)<|pm 42 0<|pm 43 9<|p1 44 (.bin .sub 43 z1)<|p1 45 (.idx 7 42 44)<|pm 47 0<|pm 48 9<|p1 49 (.idx 7 47 48) (.alt ⟨(some 46),none,(.ld (some 7) 45)⟩ (o1 50 (.ld (some 7) 49) (p1 51 (.idx 7 37 38) (o0 (.st 7 51 46) (p1 52 (.idx 7 39 41) (o0 (.st 7 52 50) .done))))) (o1 50 (.ld (some 7) 49) (o1 46 (.ld (some 7) 45) (p1 51 (.idx 7 37 38) (o0 (.st 7 51 46) (p1 52 (.idx 7 39 41) (o0 (.st 7 52 50) .done)))))))))) (rG (om 35 9<|ob 36 .sub 35 z1<|om 9 36 .done)))))))) (rG (om 15 8<|ob 16 .add 15 z1<|om 8 16 .done)))))))⟩
set_option maxHeartbeats 1000000 in
def Mn{P f}(hd:dec P f=some EI):SM 7 P f:=by
 intro α R c d pa n cp h g A M B ia ib oc hc1 ho hg ea eb;subst ea;subst eb;have hll:=ho.Be;simp only[ZH] at hll;refine Bd hd (No rfl) ?_;show gwp P _ _ _ _ _;(refine Ac<|Ab rfl<|AI rfl rfl (by omega) (by omega)<|Ab rfl<|Aa<|Av ?_);refine Bg (α:=Nat) (fun k=>[(0,.slice pa n cp),(1,vZ A.length),(2,vZ (A.length+M.length:Nat)),(3,.func (.func g) #[] #[]),(8,vZ (A.length+1+k:Nat))])
  (fun k d' L'=>d'=d∧∃S N h',S.length - 1=k∧(S++N).Perm M∧Srt c S∧(S=[]→N=[])∧L'=[h']∧AN 7 R d (.slice pa n cp) (A++(S++N)++B) h')
  (fun k=>M.length - k) 0 ⟨rfl,rfl,rfl,rfl,int_eq (by omega),trivial⟩ ⟨rfl,M.take 1,M.drop 1,h,?_,by simp only[ZM];exact Abf _,?_,?_,rfl,by simp only[ZM];exact ho⟩ ?_
 ·simp;omega
 ·cases M with
  |nil=>exact Srt.nil
  |cons m M=>exact Srt.one m
 ·cases M<;>simp
 rintro k ρ d' L' ⟨hdd,S,N,h',hk,hpm,hsrt,h0,hL,ho'⟩;subst hdd;subst hL;have hlen:=hpm.length_eq;simp only[ZH] at hlen;cases N with
 |nil=>
  simp only[Aal] at hlen
  (refine Ai<|Ac<|Ab rfl<|Ab rfl<|Ax rfl rfl<|Aa<|Ao rfl (by omega)<|AV ?_)
  refine Iy _ (ZS _) ?_
  exact⟨rfl,S,h',rfl,by simpa using ho',by simpa using hpm,hsrt⟩
 |cons x N=>
  have hS:S≠[]:=fun q=>by have:=h0 q;cases this
  have hSl:S.length≠0:=fun q=>hS (ZD q)
  simp only[ZU] at hlen
  (refine Ai<|Ac<|Ab rfl<|Ab rfl<|Ax rfl rfl<|Aa<|Au rfl (by omega)<|Am<|Ai<|Av<|Ac<|Ab rfl<|Ab rfl<|Aa<|Av ?_)
  refine Bg (α:=Nat) (fun j=>[(0,.slice pa n cp),(1,vZ A.length),(2,vZ (A.length+M.length:Nat)),(3,.func (.func g) #[] #[]),(8,vZ (A.length+1+k:Nat)),(9,vZ (A.length+j:Nat))])
   (fun j d2 L'=>d2=d'∧∃S1 S2 h',S1.length=j∧S1++S2=S∧(S2=[]∨∃z,S2.head?=some z∧c x z≤0)∧L'=[h']∧AN 7 R d' (.slice pa n cp) (A++(S1++x::S2++N)++B) h')
   (fun j=>j) S.length ⟨rfl,rfl,rfl,rfl,rfl,int_eq (by omega),trivial⟩ ⟨rfl,S,[],h',rfl,by simp,.inl rfl,rfl,by simpa using ho'⟩ ?_
  rintro j ρ d2 L' ⟨hdd,S1,S2,h2,hj,hS12,hx2,hL,ho2⟩
  subst hdd;subst hL
  rcases List.eq_nil_or_concat S1 with rfl|⟨S1,y,rfl⟩
  ·simp only[Aal] at hj
   simp only[Z5] at hS12
   subst hS12
   (refine Ai<|Ai<|AT<|Ab rfl<|Ab rfl<|AP rfl rfl<|Ad rfl<|AB rfl (by omega)<|Ak rfl<|Ak rfl<|Ak rfl<|Ak rfl<|Ak rfl<|Ak rfl<|Ak rfl<|Ak rfl<|Ak rfl<|Ak rfl<|Ak rfl<|Ak rfl<|An rfl rfl<|AW<|AK rfl<|AV<|Ay<|Ab rfl<|AI rfl rfl (by omega) (by omega)<|Ab rfl<|Aa ?_)
   refine⟨k+1,by omega,⟨rfl,rfl,rfl,rfl,int_eq (by omega),trivial⟩,rfl,x::S2,N,h2,by simp;omega,?_,?_,by simp,rfl,by simpa using ho2⟩
   ·exact(List.perm_middle (l₁:=S2) (l₂:=N) (a:=x)).symm.trans hpm
   ·exact Srt.put oc (l:=[]) (by simpa using hsrt) (.inl rfl) hx2
  ·rw[List.concat_eq_append] at hS12 ho2 hj
   simp only[ZH,ZU,Aal] at hj
   have e1:A++(S1++[y]++x::S2++N)++B=(A++S1)++y::([]:List α)++x::(S2++N++B):=by simp
   have hpx:(A++(S1++[y]++x::S2++N)++B).Perm (A++M++B):=by
    refine(Abe A ?_).append_right B;refine List.Perm.trans ?_ hpm;rw[←hS12];simp only[Zy,Z6,Z5];refine Abe S1 ?_;refine(Z1 y ?_)
    exact List.perm_middle.symm
   have hg2:=hg.perm hpx
   obtain⟨b,T,l,hpa,hn,hh,hll2,hRl,hsw⟩:=ho2.NG (by omega) (by simp;omega)
   have hlx:(A++(S1++[y]++x::S2++N)++B).length=A.length+M.length+B.length:=by rw[hpx.length_eq];simp;omega
   subst hpa;subst hh
   have hb:S1.length+1<M.length:=by have:=congrArg Abu hS12;simp at this;omega
   have hRy:=hRl (A.length+S1.length) (by omega)
   have hRx:=hRl (A.length+S1.length+1) (by omega)
   have g1:(A++(S1++[y]++x::S2++N)++B)[A.length+S1.length]'(by omega)=y:=FD (A++S1) (x::S2++N++B) (by simp) (by simp) _
   have g2:(A++(S1++[y]++x::S2++N)++B)[A.length+S1.length+1]'(by omega)=x:=FD (A++S1++[y]) (S2++N++B) (by simp) (by simp;omega) _
   rw[g1] at hRy;rw[g2] at hRx
   have my:y∈A++(S1++[y]++x::S2++N)++B:=by simp
   have mx:x∈A++(S1++[y]++x::S2++N)++B:=by simp
   (refine Ai<|Ai<|AT<|Ab rfl<|Ab rfl<|AP rfl rfl<|Ad rfl<|AE rfl (by omega)<|Ae rfl<|CV rfl<|Ae rfl<|As rfl<|Ae rfl<|Ab rfl<|Ae rfl ?_)
   refine Cg (A.length+S1.length+1) rfl rfl (by omega) (by omega) ?_
   apply Ae;rfl
   refine CH 0 rfl rfl (by omega) ?_
   (refine Ae rfl<|As rfl<|Ae rfl<|Ab rfl<|Ae rfl<|Bn rfl rfl (by omega) (by omega)<|Ae rfl ?_)
   refine Cg (A.length+S1.length) rfl rfl (by omega) (by omega) ?_
   apply Ae;rfl
   refine CH 0 rfl rfl (by omega) ?_
   apply Ae;rfl
   refine Ea rfl rfl (hg2 x mx y my _ _ hRx hRy) ?_
   by_cases hlt:c x y<0
   ·(refine Ae rfl<|Ax rfl rfl<|Ap rfl rfl<|AW<|Au rfl (by omega)<|Am<|Ai<|Av ?_)
    refine Hw [] [0] rfl ?_
    have hs1:=hsw (A.length+S1.length+1) (A.length+S1.length) (by omega) (by omega)
    rw[g1,g2,List.set_comm _ _ (by omega),e1,Lr (by simp) (by simp),show A++S1++x::[]++y::(S2++N++B)=A++(S1++x::(y::S2)++N)++B by simp] at hs1
    (refine As rfl<|Ab rfl<|As rfl<|Ab rfl<|Bn rfl rfl (by omega) (by omega)<|As rfl<|Ab rfl<|Bn rfl rfl (by omega) (by omega) ?_)
    refine Cg (A.length+S1.length) rfl rfl (by omega) (by omega) ?_
    (refine As rfl<|Ab rfl ?_)
    refine Cg (A.length+S1.length+1) rfl rfl (by omega) (by omega) ?_
    refine Dx ?_ ?_
    ·refine CH 0 rfl rfl (by omega) ?_
     refine CH 0 rfl rfl (by omega) ?_
     refine Cg (A.length+S1.length+1) rfl rfl (by omega) (by omega) ?_
     refine Ga 0 rfl rfl rfl (Dr (by omega)) (by omega) (hc1 _ _ _ hRy) ?_
     refine Cg (A.length+S1.length) rfl rfl (by omega) (by omega) ?_
     refine Ga 0 rfl rfl rfl (Dr (by omega)) (by rw[EM (by rw[Dr (by omega)];omega)];omega) (hc1 _ _ _ hRx) ?_
     (refine Aa<|Ay<|Ab rfl<|Bn rfl rfl (by omega) (by omega)<|Ab rfl<|Aa ?_)
     exact⟨j - 1,by omega,⟨rfl,rfl,rfl,rfl,rfl,int_eq (by omega),trivial⟩,rfl,S1,y::S2,_,by omega,by rw[←hS12];simp,.inr ⟨y,rfl,oc.le_of_lt hlt⟩,rfl,hs1⟩
    ·refine CH 0 rfl rfl (by omega) ?_
     refine CH 0 rfl rfl (by omega) ?_
     refine Cg (A.length+S1.length+1) rfl rfl (by omega) (by omega) ?_
     refine Ga 0 rfl rfl rfl (Dr (by omega)) (by omega) (hc1 _ _ _ hRy) ?_
     refine Cg (A.length+S1.length) rfl rfl (by omega) (by omega) ?_
     refine Ga 0 rfl rfl rfl (Dr (by omega)) (by rw[EM (by rw[Dr (by omega)];omega)];omega) (hc1 _ _ _ hRx) ?_
     (refine Aa<|Ay<|Ab rfl<|Bn rfl rfl (by omega) (by omega)<|Ab rfl<|Aa ?_)
     exact⟨j - 1,by omega,⟨rfl,rfl,rfl,rfl,rfl,int_eq (by omega),trivial⟩,rfl,S1,y::S2,_,by omega,by rw[←hS12];simp,.inr ⟨y,rfl,oc.le_of_lt hlt⟩,rfl,hs1⟩
   ·(refine Ae rfl<|Ax rfl rfl<|Ap rfl rfl<|AW<|Ao rfl (by omega)<|AV<|Ay<|Ab rfl<|AI rfl rfl (by omega) (by omega)<|Ab rfl<|Aa ?_)
    refine⟨k+1,by omega,⟨rfl,rfl,rfl,rfl,int_eq (by omega),trivial⟩,rfl,S1++[y]++x::S2,N,bx b T l,?_,?_,?_,by simp,rfl,ho2⟩
    ·have:=congrArg Abu hS12;simp at this;simp;omega
    ·refine List.Perm.trans ?_ hpm
     rw[←hS12]
     simp only[Zy,Z6,Z5]
     exact(Abe S1 ((List.perm_middle.symm).cons y))
    ·exact Srt.put oc (l:=S1++[y]) (by rw[hS12];exact hsrt) (.inr ⟨y,by simp,oc.le_of_not_lt hlt⟩) hx2
def E2:A6:=⟨38,[],(sR (o1 10 (.mv z0) .done) (.block 0 (.loop (.seq (sR (om 11 10<|om 12 3<|ob 13 .lss 11 12 .done) (.cond 13 .skip (.exit 0))) (.seq (.block 1 (.reg true (pm 16 0<|pm 17 1<|pm 18 10<|p1 19 (.bin .add 17 18)<|pm 20 0<|pm 21 2<|pm 22 10<|p1 23 (.bin .add 21 22)<|pm 24 0<|pm 25 2<|pm 26 10<|p1 27 (.bin .add 25 26)<|p1 28 (.idx 7 24 27)<|pm 30 0<|pm 31 1<|pm 32 10<|p1 33 (.bin .add 31 32)<|p1 34 (.idx 7 30 33) (.alt ⟨(some 29),none,(.ld (some 7) 28)⟩ (o1 35 (.ld (some 7) 34) (p1 36 (.idx 7 16 19) (o0 (.st 7 36 29) (p1 37 (.idx 7 20 23) (o0 (.st 7 37 35) .done))))) (o1 35 (.ld (some 7) 34) (o1 29 (.ld (some 7) 28) (p1 36 (.idx 7 16 19) (o0 (.st 7 36 29) (p1 37 (.idx 7 20 23) (o0 (.st 7 37 35) .done)))))))))) (rG (om 14 10<|ob 15 .add 14 z1<|om 10 15 .done)))))))⟩
set_option maxHeartbeats 1000000 in
def LI{P f}(hd:dec P f=some E2):Qk 7 P f:=by
 intro α R d pa n cp h g A X M Y B ia ib im hc1 ho hxy ea eb em;subst ea;subst eb;subst em;have hll:=ho.Be;simp only[ZH] at hll;refine Bd hd (No rfl) ?_;show gwp P _ _ _ _ _;(refine Ac<|Ab rfl<|Aa<|Av ?_);refine Bg (α:=Nat) (fun i=>[(0,.slice pa n cp),(1,vZ A.length),(2,vZ (A.length+X.length+M.length:Nat)),(3,vZ X.length),(10,vZ i)])
  (fun i d' L'=>d'=d∧i≤X.length∧∃h',L'=[h']∧AN 7 R d (.slice pa n cp) (A++(Y.take i++X.drop i)++M++(X.take i++Y.drop i)++B) h')
  (fun i=>X.length - i) 0 ⟨rfl,rfl,rfl,rfl,rfl,trivial⟩ ⟨rfl,ZN _,h,rfl,by simpa using ho⟩ ?_
 rintro i ρ d' L' ⟨hdd,hi,h',hL,ho'⟩;subst hdd;subst hL;by_cases hc:i<X.length
 ·have hc2:i<Y.length:=by omega
  have e1:A++(Y.take i++X.drop i)++M++(X.take i++Y.drop i)++B=(A++Y.take i)++X[i]::(X.drop (i+1)++M++X.take i)++Y[i]::(Y.drop (i+1)++B):=by
   rw[ZT hc,ZT hc2];simp only[Zy,Z6,Z5]
  have e2:(A++Y.take i)++Y[i]::(X.drop (i+1)++M++X.take i)++X[i]::(Y.drop (i+1)++B)=A++(Y.take (i+1)++X.drop (i+1))++M++(X.take (i+1)++Y.drop (i+1))++B:=by
   rw[ZA hc,ZA hc2];simp only[Zy,Z6,Z5]
  rw[e1] at ho';have hlx:((A++Y.take i)++X[i]::(X.drop (i+1)++M++X.take i)++Y[i]::(Y.drop (i+1)++B)).length=A.length+X.length+M.length+Y.length+B.length:=by
   rw[←e1];simp;omega
  obtain⟨b,T,l,hpa,hn,hh,hll2,hRl,hsw⟩:=ho'.NG (by omega) (by omega);subst hpa;subst hh;have q1:(A++Y.take i).length=A.length+i:=by simp;omega
  have q2:(X.drop (i+1)++M++X.take i).length=X.length+M.length - 1:=by simp;omega
  have hRy:=hRl (A.length+X.length+M.length+i) (by omega);have hRx:=hRl (A.length+i) (by omega);have hs1:=hsw (A.length+i) (A.length+X.length+M.length+i) (by omega) (by omega);have g1:((A++Y.take i)++X[i]::(X.drop (i+1)++M++X.take i)++Y[i]::(Y.drop (i+1)++B))[A.length+i]'(by omega)=X[i]:=FD (A++Y.take i) ((X.drop (i+1)++M++X.take i)++Y[i]::(Y.drop (i+1)++B)) (by simp) (by omega) _;have g2:((A++Y.take i)++X[i]::(X.drop (i+1)++M++X.take i)++Y[i]::(Y.drop (i+1)++B))[A.length+X.length+M.length+i]'(by omega)=Y[i]:=FD ((A++Y.take i)++X[i]::(X.drop (i+1)++M++X.take i)) (Y.drop (i+1)++B) (by simp) (by rw[ZH,ZU,q1,q2];omega) _;rw[g2] at hRy;rw[g1] at hRx;rw[g1,g2,Lr (by omega) (by omega),e2] at hs1;(refine Ai<|Ac<|Ab rfl<|Ab rfl<|Ax rfl rfl<|Aa<|Au rfl (by omega)<|Am<|Ai<|Av ?_);refine Hw [] [0] rfl ?_;(refine As rfl<|Ab rfl<|Ab rfl<|AI rfl rfl (by omega) (by omega)<|As rfl<|Ab rfl<|Ab rfl<|AI rfl rfl (by omega) (by omega)<|As rfl<|Ab rfl<|Ab rfl<|AI rfl rfl (by omega) (by omega) ?_);refine Cg (A.length+X.length+M.length+i) rfl rfl (by omega) (by omega) ?_;(refine As rfl<|Ab rfl<|Ab rfl<|AI rfl rfl (by omega) (by omega) ?_);refine Cg (A.length+i) rfl rfl (by omega) (by omega) ?_;refine Dx ?_ ?_
  ·refine CH 0 rfl rfl (by omega) ?_;refine CH 0 rfl rfl (by omega) ?_;refine Cg (A.length+i) rfl rfl (by omega) (by omega) ?_;refine Ga 0 rfl rfl rfl (Dr (by omega)) (by omega) (hc1 _ _ _ hRy) ?_;refine Cg (A.length+X.length+M.length+i) rfl rfl (by omega) (by omega) ?_;refine Ga 0 rfl rfl rfl (Dr (by omega)) (by rw[EM (by rw[Dr (by omega)];omega)];omega) (hc1 _ _ _ hRx) ?_;(refine Aa<|Ay<|Ab rfl<|AI rfl rfl (by omega) (by omega)<|Ab rfl<|Aa ?_);exact⟨i+1,by omega,⟨rfl,rfl,rfl,rfl,int_eq (by omega),trivial⟩,rfl,hc,_,rfl,hs1⟩
  ·refine CH 0 rfl rfl (by omega) ?_;refine CH 0 rfl rfl (by omega) ?_;refine Cg (A.length+i) rfl rfl (by omega) (by omega) ?_;refine Ga 0 rfl rfl rfl (Dr (by omega)) (by omega) (hc1 _ _ _ hRy) ?_;refine Cg (A.length+X.length+M.length+i) rfl rfl (by omega) (by omega) ?_;refine Ga 0 rfl rfl rfl (Dr (by omega)) (by rw[EM (by rw[Dr (by omega)];omega)];omega) (hc1 _ _ _ hRx) ?_;(refine Aa<|Ay<|Ab rfl<|AI rfl rfl (by omega) (by omega)<|Ab rfl<|Aa ?_);exact⟨i+1,by omega,⟨rfl,rfl,rfl,rfl,int_eq (by omega),trivial⟩,rfl,hc,_,rfl,hs1⟩
 ·obtain rfl:i=X.length:=by omega
  rw[Z7 (Nat.le_of_eq hxy.symm),Aag,ZV,List.drop_of_length_le (Nat.le_of_eq hxy.symm)] at ho';(refine Ai<|Ac<|Ab rfl<|Ab rfl<|Ax rfl rfl<|Aa<|Ao rfl (by omega)<|AV ?_);refine Iy _ (ZS _) ?_;exact⟨rfl,h',rfl,by simpa using ho'⟩
def Fk(a0:Nat):A6:=⟨58,[],(sR (om 12 2<|om 13 1<|ob 14 .sub 12 13<|om 10 14 .done) (sR (om 15 3<|om 16 2<|ob 17 .sub 15 16<|om 11 17 .done) (.seq (.block 0 (.loop (.seq (sR (om 18 10<|om 19 11<|ob 20 .neq 18 19 .done) (.cond 20 .skip (.exit 0))) (.block 1 (sR (om 21 10<|om 22 11<|ob 23 .gtr 21 22 .done) (.cond 23 (sR (om 24 0<|om 25 2<|om 26 10<|ob 27 .sub 25 26<|om 28 2<|om 29 11<|om 30 4<|oc 31 a0 [24,27,28,29,30] .done) (rG (om 32 10<|om 33 11<|ob 34 .sub 32 33<|om 10 34 .done))) (sR (om 35 0<|om 36 2<|om 37 10<|ob 38 .sub 36 37<|om 39 2<|om 40 11<|ob 41 .add 39 40<|om 42 10<|ob 43 .sub 41 42<|om 44 10<|om 45 4<|oc 46 a0 [35,38,43,44,45] .done) (rG (om 47 11<|om 48 10<|ob 49 .sub 47 48<|om 11 49 .done))))))))) (rG (om 50 0<|om 51 2<|om 52 10<|ob 53 .sub 51 52<|om 54 2<|om 55 10<|om 56 4<|oc 57 a0 [50,53,54,55,56] .done)))))⟩
set_option maxHeartbeats 1000000 in
def LX{P f f1}(hd:dec P f=some (Fk f1))(h1:Qk 7 P f1):SK 7 P f:=by
 intro α R d pa n cp h g A X Y B ia im ib hc1 ho hx hy ea em eb;subst ea;subst eb;subst em;have hll:=ho.Be;simp only[ZH] at hll;have hxl:X.length≠0:=fun q=>hx (ZD q);have hyl:Y.length≠0:=fun q=>hy (ZD q);refine Bd hd (No rfl) ?_;show gwp P _ _ _ _ _;(refine Ac<|Ab rfl<|Ab rfl<|Bn rfl rfl (by omega) (by omega)<|Ab rfl<|Aa<|Ac<|Ab rfl<|Ab rfl<|Bn rfl rfl (by omega) (by omega)<|Ab rfl<|Aa<|Ai<|Av ?_);refine Bg (α:=Nat×Nat) (fun x=>[(0,.slice pa n cp),(1,vZ A.length),(2,vZ (A.length+X.length:Nat)),(3,vZ (A.length+X.length+Y.length:Nat)),(4,.func (.func g) #[] #[]),(10,vZ x.1),(11,vZ x.2)])
  (fun x d' L'=>d'=d∧∃A' X' Y' B' h',L'=[h']∧AN 7 R d (.slice pa n cp) (A'++X'++Y'++B') h'∧X'.length=x.1∧Y'.length=x.2∧A'.length+x.1=A.length+X.length∧0<x.1∧0<x.2∧A'++Y'++X'++B'=A++Y++X++B)
  (fun x=>x.1+x.2) (X.length,Y.length) ⟨rfl,rfl,rfl,rfl,rfl,int_eq (by show(_:Int)=(X.length:Int);omega),int_eq (by show(_:Int)=(Y.length:Int);omega),trivial⟩ ⟨rfl,A,X,Y,B,h,rfl,ho,rfl,rfl,rfl,by simp only;omega,by simp only;omega,rfl⟩ ?_
 rintro⟨i,j⟩ ρ d' L' ⟨hdd,A',X',Y',B',h',hL,ho',hi,hj,ha,hi0,hj0,he⟩;subst hdd;subst hL;simp only at hi hj ha hi0 hj0;have hll':=ho'.Be;simp only[ZH] at hll';by_cases hij:i=j
 ·(refine Ai<|Ac<|Ab rfl<|Ab rfl<|AG rfl rfl<|Aa<|Ao rfl (by omega)<|AV<|Ay<|As rfl<|Ab rfl<|Ab rfl<|Bn rfl rfl (by omega) (by omega)<|Ab rfl<|Ab rfl<|CV rfl ?_);refine Dv 1 rfl (h1 (A:=A') (X:=X') (M:=[]) (Y:=Y') (B:=B') hc1 (by simpa using ho') (by omega) (by omega) (by simp;omega) (by omega)) (fun r d2 L2 _ ⟨hdd,h2,hL,ho2⟩=>?_);subst hdd;subst hL;(apply Aa);refine Iy [h2] (by simp) ?_;exact⟨rfl,h2,rfl,by rw[←he];simpa using ho2⟩
 ·by_cases hgt:j<i
  ·(refine Ai<|Ac<|Ab rfl<|Ab rfl<|AG rfl rfl<|Aa<|Au rfl (by omega)<|Am<|Av<|Ac<|Ab rfl<|Ab rfl<|AP rfl rfl<|Aa<|Au rfl (by omega)<|Ac<|As rfl<|Ab rfl<|Ab rfl<|Bn rfl rfl (by omega) (by omega)<|Ab rfl<|Ab rfl<|CV rfl ?_);refine Dv 1 rfl (h1 (A:=A') (X:=X'.take j) (M:=X'.drop j) (Y:=Y') (B:=B') hc1 (by rw[Zy A',ZM];exact ho') (by simp;omega) (by omega) (by simp;omega) (by simp;omega)) (fun r d2 L2 _ ⟨hdd,h2,hL,ho2⟩=>?_);subst hdd;subst hL;(refine Aa<|Ay<|Ab rfl<|Ab rfl<|Bn rfl rfl (by omega) (by omega)<|Ab rfl<|Aa ?_);refine⟨(i - j,j),by simp only;omega,⟨rfl,rfl,rfl,rfl,rfl,int_eq (by show(_:Int)=((i - j:Nat):Int);omega),rfl,trivial⟩,rfl,A'++Y',X'.drop j,X'.take j,B',h2,rfl,ho2,?_,?_,?_,?_,?_,?_⟩
   ·simp;omega
   ·simp;omega
   ·simp;omega
   ·simp only;omega
   ·simp only;omega
   ·rw[←he,Zy (A'++Y'),ZM]
  ·(refine Ai<|Ac<|Ab rfl<|Ab rfl<|AG rfl rfl<|Aa<|Au rfl (by omega)<|Am<|Av<|Ac<|Ab rfl<|Ab rfl<|AP rfl rfl<|Aa<|Ao rfl (by omega)<|Ac<|As rfl<|Ab rfl<|Ab rfl<|Bn rfl rfl (by omega) (by omega)<|Ab rfl<|Ab rfl<|AI rfl rfl (by omega) (by omega)<|Ab rfl<|Bn rfl rfl (by omega) (by omega)<|Ab rfl<|CV rfl ?_);refine Dv 1 rfl (h1 (A:=A') (X:=X') (M:=Y'.take (j - i)) (Y:=Y'.drop (j - i)) (B:=B') hc1 (by rw[Zy (A'++X'),ZM];exact ho') (by simp;omega) (by omega) (by simp;omega) (by omega)) (fun r d2 L2 _ ⟨hdd,h2,hL,ho2⟩=>?_);subst hdd;subst hL;(refine Aa<|Ay<|Ab rfl<|Ab rfl<|Bn rfl rfl (by omega) (by omega)<|Ab rfl<|Aa ?_);refine⟨(i,j - i),by simp only;omega,⟨rfl,rfl,rfl,rfl,rfl,rfl,int_eq (by show(_:Int)=((j - i:Nat):Int);omega),trivial⟩,rfl,A',Y'.drop (j - i),Y'.take (j - i),X'++B',h2,rfl,by simpa using ho2,?_,?_,?_,?_,?_,?_⟩
   ·simp;omega
   ·simp;omega
   ·simp only;omega
   ·simp only;omega
   ·simp only;omega
   ·rw[←he];conv=>rhs;rw[←ZM (j - i) Y']
    simp only[Zy]
end Go.Gk
end
section
namespace Go.Gk
open Go Srt Val
attribute [local irreducible] gwp gws
def E6(a0 a1:Nat):A6:=⟨220,[],(.seq (sR (om 25 2<|om 26 1<|ob 27 .sub 25 26<|ob 28 .eql 27 z1 .done) (.cond 28 (sR (om 29 2<|om 10 29 .done) (sR (om 30 3<|om 11 30 .done) (.seq (.block 0 (.loop (.seq (sR (om 31 10<|om 32 11<|ob 33 .lss 31 32 .done) (.cond 33 .skip (.exit 0))) (.block 1 (sR (om 34 10<|om 35 11<|ob 36 .add 34 35<|o1 37 (.cvi .u64 36)<|ob 38 .shr 37 (.const (.int .u64 1))<|o1 39 (.cvi .i64 38)<|om 12 39 .done) (.seq (.reg true (pm 40 4<|pm 41 0<|pm 42 12<|p1 43 (.idx 7 41 42)<|p1 44 (.ld (some 7) 43)<|pm 45 0<|pm 46 1<|p1 47 (.idx 7 45 46)<|p1 48 (.ld (some 7) 47)<|o1 49 (.callv 40 [44,48])<|p1 50 (.bin .lss 49 z0) .done)) (.cond 50 (rG (om 51 12<|ob 52 .add 51 z1<|om 10 52 .done)) (rG (om 53 12<|om 11 53 .done))))))))) (.seq (sR (om 54 1<|om 13 54 .done) (.block 2 (.loop (.seq (sR (om 55 13<|om 56 10<|ob 57 .sub 56 z1<|ob 58 .lss 55 57 .done) (.cond 58 .skip (.exit 2))) (.seq (.block 3 (.reg true (pm 61 0<|pm 62 13<|pm 63 0<|pm 64 13<|p1 65 (.bin .add 64 z1)<|pm 66 0<|pm 67 13<|p1 68 (.bin .add 67 z1)<|p1 69 (.idx 7 66 68)<|pm 71 0<|pm 72 13<|p1 73 (.idx 7 71 72) (.alt ⟨(some 70),none,(.ld (some 7) 69)⟩ (o1 74 (.ld (some 7) 73) (p1 75 (.idx 7 61 62) (o0 (.st 7 75 70) (p1 76 (.idx 7 63 65) (o0 (.st 7 76 74) .done))))) (o1 74 (.ld (some 7) 73) (o1 70 (.ld (some 7) 69) (p1 75 (.idx 7 61 62) (o0 (.st 7 75 70) (p1 76 (.idx 7 63 65) (o0 (.st 7 76 74) .done)))))))))) (rG (om 59 13<|ob 60 .add 59 z1<|om 13 60 .done))))))) .ret)))) .skip)) (.seq (sR (om 77 3<|om 78 2<|ob 79 .sub 77 78<|ob 80 .eql 79 z1 .done) (.cond 80 (sR (om 81 1<|om 14 81 .done) (sR (om 82 2<|om 15 82 .done) (.seq (.block 4 (.loop (.seq (sR (om 83 14<|om 84 15<|ob 85 .lss 83 84 .done) (.cond 85 .skip (.exit 4))) (.block 5 (sR (om 86 14<|om 87 15<|ob 88 .add 86 87<|o1 89 (.cvi .u64 88)<|ob 90 .shr 89 (.const (.int .u64 1))<|o1 91 (.cvi .i64 90)<|om 16 91 .done) (.seq (.reg true (pm 92 4<|pm 93 0<|pm 94 2<|p1 95 (.idx 7 93 94)<|p1 96 (.ld (some 7) 95)<|pm 97 0<|pm 98 16<|p1 99 (.idx 7 97 98)<|p1 100 (.ld (some 7) 99)<|o1 101 (.callv 92 [96,100])<|p1 102 (.bin .lss 101 z0)<|p1 103 (.un .not 102) .done)) (.cond 103 (rG (om 104 16<|ob 105 .add 104 z1<|om 14 105 .done)) (rG (om 106 16<|om 15 106 .done))))))))) (.seq (sR (om 107 2<|om 17 107 .done) (.block 6 (.loop (.seq (sR (om 108 17<|om 109 14<|ob 110 .gtr 108 109 .done) (.cond 110 .skip (.exit 6))) (.seq (.block 7 (.reg true (pm 113 0<|pm 114 17<|pm 115 0<|pm 116 17<|p1 117 (.bin .sub 116 z1)<|pm 118 0<|pm 119 17<|p1 120 (.bin .sub 119 z1)<|p1 121 (.idx 7 118 120)<|pm 123 0<|pm 124 17<|p1 125 (.idx 7 123 124) (.alt ⟨(some 122),none,(.ld (some 7) 121)⟩ (o1 126 (.ld (some 7) 125) (p1 127 (.idx 7 113 114) (o0 (.st 7 127 122) (p1 128 (.idx 7 115 117) (o0 (.st 7 128 126) .done))))) (o1 126 (.ld (some 7) 125) (o1 122 (.ld (some 7) 121) (p1 127 (.idx 7 113 114) (o0 (.st 7 127 122) (p1 128 (.idx 7 115 117) (o0 (.st 7 128 126) .done)))))))))) (rG (om 111 17<|ob 112 .sub 111 z1<|om 17 112 .done))))))) .ret)))) .skip)) (sR (om 129 1<|om 130 3<|ob 131 .add 129 130<|o1 132 (.cvi .u64 131)<|ob 133 .shr 132 (.const (.int .u64 1))<|o1 134 (.cvi .i64 133)<|om 18 134 .done) (sR (om 135 18<|om 136 2<|ob 137 .add 135 136<|om 19 137 .done) (sR (o1 20 (.mv z0)<|o1 21 (.mv z0) .done) (.seq (sR (om 138 2<|om 139 18<|ob 140 .gtr 138 139 .done) (.cond 140 (sR (om 141 19<|om 142 3<|ob 143 .sub 141 142<|om 20 143 .done) (rG (om 144 18<|om 21 144 .done))) (sR (om 145 1<|om 20 145 .done) (rG (om 146 2<|om 21 146 .done))))) (sR (om 147 19<|ob 148 .sub 147 z1<|om 22 148 .done) (.seq (.block 8 (.loop (.seq (sR (om 149 20<|om 150 21<|ob 151 .lss 149 150 .done) (.cond 151 .skip (.exit 8))) (.block 9 (sR (om 152 20<|om 153 21<|ob 154 .add 152 153<|o1 155 (.cvi .u64 154)<|ob 156 .shr 155 (.const (.int .u64 1))<|o1 157 (.cvi .i64 156)<|om 23 157 .done) (.seq (.reg true (pm 158 4<|pm 159 0<|pm 160 22<|pm 161 23<|p1 162 (.bin .sub 160 161)<|p1 163 (.idx 7 159 162)<|p1 164 (.ld (some 7) 163)<|pm 165 0<|pm 166 23<|p1 167 (.idx 7 165 166)<|p1 168 (.ld (some 7) 167)<|o1 169 (.callv 158 [164,168])<|p1 170 (.bin .lss 169 z0)<|p1 171 (.un .not 170) .done)) (.cond 171 (rG (om 172 23<|ob 173 .add 172 z1<|om 20 173 .done)) (rG (om 174 23<|om 21 174 .done))))))))) (sR (om 175 19<|om 176 20<|ob 177 .sub 175 176<|om 24 177 .done) (.seq (sR (om 178 20<|om 179 2<|ob 180 .lss 178 179<|om 181 180<|gT 182 181 2<|gT 183 181 24<|oT 184 181 (.bin .lss 182 183)<|gP 185 181 184 .done) (.cond 185 (rG (om 186 0<|om 187 20<|om 188 2<|om 189 24<|om 190 4<|oc 191 a0 [186,187,188,189,190] .done)) .skip)) (.seq (sR (om 192 1<|om 193 20<|ob 194 .lss 192 193<|om 195 194<|gT 196 195 20<|gT 197 195 18<|oT 198 195 (.bin .lss 196 197)<|gP 199 195 198 .done) (.cond 199 (rG (om 200 0<|om 201 1<|om 202 20<|om 203 18<|om 204 4<|oc 205 a1 [200,201,202,203,204] .done)) .skip)) (sR (om 206 18<|om 207 24<|ob 208 .lss 206 207<|om 209 208<|gT 210 209 24<|gT 211 209 3<|oT 212 209 (.bin .lss 210 211)<|gP 213 209 212 .done) (.cond 213 (rG (om 214 0<|om 215 18<|om 216 24<|om 217 3<|om 218 4<|oc 219 a1 [214,215,216,217,218] .done)) .skip)))))))))))))⟩
set_option maxHeartbeats 4000000 in
def Mf{P f f1}(hd:dec P f=some (E6 f1 f))(h1:SK 7 P f1):Tg 7 P f:=by
 intro α R c d pa n cp g oc hc1 N;induction N with
 |zero=>
  intro h A X Y B ia im ib hN ho hg hsx hsy hx hy
  exact absurd (ZD (by omega)) hx
 |succ N ih=>
 intro h A X Y B ia im ib hN ho hg hsx hsy hx hy ea em eb;subst ea;subst eb;subst em;have hll:=ho.Be;simp only[ZH] at hll;have hxl:X.length≠0:=fun q=>hx (ZD q);have hyl:Y.length≠0:=fun q=>hy (ZD q);have ho0:=ho;obtain⟨b,T,l,hpa,hn,hh,hll2,hRl,_⟩:=ho0.NG (by omega) (by simp;omega);subst hpa;subst hh;have hlx:(A++X++Y++B).length=A.length+X.length+Y.length+B.length:=by simp;omega
 have hX:∀i (hi:i<X.length),R d (chunk l (A.length+i) 7) X[i]∧X[i]∈A++X++Y++B:=fun i hi=>by
  have:=hRl (A.length+i) (by omega);rw[FD (A++X.take i) (X.drop (i+1)++Y++B) (x:=X[i]) (by rw[show A++X++Y++B=A++(X.take i++X[i]::X.drop (i+1))++Y++B from congrArg (fun z=>A++z++Y++B) (Uf hi)];simp only[Zy,Z6]) (by simp;omega)] at this;exact⟨this,by simp⟩
 have hY:∀i (hi:i<Y.length),R d (chunk l (A.length+X.length+i) 7) Y[i]∧Y[i]∈A++X++Y++B:=fun i hi=>by
  have:=hRl (A.length+X.length+i) (by omega);rw[FD (A++X++Y.take i) (Y.drop (i+1)++B) (x:=Y[i]) (by rw[show A++X++Y++B=A++X++(Y.take i++Y[i]::Y.drop (i+1))++B from congrArg (fun z=>A++X++z++B) (Uf hi)];simp only[Zy,Z6]) (by simp;omega)] at this;exact⟨this,by simp⟩
 refine Bd hd (No rfl) ?_;show gwp P _ _ _ _ _;by_cases hx1:X.length=1
 ·obtain⟨x,rfl⟩:=List.length_eq_one_iff.1 hx1;simp only[ZU,Aal] at hlx hX hY hll;have hx0:=hX 0 (by simp);simp only[List.getElem_cons_zero,Nat.add_zero] at hx0;(refine Ai<|Ac<|Ab rfl<|Ab rfl<|Bn rfl rfl (by omega) (by omega)<|Aq rfl rfl<|Aa<|Au rfl (by omega)<|Ac<|Ab rfl<|Ab rfl<|Aa<|Ac<|Ab rfl<|Ab rfl<|Aa<|Ai<|Av ?_);refine Bg (α:=Nat×Nat) (fun k=>[(0,.slice (some ⟨b,0,none⟩) n cp),(1,vZ A.length),(2,vZ (A.length+1:Nat)),(3,vZ (A.length+1+Y.length:Nat)),(4,.func (.func g) #[] #[]),(10,vZ (A.length+1+k.1:Nat)),(11,vZ (A.length+1+k.2:Nat))])
   (fun k d' L'=>d'=d∧L'=[bx b T l]∧k.1≤k.2∧k.2≤Y.length∧(k.1=0∨∃q:k.1 - 1<Y.length,0<k.1∧c Y[k.1 - 1] x<0)∧(k.2=Y.length∨∃q:k.2<Y.length,¬c Y[k.2] x<0))
   (fun k=>k.2 - k.1) (0,Y.length) ⟨rfl,rfl,rfl,rfl,rfl,rfl,rfl,trivial⟩ ⟨rfl,rfl,ZN _,ZL _,.inl rfl,.inl rfl⟩ ?_
  rintro⟨k1,k2⟩ ρ d' L' ⟨hdd,hL,hk,hk2,hlo,hhi⟩;subst hdd;subst hL;simp only at hk hk2 hlo hhi;by_cases hkk:k1<k2
  ·have hh1:(k1+k2) / 2<k2:=by omega
   have hh2:k1≤(k1+k2) / 2:=by omega
   obtain⟨kh,hkh⟩:∃kh,kh=(k1+k2) / 2:=⟨_,rfl⟩
   rw[←hkh] at hh1 hh2;have hyk:=hY kh (by omega);(refine Ai<|Ac<|Ab rfl<|Ab rfl<|Ax rfl rfl<|Aa<|Au rfl (by omega)<|Am<|Av<|Ac<|Ab rfl<|Ab rfl<|AI rfl rfl (by omega) (by omega)<|Hz rfl ?_);refine Ku rfl rfl (by omega) (by omega) ?_;(refine FW rfl (by omega) (by omega)<|Ab rfl<|Aa<|Ai<|AT<|CV rfl<|As rfl<|Ab rfl ?_);refine Cg (A.length+1+kh) rfl rfl (by omega) (by omega) ?_;refine CH 0 rfl rfl (by omega) ?_;(refine As rfl<|Ab rfl ?_);refine Cg A.length rfl rfl (by omega) (by omega) ?_;refine CH 0 rfl rfl (by omega) ?_;refine Ea rfl rfl (hg _ hyk.2 _ hx0.2 _ _ hyk.1 hx0.1) ?_;by_cases hlt:c Y[kh] x<0
   ·(refine Ax rfl rfl<|AW<|Au rfl (by omega)<|Ay<|Ab rfl<|AI rfl rfl (by omega) (by omega)<|Ab rfl<|Aa ?_);exact⟨(kh+1,k2),by simp only;omega,⟨rfl,rfl,rfl,rfl,rfl,int_eq (by show(_:Int)=((A.length+1+(kh+1):Nat):Int);omega),rfl,trivial⟩,rfl,rfl,hh1,hk2,.inr ⟨by simp only;omega,Nat.succ_pos _,hlt⟩,hhi⟩
   ·(refine Ax rfl rfl<|AW<|Ao rfl (by omega)<|Ay<|Ab rfl<|Ab rfl<|Aa ?_);exact⟨(k1,kh),by simp only;omega,⟨rfl,rfl,rfl,rfl,rfl,rfl,int_eq (by show(_:Int)=((A.length+1+kh:Nat):Int);omega),trivial⟩,rfl,rfl,hh2,by simp only;omega,hlo,.inr ⟨by simp only;omega,hlt⟩⟩
  ·obtain rfl:k1=k2:=by omega
   (refine Ai<|Ac<|Ab rfl<|Ab rfl<|Ax rfl rfl<|Aa<|Ao rfl (by omega)<|AV<|Ai<|Ac<|Ab rfl<|Ab rfl<|Aa<|Av ?_);refine Bg (α:=Nat) (fun j=>[(0,.slice (some ⟨b,0,none⟩) n cp),(1,vZ A.length),(2,vZ (A.length+1:Nat)),(3,vZ (A.length+1+Y.length:Nat)),(4,.func (.func g) #[] #[]),(10,vZ (A.length+1+k1:Nat)),(13,vZ (A.length+j:Nat))])
    (fun j d2 L'=>d2=d'∧j≤k1∧∃h',L'=[h']∧AN 7 R d' (.slice (some ⟨b,0,none⟩) n cp) (A++(Y.take j++x::Y.drop j)++B) h')
    (fun j=>k1 - j) 0 ⟨rfl,rfl,rfl,rfl,rfl,rfl,rfl,trivial⟩ ⟨rfl,ZN _,_,rfl,by simpa using ho⟩ ?_
   rintro j ρ d2 L' ⟨hdd,hj,h2,hL,ho2⟩;subst hdd;subst hL;by_cases hjk:j<k1
   ·have hjy:j<Y.length:=by omega
    have e1:A++(Y.take j++x::Y.drop j)++B=(A++Y.take j)++x::([]:List α)++Y[j]::(Y.drop (j+1)++B):=by
     rw[ZT hjy];simp only[Zy,Z6,Z5]
    have e2:(A++Y.take j)++Y[j]::([]:List α)++x::(Y.drop (j+1)++B)=A++(Y.take (j+1)++x::Y.drop (j+1))++B:=by
     rw[ZA hjy];simp only[Zy,Z6,Z5]
    rw[e1] at ho2;have q1:(A++Y.take j).length=A.length+j:=by simp;omega
    have hlx2:((A++Y.take j)++x::([]:List α)++Y[j]::(Y.drop (j+1)++B)).length=A.length+1+Y.length+B.length:=by rw[←e1];simp;omega
    obtain⟨b2,T2,l2,hpa,hn2,hh,hll3,hRl2,hsw⟩:=ho2.NG (by omega) (by omega);obtain rfl:b=b2:=by injection hpa with hpa;injection hpa
    subst hh;have hs1:=hsw (A.length+j) (A.length+j+1) (by omega) (by omega);have hRx:=hRl2 (A.length+j) (by omega);have hRy:=hRl2 (A.length+j+1) (by omega);have g1:((A++Y.take j)++x::([]:List α)++Y[j]::(Y.drop (j+1)++B))[A.length+j]'(by omega)=x:=FD (A++Y.take j) (Y[j]::(Y.drop (j+1)++B)) (by simp) (by omega) _;have g2:((A++Y.take j)++x::([]:List α)++Y[j]::(Y.drop (j+1)++B))[A.length+j+1]'(by omega)=Y[j]:=FD ((A++Y.take j)++[x]) (Y.drop (j+1)++B) (by simp) (by simp;omega) _;rw[g2] at hRy;rw[g1] at hRx;rw[g1,g2,Lr (by omega) (by simp;omega),e2] at hs1;(refine Ai<|Ac<|Ab rfl<|Ab rfl<|Bn rfl rfl (by omega) (by omega)<|Ax rfl rfl<|Aa<|Au rfl (by omega)<|Am<|Ai<|Av ?_);refine Hw [] [0] rfl ?_;(refine As rfl<|Ab rfl<|As rfl<|Ab rfl<|AI rfl rfl (by omega) (by omega)<|As rfl<|Ab rfl<|AI rfl rfl (by omega) (by omega) ?_);refine Cg (A.length+j+1) rfl rfl (by omega) (by omega) ?_;(refine As rfl<|Ab rfl ?_);refine Cg (A.length+j) rfl rfl (by omega) (by omega) ?_;refine Xk rfl (by omega) (by omega) (by omega) (by omega) (hc1 _ _ _ hRy) (hc1 _ _ _ hRx) rfl rfl rfl rfl rfl rfl (by omega) rfl rfl rfl rfl (by omega) rfl rfl ?_;(refine Ay<|Ab rfl<|AI rfl rfl (by omega) (by omega)<|Ab rfl<|Aa ?_);exact⟨j+1,by omega,⟨rfl,rfl,rfl,rfl,rfl,rfl,int_eq (by omega),trivial⟩,rfl,hjk,_,rfl,hs1⟩
   ·obtain rfl:j=k1:=by omega
    (refine Ai<|Ac<|Ab rfl<|Ab rfl<|Bn rfl rfl (by omega) (by omega)<|Ax rfl rfl<|Aa<|Ao rfl (by omega)<|AV<|Ar ?_);refine Iy _ (ZS _) ?_;refine⟨rfl,_,h2,rfl,ho2,?_,Srt.put oc (by rw[ZM];exact hsy) ?_ ?_⟩
    ·refine List.perm_middle.trans ?_;rw[ZM];exact Abf _
    ·rcases hlo with rfl|⟨q,q0,hlt⟩
     ·exact .inl rfl
     ·exact .inr ⟨Y[j - 1],by rw[List.getLast?_take];simp[show j≠0 by omega,q],by omega⟩
    ·rcases hhi with rfl|⟨q,hlt⟩
     ·exact .inl (Aag)
     ·exact .inr ⟨Y[j],by rw[List.head?_drop];simp[q],oc.le_of_not_lt hlt⟩
 ·by_cases hy1:Y.length=1
  ·obtain⟨x,rfl⟩:=List.length_eq_one_iff.1 hy1;simp only[ZU,Aal] at hlx hX hY hll;have hx0:=hY 0 (by simp);simp only[List.getElem_cons_zero,Nat.add_zero] at hx0;(refine Ai<|Ac<|Ab rfl<|Ab rfl<|Bn rfl rfl (by omega) (by omega)<|Aq rfl rfl<|Aa<|Ao rfl (by omega)<|Am<|Ai<|Ac<|Ab rfl<|Ab rfl<|Bn rfl rfl (by omega) (by omega)<|Aq rfl rfl<|Aa<|Au rfl (by omega)<|Ac<|Ab rfl<|Ab rfl<|Aa<|Ac<|Ab rfl<|Ab rfl<|Aa<|Ai<|Av ?_);refine Bg (α:=Nat×Nat) (fun k=>[(0,.slice (some ⟨b,0,none⟩) n cp),(1,vZ A.length),(2,vZ (A.length+X.length:Nat)),(3,vZ (A.length+X.length+1:Nat)),(4,.func (.func g) #[] #[]),(14,vZ (A.length+k.1:Nat)),(15,vZ (A.length+k.2:Nat))])
    (fun k d' L'=>d'=d∧L'=[bx b T l]∧k.1≤k.2∧k.2≤X.length∧(k.1=0∨∃q:k.1 - 1<X.length,0<k.1∧¬c x X[k.1 - 1]<0)∧(k.2=X.length∨∃q:k.2<X.length,c x X[k.2]<0))
    (fun k=>k.2 - k.1) (0,X.length) ⟨rfl,rfl,rfl,rfl,rfl,rfl,rfl,trivial⟩ ⟨rfl,rfl,ZN _,ZL _,.inl rfl,.inl rfl⟩ ?_
   rintro⟨k1,k2⟩ ρ d' L' ⟨hdd,hL,hk,hk2,hlo,hhi⟩;subst hdd;subst hL;simp only at hk hk2 hlo hhi;by_cases hkk:k1<k2
   ·have hh1:(k1+k2) / 2<k2:=by omega
    have hh2:k1≤(k1+k2) / 2:=by omega
    obtain⟨kh,hkh⟩:∃kh,kh=(k1+k2) / 2:=⟨_,rfl⟩
    rw[←hkh] at hh1 hh2;have hyk:=hX kh (by omega);(refine Ai<|Ac<|Ab rfl<|Ab rfl<|Ax rfl rfl<|Aa<|Au rfl (by omega)<|Am<|Av<|Ac<|Ab rfl<|Ab rfl<|AI rfl rfl (by omega) (by omega)<|Hz rfl ?_);refine Ku rfl rfl (by omega) (by omega) ?_;(refine FW rfl (by omega) (by omega)<|Ab rfl<|Aa<|Ai<|AT<|CV rfl<|As rfl<|Ab rfl ?_);refine Cg (A.length+X.length) rfl rfl (by omega) (by omega) ?_;refine CH 0 rfl rfl (by omega) ?_;(refine As rfl<|Ab rfl ?_);refine Cg (A.length+kh) rfl rfl (by omega) (by omega) ?_;refine CH 0 rfl rfl (by omega) ?_;refine Ea rfl rfl (hg _ hx0.2 _ hyk.2 _ _ hx0.1 hyk.1) ?_;by_cases hlt:c x X[kh]<0
    ·have hlt':(!decide (c x X[kh]<0))=false:=by simp[hlt]
     (refine Ax rfl rfl<|Bi rfl<|AW ?_;apply CU;rfl;(with_reducible assumption);refine Ay<|Ab rfl<|Ab rfl<|Aa ?_);exact⟨(k1,kh),by simp only;omega,⟨rfl,rfl,rfl,rfl,rfl,rfl,int_eq (by show(_:Int)=((A.length+kh:Nat):Int);omega),trivial⟩,rfl,rfl,hh2,by simp only;omega,hlo,.inr ⟨by simp only;omega,hlt⟩⟩
    ·have hlt':(!decide (c x X[kh]<0))=true:=by simp[hlt]
     (refine Ax rfl rfl<|Bi rfl<|AW ?_;apply E9;rfl;(with_reducible assumption);refine Ay<|Ab rfl<|AI rfl rfl (by omega) (by omega)<|Ab rfl<|Aa ?_);exact⟨(kh+1,k2),by simp only;omega,⟨rfl,rfl,rfl,rfl,rfl,int_eq (by show(_:Int)=((A.length+(kh+1):Nat):Int);omega),rfl,trivial⟩,rfl,rfl,hh1,hk2,.inr ⟨by simp only;omega,Nat.succ_pos _,hlt⟩,hhi⟩
   ·obtain rfl:k1=k2:=by omega
    (refine Ai<|Ac<|Ab rfl<|Ab rfl<|Ax rfl rfl<|Aa<|Ao rfl (by omega)<|AV<|Ai<|Ac<|Ab rfl<|Ab rfl<|Aa<|Av ?_);refine Bg (α:=Nat) (fun j=>[(0,.slice (some ⟨b,0,none⟩) n cp),(1,vZ A.length),(2,vZ (A.length+X.length:Nat)),(3,vZ (A.length+X.length+1:Nat)),(4,.func (.func g) #[] #[]),(14,vZ (A.length+k1:Nat)),(17,vZ (A.length+j:Nat))])
     (fun j d2 L'=>d2=d'∧k1≤j∧j≤X.length∧∃h',L'=[h']∧AN 7 R d' (.slice (some ⟨b,0,none⟩) n cp) (A++(X.take j++x::X.drop j)++B) h')
     (fun j=>j) X.length ⟨rfl,rfl,rfl,rfl,rfl,rfl,rfl,trivial⟩ ⟨rfl,hk2,ZL _,_,rfl,by simpa using ho⟩ ?_
    rintro j ρ d2 L' ⟨hdd,hj,hjx,h2,hL,ho2⟩;subst hdd;subst hL;by_cases hjk:k1<j
    ·obtain⟨i,rfl⟩:∃i,j=i+1:=⟨j - 1,by omega⟩
     have hjy:i<X.length:=by omega
     have e2:A++(X.take i++x::X.drop i)++B=(A++X.take i)++x::([]:List α)++X[i]::(X.drop (i+1)++B):=by
      rw[ZT hjy];simp only[Zy,Z6,Z5]
     have e1:(A++X.take i)++X[i]::([]:List α)++x::(X.drop (i+1)++B)=A++(X.take (i+1)++x::X.drop (i+1))++B:=by
      rw[ZA hjy];simp only[Zy,Z6,Z5]
     rw[←e1] at ho2;have q1:(A++X.take i).length=A.length+i:=by simp;omega
     have hlx2:((A++X.take i)++X[i]::([]:List α)++x::(X.drop (i+1)++B)).length=A.length+X.length+1+B.length:=by rw[e1];simp;omega
     obtain⟨b2,T2,l2,hpa,hn2,hh,hll3,hRl2,hsw⟩:=ho2.NG (by omega) (by omega);obtain rfl:b=b2:=by injection hpa with hpa;injection hpa
     subst hh;have hs1:=hsw (A.length+i+1) (A.length+i) (by omega) (by omega);have hRx:=hRl2 (A.length+i) (by omega);have hRy:=hRl2 (A.length+i+1) (by omega);have g1:((A++X.take i)++X[i]::([]:List α)++x::(X.drop (i+1)++B))[A.length+i]'(by omega)=X[i]:=FD (A++X.take i) (x::(X.drop (i+1)++B)) (by simp only[Zy,Z6,Z5]) (by omega) _;have g2:((A++X.take i)++X[i]::([]:List α)++x::(X.drop (i+1)++B))[A.length+i+1]'(by omega)=x:=FD ((A++X.take i)++[X[i]]) (X.drop (i+1)++B) (by simp only[Zy,Z6,Z5]) (by simp;omega) _;rw[g2] at hRy;rw[g1] at hRx;rw[g1,g2,List.set_comm _ _ (by omega),Lr (by omega) (by simp;omega),←e2] at hs1;(refine Ai<|Ac<|Ab rfl<|Ab rfl<|AP rfl rfl<|Aa<|Au rfl (by omega)<|Am<|Ai<|Av ?_);refine Hw [] [0] rfl ?_;(refine As rfl<|Ab rfl<|As rfl<|Ab rfl<|Bn rfl rfl (by omega) (by omega)<|As rfl<|Ab rfl<|Bn rfl rfl (by omega) (by omega) ?_);refine Cg (A.length+i) rfl rfl (by omega) (by omega) ?_;(refine As rfl<|Ab rfl ?_);refine Cg (A.length+i+1) rfl rfl (by omega) (by omega) ?_;refine Xk rfl (by omega) (by omega) (by omega) (by omega) (hc1 _ _ _ hRx) (hc1 _ _ _ hRy) rfl rfl rfl rfl rfl rfl (by omega) rfl rfl rfl rfl (by omega) rfl rfl ?_;(refine Ay<|Ab rfl<|Bn rfl rfl (by omega) (by omega)<|Ab rfl<|Aa ?_);exact⟨i,by omega,⟨rfl,rfl,rfl,rfl,rfl,rfl,int_eq (by omega),trivial⟩,rfl,by omega,by omega,_,rfl,hs1⟩
    ·obtain rfl:j=k1:=by omega
     (refine Ai<|Ac<|Ab rfl<|Ab rfl<|AP rfl rfl<|Aa<|Ao rfl (by omega)<|AV<|Ar ?_);refine Iy _ (ZS _) ?_;refine⟨rfl,_,h2,rfl,ho2,?_,Srt.put oc (by rw[ZM];exact hsx) ?_ ?_⟩
     ·refine List.perm_middle.trans ?_;rw[ZM];exact(Abn x X).symm
     ·rcases hlo with rfl|⟨q,q0,hlt⟩
      ·exact .inl rfl
      ·exact .inr ⟨X[j - 1],by rw[List.getLast?_take];simp[show j≠0 by omega,q],oc.le_of_not_lt hlt⟩
     ·rcases hhi with rfl|⟨q,hlt⟩
      ·exact .inl (Aag)
      ·exact .inr ⟨X[j],by rw[List.head?_drop];simp[q],by omega⟩
  ·obtain⟨md,hmd⟩:∃md,md=(A.length+(A.length+X.length+Y.length)) / 2:=⟨_,rfl⟩
   have hm1:A.length<md:=by omega
   have hm2:md<A.length+X.length+Y.length:=by omega
   obtain⟨s0,hs0⟩:∃s0:Nat,s0=if md<A.length+X.length then md - Y.length else A.length:=⟨_,rfl⟩
   obtain⟨r0,hr0⟩:∃r0:Nat,r0=if md<A.length+X.length then md else A.length+X.length:=⟨_,rfl⟩
   (refine Ai<|Ac<|Ab rfl<|Ab rfl<|Bn rfl rfl (by omega) (by omega)<|Aq rfl rfl<|Aa<|Ao rfl (by omega)<|Am<|Ai<|Ac<|Ab rfl<|Ab rfl<|Bn rfl rfl (by omega) (by omega)<|Aq rfl rfl<|Aa<|Ao rfl (by omega)<|Am<|Ac<|Ab rfl<|Ab rfl<|AI rfl rfl (by omega) (by omega)<|Hz rfl ?_);refine Ku rfl rfl (by omega) (by omega) ?_;(refine FW rfl (by omega) (by omega)<|Ab rfl<|Aa ?_);apply Ai;apply Ay;(refine Ab rfl<|Ab rfl<|AI rfl rfl (by omega) (by omega)<|Ab rfl<|Aa ?_);apply Ai;apply Ay;(refine Ab rfl<|Ab rfl<|Aa ?_);refine Ct (fun ρ d' L'=>d'=d∧L'=[bx b T l]∧A9 ρ [(0,.slice (some ⟨b,0,none⟩) n cp),(1,vZ A.length),(2,vZ (A.length+X.length:Nat)),(3,vZ (A.length+X.length+Y.length:Nat)),(4,.func (.func g) #[] #[]),(18,vZ md),(19,vZ (md+(A.length+X.length):Nat)),(20,vZ s0),(21,vZ r0)]) ?_ ?_
   ·by_cases hq:md<A.length+X.length
    ·rw[if_pos hq] at hs0 hr0;(refine Ac<|Ab rfl<|Ab rfl<|AP rfl rfl<|Aa<|Au rfl (by omega)<|Ac<|Ab rfl<|Ab rfl<|Bn rfl rfl (by omega) (by omega)<|Ab rfl<|Aa<|Ay<|Ab rfl<|Ab rfl<|Aa ?_);exact⟨rfl,rfl,rfl,rfl,rfl,rfl,rfl,int_eq (by omega),int_eq (by omega),int_eq (by omega),int_eq (by omega),trivial⟩
    ·rw[if_neg hq] at hs0 hr0;(refine Ac<|Ab rfl<|Ab rfl<|AP rfl rfl<|Aa<|Ao rfl (by omega)<|Ac<|Ab rfl<|Ab rfl<|Aa<|Ay<|Ab rfl<|Ab rfl<|Aa ?_);exact⟨rfl,rfl,rfl,rfl,rfl,rfl,rfl,int_eq (by omega),int_eq (by omega),int_eq (by omega),int_eq (by omega),trivial⟩
   rintro ρ d' L' ⟨hdd,hL,hs⟩;subst hdd;subst hL;refine Bo _ hs ?_;clear hs;have hb1:A.length≤s0:=by split at hs0<;>omega
   have hb2:s0≤r0:=by split at hs0<;>split at hr0<;>omega
   have hb3:r0≤A.length+X.length:=by split at hr0<;>omega
   have hb4:md≤s0+Y.length:=by split at hs0<;>omega
   have hb5:r0≤md:=by split at hr0<;>omega
   apply Ai;apply Ay;(refine Ab rfl<|Bn rfl rfl (by omega) (by omega)<|Ab rfl<|Aa ?_);refine Ct (fun ρ d2 L'=>d2=d'∧L'=[bx b T l]∧∃s:Nat,A9 ρ [(0,.slice (some ⟨b,0,none⟩) n cp),(1,vZ A.length),(2,vZ (A.length+X.length:Nat)),(3,vZ (A.length+X.length+Y.length:Nat)),(4,.func (.func g) #[] #[]),(18,vZ md),(19,vZ (md+(A.length+X.length):Nat)),(20,vZ s)]∧s0≤s∧s≤r0∧
    (s=s0∨∃(q:s - 1 - A.length<X.length) (q':md - s<Y.length),A.length<s∧¬c Y[md - s] X[s - 1 - A.length]<0)∧(s=r0∨∃(q:s - A.length<X.length) (q':md - s - 1<Y.length),s<md∧c Y[md - s - 1] X[s - A.length]<0)) ?_ ?_
   ·(apply Av);refine Bg (α:=Nat×Nat) (fun k=>[(0,.slice (some ⟨b,0,none⟩) n cp),(1,vZ A.length),(2,vZ (A.length+X.length:Nat)),(3,vZ (A.length+X.length+Y.length:Nat)),(4,.func (.func g) #[] #[]),(18,vZ md),(19,vZ (md+(A.length+X.length):Nat)),(20,vZ k.1),(21,vZ k.2),(22,vZ (md+(A.length+X.length) - 1:Nat))])
     (fun k d2 L'=>d2=d'∧L'=[bx b T l]∧s0≤k.1∧k.1≤k.2∧k.2≤r0∧
      (k.1=s0∨∃(q:k.1 - 1 - A.length<X.length) (q':md - k.1<Y.length),A.length<k.1∧¬c Y[md - k.1] X[k.1 - 1 - A.length]<0)∧(k.2=r0∨∃(q:k.2 - A.length<X.length) (q':md - k.2 - 1<Y.length),k.2<md∧c Y[md - k.2 - 1] X[k.2 - A.length]<0))
     (fun k=>k.2 - k.1) (s0,r0) ⟨rfl,rfl,rfl,rfl,rfl,rfl,rfl,rfl,rfl,int_eq (by omega),trivial⟩ ⟨rfl,rfl,ZL _,hb2,ZL _,.inl rfl,.inl rfl⟩ ?_
    rintro⟨k1,k2⟩ ρ d2 L' ⟨hdd,hL,hk0,hk,hk2,hlo,hhi⟩;subst hdd;subst hL;simp only at hk0 hk hk2 hlo hhi;by_cases hkk:k1<k2
    ·have hh1:(k1+k2) / 2<k2:=by omega
     have hh2:k1≤(k1+k2) / 2:=by omega
     obtain⟨kh,hkh⟩:∃kh,kh=(k1+k2) / 2:=⟨_,rfl⟩
     rw[←hkh] at hh1 hh2;have hxk:=hX (kh - A.length) (by omega);have hyk:=hY (md - 1 - kh) (by omega);have i1:A.length+(kh - A.length)=kh:=by omega
     rw[i1] at hxk;(refine Ai<|Ac<|Ab rfl<|Ab rfl<|Ax rfl rfl<|Aa<|Au rfl (by omega)<|Am<|Av<|Ac<|Ab rfl<|Ab rfl<|AI rfl rfl (by omega) (by omega)<|Hz rfl ?_);refine Ku rfl rfl (by omega) (by omega) ?_;(refine FW rfl (by omega) (by omega)<|Ab rfl<|Aa<|Ai<|AT<|CV rfl<|As rfl<|Ab rfl<|Ab rfl<|Bn rfl rfl (by omega) (by omega) ?_);refine Cg (A.length+X.length+(md - 1 - kh)) rfl rfl (by omega) (by omega) ?_;refine CH 0 rfl rfl (by omega) ?_;(refine As rfl<|Ab rfl ?_);refine Cg kh rfl rfl (by omega) (by omega) ?_;refine CH 0 rfl rfl (by omega) ?_;refine Ea rfl rfl (hg _ hyk.2 _ hxk.2 _ _ hyk.1 hxk.1) ?_;have j1:md - kh - 1=md - 1 - kh:=by omega
     have j2:md - (kh+1)=md - 1 - kh:=by omega
     have j3:kh+1 - 1 - A.length=kh - A.length:=by omega
     by_cases hlt:c Y[md - 1 - kh] X[kh - A.length]<0
     ·have hlt':(!decide (c Y[md - 1 - kh] X[kh - A.length]<0))=false:=by simp[hlt]
      (refine Ax rfl rfl<|Bi rfl<|AW ?_;apply CU;rfl;(with_reducible assumption);refine Ay<|Ab rfl<|Ab rfl<|Aa ?_);exact⟨(k1,kh),by simp only;omega,⟨rfl,rfl,rfl,rfl,rfl,rfl,rfl,rfl,int_eq (by show(_:Int)=(kh:Int);omega),rfl,trivial⟩,rfl,rfl,hk0,hh2,by simp only;omega,hlo,.inr ⟨by simp only;omega,by simp only;omega,by simp only;omega,by simp only[j1];exact hlt⟩⟩
     ·have hlt':(!decide (c Y[md - 1 - kh] X[kh - A.length]<0))=true:=by simp[hlt]
      (refine Ax rfl rfl<|Bi rfl<|AW ?_;apply E9;rfl;(with_reducible assumption);refine Ay<|Ab rfl<|AI rfl rfl (by omega) (by omega)<|Ab rfl<|Aa ?_);exact⟨(kh+1,k2),by simp only;omega,⟨rfl,rfl,rfl,rfl,rfl,rfl,rfl,int_eq (by show(_:Int)=((kh+1:Nat):Int);omega),rfl,rfl,trivial⟩,rfl,rfl,by simp only;omega,hh1,hk2,.inr ⟨by simp only;omega,by simp only;omega,by simp only;omega,by simp only[j2,j3];exact hlt⟩,hhi⟩
    ·obtain rfl:k1=k2:=by omega
     (refine Ai<|Ac<|Ab rfl<|Ab rfl<|Ax rfl rfl<|Aa<|Ao rfl (by omega)<|AV ?_);exact⟨rfl,rfl,k1,⟨rfl,rfl,rfl,rfl,rfl,rfl,rfl,rfl,trivial⟩,hk0,hk2,hlo,hhi⟩
   rintro ρ d2 L' ⟨hdd,hL,s,hs,hs1,hs2,hlo,hhi⟩;subst hdd;subst hL;refine Bo _ hs ?_;clear hs;obtain⟨sx,rfl⟩:∃sx,s=A.length+sx:=⟨s - A.length,by omega⟩
   obtain⟨ey,hey⟩:∃ey,md=A.length+sx+ey:=⟨md - (A.length+sx),by omega⟩
   have hsx2:sx≤X.length:=by omega
   have hey2:ey≤Y.length:=by omega
   have hcr:=Zc oc hsx hsy hsx2 hey2 (by
    rcases hlo with hlo|⟨q,q',h0,hlt⟩
    ·by_cases hq:md<A.length+X.length
     ·rw[if_pos hq] at hs0;exact .inr (.inl (by omega))
     ·rw[if_neg hq] at hs0;exact .inl (by omega)
    ·have j1:md - (A.length+sx)=ey:=by omega
     have j2:A.length+sx - 1 - A.length=sx - 1:=by omega
     simp only[j1,j2] at q q' hlt;exact .inr (.inr ⟨q,q',by omega,oc.le_of_not_lt hlt⟩)) (by
    rcases hhi with hhi|⟨q,q',h0,hlt⟩
    ·by_cases hq:md<A.length+X.length
     ·rw[if_pos hq] at hr0;exact .inl (by omega)
     ·rw[if_neg hq] at hr0;exact .inr (.inl (by omega))
    ·have j1:md - (A.length+sx) - 1=ey - 1:=by omega
     have j2:A.length+sx - A.length=sx:=by omega
     simp only[j1,j2] at q q' hlt;exact .inr (.inr ⟨q',q,by omega,by omega⟩))
   have hpm:(X.take sx++Y.take ey++(X.drop sx++Y.drop ey)).Perm (X++Y):=by
    have:(X.take sx++Y.take ey++(X.drop sx++Y.drop ey)).Perm (X.take sx++X.drop sx++(Y.take ey++Y.drop ey)):=by
     simp only[Zy];refine Abe _ ?_;rw[←Zy,←Zy];exact List.perm_append_comm.append_right _
    rwa [ZM,ZM] at this
   apply Ai;apply Ay;(refine Ab rfl<|Ab rfl<|Bn rfl rfl (by omega) (by omega)<|Ab rfl<|Aa ?_);refine Ct (fun ρ d' L'=>d'=d2∧∃h',L'=[h']∧AN 7 R d2 (.slice (some ⟨b,0,none⟩) n cp) (A++(X.take sx++Y.take ey)++(X.drop sx++Y.drop ey)++B) h'∧A9 ρ [(0,.slice (some ⟨b,0,none⟩) n cp),(1,vZ A.length),(2,vZ (A.length+X.length:Nat)),(3,vZ (A.length+X.length+Y.length:Nat)),(4,.func (.func g) #[] #[]),(18,vZ md),(20,vZ (A.length+sx:Nat)),(24,vZ (A.length+X.length+ey:Nat))]) ?_ ?_
   ·by_cases hr1:sx<X.length
    ·by_cases hr2:0<ey
     ·(refine Ac<|Ab rfl<|Ab rfl<|Ax rfl rfl<|Ad rfl<|AE rfl (by omega)<|Ae rfl<|Ab rfl<|Ae rfl<|Ab rfl<|Ae rfl<|Ax rfl rfl<|Ap rfl rfl<|Aa<|Au rfl (by omega)<|Ay<|As rfl<|Ab rfl<|Ab rfl<|Ab rfl<|CV rfl ?_);refine Dv 1 rfl (h1 (A:=A++X.take sx) (X:=X.drop sx) (Y:=Y.take ey) (B:=Y.drop ey++B) hc1 (by
       have e:A++X.take sx++X.drop sx++Y.take ey++(Y.drop ey++B)=A++X++Y++B:=by
        rw[Zy A,ZM,←Zy _ _ B,Zy (A++X),ZM]
       rw[e];exact ho) (fun q=>by have:=congrArg Abu q;simp only[ZP,Aab,Aal] at this;omega) (fun q=>by have:=congrArg Abu q;simp only[ZP,Aab,Aal] at this;omega) (by simp;omega) (by simp;omega) (by simp;omega)) (fun r d3 L3 _ ⟨hdd,h2,hL,ho2⟩=>?_)
      subst hdd;subst hL;(apply Aa);refine⟨rfl,h2,rfl,by simpa only[Zy] using ho2,rfl,rfl,rfl,rfl,rfl,rfl,rfl,int_eq (by omega),trivial⟩
     ·obtain rfl:ey=0:=by omega
      have hl2:(decide (((A.length+X.length:Nat):Int)<((md+(A.length+X.length):Nat):Int) - ((A.length+sx:Nat):Int)))=false:=by simp;omega
      (refine Ac<|Ab rfl<|Ab rfl<|Ax rfl rfl<|Ad rfl<|AE rfl (by omega)<|Ae rfl<|Ab rfl<|Ae rfl<|Ab rfl<|Ae rfl<|Ax rfl rfl<|Ap rfl rfl<|Aa<|Ao rfl (by omega)<|Am ?_);refine⟨rfl,_,rfl,?_,rfl,rfl,rfl,rfl,rfl,rfl,rfl,int_eq (by omega),trivial⟩
      rw[List.take_zero,Acv,ZW,←Zy,Zy A,ZM];exact ho
    ·obtain rfl:sx=X.length:=by omega
     (refine Ac<|Ab rfl<|Ab rfl<|Ax rfl rfl<|Ad rfl<|AB rfl (by omega)<|Ak rfl<|Ak rfl<|Ak rfl<|An rfl rfl<|Aa<|AK rfl<|Am ?_);refine⟨rfl,_,rfl,?_,rfl,rfl,rfl,rfl,rfl,rfl,rfl,int_eq (by omega),trivial⟩
     rw[ZV,Aag,Z5,←Zy,Zy (A++X),ZM];exact ho
   rintro ρ d3 L' ⟨hdd,h3,hL,ho3,hs⟩;subst hdd;subst hL;refine Bo _ hs ?_;clear hs;refine Ct (fun ρ d' L'=>d'=d3∧∃M1 h',L'=[h']∧AN 7 R d3 (.slice (some ⟨b,0,none⟩) n cp) (A++M1++(X.drop sx++Y.drop ey)++B) h'∧M1.Perm (X.take sx++Y.take ey)∧Srt c M1∧A9 ρ [(0,.slice (some ⟨b,0,none⟩) n cp),(1,vZ A.length),(2,vZ (A.length+X.length:Nat)),(3,vZ (A.length+X.length+Y.length:Nat)),(4,.func (.func g) #[] #[]),(18,vZ md),(20,vZ (A.length+sx:Nat)),(24,vZ (A.length+X.length+ey:Nat))]) ?_ ?_
   ·by_cases hr1:0<sx
    ·by_cases hr2:0<ey
     ·(refine Ac<|Ab rfl<|Ab rfl<|Ax rfl rfl<|Ad rfl<|AE rfl (by omega)<|Ae rfl<|Ab rfl<|Ae rfl<|Ab rfl<|Ae rfl<|Ax rfl rfl<|Ap rfl rfl<|Aa<|Au rfl (by omega)<|Ay<|As rfl<|Ab rfl<|Ab rfl<|Ab rfl<|CV rfl ?_);refine Dv 1 rfl (ih (A:=A) (X:=X.take sx) (Y:=Y.take ey) (B:=X.drop sx++Y.drop ey++B) (by simp;omega) (by simpa only[Zy] using ho3) (hg.perm ?_) (hsx.take _) (hsy.take _) (fun q=>by have:=congrArg Abu q;simp only[ZP,Aab,Aal] at this;omega) (fun q=>by have:=congrArg Abu q;simp only[ZP,Aab,Aal] at this;omega) rfl (by simp;omega) (by simp;omega)) (fun r d4 L4 _ ⟨hdd,M1,h2,hL,ho2,hp2,hs2⟩=>?_)
      ·have:=(hpm.append_left A).append_right B;simpa only[Zy] using this
      subst hdd;subst hL;(apply Aa);exact⟨rfl,M1,h2,rfl,by simpa only[Zy] using ho2,hp2,hs2,rfl,rfl,rfl,rfl,rfl,rfl,rfl,rfl,trivial⟩
     ·obtain rfl:ey=0:=by omega
      (refine Ac<|Ab rfl<|Ab rfl<|Ax rfl rfl<|Ad rfl<|AE rfl (by omega)<|Ae rfl<|Ab rfl<|Ae rfl<|Ab rfl<|Ae rfl<|Ax rfl rfl<|Ap rfl rfl<|Aa<|Ao rfl (by omega)<|Am ?_);exact⟨rfl,_,_,rfl,ho3,Abf _,by rw[List.take_zero,ZW];exact hsx.take _,rfl,rfl,rfl,rfl,rfl,rfl,rfl,rfl,trivial⟩
    ·obtain rfl:sx=0:=by omega
     (refine Ac<|Ab rfl<|Ab rfl<|Ax rfl rfl<|Ad rfl<|AB rfl (by omega)<|Ak rfl<|Ak rfl<|Ak rfl<|An rfl rfl<|Aa<|AK rfl<|Am ?_);exact⟨rfl,_,_,rfl,ho3,Abf _,by rw[List.take_zero,Z5];exact hsy.take _,rfl,rfl,rfl,rfl,rfl,rfl,rfl,rfl,trivial⟩
   rintro ρ d4 L' ⟨hdd,M1,h4,hL,ho4,hp1,hs1',hs⟩;subst hdd;subst hL;refine Bo _ hs ?_;clear hs;have hM1:M1.length=sx+ey:=by have:=hp1.length_eq;simp at this;omega
   have hfin:∀M2:List α,M2.Perm (X.drop sx++Y.drop ey)→Srt c M2→(M1++M2).Perm (X++Y)∧Srt c (M1++M2):=fun M2 p2 s2=>
    ⟨(hp1.append p2).trans hpm,UP hp1 p2 hs1' s2 (hsx.cut sx) hcr.1 hcr.2 (hsy.cut ey)⟩
   by_cases hr1:sx<X.length
   ·by_cases hr2:ey<Y.length
    ·(refine Ac<|Ab rfl<|Ab rfl<|Ax rfl rfl<|Ad rfl<|AE rfl (by omega)<|Ae rfl<|Ab rfl<|Ae rfl<|Ab rfl<|Ae rfl<|Ax rfl rfl<|Ap rfl rfl<|Aa<|Au rfl (by omega)<|Ay<|As rfl<|Ab rfl<|Ab rfl<|Ab rfl<|CV rfl ?_);refine Dv 1 rfl (ih (A:=A++M1) (X:=X.drop sx) (Y:=Y.drop ey) (B:=B) (by simp;omega) (by simpa only[Zy] using ho4) (hg.perm ?_) (hsx.drop _) (hsy.drop _) (fun q=>by have:=congrArg Abu q;simp only[ZP,Aab,Aal] at this;omega) (fun q=>by have:=congrArg Abu q;simp only[ZP,Aab,Aal] at this;omega) (by simp;omega) (by simp;omega) (by simp;omega)) (fun r d5 L5 _ ⟨hdd,M2,h2,hL,ho2,hp2,hs2⟩=>?_)
     ·have:=(((hp1.append_right (X.drop sx++Y.drop ey)).trans hpm).append_left A).append_right B;simpa only[Zy] using this
     subst hdd;subst hL;(apply Aa);refine Iy [h2] (by simp) ?_;exact⟨rfl,M1++M2,h2,rfl,by simpa only[Zy] using ho2,hfin M2 hp2 hs2⟩
    ·obtain rfl:ey=Y.length:=by omega
     (refine Ac<|Ab rfl<|Ab rfl<|Ax rfl rfl<|Ad rfl<|AE rfl (by omega)<|Ae rfl<|Ab rfl<|Ae rfl<|Ab rfl<|Ae rfl<|Ax rfl rfl<|Ap rfl rfl<|Aa<|Ao rfl (by omega)<|Am ?_);refine Iy _ (ZS _) ?_;exact⟨rfl,_,_,rfl,by simpa only[Zy] using ho4,hfin _ (Abf _) (by rw[Aag,ZW];exact hsx.drop _)⟩
   ·obtain rfl:sx=X.length:=by omega
    (refine Ac<|Ab rfl<|Ab rfl<|Ax rfl rfl<|Ad rfl<|AB rfl (by omega)<|Ak rfl<|Ak rfl<|Ak rfl<|An rfl rfl<|Aa<|AK rfl<|Am ?_);refine Iy _ (ZS _) ?_;exact⟨rfl,_,_,rfl,by simpa only[Zy] using ho4,hfin _ (Abf _) (by rw[Aag,Z5];exact hsy.drop _)⟩
end Go.Gk
end
section
namespace Go.Gk
open Go Srt
attribute [local irreducible] gwp gws
def Fw(a0 a1:Nat):A6:=⟨63,[],(sR (o1 6 (.mv (kZ 20)) .done) (sR (om 10 6<|o1 7 (.mv z0)<|om 8 10 .done) (.seq (.block 0 (.loop (.seq (sR (om 11 8<|om 12 1<|ob 13 .leq 11 12 .done) (.cond 13 .skip (.exit 0))) (.block 1 (sR (om 14 0<|om 15 7<|om 16 8<|om 17 2<|oc 18 a0 [14,15,16,17] .done) (sR (om 19 8<|om 7 19 .done) (rG (om 20 8<|om 21 6<|ob 22 .add 20 21<|om 8 22 .done)))))))) (sR (om 23 0<|om 24 7<|om 25 1<|om 26 2<|oc 27 a0 [23,24,25,26] .done) (.block 2 (.loop (.seq (sR (om 28 6<|om 29 1<|ob 30 .lss 28 29 .done) (.cond 30 .skip (.exit 2))) (.block 3 (sR (om 31 6<|ob 32 .mul z2 31<|o1 7 (.mv z0)<|om 8 32 .done) (.seq (.block 4 (.loop (.seq (sR (om 33 8<|om 34 1<|ob 35 .leq 33 34 .done) (.cond 35 .skip (.exit 4))) (.block 5 (sR (om 36 0<|om 37 7<|om 38 7<|om 39 6<|ob 40 .add 38 39<|om 41 8<|om 42 2<|oc 43 a1 [36,37,40,41,42] .done) (sR (om 44 8<|om 7 44 .done) (rG (om 45 8<|om 46 6<|ob 47 .mul z2 46<|ob 48 .add 45 47<|om 8 48 .done)))))))) (.seq (sR (om 49 7<|om 50 6<|ob 51 .add 49 50<|om 9 51 .done) (sR (om 52 9<|om 53 1<|ob 54 .lss 52 53 .done) (.cond 54 (rG (om 55 0<|om 56 7<|om 57 9<|om 58 1<|om 59 2<|oc 60 a1 [55,56,57,58,59] .done)) .skip))) (rG (om 61 6<|ob 62 .mul 61 z2<|om 6 62 .done)))))))))))))⟩
set_option maxHeartbeats 2000000 in
def Kd{P f f1 f2}(hd:dec P f=some (Fw f1 f2))(h1:SM 7 P f1)(h2:Tg 7 P f2):Mb 7 P f:=by
 intro α R c d pa n cp g h xs oc hc1 ho hg;have hll:=ho.Be;obtain rfl:n=xs.length:=by obtain⟨_,_,e⟩:=ho.val;injection e
 refine Bd hd (No rfl) ?_;show gwp P _ _ _ _ _;apply Ai;apply Ay;(refine Ab rfl<|Aa ?_);apply Ai;apply Ay;(refine Ab rfl<|Ab rfl<|Ab rfl<|Aa ?_);refine Ct (fun ρ d' L'=>d'=d∧∃(a:Nat) (bl:List (List α)) (rest:List α) (h':Ag),bl.flatten.length=a∧(∀x∈bl,x.length=20∧Srt c x)∧rest.length<20∧(bl.flatten++rest).Perm xs∧L'=[h']∧AN 7 R d (.slice pa xs.length cp) (bl.flatten++rest) h'∧
  A9 ρ [(0,.slice pa xs.length cp),(1,vZ xs.length),(2,.func (.func g) #[] #[]),(6,vZ 20),(7,vZ a)]) ?_ ?_
 ·(apply Av);refine Bg (α:=Nat) (fun a=>[(0,.slice pa xs.length cp),(1,vZ xs.length),(2,.func (.func g) #[] #[]),(6,vZ 20),(7,vZ a),(8,vZ (a+20:Nat))])
   (fun a d' L'=>d'=d∧∃(bl:List (List α)) (rest:List α) (h':Ag),bl.flatten.length=a∧(∀x∈bl,x.length=20∧Srt c x)∧(bl.flatten++rest).Perm xs∧L'=[h']∧AN 7 R d (.slice pa xs.length cp) (bl.flatten++rest) h')
   (fun a=>xs.length - a) 0 ⟨rfl,rfl,rfl,rfl,rfl,rfl,trivial⟩ ⟨rfl,[],xs,h,rfl,by simp,Abf _,rfl,ho⟩ ?_
  rintro a ρ d' L' ⟨hdd,bl,rest,h',ha,hbl,hp,hL,ho'⟩;subst hdd;subst hL;have hlen:=hp.length_eq;simp only[ZH] at hlen;by_cases hc:20≤rest.length
  ·(refine Ai<|Ac<|Ab rfl<|Ab rfl<|CW rfl rfl<|Aa<|Au rfl (by omega)<|Am<|Av<|Ac<|As rfl<|Ab rfl<|Ab rfl<|CV rfl ?_);refine Dv 1 rfl (h1 (A:=bl.flatten) (M:=rest.take 20) (B:=rest.drop 20) oc hc1 (by rw[Zy,ZM];exact ho') (by rw[Zy,ZM];exact hg.perm hp) (by omega) (by simp only[ZP];omega)) (fun r d2 L2 _ ⟨hdd,M',h2,hL,ho2,hpm,hsm⟩=>?_);subst hdd;subst hL;(refine Aa<|Ac<|Ab rfl<|Ab rfl<|Aa<|Ay<|Ab rfl<|Ab rfl<|AI rfl rfl (by omega) (by omega)<|Ab rfl<|Aa ?_);refine⟨a+20,by omega,⟨rfl,rfl,rfl,rfl,rfl,int_eq (by omega),trivial⟩,rfl,bl++[M'],rest.drop 20,h2,?_,?_,?_,rfl,by simpa using ho2⟩
   ·have:=hpm.length_eq;simp only[ZP] at this;simp only[Adc,ZH,Aaw,Aca,Aal];omega
   ·intro x hx;rcases ZK.1 hx with hx|hx
    ·exact hbl x hx
    ·rw[Z9.1 hx];exact⟨by have:=hpm.length_eq;simp at this;omega,hsm⟩
   ·refine List.Perm.trans ?_ hp;rw[Adc,Zy];refine Abe _ ?_;simp only[Aaw,Aca,ZW];have:=hpm.append_right (rest.drop 20);rwa [ZM] at this
  ·(refine Ai<|Ac<|Ab rfl<|Ab rfl<|CW rfl rfl<|Aa<|Ao rfl (by omega)<|AV ?_);exact⟨rfl,a,bl,rest,h',ha,hbl,by omega,hp,rfl,ho',rfl,rfl,rfl,rfl,rfl,trivial⟩
 rintro ρ d' L' ⟨hdd,a,bl,rest,h',ha,hbl,hrest,hp,hL,ho',hs⟩;subst hdd;subst hL;refine Bo _ hs ?_;clear hs;have hlen:=hp.length_eq;simp only[ZH] at hlen;(refine Ac<|As rfl<|Ab rfl<|Ab rfl<|CV rfl ?_);refine Dv 1 rfl (h1 (A:=bl.flatten) (M:=rest) (B:=[]) oc hc1 (by simpa using ho') (by simpa using hg.perm hp) (by omega) (by omega)) (fun r d2 L2 _ ⟨hdd,M',h3,hL,ho2,hpm,hsm⟩=>?_);subst hdd;subst hL;have hml:=hpm.length_eq;(refine Aa<|Av ?_);refine Bg (α:=Nat) (fun bs=>[(0,.slice pa xs.length cp),(1,vZ xs.length),(2,.func (.func g) #[] #[]),(6,vZ bs)])
  (fun bs d' L'=>d'=d2∧20≤bs∧∃(bl:List (List α)) (rest:List α) (h':Ag),(∀x∈bl,x.length=bs∧Srt c x)∧rest.length<bs∧Srt c rest∧(bl.flatten++rest).Perm xs∧L'=[h']∧AN 7 R d2 (.slice pa xs.length cp) (bl.flatten++rest) h')
  (fun bs=>xs.length - bs) 20 ⟨rfl,rfl,rfl,rfl,trivial⟩ ⟨rfl,ZL _,bl,M',h3,hbl,by omega,hsm,(hpm.append_left _).trans hp,rfl,by simpa using ho2⟩ ?_
 clear ho2 hbl hpm hsm hml hrest hp ho' ha hlen;rintro bs ρ d3 L' ⟨hdd,hbs,bl,rest,h',hbl,hrest,hsr,hp,hL,ho'⟩;subst hdd;subst hL;have hlen:=hp.length_eq;simp only[ZH] at hlen;by_cases hc:bs<xs.length
 ·(refine Ai<|Ac<|Ab rfl<|Ab rfl<|Ax rfl rfl<|Aa<|Au rfl (by omega)<|Am<|Av<|Ac<|Ab rfl<|Hb rfl rfl (by omega) (by omega)<|Ab rfl<|Ab rfl<|Aa<|Ai<|Av ?_);refine Bg (α:=Nat) (fun a=>[(0,.slice pa xs.length cp),(1,vZ xs.length),(2,.func (.func g) #[] #[]),(6,vZ bs),(7,vZ a),(8,vZ (a+2*bs:Nat))])
   (fun a d' L'=>d'=d3∧∃(D bl:List (List α)) (rest:List α) (h':Ag),D.flatten.length=a∧(∀x∈D,x.length=2*bs∧Srt c x)∧(∀x∈bl,x.length=bs∧Srt c x)∧rest.length<bs∧Srt c rest∧(D.flatten++(bl.flatten++rest)).Perm xs∧L'=[h']∧AN 7 R d3 (.slice pa xs.length cp) (D.flatten++(bl.flatten++rest)) h')
   (fun a=>xs.length - a) 0 ⟨rfl,rfl,rfl,rfl,rfl,int_eq (by omega),trivial⟩ ⟨rfl,[],bl,rest,h',rfl,by simp,hbl,hrest,hsr,by simpa using hp,rfl,by simpa using ho'⟩ ?_
  clear ho' hp hbl hsr hrest hlen;rintro a ρ d2 L' ⟨hdd,D,bl,rest,h',ha,hD,hbl,hrest,hsr,hp,hL,ho'⟩;subst hdd;subst hL;have hlen:=hp.length_eq;simp only[ZH] at hlen;have hend:∀rest':List α,rest'.length<2*bs→Srt c rest'→∀h2,(D.flatten++rest').Perm xs→AN 7 R d2 (.slice pa xs.length cp) (D.flatten++rest') h2→20≤bs*2∧∃(bl:List (List α)) (rest:List α) (h':Ag),(∀x∈bl,x.length=bs*2∧Srt c x)∧rest.length<bs*2∧Srt c rest∧(bl.flatten++rest).Perm xs∧[h2]=[h']∧AN 7 R d2 (.slice pa xs.length cp) (bl.flatten++rest) h':=
   fun rest' q1 q2 h2 q3 q4=>⟨by omega,D,rest',h2,fun x hx=>⟨by have:=(hD x hx).1;omega,(hD x hx).2⟩,by omega,q2,q3,rfl,q4⟩
  match bl,hbl,hlen,hp,ho' with
  |X::Y::bl,hbl,hlen,hp,ho'=>
   obtain⟨hX1,hX2⟩:=hbl X (by simp)
   obtain⟨hY1,hY2⟩:=hbl Y (by simp)
   simp only[Aaw,ZH] at hlen
   have e1:D.flatten++((X::Y::bl).flatten++rest)=D.flatten++X++Y++(bl.flatten++rest):=by simp only[Aaw,Zy]
   rw[e1] at ho' hp
   (refine Ai<|Ac<|Ab rfl<|Ab rfl<|CW rfl rfl<|Aa<|Au rfl (by omega)<|Am<|Av<|Ac<|As rfl<|Ab rfl<|Ab rfl<|Ab rfl<|AI rfl rfl (by omega) (by omega)<|Ab rfl<|CV rfl ?_)
   refine Dv 1 rfl (h2 oc hc1 _ (ZL _) ho' (hg.perm hp) hX2 hY2 (fun q=>by subst q;simp at hX1;omega) (fun q=>by subst q;simp at hY1;omega) (by omega) (by omega) (by omega)) (fun r d3 L2 _ ⟨hdd,M',h3,hL,ho2,hpm,hsm⟩=>?_)
   subst hdd;subst hL
   have hml:=hpm.length_eq
   simp only[ZH] at hml
   (refine Aa<|Ac<|Ab rfl<|Ab rfl<|Aa<|Ay<|Ab rfl<|Ab rfl<|Hb rfl rfl (by omega) (by omega)<|AI rfl rfl (by omega) (by omega)<|Ab rfl<|Aa ?_)
   refine⟨a+2*bs,by omega,⟨rfl,rfl,rfl,rfl,rfl,int_eq (by omega),trivial⟩,rfl,D++[M'],bl,rest,h3,?_,?_,fun x hx=>hbl x (by simp[hx]),hrest,hsr,?_,rfl,by simpa using ho2⟩
   ·simp only[Adc,ZH,Aaw,Aca,Aal];omega
   ·intro x hx
    rcases ZK.1 hx with hx|hx
    ·exact hD x hx
    ·rw[Z9.1 hx];exact⟨by omega,hsm⟩
   ·refine List.Perm.trans ?_ hp
    simp only[Adc,Aaw,Aca,ZW,Zy]
    have:=(hpm.append_right (bl.flatten++rest)).append_left D.flatten
    simpa only[Zy] using this
  |[X],hbl,hlen,hp,ho'=>
   obtain⟨hX1,hX2⟩:=hbl X (by simp)
   simp only[Aaw,Aca,ZW] at hlen ho' hp
   by_cases hr0:rest=[]
   ·subst hr0
    simp only[Aal] at hlen
    rw[ZW] at ho' hp
    (refine Ai<|Ac<|Ab rfl<|Ab rfl<|CW rfl rfl<|Aa<|Ao rfl (by omega)<|AV<|Ai<|Ac<|Ab rfl<|Ab rfl<|AI rfl rfl (by omega) (by omega)<|Ab rfl<|Aa<|Ac<|Ab rfl<|Ab rfl<|Ax rfl rfl<|Aa<|Ao rfl (by omega)<|Am<|Ay<|Ab rfl<|Hb rfl rfl (by omega) (by omega)<|Ab rfl<|Aa ?_)
    exact⟨bs*2,by omega,⟨rfl,rfl,rfl,int_eq (by omega),trivial⟩,rfl,hend X (by omega) hX2 h' hp ho'⟩
   ·have hrl:rest.length≠0:=fun q=>hr0 (ZD q)
    rw[←Zy] at ho' hp
    (refine Ai<|Ac<|Ab rfl<|Ab rfl<|CW rfl rfl<|Aa<|Ao rfl (by omega)<|AV<|Ai<|Ac<|Ab rfl<|Ab rfl<|AI rfl rfl (by omega) (by omega)<|Ab rfl<|Aa<|Ac<|Ab rfl<|Ab rfl<|Ax rfl rfl<|Aa<|Au rfl (by omega)<|Ay<|As rfl<|Ab rfl<|Ab rfl<|Ab rfl<|CV rfl ?_)
    refine Dv 1 rfl (h2 (A:=D.flatten) (X:=X) (Y:=rest) (B:=[]) oc hc1 _ (ZL _) (by rw[ZW];exact ho') (by rw[ZW];exact hg.perm hp) hX2 hsr (fun q=>by subst q;simp at hX1;omega) hr0 (by omega) (by omega) (by omega)) (fun r d3 L2 _ ⟨hdd,M',h3,hL,ho2,hpm,hsm⟩=>?_)
    subst hdd;subst hL
    have hml:=hpm.length_eq
    simp only[ZH] at hml
    rw[ZW] at ho2
    (refine Aa<|Ay<|Ab rfl<|Hb rfl rfl (by omega) (by omega)<|Ab rfl<|Aa ?_)
    exact⟨bs*2,by omega,⟨rfl,rfl,rfl,int_eq (by omega),trivial⟩,rfl,hend M' (by omega) hsm h3 (by rw[Zy] at hp;exact(hpm.append_left _).trans hp) ho2⟩
  |[],hbl,hlen,hp,ho'=>
   simp only[Aca,Z5,Aal] at hlen ho' hp
   (refine Ai<|Ac<|Ab rfl<|Ab rfl<|CW rfl rfl<|Aa<|Ao rfl (by omega)<|AV<|Ai<|Ac<|Ab rfl<|Ab rfl<|AI rfl rfl (by omega) (by omega)<|Ab rfl<|Aa<|Ac<|Ab rfl<|Ab rfl<|Ax rfl rfl<|Aa<|Ao rfl (by omega)<|Am<|Ay<|Ab rfl<|Hb rfl rfl (by omega) (by omega)<|Ab rfl<|Aa ?_)
   exact⟨bs*2,by omega,⟨rfl,rfl,rfl,int_eq (by omega),trivial⟩,rfl,hend rest (by omega) hsr h' hp ho'⟩
 ·(refine Ai<|Ac<|Ab rfl<|Ab rfl<|Ax rfl rfl<|Aa<|Ao rfl (by omega)<|AV ?_);refine Iy _ (ZS _) ?_;refine⟨rfl,_,h',rfl,ho',hp,?_⟩
  match bl,hbl,hlen with
  |[],_,_=>exact hsr
  |[X],hbl,hlen=>
   obtain⟨hX1,hX2⟩:=hbl X (by simp)
   simp only[Aaw,Aca,ZW] at hlen⊢
   obtain rfl:rest=[]:=ZD (by omega)
   rw[ZW];exact hX2
  |X::Y::bl,hbl,hlen=>
   obtain⟨hX1,_⟩:=hbl X (by simp)
   obtain⟨hY1,_⟩:=hbl Y (by simp)
   simp only[Aaw,ZH] at hlen
   omega
def DM(a0:Nat):A6:=⟨9,[],(rG (om 4 0<|om 5 0<|oL 6 5<|om 7 1<|oc 8 a0 [4,6,7] .done))⟩
def J9{P f f1}(hd:dec P f=some (DM f1))(h1:Mb 7 P f1):Ms 7 P f:=by
 intro α R c d pa n cp g h xs oc hc1 ho hg;refine Bd hd (No rfl) ?_;show gwp P _ _ _ _ _;(refine Ay<|As rfl<|As rfl<|AA rfl<|CV rfl ?_);refine Dv 1 rfl (h1 oc hc1 ho hg) (fun r d2 L2 _ ⟨hdd,ys,h2,hL,ho2,hp,hs⟩=>?_);subst hdd;subst hL;(apply Aa);refine Iy [h2] (by simp) ?_;exact⟨rfl,ys,h2,rfl,ho2,hp,hs⟩
end Go.Gk
end
section
namespace Go.Gk
open Go
section
section
variable {P:Program}{pan:List PanicEntry→A0}{Qn:Env→A0}{Ls L:List Ag}{ρ:Env}{d:Ag}{s:GS}{t:Nat}
def Mg{f g}{first cap:Array Value}{args R vs A B}(hp:L.Perm (A++B))(ef:ev ρ f=.func (.func g) first cap)(ea:first.toList++args.map (ev ρ)++cap.toList=vs)
  (hc:A8 P g vs d A (Ret R)) (h:∀v d' L',Le d d'→R v d' L'→gws P pan Qn s Ls (upd ρ t v) d' (L'++B)):gws P pan Qn (.op false ⟨some t,none,.callv f args⟩ s) Ls ρ d L:=
 B9 d (A++B) (Vs.perm hp) (Sz A.length ef ea (by rw[List.take_left];exact hc) (fun v d' L' hl hr=>by rw[List.drop_left];exact h v d' L' hl hr))
def SB{f args R vs A B}(hc:A8 P f vs d A (Ret R))(hp:L.Perm (A++B))(ea:args.map (ev ρ)=vs)
  (h:∀v d' L',Le d d'→R v d' L'→gws P pan Qn s Ls (upd ρ t v) d' (L'++B)):gws P pan Qn (.op false ⟨some t,none,.call f args⟩ s) Ls ρ d L:=
 B9 d (A++B) (Vs.perm hp) (Dv A.length ea (by rw[List.take_left];exact hc) (fun v d' L' hl hr=>by rw[List.drop_left];exact h v d' L' hl hr))
end
end
end Go.Gk
end
section
namespace Go.Gk.Val
open Go Go.Gk Go.Gk.Utf Go.Gk.Srt
attribute [local irreducible] gwp gws
section
def Cb(d:Ag)(cs:List Value)(w:List St):Prop:=∃u,cs=[u]∧RSl 6 RSt d u w
def DW:HG Cb:=fun hl h=>by obtain⟨u,rfl,h⟩:=h;exact⟨u,rfl,RSl.mono (R:=RSt) Df h hl⟩
section
variable {P:Program}{pan:List PanicEntry→A0}{Qn:Env→A0}{Ls L:List Ag}{ρ:Env}{d:Ag}{s:GS}{t:Nat}{tk:Bool}
def YJ{x y a}{n c:Nat}{c0 c1 c2 c3 c4 c5}(ex:ev ρ x=.slice a n c)(ey:ev ρ y=.agg [c0,c1,c2,c3,c4,c5].toArray)(h:gws P pan Qn s Ls (upd ρ t (.agg [.slice a n c,c0,c1,c2,c3,c4,c5].toArray)) d L):
  gws P pan Qn (.op tk ⟨some t,none,.bld [(0,1),(1,6)] [.slice none 0 0,vZ 0,vZ 0,vZ 0,Al [],.slice none 0 0,.slice none 0 0] [(0,x),(1,y)]⟩ s) Ls ρ d L:=
 BN (cs:=[.slice a n c,c0,c1,c2,c3,c4,c5]) (by simp[Instr.fill,ex,ey,Value.cells,Al]) h
def Zb{x u c0 c1 c2 c3 c4 c5}(ex:ev ρ x=.agg [u,c0,c1,c2,c3,c4,c5].toArray)(h:∀b T,gws P pan Qn s Ls (upd ρ t (.slice (some ⟨b,0,none⟩) 1 1)) d (bx b T [u,c0,c1,c2,c3,c4,c5]::L)):
  gws P pan Qn (.op false ⟨some t,none,.bsl 1 7 [.slice none 0 0,vZ 0,vZ 0,vZ 0,Al [],.slice none 0 0,.slice none 0 0] [(0,x)]⟩ s) Ls ρ d L:=by
 refine DI (by omega) ?_ h
 simp[Instr.fill,BC,Z8,List.range.loop,ex,Value.cells]
end
def Ln(T:Ag→Prop)(P:Program)(f:FuncId):Prop:=∀{d cs wv}{v:V}{ws:List (List St)},T d→Aw d cs v→RSl 1 Cb d wv ws→Bq v≤1000000→ws.length≤1000→(∀w∈ws,w.length≤100)→
 A8 P f [.agg cs.toArray,wv] d [] (Ret fun r d' L'=>Le d d'∧∃cs' h,r=.tuple #[.agg cs'.toArray,vZ (DT v ws).2]∧L'=[h]∧Cv cs' (DT v ws).1 h)
def VM{ws:List (List St)}{p:Nm}(h:p∈ws.map fun w=>(w,BU w))(ha:ws.all Dc=true):Dc p.1=true∧p.2=BU p.1∧(∀a∈p.2.list,AS a=0):=by
 obtain⟨w,hw,rfl⟩:=Abq.1 h;have hk:=ZF.1 ha w hw;refine⟨hk,rfl,fun a ha=>?_⟩
 obtain⟨s,hs,rfl⟩:=Abq.1 (show a∈w.map B4 from ha);exact CE.2 ⟨Rm (ZF.1 hk s hs),by have:=SV s;omega⟩
def Pw(a0 a1 a2 a3 a4 a5 a6 a7:Nat):A6:=⟨69,[(.cell 4 (some 6)),(.tmp 5)],(sR (o1 2 (.box 0)<|o1 4 (.alo (.agg #[(vZ 0),(vZ 0),(vZ 0),(Al []),(.slice none 0 0),(.slice none 0 0)]))<|o1 5 (.mv z0) .done) (.seq (sR (o1 16 (.ld (some 6) 2)<|oc 17 a0 [16]<|om 6 17 .done) (sR (om 18 6<|ob 19 .neq 18 z0 .done) (.cond 19 (sR (o1 20 (.bld [(0,1),(1,2),(3,1),(4,1),(5,1)] [(vZ 0),(vZ 0),(vZ 0),(Al []),(.slice none 0 0),(.slice none 0 0)] [])<|om 21 6<|o0 (.st 6 4 20)<|om 5 21 .done) .ret) .skip))) (sR (o1 7 (.mv nS) .done) (.seq (sR (om 22 1<|oL 23 22<|o1 24 (.mv z0) .done) (.block 0 (.loop (sR (ob 25 .lss 24 23 .done) (.seq (.cond 25 .skip (.exit 0)) (.seq (.block 1 (sR (oI 26 1 22 24<|ol 27 26<|om 9 27 .done) (sR (om 29 9<|oc 30 a1 [29]<|om 28 30<|oe 31 28 0<|oe 32 28 1<|o1 10 (.alo (.agg #[(vZ 0),(vZ 0),(vZ 0),(Al []),(.slice none 0 0),(.slice none 0 0)]))<|o0 (.st 6 10 31)<|om 11 32 .done) (.seq (sR (om 33 11<|ob 34 .neq 33 z0 .done) (.cond 34 (sR (o1 35 (.bld [(0,1),(1,2),(3,1),(4,1),(5,1)] [(vZ 0),(vZ 0),(vZ 0),(Al []),(.slice none 0 0),(.slice none 0 0)] [])<|om 36 11<|o0 (.st 6 4 35)<|om 5 36 .done) .ret) .skip)) (rG (om 37 7<|om 38 9<|o1 39 (.ld (some 6) 10)<|o1 40 (.bld [(0,1),(1,6)] [(.slice none 0 0),(vZ 0),(vZ 0),(vZ 0),(Al []),(.slice none 0 0),(.slice none 0 0)] [(0,38),(1,39)])<|o1 41 (.bsl 1 7 [(.slice none 0 0),(vZ 0),(vZ 0),(vZ 0),(Al []),(.slice none 0 0),(.slice none 0 0)] [(0,40)])<|o1 42 (.app 7 112 [(.slice none 0 0),(vZ 0),(vZ 0),(vZ 0),(Al []),(.slice none 0 0),(.slice none 0 0)] 37 41)<|om 7 42 .done)))))) (rG (ob 43 .add 24 z1<|om 24 43 .done)))))))) (sR (om 44 7<|oc 45 a2 [44,(.func a3)] .done) (sR (om 46 7<|oc 47 a4 [46,(.func a5)]<|om 7 47 .done) (.seq (sR (om 48 7<|oL 49 48<|o1 50 (.mv z0) .done) (.block 2 (.loop (sR (ob 51 .lss 50 49 .done) (.seq (.cond 51 .skip (.exit 2)) (.seq (.block 3 (sR (oI 52 7 48 50<|o1 53 (.ld (some 7) 52)<|o1 13 (.alo (.agg #[(.slice none 0 0),(vZ 0),(vZ 0),(vZ 0),(Al []),(.slice none 0 0),(.slice none 0 0)]))<|o0 (.st 7 13 53) .done) (sR (o1 55 (.ld (some 6) 2)<|oj 56 0 13<|ol 57 56<|oc 58 a6 [55,57]<|om 54 58<|oe 59 54 0<|oe 60 54 1<|o1 14 (.alo (.agg #[(vZ 0),(vZ 0),(vZ 0),(Al []),(.slice none 0 0),(.slice none 0 0)]))<|o0 (.st 6 14 59)<|om 15 60 .done) (.seq (sR (om 61 15<|ob 62 .neq 61 z0 .done) (.cond 62 (sR (o1 63 (.bld [(0,1),(1,2),(3,1),(4,1),(5,1)] [(vZ 0),(vZ 0),(vZ 0),(Al []),(.slice none 0 0),(.slice none 0 0)] [])<|om 64 15<|o0 (.st 6 4 63)<|om 5 64 .done) .ret) .skip)) (rG (o1 65 (.ld (some 6) 14)<|o0 (.st 6 2 65) .done)))))) (rG (ob 66 .add 50 z1<|om 50 66 .done)))))))) (sR (o1 67 (.ld (some 6) 2)<|oc 68 a7 [67]<|o0 (.st 6 4 68)<|o1 5 (.mv z0) .done) .ret))))))))⟩
set_option maxHeartbeats 4000000 in
def WX{T:Ag→Prop}{P:Program}{f f1 f2 f3 f4 f5 f6 f7 f8:FuncId}(hTm:∀{d d':Ag},Le d d'→T d→T d')(hd:dec P f=some (Pw f1 f2 f3 f4 f5 f6 f7 f8))(h1:Fq T P f1)(h2:HB T P f2)(h3:Ms 7 P f3)(h4:N3 T P f4)(h5:KY 7 P f5)(h6:MD P f6)(h7:PZ T P f7)(h8:Hm P f8):Ln T P f:=by
 intro d cs wv v ws ht hv hws hb hwl hwb;refine Bd hd (No rfl) ?_;obtain⟨c0,c1,c2,c3,c4,c5,rfl⟩:=six hv.len;obtain⟨wa,wc,rfl⟩:=RSl.val hws;have hws0:RSl 1 Cb d (.slice wa ws.length wc) ws:=hws;show gwp P _ _ _ _ _;apply Ai;apply Ay;refine B9 d [emp] Vs.emp ?_;refine AO (l:=[c0,c1,c2,c3,c4,c5]) rfl (fun b2 T2=>?_);(refine AX (fun _ _=>Ab rfl<|Aa<|Ai<|Ac<|AD 1 rfl rfl rfl ?_));rename_i b4 T4;refine AF rfl (h1 ht hv) ?_;by_cases hr:AS v≠0
 ·rw[DT,if_pos hr];(refine Ab rfl<|Aa<|Ac<|Ab rfl<|AG rfl rfl<|Aa<|Au rfl (by omega)<|Ac<|Bl<|Ab rfl ?_);refine Az 0 A7 rfl rfl rfl rfl (No rfl) rfl rfl ?_;(refine Ab rfl<|Aa<|Ar ?_);exact G0 [.agg A7.toArray,vZ (AS v)] ⟨A3 0 rfl rfl rfl,A4 rfl,trivial⟩ (d':=d) (L':=[_]) DN ⟨Le.refl _,_,_,rfl,rfl,Cv.zero⟩
 rewrite [DT,if_neg hr];(refine Ab rfl<|Aa<|Ac<|Ab rfl<|AG rfl rfl<|Aa<|Ao rfl (by omega)<|Am<|Ac<|As rfl<|Aa<|Ai<|Ac<|As rfl<|AA rfl<|Ab rfl<|Aa<|Av ?_);refine Bg (α:=Nat×Option Addr×Nat) (fun x=>[(2,pZ b2),(4,pZ b4),(7,.slice x.2.1 x.1 x.2.2),(22,.slice wa ws.length wc),(23,vZ ws.length),(24,vZ x.1)])
  (fun x d' L'=>Le d d'∧x.1≤ws.length∧(∀j (hj:j<ws.length),j<x.1→Dc ws[j]=true)∧∃J h,AN 7 RNm d' (.slice x.2.1 x.1 x.2.2) ((ws.map fun w=>(w,BU w)).take x.1) h∧L'=bx b4 T4 A7::bx b2 T2 [c0,c1,c2,c3,c4,c5]::h::J)
  (fun x=>ws.length - x.1) (0,none,0) ⟨rfl,rfl,rfl,rfl,rfl,rfl,trivial⟩ ⟨Le.refl _,ZN _,fun j _ h=>absurd h (Z3 j),[],emp,AN.nil,rfl⟩ ?_
 rintro⟨i,ra,rc⟩ ρ d3 L' ⟨hl3,hi,hall,J,h,hrow,hL⟩;simp only at hi hall hrow⊢;subst hL;have hws3:RSl 1 Cb d3 (.slice wa ws.length wc) ws:=RSl.mono (R:=Cb) DW hws0 hl3;have ht3:=hTm hl3 ht;have hv3:=hv.mono hl3;by_cases hc:i<ws.length
 ·(refine Ac<|Ax rfl rfl<|Aa<|Ai<|Au rfl (by omega)<|Am<|Ai<|Av<|Ac ?_);refine AJ (sz:=1) (R:=Cb) rfl hws3 rfl rfl hc (fun bq oq csq hcq hDq ⟨u,hu,hw⟩=>?_);subst hu;obtain⟨ua,uc,rfl⟩:=RSl.val hw;(refine Ah rfl (A1 (by assumption) rfl)<|As rfl<|Aa<|Ac<|As rfl ?_);have hlw:=hwb _ (ZC hc);refine AR rfl (h2 ht3 hw (by omega)) (fun r d4 L4 hl4 ⟨hL,cs',hr',hR⟩=>?_);subst hL;subst hr';obtain⟨e0,e1,e2,e3,e4,e5,rfl⟩:=six hR.len;(refine Bj rfl<|AL rfl rfl<|AL rfl rfl<|AX (fun _ _=>?_));rename_i b10 T10;refine Az 0 [e0,e1,e2,e3,e4,e5] rfl rfl rfl rfl (No rfl) (AH _ _ _ hR) rfl ?_;have hvf:Cr ws[i]=if Dc ws[i]=true then(BU ws[i],0) else(V.zero,2):=rfl
  by_cases hok:Dc ws[i]=true
  ·rw[if_pos hok] at hvf;have hvf2:(Cr ws[i]).2=0:=by rw[hvf]
   rw[hvf] at hR;rewrite [hvf2];simp only at hR;clear hvf hvf2;have hall2:True∧∀j (hj:j<ws.length),j<i+1→Dc ws[j]=true:=⟨trivial,fun j hj hji=>by
    by_cases e:j<i
    ·exact hall j hj e
    ·obtain rfl:j=i:=by omega
     exact hok⟩
   clear hok;(refine Ab rfl<|Aa<|Ai<|Ac<|Ab rfl<|AG rfl rfl<|Aa<|Ao rfl (by omega)<|Am<|Ay<|As rfl<|As rfl<|AD 0 rfl rfl rfl<|YJ rfl rfl ?_);refine Zb rfl (fun b41 T41=>?_);have hnm:RNm d4 [.slice ua ws[i].length uc,e0,e1,e2,e3,e4,e5] (ws[i],BU ws[i]):=⟨_,_,rfl,RSl.mono (R:=RSt) Df hw hl4,hR⟩
   have hrow4:AN 7 RNm d4 (.slice ra i rc) ((ws.map fun w=>(w,BU w)).take i) h:=AN.mono (R:=RNm) NW hrow hl4;refine DH (R:=RNm) 3 rfl rfl hrow4 rfl (AN.D8 rfl hnm) Je (by omega) (by simp;omega) (by simp;omega) (fun v5 h5 o5=>?_);have htk:(ws.map fun w=>(w,BU w)).take i++[(ws[i],BU ws[i])]=(ws.map fun w=>(w,BU w)).take (i+1):=by rw[ZA (show i<(ws.map fun w=>(w,BU w)).length by simpa using hc)];simp
   rw[htk] at o5;obtain⟨a5,c5',rfl⟩:=o5.val;have hlt:((ws.map fun w=>(w,BU w)).take (i+1)).length=i+1:=by simp;omega
   rw[hlt] at o5;rewrite [hlt];refine B9 d4 (bx b4 T4 A7::bx b2 T2 [c0,c1,c2,c3,c4,c5]::h5::J) (Vs.drop (.cons _ (ZS _))) ?_;(refine As rfl<|Aa<|Ay<|AI rfl rfl (by omega) (by omega)<|Ab rfl<|Aa ?_);exact⟨(i+1,a5,c5'),by simp only;omega,⟨rfl,rfl,rfl,rfl,rfl,int_eq (by omega),trivial⟩,hl3.trans hl4,hc,hall2.2,J,h5,o5,rfl⟩
  ·rw[if_neg hok] at hvf;have hvf2:(Cr ws[i]).2=2:=by rw[hvf]
   rw[hvf] at hR;rewrite [hvf2];simp only at hR;clear hvf hvf2;rewrite [if_neg (fun q=>hok (ZF.1 q _ (ZC hc)))];clear hok;(refine Ab rfl<|Aa<|Ai<|Ac<|Ab rfl<|AG rfl rfl<|Aa<|Au rfl (by omega)<|Ac<|Bl<|Ab rfl ?_);refine Az 1 A7 rfl rfl rfl rfl (No rfl) rfl rfl ?_;(refine Ab rfl<|Aa<|Ar ?_);exact G0 [.agg A7.toArray,vZ 2] ⟨A3 1 rfl rfl rfl,A4 rfl,trivial⟩ (d':=d4) (L':=[_]) DN ⟨hl3.trans hl4,_,_,rfl,rfl,Cv.zero⟩
 ·obtain rfl:i=ws.length:=by omega
  have hwok:ws.all Dc=true:=by
   rw[ZF];intro w hw;obtain⟨j,hj,rfl⟩:=List.getElem_of_mem hw;exact hall j hj hj
  rewrite [if_pos hwok];have hfull:(ws.map fun w=>(w,BU w)).take ws.length=ws.map fun w=>(w,BU w):=Z7 (by simp);rw[hfull] at hrow;generalize hN:(ws.map fun w=>(w,BU w))=N at hrow;have hNl:N.length=ws.length:=by rw[←hN];simp
  have hNk:∀p∈N,Dc p.1=true∧p.2=BU p.1∧(∀a∈p.2.list,AS a=0):=fun p hp=>VM (ws:=ws) (by rw[hN];exact hp) hwok;have hNw:ws.map BU=N.map (·.2):=by rw[←hN,List.map_map];rfl
  (refine Ac<|Ax rfl rfl<|Aa<|Ai<|Ao rfl (by omega)<|AV<|Ac<|As rfl ?_);have hcmp:Ij P RNm cN f4 d3 N:=fun p hp q hq cs ds rp rq=>by
   have:=h4 ht3 rp rq (hNk p hp).2.2 (hNk q hq).2.2;rw[X9] at this;exact this
  have hnl:N.length=ws.length:=hNl;rw[←hnl] at hrow;rewrite [←hnl];refine SB (A:=[h]) (B:=bx b4 T4 A7::bx b2 T2 [c0,c1,c2,c3,c4,c5]::J) (h3 YC Je hrow hcmp) ((Z1 _ (Z0 _ _ _)).trans (Z0 _ _ _)) rfl (fun r d9 L9 _ ⟨hdd,ys,h9,hL,hrow2,hpm,hsrt⟩=>?_);subst hdd;subst hL;have hyl:ys.length=N.length:=hpm.length_eq;rw[←hyl] at hrow2;rewrite [←hyl];(refine Aa<|Ac<|As rfl ?_);refine SB (A:=[h9]) (B:=bx b4 T4 A7::bx b2 T2 [c0,c1,c2,c3,c4,c5]::J) (h5 (e:=fun a b:Nm=>Ck a.2 b.2) Je hrow2 (fun x _ y _ cs ds rx ry=>h6 rx ry) rfl) (Abf _) rfl (fun r d10 L10 _ ⟨hdd,h10,hr10,hL,hrow3⟩=>?_);subst hdd;subst hL;subst hr10;refine BF (fun d5 hl5 hg5=>?_);have hrs:=hrow3.rsl (R:=RNm) NW (by omega) hl5 hg5;have hcl:=RD (fun a b:Nm=>Ck a.2 b.2) ys;have hsort:Srt (fun x y=>BA y x) (ys.map (·.2)):=by
   refine List.pairwise_map.2 (hsrt.imp_of_mem fun{a b} ha hb hab=>?_);have ha':=hNk a (hpm.mem_iff.1 ha);have hb':=hNk b (hpm.mem_iff.1 hb);unfold cN at hab;rw[ha'.2.1,hb'.2.1] at hab;rewrite [ha'.2.1,hb'.2.1];exact hab
  have hdesc:(B2 (fun a b:Nm=>Ck a.2 b.2) ys).map (·.2)=ER (ws.map BU):=by
   rw[RI,hNw];refine Ry (fun y hy=>?_) (fun x=>(hpm.map (·.2)).mem_iff) hsort;obtain⟨p,hp,rfl⟩:=Abq.1 hy;obtain⟨k1,k2,_⟩:=hNk p hp;rw[k2];exact SE k1
  have hCk:∀p∈B2 (fun a b:Nm=>Ck a.2 b.2) ys,Dc p.1=true∧p.2=BU p.1∧p.1.length≤100:=fun p hp=>by
   have hpy:p∈ys:=(RA _ _).subset hp;have hpN:=hpm.mem_iff.1 hpy;obtain⟨k1,k2,_⟩:=hNk p hpN;refine⟨k1,k2,?_⟩
   rw[←hN] at hpN;obtain⟨w,hw,rfl⟩:=Abq.1 hpN;exact hwb w hw
  rewrite [←hdesc];generalize hC:B2 (fun a b:Nm=>Ck a.2 b.2) ys=C at hrs hcl hCk⊢;clear hcmp hN hNk hNw hdesc hsort hsrt hpm hC hall hwok;(refine As rfl<|Aa<|Ai<|Ac<|As rfl<|AA rfl<|Ab rfl<|Aa<|Av ?_);refine Bg (α:=Nat) (fun i=>[(2,pZ b2),(4,pZ b4),(48,.slice ra C.length rc),(49,vZ C.length),(50,vZ i)])
   (fun i d' L'=>Le d5 d'∧i≤C.length∧∃v' a0 a1 a2 a3 a4 a5 J,Aw d' [a0,a1,a2,a3,a4,a5] v'∧Bq v'≤1000000∧FG v (C.map (·.2))=FG v' ((C.drop i).map (·.2))∧L'=bx b4 T4 A7::bx b2 T2 [a0,a1,a2,a3,a4,a5]::J)
   (fun i=>C.length - i) 0 ⟨rfl,rfl,rfl,rfl,rfl,trivial⟩ ⟨Le.refl _,ZN _,v,c0,c1,c2,c3,c4,c5,J,hv3.mono hl5,hb,rfl,rfl⟩ ?_
  rintro i ρ d6 L' ⟨hl6,hi,v',a0,a1,a2,a3,a4,a5,J',hv',hb',hdr,hL⟩;subst hL;have hrs6:RSl 7 RNm d6 (.slice ra C.length rc) C:=RSl.mono (R:=RNm) NW hrs hl6;have ht6:=hTm (hl5.trans hl6) ht3;have hva:=AH _ _ _ hv';by_cases hc:i<C.length
  ·obtain⟨k1,k2,k3⟩:=hCk _ (ZC hc);rw[←List.getElem_cons_drop hc,Abc,FG] at hdr;rw[k2,←LR k1] at hdr;(refine Ac<|Ax rfl rfl<|Aa<|Ai<|Au rfl (by omega)<|Am<|Ai<|Av<|Ac ?_);refine AJ (sz:=7) (R:=RNm) rfl hrs6 rfl rfl hc (fun bq oq csq hcq hDq ⟨u,vs,hu,hw,hx⟩=>?_);subst hu;obtain⟨ua,uc,rfl⟩:=RSl.val hw;have hxc:=AH _ _ _ hx;obtain⟨x0,x1,x2,x3,x4,x5,rfl⟩:=six hx.len;(refine BE rfl (by assumption) rfl<|AX (fun _ _=>?_));rename_i b13 T13;refine Az 0 [.slice ua C[i].1.length uc,x0,x1,x2,x3,x4,x5] rfl rfl rfl rfl (No rfl) (Je d6 _ C[i] ⟨_,_,rfl,hw,hx⟩) rfl ?_;(refine Aa<|Ac<|AD 2 rfl rfl rfl<|Af rfl<|Ah rfl (Aj 0 rfl rfl) ?_);refine AR rfl (h7 ht6 hv' hw hb' k3) (fun r d7 L7 hl7 ⟨hdd,cs',g,hr',hL,ho⟩=>?_);subst hdd;subst hL;subst hr';have htx:=Kx v' C[i].1 hb';obtain⟨e0,e1,e2,e3,e4,e5,rfl⟩:=six ho.cells.1;refine BF (fun d8 hl8 hg8=>?_);have hR:=ho.Mj hg8;have hRc:=AH _ _ _ hR;(refine Bj rfl<|AL rfl rfl<|AL rfl rfl<|AX (fun _ _=>?_));rename_i b14 T14;refine Az 0 [e0,e1,e2,e3,e4,e5] rfl rfl rfl rfl (No rfl) hRc rfl ?_;by_cases he:(CC v' C[i].1).2≠0
   ·rw[if_pos he] at hdr;rewrite [hdr];(refine Ab rfl<|Aa<|Ai<|Ac<|Ab rfl<|AG rfl rfl<|Aa<|Au rfl (by omega)<|Ac<|Bl<|Ab rfl ?_);refine Az 2 A7 rfl rfl rfl rfl (No rfl) rfl rfl ?_;(refine Ab rfl<|Aa<|Ar ?_);exact G0 [.agg A7.toArray,vZ (CC v' C[i].1).2] ⟨A3 2 rfl rfl rfl,A4 rfl,trivial⟩ (d':=d8) (L':=[_]) DN ⟨((hl3.trans hl5).trans hl6).trans hl8,_,_,rfl,rfl,Cv.zero⟩
   ·rw[if_neg he] at hdr;(refine Ab rfl<|Aa<|Ai<|Ac<|Ab rfl<|AG rfl rfl<|Aa<|Ao rfl (by omega)<|Am<|Ay<|AD 0 rfl rfl rfl ?_);refine B9 d8 (bx b4 T4 A7::bx b2 T2 [a0,a1,a2,a3,a4,a5]::J') (Vs.drop (.cons _ (.cons _ (ZS _)))) ?_;refine Az 1 [e0,e1,e2,e3,e4,e5] rfl rfl rfl rfl (No rfl) hRc rfl ?_;(refine Aa<|Ay<|AI rfl rfl (by omega) (by omega)<|Ab rfl<|Aa ?_);exact⟨i+1,by omega,⟨rfl,rfl,rfl,rfl,int_eq (by omega),trivial⟩,hl6.trans hl8,hc,_,e0,e1,e2,e3,e4,e5,J',hR,Nat.le_trans htx hb',hdr,rfl⟩
  ·obtain rfl:i=C.length:=by omega
   rw[Aag] at hdr;rw[show FG v' (([]:List Nm).map (·.2))=(v',0) from rfl] at hdr;rewrite [hdr];have hcn:=Ec v';(refine Ac<|Ax rfl rfl<|Aa<|Ai<|Ao rfl (by omega)<|AV<|Ac<|AD 1 rfl rfl rfl ?_);refine AR rfl (h8 _ hv' (by omega)) (fun r d7 L7 hl7 ⟨hdd,cs',g,hr',hL,ho⟩=>?_);subst hdd;subst hL;subst hr';obtain⟨e0,e1,e2,e3,e4,e5,rfl⟩:=six ho.cells.1;refine Az 1 [e0,e1,e2,e3,e4,e5] rfl rfl rfl rfl (No rfl) ho.cells.2 rfl ?_;(refine Ab rfl<|Aa<|Ar ?_);exact G0 [.agg [e0,e1,e2,e3,e4,e5].toArray,vZ 0] ⟨A3 1 rfl rfl rfl,A4 rfl,trivial⟩ (d':=d7) (L':=[g]) (Vs.drop ((List.nil_sublist _).cons_cons _)) ⟨(hl3.trans hl5).trans hl6,_,_,rfl,rfl,ho⟩
end
end Go.Gk.Val
end
section
namespace Go.Gk.Val
open Go Go.Gk Go.Gk.Utf
attribute [local irreducible] gwp gws
variable{i:Nat}{v:V}{d h:Ag}
def stepOf(k:Int)(ks:List (List UInt8))(i:Nat):St:=if k=6 then⟨0,ks.getD i [],0,0,false,false⟩ else⟨1,[],i,0,false,false⟩
mutual
def EV:V→List (List St)
 |.mk k _ _ _ l ks=>[]::Es k ks 0 l
def Es(k:Int)(ks:List (List UInt8)):Nat→List V→List (List St)
 |_,[]=>[]
 |i,x::l=>(EV x).map (stepOf k ks i:: ·)++Es k ks (i+1) l
end
def QI(v:V):EV v=[]::Es v.kind v.keys 0 v.list:=by obtain⟨k,m,e,t,l,ks⟩:=v;rfl
def MU(k:Int)(ks:List (List UInt8)):∀(l:List V) (i:Nat) (x:V),Es k ks i (l++[x])=Es k ks i l++(EV x).map (stepOf k ks (i+l.length):: ·)
 |[],i,x=>by simp[Es]
 |y::l,i,x=>by
  have e:i+1+l.length=i+(l.length+1):=by omega
  simp only[Z6,Es,MU k ks l (i+1) x,ZU,Zy,e]
def Th{k:Int}{ks}{l:List V}(h:i<l.length):Es k ks 0 (l.take (i+1))=Es k ks 0 (l.take i)++(EV l[i]).map (stepOf k ks i:: ·):=by
 rw[ZA h,MU,ZP,Acq (Nat.le_of_lt h),Aac]
def H0(k:Int)(ks:List (List UInt8)):∀(l:List V) (i:Nat),(∀x∈l,(EV x).length≤Cc x)→(Es k ks i l).length≤Co l
 |[],_,_=>ZN _
 |x::l,i,h=>by
  have h1:=h x (ZG ..);have h2:=H0 k ks l (i+1) (fun y hy=>h y (ZE _ hy));simp only[Es,ZH,Aay,Co];omega
def Qc(v:V):(EV v).length≤Cc v:=by
 induction v using V.ind with
 |h v ih=>
  rw[QI,CZ,ZU]
  have:=H0 v.kind v.keys v.list 0 ih
  omega
def O6:∀(l:List V) (n:Nat),Co (l.take n)≤Co l
 |[],_=>by simp[Co]
 |x::l,0=>by simp[Co]
 |x::l,n+1=>by have:=O6 l n;simp only[Abx,Co];omega
def Un(h:i≤v.list.length):(Es v.kind v.keys 0 (v.list.take i)).length≤Co v.list:=by
 have h1:=H0 v.kind v.keys (v.list.take i) 0 (fun x _=>Qc x);have h2:=O6 v.list i;omega
def OWs(v:Value)(ws:List (List St))(L:List Ag):Prop:=
 ∃us h0 hs,BO 1 v ws.length us h0∧hs.length=ws.length∧(∀i (hi:i<ws.length),∃u g,us[i]?=some u∧hs[i]?=some g∧AN 6 RSt emp u ws[i] g)∧L=h0::hs
def OWs.nil:OWs (.slice none 0 0) [] [emp]:=⟨[],emp,[],BO.nil 1,rfl,fun i hi=>absurd hi (Z3 i),rfl⟩
def Wx{v}{w:List St}(o:AN 6 RSt d v w h):[v].all (·.oneCell')=true:=by obtain⟨a,c,rfl⟩:=o.val;rfl
def Rk{v}{w:List St}(o:AN 6 RSt d v w h):v.cells= #[v]:=by obtain⟨a,c,rfl⟩:=o.val;rfl
def JS{d' v}{w:List St}(o:AN 6 RSt d v w h):AN 6 RSt d' v w h:=o
def OWs.snoc{v'}{ws:List (List St)}{us hs u}{w:List St}{h0 g}(ho:BO 1 v' (ws.length+1) (us++[u]) h0)(hul:us.length=ws.length)(hhl:hs.length=ws.length)
  (hel:∀i (hi:i<ws.length),∃u g,us[i]?=some u∧hs[i]?=some g∧AN 6 RSt emp u ws[i] g) (hg:AN 6 RSt emp u w g):OWs v' (ws++[w]) (h0::(hs++[g])):=by
 refine⟨us++[u],h0,hs++[g],by simpa using ho,by simp[hhl],fun i hi=>?_,rfl⟩
 by_cases e:i<ws.length
 ·obtain⟨u',g',e1,e2,e3⟩:=hel i e
  exact⟨u',g',by rw[Aaq (by omega)];exact e1,by rw[Aaq (by omega)];exact e2,by rw[List.getElem_append_left e];exact e3⟩
 ·obtain rfl:i=ws.length:=by simp at hi;omega
  refine⟨u,g,by rw[Abm (by omega),hul,Acg];rfl,by rw[Abm (by omega),hhl,Acg];rfl,?_⟩
  simp only[List.getElem_append_right (ZL _),Acg]
  exact hg
def Wo(h:BW v=true)(h6:v.kind=6):v.keys.length=v.list.length:=by
 simp only[BW,Zz,Aad,decide_eq_true_eq] at h;rcases h.2 with q|q
 ·exact absurd h6 q
 ·exact q
def SW{d' kv}{k:Int}{ks}(hk:BK d kv ks)(hi:i≤1000000000):RSt d' (stL (stepOf k ks i)) (stepOf k ks i):=by
 refine⟨rfl,?_⟩
 unfold stepOf;split
 ·refine⟨Ba,?_,Ba,Ba⟩
  by_cases h:i<ks.length
  ·obtain⟨a,c,b,o,_,_,_,_,_,_,_,h8⟩:=hk;obtain⟨cs,_,_,_,h9⟩:=h8 i h;simpa [h] using h9
  ·simp[List.getD,List.getElem?_eq_none (Nat.le_of_not_lt h)]
 ·exact⟨JM,by simp,⟨by simp only;omega,by simp only;omega⟩,Ba⟩
def US{l:List V}:∀{i:Nat}(h:i<l.length),Co (l.take i)+Cc l[i]≤Co l:=by
 induction l with
 |nil=>intro i h;exact absurd h (Z3 i)
 |cons x l ih=>
  intro i h
  cases i with
  |zero=>simp[Co]
  |succ i=>have:=ih (i:=i) (by simpa using h);simp only[Abx,Co,List.getElem_cons_succ];omega
def VS{x:V}(h:x∈v.list):Bc x+1≤Bc v:=by
 have h1:=EL v;obtain⟨n,hn⟩:∃n,Bc v=n+1:=⟨Bc v - 1,by omega⟩
 have:=DQ.1 (Nat.le_of_eq hn) x h;omega
def N4{P}{Q:Er}{a:Cz}{ρ L}(M:Env→A0)(h1:gwp P a {Q with n:=M} ρ d L)(h2:∀ρ d L,M ρ d L→Q.n ρ d L):gwp P a Q ρ d L:=FP h2 h1
def KC(P:Program)(f:FuncId):Prop:=∀{d v}{xs:List St},RSl 6 RSt d v xs→xs.length≤1000000→A8 P f [v] d [] (Ret fun r d' L'=>d'=d∧∃h,L'=[h]∧AN 6 RSt d r xs h)
def FQ:A6:=⟨8,[(.tmp 2)],(sR (o1 2 (.mv nS) .done) (.seq (sR (om 3 0<|o1 4 (.eqs false 3 nS) .done) (.cond 4 (sR (o1 2 (.mv nS) .done) .ret) .skip)) (sR (o1 5 (.bsl 0 6 [(vZ 0),(Al []),(vZ 0),(vZ 0),(.bool false),(.bool false)] [])<|om 6 0<|o1 7 (.app 6 48 [(vZ 0),(Al []),(vZ 0),(vZ 0),(.bool false),(.bool false)] 5 6)<|om 2 7 .done) .ret)))⟩
def VY{P f}(hd:dec P f=some FQ):KC P f:=by
 intro d v xs hv hb;have hv':=hv;have hxl:=RSl.Be hv;obtain⟨a,c,b,o,rfl,h2,h3,h4,h5,_⟩:=hv;refine Bd hd (No rfl) ?_;show gwp P _ _ _ _ _;cases a with
 |none=>
  have:xs=[]:=ZD (by have:=h4 rfl;omega)
  subst this
  apply Ai;apply Ay
  refine B9 d [emp] Vs.emp ?_
  (refine As rfl<|Aa<|Ai<|Ac<|As rfl<|UX rfl rfl<|Aa<|Bb rfl<|Ac<|As rfl<|Aa<|Ar ?_)
  exact PT (L':=[emp]) rfl (ZS _) ⟨rfl,emp,rfl,AN.nil⟩
 |some a=>
  (refine Ac<|As rfl<|Aa<|Ai<|Ac<|As rfl<|UY rfl rfl<|Aa<|AK rfl<|Am<|Ac ?_)
  refine DI (cs:=[]) (by omega) rfl (fun b8 T8=>?_)
  (apply As;rfl)
  refine CO 0 rfl rfl (AN.Iw (R:=RSt) (sz:=6)) rfl (RSl.src (R:=RSt) (xs:=xs) hv' HL (by omega) _) (by omega) (by simp;omega) (by simp;omega) (fun v5 h5 hrow5=>?_)
  (refine Ew<|Aa<|Ar ?_)
  exact PT (L':=[h5]) rfl (ZS _) ⟨rfl,h5,rfl,hrow5⟩
def OO{ws:List (List St)}{w:List St}(h:i<v.list.length):
  ws++[w]++(Es v.kind v.keys 0 (v.list.take i)).map (w++ ·)++(EV v.list[i]).map ((w++[stepOf v.kind v.keys i])++ ·)=ws++[w]++(Es v.kind v.keys 0 (v.list.take (i+1))).map (w++ ·):=by
 rw[Th h,List.map_append,List.map_map,Zy]
 congr 2
 refine List.map_congr_left fun y _=>?_
 simp
def NO(P:Program)(f:FuncId):Prop:=∀(v:V) {d cs wv out}{w:List St}{ws:List (List St)}{bo bw:Nat}{To Lo},Aw d cs v→BH v=true→RSl 6 RSt d wv w→
 DCs d bw 0 [.func (.func f) #[] #[pZ bo,pZ bw]]→OWs out ws Lo→ws.length+Cc v≤1000000→w.length+Bc v≤1000000→
 A8 P f [wv,.agg cs.toArray,pZ bo,pZ bw] d (bx bo To [out]::Lo) (Ret fun _ d' L'=>Le d d'∧∃out' Lo',L'=bx bo To [out']::Lo'∧OWs out' (ws++(EV v).map (w++ ·)) Lo')
def NK(a0:Nat):A6:=⟨42,[],(sR (o1 5 (.box 1) .done) (.seq (.reg true (pm 10 0 (.alt ⟨(some 9),none,(.ld none 2)⟩ (oc 11 a0 [10] (o1 12 (.bsl 1 1 [(.slice none 0 0)] [(0,11)]) (o1 13 (.app 1 24 [(.slice none 0 0)] 9 12) (.bar (o0 (.st 1 2 13) .done))))) (oc 11 a0 [10] (.alt ⟨(some 9),none,(.ld none 2)⟩ (o1 12 (.bsl 1 1 [(.slice none 0 0)] [(0,11)]) (o1 13 (.app 1 24 [(.slice none 0 0)] 9 12) (.bar (o0 (.st 1 2 13) .done)))) (o1 12 (.bsl 1 1 [(.slice none 0 0)] [(0,11)]) (ol 9 2 (o1 13 (.app 1 24 [(.slice none 0 0)] 9 12) (.bar (o0 (.st 1 2 13) .done)))))))))) (sR (oj 14 4 5<|ol 15 14<|oL 16 15<|o1 17 (.mv z0) .done) (.block 0 (.loop (sR (ob 18 .lss 17 16 .done) (.seq (.cond 18 .skip (.exit 0)) (.seq (.block 1 (sR (om 19 17<|oI 20 6 15 17<|o1 21 (.ld (some 6) 20)<|o1 7 (.alo (.agg #[(vZ 0),(vZ 0),(vZ 0),(Al []),(.slice none 0 0),(.slice none 0 0)]))<|om 6 19<|o0 (.st 6 7 21) .done) (sR (om 22 6<|o1 23 (.bld [(0,1),(1,1),(2,1),(3,1),(4,1),(5,1)] [(vZ 0),(Al []),(vZ 0),(vZ 0),(.bool false),(.bool false)] [(0,z1),(2,22)])<|o1 8 (.alo (.agg #[(vZ 0),(Al []),(vZ 0),(vZ 0),(.bool false),(.bool false)]))<|o0 (.st 6 8 23) .done) (.seq (sR (oj 24 0 5<|ol 25 24<|ob 26 .eql 25 (kZ 6) .done) (.cond 26 (rG (oj 27 5 5<|ol 28 27<|om 29 6<|oI 30 1 28 29<|ol 31 30<|o1 32 (.bld [(0,1),(1,1),(2,1),(3,1),(4,1),(5,1)] [(vZ 0),(Al []),(vZ 0),(vZ 0),(.bool false),(.bool false)] [(0,z0),(1,31)])<|o0 (.st 6 8 32) .done)) .skip)) (.reg true (pl 33 3<|pm 34 0<|p1 36 (.ld (some 6) 8)<|p1 39 (.ld (some 6) 7) (.alt ⟨(some 35),none,(.call a0 [34])⟩ (o1 37 (.bsl 1 6 [(vZ 0),(Al []),(vZ 0),(vZ 0),(.bool false),(.bool false)] [(0,36)]) (o1 38 (.app 6 48 [(vZ 0),(Al []),(vZ 0),(vZ 0),(.bool false),(.bool false)] 35 37) (o1 40 (.callv 33 [38,39]) .done))) (o1 37 (.bsl 1 6 [(vZ 0),(Al []),(vZ 0),(vZ 0),(.bool false),(.bool false)] [(0,36)]) (oc 35 a0 [34] (o1 38 (.app 6 48 [(vZ 0),(Al []),(vZ 0),(vZ 0),(.bool false),(.bool false)] 35 37) (o1 40 (.callv 33 [38,39]) .done))))))))))) (rG (ob 41 .add 17 z1<|om 17 41 .done))))))))))⟩
set_option maxHeartbeats 4000000 in
def Wn{P f f1}(hd:dec P f=some (NK f1))(h1:KC P f1):NO P f:=by
 intro v;induction v using V.ind with
 |h v ih=>
 intro d cs wv out w ws bo bw To Lo hv hmay hw hbw ho hbs hbd;refine Bd hd (No rfl) ?_;have hcl:=Ex (v:=v);have hdp:=EL v;obtain⟨wa,wc,rfl⟩:=RSl.val hw;obtain⟨lv,kv,rfl,ik,im,ie,it,hl,hks⟩:=hv.open;obtain⟨la,lc,rfl⟩:=RSl.val hl;obtain⟨ka,kc,rfl⟩:=RSl.val hks;show gwp P _ _ _ _ _;apply Ai;apply Ay;refine AO (l:=[vZ v.kind,vZ v.m,vZ v.e,Al v.text,.slice la v.list.length lc,.slice ka v.keys.length kc]) rfl (fun b5 T5=>?_);obtain⟨us,h0,hs,ho1,ho2,ho3,rfl⟩:=ho;obtain⟨oa,_,oc,rfl,_⟩:=ho1.slice;have hul:us.length=ws.length:=by have:=ho1.1;omega
 (apply Aa);refine Ct (fun ρ d1 L'=>Le d d1∧DCs d1 b5 0 [vZ v.kind,vZ v.m,vZ v.e,Al v.text,.slice la v.list.length lc,.slice ka v.keys.length kc]∧∃out' Lo',A9 ρ [(0,.slice wa w.length wc),(2,pZ bo),(3,pZ bw),(5,pZ b5)]∧
  OWs out' (ws++[w]) Lo'∧L'=bx bo To [out']::Lo') ?_ ?_
 ·refine Qt [] _ Vs.freeze ?_;have hg1:=Le.BZ d (bx b5 T5 [vZ v.kind,vZ v.m,vZ v.e,Al v.text,.slice la v.list.length lc,.slice ka v.keys.length kc]);have hl1:=Le.BD d (bx b5 T5 [vZ v.kind,vZ v.m,vZ v.e,Al v.text,.slice la v.list.length lc,.slice ka v.keys.length kc]);revert hg1 hl1;generalize join d (bx b5 T5 [vZ v.kind,vZ v.m,vZ v.e,Al v.text,.slice la v.list.length lc,.slice ka v.keys.length kc])=d1;intro hg1 hl1;have hw1:RSl 6 RSt d1 (.slice wa w.length wc) w:=RSl.mono (R:=RSt) Df hw hl1;(apply As;rfl);refine Dx ?_ ?_
  ·(apply Ah;rfl;exact Aj 0 rfl rfl);refine AR rfl (h1 hw1 (by omega)) (fun r d2 L2 _ ⟨hdd,g,hL,hg⟩=>?_);subst hdd;subst hL;refine E5 (v0:=r) rfl (Rk hg) (fun b12 T12=>?_);refine LB 2 rfl rfl ho1 rfl rfl (Wx hg) (by omega) (by omega) (by omega) (fun v5 h5 ho5=>?_);obtain⟨a5,_,c5,rfl,_⟩:=ho5.slice;(apply Bt);refine Az 1 [.slice a5 (ws.length+1) c5] rfl rfl rfl rfl (No rfl) rfl rfl ?_;exact FV ⟨_,_,Vs.perm (Abn g (bx bo To [.slice a5 (ws.length+1) c5]::h5::hs)).symm,hl1,HF hg1,_,_,⟨rfl,rfl,rfl,rfl,trivial⟩,OWs.snoc ho5 hul ho2 ho3 (JS hg),rfl⟩
  ·skip;refine AR rfl (h1 hw1 (by omega)) (fun r d2 L2 _ ⟨hdd,g,hL,hg⟩=>?_);subst hdd;subst hL;refine Dx ?_ ?_
   ·(apply Ah;rfl;exact Aj 1 rfl rfl);refine E5 (v0:=r) rfl (Rk hg) (fun b12 T12=>?_);refine LB 2 rfl rfl ho1 rfl rfl (Wx hg) (by omega) (by omega) (by omega) (fun v5 h5 ho5=>?_);obtain⟨a5,_,c5,rfl,_⟩:=ho5.slice;(apply Bt);refine Az 1 [.slice a5 (ws.length+1) c5] rfl rfl rfl rfl (No rfl) rfl rfl ?_;exact FV ⟨_,_,Vs.perm (Abn g (bx bo To [.slice a5 (ws.length+1) c5]::h5::hs)).symm,hl1,HF hg1,_,_,⟨rfl,rfl,rfl,rfl,trivial⟩,OWs.snoc ho5 hul ho2 ho3 (JS hg),rfl⟩
   ·refine E5 (v0:=r) rfl (Rk hg) (fun b12 T12=>?_);(apply Ah;rfl;exact Aj 2 rfl rfl);refine LB 2 rfl rfl ho1 rfl rfl (Wx hg) (by omega) (by omega) (by omega) (fun v5 h5 ho5=>?_);obtain⟨a5,_,c5,rfl,_⟩:=ho5.slice;(apply Bt);refine Az 1 [.slice a5 (ws.length+1) c5] rfl rfl rfl rfl (No rfl) rfl rfl ?_;exact FV ⟨_,_,Vs.perm (Abn g (bx bo To [.slice a5 (ws.length+1) c5]::h5::hs)).symm,hl1,HF hg1,_,_,⟨rfl,rfl,rfl,rfl,trivial⟩,OWs.snoc ho5 hul ho2 ho3 (JS hg),rfl⟩
 rintro ρ d1 L' ⟨hl1,hc1,out',Lo',hsl,ho',hL⟩;subst hL;refine Bo _ hsl ?_;clear hsl;have hl':RSl 6 Aw d1 (.slice la v.list.length lc) v.list:=BL.mono hl hl1;have hone:=Gq hmay;(refine Ac<|Af rfl<|Ah rfl (Ci (by assumption) rfl)<|AA rfl<|Ab rfl<|Aa<|Av ?_);refine Bg (α:=Nat) (fun i=>[(0,.slice wa w.length wc),(2,pZ bo),(3,pZ bw),(5,pZ b5),(15,.slice la v.list.length lc),(16,vZ v.list.length),(17,vZ i)])
  (fun i d' L'=>Le d1 d'∧i≤v.list.length∧∃out Lo J,OWs out (ws++[w]++(Es v.kind v.keys 0 (v.list.take i)).map (w++ ·)) Lo∧L'.Perm (bx bo To [out]::(Lo++J)))
  (fun i=>v.list.length - i) 0 ⟨rfl,rfl,rfl,rfl,rfl,rfl,rfl,trivial⟩ ⟨Le.refl _,ZN _,out',Lo',[],by simpa [Es] using ho',by simp⟩ ?_
 rintro i ρ d2 L' ⟨hl2,hi,out2,Lo2,J,ho2,hperm⟩;have hc2:=hc1.mono hl2;have hbw2:=hbw.mono (hl1.trans hl2);have hl2':RSl 6 Aw d2 (.slice la v.list.length lc) v.list:=BL.mono hl' hl2;have hks2:RSl 1 A2 d2 (.slice ka v.keys.length kc) v.keys:=BK.mono hks (hl1.trans hl2);have hw2:RSl 6 RSt d2 (.slice wa w.length wc) w:=RSl.mono (R:=RSt) Df hw (hl1.trans hl2);have hpt:=Un (v:=v) hi;have hcv:=CZ v;by_cases hc:i<v.list.length
 ·apply Ai;apply Ay;refine B9 d2 _ (Vs.perm hperm) ?_;(refine Ax rfl rfl<|Aa<|Ai<|Au rfl (by omega)<|Am<|Ai<|Av<|Ac<|Ab rfl<|AJ (sz:=6) (R:=Aw) (by rfl) (by assumption) (by rfl) rfl (by omega) ?_;rintro _ _ _ _ _ _;refine BE rfl (by assumption) (by assumption)<|AX (fun _ _=>Ab rfl ?_));rename_i q1 q2 cs7 hcs7 q5 hR b7 T7;obtain⟨c0,c1,c2,c3,c4,c5,rfl⟩:=six hR.len;refine Az 0 [c0,c1,c2,c3,c4,c5] rfl rfl rfl rfl (No rfl) (AH _ _ _ hR) rfl ?_;(refine Aa<|Ac<|Ab rfl<|Nd rfl<|AX (fun _ _=>?_));rename_i b8 T8;refine Az 0 [vZ 1,Al [],vZ i,vZ 0,.bool false,.bool false] rfl rfl rfl rfl (No rfl) rfl rfl ?_;(refine Aa<|Ai<|Ac<|Af rfl<|Ah rfl (Ci (by assumption) rfl)<|Aq rfl rfl<|Aa ?_);show gwp P _ _ _ _ _;refine N4 (fun ρ d3 L3=>d3=d2∧A9 ρ [(0,.slice wa w.length wc),(2,pZ bo),(3,pZ bw),(5,pZ b5),(7,pZ b7),(8,pZ b8),(15,.slice la v.list.length lc),(16,vZ v.list.length),(17,vZ i)]∧
   L3=bx b8 T8 (stL (stepOf v.kind v.keys i))::bx b7 T7 [c0,c1,c2,c3,c4,c5]::bx bo To [out2]::(Lo2++J)) ?_ ?_
  ·by_cases hk6:v.kind=6
   ·have hki:i<v.keys.length:=by rw[Wo hone hk6];exact hc
    have hse:stepOf v.kind v.keys i=⟨0,v.keys[i],0,0,false,false⟩:=by simp[stepOf,hk6,hki]
    (refine Au rfl (by omega)<|Ay<|Af rfl<|Ah rfl (Ci (by assumption) rfl)<|Ab rfl<|AJ (sz:=1) (R:=A2) (by rfl) (by assumption) (by rfl) rfl (by omega) ?_;rintro _ _ _ _ _ ⟨rfl,_⟩;refine Ah rfl (A1 (by assumption) rfl)<|PY rfl ?_);refine Az 0 [vZ 0,Al v.keys[i],vZ 0,vZ 0,.bool false,.bool false] rfl rfl rfl rfl (No rfl) rfl rfl ?_;apply Aa;exact⟨rfl,⟨rfl,rfl,rfl,rfl,rfl,rfl,rfl,rfl,rfl,trivial⟩,by rw[hse];rfl⟩
   ·have hse:stepOf v.kind v.keys i=⟨1,[],i,0,false,false⟩:=by simp[stepOf,hk6]
    (refine Ao rfl (by omega)<|Am ?_);exact⟨rfl,⟨rfl,rfl,rfl,rfl,rfl,rfl,rfl,rfl,rfl,trivial⟩,by rw[hse];rfl⟩
  rintro ρ d3 L3 ⟨hdd,hsl,hL⟩;subst hL;subst hdd;show gwp P _ _ _ _ _;refine Bo _ hsl ?_;clear hsl;have hst:∀d,RSt d (stL (stepOf v.kind v.keys i)) (stepOf v.kind v.keys i):=fun d=>SW hks2 (by omega);have hsz:(ws++[w]++(Es v.kind v.keys 0 (v.list.take i)).map (w++ ·)).length+Cc v.list[i]≤1000000:=by
   have h9:=US hc;have h8:=H0 v.kind v.keys (v.list.take i) 0 (fun x _=>Qc x);simp only[ZH,Aay,Aak];omega
  have hdz:(w++[stepOf v.kind v.keys i]).length+Bc v.list[i]≤1000000:=by
   have h9:=VS (ZC hc);simp only[ZH,Aak];omega
  generalize hs:stepOf v.kind v.keys i=s at hst hdz⊢;refine Dh [_,_] (bx bo To [out2]::(Lo2++J)) rfl ?_;(refine Ah rfl (A1 (by assumption) rfl)<|As rfl<|AD 0 rfl rfl rfl<|AD 1 rfl rfl rfl ?_);refine Dx ?_ ?_
  ·refine AR rfl (h1 hw2 (by omega)) (fun r d9 L9 _ ⟨hdd,g,hL,hg⟩=>?_);subst hdd;subst hL;refine HH rfl (fun b37 T37=>?_);refine DH (R:=RSt) 0 rfl rfl hg rfl (AN.D8 rfl (hst d9)) HL (by omega) (by simp;omega) (by simp;omega) (fun v38 h38 o38=>?_);refine BF (fun d4 hl4 hg4=>?_);have hw4:=o38.rsl (R:=RSt) Df (by omega) hl4 hg4;refine Mg (A:=bx bo To [out2]::Lo2) (B:=J) (Abf _) rfl rfl (ih _ (ZC hc) (hR.mono hl4) (CR hmay (ZC hc)) hw4 (hbw2.mono hl4) ho2 hsz hdz) (fun r d5 L5 hl5 ⟨_,out3,Lo3,hL,ho3⟩=>?_);subst hL;(apply AW);(refine Ay<|AI rfl rfl (by omega) (by omega)<|Ab rfl<|Aa ?_);rw[←hs,OO hc] at ho3;exact⟨i+1,by omega,⟨rfl,rfl,rfl,rfl,rfl,rfl,int_eq (by omega),trivial⟩,(hl2.trans hl4).trans hl5,hc,out3,Lo3,J++[_,_],ho3,by simpa [Zy] using Aaj (l₁:=[bx b8 T8 (stL s),bx b7 T7 [c0,c1,c2,c3,c4,c5]]) (l₂:=(bx bo To [out3]::Lo3)++J)⟩
  ·refine HH rfl (fun b37 T37=>?_);refine AR rfl (h1 hw2 (by omega)) (fun r d9 L9 _ ⟨hdd,g,hL,hg⟩=>?_);subst hdd;subst hL;refine B9 d9 (bx b37 T37 (stL s)::g::bx bo To [out2]::(Lo2++J)) (Vs.perm (Z0 _ _ _)) ?_;refine DH (R:=RSt) 0 rfl rfl hg rfl (AN.D8 rfl (hst d9)) HL (by omega) (by simp;omega) (by simp;omega) (fun v38 h38 o38=>?_);refine BF (fun d4 hl4 hg4=>?_);have hw4:=o38.rsl (R:=RSt) Df (by omega) hl4 hg4;refine Mg (A:=bx bo To [out2]::Lo2) (B:=J) (Abf _) rfl rfl (ih _ (ZC hc) (hR.mono hl4) (CR hmay (ZC hc)) hw4 (hbw2.mono hl4) ho2 hsz hdz) (fun r d5 L5 hl5 ⟨_,out3,Lo3,hL,ho3⟩=>?_);subst hL;(apply AW);(refine Ay<|AI rfl rfl (by omega) (by omega)<|Ab rfl<|Aa ?_);rw[←hs,OO hc] at ho3;exact⟨i+1,by omega,⟨rfl,rfl,rfl,rfl,rfl,rfl,int_eq (by omega),trivial⟩,(hl2.trans hl4).trans hl5,hc,out3,Lo3,J++[_,_],ho3,by simpa [Zy] using Aaj (l₁:=[bx b8 T8 (stL s),bx b7 T7 [c0,c1,c2,c3,c4,c5]]) (l₂:=(bx bo To [out3]::Lo3)++J)⟩
 ·obtain rfl:i=v.list.length:=by omega
  apply Ai;apply Ay;refine B9 d2 _ (Vs.perm hperm) ?_;(refine Ax rfl rfl<|Aa<|Ai<|Ao rfl (by omega)<|AV ?_);refine G0 [] trivial (d':=d2) (L':=bx bo To [out2]::Lo2) (Vs.drop (.cons_cons _ (Aco _ _))) ⟨hl1.trans hl2,out2,Lo2,rfl,?_⟩;rw[QI];rw[ZV] at ho2;simpa using ho2
def Qa(v:V):List (List St):=if AS v≠0 then [] else EV v
def Ru(T:Ag→Prop)(P:Program)(f:FuncId):Prop:=∀{d cs}{v:V},T d→Aw d cs v→Cc v≤900000→
 A8 P f [.agg cs.toArray] d [] (Ret fun r d' L'=>Le d d'∧∃out,r=.tuple #[out,vZ (AS v)]∧OWs out (Qa v) L')
def QR(a0 a1:Nat):A6:=⟨17,[(.tmp 2),(.tmp 3)],(sR (o1 1 (.box 0)<|o1 2 (.mv nS)<|o1 3 (.mv z0) .done) (.seq (sR (o1 7 (.ld (some 6) 1)<|oc 8 a0 [7]<|om 4 8 .done) (sR (om 9 4<|ob 10 .neq 9 z0 .done) (.cond 10 (sR (om 11 4<|o1 2 (.mv nS)<|om 3 11 .done) .ret) .skip))) (sR (o1 5 (.alo (.slice none 0 0)) .done) (sR (o1 6 (.alo .nilFunc) .done) (sR (o1 12 (.mkf (.func a1) [] [5,6])<|o0 (.st 1 6 12) .done) (sR (ol 13 6<|o1 14 (.ld (some 6) 1)<|o1 15 (.callv 13 [nS,14]) .done) (sR (ol 16 5<|om 2 16<|o1 3 (.mv z0) .done) .ret)))))))⟩
set_option maxHeartbeats 2000000 in
def Yo{T:Ag→Prop}{P f f1 f2}(hd:dec P f=some (QR f1 f2))(h1:Fq T P f1)(h2:NO P f2):Ru T P f:=by
 intro d cs v ht hv hb;refine Bd hd (No rfl) ?_;obtain⟨c0,c1,c2,c3,c4,c5,rfl⟩:=six hv.len;show gwp P _ _ _ _ _;apply Ai;apply Ay;refine B9 d [emp] Vs.emp ?_;refine AO (l:=[c0,c1,c2,c3,c4,c5]) rfl (fun b1 T1=>?_);(refine As rfl<|Ab rfl<|Aa<|Ai<|Ac<|AD 0 rfl rfl rfl ?_);refine AF rfl (h1 ht hv) ?_;by_cases hr:AS v≠0
 ·rw[Qa,if_pos hr];(refine Ab rfl<|Aa<|Ac<|Ab rfl<|AG rfl rfl<|Aa<|Au rfl (by omega)<|Ac<|Ab rfl<|As rfl<|Ab rfl<|Aa<|Ar ?_);exact BG (L':=[emp]) [.slice none 0 0,vZ (AS v)] ⟨A4 rfl,A4 rfl,trivial⟩ (.cons _ (ZS _)) ⟨Le.refl _,_,rfl,OWs.nil⟩
 rw[Qa,if_neg hr];have hr0:AS v=0:=Decidable.not_not.1 hr;rw[hr0];have hmay:BH v=true:=(CE.1 hr0).1;have hdep:Bc v≤48:=(CE.1 hr0).2;(refine Ab rfl<|Aa<|Ac<|Ab rfl<|AG rfl rfl<|Aa<|Ao rfl (by omega)<|Am<|Ac<|AX (fun _ _=>Aa<|Ac<|AX (fun _ _=>Aa<|Ac<|W8 ?_)));rename_i b5 T5 b6 T6;refine Az 0 [.func (.func f2) #[] #[pZ b5,pZ b6]] rfl rfl rfl rfl (No rfl) rfl rfl ?_;(refine Aa<|Ac<|Ah rfl (Aj 0 rfl rfl)<|AD 2 rfl rfl rfl ?_);refine BF (fun d2 hl2 hg2=>?_);refine Mg (A:=[bx b5 T5 [.slice none 0 0],emp]) (B:=[bx b1 T1 [c0,c1,c2,c3,c4,c5]]) (Z1 _ (Z0 _ _ _)) rfl rfl (h2 v (w:=[]) (ws:=[]) (hv.mono hl2) hmay RSl.nil (HF hg2) OWs.nil (by simp;omega) (by simp;omega)) (fun r d3 L3 hl3 ⟨_,out,Lo,hL,ho⟩=>?_);subst hL;(refine Aa<|Ac<|Ah rfl (Aj 0 rfl rfl)<|Ew<|Ab rfl<|Aa<|Ar ?_);refine G0 [out,vZ 0] ⟨A4 rfl,A4 rfl,trivial⟩ (d':=d3) (L':=Lo) (Vs.drop (.cons _ (Aco _ _))) ⟨hl2.trans hl3,_,rfl,?_⟩;simpa using ho
end Go.Gk.Val
end
section
namespace Go.Gk.Val
open Go Go.Gk Go.Gk.Utf
def I9:V:=.mk 3 1 0 [] [] []
def Ej:List St:=[⟨0,[97],0,0,false,false⟩,⟨1,[], -1,0,false,false⟩,⟨2,[],0,2,false,true⟩]
def Gj:V:=.mk 6 0 0 [] [.mk 5 0 0 [] [I9] []] [[97]]
def Nc:V:=.mk 5 0 0 [] [I9,V.zero,I9] []
def ixS(n:Int):St:=⟨1,[],n,0,false,false⟩
def UM:List (List St):=[[ixS 0],[ixS 2],[ixS 0]]
def Vz:Cr Ej=(BU Ej,0):=by rfl
def M9:AS Gj=0∧EV Gj=[[],[⟨0,[97],0,0,false,false⟩],[⟨0,[97],0,0,false,false⟩,ixS 0]]:=by exact⟨by rfl,by rfl⟩
def Wr:DT Nc UM=(.mk 5 0 0 [] [V.zero] [],0):=by rfl
end Go.Gk.Val
end
section
namespace Go.Gk.Val
open Go Go.Gk Go.Gk.Utf
attribute [local irreducible] gwp gws
variable{a:St}
section
section
variable {P:Program}{pan:List PanicEntry→A0}{Qn:Env→A0}{Ls L:List Ag}{ρ:Env}{d:Ag}{s:GS}{t:Nat}{tk:Bool}
def XO{x y z}{b c:St}(ex:ev ρ x=.agg (stL a).toArray)(ey:ev ρ y=.agg (stL b).toArray)(ez:ev ρ z=.agg (stL c).toArray)(h:∀q T,gws P pan Qn s Ls (upd ρ t (.slice (some ⟨q,0,none⟩) 3 3)) d (bx q T (stL a++stL b++stL c)::L)):
  gws P pan Qn (.op false ⟨some t,none,.bsl 3 6 [vZ 0,Al [],vZ 0,vZ 0,.bool false,.bool false] [(0,x),(1,y),(2,z)]⟩ s) Ls ρ d L:=by
 refine DI (by omega) ?_ h
 simp[Instr.fill,BC,Z8,List.range.loop,ex,ey,ez,Value.cells]
end
def IP{d}{s:St}(h1:I64 s.kind)(h2:s.text.length≤140737488355328)(h3:I64 s.src)(h4:I64 s.dst):RSt d (stL s) s:=⟨rfl,h1,h2,h3,h4⟩
def Zh{d}{q:Nat}{T}{b c:St}(ha:RSt d (stL a) a)(hb:RSt d (stL b) b)(hc:RSt d (stL c) c)(h:Le (bx q T (stL a++stL b++stL c)) d):RSl 6 RSt d (.slice (some ⟨q,0,none⟩) 3 3) [a,b,c]:=by
 have o:=BO.lit (sz:=6) (b:=q) (T:=T) (n:=3) (l:=stL a++stL b++stL c) rfl (by omega);refine o.rsl (R:=RSt) h rfl (by omega) (fun i hi=>?_);have hi2:i<3:=hi;obtain rfl|rfl|rfl:i=0∨i=1∨i=2:=by omega
 ·exact ha
 ·exact hb
 ·exact hc
def SP{d}{q:Nat}{T}(ha:RSt d (stL a) a)(h:Le (bx q T (stL a)) d):RSl 6 RSt d (.slice (some ⟨q,0,none⟩) 1 1) [a]:=by
 have o:=BO.lit (sz:=6) (b:=q) (T:=T) (n:=1) (l:=stL a) rfl (by omega);refine o.rsl (R:=RSt) h rfl (by omega) (fun i hi=>?_);have hi2:i<1:=hi;obtain rfl:i=0:=by omega
 exact ha
def YA{d}{q:Nat}{T u v w}{a b c:List St}(ha:RSl 6 RSt d u a)(hb:RSl 6 RSt d v b)(hc:RSl 6 RSt d w c)(h:Le (bx q T [u,v,w]) d):RSl 1 Cb d (.slice (some ⟨q,0,none⟩) 3 3) [a,b,c]:=by
 have o:=BO.lit (sz:=1) (b:=q) (T:=T) (n:=3) (l:=[u,v,w]) rfl (by omega);refine o.rsl (R:=Cb) h rfl (by omega) (fun i hi=>?_);have hi2:i<3:=hi;obtain rfl|rfl|rfl:i=0∨i=1∨i=2:=by omega
 ·exact⟨_,rfl,ha⟩
 ·exact⟨_,rfl,hb⟩
 ·exact⟨_,rfl,hc⟩
def NV{d}{q:Nat}{T a}{x:V}(hx:Aw d a x)(h:Le (bx q T a) d):BL d (.slice (some ⟨q,0,none⟩) 1 1) [x]:=by
 have o:=BO.lit (sz:=6) (b:=q) (T:=T) (n:=1) (l:=a) (by rw[hx.len]) (by omega);refine o.rsl (R:=Aw) h rfl (by omega) (fun i hi=>?_);have hi2:i<1:=hi;obtain rfl:i=0:=by omega
 have e:chunk a 0 6=a:=by simp only[chunk,Nat.zero_mul,Acv];rw[←hx.len,ZV]
 show Aw d (chunk a 0 6) x;rw[e];exact hx
def Ma{d}:Aw d [vZ 3,vZ 1,vZ 0,Al [],.slice none 0 0,.slice none 0 0] I9:=Aw.close (v:=I9) W4 JM Ba (by simp[I9,V.text]) RSl.nil RSl.nil
def OWs.ways{out}{ws:List (List St)}{Lo}(o:OWs out ws Lo){d}(h:∀k∈Lo,Le k d):RSl 1 Cb d out ws:=by
 obtain⟨us,h0,hs,h1,h2,h3,rfl⟩:=o;refine h1.rsl (R:=Cb) (h _ (ZG ..)) rfl (by omega) (fun i hi=>?_);obtain⟨u,g,e1,e2,e3⟩:=h3 i hi;have hul:us.length=ws.length:=by have:=h1.1;omega
 have hc:chunk us i 1=[u]:=by
  simp only[chunk,Nat.mul_one];rw[ZT (by omega)];have:us[i]'(by omega)=u:=by have:=List.getElem?_eq_some_iff.1 e1;exact this.2
  simp[this]
 show Cb d (chunk us i 1) ws[i];rw[hc];exact⟨u,rfl,(JS (d':=d) e3).rsl Df (by omega) (Le.refl d) (h g (ZE _ (List.mem_of_getElem? e2)))⟩
def PG(T:Ag→Prop)(P:Program)(f:FuncId):Prop:=∀{d},T d→AM P f [] d (.bool true)
def Jj(a0 a1 a2:Nat):A6:=⟨94,[(.tmp 0)],(sR (o1 0 (.mv (.const (.bool false))) .done) (sR (o1 8 (.bld [(0,1),(1,1)] [(vZ 0),(vZ 0)] [(0,z1)])<|o1 9 (.bld [(0,1),(1,2),(3,1),(4,1),(5,1)] [(vZ 0),(vZ 0),(vZ 0),(Al []),(.slice none 0 0),(.slice none 0 0)] [(0,(kZ 3)),(1,8)])<|o1 1 (.alo (.agg #[(vZ 0),(vZ 0),(vZ 0),(Al []),(.slice none 0 0),(.slice none 0 0)]))<|o0 (.st 6 1 9) .done) (sR (o1 11 (.bld [(0,1),(1,1),(2,1),(3,1),(4,1),(5,1)] [(vZ 0),(Al []),(vZ 0),(vZ 0),(.bool false),(.bool false)] [(0,z0),(1,(.const (Al [97])))])<|o1 12 (.bld [(0,1),(1,1),(2,1),(3,1),(4,1),(5,1)] [(vZ 0),(Al []),(vZ 0),(vZ 0),(.bool false),(.bool false)] [(0,z1),(2,(kZ (-1)))])<|o1 13 (.bld [(0,1),(1,1),(2,1),(3,1),(4,1),(5,1)] [(vZ 0),(Al []),(vZ 0),(vZ 0),(.bool false),(.bool false)] [(0,z2),(3,z2),(5,(.const (.bool true)))])<|o1 14 (.bsl 3 6 [(vZ 0),(Al []),(vZ 0),(vZ 0),(.bool false),(.bool false)] [(0,11),(1,12),(2,13)])<|oc 15 a0 [14]<|om 10 15<|oe 16 10 0<|oe 17 10 1<|o1 2 (.alo (.agg #[(vZ 0),(vZ 0),(vZ 0),(Al []),(.slice none 0 0),(.slice none 0 0)]))<|o0 (.st 6 2 16)<|om 3 17 .done) (sR (o1 19 (.bsl 1 1 [(Al [])] [(0,(.const (Al [97])))])<|o1 20 (.ld (some 6) 1)<|o1 21 (.bsl 1 6 [(vZ 0),(vZ 0),(vZ 0),(Al []),(.slice none 0 0),(.slice none 0 0)] [(0,20)])<|o1 22 (.bld [(0,1),(1,2),(3,1),(4,1),(5,1)] [(vZ 0),(vZ 0),(vZ 0),(Al []),(.slice none 0 0),(.slice none 0 0)] [(0,(kZ 5)),(3,21)])<|o1 23 (.bsl 1 6 [(vZ 0),(vZ 0),(vZ 0),(Al []),(.slice none 0 0),(.slice none 0 0)] [(0,22)])<|o1 24 (.bld [(0,1),(1,2),(3,1),(4,1),(5,1)] [(vZ 0),(vZ 0),(vZ 0),(Al []),(.slice none 0 0),(.slice none 0 0)] [(0,(kZ 6)),(4,19),(3,23)])<|oc 25 a1 [24]<|om 18 25<|oe 26 18 0<|oe 27 18 1<|om 4 26<|om 5 27 .done) (sR (o1 29 (.ld (some 6) 1)<|o1 30 (.bld [(0,1),(1,2),(3,1),(4,1),(5,1)] [(vZ 0),(vZ 0),(vZ 0),(Al []),(.slice none 0 0),(.slice none 0 0)] [])<|o1 31 (.ld (some 6) 1)<|o1 32 (.bsl 3 6 [(vZ 0),(vZ 0),(vZ 0),(Al []),(.slice none 0 0),(.slice none 0 0)] [(0,29),(1,30),(2,31)])<|o1 33 (.bld [(0,1),(1,2),(3,1),(4,1),(5,1)] [(vZ 0),(vZ 0),(vZ 0),(Al []),(.slice none 0 0),(.slice none 0 0)] [(0,(kZ 5)),(3,32)])<|o1 34 (.bld [(0,1),(1,1),(2,1),(3,1),(4,1),(5,1)] [(vZ 0),(Al []),(vZ 0),(vZ 0),(.bool false),(.bool false)] [(0,z1)])<|o1 35 (.bsl 1 6 [(vZ 0),(Al []),(vZ 0),(vZ 0),(.bool false),(.bool false)] [(0,34)])<|o1 36 (.bld [(0,1),(1,1),(2,1),(3,1),(4,1),(5,1)] [(vZ 0),(Al []),(vZ 0),(vZ 0),(.bool false),(.bool false)] [(0,z1),(2,z2)])<|o1 37 (.bsl 1 6 [(vZ 0),(Al []),(vZ 0),(vZ 0),(.bool false),(.bool false)] [(0,36)])<|o1 38 (.bld [(0,1),(1,1),(2,1),(3,1),(4,1),(5,1)] [(vZ 0),(Al []),(vZ 0),(vZ 0),(.bool false),(.bool false)] [(0,z1)])<|o1 39 (.bsl 1 6 [(vZ 0),(Al []),(vZ 0),(vZ 0),(.bool false),(.bool false)] [(0,38)])<|o1 40 (.bsl 3 1 [(.slice none 0 0)] [(0,35),(1,37),(2,39)])<|oc 41 a2 [33,40]<|om 28 41<|oe 42 28 0<|oe 43 28 1<|o1 6 (.alo (.agg #[(vZ 0),(vZ 0),(vZ 0),(Al []),(.slice none 0 0),(.slice none 0 0)]))<|o0 (.st 6 6 42)<|om 7 43 .done) (sR (om 44 3<|ob 45 .eql 44 z0<|om 46 45<|oT 47 46 (.fld 4 2)<|oT 48 46 (.ld none 47)<|oT 49 46 (.len 48)<|oT 50 46 (.bin .eql 49 (kZ 3))<|gP 51 46 50<|om 52 51<|oT 53 52 (.fld 4 2)<|oT 54 52 (.ld none 53)<|oT 55 52 (.idx 6 54 z2)<|oT 56 52 (.fld 0 55)<|oT 57 52 (.ld none 56)<|oT 58 52 (.bin .eql 57 (kZ 6))<|gP 59 52 58<|om 60 59<|gT 61 60 5<|oT 62 60 (.bin .eql 61 z0)<|gP 63 60 62<|om 64 63<|gT 65 64 4<|oT 66 64 (.len 65)<|oT 67 64 (.bin .eql 66 (kZ 3))<|gP 68 64 67<|om 69 68<|gT 70 69 4<|oT 71 69 (.idx 1 70 z2)<|oT 72 69 (.ld none 71)<|oT 73 69 (.len 72)<|oT 74 69 (.bin .eql 73 z2)<|gP 75 69 74<|om 76 75<|gT 77 76 7<|oT 78 76 (.bin .eql 77 z0)<|gP 79 76 78<|om 80 79<|oT 81 80 (.fld 4 6)<|oT 82 80 (.ld none 81)<|oT 83 80 (.len 82)<|oT 84 80 (.bin .eql 83 z1)<|gP 85 80 84<|om 86 85<|oT 87 86 (.fld 4 6)<|oT 88 86 (.ld none 87)<|oT 89 86 (.idx 6 88 z0)<|oT 90 86 (.fld 0 89)<|oT 91 86 (.ld none 90)<|oT 92 86 (.bin .eql 91 z0)<|gP 93 86 92<|om 0 93 .done) .ret))))))⟩
set_option maxHeartbeats 4000000 in
def Ts{T:Ag→Prop}(hTm:∀{d d'},Le d d'→T d→T d'){P f f1 f2 f3}(hd:dec P f=some (Jj f1 f2 f3))(h1:HB T P f1)(h2:Ru T P f2)(h3:Ln T P f3):PG T P f:=by
 intro d ht;refine AM.of' hd (No rfl) ?_;show gwp P _ _ _ _ _;(refine Ac<|Ad rfl<|Aa<|Ac<|Ut rfl<|PK rfl rfl<|AX (fun _ _=>?_));rename_i b1 T1;refine Az 0 [vZ 3,vZ 1,vZ 0,Al [],.slice none 0 0,.slice none 0 0] rfl rfl rfl rfl (No rfl) rfl rfl ?_;(refine Aa<|Ac<|PY rfl<|Nd rfl<|BN rfl ?_);refine XO (a:=⟨0,[97],0,0,false,false⟩) (b:=⟨1,[], -1,0,false,false⟩) (c:=⟨2,[],0,2,false,true⟩) rfl rfl rfl (fun b14 T14=>?_);refine BF (fun d1 hl1 hg1=>?_);have hw1:=Zh (d:=d1) (IP Ba (by decide) Ba Ba) (IP JM (by decide) ⟨by decide,by decide⟩ Ba) (IP PD (by decide) Ba PD) hg1;have hv1:=h1 (hTm hl1 ht) hw1 (by decide);rw[show [(⟨0,[97],0,0,false,false⟩:St),⟨1,[], -1,0,false,false⟩,⟨2,[],0,2,false,true⟩]=Ej from rfl,Vz] at hv1;refine AR rfl hv1 (fun r d2 L2 hl2 ⟨hL,cs',hr,hR⟩=>?_);subst hL;subst hr;obtain⟨lv2,kv2,hcs, -, -, -, -,hll2, -⟩:=hR.open;obtain⟨la2,lc2,rfl⟩:=RSl.val hll2;subst hcs;have hRc:=AH _ _ _ hR;(refine Bj rfl<|AL rfl rfl<|AL rfl rfl<|AX (fun _ _=>?_));rename_i b2 T2;refine Az 0 [vZ (BU Ej).kind,vZ (BU Ej).m,vZ (BU Ej).e,Al (BU Ej).text,.slice la2 (BU Ej).list.length lc2,kv2] rfl rfl rfl rfl (No rfl) hRc rfl ?_;(refine Ab rfl<|Aa<|Ac ?_);refine E5 (v0:=Al [97]) rfl rfl (fun b19 T19=>?_);(apply AD 2;rfl;rfl;rfl);refine D4 rfl rfl (fun b21 T21=>?_);(apply DR;rfl;rfl);refine D4 rfl rfl (fun b23 T23=>?_);refine BF (fun d3 hl3 hg3=>?_);refine BF (fun d4 hl4 hg4=>?_);refine BF (fun d5 hl5 hg5=>?_);have hk5:BK d5 (.slice (some ⟨b19,0,none⟩) 1 1) [[97]]:=Ip (ks:=[[97]]) (by decide) (by decide) hg5;have hi5:BL d5 (.slice (some ⟨b21,0,none⟩) 1 1) [I9]:=NV Ma (hg4.trans hl5);have hm5:Aw d5 [vZ 5,vZ 0,vZ 0,Al [],.slice (some ⟨b21,0,none⟩) 1 1,.slice none 0 0] (.mk 5 0 0 [] [I9] []):=Aw.close (v:=.mk 5 0 0 [] [I9] []) EB Ba Ba (by simp[V.text]) hi5 RSl.nil;have ho5:Aw d5 [vZ 6,vZ 0,vZ 0,Al [],.slice (some ⟨b23,0,none⟩) 1 1,.slice (some ⟨b19,0,none⟩) 1 1] Gj:=Aw.close (v:=Gj) G9 Ba Ba (by simp[Gj,V.text]) (NV hm5 ((hg3.trans hl4).trans hl5)) hk5;have hl25:=((hl1.trans hl2).trans hl3).trans (hl4.trans hl5);have ha5:=h2 (hTm hl25 ht) ho5 (by decide);rw[show Qa Gj=EV Gj by unfold Qa;rw[M9.1];rfl,M9.1] at ha5;(apply Gh;rfl;rfl;rfl);refine AR rfl ha5 (fun r d6 L6 hl6 ⟨_,out,hr,hO⟩=>?_);subst hr;obtain⟨d7,hv7,hl7,hh7⟩:=Vs.RZ ((bx b2 T2 ([vZ 0,vZ 0,vZ 0,Al [],.slice none 0 0,.slice none 0 0])::([]++[bx b1 T1 [vZ 0,vZ 0,vZ 0,Al [],.slice none 0 0,.slice none 0 0]].set 0 (bx b1 T1 [vZ 3,vZ 1,vZ 0,Al [],.slice none 0 0,.slice none 0 0]))).set 0 (bx b2 T2 [vZ (BU Ej).kind,vZ (BU Ej).m,vZ (BU Ej).e,Al (BU Ej).text,.slice la2 (BU Ej).list.length lc2,kv2])) L6 d6;have hO7:=hO.ways hh7;obtain⟨oa,oc,rfl⟩:=RSl.val hO7;refine B9 d7 _ hv7 ?_;(refine Bj rfl<|AL rfl rfl<|AL rfl rfl<|As rfl<|Ab rfl<|Aa<|Ac<|AD 1 rfl rfl rfl<|Bl<|AD 1 rfl rfl rfl ?_);refine YP (a:=[vZ 3,vZ 1,vZ 0,Al [],.slice none 0 0,.slice none 0 0]) (b:=A7) (c:=[vZ 3,vZ 1,vZ 0,Al [],.slice none 0 0,.slice none 0 0]) rfl rfl rfl rfl rfl rfl (fun b32 T32=>?_);refine BF (fun d8 hl8 hg8=>?_);(refine DR rfl rfl<|BN rfl ?_);refine HH (a0:=vZ 1) (a1:=Al []) (a2:=vZ 0) (a3:=vZ 0) (a4:=.bool false) (a5:=.bool false) rfl (fun b35 T35=>?_);refine BF (fun d9 hl9 hg9=>?_);(apply Nd;rfl);refine HH (a0:=vZ 1) (a1:=Al []) (a2:=vZ 2) (a3:=vZ 0) (a4:=.bool false) (a5:=.bool false) rfl (fun b37 T37=>?_);refine BF (fun d10 hl10 hg10=>?_);(apply BN;rfl);refine HH (a0:=vZ 1) (a1:=Al []) (a2:=vZ 0) (a3:=vZ 0) (a4:=.bool false) (a5:=.bool false) rfl (fun b39 T39=>?_);refine BF (fun d11 hl11 hg11=>?_);refine S9 (v0:=.slice (some ⟨b35,0,none⟩) 1 1) (v1:=.slice (some ⟨b37,0,none⟩) 1 1) (v2:=.slice (some ⟨b39,0,none⟩) 1 1) rfl rfl rfl rfl rfl rfl (fun b40 T40=>?_);refine BF (fun d12 hl12 hg12=>?_);have hl912:=(hl10.trans hl11).trans hl12;have hws:RSl 1 Cb d12 (.slice (some ⟨b40,0,none⟩) 3 3) UM:=YA (SP (a:=ixS 0) (IP JM (by decide) Ba Ba) (hg9.trans hl912)) (SP (a:=ixS 2) (IP JM (by decide) PD Ba) (hg10.trans (hl11.trans hl12))) (SP (a:=ixS 0) (IP JM (by decide) Ba Ba) (hg11.trans hl12)) hg12;have hxv:Aw d12 [vZ 5,vZ 0,vZ 0,Al [],.slice (some ⟨b32,0,none⟩) 3 3,.slice none 0 0] Nc:=Aw.close (v:=Nc) EB Ba Ba (by simp[Nc,V.text]) (Y6 Ma Aw.zero Ma (Le.refl _) (hg8.trans (hl9.trans hl912))) RSl.nil;have hlD:=(((hl25.trans hl6).trans hl7).trans hl8).trans (hl9.trans hl912);have hdr:=h3 (hTm hlD ht) hxv hws (by decide) (by decide) (by decide);rw[Wr] at hdr;refine AR rfl hdr (fun r d13 L13 hl13 ⟨_,cs6,g,hr,hL,ho⟩=>?_);subst hr;subst hL;refine BF (fun d14 hl14 hg14=>?_);have hR6:=ho.Mj hg14;have hR6c:=AH _ _ _ hR6;obtain⟨lv6,kv6,hcs6, -, -, -, -,hll6, -⟩:=hR6.open;obtain⟨la6,lc6,rfl⟩:=RSl.val hll6;subst hcs6;(refine Bj rfl<|AL rfl rfl<|AL rfl rfl<|AX (fun _ _=>?_));rename_i b6 T6;refine Az 0 [vZ (V.mk 5 0 0 [] [V.zero] []).kind,vZ (V.mk 5 0 0 [] [V.zero] []).m,vZ (V.mk 5 0 0 [] [V.zero] []).e,Al (V.mk 5 0 0 [] [V.zero] []).text,.slice la6 (V.mk 5 0 0 [] [V.zero] []).list.length lc6,kv6] rfl rfl rfl rfl (No rfl) hR6c rfl ?_;have hl14:=(((hl8.trans hl9).trans hl912).trans hl13).trans hl14;have hO14:RSl 1 Cb d14 (.slice oa (EV Gj).length oc) (EV Gj):=RSl.mono (R:=Cb) DW hO7 hl14;have hal:(EV Gj).length=3:=by rw[M9.2];rfl
 have ha2:((EV Gj)[2]'(by omega)).length=2:=by simp[M9.2]
 have hwl:(BU Ej).list.length=3:=rfl;have hdl:(V.mk 5 0 0 [] [V.zero] []).list.length=1:=rfl;have hW14:RSl 6 Aw d14 (.slice la2 (BU Ej).list.length lc2) (BU Ej).list:=BL.mono hll2 ((((hl3.trans hl4).trans hl5).trans (hl6.trans hl7)).trans hl14);have hD14:RSl 6 Aw d14 (.slice la6 (V.mk 5 0 0 [] [V.zero] []).list.length lc6) (V.mk 5 0 0 [] [V.zero] []).list:=hll6;have hk2:((BU Ej).list[2]'(by omega)).kind=6:=rfl;have hk0:((V.mk 5 0 0 [] [V.zero] []).list[0]'(by omega)).kind=0:=rfl;clear hR6 hll6 hO7 hll2 hR hO hdr hxv hws ha5 ho5 hm5 hi5 hk5 hv1 hw1;(refine Ab rfl<|Aa<|Ac<|Ab rfl<|Aq rfl rfl<|Ad rfl<|AE rfl (by omega)<|Ae rfl<|Af rfl<|Ae rfl<|Ah rfl (Aj 1 rfl rfl)<|Ae rfl<|AA rfl<|Ae rfl<|Aq rfl rfl<|Ap rfl rfl<|Ad rfl<|AE rfl (by omega)<|Ae rfl<|Af rfl<|Ae rfl<|Ah rfl (Aj 1 rfl rfl)<|Ae rfl<|AJ (m:=2) (sz:=6) (R:=Aw) (by rfl) (by assumption) (by rfl) rfl (by omega) ?_;rintro _ _ _ _ _ _;refine Ae rfl<|Af rfl<|Ae rfl ?_);rename_i q1 q2 q3 q4 q5 q6;obtain⟨lvA,kvA,hcA, -⟩:=q6.open;subst hcA;(refine Ah rfl (Ci (by assumption) rfl)<|Ae rfl<|Aq rfl rfl<|Ap rfl rfl<|Ad rfl<|AE rfl (by omega)<|Ae rfl<|Ab rfl<|Ae rfl<|Aq rfl rfl<|Ap rfl rfl<|Ad rfl<|AE rfl (by omega)<|Ae rfl<|As rfl<|Ae rfl<|AA rfl<|Ae rfl<|Aq rfl rfl<|Ap rfl rfl<|Ad rfl<|AE rfl (by omega)<|Ae rfl<|As rfl<|Ae rfl ?_);refine AJ (sz:=1) (R:=Cb) rfl hO14 rfl (m:=2) rfl (by omega) (fun bq oq csq hcq hDq ⟨u,hu,hwi⟩=>?_);subst hu;obtain⟨ua,uc,rfl⟩:=RSl.val hwi;(refine Ae rfl<|Ah rfl (A1 (by assumption) rfl)<|Ae rfl<|AA rfl<|Ae rfl<|Aq rfl rfl<|Ap rfl rfl<|Ad rfl<|AE rfl (by omega)<|Ae rfl<|Ab rfl<|Ae rfl<|Aq rfl rfl<|Ap rfl rfl<|Ad rfl<|AE rfl (by omega)<|Ae rfl<|Af rfl<|Ae rfl<|Ah rfl (Aj 0 rfl rfl)<|Ae rfl<|AA rfl<|Ae rfl<|Aq rfl rfl<|Ap rfl rfl<|Ad rfl<|AE rfl (by omega)<|Ae rfl<|Af rfl<|Ae rfl<|Ah rfl (Aj 0 rfl rfl)<|Ae rfl<|AJ (m:=0) (sz:=6) (R:=Aw) (by rfl) (by assumption) (by rfl) rfl (by omega) ?_;rintro _ _ _ _ _ _;refine Ae rfl<|Af rfl<|Ae rfl ?_);rename_i z1 z2 z3 z4 z5 z6;obtain⟨lvB,kvB,hcB, -⟩:=z6.open;subst hcB;(refine Ah rfl (Ci (by assumption) rfl)<|Ae rfl<|Aq rfl rfl<|Ap rfl rfl<|Ad rfl<|Aa<|Ar ?_);exact BI (congrArg Value.bool (by simp[hwl,hdl,hal,ha2,hk2,hk0];rfl))
end
end Go.Gk.Val
end
section
namespace Go.Gk.Val
open Go Go.Gk
end Go.Gk.Val
end
