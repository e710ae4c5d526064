/-
  Our own texts, one behind the other: GkS3 GkS4 GkS5 GkS6 GkS7 GkS8 GkS9 GkT1 Gk18 GkT2 GkVArg GkM2 GkM3 GkJ8 GkN1 GkN2 Gk23 Gk48 Gk32 Gk33 Gk34 Gk35 Gk36 Gk37 Gk38 Gk39 Gk30 Gk31 Gk24 GkE0 Gk42 Gk43 Gk49 GkJ2 GkJ3 GkJD.
-/
import Derived.Shelf.Unicode.DecodeAny
import Derived.Lib.ItoaMem
import Derived.Shelf.Strconv.Itoa0
import Derived.Shelf.Strconv.Itoa1
import Derived.Shelf.Strconv.Itoa2
import Derived.Lib.ItoaLen
import Derived.OrdersIn
import Derived.RangeFuncCalls
import Derived.RangeFuncLeaves
import Derived.RangeFuncRecord
import Derived.Sort.LoopGhostIn
import Derived.Conc.LoneSelect
import Derived.Test.YtakjmidegfgjoaaGreatDoorPtC
set_option linter.defProp false
set_option linter.unusedVariables false
set_option linter.unusedSimpArgs false
open Nat renaming le_of_ble_eq_true→Aca,le_refl→Ack,zero_le→Acu,le_trans→Adp,mul_le_mul_right→Adv,zero_add→Adw,add_mul→Aeo,sub_self→Aeu,mul_one→Aex,mod_eq_of_lt→Ago,one_mul→Agz
open List renaming nil_sublist→Acb,length_append→Acd,getElem?_eq_getElem→Acf,length_cons→Acg,append_assoc→Ach,getElem?_eq_some_iff→Acj,length_drop→Acl,eq_nil_of_length_eq_zero→Acm,all_eq_true→Acn,length_take→Aco,getElem_mem→Acq,length_nil→Acs,take_succ_eq_append_getElem→Acx,getElem?_eq_none→Acz,getElem?_take_of_lt→Ada,length_singleton→Adf,replicate→Adi,length_pos_iff→Adk,append_nil→Ado,length_map→Adq,map_cons→Adx,take_length→Aed,getElem?_drop→Aeg,mem_of_getElem?→Aei,getElem?_map→Aej,take_append_drop→Aem,mem_append_left→Aep,nil_append→Aer,ext_getElem?→Aes,getElem?_append_left→Aet,mem_map_of_mem→Aey,cons_append→Aff,map_nil→Afl,length_set→Afm,all_append→Age,getD_cons_zero→Agl,getElem?_append_right→Ahb,drop_length→Ahf,getD_cons_succ→Ahh
open Bool renaming and_eq_true→Ace,not_eq_true→Aev
open List.Sublist renaming refl→Acy
open Int renaming toNat_natCast→Adc,le_refl→Afv
open List.Perm renaming swap→Adz
open Option renaming map_some→Aeh
section
namespace Go.Gk.Val
open Go Go.Gk Go.Gk.Utf
attribute [local irreducible] gwp gws
variable{P:Program}{f f1 f2 f3:FuncId}{v:V}
def Ph(P:Program)(f:FuncId):Prop:=∀{d l},u8 l=true→l.length≤1000000000→Be P f [Ag l] d [] (Ret fun r d' L'=>L'=[]∧B9 d' r (chs l))
def Kn(a0:Nat):Bo:=⟨24,[(.tmp 2)],(sR (o1 2 (.mv nS) .done) (sR (o1 3 (.mv nS) .done) (.seq (.block 0 (.loop (.seq (sR (om 6 0<|o1 7 (.lens 6)<|ob 8 .gtr 7 z0 .done) (.cond 8 .skip (.exit 0))) (.block 1 (sR (om 10 0<|oc 11 a0 [10]<|om 9 11<|oe 12 9 0<|oe 13 9 1<|om 4 12<|om 5 13 .done) (sR (om 14 3<|om 15 0<|om 16 5<|o1 17 (.sls 15 none (some 16))<|o1 18 (.bsl 1 1 [(Ag [])] [(0,17)])<|o1 19 (.app 1 16 [(Ag [])] 14 18)<|om 3 19 .done) (rG (om 20 0<|om 21 5<|o1 22 (.sls 20 (some 21) none)<|om 0 22 .done)))))))) (sR (om 23 3<|om 2 23 .done) .ret))))⟩
def XX(hd:dec P f=some (Kn f1))(h1:IC P f1):Ph P f:=by
 intro d l hu hl;have hlen:=MM l;refine EK hd ?_;apply Ax;apply Ar;refine DT d [emp] Vs.emp<|AR Z<|Br<|AR Z<|Cr<|Am<|Pn (α:=List UInt8) (fun x w=>[(0,Ag x),(3,w)])
  (fun x w h d' L'=>d'=d∧∃dn:List (List UInt8),x.length+dn.length≤l.length∧u8 x=true∧dn++chs x=chs l∧AQ 1 A9 d w dn h∧L'=[h]) (fun x=>x.length) l nV emp
  ⟨Z,Z,trivial⟩ ⟨Z,[],by simp,hu,Z,AQ.nil,Z⟩ ?_
 rintro l' w h ρ d' L' ⟨hdd,dn,hle,hu',hch,hrow,hL⟩;subst hdd;subst hL;obtain⟨a,c,rfl⟩:=hrow.val;by_cases hc:l'=[]
 ·have h0:l'.length=0:=by rw[hc];rfl
  (refine Ap<|Ak Z<|AX Z<|AS Z Z<|BM Z<|A6<|Es Z<|AR Z<|Bz ?_);rw[hc,Y0,Ado] at hch;refine Oj Z (fun d' hld hk=>?_);exact⟨Z,by rw[←hch];exact hrow.rsl (R:=A9) CL (by omega) hld (hk _ (by simp))⟩
 ·have hpos:1≤l'.length:=Adk.2 hc;have hfw:=YU hc hu';have hw:=Lib.decodeL_width l';have hwl:=Lib.decodeL_le l' hc;have hst:=Xf hc;refine Ap<|Ak Z<|AX Z<|AS Z Z<|AE Z<|Ay<|Am<|Aj<|Ak Z<|AG Z (h1 hc (by omega))<|Bm Z<|Bx Z Z Z Z<|Ab Z<|Bt Z<|AR Z<|Ak Z<|Ab Z<|It (n:=(Lib.decodeL l').2) Z Z (by omega) (by omega)<|Ff (v0:=Ag (l'.take (Lib.decodeL l').2)) Z Z (fun b18 T18=>?_);have o18:AQ 1 A9 d' (.slice (some ⟨b18,0,none⟩) 1 1) [l'.take (Lib.decodeL l').2] (bx b18 T18 [Ag (l'.take (Lib.decodeL l').2)]):=AQ.G8 Z ⟨Z,by simp;omega⟩;refine Ei (R:=A9) 0 Z Z hrow Z o18 Dt (by omega) (by simp;omega) (by simp;omega) (fun v5 h5 o5=>?_);obtain⟨a5,c5,rfl⟩:=o5.val;refine AR Z<|Av<|Ar<|Ak Z<|Ab Z<|B6 (n:=(Lib.decodeL l').2) Z Z (by omega) (by omega)<|Ak Z<|Av ?_;exact⟨l'.drop (Lib.decodeL l').2,_,h5,by simp;omega,⟨Z,Z,trivial⟩,Z,dn++[l'.take (Lib.decodeL l').2],by simp;omega,G6 hc hu',by rw[Ach,←hch,hst];rfl,o5,Z⟩
def LO(a0 a1 a2:Nat):Bo:=⟨124,[(.cell 4 (some 6)),(.tmp 5)],(sR (o1 2 (.box 0)<|o1 3 (.box 1)<|o1 4 (.alo (.agg #[(vZ 0),(vZ 0),(vZ 0),(Ag []),nV,nV]))<|o1 5 (.mv z0) .done) (sR (o1 6 (.alo (.agg #[(vZ 0),(vZ 0),(vZ 0),(Ag []),nV,nV])) .done) (.seq (sR (oj 14 0 2<|ol 15 14<|ob 16 .eql 15 z0 .done) (.cond 16 (sR (o1 17 (.ld (some 6) 6)<|o0 (.st 6 4 17)<|o1 5 (.mv z0) .done) .ret) .skip)) (.seq (sR (oj 18 0 3<|ol 19 18<|ob 20 .eql 19 z0<|om 21 20<|oT 22 21 (.fld 0 2)<|oT 23 21 (.ld none 22)<|oT 24 21 (.bin .eql 23 (kZ 6))<|gP 25 21 24<|om 26 25<|oF 27 26 (.fld 0 3)<|oF 28 26 (.ld none 27)<|oF 29 26 (.bin .eql 28 z1)<|gF 30 26 29<|oT 31 30 (.fld 0 2)<|oT 32 30 (.ld none 31)<|oT 33 30 (.bin .eql 32 (kZ 5))<|oF 34 26 (.pick 30 33 (.const (.bool false)))<|o1 35 (.pick 26 (.const (.bool true)) 34) .done) (.cond 35 (sR (oj 36 2 3<|ol 37 36<|om 7 37 .done) (.seq (sR (oj 38 0 3<|ol 39 38<|ob 40 .eql 39 z0 .done) (.cond 40 (rG (o1 41 (.ld (some 6) 2)<|oj 42 1 3<|ol 43 42<|oc 44 a0 [41,43]<|om 7 44 .done)) (sR (om 45 7<|ob 46 .lss 45 z0 .done) (.cond 46 (rG (om 47 7<|oj 48 4 2<|ol 49 48<|oL 50 49<|ob 51 .add 47 50<|om 7 51 .done)) .skip)))) (.seq (sR (om 52 7<|ob 53 .geq 52 z0<|om 54 53<|gT 55 54 7<|oT 56 54 (.fld 4 2)<|oT 57 54 (.ld none 56)<|oT 58 54 (.len 57)<|oT 59 54 (.bin .lss 55 58)<|gP 60 54 59 .done) (.cond 60 (rG (oj 61 4 2<|ol 62 61<|om 63 7<|oI 64 6 62 63<|o1 65 (.ld (some 6) 64)<|o0 (.st 6 6 65) .done)) .skip)) (sR (o1 66 (.ld (some 6) 6)<|o0 (.st 6 4 66)<|o1 5 (.mv z0) .done) .ret)))) .skip)) (.seq (sR (oj 67 0 3<|ol 68 67<|ob 69 .eql 68 z2<|om 70 69<|oT 71 70 (.fld 0 2)<|oT 72 70 (.ld none 71)<|oT 73 70 (.bin .eql 72 (kZ 5))<|gP 74 70 73 .done) (.cond 74 (sR (o1 76 (.ld (some 6) 3)<|oj 77 4 2<|ol 78 77<|oL 79 78<|oc 80 a1 [76,79]<|om 75 80<|oe 81 75 0<|oe 82 75 1<|om 8 81<|om 9 82 .done) (sR (oj 83 4 2<|ol 84 83<|om 85 8<|om 86 9<|o1 87 (.sl 6 84 (some 85) (some 86) none)<|o1 88 (.bld [(0,1),(1,2),(3,1),(4,1),(5,1)] [(vZ 0),(vZ 0),(vZ 0),(Ag []),nV,nV] [(0,(kZ 5)),(3,87)])<|o0 (.st 6 4 88)<|o1 5 (.mv z0) .done) .ret)) .skip)) (.seq (sR (oj 89 0 3<|ol 90 89<|ob 91 .eql 90 z2<|om 92 91<|oT 93 92 (.fld 0 2)<|oT 94 92 (.ld none 93)<|oT 95 92 (.bin .eql 94 (kZ 4))<|gP 96 92 95 .done) (.cond 96 (sR (oj 97 3 2<|ol 98 97<|oc 99 a2 [98]<|om 10 99 .done) (sR (o1 101 (.ld (some 6) 3)<|om 102 10<|oL 103 102<|oc 104 a1 [101,103]<|om 100 104<|oe 105 100 0<|oe 106 100 1<|om 11 105<|om 12 106 .done) (sR (oj 107 0 6<|o0 (.st 1 107 (kZ 4)) .done) (.seq (sR (om 108 11<|om 13 108 .done) (.block 0 (.loop (.seq (sR (om 109 13<|om 110 12<|ob 111 .lss 109 110 .done) (.cond 111 .skip (.exit 0))) (.seq (.block 1 (.reg true (p1 114 (.fld 3 6)<|pl 115 114<|pm 116 10<|pm 117 13<|p1 118 (.idx 1 116 117)<|pl 119 118<|p1 120 (.bin .add 115 119)<|p1 121 (.fld 3 6) (.bar (o0 (.st 1 121 120) .done))))) (rG (om 112 13<|ob 113 .add 112 z1<|om 13 113 .done))))))) (sR (o1 122 (.ld (some 6) 6)<|o0 (.st 6 4 122)<|o1 5 (.mv z0) .done) .ret))))) .skip)) (sR (o1 123 (.ld (some 6) 6)<|o0 (.st 6 4 123)<|o1 5 (.mv (kZ 80)) .done) .ret)))))))⟩
set_option maxHeartbeats 1000000 in
def VK(hd:dec P f=some (LO f1 f2 f3))(h1:Ou P f1)(h2:GB P f2)(h3:Ph P f3):H5 P f:=by
 intro d cs ds v s hv hone hvt hs;have hr:=Ec hone;have hu:=RP hone;have hkl:=GV hone;refine Be.forget (Q:=fun r L'=>L'=[]∧∃cs',r=.tuple #[.agg cs'.toArray,vZ (A8 v s).2]∧Az d cs' (A8 v s).1) ?_;refine Cq hd (Aca Z) ?_;obtain⟨w,e,hF⟩:∃w e,A8 v s=(w,e):=⟨_,_,Z⟩
 rw[hF];have hs':=hs;obtain⟨hds,ik',it',is,id⟩:=hs';subst hds;obtain⟨is1,is2⟩:=is;have hv0:=hv;obtain⟨lv,kv,rfl,ik,im,ie,it,hl,hks⟩:=hv.open;obtain⟨la,lc,rfl⟩:=RSl.val hl;obtain⟨ka,kc,rfl⟩:=RSl.val hks;have hl':RSl 6 Az d (.slice la v.list.length lc) v.list:=hl;have n1:=RSl.BW hl;have n2:=RSl.BW hks;show gwp P _ _ _ _ _;apply Ax;apply Ar;refine Bg (l:=[vZ v.kind,vZ v.m,vZ v.e,Ag v.text,.slice la v.list.length lc,.slice ka v.keys.length kc]) Z (fun b2 T2=>?_);refine Bg (l:=[vZ s.kind,Ag s.text,vZ s.src,vZ s.dst,.bool s.hf,.bool s.ht]) Z (fun b3 T3=>?_);(refine BV (fun _ _=>AL Z ?_));rename_i b4 T4;apply Ax;apply Ar;(refine BV (fun _ _=>Av ?_));rename_i b6 T6;by_cases k0:v.kind=0
 ·rw[A8,if_pos k0] at hF;cases hF;(refine Ap<|Ae Z<|Al Z (An 3 Z Z)<|Ai Z Z<|AE Z<|Aj<|AP 0 Z Z Z ?_);refine Au 1 [vZ 0,vZ 0,vZ 0,Ag [],nV,nV] Z Z Z Z (Aca Z) Z Z ?_;(refine AM Z ?_);exact DK 1 Z Z Z Az.zero
 by_cases s0:s.kind=0
 ·by_cases v6:v.kind=6
  ·rw[A8,if_neg k0,if_pos ⟨s0,v6⟩] at hF;(refine Ap<|Ae Z<|Al Z (An 3 Z Z)<|Ai Z Z<|AJ Z<|Ap<|Ae Z<|Al Z (An 2 Z Z)<|Ai Z Z<|Ac Z<|AA Z<|Aa Z<|Ae Z<|Aa Z<|Al Z (An 3 Z Z)<|Aa Z<|Ai Z Z<|Ah Z Z<|Ac Z<|AA Z<|Aq Z Z<|Aq Z Z<|AN Z<|AN Z<|AN Z<|AF Z<|Ah Z Z<|BK Z<|Aj<|Ae Z<|Al Z (An 2 Z Z)<|A1 Z<|Ae Z<|Al Z (An 2 Z Z)<|Ai Z Z<|AE Z<|Ar<|AP 3 Z Z Z<|Ae Z<|Al Z (An 2 Z Z) ?_);refine AG Z (h1 hv0 hr) ?_;by_cases hm:s.text∈v.keys
   ·rw[if_pos hm] at hF⊢;cases hF;obtain⟨hlo,_⟩:=(mem_iff hr).1 hm;have hlo2:AT v.keys s.text<v.list.length:=by have:=hkl v6;omega
    (refine A1 Z<|Ab Z<|A5 Z Z<|Ac Z<|AA Z<|Aa Z<|Ab Z<|Aa Z<|Ae Z<|Aa Z<|Al Z (An 3 Z Z)<|Aa Z<|AK Z<|Aa Z<|As Z Z<|Ah Z Z<|AE Z<|Ar<|Ae Z<|Al Z (An 3 Z Z)<|Ab Z<|A2 (sz:=6) (R:=Az) (by rfl) (by assumption) (by rfl) Z (by omega) ?_;rintro _ _ _ _ _ _;apply CT;rfl;assumption;assumption);rename_i cs hcs hD hR;obtain⟨c0,c1,c2,c3,c4,c5,rfl⟩:=six hcs;refine Au 0 [c0,c1,c2,c3,c4,c5] Z Z Z Z (Aca Z) (AW _ _ _ hR) Z ?_;(refine Br<|AP 0 Z Z Z ?_);refine Au 1 [c0,c1,c2,c3,c4,c5] Z Z Z Z (Aca Z) (AW _ _ _ hR) Z ?_;(refine AM Z ?_);exact DK 1 Z Z Z (by rw[show v.list.getD (AT v.keys s.text) V.zero=v.list[AT v.keys s.text] by simp[hlo2]];exact hR)
   ·rw[if_neg hm] at hF⊢;cases hF;(refine A1 Z<|Ab Z<|A5 Z Z<|Ac Z<|Aw Z<|Aq Z Z<|Aq Z Z<|AF Z<|Af Z Z<|Bh Z<|Aj<|AP 0 Z Z Z ?_);refine Au 1 [vZ 0,vZ 0,vZ 0,Ag [],nV,nV] Z Z Z Z (Aca Z) Z Z ?_;(refine AM Z ?_);exact DK 1 Z Z Z Az.zero
  ·rw[A8,if_neg k0,if_neg (fun h=>v6 h.2),if_neg (fun h=>by omega),if_neg (fun h=>by omega),if_neg (fun h=>by omega)] at hF;cases hF;(refine Ap<|Ae Z<|Al Z (An 3 Z Z)<|Ai Z Z<|AJ Z<|Ap<|Ae Z<|Al Z (An 2 Z Z)<|Ai Z Z<|Ac Z<|AA Z<|Aa Z<|Ae Z<|Aa Z<|Al Z (An 3 Z Z)<|Aa Z<|Ai Z Z<|Ah Z Z<|Ac Z<|Aw Z<|Aa Z<|Ae Z<|Aa Z<|Al Z (An 2 Z Z)<|Aa Z<|Ai Z Z<|Aa Z<|Ac Z<|Aw Z<|Aq Z Z<|AF Z<|Aa Z<|Af Z Z<|Af Z Z<|Bh Z<|Ap<|Ae Z<|Al Z (An 2 Z Z)<|Ai Z Z<|Ac Z<|Aw Z<|Aq Z Z<|AF Z<|Af Z Z<|Bh Z<|Ap<|Ae Z<|Al Z (An 2 Z Z)<|Ai Z Z<|Ac Z<|Aw Z<|Aq Z Z<|AF Z<|Af Z Z<|Bh Z<|Aj<|AP 0 Z Z Z ?_);refine Au 1 [vZ 0,vZ 0,vZ 0,Ag [],nV,nV] Z Z Z Z (Aca Z) Z Z ?_;(refine AM Z ?_);exact DK 1 Z Z Z Az.zero
 by_cases s1:s.kind=1
 ·by_cases v5:v.kind=5
  ·rw[A8,if_neg k0,if_neg (fun h=>s0 h.1),if_pos ⟨s1,v5⟩,Ln] at hF;by_cases hneg:s.src<0
   ·have hpl:BL s.src v.list.length=s.src+v.list.length:=by rw[BL,if_pos hneg]
    rw[hpl] at hF;by_cases p0:0≤s.src+(v.list.length:Int)
    ·by_cases p1:s.src+(v.list.length:Int)<v.list.length
     ·rw[if_pos ⟨p0,p1⟩] at hF;cases hF;have hlo2:(s.src+(v.list.length:Int)).toNat<v.list.length:=by omega
      (refine Ap<|Ae Z<|Al Z (An 3 Z Z)<|Ai Z Z<|AJ Z<|Ap<|Ae Z<|Al Z (An 2 Z Z)<|Ai Z Z<|Ac Z<|Aw Z<|Aq Z Z<|AF Z<|Af Z Z<|Ac Z<|Aa Z<|Ae Z<|Aa Z<|Al Z (An 2 Z Z)<|Aa Z<|Ai Z Z<|Aa Z<|Ac Z<|AA Z<|Aa Z<|Ae Z<|Aa Z<|Al Z (An 3 Z Z)<|Aa Z<|Ai Z Z<|Aa Z<|Ah Z Z<|Af Z Z<|AE Z<|Aj<|Ae Z<|Al Z (An 2 Z Z)<|A1 Z<|Ae Z<|Al Z (An 2 Z Z)<|Ai Z Z<|BM Z<|AD Z<|As Z Z<|AE Z<|Ar<|Ab Z<|Ae Z<|Al Z (An 3 Z Z)<|AK Z<|AY Z Z<|A1 Z<|Ab Z<|A5 Z Z<|Ac Z<|AA Z<|Aa Z<|Ab Z<|Aa Z<|Ae Z<|Aa Z<|Al Z (An 3 Z Z)<|Aa Z<|AK Z<|Aa Z<|As Z Z<|Ah Z Z<|AE Z<|Ar<|Ae Z<|Al Z (An 3 Z Z)<|Ab Z ?_);refine A2 (sz:=6) (R:=Az) (m:=(s.src+(v.list.length:Int)).toNat) (by rfl) hl' (by rfl) (by omega) hlo2 ?_;rintro _ _ cs hcs hD hR;(apply CT;rfl;assumption;assumption);obtain⟨c0,c1,c2,c3,c4,c5,rfl⟩:=six hcs;refine Au 0 [c0,c1,c2,c3,c4,c5] Z Z Z Z (Aca Z) (AW _ _ _ hR) Z ?_;(refine Br<|AP 0 Z Z Z ?_);refine Au 1 [c0,c1,c2,c3,c4,c5] Z Z Z Z (Aca Z) (AW _ _ _ hR) Z ?_;(refine AM Z ?_);exact DK 1 Z Z Z (by rw[show v.list.getD (s.src+(v.list.length:Int)).toNat V.zero=v.list[(s.src+(v.list.length:Int)).toNat] by simp[hlo2]];exact hR)
     ·omega
    ·rw[if_neg (fun h=>p0 h.1)] at hF;cases hF;(refine Ap<|Ae Z<|Al Z (An 3 Z Z)<|Ai Z Z<|AJ Z<|Ap<|Ae Z<|Al Z (An 2 Z Z)<|Ai Z Z<|Ac Z<|Aw Z<|Aq Z Z<|AF Z<|Af Z Z<|Ac Z<|Aa Z<|Ae Z<|Aa Z<|Al Z (An 2 Z Z)<|Aa Z<|Ai Z Z<|Aa Z<|Ac Z<|AA Z<|Aa Z<|Ae Z<|Aa Z<|Al Z (An 3 Z Z)<|Aa Z<|Ai Z Z<|Aa Z<|Ah Z Z<|Af Z Z<|AE Z<|Aj<|Ae Z<|Al Z (An 2 Z Z)<|A1 Z<|Ae Z<|Al Z (An 2 Z Z)<|Ai Z Z<|BM Z<|AD Z<|As Z Z<|AE Z<|Ar<|Ab Z<|Ae Z<|Al Z (An 3 Z Z)<|AK Z<|AY Z Z<|A1 Z<|Ab Z<|A5 Z Z<|Ac Z<|Aw Z<|Aq Z Z<|Aq Z Z<|AF Z<|Af Z Z<|Bh Z<|Aj<|AP 0 Z Z Z ?_);refine Au 1 [vZ 0,vZ 0,vZ 0,Ag [],nV,nV] Z Z Z Z (Aca Z) Z Z ?_;(refine AM Z ?_);exact DK 1 Z Z Z Az.zero
   ·have hpl:BL s.src v.list.length=s.src:=by rw[BL,if_neg hneg]
    rw[hpl] at hF;by_cases p1:s.src<v.list.length
    ·rw[if_pos ⟨by omega,p1⟩] at hF;cases hF;have hlo2:s.src.toNat<v.list.length:=by omega
     (refine Ap<|Ae Z<|Al Z (An 3 Z Z)<|Ai Z Z<|AJ Z<|Ap<|Ae Z<|Al Z (An 2 Z Z)<|Ai Z Z<|Ac Z<|Aw Z<|Aq Z Z<|AF Z<|Af Z Z<|Ac Z<|Aa Z<|Ae Z<|Aa Z<|Al Z (An 2 Z Z)<|Aa Z<|Ai Z Z<|Aa Z<|Ac Z<|AA Z<|Aa Z<|Ae Z<|Aa Z<|Al Z (An 3 Z Z)<|Aa Z<|Ai Z Z<|Aa Z<|Ah Z Z<|Af Z Z<|AE Z<|Aj<|Ae Z<|Al Z (An 2 Z Z)<|A1 Z<|Ae Z<|Al Z (An 2 Z Z)<|Ai Z Z<|BM Z<|AD Z<|As Z Z<|AJ Z<|Ap<|Ab Z<|A5 Z Z<|Ac Z<|AA Z<|Aa Z<|Ab Z<|Aa Z<|Ae Z<|Aa Z<|Al Z (An 3 Z Z)<|Aa Z<|AK Z<|Aa Z<|As Z Z<|Ah Z Z<|AE Z<|Ar<|Ae Z<|Al Z (An 3 Z Z)<|Ab Z ?_);refine A2 (sz:=6) (R:=Az) (m:=s.src.toNat) (by rfl) hl' (by rfl) (by omega) hlo2 ?_;rintro _ _ cs hcs hD hR;(apply CT;rfl;assumption;assumption);obtain⟨c0,c1,c2,c3,c4,c5,rfl⟩:=six hcs;refine Au 0 [c0,c1,c2,c3,c4,c5] Z Z Z Z (Aca Z) (AW _ _ _ hR) Z ?_;(refine Br<|AP 0 Z Z Z ?_);refine Au 1 [c0,c1,c2,c3,c4,c5] Z Z Z Z (Aca Z) (AW _ _ _ hR) Z ?_;(refine AM Z ?_);exact DK 1 Z Z Z (by rw[show v.list.getD s.src.toNat V.zero=v.list[s.src.toNat] by simp[hlo2]];exact hR)
    ·rw[if_neg (fun h=>p1 h.2)] at hF;cases hF;(refine Ap<|Ae Z<|Al Z (An 3 Z Z)<|Ai Z Z<|AJ Z<|Ap<|Ae Z<|Al Z (An 2 Z Z)<|Ai Z Z<|Ac Z<|Aw Z<|Aq Z Z<|AF Z<|Af Z Z<|Ac Z<|Aa Z<|Ae Z<|Aa Z<|Al Z (An 2 Z Z)<|Aa Z<|Ai Z Z<|Aa Z<|Ac Z<|AA Z<|Aa Z<|Ae Z<|Aa Z<|Al Z (An 3 Z Z)<|Aa Z<|Ai Z Z<|Aa Z<|Ah Z Z<|Af Z Z<|AE Z<|Aj<|Ae Z<|Al Z (An 2 Z Z)<|A1 Z<|Ae Z<|Al Z (An 2 Z Z)<|Ai Z Z<|BM Z<|AD Z<|As Z Z<|AJ Z<|Ap<|Ab Z<|A5 Z Z<|Ac Z<|AA Z<|Aa Z<|Ab Z<|Aa Z<|Ae Z<|Aa Z<|Al Z (An 3 Z Z)<|Aa Z<|AK Z<|Aa Z<|As Z Z<|Ah Z Z<|AJ Z<|Aj<|AP 0 Z Z Z ?_);refine Au 1 [vZ 0,vZ 0,vZ 0,Ag [],nV,nV] Z Z Z Z (Aca Z) Z Z ?_;(refine AM Z ?_);exact DK 1 Z Z Z Az.zero
  ·rw[A8,if_neg k0,if_neg (fun h=>s0 h.1),if_neg (fun h=>v5 h.2),if_neg (fun h=>by omega),if_neg (fun h=>by omega)] at hF;cases hF;(refine Ap<|Ae Z<|Al Z (An 3 Z Z)<|Ai Z Z<|AJ Z<|Ap<|Ae Z<|Al Z (An 2 Z Z)<|Ai Z Z<|Ac Z<|Aw Z<|Aq Z Z<|AF Z<|Af Z Z<|Ac Z<|Aa Z<|Ae Z<|Aa Z<|Al Z (An 2 Z Z)<|Aa Z<|Ai Z Z<|Aa Z<|Ac Z<|AA Z<|Aa Z<|Ae Z<|Aa Z<|Al Z (An 3 Z Z)<|Aa Z<|Ai Z Z<|Aa Z<|Ah Z Z<|Af Z Z<|AJ Z<|Ap<|Ae Z<|Al Z (An 2 Z Z)<|Ai Z Z<|Ac Z<|Aw Z<|Aq Z Z<|AF Z<|Af Z Z<|Bh Z<|Ap<|Ae Z<|Al Z (An 2 Z Z)<|Ai Z Z<|Ac Z<|Aw Z<|Aq Z Z<|AF Z<|Af Z Z<|Bh Z<|Aj<|AP 0 Z Z Z ?_);refine Au 1 [vZ 0,vZ 0,vZ 0,Ag [],nV,nV] Z Z Z Z (Aca Z) Z Z ?_;(refine AM Z ?_);exact DK 1 Z Z Z Az.zero
 by_cases s2:s.kind=2
 ·by_cases v5:v.kind=5
  ·rw[A8,if_neg k0,if_neg (fun h=>s0 h.1),if_neg (fun h=>s1 h.1),if_pos ⟨s2,v5⟩] at hF;cases hF;have hends:=D9 s (k:=v.list.length) (by omega);(refine Ap<|Ae Z<|Al Z (An 3 Z Z)<|Ai Z Z<|AJ Z<|Ap<|Ae Z<|Al Z (An 2 Z Z)<|Ai Z Z<|Ac Z<|Aw Z<|Aq Z Z<|AF Z<|Af Z Z<|Ac Z<|Aa Z<|Ae Z<|Aa Z<|Al Z (An 2 Z Z)<|Aa Z<|Ai Z Z<|Aa Z<|Ac Z<|Aw Z<|Aq Z Z<|AF Z<|Aa Z<|Af Z Z<|Af Z Z<|Bh Z<|Ap<|Ae Z<|Al Z (An 2 Z Z)<|Ai Z Z<|Ac Z<|AA Z<|Aa Z<|Ae Z<|Aa Z<|Al Z (An 3 Z Z)<|Aa Z<|Ai Z Z<|Ah Z Z<|AE Z<|Aj<|AP 2 Z Z Z<|Ae Z<|Al Z (An 3 Z Z)<|AK Z ?_);refine AG Z (h2 hs (by omega) (by omega)) ?_;(refine Bm Z<|Bx Z Z Z Z<|Ab Z<|Bt Z<|Ae Z<|Al Z (An 3 Z Z)<|Ab Z<|Ab Z ?_);refine Pz (n:=(Bv s v.list.length).1.toNat) (m:=(Bv s v.list.length).2.toNat) Z hl' Z Z (by omega) (by omega) (by omega) (by omega) (fun v' hv'=>?_);obtain⟨sa,sc,rfl⟩:=RSl.val hv';(apply EI;rfl;rfl);refine Au 1 [vZ 5,vZ 0,vZ 0,Ag [],.slice sa _ sc,nV] Z Z Z Z (Aca Z) Z Z ?_;(refine AM Z ?_);exact DK 1 Z Z Z (Az.close (v:=.mk 5 0 0 [] (Ga v.list (Bv s v.list.length)) []) FX BY BY (by simp) hv' RSl.nil)
  by_cases v4:v.kind=4
  ·rw[A8,if_neg k0,if_neg (fun h=>s0 h.1),if_neg (fun h=>s1 h.1),if_neg (fun h=>v5 h.2),if_pos ⟨s2,v4⟩] at hF;cases hF;have hcl:=MM v.text;have hends:=D9 s (k:=(chs v.text).length) (by omega);(refine Ap<|Ae Z<|Al Z (An 3 Z Z)<|Ai Z Z<|AJ Z<|Ap<|Ae Z<|Al Z (An 2 Z Z)<|Ai Z Z<|Ac Z<|Aw Z<|Aq Z Z<|AF Z<|Af Z Z<|Ac Z<|Aa Z<|Ae Z<|Aa Z<|Al Z (An 2 Z Z)<|Aa Z<|Ai Z Z<|Aa Z<|Ac Z<|Aw Z<|Aq Z Z<|AF Z<|Aa Z<|Af Z Z<|Af Z Z<|Bh Z<|Ap<|Ae Z<|Al Z (An 2 Z Z)<|Ai Z Z<|Ac Z<|AA Z<|Aa Z<|Ae Z<|Aa Z<|Al Z (An 3 Z Z)<|Aa Z<|Ai Z Z<|Ah Z Z<|AJ Z<|Ap<|Ae Z<|Al Z (An 2 Z Z)<|Ai Z Z<|Ac Z<|AA Z<|Aa Z<|Ae Z<|Aa Z<|Al Z (An 3 Z Z)<|Aa Z<|Ai Z Z<|Ah Z Z<|AE Z<|Aj<|Ae Z<|Al Z (An 3 Z Z) ?_);refine Bi Z (h3 hu hvt) (fun r d5 L5 hl5 ⟨hL,hrr⟩=>?_);subst hL;obtain⟨ra,rc,rfl⟩:=RSl.val hrr;have hrr':RSl 1 A9 d5 (.slice ra (chs v.text).length rc) (chs v.text):=hrr;(refine AR Z<|Br<|AP 2 Z Z Z<|AR Z<|AK Z ?_);refine AG Z (h2 (d:=d5) hs (by omega) (by omega)) ?_;obtain⟨A,B,hab⟩:∃A B:Int,Bv s (chs v.text).length=(A,B):=⟨_,_,Z⟩
   rw[hab] at hends⊢;simp only at hends⊢;obtain⟨a,rfl⟩:∃a:Nat,A=(a:Int):=⟨A.toNat,by omega⟩
   obtain⟨b,rfl⟩:∃b:Nat,B=(b:Int):=⟨B.toNat,by omega⟩
   have hmid:Ga (chs v.text) ((a:Int),(b:Int))=((chs v.text).drop a).take (b - a):=by simp[Ga]
   rw[hmid];(refine Bm Z<|Bx Z Z Z Z<|Ab Z<|Bt Z<|Ae Z ?_);refine Au 0 [vZ 4,vZ 0,vZ 0,Ag [],nV,nV] Z Z Z Z (Aca Z) Z Z ?_;(refine Bw<|Ab Z<|AL Z<|Am ?_);have hzz:∀i:Nat,(((chs v.text).drop a).take i).flatten.length≤v.text.length:=fun i=>KJ a i;refine DJ (α:=Nat) (fun i=>[(4,pZ b4),(6,pZ b6),(10,.slice ra (chs v.text).length rc),(12,vZ b),(13,vZ i)])
    (fun i=>[bx b6 T6 [vZ 4,vZ 0,vZ 0,Ag (((chs v.text).drop a).take (i - a)).flatten,nV,nV],bx b4 T4 [vZ 0,vZ 0,vZ 0,Ag [],nV,nV],bx b3 T3 [vZ s.kind,Ag s.text,vZ s.src,vZ s.dst,.bool s.hf,.bool s.ht],bx b2 T2 [vZ v.kind,vZ v.m,vZ v.e,Ag v.text,.slice la v.list.length lc,.slice ka v.keys.length kc]])
    (fun i=>a≤i∧i≤b) (fun i=>b - i) a ⟨Z,Z,Z,Z,Z,trivial⟩ (by rw[Aeu];rfl) ⟨Ack _,by omega⟩ ?_
   rintro i ρ ⟨hi1,hi2⟩;by_cases hc:i<b
   ·have hcl2:(chs v.text)[i].length≤140737488355328:=by
     obtain⟨_,_,_,_,_,_,_,_,_,_,_,h8⟩:=hrr';obtain⟨cs,_,_,_,h9⟩:=h8 i (by omega);exact h9
    have hz2:=hzz (i - a);(refine Ap<|Ab Z<|Ab Z<|As Z Z<|AE Z<|Ay<|Ax<|Am<|Bd<|AI Z Z Z<|AR Z<|Ab Z<|A2 (sz:=1) (R:=A9) (by rfl) (by assumption) (by rfl) Z (by omega) ?_;rintro _ _ _ _ _ ⟨rfl,_⟩;apply Al;rfl;exact BQ (by assumption) Z);refine BI Z Z (by omega) ?_;(refine Ae Z<|B0 ?_);have hstep:(((chs v.text).drop a).take (i+1 - a)).flatten=(((chs v.text).drop a).take (i - a)).flatten++(chs v.text)[i]:=by
     rw[show i+1 - a=i - a+1 by omega,Acx (show i - a<((chs v.text).drop a).length by simp;omega)];simp[show a+(i - a)=i by omega]
    refine Au 0 [vZ 4,vZ 0,vZ 0,Ag ((((chs v.text).drop a).take (i - a)).flatten++(chs v.text)[i]),nV,nV] Z Z Z Z (Aca Z) Z Z ?_;rw[←hstep];(refine Av<|Ar<|Ab Z<|AY Z Z<|AL Z ?_);exact⟨i+1,by omega,⟨Z,Z,Z,Z,int_eq (by omega),trivial⟩,Z,Z,by omega,by omega⟩
   ·obtain rfl:i=b:=by omega
    (refine Ap<|Ab Z<|Ab Z<|As Z Z<|BM Z<|A6<|Aj<|AP 0 Z Z Z ?_);refine Au 1 [vZ 4,vZ 0,vZ 0,Ag (((chs v.text).drop a).take (i - a)).flatten,nV,nV] Z Z Z Z (Aca Z) Z Z ?_;(refine AM Z ?_);exact DK 1 Z Z Z (Az.close (v:=.mk 4 0 0 (((chs v.text).drop a).take (i - a)).flatten [] []) Yh BY BY (Adp (hzz _) it) RSl.nil RSl.nil)
  rw[A8,if_neg k0,if_neg (fun h=>s0 h.1),if_neg (fun h=>s1 h.1),if_neg (fun h=>v5 h.2),if_neg (fun h=>v4 h.2)] at hF;cases hF;(refine Ap<|Ae Z<|Al Z (An 3 Z Z)<|Ai Z Z<|AJ Z<|Ap<|Ae Z<|Al Z (An 2 Z Z)<|Ai Z Z<|Ac Z<|Aw Z<|Aq Z Z<|AF Z<|Af Z Z<|Ac Z<|Aa Z<|Ae Z<|Aa Z<|Al Z (An 2 Z Z)<|Aa Z<|Ai Z Z<|Aa Z<|Ac Z<|Aw Z<|Aq Z Z<|AF Z<|Aa Z<|Af Z Z<|Af Z Z<|Bh Z<|Ap<|Ae Z<|Al Z (An 2 Z Z)<|Ai Z Z<|Ac Z<|AA Z<|Aa Z<|Ae Z<|Aa Z<|Al Z (An 3 Z Z)<|Aa Z<|Ai Z Z<|Ah Z Z<|AJ Z<|Ap<|Ae Z<|Al Z (An 2 Z Z)<|Ai Z Z<|Ac Z<|AA Z<|Aa Z<|Ae Z<|Aa Z<|Al Z (An 3 Z Z)<|Aa Z<|Ai Z Z<|Ah Z Z<|AJ Z<|Aj<|AP 0 Z Z Z ?_);refine Au 1 [vZ 0,vZ 0,vZ 0,Ag [],nV,nV] Z Z Z Z (Aca Z) Z Z ?_;(refine AM Z ?_);exact DK 1 Z Z Z Az.zero
 rw[A8,if_neg k0,if_neg (fun h=>s0 h.1),if_neg (fun h=>s1 h.1),if_neg (fun h=>s2 h.1),if_neg (fun h=>s2 h.1)] at hF;cases hF;(refine Ap<|Ae Z<|Al Z (An 3 Z Z)<|Ai Z Z<|AJ Z<|Ap<|Ae Z<|Al Z (An 2 Z Z)<|Ai Z Z<|Ac Z<|Aw Z<|Aq Z Z<|AF Z<|Af Z Z<|Ac Z<|Aa Z<|Ae Z<|Aa Z<|Al Z (An 2 Z Z)<|Aa Z<|Ai Z Z<|Aa Z<|Ac Z<|Aw Z<|Aq Z Z<|AF Z<|Aa Z<|Af Z Z<|Af Z Z<|Bh Z<|Ap<|Ae Z<|Al Z (An 2 Z Z)<|Ai Z Z<|Ac Z<|Aw Z<|Aq Z Z<|AF Z<|Af Z Z<|Bh Z<|Ap<|Ae Z<|Al Z (An 2 Z Z)<|Ai Z Z<|Ac Z<|Aw Z<|Aq Z Z<|AF Z<|Af Z Z<|Bh Z<|Aj<|AP 0 Z Z Z ?_);refine Au 1 [vZ 0,vZ 0,vZ 0,Ag [],nV,nV] Z Z Z Z (Aca Z) Z Z ?_;(refine AM Z ?_);exact DK 1 Z Z Z Az.zero
section
def CN(s:St):Bool:=decide (0≤s.kind∧s.kind≤2)&&(decide (s.kind≠0)||u8 s.text)
def all_false{l:List St}{i:Nat}(h:i<l.length)(hb:CN l[i]=false):l.all CN=false:=by
 rw[←Aev,Acn];intro ha;rw[ha _ (Acq h)] at hb;cases hb
def Ks(T:Ad→Prop)(P:Program)(f:FuncId):Prop:=∀{d w}{l:List St},T d→RSl 6 RSt d w l→AO P f [w] d (vZ (if l.all CN=true then 0 else 2))
def KK(a0:Nat):Bo:=⟨41,[(.tmp 2)],(sR (o1 2 (.mv z0) .done) (.seq (sR (o1 3 (.mv z0) .done) (.block 0 (.loop (.seq (sR (om 4 3<|om 5 0<|oL 6 5<|ob 7 .lss 4 6 .done) (.cond 7 .skip (.exit 0))) (.seq (.block 1 (sR (om 10 0<|om 11 3<|oI 12 6 10 11<|oj 13 0 12<|ol 14 13<|ob 15 .lss 14 z0<|om 16 15<|gF 17 16 0<|gF 18 16 3<|oF 19 16 (.idx 6 17 18)<|oF 20 16 (.fld 0 19)<|oF 21 16 (.ld none 20)<|oF 22 16 (.bin .gtr 21 z2)<|o1 23 (.pick 16 (.const (.bool true)) 22)<|om 24 23<|gF 25 24 0<|gF 26 24 3<|oF 27 24 (.idx 6 25 26)<|oF 28 24 (.fld 0 27)<|oF 29 24 (.ld none 28)<|oF 30 24 (.bin .eql 29 z0)<|gF 31 24 30<|gT 32 31 0<|gT 33 31 3<|oT 34 31 (.idx 6 32 33)<|oT 35 31 (.fld 1 34)<|oT 36 31 (.ld none 35)<|oT 37 31 (.call a0 [36])<|oT 38 31 (.un .not 37)<|oF 39 24 (.pick 31 38 (.const (.bool false)))<|o1 40 (.pick 24 (.const (.bool true)) 39) .done) (.cond 40 (sR (o1 2 (.mv z2) .done) .ret) .skip))) (rG (om 8 3<|ob 9 .add 8 z1<|om 3 9 .done))))))) (sR (o1 2 (.mv z0) .done) .ret)))⟩
def Vm{T:Ad→Prop}(hd:dec P f=some (KK f1))(h1:Ek T P f1):Ks T P f:=by
 intro d w l ht hw;have n1:=RSl.BW hw;obtain⟨a,c,rfl⟩:=RSl.val hw;have hw':=hw;refine AO.of' hd (Aca Z) ?_;show gwp P _ _ _ _ _;refine AD Z<|Bw<|AL Z<|Am<|DJ (α:=Nat) (fun i=>[(0,.slice a l.length c),(3,vZ i)]) (fun _=>[]) (fun i=>i≤l.length∧(l.take i).all CN=true) (fun i=>l.length - i) 0 ⟨Z,Z,trivial⟩ Z ⟨Acu _,by simp⟩ ?_;rintro i ρ ⟨hi,hall⟩;by_cases hc:i<l.length
 ·have hnext:CN l[i]=true→(l.take (i+1)).all CN=true:=fun h=>by rw[Acx hc,Age,hall];simp[h]
  have hfail:CN l[i]=false→(2:Int)=if l.all CN=true then 0 else 2:=fun h=>by rw[if_neg (by rw[all_false hc h];simp)]
  have hlen:l[i].text.length≤140737488355328:=by
   obtain⟨_,_,_,_,_,_,_,_,_,_,_,h8⟩:=hw';obtain⟨cs,_,_,_,_,h9,_⟩:=h8 i hc;exact h9
  by_cases q1:l[i].kind<0
  ·(refine Ap<|Ab Z<|AR Z<|AK Z<|As Z Z<|AE Z<|Ay<|Ax<|Am<|Es Z<|Ab Z<|A2 (sz:=6) (R:=RSt) (by rfl) (by assumption) (by rfl) Z (by omega) ?_;rintro _ _ _ _ _ ⟨rfl,_,_,_,_⟩;refine Ae Z<|Al Z (Fa (by assumption) Z)<|As Z Z<|Ac Z<|AA Z<|Aq Z Z<|Aq Z Z<|Aq Z Z<|Ah Z Z<|Ac Z<|Aq Z Z<|Aq Z Z<|Aq Z Z<|AF Z<|AN Z<|AN Z<|AN Z<|AN Z<|AN Z<|AN Z<|AN Z<|AF Z<|Ah Z Z<|BK Z<|AD Z<|Bz ?_);apply C7;rfl;exact hfail (by simp only[CN];rw[decide_eq_false (by omega)];rfl)
  by_cases q2:l[i].kind>2
  ·(refine Ap<|Ab Z<|AR Z<|AK Z<|As Z Z<|AE Z<|Ay<|Ax<|Am<|Es Z<|Ab Z<|A2 (sz:=6) (R:=RSt) (by rfl) (by assumption) (by rfl) Z (by omega) ?_;rintro _ _ _ _ _ ⟨rfl,_,_,_,_⟩;refine Ae Z<|Al Z (Fa (by assumption) Z)<|As Z Z<|Ac Z<|Aw Z<|Aa Z<|AR Z<|Aa Z<|Ab Z<|Aa Z<|A2 (sz:=6) (R:=RSt) (by rfl) (by assumption) (by rfl) Z (by omega) ?_;rintro _ _ _ _ _ ⟨rfl,_,_,_,_⟩;refine Aa Z<|Ae Z<|Aa Z<|Al Z (Fa (by assumption) Z)<|Aa Z<|AS Z Z<|Af Z Z<|Ac Z<|AA Z<|Aq Z Z<|Aq Z Z<|Aq Z Z<|AF Z<|AN Z<|AN Z<|AN Z<|AN Z<|AN Z<|AN Z<|AN Z<|AF Z<|Ah Z Z<|BK Z<|AD Z<|Bz ?_);apply C7;rfl;exact hfail (by simp only[CN];rw[decide_eq_false (by omega)];rfl)
  have hk:decide (0≤l[i].kind∧l[i].kind≤2)=true:=decide_eq_true (by omega);by_cases q3:l[i].kind=0
  ·(refine Ap<|Ab Z<|AR Z<|AK Z<|As Z Z<|AE Z<|Ay<|Ax<|Am<|Es Z<|Ab Z<|A2 (sz:=6) (R:=RSt) (by rfl) (by assumption) (by rfl) Z (by omega) ?_;rintro _ _ _ _ _ ⟨rfl,_,_,_,_⟩;refine Ae Z<|Al Z (Fa (by assumption) Z)<|As Z Z<|Ac Z<|Aw Z<|Aa Z<|AR Z<|Aa Z<|Ab Z<|Aa Z<|A2 (sz:=6) (R:=RSt) (by rfl) (by assumption) (by rfl) Z (by omega) ?_;rintro _ _ _ _ _ ⟨rfl,_,_,_,_⟩;refine Aa Z<|Ae Z<|Aa Z<|Al Z (Fa (by assumption) Z)<|Aa Z<|AS Z Z<|Af Z Z<|Ac Z<|Aw Z<|Aa Z<|AR Z<|Aa Z<|Ab Z<|Aa Z<|A2 (sz:=6) (R:=RSt) (by rfl) (by assumption) (by rfl) Z (by omega) ?_;rintro _ _ _ _ _ ⟨rfl,_,_,_,_⟩;refine Aa Z<|Ae Z<|Aa Z<|Al Z (Fa (by assumption) Z)<|Aa Z<|Ai Z Z<|Aa Z<|Ac Z<|AA Z<|Aa Z<|AR Z<|Aa Z<|Ab Z<|Aa Z<|A2 (sz:=6) (R:=RSt) (by rfl) (by assumption) (by rfl) Z (by omega) ?_;rintro _ _ _ _ _ ⟨rfl,_,_,_,_⟩;refine Aa Z<|Ae Z<|Aa Z<|Al Z (Fa (by assumption) Z)<|Aa Z ?_);refine AG Z (h1 ht hlen) ?_;cases hu:u8 l[i].text with
   |true=>
    (refine Aa Z<|Bu Z<|Aa Z<|Ah Z Z<|Af Z Z<|Bh Z<|Ar<|Ab Z<|AY Z Z<|AL Z ?_)
    exact⟨i+1,by omega,⟨Z,int_eq (by omega),trivial⟩,Z,Z,hc,hnext (by simp only[CN,hk,hu];simp)⟩
   |false=>
    (refine Aa Z<|Bu Z<|Aa Z<|Ah Z Z<|Af Z Z<|BK Z<|AD Z<|Bz ?_)
    apply C7;rfl
    exact hfail (by simp only[CN,hk,hu];simp[q3])
  ·(refine Ap<|Ab Z<|AR Z<|AK Z<|As Z Z<|AE Z<|Ay<|Ax<|Am<|Es Z<|Ab Z<|A2 (sz:=6) (R:=RSt) (by rfl) (by assumption) (by rfl) Z (by omega) ?_;rintro _ _ _ _ _ ⟨rfl,_,_,_,_⟩;refine Ae Z<|Al Z (Fa (by assumption) Z)<|As Z Z<|Ac Z<|Aw Z<|Aa Z<|AR Z<|Aa Z<|Ab Z<|Aa Z<|A2 (sz:=6) (R:=RSt) (by rfl) (by assumption) (by rfl) Z (by omega) ?_;rintro _ _ _ _ _ ⟨rfl,_,_,_,_⟩;refine Aa Z<|Ae Z<|Aa Z<|Al Z (Fa (by assumption) Z)<|Aa Z<|AS Z Z<|Af Z Z<|Ac Z<|Aw Z<|Aa Z<|AR Z<|Aa Z<|Ab Z<|Aa Z<|A2 (sz:=6) (R:=RSt) (by rfl) (by assumption) (by rfl) Z (by omega) ?_;rintro _ _ _ _ _ ⟨rfl,_,_,_,_⟩;refine Aa Z<|Ae Z<|Aa Z<|Al Z (Fa (by assumption) Z)<|Aa Z<|Ai Z Z<|Aa Z<|Ac Z<|Aw Z<|Aq Z Z<|Aq Z Z<|Aq Z Z<|AF Z<|Aa Z<|Af Z Z<|Af Z Z<|Bh Z<|Ar<|Ab Z<|AY Z Z<|AL Z ?_);exact⟨i+1,by omega,⟨Z,int_eq (by omega),trivial⟩,Z,Z,hc,hnext (by simp only[CN,hk];simp[q3])⟩
 ·obtain rfl:i=l.length:=by omega
  rw[Aed] at hall;(refine Ap<|Ab Z<|AR Z<|AK Z<|As Z Z<|BM Z<|A6<|AD Z<|Bz ?_);apply C7;rfl;rw[if_pos hall]
def CR(v:V)(l:List St):Int:=if Bf v≠0 then Bf v else if l.all CN=true then 0 else 2
def MU(T:Ad→Prop)(P:Program)(f:FuncId):Prop:=∀{d cs w}{v:V}{l:List St},T d→Az d cs v→RSl 6 RSt d w l→AO P f [.agg cs.toArray,w] d (vZ (CR v l))
def Qr(a0 a1:Nat):Bo:=⟨39,[(.tmp 4)],(sR (o1 2 (.box 0)<|o1 4 (.mv z0) .done) (.seq (sR (o1 8 (.ld (some 6) 2)<|oc 9 a0 [8]<|om 5 9 .done) (sR (om 10 5<|ob 11 .neq 10 z0 .done) (.cond 11 (sR (om 12 5<|om 4 12 .done) .ret) .skip))) (.seq (sR (om 13 1<|oL 14 13<|o1 15 (.mv z0) .done) (.block 0 (.loop (sR (ob 16 .lss 15 14 .done) (.seq (.cond 16 .skip (.exit 0)) (.seq (.block 1 (sR (oI 17 6 13 15<|o1 18 (.ld (some 6) 17)<|o1 7 (.alo (.agg #[(vZ 0),(Ag []),(vZ 0),(vZ 0),(.bool false),(.bool false)]))<|o0 (.st 6 7 18) .done) (sR (oj 19 0 7<|ol 20 19<|ob 21 .lss 20 z0<|om 22 21<|oF 23 22 (.fld 0 7)<|oF 24 22 (.ld none 23)<|oF 25 22 (.bin .gtr 24 z2)<|o1 26 (.pick 22 (.const (.bool true)) 25)<|om 27 26<|oF 28 27 (.fld 0 7)<|oF 29 27 (.ld none 28)<|oF 30 27 (.bin .eql 29 z0)<|gF 31 27 30<|oT 32 31 (.fld 1 7)<|oT 33 31 (.ld none 32)<|oT 34 31 (.call a1 [33])<|oT 35 31 (.un .not 34)<|oF 36 27 (.pick 31 35 (.const (.bool false)))<|o1 37 (.pick 27 (.const (.bool true)) 36) .done) (.cond 37 (sR (o1 4 (.mv z2) .done) .ret) .skip)))) (rG (ob 38 .add 15 z1<|om 15 38 .done)))))))) (sR (o1 4 (.mv z0) .done) .ret))))⟩
def Xv{T:Ad→Prop}(hd:dec P f=some (Qr f1 f2))(h1:Iz T P f1)(h2:Ek T P f2):MU T P f:=by
 intro d cs w v l ht hv hw;have n1:=RSl.BW hw;obtain⟨a,c,rfl⟩:=RSl.val hw;have hw':=hw;refine AO.of' hd (Aca Z) ?_;have hv0:=hv;obtain⟨lv,kv,rfl,ik,im,ie,it,hl,hks⟩:=hv.open;show gwp P _ _ _ _ _;apply Ax;apply Ar;refine Bg (l:=[vZ v.kind,vZ v.m,vZ v.e,Ag v.text,lv,kv]) Z (fun b2 T2=>?_);refine A1 Z<|AP 0 Z Z Z<|AG Z (h1 ht hv0) ?_;by_cases h0:Bf v≠0
 ·(refine Bt Z<|Ab Z<|AB Z Z<|AE Z<|AD Z<|AM Z ?_);apply C7;rfl;rw[CR,if_pos h0]
 rw[CR,if_neg h0];refine Bt Z<|Ab Z<|AB Z Z<|AJ Z<|Ap<|AR Z<|AK Z<|AL Z<|Am<|BP (α:=Nat) (fun i=>[(13,.slice a l.length c),(14,vZ l.length),(15,vZ i)]) (fun i d' L'=>d'=d∧i≤l.length∧(l.take i).all CN=true) (fun i=>l.length - i) 0 ⟨Z,Z,Z,trivial⟩ ⟨Z,Acu _,by simp⟩ ?_;rintro i ρ d' L' ⟨hdd,hi,hall⟩;subst hdd;by_cases hc:i<l.length
 ·have hnext:CN l[i]=true→(l.take (i+1)).all CN=true:=fun h=>by rw[Acx hc,Age,hall];simp[h]
  have hfail:CN l[i]=false→(2:Int)=if l.all CN=true then 0 else 2:=fun h=>by rw[if_neg (by rw[all_false hc h];simp)]
  (refine Aj<|As Z Z<|Cr<|Bn Z<|Ay<|Ax<|Am<|Aj<|A2 (sz:=6) (R:=RSt) (by rfl) (by assumption) (by rfl) Z (by omega) ?_;rintro _ _ _ _ _ ⟨rfl,_,_,_,_⟩;refine CT Z (by assumption) Z<|BV (fun _ _=>?_));rename_i hcs hD ik' hlen is id b7 T7;refine Au 0 [vZ l[i].kind,Ag l[i].text,vZ l[i].src,vZ l[i].dst,.bool l[i].hf,.bool l[i].ht] Z Z Z Z (Aca Z) Z Z ?_;by_cases q1:l[i].kind<0
  ·(refine Br<|AI Z Z Z<|As Z Z<|Ac Z<|AA Z<|Aq Z Z<|AF Z<|Ah Z Z<|Ac Z<|Aq Z Z<|Aq Z Z<|AN Z<|AN Z<|AN Z<|AN Z<|AF Z<|Ah Z Z<|BK Z<|AD Z<|Bz ?_);apply C7;rfl;exact hfail (by simp only[CN];rw[decide_eq_false (by omega)];rfl)
  by_cases q2:l[i].kind>2
  ·(refine Br<|AI Z Z Z<|As Z Z<|Ac Z<|Aw Z<|Aa Z<|Ae Z<|Aa Z<|c_l Z Z Z<|Aa Z<|AS Z Z<|Af Z Z<|Ac Z<|AA Z<|Aq Z Z<|Aq Z Z<|AN Z<|AN Z<|AN Z<|AN Z<|AF Z<|Ah Z Z<|BK Z<|AD Z<|Bz ?_);apply C7;rfl;exact hfail (by simp only[CN];rw[decide_eq_false (by omega)];rfl)
  have hk:decide (0≤l[i].kind∧l[i].kind≤2)=true:=decide_eq_true (by omega);by_cases q3:l[i].kind=0
  ·refine Br<|AI Z Z Z<|As Z Z<|Ac Z<|Aw Z<|Aa Z<|Ae Z<|Aa Z<|c_l Z Z Z<|Aa Z<|AS Z Z<|Af Z Z<|Ac Z<|Aw Z<|Aa Z<|Ae Z<|Aa Z<|c_l Z Z Z<|Aa Z<|Ai Z Z<|Aa Z<|Ac Z<|AA Z<|Aa Z<|Ae Z<|Aa Z<|c_l Z Z Z<|Aa Z<|AG Z (h2 ht hlen) ?_;cases hu:u8 l[i].text with
   |true=>
    (refine Aa Z<|Bu Z<|Aa Z<|Ah Z Z<|Af Z Z<|Bh Z<|Ar<|AY Z Z<|AL Z ?_)
    exact⟨i+1,by omega,⟨Z,Z,int_eq (by omega),trivial⟩,Z,hc,hnext (by simp only[CN,hk,hu];simp)⟩
   |false=>
    (refine Aa Z<|Bu Z<|Aa Z<|Ah Z Z<|Af Z Z<|BK Z<|AD Z<|Bz ?_)
    apply C7;rfl
    exact hfail (by simp only[CN,hk,hu];simp[q3])
  ·(refine Br<|AI Z Z Z<|As Z Z<|Ac Z<|Aw Z<|Aa Z<|Ae Z<|Aa Z<|c_l Z Z Z<|Aa Z<|AS Z Z<|Af Z Z<|Ac Z<|Aw Z<|Aa Z<|Ae Z<|Aa Z<|c_l Z Z Z<|Aa Z<|Ai Z Z<|Aa Z<|Ac Z<|Aw Z<|Aq Z Z<|Aq Z Z<|Aa Z<|Af Z Z<|Af Z Z<|Bh Z<|Ar<|AY Z Z<|AL Z ?_);exact⟨i+1,by omega,⟨Z,Z,int_eq (by omega),trivial⟩,Z,hc,hnext (by simp only[CN,hk];simp[q3])⟩
 ·obtain rfl:i=l.length:=by omega
  rw[Aed] at hall;(refine Aj<|As Z Z<|Cr<|AH Z<|A6<|AD Z<|Bz ?_);apply C7;rfl;rw[if_pos hall]
def Gd(v:V):Prop:=Cf v=true∧BG v≤1000000000
def ID(v:V):1≤BG v:=by have:=CP v;omega
def JV:Gd V.zero:=⟨by decide,by decide⟩
def Lz:∀(l:List V) (n:Nat),BH (l.drop n)≤BH l
 |l,0=>by simp
 |[],n+1=>by simp
 |x::l,n+1=>by have:=Lz l n;simp only[List.drop_succ_cons,BH];omega
def LQ:∀(l:List V) (n:Nat),BH (l.take n)≤BH l
 |l,0=>by simp[BH]
 |[],n+1=>by simp
 |x::l,n+1=>by have:=LQ l n;simp only[List.take_succ_cons,BH];omega
def Vi{x:V}(h:Gd v)(hx:x∈v.list):Gd x:=by
 obtain⟨h1,h2⟩:=h;rw[DZ,Ace,Acn] at h1;have h3:=CP v;have h4:=E6 hx;exact⟨h1.2 x hx,by omega⟩
def Tr(h:Gd v)(i:Nat):Gd (v.list.getD i V.zero):=by
 by_cases hi:i<v.list.length
 ·rw[show v.list.getD i V.zero=v.list[i] by simp[hi]];exact Vi h (Acq hi)
 ·rw[show v.list.getD i V.zero=V.zero by simp[hi]];exact JV
def Fk(h:Gd v):Cz v=true:=by have:=h.1;rw[DZ,Ace] at this;exact this.1
def GY(h:Gd v):v.text.length≤1000000000:=by have:=CP v;have:=h.2;omega
def Hv(h:Gd v)(s:St):Gd (A8 v s).1:=by
 have h3:=CP v;unfold A8;split
 ·exact JV
 split
 ·simp only;split
  ·exact Tr h _
  ·exact JV
 split
 ·simp only[Ln];split
  ·exact Tr h _
  ·exact JV
 split
 ·refine⟨?_,?_⟩
  ·rw[DZ,Ace,Acn];refine⟨by simp[Cz,CI,V.kind,V.m,V.e,V.text,V.list,V.keys,B4,u8,Lib.validD_nil,rising,Ep],fun x hx=>?_⟩
   exact(Vi h (List.mem_of_mem_drop (List.mem_of_mem_take hx))).1
  ·rw[CP];have h5:=LQ (v.list.drop (Bv s v.list.length).1.toNat) ((Bv s v.list.length).2.toNat - (Bv s v.list.length).1.toNat);have h6:=Lz v.list (Bv s v.list.length).1.toNat;have h7:=h.2;show 1+0+0+BH (Ga v.list (Bv s v.list.length))≤1000000000;simp only[Ga];omega
 split
 ·refine⟨?_,?_⟩
  ·rw[DZ,Ace,Acn];refine⟨?_,fun x hx=>by cases hx⟩
   have:=U5 (RP (Fk h)) (Bv s (chs v.text).length).1.toNat ((Bv s (chs v.text).length).2.toNat - (Bv s (chs v.text).length).1.toNat);simp[Cz,CI,V.kind,V.m,V.e,V.text,V.list,V.keys,B4,u8,Ga,this,rising,Ep]
  ·rw[CP];have h5:=KJ (l:=v.text) (Bv s (chs v.text).length).1.toNat ((Bv s (chs v.text).length).2.toNat - (Bv s (chs v.text).length).1.toNat);have h7:=h.2;show 1+(Ga (chs v.text) (Bv s (chs v.text).length)).flatten.length+0+0≤1000000000;simp only[Ga];omega
 ·exact JV
def HE(h:Bf v=0)(hb:BG v≤1000000000):Gd v:=by
 unfold Bf at h;split at h
 ·split at h
  ·exact⟨by assumption,hb⟩
  ·cases h
 ·cases h
def M3{l:List St}(h:CR v l=0):Bf v=0:=by
 unfold CR at h;split at h
 ·exact h
 ·rename_i h2;simpa using h2
section
variable {ρ:Env}{d:Ad}{L:List Ad}
def Im{b t u:Nat}{T cs}{w:V}{e:Int}{h}(i:Nat)(e4:ρ t=pZ b)(hi:L[i]?=some (bx b T cs))(e5:ρ u=vZ e)(hw:Ds cs w h)(hs:Vs d L d [h]):
  Cb [.cell t (some 6),.tmp u] (Ret fun r _ L'=>∃cs' h,r=.tuple #[.agg cs'.toArray,vZ e]∧L'=[h]∧Ds cs' w h) ρ d L:=
 Se (L':=[h]) [.agg cs.toArray,vZ e] ⟨Bc i e4 hi hw.cells.1,Ea e5,trivial⟩ hs ⟨cs,h,Z,Z,hw⟩
def HL:Vs d L d [F0 [emp,emp]]:=
 (Vs.emp.trans (Vs.emp.trans (Vs.Oo (L:=[emp,emp]) (L0:=L)))).trans (Vs.drop ((Acb _).cons_cons _))
end
end
def toK(ks:List (List UInt8))(k:List UInt8):Nat:=if k∈ks then AT ks k+1 else AT ks k
def RQ{ks}(h:rising ks=true)(k:List UInt8):AT ks k≤toK ks k∧toK ks k≤ks.length:=by
 have:=Fi ks k;unfold toK;split
 ·rename_i hm;obtain⟨h1,_⟩:=(mem_iff h).1 hm;omega
 ·omega
def C3(v:V)(k:List UInt8)(y:V):V:=.mk 6 0 0 [] (v.list.take (AT v.keys k)++[y]++v.list.drop (toK v.keys k)) (v.keys.take (AT v.keys k)++[k]++v.keys.drop (toK v.keys k))
def Pv(P:Program)(f:FuncId):Prop:=∀{d cs es}{v y:V}{k},Az d cs v→rising v.keys=true→v.keys.length=v.list.length→v.keys.length≤1000000000→k.length≤140737488355328→Az d es y→
 Be P f [.agg cs.toArray,Ag k,.agg es.toArray] d [] (Ret fun r d' L'=>L'=[]∧∃cs',r=.agg cs'.toArray∧Az d' cs' (C3 v k y))
def U2{ρ d L}{b t:Nat}{T cs}{w:V}(i:Nat)(e4:ρ t=pZ b)(hi:L[i]?=some (bx b T cs))(hw:Az d cs w):
  Cb [.cell t (some 6)] (Ret fun r d' L'=>L'=[]∧∃cs',r=.agg cs'.toArray∧Az d' cs' w) ρ d L:=
 Ba (L':=[]) [.agg cs.toArray] ⟨Bc i e4 hi (Az.len hw),trivial⟩ (Acb _) ⟨Z,cs,Z,hw⟩
def Qq(a0 a1 a2:Nat):Bo:=⟨36,[(.cell 6 (some 6))],(sR (o1 3 (.box 0)<|o1 5 (.box 2)<|o1 6 (.alo (.agg #[(vZ 0),(vZ 0),(vZ 0),(Ag []),nV,nV])) .done) (sR (oj 11 5 3<|ol 12 11<|om 13 1<|oc 14 a0 [12,13]<|om 10 14<|oe 15 10 0<|oe 16 10 1<|om 7 15<|om 8 16 .done) (sR (om 17 7<|om 9 17 .done) (.seq (sR (om 18 8 .done) (.cond 18 (rG (om 19 9<|ob 20 .add 19 z1<|om 9 20 .done)) .skip)) (.seq (.reg true (p1 21 (.fld 5 3)<|pl 22 21<|pm 23 7<|pm 24 9<|pm 25 1<|p1 28 (.fld 4 3)<|pl 29 28<|pm 30 7<|pm 31 9<|p1 32 (.ld (some 6) 5) (.alt ⟨(some 26),none,(.bsl 1 1 [(Ag [])] [(0,25)])⟩ (.alt ⟨(some 27),none,(.call a1 [22,23,24,26])⟩ (o1 33 (.bsl 1 6 [(vZ 0),(vZ 0),(vZ 0),(Ag []),nV,nV] [(0,32)]) (oc 34 a2 [29,30,31,33] (p1 35 (.bld [(0,1),(1,2),(3,1),(4,1),(5,1)] [(vZ 0),(vZ 0),(vZ 0),(Ag []),nV,nV] [(0,(kZ 6)),(4,27),(3,34)]) (.bar (o0 (.st 6 6 35) .done))))) (o1 33 (.bsl 1 6 [(vZ 0),(vZ 0),(vZ 0),(Ag []),nV,nV] [(0,32)]) (oc 27 a1 [22,23,24,26] (oc 34 a2 [29,30,31,33] (p1 35 (.bld [(0,1),(1,2),(3,1),(4,1),(5,1)] [(vZ 0),(vZ 0),(vZ 0),(Ag []),nV,nV] [(0,(kZ 6)),(4,27),(3,34)]) (.bar (o0 (.st 6 6 35) .done))))))) (o1 33 (.bsl 1 6 [(vZ 0),(vZ 0),(vZ 0),(Ag []),nV,nV] [(0,32)]) (o1 26 (.bsl 1 1 [(Ag [])] [(0,25)]) (oc 27 a1 [22,23,24,26] (oc 34 a2 [29,30,31,33] (p1 35 (.bld [(0,1),(1,2),(3,1),(4,1),(5,1)] [(vZ 0),(vZ 0),(vZ 0),(Ag []),nV,nV] [(0,(kZ 6)),(4,27),(3,34)]) (.bar (o0 (.st 6 6 35) .done)))))))))) .ret)))))⟩
set_option maxHeartbeats 1000000 in
def WQ{P:Program}{f f1 f2 f3:FuncId}(hd:dec P f=some (Qq f1 f2 f3))(h1:Ja P f1)(h2:Ih 1 A9 P f2)(h3:Ih 6 Az P f3):Pv P f:=by
 intro d cs es v y k hv hr hlen hb hk hy;refine Cq hd (Aca Z) ?_;have htk:=RQ hr k;obtain⟨lv,kv,rfl,ik,im,ie,it,hl,hks⟩:=hv.open;obtain⟨la,lc,rfl⟩:=RSl.val hl;obtain⟨ka,kc,rfl⟩:=RSl.val hks;obtain⟨y0,y1,y2,y3,y4,y5,rfl⟩:=six hy.len;show gwp P _ _ _ _ _;apply Ax;apply Ar;refine Bg (l:=[vZ v.kind,vZ v.m,vZ v.e,Ag v.text,.slice la v.list.length lc,.slice ka v.keys.length kc]) Z (fun b3 T3=>?_);refine Bg (l:=[y0,y1,y2,y3,y4,y5]) Z (fun b5 T5=>?_);(refine BV (fun _ _=>Av ?_));rename_i b6 T6;apply Ax;apply Ar;(refine Ae Z<|Al Z (An 2 Z Z)<|Ak Z ?_);refine AG Z (h1 hks hr) ?_;(refine Bm Z<|Bx Z Z Z Z<|Ab Z<|Ao Z ?_);apply Ax;apply Ar;(refine Ab Z<|AL Z ?_);refine CJ (fun ρ d' L'=>d'=d∧AZ ρ [(1,Ag k),(3,pZ b3),(5,pZ b5),(6,pZ b6),(7,vZ (AT v.keys k:Nat)),(9,vZ (toK v.keys k:Nat))]∧
  L'=[bx b6 T6 [vZ 0,vZ 0,vZ 0,Ag [],nV,nV],bx b5 T5 [y0,y1,y2,y3,y4,y5],bx b3 T3 [vZ v.kind,vZ v.m,vZ v.e,Ag v.text,.slice la v.list.length lc,.slice ka v.keys.length kc]]) ?_ ?_
 ·have n2:=RSl.BW hks;have hlk:=Fi v.keys k;by_cases hm:k∈v.keys
  ·(refine Aj<|Ao Z<|Bn Z<|Ar<|Ab Z<|AY Z Z<|AL Z ?_);exact⟨Z,⟨Z,Z,Z,Z,Z,int_eq (by simp[toK,hm]),trivial⟩,Z⟩
  ·(refine Aj<|Ao Z<|AH Z<|Ay ?_);exact⟨Z,⟨Z,Z,Z,Z,Z,int_eq (by simp[toK,hm]),trivial⟩,Z⟩
 rintro ρ d' L' ⟨hdd,hsl,hL⟩;subst hdd;subst hL;refine A4 _ hsl ?_;clear hsl;generalize hlo:AT v.keys k=lo at*;generalize hto:toK v.keys k=tq at*;have hF:C3 v k y=.mk 6 0 0 [] (v.list.take lo++[y]++v.list.drop tq) (v.keys.take lo++[k]++v.keys.drop tq):=by rw[C3,hlo,hto]
 rw[hF];have kone:∀{d:Ad}{b:Nat}{T:TypeId},Le (bx b T [Ag k]) d→RSl 1 A9 d (.slice (some ⟨b,0,none⟩) 1 1) [k]:=fun h=>(AQ.G8 (sz:=1) (R:=A9) (d:=emp) Z ⟨Z,hk⟩).rsl (R:=A9) CL (by omega) (fun _ _ h=>h.elim) h;have yone:∀{d d2:Ad}{b:Nat}{T:TypeId},Az d [y0,y1,y2,y3,y4,y5] y→Le d d2→Le (bx b T [y0,y1,y2,y3,y4,y5]) d2→RSl 6 Az d2 (.slice (some ⟨b,0,none⟩) 1 1) [y]:=fun h hl hg=>(AQ.G8 (sz:=6) (R:=Az) Z h).rsl (R:=Az) Cn (by omega) hl hg;apply Ax;refine Bd<|Ae Z<|Al Z (An 2 Z Z)<|Ab Z<|Ab Z<|Ak Z<|Ae Z<|Al Z (An 2 Z Z)<|Ab Z<|Ab Z<|AP 1 Z Z Z<|G9 ?_ ?_
 ·refine Ff (v0:=Ag k) Z Z (fun b26 T26=>?_);refine G9 ?_ ?_
  ·refine DI (fun d1 hl1 hg1=>?_);refine Bi Z (h2 (B9.mono hks hl1) (kone hg1) htk.1 htk.2 (by simp;omega)) (fun r d2 L2 hl2 ⟨hL,hr2⟩=>?_);subst hL;obtain⟨ra,rc,rfl⟩:=RSl.val hr2;refine FC Z Z (fun b33 T33=>?_);refine DI (fun d3 hl3 hg3=>?_);refine Bi Z (h3 (Cw.mono hl ((hl1.trans hl2).trans hl3)) (yone (Az.mono (hl1.trans hl2) hy) hl3 hg3) htk.1 (by omega) (by simp;omega)) (fun r d4 L4 hl4 ⟨hL,hr4⟩=>?_);subst hL;obtain⟨sa,sc,rfl⟩:=RSl.val hr4;refine Qu Z Z Z<|B0<|Au 0 [vZ 6,vZ 0,vZ 0,Ag [],.slice sa _ sc,.slice ra _ rc] Z Z Z Z (Aca Z) Z Z<|Bz<|U2 0 Z Z (Az.close (v:=.mk 6 0 0 [] (v.list.take lo++[y]++v.list.drop tq) (v.keys.take lo++[k]++v.keys.drop tq)) HM BY BY (by simp) hr4 (B9.mono hr2 (hl3.trans hl4)))
  ·refine DI (fun d1 hl1 hg1=>?_);refine FC Z Z (fun b33 T33=>?_);refine DI (fun d2 hl2 hg2=>?_);refine Bi Z (h2 (B9.mono hks (hl1.trans hl2)) (B9.mono (kone hg1) hl2) htk.1 htk.2 (by simp;omega)) (fun r d3 L2 hl3 ⟨hL,hr2⟩=>?_);subst hL;obtain⟨ra,rc,rfl⟩:=RSl.val hr2;refine Bi Z (h3 (Cw.mono hl ((hl1.trans hl2).trans hl3)) (Cw.mono (yone (Az.mono hl1 hy) hl2 hg2) hl3) htk.1 (by omega) (by simp;omega)) (fun r d4 L4 hl4 ⟨hL,hr4⟩=>?_);subst hL;obtain⟨sa,sc,rfl⟩:=RSl.val hr4;refine Qu Z Z Z<|B0<|Au 0 [vZ 6,vZ 0,vZ 0,Ag [],.slice sa _ sc,.slice ra _ rc] Z Z Z Z (Aca Z) Z Z<|Bz<|U2 0 Z Z (Az.close (v:=.mk 6 0 0 [] (v.list.take lo++[y]++v.list.drop tq) (v.keys.take lo++[k]++v.keys.drop tq)) HM BY BY (by simp) hr4 (B9.mono hr2 hl4))
 ·refine FC Z Z (fun b33 T33=>?_);refine DI (fun d1 hl1 hg1=>?_);refine Ff (v0:=Ag k) Z Z (fun b26 T26=>?_);refine DI (fun d2 hl2 hg2=>?_);refine Bi Z (h2 (B9.mono hks (hl1.trans hl2)) (kone hg2) htk.1 htk.2 (by simp;omega)) (fun r d3 L2 hl3 ⟨hL,hr2⟩=>?_);subst hL;obtain⟨ra,rc,rfl⟩:=RSl.val hr2;refine Bi Z (h3 (Cw.mono hl ((hl1.trans hl2).trans hl3)) (Cw.mono (yone hy hl1 hg1) (hl2.trans hl3)) htk.1 (by omega) (by simp;omega)) (fun r d4 L4 hl4 ⟨hL,hr4⟩=>?_);subst hL;obtain⟨sa,sc,rfl⟩:=RSl.val hr4;refine Qu Z Z Z<|B0<|Au 0 [vZ 6,vZ 0,vZ 0,Ag [],.slice sa _ sc,.slice ra _ rc] Z Z Z Z (Aca Z) Z Z<|Bz<|U2 0 Z Z (Az.close (v:=.mk 6 0 0 [] (v.list.take lo++[y]++v.list.drop tq) (v.keys.take lo++[k]++v.keys.drop tq)) HM BY BY (by simp) hr4 (B9.mono hr2 hl4))
def Yw{n i:Nat}(hi:i<n):chunk (BZ z6 (n*6)) i 6=z6:=by
 have hl:(BZ z6 (n*6)).length=n*6:=by simp[BZ]
 apply Aes;intro j;by_cases hj:j<6
 ·rw[chunk,Ada hj,Aeg,BZ,Aej,List.getElem?_range (by omega)];have e:(i*6+j) % z6.length=j:=by show(i*6+j) % 6=j;omega
  simp only[Aeh,e];obtain rfl|rfl|rfl|rfl|rfl|rfl:j=0∨j=1∨j=2∨j=3∨j=4∨j=5:=by omega
  all_goals rfl
 ·rw[Acz (by rw[Qe hl hi];omega),Acz (by simp[z6];omega)]
def PU{d}{b n:Nat}{T}(hn:n≤140737488355328)(h:Le (bx b T (BZ z6 (n*6))) d):RSl 6 Az d (.slice (some ⟨b,0,none⟩) n n) (Adi n V.zero):=by
 have o:B5 6 (.slice (some ⟨b,0,none⟩) n n) n (BZ z6 (n*6)) (bx b T (BZ z6 (n*6))):=B5.lit (by simp[BZ]) hn;refine o.rsl h (by simp) (by omega) (fun i hi=>?_);show Az d (chunk (BZ z6 (n*6)) i 6) _;rw[Yw (by simpa using hi),List.getElem_replicate];exact Az.zero
def NG(h:Cz v=true)(hk:v.kind=0∨v.kind=6):v.keys.length=v.list.length:=by
 rcases hk with hk|hk
 ·have hb:CI v=true:=by simp[Cz] at h;exact h.1.1.1.1
  obtain⟨k,m,e,t,l,ks⟩:=v;have hk:k=0:=hk;subst hk;simp[CI,V.kind,V.m,V.e,V.text,V.list,V.keys] at hb;simp[V.keys,V.list,hb]
 ·exact GV h hk
def C9(l:List V)(n:Nat):List V:=l++Adi (n - l.length) V.zero
def Cy(v:V)(s:St)(y:V):V×Int:=
 if s.kind=0∧(v.kind=0∨v.kind=6) then(C3 v s.text y,0)
 else if s.kind=1∧(v.kind=0∨v.kind=5) then
  (if BL s.src v.list.length<0∨4095<BL s.src v.list.length then(V.zero,4)
  else(.mk 5 0 0 [] ((C9 v.list ((BL s.src v.list.length).toNat+1)).take (BL s.src v.list.length).toNat++[y]++(C9 v.list ((BL s.src v.list.length).toNat+1)).drop ((BL s.src v.list.length).toNat+1)) [],0))
 else if s.kind=2∧(v.kind=0∨v.kind=5)∧y.kind=5 then(.mk 5 0 0 [] (v.list.take (Bv s v.list.length).1.toNat++y.list++v.list.drop (Bv s v.list.length).2.toNat) [],0)
 else(V.zero,80)
def Qx(P:Program)(f:FuncId):Prop:=∀{d cs ds es}{v y:V}{s:St},Az d cs v→Cz v=true→RSt d ds s→Az d es y→C8 v+C8 y≤900000000→
 Be P f [.agg cs.toArray,.agg ds.toArray,.agg es.toArray] d [] (Ret fun r d' L'=>L'=[]∧∃cs',r=.tuple #[.agg cs'.toArray,vZ (Cy v s y).2]∧Az d' cs' (Cy v s y).1)
def SG(a0 a1 a2 a3:Nat):Bo:=⟨118,[(.cell 6 (some 6)),(.tmp 7)],(sR (o1 3 (.box 0)<|o1 4 (.box 1)<|o1 5 (.box 2)<|o1 6 (.alo (.agg #[(vZ 0),(vZ 0),(vZ 0),(Ag []),nV,nV]))<|o1 7 (.mv z0) .done) (sR (oj 14 0 3<|ol 15 14<|ob 16 .eql 15 z0<|om 8 16 .done) (.seq (.block 0 (sR (oj 18 0 4<|ol 19 18<|ob 20 .eql 19 z0<|om 21 20<|gT 22 21 8<|gT 23 21 22<|oF 24 23 (.fld 0 3)<|oF 25 23 (.ld none 24)<|oF 26 23 (.bin .eql 25 (kZ 6))<|oT 27 21 (.pick 23 (.const (.bool true)) 26)<|gP 28 21 27<|om 17 28 .done) (.cond 17 (sR (o1 29 (.ld (some 6) 3)<|oj 30 1 4<|ol 31 30<|o1 32 (.ld (some 6) 5)<|oc 33 a0 [29,31,32]<|o0 (.st 6 6 33)<|o1 7 (.mv z0) .done) .ret) (sR (oj 35 0 4<|ol 36 35<|ob 37 .eql 36 z1<|om 38 37<|gT 39 38 8<|gT 40 38 39<|oF 41 40 (.fld 0 3)<|oF 42 40 (.ld none 41)<|oF 43 40 (.bin .eql 42 (kZ 5))<|oT 44 38 (.pick 40 (.const (.bool true)) 43)<|gP 45 38 44<|om 34 45 .done) (.cond 34 (sR (oj 46 2 4<|ol 47 46<|oj 48 4 3<|ol 49 48<|oL 50 49<|oc 51 a1 [47,50]<|om 9 51 .done) (.seq (sR (om 52 9<|ob 53 .lss 52 z0<|om 54 53<|gF 55 54 9<|oF 56 54 (.bin .gtr 55 (kZ 4095))<|o1 57 (.pick 54 (.const (.bool true)) 56) .done) (.cond 57 (sR (o1 58 (.bld [(0,1),(1,2),(3,1),(4,1),(5,1)] [(vZ 0),(vZ 0),(vZ 0),(Ag []),nV,nV] [])<|o0 (.st 6 6 58)<|o1 7 (.mv (kZ 4)) .done) .ret) .skip)) (sR (oj 59 4 3<|ol 60 59<|om 10 60 .done) (.seq (sR (om 61 9<|ob 62 .add 61 z1<|om 63 10<|oL 64 63<|ob 65 .sub 62 64<|om 11 65 .done) (sR (om 66 11<|ob 67 .gtr 66 z0 .done) (.cond 67 (rG (om 68 10<|om 69 10<|oL 70 69<|om 71 10<|oL 72 71<|om 73 11<|o1 74 (.mks 6 88 [(vZ 0),(vZ 0),(vZ 0),(Ag []),nV,nV] 73 73)<|oc 75 a2 [68,70,72,74]<|om 10 75 .done)) .skip))) (sR (om 76 10<|om 77 9<|om 78 9<|ob 79 .add 78 z1<|o1 80 (.ld (some 6) 5)<|o1 81 (.bsl 1 6 [(vZ 0),(vZ 0),(vZ 0),(Ag []),nV,nV] [(0,80)])<|oc 82 a2 [76,77,79,81]<|o1 83 (.bld [(0,1),(1,2),(3,1),(4,1),(5,1)] [(vZ 0),(vZ 0),(vZ 0),(Ag []),nV,nV] [(0,(kZ 5)),(3,82)])<|o0 (.st 6 6 83)<|o1 7 (.mv z0) .done) .ret))))) (sR (oj 85 0 4<|ol 86 85<|ob 87 .eql 86 z2<|om 88 87<|gT 89 88 8<|gT 90 88 89<|oF 91 90 (.fld 0 3)<|oF 92 90 (.ld none 91)<|oF 93 90 (.bin .eql 92 (kZ 5))<|oT 94 88 (.pick 90 (.const (.bool true)) 93)<|gP 95 88 94<|om 96 95<|oT 97 96 (.fld 0 5)<|oT 98 96 (.ld none 97)<|oT 99 96 (.bin .eql 98 (kZ 5))<|gP 100 96 99<|om 84 100 .done) (.cond 84 (sR (o1 102 (.ld (some 6) 4)<|oj 103 4 3<|ol 104 103<|oL 105 104<|oc 106 a3 [102,105]<|om 101 106<|oe 107 101 0<|oe 108 101 1<|om 12 107<|om 13 108 .done) (sR (oj 109 4 3<|ol 110 109<|om 111 12<|om 112 13<|oj 113 4 5<|ol 114 113<|oc 115 a2 [110,111,112,114]<|o1 116 (.bld [(0,1),(1,2),(3,1),(4,1),(5,1)] [(vZ 0),(vZ 0),(vZ 0),(Ag []),nV,nV] [(0,(kZ 5)),(3,115)])<|o0 (.st 6 6 116)<|o1 7 (.mv z0) .done) .ret)) .skip))))))) (sR (o1 117 (.bld [(0,1),(1,2),(3,1),(4,1),(5,1)] [(vZ 0),(vZ 0),(vZ 0),(Ag []),nV,nV] [])<|o0 (.st 6 6 117)<|o1 7 (.mv (kZ 80)) .done) .ret))))⟩
set_option maxHeartbeats 2000000 in
def Aax{P:Program}{f f1 f2 f3 f4:FuncId}(hd:dec P f=some (SG f1 f2 f3 f4))(h1:Pv P f1)(h2:IB P f2)(h3:Ih 6 Az P f3)(h4:GB P f4):Qx P f:=by
 intro d cs ds es v y s hv hone hs hy hb;refine Cq hd (Aca Z) ?_;have hr:=Ec hone;have b1:=GN (v:=v);have b2':=IX (v:=v);have b3':=GN (v:=y);obtain⟨w,e,hF⟩:∃w e,Cy v s y=(w,e):=⟨_,_,Z⟩
 rw[hF];have hs':=hs;obtain⟨hds,ik',it',is,id⟩:=hs';subst hds;have hv0:=hv;have hy0:=hy;obtain⟨lv,kv,rfl,ik,im,ie,it,hl,hks⟩:=hv.open;obtain⟨la,lc,rfl⟩:=RSl.val hl;have hl':RSl 6 Az d (.slice la v.list.length lc) v.list:=hl;obtain⟨yl,yk,rfl,yik,_,_,_,yhl,_⟩:=hy.open;obtain⟨ya,yc,rfl⟩:=RSl.val yhl;have yone:∀{d d2:Ad}{b:Nat}{T:TypeId},Az d [vZ y.kind,vZ y.m,vZ y.e,Ag y.text,.slice ya y.list.length yc,yk] y→Le d d2→Le (bx b T [vZ y.kind,vZ y.m,vZ y.e,Ag y.text,.slice ya y.list.length yc,yk]) d2→RSl 6 Az d2 (.slice (some ⟨b,0,none⟩) 1 1) [y]:=
  fun h hl hg=>(AQ.G8 (sz:=6) (R:=Az) Z h).rsl (R:=Az) Cn (by omega) hl hg
 show gwp P _ _ _ _ _;apply Ax;apply Ar;refine Bg (l:=[vZ v.kind,vZ v.m,vZ v.e,Ag v.text,.slice la v.list.length lc,kv]) Z (fun b3 T3=>?_);refine Bg (l:=[vZ s.kind,Ag s.text,vZ s.src,vZ s.dst,.bool s.hf,.bool s.ht]) Z (fun b4 T4=>?_);refine Bg (l:=[vZ y.kind,vZ y.m,vZ y.e,Ag y.text,.slice ya y.list.length yc,yk]) Z (fun b5 T5=>?_);(refine BV (fun _ _=>AL Z ?_));rename_i b6 T6;by_cases s0:s.kind=0
 ·by_cases hk:v.kind=0∨v.kind=6
  ·rw[Cy,if_pos ⟨s0,hk⟩] at hF;cases hF;have hlens:=NG hone hk;by_cases k0:v.kind=0
   ·refine Aj<|Ae Z<|Al Z (An 3 Z Z)<|Ai Z Z<|Ao Z<|Ax<|Am<|Aj<|Ae Z<|Al Z (An 2 Z Z)<|Ai Z Z<|Ac Z<|AA Z<|Aa Z<|Ac Z<|Aa Z<|Ac Z<|AA Z<|Aq Z Z<|AF Z<|Aa Z<|Ah Z Z<|Ah Z Z<|Ao Z<|Ci Z<|Aj<|AP 3 Z Z Z<|Ae Z<|Al Z (An 2 Z Z)<|AP 1 Z Z Z<|Bi Z (h1 hv0 hr hlens (by omega) it' hy0) (fun r d2 L2 hl2 ⟨hL,cs',hr',hR'⟩=>?_);subst hL;subst hr';obtain⟨e0,e1,e2,e3,e4,e5,rfl⟩:=six hR'.len;refine Au 0 [e0,e1,e2,e3,e4,e5] Z Z Z Z (Aca Z) (AW _ _ _ hR') Z<|AM Z<|By 0 Z Z Z hR'
   by_cases k6:v.kind≠0
   ·refine Aj<|Ae Z<|Al Z (An 3 Z Z)<|Ai Z Z<|Ao Z<|Ax<|Am<|Aj<|Ae Z<|Al Z (An 2 Z Z)<|Ai Z Z<|Ac Z<|AA Z<|Aa Z<|Ac Z<|Aa Z<|Ac Z<|Aw Z<|Aa Z<|Ae Z<|Aa Z<|Al Z (An 3 Z Z)<|Aa Z<|Ai Z Z<|Aa Z<|Af Z Z<|Ah Z Z<|Ao Z<|Bn Z<|Aj<|AP 3 Z Z Z<|Ae Z<|Al Z (An 2 Z Z)<|AP 1 Z Z Z<|Bi Z (h1 hv0 hr hlens (by omega) it' hy0) (fun r d2 L2 hl2 ⟨hL,cs',hr',hR'⟩=>?_);subst hL;subst hr';obtain⟨e0,e1,e2,e3,e4,e5,rfl⟩:=six hR'.len;refine Au 0 [e0,e1,e2,e3,e4,e5] Z Z Z Z (Aca Z) (AW _ _ _ hR') Z<|AM Z<|By 0 Z Z Z hR'
   omega
  ·rw[Cy,if_neg (fun h=>hk h.2),if_neg (fun h=>by omega),if_neg (fun h=>by omega)] at hF;cases hF;refine Aj<|Ae Z<|Al Z (An 3 Z Z)<|Ai Z Z<|Ao Z<|Ax<|Am<|Aj<|Ae Z<|Al Z (An 2 Z Z)<|Ai Z Z<|Ac Z<|AA Z<|Aa Z<|Ac Z<|Aa Z<|Ac Z<|Aw Z<|Aa Z<|Ae Z<|Aa Z<|Al Z (An 3 Z Z)<|Aa Z<|Ai Z Z<|Aa Z<|Af Z Z<|Ah Z Z<|Ao Z<|AH Z<|Aj<|Ae Z<|Al Z (An 2 Z Z)<|Ai Z Z<|Ac Z<|Aw Z<|Aq Z Z<|AN Z<|AN Z<|AN Z<|AF Z<|Af Z Z<|Ao Z<|A7 Z<|Aj<|Ae Z<|Al Z (An 2 Z Z)<|Ai Z Z<|Ac Z<|Aw Z<|Aq Z Z<|AN Z<|AN Z<|AN Z<|AF Z<|Af Z Z<|Ac Z<|Aq Z Z<|AF Z<|Af Z Z<|Ao Z<|A7 Z<|Ay<|Aj<|Bs<|Au 0 [vZ 0,vZ 0,vZ 0,Ag [],nV,nV] Z Z Z Z (Aca Z) Z Z<|AM Z<|By 0 Z Z Z Az.zero
 by_cases s1:s.kind=1
 ·by_cases hk:v.kind=0∨v.kind=5
  ·rw[Cy,if_neg (fun h=>s0 h.1),if_pos ⟨s1,hk⟩] at hF;obtain⟨p,hp⟩:∃p,BL s.src v.list.length=p:=⟨_,Z⟩
   rw[hp] at hF;by_cases k0:v.kind=0
   ·refine Aj<|Ae Z<|Al Z (An 3 Z Z)<|Ai Z Z<|Ao Z<|Ax<|Am<|Aj<|Ae Z<|Al Z (An 2 Z Z)<|Ai Z Z<|Ac Z<|Aw Z<|Aq Z Z<|AN Z<|AN Z<|AN Z<|AF Z<|Af Z Z<|Ao Z<|A7 Z<|Aj<|Ae Z<|Al Z (An 2 Z Z)<|Ai Z Z<|Ac Z<|AA Z<|Aa Z<|Ac Z<|Aa Z<|Ac Z<|AA Z<|Aq Z Z<|AF Z<|Aa Z<|Ah Z Z<|Ah Z Z<|Ao Z<|Ci Z<|Aj<|Ae Z<|Al Z (An 2 Z Z)<|Ae Z<|Al Z (An 3 Z Z)<|AK Z<|AG Z (h2 is (by omega) (by omega)) ?_;rw[hp];by_cases q0:p<0
    ·rw[if_pos (.inl q0)] at hF;cases hF;refine A1 Z<|Ab Z<|As Z Z<|Ac Z<|AA Z<|Aq Z Z<|Ah Z Z<|BK Z<|Aj<|Bs<|Au 0 [vZ 0,vZ 0,vZ 0,Ag [],nV,nV] Z Z Z Z (Aca Z) Z Z<|AM Z<|By 0 Z Z Z Az.zero
    by_cases q1:p>4095
    ·rw[if_pos (.inr q1)] at hF;cases hF;refine A1 Z<|Ab Z<|As Z Z<|Ac Z<|Aw Z<|Aa Z<|Ab Z<|Aa Z<|AS Z Z<|Af Z Z<|AE Z<|Aj<|Bs<|Au 0 [vZ 0,vZ 0,vZ 0,Ag [],nV,nV] Z Z Z Z (Aca Z) Z Z<|AM Z<|By 0 Z Z Z Az.zero
    rw[if_neg (fun h=>by omega)] at hF;cases hF;obtain⟨n,rfl⟩:∃n:Nat,p=(n:Int):=⟨p.toNat,by omega⟩
    simp only[Adc];have hpl:(C9 v.list (n+1)).length=v.list.length+(n+1 - v.list.length):=by simp[C9]
    by_cases q2:v.list.length<n+1
    ·refine A1 Z<|Ab Z<|As Z Z<|Ac Z<|Aw Z<|Aa Z<|Ab Z<|Aa Z<|AS Z Z<|Af Z Z<|AJ Z<|Aj<|Ae Z<|Al Z (An 3 Z Z)<|AR Z<|Bw<|Ab Z<|AY Z Z<|AR Z<|AK Z<|DQ Z Z<|Bt Z<|Ab Z<|AS Z Z<|AE Z<|Ar<|AR Z<|AR Z<|AK Z<|AR Z<|AK Z<|Ab Z<|QG (n:=n+1 - v.list.length) (c:=n+1 - v.list.length) (int_eq (by omega)) (int_eq (by omega)) (Ack _) (by omega) (by omega) (fun b74 T74=>?_);refine DI (fun d1 hl1 hg1=>?_);have hz:=PU (by omega) hg1;refine Bi Z (h3 (Cw.mono hl hl1) hz (Ack _) (Ack _) (by simp;omega)) (fun r d2 L2 hl2 ⟨hL,hr2⟩=>?_);subst hL;have hr3:RSl 6 Az d2 r (C9 v.list (n+1)):=by rw[Aed,Ahf,Ado] at hr2;exact hr2
     obtain⟨ra,rc,rfl⟩:=RSl.val hr3;refine AR Z<|Br<|AR Z<|Ab Z<|Ab Z<|AY Z Z<|AP 1 Z Z Z<|FC Z Z (fun b81 T81=>?_);refine DI (fun d3 hl3 hg3=>?_);refine Bi Z (h3 (i:=n) (j:=n+1) (Cw.mono hr3 hl3) (yone (Az.mono (hl1.trans hl2) hy0) hl3 hg3) (by omega) (by omega) (by simp only[Adf];omega)) (fun r d4 L4 hl4 ⟨hL,hr4⟩=>?_);subst hL;obtain⟨sa,sc,rfl⟩:=RSl.val hr4;(apply EI;rfl;rfl);refine Au 0 [vZ 5,vZ 0,vZ 0,Ag [],.slice sa _ sc,nV] Z Z Z Z (Aca Z) Z Z<|AM Z<|By 0 Z Z Z (Az.close (v:=.mk 5 0 0 [] ((C9 v.list (n+1)).take n++[y]++(C9 v.list (n+1)).drop (n+1)) []) FX BY BY (by simp) hr4 RSl.nil)
    ·have hpe:C9 v.list (n+1)=v.list:=by simp[C9,show n+1 - v.list.length=0 by omega]
     rw[hpe];refine A1 Z<|Ab Z<|As Z Z<|Ac Z<|Aw Z<|Aa Z<|Ab Z<|Aa Z<|AS Z Z<|Af Z Z<|AJ Z<|Aj<|Ae Z<|Al Z (An 3 Z Z)<|AR Z<|Bw<|Ab Z<|AY Z Z<|AR Z<|AK Z<|DQ Z Z<|Bt Z<|Ab Z<|AS Z Z<|AJ Z<|Es Z<|Ab Z<|Ab Z<|AY Z Z<|AP 1 Z Z Z<|FC Z Z (fun b81 T81=>?_);refine DI (fun d3 hl3 hg3=>?_);refine Bi Z (h3 (i:=n) (j:=n+1) (Cw.mono hl hl3) (yone hy0 hl3 hg3) (by omega) (by omega) (by simp only[Adf];omega)) (fun r d4 L4 hl4 ⟨hL,hr4⟩=>?_);subst hL;obtain⟨sa,sc,rfl⟩:=RSl.val hr4;(apply EI;rfl;rfl);refine Au 0 [vZ 5,vZ 0,vZ 0,Ag [],.slice sa _ sc,nV] Z Z Z Z (Aca Z) Z Z<|AM Z<|By 0 Z Z Z (Az.close (v:=.mk 5 0 0 [] (v.list.take n++[y]++v.list.drop (n+1)) []) FX BY BY (by simp) hr4 RSl.nil)
   by_cases k6:v.kind≠0
   ·refine Aj<|Ae Z<|Al Z (An 3 Z Z)<|Ai Z Z<|Ao Z<|Ax<|Am<|Aj<|Ae Z<|Al Z (An 2 Z Z)<|Ai Z Z<|Ac Z<|Aw Z<|Aq Z Z<|AN Z<|AN Z<|AN Z<|AF Z<|Af Z Z<|Ao Z<|A7 Z<|Aj<|Ae Z<|Al Z (An 2 Z Z)<|Ai Z Z<|Ac Z<|AA Z<|Aa Z<|Ac Z<|Aa Z<|Ac Z<|Aw Z<|Aa Z<|Ae Z<|Aa Z<|Al Z (An 3 Z Z)<|Aa Z<|Ai Z Z<|Aa Z<|Af Z Z<|Ah Z Z<|Ao Z<|Bn Z<|Aj<|Ae Z<|Al Z (An 2 Z Z)<|Ae Z<|Al Z (An 3 Z Z)<|AK Z<|AG Z (h2 is (by omega) (by omega)) ?_;rw[hp];by_cases q0:p<0
    ·rw[if_pos (.inl q0)] at hF;cases hF;refine A1 Z<|Ab Z<|As Z Z<|Ac Z<|AA Z<|Aq Z Z<|Ah Z Z<|BK Z<|Aj<|Bs<|Au 0 [vZ 0,vZ 0,vZ 0,Ag [],nV,nV] Z Z Z Z (Aca Z) Z Z<|AM Z<|By 0 Z Z Z Az.zero
    by_cases q1:p>4095
    ·rw[if_pos (.inr q1)] at hF;cases hF;refine A1 Z<|Ab Z<|As Z Z<|Ac Z<|Aw Z<|Aa Z<|Ab Z<|Aa Z<|AS Z Z<|Af Z Z<|AE Z<|Aj<|Bs<|Au 0 [vZ 0,vZ 0,vZ 0,Ag [],nV,nV] Z Z Z Z (Aca Z) Z Z<|AM Z<|By 0 Z Z Z Az.zero
    rw[if_neg (fun h=>by omega)] at hF;cases hF;obtain⟨n,rfl⟩:∃n:Nat,p=(n:Int):=⟨p.toNat,by omega⟩
    simp only[Adc];have hpl:(C9 v.list (n+1)).length=v.list.length+(n+1 - v.list.length):=by simp[C9]
    by_cases q2:v.list.length<n+1
    ·refine A1 Z<|Ab Z<|As Z Z<|Ac Z<|Aw Z<|Aa Z<|Ab Z<|Aa Z<|AS Z Z<|Af Z Z<|AJ Z<|Aj<|Ae Z<|Al Z (An 3 Z Z)<|AR Z<|Bw<|Ab Z<|AY Z Z<|AR Z<|AK Z<|DQ Z Z<|Bt Z<|Ab Z<|AS Z Z<|AE Z<|Ar<|AR Z<|AR Z<|AK Z<|AR Z<|AK Z<|Ab Z<|QG (n:=n+1 - v.list.length) (c:=n+1 - v.list.length) (int_eq (by omega)) (int_eq (by omega)) (Ack _) (by omega) (by omega) (fun b74 T74=>?_);refine DI (fun d1 hl1 hg1=>?_);have hz:=PU (by omega) hg1;refine Bi Z (h3 (Cw.mono hl hl1) hz (Ack _) (Ack _) (by simp;omega)) (fun r d2 L2 hl2 ⟨hL,hr2⟩=>?_);subst hL;have hr3:RSl 6 Az d2 r (C9 v.list (n+1)):=by rw[Aed,Ahf,Ado] at hr2;exact hr2
     obtain⟨ra,rc,rfl⟩:=RSl.val hr3;refine AR Z<|Br<|AR Z<|Ab Z<|Ab Z<|AY Z Z<|AP 1 Z Z Z<|FC Z Z (fun b81 T81=>?_);refine DI (fun d3 hl3 hg3=>?_);refine Bi Z (h3 (i:=n) (j:=n+1) (Cw.mono hr3 hl3) (yone (Az.mono (hl1.trans hl2) hy0) hl3 hg3) (by omega) (by omega) (by simp only[Adf];omega)) (fun r d4 L4 hl4 ⟨hL,hr4⟩=>?_);subst hL;obtain⟨sa,sc,rfl⟩:=RSl.val hr4;(apply EI;rfl;rfl);refine Au 0 [vZ 5,vZ 0,vZ 0,Ag [],.slice sa _ sc,nV] Z Z Z Z (Aca Z) Z Z<|AM Z<|By 0 Z Z Z (Az.close (v:=.mk 5 0 0 [] ((C9 v.list (n+1)).take n++[y]++(C9 v.list (n+1)).drop (n+1)) []) FX BY BY (by simp) hr4 RSl.nil)
    ·have hpe:C9 v.list (n+1)=v.list:=by simp[C9,show n+1 - v.list.length=0 by omega]
     rw[hpe];refine A1 Z<|Ab Z<|As Z Z<|Ac Z<|Aw Z<|Aa Z<|Ab Z<|Aa Z<|AS Z Z<|Af Z Z<|AJ Z<|Aj<|Ae Z<|Al Z (An 3 Z Z)<|AR Z<|Bw<|Ab Z<|AY Z Z<|AR Z<|AK Z<|DQ Z Z<|Bt Z<|Ab Z<|AS Z Z<|AJ Z<|Es Z<|Ab Z<|Ab Z<|AY Z Z<|AP 1 Z Z Z<|FC Z Z (fun b81 T81=>?_);refine DI (fun d3 hl3 hg3=>?_);refine Bi Z (h3 (i:=n) (j:=n+1) (Cw.mono hl hl3) (yone hy0 hl3 hg3) (by omega) (by omega) (by simp only[Adf];omega)) (fun r d4 L4 hl4 ⟨hL,hr4⟩=>?_);subst hL;obtain⟨sa,sc,rfl⟩:=RSl.val hr4;(apply EI;rfl;rfl);refine Au 0 [vZ 5,vZ 0,vZ 0,Ag [],.slice sa _ sc,nV] Z Z Z Z (Aca Z) Z Z<|AM Z<|By 0 Z Z Z (Az.close (v:=.mk 5 0 0 [] (v.list.take n++[y]++v.list.drop (n+1)) []) FX BY BY (by simp) hr4 RSl.nil)
   omega
  ·rw[Cy,if_neg (fun h=>s0 h.1),if_neg (fun h=>hk h.2),if_neg (fun h=>by omega)] at hF;cases hF;refine Aj<|Ae Z<|Al Z (An 3 Z Z)<|Ai Z Z<|Ao Z<|Ax<|Am<|Aj<|Ae Z<|Al Z (An 2 Z Z)<|Ai Z Z<|Ac Z<|Aw Z<|Aq Z Z<|AN Z<|AN Z<|AN Z<|AF Z<|Af Z Z<|Ao Z<|A7 Z<|Aj<|Ae Z<|Al Z (An 2 Z Z)<|Ai Z Z<|Ac Z<|AA Z<|Aa Z<|Ac Z<|Aa Z<|Ac Z<|Aw Z<|Aa Z<|Ae Z<|Aa Z<|Al Z (An 3 Z Z)<|Aa Z<|Ai Z Z<|Aa Z<|Af Z Z<|Ah Z Z<|Ao Z<|AH Z<|Aj<|Ae Z<|Al Z (An 2 Z Z)<|Ai Z Z<|Ac Z<|Aw Z<|Aq Z Z<|AN Z<|AN Z<|AN Z<|AF Z<|Af Z Z<|Ac Z<|Aq Z Z<|AF Z<|Af Z Z<|Ao Z<|A7 Z<|Ay<|Aj<|Bs<|Au 0 [vZ 0,vZ 0,vZ 0,Ag [],nV,nV] Z Z Z Z (Aca Z) Z Z<|AM Z<|By 0 Z Z Z Az.zero
 by_cases s2:s.kind=2
 ·by_cases hk:v.kind=0∨v.kind=5
  ·have hk2:=hk;by_cases k0:v.kind=0
   ·by_cases y5:y.kind=5
    ·rw[Cy,if_neg (fun h=>s0 h.1),if_neg (fun h=>s1 h.1),if_pos ⟨s2,hk,y5⟩] at hF;cases hF;have hends:=D9 s (k:=v.list.length) (by omega);have n1:=RSl.BW hl;refine Aj<|Ae Z<|Al Z (An 3 Z Z)<|Ai Z Z<|Ao Z<|Ax<|Am<|Aj<|Ae Z<|Al Z (An 2 Z Z)<|Ai Z Z<|Ac Z<|Aw Z<|Aq Z Z<|AN Z<|AN Z<|AN Z<|AF Z<|Af Z Z<|Ao Z<|A7 Z<|Aj<|Ae Z<|Al Z (An 2 Z Z)<|Ai Z Z<|Ac Z<|Aw Z<|Aq Z Z<|AN Z<|AN Z<|AN Z<|AF Z<|Af Z Z<|Ao Z<|A7 Z<|Aj<|Ae Z<|Al Z (An 2 Z Z)<|Ai Z Z<|Ac Z<|AA Z<|Aa Z<|Ac Z<|Aa Z<|Ac Z<|AA Z<|Aq Z Z<|AF Z<|Aa Z<|Ah Z Z<|Ah Z Z<|Ac Z<|Aa Z<|Ae Z<|Aa Z<|Al Z (An 1 Z Z)<|Aa Z<|Ai Z Z<|Ah Z Z<|Ao Z<|Bn Z<|Aj<|AP 2 Z Z Z<|Ae Z<|Al Z (An 3 Z Z)<|AK Z<|AG Z (h4 hs (by omega) (by omega)) ?_;obtain⟨A,B,hab⟩:∃A B:Int,Bv s v.list.length=(A,B):=⟨_,_,Z⟩
     rw[hab] at hends⊢;simp only at hends⊢;obtain⟨a,rfl⟩:∃a:Nat,A=(a:Int):=⟨A.toNat,by omega⟩
     obtain⟨b,rfl⟩:∃b:Nat,B=(b:Int):=⟨B.toNat,by omega⟩
     simp only[Adc];refine Bm Z<|Bx Z Z Z Z<|Ab Z<|Bt Z<|Ae Z<|Al Z (An 3 Z Z)<|Ab Z<|Ab Z<|Ae Z<|Al Z (An 1 Z Z)<|Bi Z (h3 (i:=a) (j:=b) hl yhl (by omega) (by omega) (by omega)) (fun r d4 L4 hl4 ⟨hL,hr4⟩=>?_);subst hL;obtain⟨sa,sc,rfl⟩:=RSl.val hr4;(apply EI;rfl;rfl);refine Au 0 [vZ 5,vZ 0,vZ 0,Ag [],.slice sa _ sc,nV] Z Z Z Z (Aca Z) Z Z<|AM Z<|By 0 Z Z Z (Az.close (v:=.mk 5 0 0 [] (v.list.take a++y.list++v.list.drop b) []) FX BY BY (by simp) hr4 RSl.nil)
    ·rw[Cy,if_neg (fun h=>s0 h.1),if_neg (fun h=>s1 h.1),if_neg (fun h=>y5 h.2.2)] at hF;cases hF;refine Aj<|Ae Z<|Al Z (An 3 Z Z)<|Ai Z Z<|Ao Z<|Ax<|Am<|Aj<|Ae Z<|Al Z (An 2 Z Z)<|Ai Z Z<|Ac Z<|Aw Z<|Aq Z Z<|AN Z<|AN Z<|AN Z<|AF Z<|Af Z Z<|Ao Z<|A7 Z<|Aj<|Ae Z<|Al Z (An 2 Z Z)<|Ai Z Z<|Ac Z<|Aw Z<|Aq Z Z<|AN Z<|AN Z<|AN Z<|AF Z<|Af Z Z<|Ao Z<|A7 Z<|Aj<|Ae Z<|Al Z (An 2 Z Z)<|Ai Z Z<|Ac Z<|AA Z<|Aa Z<|Ac Z<|Aa Z<|Ac Z<|AA Z<|Aq Z Z<|AF Z<|Aa Z<|Ah Z Z<|Ah Z Z<|Ac Z<|Aa Z<|Ae Z<|Aa Z<|Al Z (An 1 Z Z)<|Aa Z<|Ai Z Z<|Ah Z Z<|Ao Z<|AH Z<|Ay<|Aj<|Bs<|Au 0 [vZ 0,vZ 0,vZ 0,Ag [],nV,nV] Z Z Z Z (Aca Z) Z Z<|AM Z<|By 0 Z Z Z Az.zero
   by_cases k6:v.kind≠0
   ·by_cases y5:y.kind=5
    ·rw[Cy,if_neg (fun h=>s0 h.1),if_neg (fun h=>s1 h.1),if_pos ⟨s2,hk,y5⟩] at hF;cases hF;have hends:=D9 s (k:=v.list.length) (by omega);have n1:=RSl.BW hl;refine Aj<|Ae Z<|Al Z (An 3 Z Z)<|Ai Z Z<|Ao Z<|Ax<|Am<|Aj<|Ae Z<|Al Z (An 2 Z Z)<|Ai Z Z<|Ac Z<|Aw Z<|Aq Z Z<|AN Z<|AN Z<|AN Z<|AF Z<|Af Z Z<|Ao Z<|A7 Z<|Aj<|Ae Z<|Al Z (An 2 Z Z)<|Ai Z Z<|Ac Z<|Aw Z<|Aq Z Z<|AN Z<|AN Z<|AN Z<|AF Z<|Af Z Z<|Ao Z<|A7 Z<|Aj<|Ae Z<|Al Z (An 2 Z Z)<|Ai Z Z<|Ac Z<|AA Z<|Aa Z<|Ac Z<|Aa Z<|Ac Z<|Aw Z<|Aa Z<|Ae Z<|Aa Z<|Al Z (An 3 Z Z)<|Aa Z<|Ai Z Z<|Aa Z<|Af Z Z<|Ah Z Z<|Ac Z<|AA Z<|Aa Z<|Ae Z<|Aa Z<|Al Z (An 1 Z Z)<|Aa Z<|Ai Z Z<|Ah Z Z<|Ao Z<|Bn Z<|Aj<|AP 2 Z Z Z<|Ae Z<|Al Z (An 3 Z Z)<|AK Z<|AG Z (h4 hs (by omega) (by omega)) ?_;obtain⟨A,B,hab⟩:∃A B:Int,Bv s v.list.length=(A,B):=⟨_,_,Z⟩
     rw[hab] at hends⊢;simp only at hends⊢;obtain⟨a,rfl⟩:∃a:Nat,A=(a:Int):=⟨A.toNat,by omega⟩
     obtain⟨b,rfl⟩:∃b:Nat,B=(b:Int):=⟨B.toNat,by omega⟩
     simp only[Adc];refine Bm Z<|Bx Z Z Z Z<|Ab Z<|Bt Z<|Ae Z<|Al Z (An 3 Z Z)<|Ab Z<|Ab Z<|Ae Z<|Al Z (An 1 Z Z)<|Bi Z (h3 (i:=a) (j:=b) hl yhl (by omega) (by omega) (by omega)) (fun r d4 L4 hl4 ⟨hL,hr4⟩=>?_);subst hL;obtain⟨sa,sc,rfl⟩:=RSl.val hr4;(apply EI;rfl;rfl);refine Au 0 [vZ 5,vZ 0,vZ 0,Ag [],.slice sa _ sc,nV] Z Z Z Z (Aca Z) Z Z<|AM Z<|By 0 Z Z Z (Az.close (v:=.mk 5 0 0 [] (v.list.take a++y.list++v.list.drop b) []) FX BY BY (by simp) hr4 RSl.nil)
    ·rw[Cy,if_neg (fun h=>s0 h.1),if_neg (fun h=>s1 h.1),if_neg (fun h=>y5 h.2.2)] at hF;cases hF;refine Aj<|Ae Z<|Al Z (An 3 Z Z)<|Ai Z Z<|Ao Z<|Ax<|Am<|Aj<|Ae Z<|Al Z (An 2 Z Z)<|Ai Z Z<|Ac Z<|Aw Z<|Aq Z Z<|AN Z<|AN Z<|AN Z<|AF Z<|Af Z Z<|Ao Z<|A7 Z<|Aj<|Ae Z<|Al Z (An 2 Z Z)<|Ai Z Z<|Ac Z<|Aw Z<|Aq Z Z<|AN Z<|AN Z<|AN Z<|AF Z<|Af Z Z<|Ao Z<|A7 Z<|Aj<|Ae Z<|Al Z (An 2 Z Z)<|Ai Z Z<|Ac Z<|AA Z<|Aa Z<|Ac Z<|Aa Z<|Ac Z<|Aw Z<|Aa Z<|Ae Z<|Aa Z<|Al Z (An 3 Z Z)<|Aa Z<|Ai Z Z<|Aa Z<|Af Z Z<|Ah Z Z<|Ac Z<|AA Z<|Aa Z<|Ae Z<|Aa Z<|Al Z (An 1 Z Z)<|Aa Z<|Ai Z Z<|Ah Z Z<|Ao Z<|AH Z<|Ay<|Aj<|Bs<|Au 0 [vZ 0,vZ 0,vZ 0,Ag [],nV,nV] Z Z Z Z (Aca Z) Z Z<|AM Z<|By 0 Z Z Z Az.zero
   omega
  ·rw[Cy,if_neg (fun h=>s0 h.1),if_neg (fun h=>s1 h.1),if_neg (fun h=>hk h.2.1)] at hF;cases hF;refine Aj<|Ae Z<|Al Z (An 3 Z Z)<|Ai Z Z<|Ao Z<|Ax<|Am<|Aj<|Ae Z<|Al Z (An 2 Z Z)<|Ai Z Z<|Ac Z<|Aw Z<|Aq Z Z<|AN Z<|AN Z<|AN Z<|AF Z<|Af Z Z<|Ao Z<|A7 Z<|Aj<|Ae Z<|Al Z (An 2 Z Z)<|Ai Z Z<|Ac Z<|Aw Z<|Aq Z Z<|AN Z<|AN Z<|AN Z<|AF Z<|Af Z Z<|Ao Z<|A7 Z<|Aj<|Ae Z<|Al Z (An 2 Z Z)<|Ai Z Z<|Ac Z<|AA Z<|Aa Z<|Ac Z<|Aa Z<|Ac Z<|Aw Z<|Aa Z<|Ae Z<|Aa Z<|Al Z (An 3 Z Z)<|Aa Z<|Ai Z Z<|Aa Z<|Af Z Z<|Ah Z Z<|Ac Z<|Aw Z<|Aq Z Z<|AF Z<|Af Z Z<|Ao Z<|A7 Z<|Ay<|Aj<|Bs<|Au 0 [vZ 0,vZ 0,vZ 0,Ag [],nV,nV] Z Z Z Z (Aca Z) Z Z<|AM Z<|By 0 Z Z Z Az.zero
 rw[Cy,if_neg (fun h=>s0 h.1),if_neg (fun h=>s1 h.1),if_neg (fun h=>s2 h.1)] at hF;cases hF;by_cases k0:v.kind=0
 ·refine Aj<|Ae Z<|Al Z (An 3 Z Z)<|Ai Z Z<|Ao Z<|Ax<|Am<|Aj<|Ae Z<|Al Z (An 2 Z Z)<|Ai Z Z<|Ac Z<|Aw Z<|Aq Z Z<|AN Z<|AN Z<|AN Z<|AF Z<|Af Z Z<|Ao Z<|A7 Z<|Aj<|Ae Z<|Al Z (An 2 Z Z)<|Ai Z Z<|Ac Z<|Aw Z<|Aq Z Z<|AN Z<|AN Z<|AN Z<|AF Z<|Af Z Z<|Ao Z<|A7 Z<|Aj<|Ae Z<|Al Z (An 2 Z Z)<|Ai Z Z<|Ac Z<|Aw Z<|Aq Z Z<|AN Z<|AN Z<|AN Z<|AF Z<|Af Z Z<|Ac Z<|Aq Z Z<|AF Z<|Af Z Z<|Ao Z<|A7 Z<|Ay<|Aj<|Bs<|Au 0 [vZ 0,vZ 0,vZ 0,Ag [],nV,nV] Z Z Z Z (Aca Z) Z Z<|AM Z<|By 0 Z Z Z Az.zero
 ·refine Aj<|Ae Z<|Al Z (An 3 Z Z)<|Ai Z Z<|Ao Z<|Ax<|Am<|Aj<|Ae Z<|Al Z (An 2 Z Z)<|Ai Z Z<|Ac Z<|Aw Z<|Aq Z Z<|AN Z<|AN Z<|AN Z<|AF Z<|Af Z Z<|Ao Z<|A7 Z<|Aj<|Ae Z<|Al Z (An 2 Z Z)<|Ai Z Z<|Ac Z<|Aw Z<|Aq Z Z<|AN Z<|AN Z<|AN Z<|AF Z<|Af Z Z<|Ao Z<|A7 Z<|Aj<|Ae Z<|Al Z (An 2 Z Z)<|Ai Z Z<|Ac Z<|Aw Z<|Aq Z Z<|AN Z<|AN Z<|AN Z<|AF Z<|Af Z Z<|Ac Z<|Aq Z Z<|AF Z<|Af Z Z<|Ao Z<|A7 Z<|Ay<|Aj<|Bs<|Au 0 [vZ 0,vZ 0,vZ 0,Ag [],nV,nV] Z Z Z Z (Aca Z) Z Z<|AM Z<|By 0 Z Z Z Az.zero
def Co:V→List St→V→V×Int
 |_,[],x=>(x,0)
 |v,s::l,x=>if (A8 v s).2≠0 then(V.zero,(A8 v s).2) else if (Co (A8 v s).1 l x).2≠0 then(V.zero,(Co (A8 v s).1 l x).2) else Cy v s (Co (A8 v s).1 l x).1
def D8(v:V)(s:St):BG (A8 v s).1≤BG v:=by
 have h3:=CP v;have hz:BG V.zero=1:=by decide
 have hg:∀i:Nat,BG (v.list.getD i V.zero)≤BG v:=fun i=>by
  by_cases hi:i<v.list.length
  ·rw[show v.list.getD i V.zero=v.list[i] by simp[hi]];have:=E6 (Acq hi);omega
  ·rw[show v.list.getD i V.zero=V.zero by simp[hi],hz];exact ID v
 unfold A8;split
 ·simp only[hz];exact ID v
 split
 ·simp only;split
  ·exact hg _
  ·rw[hz];exact ID v
 split
 ·simp only[Ln];split
  ·exact hg _
  ·rw[hz];exact ID v
 split
 ·rw[CP];have h5:=LQ (v.list.drop (Bv s v.list.length).1.toNat) ((Bv s v.list.length).2.toNat - (Bv s v.list.length).1.toNat);have h6:=Lz v.list (Bv s v.list.length).1.toNat;show 1+0+0+BH (Ga v.list (Bv s v.list.length))≤BG v;simp only[Ga];omega
 split
 ·rw[CP];have h5:=KJ (l:=v.text) (Bv s (chs v.text).length).1.toNat ((Bv s (chs v.text).length).2.toNat - (Bv s (chs v.text).length).1.toNat);show 1+(Ga (chs v.text) (Bv s (chs v.text).length)).flatten.length+0+0≤BG v;simp only[Ga];omega
 ·simp only[hz];exact ID v
def Ev:∀a b:List V,DR (a++b)=DR a+DR b
 |[],b=>by simp[DR]
 |x::a,b=>by simp only[Aff,DR,Ev a b];omega
def Kz{l:List V}{i j:Nat}(h:i≤j):DR (l.take i)+DR (l.drop j)≤DR l:=by
 have h1:=Ev (l.take i) (l.drop i);rw[Aem] at h1;have h2:=Ev ((l.drop i).take (j - i)) ((l.drop i).drop (j - i));rw[Aem,List.drop_drop,show i+(j - i)=j by omega] at h2;omega
def Xw(n:Nat):DR (Adi n V.zero)=n:=by
 induction n with
 |zero=>rfl
 |succ n ih=>
  rw[List.replicate_succ]
  have:C8 V.zero=1:=by decide
  simp only[DR,ih,this];omega
def TM(v:V)(s:St)(y:V):C8 (Cy v s y).1≤C8 v+C8 y+4100:=by
 have h3:=Ej v;have hy:=Ej y;have hz:C8 V.zero=1:=by decide
 unfold Cy;split
 ·simp only[C3];have hlt:AT v.keys s.text≤toK v.keys s.text:=by unfold toK;split<;>omega
  have h4:=Kz (l:=v.list) hlt;have h5:(v.keys.take (AT v.keys s.text)).length+(v.keys.drop (toK v.keys s.text)).length≤v.keys.length:=by simp;omega
  rw[Ej];show 1+(v.keys.take (AT v.keys s.text)++[s.text]++v.keys.drop (toK v.keys s.text)).length+DR (v.list.take (AT v.keys s.text)++[y]++v.list.drop (toK v.keys s.text))≤_;rw[Ev,Ev];simp only[Acd,Adf,DR];omega
 split
 ·split
  ·simp only[hz];omega
  ·rename_i hp;obtain⟨n,hn⟩:∃n:Nat,BL s.src v.list.length=(n:Int):=⟨(BL s.src v.list.length).toNat,by omega⟩
   rw[hn] at hp⊢;simp only[Adc];have h4:=Kz (l:=C9 v.list (n+1)) (show n≤n+1 by omega);have h5:DR (C9 v.list (n+1))≤DR v.list+(n+1):=by rw[C9,Ev,Xw];omega
   rw[Ej];show 1+0+DR ((C9 v.list (n+1)).take n++[y]++(C9 v.list (n+1)).drop (n+1))≤_;rw[Ev,Ev];simp only[DR];omega
 split
 ·have he:=D9 s (k:=v.list.length) (by omega);have h4:=Kz (l:=v.list) (show(Bv s v.list.length).1.toNat≤(Bv s v.list.length).2.toNat by omega);rw[Ej];show 1+0+DR (v.list.take (Bv s v.list.length).1.toNat++y.list++v.list.drop (Bv s v.list.length).2.toNat)≤_;rw[Ev,Ev];omega
 ·simp only[hz];omega
def ZN(v:V):1≤C8 v:=by have:=Ej v;omega
def Ml:∀(l:List St) (v x:V),BG v≤1000000→C8 (Co v l x).1≤C8 x+l.length*1004100
 |[],v,x,_=>by simp[Co]
 |s::l,v,x,hb=>by
  have hz:C8 V.zero=1:=by decide
  have h1:=ZN x;have h2:=Ml l (A8 v s).1 x (Adp (D8 v s) hb);have h3:=TM v s (Co (A8 v s).1 l x).1;have h4:=FR v;simp only[Co,Acg];split
  ·simp only[hz];omega
  split
  ·simp only[hz];omega
  ·omega
def QI(P:Program)(f:FuncId):Prop:=∀(l:List St) {d cs es w}{v x:V},Az d cs v→Gd v→BG v≤1000000→RSl 6 RSt d w l→Az d es x→C8 x≤1000000→l.length≤100→
 Be P f [.agg cs.toArray,w,.agg es.toArray] d [] (Ret fun r d' L'=>L'=[]∧∃cs',r=.tuple #[.agg cs'.toArray,vZ (Co v l x).2]∧Az d' cs' (Co v l x).1)
def SK(a0 a1 a2:Nat):Bo:=⟨46,[(.cell 6 (some 6)),(.tmp 7)],(sR (o1 3 (.box 0)<|o1 5 (.box 2)<|o1 6 (.alo (.agg #[(vZ 0),(vZ 0),(vZ 0),(Ag []),nV,nV]))<|o1 7 (.mv z0) .done) (.seq (sR (om 10 1<|oL 11 10<|ob 12 .eql 11 z0 .done) (.cond 12 (sR (o1 13 (.ld (some 6) 5)<|o0 (.st 6 6 13)<|o1 7 (.mv z0) .done) .ret) .skip)) (.seq (.reg true (pm 16 1<|p1 17 (.idx 6 16 z0)<|p1 18 (.ld (some 6) 17) (.alt ⟨(some 15),none,(.ld (some 6) 3)⟩ (.alt ⟨(some 19),none,(.call a0 [15,18])⟩ (pm 14 19 (p1 20 (.ext 14 0) (p1 21 (.ext 14 1) (o1 8 (.alo (.agg #[(vZ 0),(vZ 0),(vZ 0),(Ag []),nV,nV])) (o0 (.st 6 8 20) (pm 9 21 .done)))))) (o1 8 (.alo (.agg #[(vZ 0),(vZ 0),(vZ 0),(Ag []),nV,nV])) (oc 19 a0 [15,18] (pm 14 19 (p1 20 (.ext 14 0) (p1 21 (.ext 14 1) (o0 (.st 6 8 20) (pm 9 21 .done)))))))) (o1 8 (.alo (.agg #[(vZ 0),(vZ 0),(vZ 0),(Ag []),nV,nV])) (o1 15 (.ld (some 6) 3) (oc 19 a0 [15,18] (pm 14 19 (p1 20 (.ext 14 0) (p1 21 (.ext 14 1) (o0 (.st 6 8 20) (pm 9 21 .done))))))))))) (.seq (sR (om 22 9<|ob 23 .neq 22 z0 .done) (.cond 23 (sR (o1 24 (.bld [(0,1),(1,2),(3,1),(4,1),(5,1)] [(vZ 0),(vZ 0),(vZ 0),(Ag []),nV,nV] [])<|om 25 9<|o0 (.st 6 6 24)<|om 7 25 .done) .ret) .skip)) (.seq (.reg true (pm 28 1<|p1 29 (.sl 6 28 (some z1) none none) (.alt ⟨(some 27),none,(.ld (some 6) 8)⟩ (o1 30 (.ld (some 6) 5) (oc 31 a1 [27,29,30] (pm 26 31 (p1 32 (.ext 26 0) (p1 33 (.ext 26 1) (o0 (.st 6 8 32) (pm 9 33 .done))))))) (o1 30 (.ld (some 6) 5) (o1 27 (.ld (some 6) 8) (oc 31 a1 [27,29,30] (pm 26 31 (p1 32 (.ext 26 0) (p1 33 (.ext 26 1) (o0 (.st 6 8 32) (pm 9 33 .done))))))))))) (.seq (sR (om 34 9<|ob 35 .neq 34 z0 .done) (.cond 35 (sR (o1 36 (.bld [(0,1),(1,2),(3,1),(4,1),(5,1)] [(vZ 0),(vZ 0),(vZ 0),(Ag []),nV,nV] [])<|om 37 9<|o0 (.st 6 6 36)<|om 7 37 .done) .ret) .skip)) (.seq (.reg true (p1 38 (.ld (some 6) 3)<|pm 39 1<|p1 40 (.idx 6 39 z0)<|p1 41 (.ld (some 6) 40)<|p1 42 (.ld (some 6) 8)<|oc 43 a2 [38,41,42]<|p1 44 (.ext 43 0)<|p1 45 (.ext 43 1) (.bar (o0 (.st 6 6 44) (pm 7 45 .done))))) .ret)))))))⟩
set_option maxHeartbeats 2000000 in
def Zo(hd:dec P f=some (SK f1 f f2))(h1:H5 P f1)(h2:Qx P f2):QI P f:=by
 intro l;induction l with
 |nil=>
  intro d cs es w v x hv hg hb hw hx hbx hll
  obtain⟨a,c,rfl⟩:=RSl.val hw
  refine Cq hd (Aca Z) ?_
  obtain⟨c0,c1,c2,c3,c4,c5,rfl⟩:=six hv.len
  obtain⟨x0,x1,x2,x3,x4,x5,rfl⟩:=six hx.len
  show gwp P _ _ _ _ _
  apply Ax;apply Ar
  refine Bg (l:=[c0,c1,c2,c3,c4,c5]) Z (fun b3 T3=>?_)
  refine Bg (l:=[x0,x1,x2,x3,x4,x5]) Z (fun b5 T5=>?_)
  have hz:(([]:List St).length:Int)=0:=Z
  (refine BV (fun _ _=>A1 Z<|AR Z<|AK Z<|Ai Z Z<|AE Z<|Aj<|AP 1 Z Z Z ?_))
  refine Au 0 [x0,x1,x2,x3,x4,x5] Z Z Z Z (Aca Z) (AW _ _ _ hx) Z ?_
  (refine AM Z ?_)
  exact By 0 Z Z Z hx
 |cons s l ih=>
  intro d cs es w v x hv hg hb hw hx hbx hll
  have n1:=RSl.BW hw
  obtain⟨a,c,rfl⟩:=RSl.val hw
  have hw':=hw
  have hcnt:=Ml l (A8 v s).1 x (Adp (D8 v s) hb)
  have hcb:=FR v
  have hlc:((s::l).length:Int)=l.length+1:=by simp
  rw[Acg] at hll
  refine Cq hd (Aca Z) ?_
  obtain⟨c0,c1,c2,c3,c4,c5,rfl⟩:=six hv.len
  obtain⟨x0,x1,x2,x3,x4,x5,rfl⟩:=six hx.len
  show gwp P _ _ _ _ _
  apply Ax;apply Ar
  refine Bg (l:=[c0,c1,c2,c3,c4,c5]) Z (fun b3 T3=>?_)
  refine Bg (l:=[x0,x1,x2,x3,x4,x5]) Z (fun b5 T5=>?_)
  (refine BV (fun _ _=>AL Z ?_))
  rename_i b6 T6
  apply Ax;apply Ax;apply Ar
  (refine AR Z<|AK Z<|Ai Z Z<|Av ?_)
  refine EH Z (by omega) ?_
  apply Ay
  refine CJ (fun ρ d' L'=>d'=d∧∃b8 T8 e0 e1 e2 e3 e4 e5,AZ ρ [(1,.slice a (s::l).length c),(3,pZ b3),(5,pZ b5),(6,pZ b6),(8,pZ b8),(9,vZ (A8 v s).2)]∧Az d [e0,e1,e2,e3,e4,e5] (A8 v s).1∧
   L'=[bx b6 T6 [vZ 0,vZ 0,vZ 0,Ag [],nV,nV],bx b5 T5 [x0,x1,x2,x3,x4,x5],bx b3 T3 [c0,c1,c2,c3,c4,c5],bx b8 T8 [e0,e1,e2,e3,e4,e5]]) ?_ ?_
  ·refine Bd ?_
   (refine AR Z<|A2 (m:=0) (sz:=6) (R:=RSt) (by rfl) (by assumption) (by rfl) Z (by omega) ?_;rintro _ _ _ _ _ ⟨rfl,_,_,_,_⟩;apply CT;rfl;assumption;rfl)
   rename_i hcs hD ik' it' is id
   have hS:RSt d [vZ s.kind,Ag s.text,vZ s.src,vZ s.dst,.bool s.hf,.bool s.ht] s:=⟨Z,ik',it',is,id⟩
   refine G9 ?_ ?_
   ·(apply AP 2;rfl;rfl;rfl)
    refine G9 ?_ ?_
    ·refine Bi Z (h1 hv (Fk hg) (GY hg) hS) (fun r d3 L3 _ ⟨hdd,hL,cs',hr,hR'⟩=>?_)
     subst hdd;subst hL;subst hr
     obtain⟨e0,e1,e2,e3,e4,e5,rfl⟩:=six hR'.len
     (refine Bm Z<|Bx Z Z Z Z<|BV (fun _ _=>?_))
     rename_i b8 T8
     refine Au 0 [e0,e1,e2,e3,e4,e5] Z Z Z Z (Aca Z) (AW _ _ _ hR') Z ?_
     (refine Ab Z<|AV ?_)
     exact⟨Z,b8,T8,_,_,_,_,_,_,⟨Z,Z,Z,Z,Z,Z,trivial⟩,hR',Z⟩
    ·(apply BV;intro _ _)
     rename_i b8 T8
     refine Bi Z (h1 hv (Fk hg) (GY hg) hS) (fun r d3 L3 _ ⟨hdd,hL,cs',hr,hR'⟩=>?_)
     subst hdd;subst hL;subst hr
     obtain⟨e0,e1,e2,e3,e4,e5,rfl⟩:=six hR'.len
     (refine Bm Z<|Bx Z Z Z Z ?_)
     refine Au 0 [e0,e1,e2,e3,e4,e5] Z Z Z Z (Aca Z) (AW _ _ _ hR') Z ?_
     (refine Ab Z<|AV ?_)
     exact⟨Z,b8,T8,_,_,_,_,_,_,⟨Z,Z,Z,Z,Z,Z,trivial⟩,hR',Z⟩
   ·(refine BV (fun _ _=>AP 2 Z Z Z ?_))
    rename_i b8 T8
    refine Bi Z (h1 hv (Fk hg) (GY hg) hS) (fun r d3 L3 _ ⟨hdd,hL,cs',hr,hR'⟩=>?_)
    subst hdd;subst hL;subst hr
    obtain⟨e0,e1,e2,e3,e4,e5,rfl⟩:=six hR'.len
    (refine Bm Z<|Bx Z Z Z Z ?_)
    refine Au 0 [e0,e1,e2,e3,e4,e5] Z Z Z Z (Aca Z) (AW _ _ _ hR') Z ?_
    (refine Ab Z<|AV ?_)
    exact⟨Z,b8,T8,_,_,_,_,_,_,⟨Z,Z,Z,Z,Z,Z,trivial⟩,hR',Z⟩
  rintro ρ d' L' ⟨hdd,b8,T8,e0,e1,e2,e3,e4,e5,hsl,hR,hL⟩
  subst hdd;subst hL
  refine A4 _ hsl ?_
  clear hsl
  by_cases he:(A8 v s).2≠0
  ·rw[Co,if_pos he]
   (refine Ap<|Ab Z<|AB Z Z<|AE Z<|Aj<|Bs<|Ab Z ?_)
   refine Au 0 [vZ 0,vZ 0,vZ 0,Ag [],nV,nV] Z Z Z Z (Aca Z) Z Z ?_
   (refine AM Z ?_)
   exact By 0 Z Z Z Az.zero
  rw[Co,if_neg he]
  (refine Ap<|Ab Z<|AB Z Z<|BM Z ?_)
  apply Ay
  refine CJ (fun ρ d9 L9=>Le d' d9∧∃f0 f1 f2 f3 f4 f5,AZ ρ [(1,.slice a (s::l).length c),(3,pZ b3),(5,pZ b5),(6,pZ b6),(8,pZ b8),(9,vZ (Co (A8 v s).1 l x).2)]∧Az d9 [f0,f1,f2,f3,f4,f5] (Co (A8 v s).1 l x).1∧
   L9=[bx b6 T6 [vZ 0,vZ 0,vZ 0,Ag [],nV,nV],bx b5 T5 [x0,x1,x2,x3,x4,x5],bx b3 T3 [c0,c1,c2,c3,c4,c5],bx b8 T8 [f0,f1,f2,f3,f4,f5]]) ?_ ?_
  ·refine BS [bx b6 T6 [vZ 0,vZ 0,vZ 0,Ag [],nV,nV],bx b5 T5 [x0,x1,x2,x3,x4,x5],bx b3 T3 [c0,c1,c2,c3,c4,c5]] [bx b8 T8 [e0,e1,e2,e3,e4,e5]] Z ?_
   (apply AR;rfl)
   refine DN (n:=1) Z hw' Z Z (by simp) (fun v' hv'=>?_)
   refine G9 ?_ ?_
   ·(refine AP 3 Z Z Z<|AP 1 Z Z Z ?_)
    refine Bi Z (ih hR (Hv hg s) (Adp (D8 v s) hb) hv' hx hbx (by omega)) (fun r d4 L4 hl4 ⟨hL,cs',hr,hR'⟩=>?_)
    subst hL;subst hr
    obtain⟨f0,f1,f2,f3,f4,f5,rfl⟩:=six hR'.len
    (refine Bm Z<|Bx Z Z Z Z ?_)
    refine Au 0 [f0,f1,f2,f3,f4,f5] Z Z Z Z (Aca Z) (AW _ _ _ hR') Z ?_
    (refine Ab Z<|AV ?_)
    exact⟨hl4,_,_,_,_,_,_,⟨Z,Z,Z,Z,Z,Z,trivial⟩,hR',Z⟩
   ·(refine AP 1 Z Z Z<|AP 3 Z Z Z ?_)
    refine Bi Z (ih hR (Hv hg s) (Adp (D8 v s) hb) hv' hx hbx (by omega)) (fun r d4 L4 hl4 ⟨hL,cs',hr,hR'⟩=>?_)
    subst hL;subst hr
    obtain⟨f0,f1,f2,f3,f4,f5,rfl⟩:=six hR'.len
    (refine Bm Z<|Bx Z Z Z Z ?_)
    refine Au 0 [f0,f1,f2,f3,f4,f5] Z Z Z Z (Aca Z) (AW _ _ _ hR') Z ?_
    (refine Ab Z<|AV ?_)
    exact⟨hl4,_,_,_,_,_,_,⟨Z,Z,Z,Z,Z,Z,trivial⟩,hR',Z⟩
  rintro ρ d4 L' ⟨hl4,f0,f1,f2,f3,f4,f5,hsl,hR',hL⟩
  subst hL
  refine A4 _ hsl ?_
  clear hsl
  by_cases he2:(Co (A8 v s).1 l x).2≠0
  ·rw[if_pos he2]
   (refine Ap<|Ab Z<|AB Z Z<|AE Z<|Aj<|Bs<|Ab Z ?_)
   refine Au 0 [vZ 0,vZ 0,vZ 0,Ag [],nV,nV] Z Z Z Z (Aca Z) Z Z ?_
   (refine AM Z ?_)
   exact By 0 Z Z Z Az.zero
  rw[if_neg he2]
  have hw4:RSl 6 RSt d4 (.slice a (s::l).length c) (s::l):=RSl.mono (R:=RSt) (fun hl h=>h) hw' hl4
  (refine Ap<|Ab Z<|AB Z Z<|AJ Z<|Ax ?_)
  refine Bd ?_
  (refine AP 2 Z Z Z<|AR Z<|A2 (m:=0) (sz:=6) (R:=RSt) (by rfl) (by assumption) (by rfl) Z (by omega) ?_;rintro _ _ _ _ _ ⟨rfl,_,_,_,_⟩;refine CT Z (by assumption) Z<|AP 3 Z Z Z ?_)
  rename_i hcs hD ik' it' is id
  refine Bi Z (h2 (Az.mono hl4 hv) (Fk hg) ⟨Z,ik',it',is,id⟩ hR' (by omega)) (fun r d5 L5 hl5 ⟨hL,cs',hr,hR2⟩=>?_)
  subst hL;subst hr
  obtain⟨g0,g1,g2,g3,g4,g5,rfl⟩:=six hR2.len
  (refine Bx Z Z Z Z<|B0 ?_)
  refine Au 0 [g0,g1,g2,g3,g4,g5] Z Z Z Z (Aca Z) (AW _ _ _ hR2) Z ?_
  (refine AM Z ?_)
  exact By 0 Z Z Z hR2
def C1(v:V)(l:List St)(x:V):V×Int:=
 if Bf v≠0 then(V.zero,Bf v) else if Bf x≠0 then(V.zero,Bf x) else if CR v l≠0 then(V.zero,CR v l)
 else if (Co v l x).2≠0 then(V.zero,(Co v l x).2) else if Bf (Co v l x).1≠0 then(V.zero,Bf (Co v l x).1) else((Co v l x).1,0)
def TW(T:Ad→Prop)(P:Program)(f:FuncId):Prop:=∀{d cs es w}{v x:V}{l:List St},T d→Az d cs v→RSl 6 RSt d w l→Az d es x→BG v≤1000000→C8 x≤1000000→l.length≤100→
 Be P f [.agg cs.toArray,w,.agg es.toArray] d [] (Ret fun r d' L'=>d'=d∧∃cs' h,r=.tuple #[.agg cs'.toArray,vZ (C1 v l x).2]∧L'=[h]∧Ds cs' (C1 v l x).1 h)
def SJ(a0 a1 a2 a3:Nat):Bo:=⟨49,[(.cell 6 (some 6)),(.tmp 7)],(sR (o1 3 (.box 0)<|o1 5 (.box 2)<|o1 6 (.alo (.agg #[(vZ 0),(vZ 0),(vZ 0),(Ag []),nV,nV]))<|o1 7 (.mv z0) .done) (.seq (sR (o1 13 (.ld (some 6) 3)<|oc 14 a0 [13]<|om 8 14 .done) (sR (om 15 8<|ob 16 .neq 15 z0 .done) (.cond 16 (sR (o1 17 (.bld [(0,1),(1,2),(3,1),(4,1),(5,1)] [(vZ 0),(vZ 0),(vZ 0),(Ag []),nV,nV] [])<|om 18 8<|o0 (.st 6 6 17)<|om 7 18 .done) .ret) .skip))) (.seq (sR (o1 19 (.ld (some 6) 5)<|oc 20 a0 [19]<|om 9 20 .done) (sR (om 21 9<|ob 22 .neq 21 z0 .done) (.cond 22 (sR (o1 23 (.bld [(0,1),(1,2),(3,1),(4,1),(5,1)] [(vZ 0),(vZ 0),(vZ 0),(Ag []),nV,nV] [])<|om 24 9<|o0 (.st 6 6 23)<|om 7 24 .done) .ret) .skip))) (.seq (sR (o1 25 (.ld (some 6) 3)<|om 26 1<|oc 27 a1 [25,26]<|om 10 27 .done) (sR (om 28 10<|ob 29 .neq 28 z0 .done) (.cond 29 (sR (o1 30 (.bld [(0,1),(1,2),(3,1),(4,1),(5,1)] [(vZ 0),(vZ 0),(vZ 0),(Ag []),nV,nV] [])<|om 31 10<|o0 (.st 6 6 30)<|om 7 31 .done) .ret) .skip))) (sR (o1 33 (.ld (some 6) 3)<|om 34 1<|o1 35 (.ld (some 6) 5)<|oc 36 a2 [33,34,35]<|om 32 36<|oe 37 32 0<|oe 38 32 1<|o1 11 (.alo (.agg #[(vZ 0),(vZ 0),(vZ 0),(Ag []),nV,nV]))<|o0 (.st 6 11 37)<|om 12 38 .done) (.seq (sR (om 39 12<|ob 40 .eql 39 z0 .done) (.cond 40 (rG (o1 41 (.ld (some 6) 11)<|oc 42 a0 [41]<|om 12 42 .done)) .skip)) (.seq (sR (om 43 12<|ob 44 .neq 43 z0 .done) (.cond 44 (sR (o1 45 (.bld [(0,1),(1,2),(3,1),(4,1),(5,1)] [(vZ 0),(vZ 0),(vZ 0),(Ag []),nV,nV] [])<|om 46 12<|o0 (.st 6 6 45)<|om 7 46 .done) .ret) .skip)) (sR (o1 47 (.ld (some 6) 11)<|oc 48 a3 [47]<|o0 (.st 6 6 48)<|o1 7 (.mv z0) .done) .ret))))))))⟩
set_option maxHeartbeats 1000000 in
def Aav{T:Ad→Prop}{f4}(hT:∀{d d'},Le d d'→T d→T d')(hd:dec P f=some (SJ f1 f2 f3 f4))(h1:Iz T P f1)(h2:MU T P f2)(h3:QI P f3)(h4:J3 P f4):TW T P f:=by
 intro d cs es w v x l ht hv hw hx hbv hbx hll;have n1:=RSl.BW hw;obtain⟨a,c,rfl⟩:=RSl.val hw;have hcnt:=Ml l v x hbv;refine Be.forget (Q:=fun r L'=>∃cs' h,r=.tuple #[.agg cs'.toArray,vZ (C1 v l x).2]∧L'=[h]∧Ds cs' (C1 v l x).1 h) ?_;refine Cq hd (Aca Z) ?_;obtain⟨c0,c1,c2,c3,c4,c5,rfl⟩:=six hv.len;obtain⟨x0,x1,x2,x3,x4,x5,rfl⟩:=six hx.len;show gwp P _ _ _ _ _;apply Ax;apply Ar;refine Bg (l:=[c0,c1,c2,c3,c4,c5]) Z (fun b3 T3=>?_);refine Bg (l:=[x0,x1,x2,x3,x4,x5]) Z (fun b5 T5=>?_);(refine BV (fun _ _=>A1 Z<|AP 2 Z Z Z ?_));rename_i b6 T6;refine AG Z (h1 ht hv) ?_;by_cases q1:Bf v≠0
 ·rw[C1,if_pos q1];(refine Bt Z<|Ab Z<|AB Z Z<|AE Z<|Aj<|Bs<|Ab Z ?_);refine Au 0 [vZ 0,vZ 0,vZ 0,Ag [],nV,nV] Z Z Z Z (Aca Z) Z Z ?_;(refine AM Z ?_);exact Im 0 Z Z Z Ds.zero HL
 (refine Bt Z<|Ab Z<|AB Z Z<|AJ Z<|Ap<|AP 1 Z Z Z ?_);refine AG Z (h1 ht hx) ?_;by_cases q2:Bf x≠0
 ·rw[C1,if_neg q1,if_pos q2];(refine Bt Z<|Ab Z<|AB Z Z<|AE Z<|Aj<|Bs<|Ab Z ?_);refine Au 0 [vZ 0,vZ 0,vZ 0,Ag [],nV,nV] Z Z Z Z (Aca Z) Z Z ?_;(refine AM Z ?_);exact Im 0 Z Z Z Ds.zero HL
 (refine Bt Z<|Ab Z<|AB Z Z<|AJ Z<|Ap<|AP 2 Z Z Z<|AR Z ?_);refine AG Z (h2 ht hv hw) ?_;by_cases q3:CR v l≠0
 ·rw[C1,if_neg q1,if_neg q2,if_pos q3];(refine Bt Z<|Ab Z<|AB Z Z<|AE Z<|Aj<|Bs<|Ab Z ?_);refine Au 0 [vZ 0,vZ 0,vZ 0,Ag [],nV,nV] Z Z Z Z (Aca Z) Z Z ?_;(refine AM Z ?_);exact Im 0 Z Z Z Ds.zero HL
 rw[C1,if_neg q1,if_neg q2,if_neg q3];have hgd:=HE (v:=v) (by simpa using q1) (by omega);(refine Bt Z<|Ab Z<|AB Z Z<|AJ Z<|Aj<|AP 2 Z Z Z<|AR Z<|AP 1 Z Z Z ?_);refine Bi Z (h3 l hv hgd hbv hw hx hbx hll) (fun r d2 L2 hl2 ⟨hL,cs',hr,hR⟩=>?_);subst hL;subst hr;obtain⟨f0,f1',f2',f3',f4',f5,rfl⟩:=six hR.len;(refine Bm Z<|Bx Z Z Z Z<|BV (fun _ _=>?_));rename_i b11 T11;refine Au 0 [f0,f1',f2',f3',f4',f5] Z Z Z Z (Aca Z) (AW _ _ _ hR) Z ?_;by_cases q4:(Co v l x).2≠0
 ·rw[if_pos q4];(refine A1 Z<|Ab Z<|Ai Z Z<|AJ Z<|Ap<|Ab Z<|AB Z Z<|AE Z<|Aj<|Bs<|Ab Z ?_);refine Au 1 [vZ 0,vZ 0,vZ 0,Ag [],nV,nV] Z Z Z Z (Aca Z) Z Z ?_;(refine AM Z ?_);exact Im 1 Z Z Z Ds.zero HL
 rw[if_neg q4];(refine A1 Z<|Ab Z<|Ai Z Z<|AE Z<|Ar<|AP 0 Z Z Z ?_);refine AG Z (h1 (hT hl2 ht) hR) ?_;by_cases q5:Bf (Co v l x).1≠0
 ·rw[if_pos q5];(refine A1 Z<|Ab Z<|AB Z Z<|AE Z<|Aj<|Bs<|Ab Z ?_);refine Au 1 [vZ 0,vZ 0,vZ 0,Ag [],nV,nV] Z Z Z Z (Aca Z) Z Z ?_;(refine AM Z ?_);exact Im 1 Z Z Z Ds.zero HL
 rw[if_neg q5];(refine A1 Z<|Ab Z<|AB Z Z<|AJ Z<|Aj<|AP 0 Z Z Z ?_);refine Bi Z (h4 _ hR (by omega)) (fun r d3 L3 _ ⟨hdd,cs',g,hr,hL,ho⟩=>?_);subst hdd;subst hL;subst hr;obtain⟨e0,e1,e2,e3,e4,e5,rfl⟩:=six ho.cells.1;refine Au 2 [e0,e1,e2,e3,e4,e5] Z Z Z Z (Aca Z) ho.cells.2 Z ?_;(refine AM Z ?_);exact Im 2 Z Z Z ho (Vs.drop ((Acb _).cons_cons _))
def BT(v:V)(s:St):V×Int:=
 if v.kind=0 then(v,0)
 else if s.kind=0∧v.kind=6 then
  (if s.text∈v.keys then .mk 6 0 0 [] (v.list.take (AT v.keys s.text)++[]++v.list.drop (AT v.keys s.text+1)) (v.keys.take (AT v.keys s.text)++[]++v.keys.drop (AT v.keys s.text+1)) else v,0)
 else if s.kind=1∧v.kind=5 then
  (if BL s.src v.list.length<0∨(v.list.length:Int)≤BL s.src v.list.length then v else .mk 5 0 0 [] (v.list.take (BL s.src v.list.length).toNat++[]++v.list.drop ((BL s.src v.list.length).toNat+1)) [],0)
 else if s.kind=2∧v.kind=5 then(.mk 5 0 0 [] (v.list.take (Bv s v.list.length).1.toNat++[]++v.list.drop (Bv s v.list.length).2.toNat) [],0)
 else(V.zero,80)
def LB(P:Program)(f:FuncId):Prop:=∀{d cs ds}{v:V}{s:St},Az d cs v→Cz v=true→RSt d ds s→C8 v≤900000000→
 Be P f [.agg cs.toArray,.agg ds.toArray] d [] (Ret fun r d' L'=>L'=[]∧∃cs',r=.tuple #[.agg cs'.toArray,vZ (BT v s).2]∧Az d' cs' (BT v s).1)
def N5(a0 a1 a2 a3 a4:Nat):Bo:=⟨105,[(.cell 4 (some 6)),(.tmp 5)],(sR (o1 2 (.box 0)<|o1 3 (.box 1)<|o1 4 (.alo (.agg #[(vZ 0),(vZ 0),(vZ 0),(Ag []),nV,nV]))<|o1 5 (.mv z0) .done) (.seq (.block 0 (sR (oj 12 0 2<|ol 13 12<|ob 14 .eql 13 z0<|om 11 14 .done) (.cond 11 (sR (o1 15 (.ld (some 6) 2)<|o0 (.st 6 4 15)<|o1 5 (.mv z0) .done) .ret) (sR (oj 17 0 3<|ol 18 17<|ob 19 .eql 18 z0<|om 20 19<|oT 21 20 (.fld 0 2)<|oT 22 20 (.ld none 21)<|oT 23 20 (.bin .eql 22 (kZ 6))<|gP 24 20 23<|om 16 24 .done) (.cond 16 (sR (oj 26 5 2<|ol 27 26<|oj 28 1 3<|ol 29 28<|oc 30 a0 [27,29]<|om 25 30<|oe 31 25 0<|oe 32 25 1<|om 6 31<|om 7 32 .done) (.seq (sR (om 33 7<|o1 34 (.un .not 33) .done) (.cond 34 (sR (o1 35 (.ld (some 6) 2)<|o0 (.st 6 4 35)<|o1 5 (.mv z0) .done) .ret) .skip)) (.seq (.reg true (p1 36 (.fld 5 2)<|pl 37 36<|pm 38 6<|pm 39 6<|p1 40 (.bin .add 39 z1)<|p1 42 (.fld 4 2)<|pl 43 42<|pm 44 6<|pm 45 6<|p1 46 (.bin .add 45 z1)<|oc 41 a1 [37,38,40,nS]<|oc 47 a2 [43,44,46,nS]<|p1 48 (.bld [(0,1),(1,2),(3,1),(4,1),(5,1)] [(vZ 0),(vZ 0),(vZ 0),(Ag []),nV,nV] [(0,(kZ 6)),(4,41),(3,47)]) (.bar (o0 (.st 6 4 48) (p1 5 (.mv z0) .done))))) .ret))) (sR (oj 50 0 3<|ol 51 50<|ob 52 .eql 51 z1<|om 53 52<|oT 54 53 (.fld 0 2)<|oT 55 53 (.ld none 54)<|oT 56 53 (.bin .eql 55 (kZ 5))<|gP 57 53 56<|om 49 57 .done) (.cond 49 (sR (oj 58 2 3<|ol 59 58<|oj 60 4 2<|ol 61 60<|oL 62 61<|oc 63 a3 [59,62]<|om 8 63 .done) (.seq (sR (om 64 8<|ob 65 .lss 64 z0<|om 66 65<|gF 67 66 8<|oF 68 66 (.fld 4 2)<|oF 69 66 (.ld none 68)<|oF 70 66 (.len 69)<|oF 71 66 (.bin .geq 67 70)<|o1 72 (.pick 66 (.const (.bool true)) 71) .done) (.cond 72 (sR (o1 73 (.ld (some 6) 2)<|o0 (.st 6 4 73)<|o1 5 (.mv z0) .done) .ret) .skip)) (sR (oj 74 4 2<|ol 75 74<|om 76 8<|om 77 8<|ob 78 .add 77 z1<|oc 79 a2 [75,76,78,nS]<|o1 80 (.bld [(0,1),(1,2),(3,1),(4,1),(5,1)] [(vZ 0),(vZ 0),(vZ 0),(Ag []),nV,nV] [(0,(kZ 5)),(3,79)])<|o0 (.st 6 4 80)<|o1 5 (.mv z0) .done) .ret))) (sR (oj 82 0 3<|ol 83 82<|ob 84 .eql 83 z2<|om 85 84<|oT 86 85 (.fld 0 2)<|oT 87 85 (.ld none 86)<|oT 88 85 (.bin .eql 87 (kZ 5))<|gP 89 85 88<|om 81 89 .done) (.cond 81 (sR (o1 91 (.ld (some 6) 3)<|oj 92 4 2<|ol 93 92<|oL 94 93<|oc 95 a4 [91,94]<|om 90 95<|oe 96 90 0<|oe 97 90 1<|om 9 96<|om 10 97 .done) (sR (oj 98 4 2<|ol 99 98<|om 100 9<|om 101 10<|oc 102 a2 [99,100,101,nS]<|o1 103 (.bld [(0,1),(1,2),(3,1),(4,1),(5,1)] [(vZ 0),(vZ 0),(vZ 0),(Ag []),nV,nV] [(0,(kZ 5)),(3,102)])<|o0 (.st 6 4 103)<|o1 5 (.mv z0) .done) .ret)) .skip))))))))) (sR (o1 104 (.bld [(0,1),(1,2),(3,1),(4,1),(5,1)] [(vZ 0),(vZ 0),(vZ 0),(Ag []),nV,nV] [])<|o0 (.st 6 4 104)<|o1 5 (.mv (kZ 80)) .done) .ret)))⟩
set_option maxHeartbeats 2000000 in
def U4{f4 f5}(hd:dec P f=some (N5 f1 f2 f3 f4 f5))(h1:Ja P f1)(h2:Ih 1 A9 P f2)(h3:Ih 6 Az P f3)(h4:IB P f4)(h5:GB P f5):LB P f:=by
 intro d cs ds v s hv hone hs hb;refine Cq hd (Aca Z) ?_;have hr:=Ec hone;have b1:=GN (v:=v);have b2':=IX (v:=v);obtain⟨w,e,hF⟩:∃w e,BT v s=(w,e):=⟨_,_,Z⟩
 rw[hF];have hs':=hs;obtain⟨hds,ik',it',is,id⟩:=hs';subst hds;have hv0:=hv;obtain⟨lv,kv,rfl,ik,im,ie,it,hl,hks⟩:=hv.open;obtain⟨la,lc,rfl⟩:=RSl.val hl;obtain⟨ka,kc,rfl⟩:=RSl.val hks;have n1:=RSl.BW hl;show gwp P _ _ _ _ _;apply Ax;apply Ar;refine Bg (l:=[vZ v.kind,vZ v.m,vZ v.e,Ag v.text,.slice la v.list.length lc,.slice ka v.keys.length kc]) Z (fun b2 T2=>?_);refine Bg (l:=[vZ s.kind,Ag s.text,vZ s.src,vZ s.dst,.bool s.hf,.bool s.ht]) Z (fun b3 T3=>?_);(refine BV (fun _ _=>AL Z ?_));rename_i b4 T4;by_cases k0:v.kind=0
 ·rw[BT,if_pos k0] at hF;cases hF;refine Ax<|Am<|Aj<|Ae Z<|Al Z (An 2 Z Z)<|Ai Z Z<|Ao Z<|Bn Z<|Aj<|AP 2 Z Z Z<|Au 0 [vZ v.kind,vZ v.m,vZ v.e,Ag v.text,.slice la v.list.length lc,.slice ka v.keys.length kc] Z Z Z Z (Aca Z) Z Z<|AM Z<|By 0 Z Z Z hv0
 by_cases s0:s.kind=0
 ·by_cases v6:v.kind=6
  ·rw[BT,if_neg k0,if_pos ⟨s0,v6⟩] at hF;have hlens:=GV hone v6;refine Ax<|Am<|Aj<|Ae Z<|Al Z (An 2 Z Z)<|Ai Z Z<|Ao Z<|AH Z<|Aj<|Ae Z<|Al Z (An 1 Z Z)<|Ai Z Z<|Ac Z<|AA Z<|Aa Z<|Ae Z<|Aa Z<|Al Z (An 2 Z Z)<|Aa Z<|Ai Z Z<|Ah Z Z<|Ao Z<|Bn Z<|Aj<|Ae Z<|Al Z (An 2 Z Z)<|Ae Z<|Al Z (An 1 Z Z)<|AG Z (h1 hks hr) ?_;by_cases hm:s.text∈v.keys
   ·rw[if_pos hm] at hF;cases hF;obtain⟨hlo,_⟩:=(mem_iff hr).1 hm;have hm':(!decide (s.text∈v.keys))=false:=by simp[hm]
    (refine Bm Z<|Bx Z Z Z Z<|Ab Z<|Ao Z<|Ap<|Ac Z<|Bu Z<|Av ?_;apply EM;rfl;(with_reducible assumption);refine Ay<|Ax ?_);refine Bd<|Ae Z<|Al Z (An 2 Z Z)<|Ab Z<|Ab Z<|AY Z Z<|Ae Z<|Al Z (An 2 Z Z)<|Ab Z<|Ab Z<|AY Z Z<|Bi Z (h2 (i:=AT v.keys s.text) (j:=AT v.keys s.text+1) (ys:=[]) hks RSl.nil (by omega) (by omega) (by simp;omega)) (fun r d2 L2 hl2 ⟨hL,hr2⟩=>?_);subst hL;obtain⟨ra,rc,rfl⟩:=RSl.val hr2;refine Bi Z (h3 (i:=AT v.keys s.text) (j:=AT v.keys s.text+1) (ys:=[]) (Cw.mono hl hl2) RSl.nil (by omega) (by omega) (by simp;omega)) (fun r d4 L4 hl4 ⟨hL,hr4⟩=>?_);subst hL;obtain⟨sa,sc,rfl⟩:=RSl.val hr4;refine Qu Z Z Z<|B0<|Au 0 [vZ 6,vZ 0,vZ 0,Ag [],.slice sa _ sc,.slice ra _ rc] Z Z Z Z (Aca Z) Z Z<|AM Z<|By 0 Z Z Z (Az.close (v:=.mk 6 0 0 [] (v.list.take (AT v.keys s.text)++[]++v.list.drop (AT v.keys s.text+1)) (v.keys.take (AT v.keys s.text)++[]++v.keys.drop (AT v.keys s.text+1))) HM BY BY (by simp) hr4 (B9.mono hr2 hl4))
   ·rw[if_neg hm] at hF;cases hF;have hm':(!decide (s.text∈v.keys))=true:=by simp[hm]
    (refine Bm Z<|Bx Z Z Z Z<|Ab Z<|Ao Z<|Ap<|Ac Z<|Bu Z<|Av ?_;apply I0;rfl;(with_reducible assumption);refine Aj<|AP 2 Z Z Z ?_);refine Au 0 [vZ v.kind,vZ v.m,vZ v.e,Ag v.text,.slice la v.list.length lc,.slice ka v.keys.length kc] Z Z Z Z (Aca Z) Z Z<|AM Z<|By 0 Z Z Z hv0
  ·rw[BT,if_neg k0,if_neg (fun h=>v6 h.2),if_neg (fun h=>by omega),if_neg (fun h=>by omega)] at hF;cases hF;refine Ax<|Am<|Aj<|Ae Z<|Al Z (An 2 Z Z)<|Ai Z Z<|Ao Z<|AH Z<|Aj<|Ae Z<|Al Z (An 1 Z Z)<|Ai Z Z<|Ac Z<|AA Z<|Aa Z<|Ae Z<|Aa Z<|Al Z (An 2 Z Z)<|Aa Z<|Ai Z Z<|Ah Z Z<|Ao Z<|AH Z<|Aj<|Ae Z<|Al Z (An 1 Z Z)<|Ai Z Z<|Ac Z<|Aw Z<|Aq Z Z<|AF Z<|Af Z Z<|Ao Z<|A7 Z<|Aj<|Ae Z<|Al Z (An 1 Z Z)<|Ai Z Z<|Ac Z<|Aw Z<|Aq Z Z<|AF Z<|Af Z Z<|Ao Z<|A7 Z<|Ay<|Aj<|Bs<|Au 0 [vZ 0,vZ 0,vZ 0,Ag [],nV,nV] Z Z Z Z (Aca Z) Z Z<|AM Z<|By 0 Z Z Z Az.zero
 by_cases s1:s.kind=1
 ·by_cases v5:v.kind=5
  ·rw[BT,if_neg k0,if_neg (fun h=>s0 h.1),if_pos ⟨s1,v5⟩] at hF;obtain⟨p,hp⟩:∃p,BL s.src v.list.length=p:=⟨_,Z⟩
   rw[hp] at hF;refine Ax<|Am<|Aj<|Ae Z<|Al Z (An 2 Z Z)<|Ai Z Z<|Ao Z<|AH Z<|Aj<|Ae Z<|Al Z (An 1 Z Z)<|Ai Z Z<|Ac Z<|Aw Z<|Aq Z Z<|AF Z<|Af Z Z<|Ao Z<|A7 Z<|Aj<|Ae Z<|Al Z (An 1 Z Z)<|Ai Z Z<|Ac Z<|AA Z<|Aa Z<|Ae Z<|Aa Z<|Al Z (An 2 Z Z)<|Aa Z<|Ai Z Z<|Ah Z Z<|Ao Z<|Bn Z<|Aj<|Ae Z<|Al Z (An 1 Z Z)<|Ae Z<|Al Z (An 2 Z Z)<|AK Z<|AG Z (h4 is (by omega) (by omega)) ?_;rw[hp];by_cases q0:p<0
   ·rw[if_pos (.inl q0)] at hF;cases hF;refine A1 Z<|Ab Z<|As Z Z<|Ac Z<|AA Z<|Aq Z Z<|Aq Z Z<|AF Z<|Ah Z Z<|BK Z<|Aj<|AP 2 Z Z Z<|Au 0 [vZ v.kind,vZ v.m,vZ v.e,Ag v.text,.slice la v.list.length lc,.slice ka v.keys.length kc] Z Z Z Z (Aca Z) Z Z<|AM Z<|By 0 Z Z Z hv0
   by_cases q1:(v.list.length:Int)≤p
   ·rw[if_pos (.inr q1)] at hF;cases hF;refine A1 Z<|Ab Z<|As Z Z<|Ac Z<|Aw Z<|Aa Z<|Ab Z<|Aa Z<|Ae Z<|Aa Z<|Al Z (An 2 Z Z)<|Aa Z<|AK Z<|Aa Z<|A5 Z Z<|Af Z Z<|AE Z<|Aj<|AP 2 Z Z Z<|Au 0 [vZ v.kind,vZ v.m,vZ v.e,Ag v.text,.slice la v.list.length lc,.slice ka v.keys.length kc] Z Z Z Z (Aca Z) Z Z<|AM Z<|By 0 Z Z Z hv0
   rw[if_neg (fun h=>by omega)] at hF;cases hF;obtain⟨n,rfl⟩:∃n:Nat,p=(n:Int):=⟨p.toNat,by omega⟩
   simp only[Adc];refine A1 Z<|Ab Z<|As Z Z<|Ac Z<|Aw Z<|Aa Z<|Ab Z<|Aa Z<|Ae Z<|Aa Z<|Al Z (An 2 Z Z)<|Aa Z<|AK Z<|Aa Z<|A5 Z Z<|Af Z Z<|AJ Z<|Aj<|Ae Z<|Al Z (An 2 Z Z)<|Ab Z<|Ab Z<|AY Z Z<|Bi Z (h3 (i:=n) (j:=n+1) (ys:=[]) hl RSl.nil (by omega) (by omega) (by simp;omega)) (fun r d4 L4 hl4 ⟨hL,hr4⟩=>?_);subst hL;obtain⟨sa,sc,rfl⟩:=RSl.val hr4;(apply EI;rfl;rfl);refine Au 0 [vZ 5,vZ 0,vZ 0,Ag [],.slice sa _ sc,nV] Z Z Z Z (Aca Z) Z Z<|AM Z<|By 0 Z Z Z (Az.close (v:=.mk 5 0 0 [] (v.list.take n++[]++v.list.drop (n+1)) []) FX BY BY (by simp) hr4 RSl.nil)
  ·rw[BT,if_neg k0,if_neg (fun h=>s0 h.1),if_neg (fun h=>v5 h.2),if_neg (fun h=>by omega)] at hF;cases hF;refine Ax<|Am<|Aj<|Ae Z<|Al Z (An 2 Z Z)<|Ai Z Z<|Ao Z<|AH Z<|Aj<|Ae Z<|Al Z (An 1 Z Z)<|Ai Z Z<|Ac Z<|Aw Z<|Aq Z Z<|AF Z<|Af Z Z<|Ao Z<|A7 Z<|Aj<|Ae Z<|Al Z (An 1 Z Z)<|Ai Z Z<|Ac Z<|AA Z<|Aa Z<|Ae Z<|Aa Z<|Al Z (An 2 Z Z)<|Aa Z<|Ai Z Z<|Ah Z Z<|Ao Z<|AH Z<|Aj<|Ae Z<|Al Z (An 1 Z Z)<|Ai Z Z<|Ac Z<|Aw Z<|Aq Z Z<|AF Z<|Af Z Z<|Ao Z<|A7 Z<|Ay<|Aj<|Bs<|Au 0 [vZ 0,vZ 0,vZ 0,Ag [],nV,nV] Z Z Z Z (Aca Z) Z Z<|AM Z<|By 0 Z Z Z Az.zero
 by_cases s2:s.kind=2
 ·by_cases v5:v.kind=5
  ·rw[BT,if_neg k0,if_neg (fun h=>s0 h.1),if_neg (fun h=>s1 h.1),if_pos ⟨s2,v5⟩] at hF;cases hF;have hends:=D9 s (k:=v.list.length) (by omega);refine Ax<|Am<|Aj<|Ae Z<|Al Z (An 2 Z Z)<|Ai Z Z<|Ao Z<|AH Z<|Aj<|Ae Z<|Al Z (An 1 Z Z)<|Ai Z Z<|Ac Z<|Aw Z<|Aq Z Z<|AF Z<|Af Z Z<|Ao Z<|A7 Z<|Aj<|Ae Z<|Al Z (An 1 Z Z)<|Ai Z Z<|Ac Z<|Aw Z<|Aq Z Z<|AF Z<|Af Z Z<|Ao Z<|A7 Z<|Aj<|Ae Z<|Al Z (An 1 Z Z)<|Ai Z Z<|Ac Z<|AA Z<|Aa Z<|Ae Z<|Aa Z<|Al Z (An 2 Z Z)<|Aa Z<|Ai Z Z<|Ah Z Z<|Ao Z<|Bn Z<|Aj<|AP 1 Z Z Z<|Ae Z<|Al Z (An 2 Z Z)<|AK Z<|AG Z (h5 hs (by omega) (by omega)) ?_;obtain⟨A,B,hab⟩:∃A B:Int,Bv s v.list.length=(A,B):=⟨_,_,Z⟩
   rw[hab] at hends⊢;simp only at hends⊢;obtain⟨a,rfl⟩:∃a:Nat,A=(a:Int):=⟨A.toNat,by omega⟩
   obtain⟨b,rfl⟩:∃b:Nat,B=(b:Int):=⟨B.toNat,by omega⟩
   simp only[Adc];refine Bm Z<|Bx Z Z Z Z<|Ab Z<|Bt Z<|Ae Z<|Al Z (An 2 Z Z)<|Ab Z<|Ab Z<|Bi Z (h3 (i:=a) (j:=b) (ys:=[]) hl RSl.nil (by omega) (by omega) (by simp;omega)) (fun r d4 L4 hl4 ⟨hL,hr4⟩=>?_);subst hL;obtain⟨sa,sc,rfl⟩:=RSl.val hr4;(apply EI;rfl;rfl);refine Au 0 [vZ 5,vZ 0,vZ 0,Ag [],.slice sa _ sc,nV] Z Z Z Z (Aca Z) Z Z<|AM Z<|By 0 Z Z Z (Az.close (v:=.mk 5 0 0 [] (v.list.take a++[]++v.list.drop b) []) FX BY BY (by simp) hr4 RSl.nil)
  rw[BT,if_neg k0,if_neg (fun h=>s0 h.1),if_neg (fun h=>s1 h.1),if_neg (fun h=>v5 h.2)] at hF;cases hF;refine Ax<|Am<|Aj<|Ae Z<|Al Z (An 2 Z Z)<|Ai Z Z<|Ao Z<|AH Z<|Aj<|Ae Z<|Al Z (An 1 Z Z)<|Ai Z Z<|Ac Z<|Aw Z<|Aq Z Z<|AF Z<|Af Z Z<|Ao Z<|A7 Z<|Aj<|Ae Z<|Al Z (An 1 Z Z)<|Ai Z Z<|Ac Z<|Aw Z<|Aq Z Z<|AF Z<|Af Z Z<|Ao Z<|A7 Z<|Aj<|Ae Z<|Al Z (An 1 Z Z)<|Ai Z Z<|Ac Z<|AA Z<|Aa Z<|Ae Z<|Aa Z<|Al Z (An 2 Z Z)<|Aa Z<|Ai Z Z<|Ah Z Z<|Ao Z<|AH Z<|Ay<|Aj<|Bs<|Au 0 [vZ 0,vZ 0,vZ 0,Ag [],nV,nV] Z Z Z Z (Aca Z) Z Z<|AM Z<|By 0 Z Z Z Az.zero
 rw[BT,if_neg k0,if_neg (fun h=>s0 h.1),if_neg (fun h=>s1 h.1),if_neg (fun h=>s2 h.1)] at hF;cases hF;refine Ax<|Am<|Aj<|Ae Z<|Al Z (An 2 Z Z)<|Ai Z Z<|Ao Z<|AH Z<|Aj<|Ae Z<|Al Z (An 1 Z Z)<|Ai Z Z<|Ac Z<|Aw Z<|Aq Z Z<|AF Z<|Af Z Z<|Ao Z<|A7 Z<|Aj<|Ae Z<|Al Z (An 1 Z Z)<|Ai Z Z<|Ac Z<|Aw Z<|Aq Z Z<|AF Z<|Af Z Z<|Ao Z<|A7 Z<|Aj<|Ae Z<|Al Z (An 1 Z Z)<|Ai Z Z<|Ac Z<|Aw Z<|Aq Z Z<|AF Z<|Af Z Z<|Ao Z<|A7 Z<|Ay<|Aj<|Bs<|Au 0 [vZ 0,vZ 0,vZ 0,Ag [],nV,nV] Z Z Z Z (Aca Z) Z Z<|AM Z<|By 0 Z Z Z Az.zero
def B7:V→List St→V×Int
 |_,[]=>(V.zero,0)
 |v,[s]=>BT v s
 |v,s::s2::l=>if (A8 v s).2≠0∨(A8 v s).1.kind=0 then(v,(A8 v s).2) else if (B7 (A8 v s).1 (s2::l)).2≠0 then(v,(B7 (A8 v s).1 (s2::l)).2) else Cy v s (B7 (A8 v s).1 (s2::l)).1
def SH(v:V)(s:St):C8 (BT v s).1≤C8 v:=by
 have h3:=Ej v;have hz:C8 V.zero=1:=by decide
 have key:∀(i j:Nat),i≤j→∀ks:List (List UInt8),ks.length≤v.keys.length→C8 (.mk 5 0 0 [] (v.list.take i++[]++v.list.drop j) ks)≤C8 v∧C8 (.mk 6 0 0 [] (v.list.take i++[]++v.list.drop j) ks)≤C8 v:=by
  intro i j hij ks hk;have h4:=Kz (l:=v.list) hij;rw[Ej,Ej];show 1+ks.length+DR (v.list.take i++[]++v.list.drop j)≤_∧1+ks.length+DR (v.list.take i++[]++v.list.drop j)≤_;rw[Ev,Ev];simp only[DR];omega
 unfold BT;split
 ·exact Ack _
 split
 ·simp only;split
  ·exact(key _ _ (by omega) _ (by simp;omega)).2
  ·exact Ack _
 split
 ·simp only;split
  ·exact Ack _
  ·exact(key _ _ (by omega) _ (by simp)).1
 split
 ·have he:=D9 s (k:=v.list.length) (by omega);exact(key _ _ (by omega) _ (by simp)).1
 ·simp only[hz];omega
def Ke:∀(l:List St) (v:V),BG v≤1000000→C8 (B7 v l).1≤1000000+l.length*1004100
 |[],v,_=>by
  have hz:C8 V.zero=1:=by decide
  simp[B7,hz]
 |[s],v,hb=>by
  have h1:=SH v s;have h4:=FR v;simp only[B7,Adf];omega
 |s::s2::l,v,hb=>by
  have h2:=Ke (s2::l) (A8 v s).1 (Adp (D8 v s) hb);have h3:=TM v s (B7 (A8 v s).1 (s2::l)).1;have h4:=FR v;rw[B7];simp only[Acg] at h2⊢;split
  ·simp only;omega
  split
  ·simp only;omega
  ·omega
def O5(P:Program)(f:FuncId):Prop:=∀(l:List St) {d cs w}{v:V},Az d cs v→Gd v→BG v≤1000000→RSl 6 RSt d w l→l.length≤100→
 Be P f [.agg cs.toArray,w] d [] (Ret fun r d' L'=>L'=[]∧∃cs',r=.tuple #[.agg cs'.toArray,vZ (B7 v l).2]∧Az d' cs' (B7 v l).1)
def Sj(a0 a1 a2 a3:Nat):Bo:=⟨58,[(.cell 4 (some 6)),(.tmp 5)],(sR (o1 2 (.box 0)<|o1 4 (.alo (.agg #[(vZ 0),(vZ 0),(vZ 0),(Ag []),nV,nV]))<|o1 5 (.mv z0) .done) (.seq (sR (om 8 1<|oL 9 8 .done) (.block 0 (sR (ob 11 .eql 9 z0<|om 10 11 .done) (.cond 10 (sR (o1 12 (.bld [(0,1),(1,2),(3,1),(4,1),(5,1)] [(vZ 0),(vZ 0),(vZ 0),(Ag []),nV,nV] [])<|o0 (.st 6 4 12)<|o1 5 (.mv z0) .done) .ret) (sR (ob 14 .eql 9 z1<|om 13 14 .done) (.cond 13 (.seq (.reg true (p1 15 (.ld (some 6) 2)<|pm 16 1<|p1 17 (.idx 6 16 z0)<|p1 18 (.ld (some 6) 17)<|oc 19 a0 [15,18]<|p1 20 (.ext 19 0)<|p1 21 (.ext 19 1) (.bar (o0 (.st 6 4 20) (pm 5 21 .done))))) .ret) .skip)))))) (.seq (.reg true (pm 24 1<|p1 25 (.idx 6 24 z0)<|p1 26 (.ld (some 6) 25) (.alt ⟨(some 23),none,(.ld (some 6) 2)⟩ (.alt ⟨(some 27),none,(.call a1 [23,26])⟩ (pm 22 27 (p1 28 (.ext 22 0) (p1 29 (.ext 22 1) (o1 6 (.alo (.agg #[(vZ 0),(vZ 0),(vZ 0),(Ag []),nV,nV])) (o0 (.st 6 6 28) (pm 7 29 .done)))))) (o1 6 (.alo (.agg #[(vZ 0),(vZ 0),(vZ 0),(Ag []),nV,nV])) (oc 27 a1 [23,26] (pm 22 27 (p1 28 (.ext 22 0) (p1 29 (.ext 22 1) (o0 (.st 6 6 28) (pm 7 29 .done)))))))) (o1 6 (.alo (.agg #[(vZ 0),(vZ 0),(vZ 0),(Ag []),nV,nV])) (o1 23 (.ld (some 6) 2) (oc 27 a1 [23,26] (pm 22 27 (p1 28 (.ext 22 0) (p1 29 (.ext 22 1) (o0 (.st 6 6 28) (pm 7 29 .done))))))))))) (.seq (sR (om 30 7<|ob 31 .neq 30 z0<|om 32 31<|oF 33 32 (.fld 0 6)<|oF 34 32 (.ld none 33)<|oF 35 32 (.bin .eql 34 z0)<|o1 36 (.pick 32 (.const (.bool true)) 35) .done) (.cond 36 (sR (o1 37 (.ld (some 6) 2)<|om 38 7<|o0 (.st 6 4 37)<|om 5 38 .done) .ret) .skip)) (.seq (.reg true (pm 41 1<|p1 42 (.sl 6 41 (some z1) none none)<|o1 40 (.ld (some 6) 6)<|oc 43 a2 [40,42]<|pm 39 43<|p1 44 (.ext 39 0)<|p1 45 (.ext 39 1)<|o0 (.st 6 6 44)<|pm 7 45 .done)) (.seq (sR (om 46 7<|ob 47 .neq 46 z0 .done) (.cond 47 (sR (o1 48 (.ld (some 6) 2)<|om 49 7<|o0 (.st 6 4 48)<|om 5 49 .done) .ret) .skip)) (.seq (.reg true (p1 50 (.ld (some 6) 2)<|pm 51 1<|p1 52 (.idx 6 51 z0)<|p1 53 (.ld (some 6) 52)<|p1 54 (.ld (some 6) 6)<|oc 55 a3 [50,53,54]<|p1 56 (.ext 55 0)<|p1 57 (.ext 55 1) (.bar (o0 (.st 6 4 56) (pm 5 57 .done))))) .ret)))))))⟩
set_option maxHeartbeats 2000000 in
def Xx(hd:dec P f=some (Sj f1 f2 f f3))(h1:LB P f1)(h2:H5 P f2)(h3:Qx P f3):O5 P f:=by
 intro l;induction l with
 |nil=>
  intro d cs w v hv hg hb hw hll
  obtain⟨a,c,rfl⟩:=RSl.val hw
  refine Cq hd (Aca Z) ?_
  obtain⟨c0,c1,c2,c3,c4,c5,rfl⟩:=six hv.len
  show gwp P _ _ _ _ _
  apply Ax;apply Ar
  refine Bg (l:=[c0,c1,c2,c3,c4,c5]) Z (fun b2 T2=>?_)
  have hz:(([]:List St).length:Int)=0:=Z
  (refine BV (fun _ _=>A1 Z<|AR Z<|AK Z<|Av<|Am<|Aj<|Ai Z Z<|Ao Z<|Bn Z<|Aj<|Bs ?_))
  refine Au 0 [vZ 0,vZ 0,vZ 0,Ag [],nV,nV] Z Z Z Z (Aca Z) Z Z ?_
  (refine AM Z ?_)
  exact By 0 Z Z Z Az.zero
 |cons s l ih=>
  intro d cs w v hv hg hb hw hll
  have n1:=RSl.BW hw
  obtain⟨a,c,rfl⟩:=RSl.val hw
  have hw':=hw
  have hcb:=FR v
  refine Cq hd (Aca Z) ?_
  have hv0:=hv
  obtain⟨c0,c1,c2,c3,c4,c5,rfl⟩:=six hv.len
  show gwp P _ _ _ _ _
  apply Ax;apply Ar
  refine Bg (l:=[c0,c1,c2,c3,c4,c5]) Z (fun b2 T2=>?_)
  (refine BV (fun _ _=>AL Z ?_))
  rename_i b4 T4
  cases l with
  |nil=>
   have hz:(([s]:List St).length:Int)=1:=Z
   (refine Ap<|AR Z<|AK Z<|Av<|Am<|Aj<|Ai Z Z<|Ao Z<|AH Z<|Aj<|Ai Z Z<|Ao Z<|Bn Z<|Ax ?_)
   refine Bd ?_
   (refine AP 1 Z Z Z<|AR Z<|A2 (m:=0) (sz:=6) (R:=RSt) (by rfl) (by assumption) (by rfl) Z (by omega) ?_;rintro _ _ _ _ _ ⟨rfl,_,_,_,_⟩;apply CT;rfl;assumption;rfl)
   rename_i hcs hD ik' it' is id
   refine Bi Z (h1 hv (Fk hg) ⟨Z,ik',it',is,id⟩ (by omega)) (fun r d5 L5 hl5 ⟨hL,cs',hr,hR2⟩=>?_)
   subst hL;subst hr
   obtain⟨g0,g1,g2,g3,g4,g5,rfl⟩:=six hR2.len
   (refine Bx Z Z Z Z<|B0 ?_)
   refine Au 0 [g0,g1,g2,g3,g4,g5] Z Z Z Z (Aca Z) (AW _ _ _ hR2) Z ?_
   (refine AM Z ?_)
   exact By 0 Z Z Z hR2
  |cons s2 l=>
  have hz:((s::s2::l).length:Int)=l.length+2:=by simp;omega
  have hcnt:=Ke (s2::l) (A8 v s).1 (Adp (D8 v s) hb)
  have hll':(s2::l).length≤99:=by rw[Acg] at hll;omega
  (refine Ap<|AR Z<|AK Z<|Av<|Am<|Aj<|Ai Z Z<|Ao Z<|AH Z<|Aj<|Ai Z Z<|Ao Z<|AH Z ?_)
  apply Ay
  refine CJ (fun ρ d' L'=>d'=d∧∃b6 T6 e1 e2 e3 e4 e5,AZ ρ [(1,.slice a (s::s2::l).length c),(2,pZ b2),(4,pZ b4),(6,pZ b6),(7,vZ (A8 v s).2)]∧Az d [vZ (A8 v s).1.kind,e1,e2,e3,e4,e5] (A8 v s).1∧
   L'=[bx b4 T4 [vZ 0,vZ 0,vZ 0,Ag [],nV,nV],bx b2 T2 [c0,c1,c2,c3,c4,c5],bx b6 T6 [vZ (A8 v s).1.kind,e1,e2,e3,e4,e5]]) ?_ ?_
  ·refine Bd ?_
   (refine AR Z<|A2 (m:=0) (sz:=6) (R:=RSt) (by rfl) (by assumption) (by rfl) Z (by omega) ?_;rintro _ _ _ _ _ ⟨rfl,_,_,_,_⟩;apply CT;rfl;assumption;rfl)
   rename_i hcs hD ik' it' is id
   have hS:RSt d [vZ s.kind,Ag s.text,vZ s.src,vZ s.dst,.bool s.hf,.bool s.ht] s:=⟨Z,ik',it',is,id⟩
   refine G9 ?_ ?_
   ·(apply AP 1;rfl;rfl;rfl)
    refine G9 ?_ ?_
    ·refine Bi Z (h2 hv (Fk hg) (GY hg) hS) (fun r d3 L3 _ ⟨hdd,hL,cs',hr,hR'⟩=>?_)
     subst hdd;subst hL;subst hr
     obtain⟨lv',kv',rfl,_⟩:=hR'.open
     (refine Bm Z<|Bx Z Z Z Z<|BV (fun _ _=>?_))
     rename_i b6 T6
     refine Au 0 [vZ (A8 v s).1.kind,vZ (A8 v s).1.m,vZ (A8 v s).1.e,Ag (A8 v s).1.text,lv',kv'] Z Z Z Z (Aca Z) (AW _ _ _ hR') Z ?_
     (refine Ab Z<|AV ?_)
     exact⟨Z,b6,T6,_,_,_,_,_,⟨Z,Z,Z,Z,Z,trivial⟩,hR',Z⟩
    ·(apply BV;intro _ _)
     rename_i b6 T6
     refine Bi Z (h2 hv (Fk hg) (GY hg) hS) (fun r d3 L3 _ ⟨hdd,hL,cs',hr,hR'⟩=>?_)
     subst hdd;subst hL;subst hr
     obtain⟨lv',kv',rfl,_⟩:=hR'.open
     (refine Bm Z<|Bx Z Z Z Z ?_)
     refine Au 0 [vZ (A8 v s).1.kind,vZ (A8 v s).1.m,vZ (A8 v s).1.e,Ag (A8 v s).1.text,lv',kv'] Z Z Z Z (Aca Z) (AW _ _ _ hR') Z ?_
     (refine Ab Z<|AV ?_)
     exact⟨Z,b6,T6,_,_,_,_,_,⟨Z,Z,Z,Z,Z,trivial⟩,hR',Z⟩
   ·(refine BV (fun _ _=>AP 1 Z Z Z ?_))
    rename_i b6 T6
    refine Bi Z (h2 hv (Fk hg) (GY hg) hS) (fun r d3 L3 _ ⟨hdd,hL,cs',hr,hR'⟩=>?_)
    subst hdd;subst hL;subst hr
    obtain⟨lv',kv',rfl,_⟩:=hR'.open
    (refine Bm Z<|Bx Z Z Z Z ?_)
    refine Au 0 [vZ (A8 v s).1.kind,vZ (A8 v s).1.m,vZ (A8 v s).1.e,Ag (A8 v s).1.text,lv',kv'] Z Z Z Z (Aca Z) (AW _ _ _ hR') Z ?_
    (refine Ab Z<|AV ?_)
    exact⟨Z,b6,T6,_,_,_,_,_,⟨Z,Z,Z,Z,Z,trivial⟩,hR',Z⟩
  rintro ρ d' L' ⟨hdd,b6,T6,e1,e2,e3,e4,e5,hsl,hR,hL⟩
  subst hdd;subst hL
  refine A4 _ hsl ?_
  clear hsl
  rw[B7]
  by_cases he:(A8 v s).2≠0
  ·rw[if_pos (.inl he)]
   (refine Ap<|Ab Z<|AB Z Z<|Ac Z<|AA Z<|Aq Z Z<|AF Z<|Ah Z Z<|BK Z<|Aj<|AP 1 Z Z Z<|Ab Z ?_)
   refine Au 0 [c0,c1,c2,c3,c4,c5] Z Z Z Z (Aca Z) (AW _ _ _ hv0) Z ?_
   (refine AM Z ?_)
   exact By 0 Z Z Z hv0
  by_cases hk0:(A8 v s).1.kind=0
  ·rw[if_pos (.inr hk0)]
   (refine Ap<|Ab Z<|AB Z Z<|Ac Z<|Aw Z<|Aa Z<|Ae Z<|Aa Z<|Al Z (An 2 Z Z)<|Aa Z<|Ai Z Z<|Af Z Z<|AE Z<|Aj<|AP 1 Z Z Z<|Ab Z ?_)
   refine Au 0 [c0,c1,c2,c3,c4,c5] Z Z Z Z (Aca Z) (AW _ _ _ hv0) Z ?_
   (refine AM Z ?_)
   exact By 0 Z Z Z hv0
  rw[if_neg (fun h=>h.elim he hk0)]
  (refine Ap<|Ab Z<|AB Z Z<|Ac Z<|Aw Z<|Aa Z<|Ae Z<|Aa Z<|Al Z (An 2 Z Z)<|Aa Z<|Ai Z Z<|Af Z Z<|AJ Z<|Ax ?_)
  refine BS [bx b4 T4 [vZ 0,vZ 0,vZ 0,Ag [],nV,nV],bx b2 T2 [c0,c1,c2,c3,c4,c5]] [bx b6 T6 [vZ (A8 v s).1.kind,e1,e2,e3,e4,e5]] Z ?_
  (apply AR;rfl)
  refine DN (n:=1) Z hw' Z Z (by simp) (fun v' hv'=>?_)
  (apply AP 2;rfl;rfl;rfl)
  refine Bi Z (ih hR (Hv hg s) (Adp (D8 v s) hb) hv' (by omega)) (fun r d4 L4 hl4 ⟨hL,cs',hr,hR'⟩=>?_)
  subst hL;subst hr
  obtain⟨f0,f1,f2,f3,f4,f5,rfl⟩:=six hR'.len
  (refine Bm Z<|Bx Z Z Z Z ?_)
  refine Au 0 [f0,f1,f2,f3,f4,f5] Z Z Z Z (Aca Z) (AW _ _ _ hR') Z ?_
  have hv4:=Az.mono hl4 hv0
  by_cases he2:(B7 (A8 v s).1 (s2::l)).2≠0
  ·rw[if_pos he2]
   (refine Ab Z<|AV<|Ap<|Ab Z<|AB Z Z<|AE Z<|Aj<|AP 1 Z Z Z<|Ab Z ?_)
   refine Au 0 [c0,c1,c2,c3,c4,c5] Z Z Z Z (Aca Z) (AW _ _ _ hv0) Z ?_
   (refine AM Z ?_)
   exact By 0 Z Z Z hv4
  rw[if_neg he2]
  have hw4:RSl 6 RSt d4 (.slice a (s::s2::l).length c) (s::s2::l):=RSl.mono (R:=RSt) (fun hl h=>h) hw' hl4
  (refine Ab Z<|AV<|Ap<|Ab Z<|AB Z Z<|AJ Z<|Ax ?_)
  refine Bd ?_
  (refine AP 1 Z Z Z<|AR Z<|A2 (m:=0) (sz:=6) (R:=RSt) (by rfl) (by assumption) (by rfl) Z (by omega) ?_;rintro _ _ _ _ _ ⟨rfl,_,_,_,_⟩;refine CT Z (by assumption) Z<|AP 2 Z Z Z ?_)
  rename_i hcs hD ik' it' is id
  refine Bi Z (h3 hv4 (Fk hg) ⟨Z,ik',it',is,id⟩ hR' (by omega)) (fun r d5 L5 hl5 ⟨hL,cs',hr,hR2⟩=>?_)
  subst hL;subst hr
  obtain⟨g0,g1,g2,g3,g4,g5,rfl⟩:=six hR2.len
  (refine Bx Z Z Z Z<|B0 ?_)
  refine Au 0 [g0,g1,g2,g3,g4,g5] Z Z Z Z (Aca Z) (AW _ _ _ hR2) Z ?_
  (refine AM Z ?_)
  exact By 0 Z Z Z hR2
def Ct(v:V)(l:List St):V×Int:=if CR v l≠0 then(V.zero,CR v l) else if (B7 v l).2≠0 then(V.zero,(B7 v l).2) else((B7 v l).1,0)
def QP(T:Ad→Prop)(P:Program)(f:FuncId):Prop:=∀{d cs w}{v:V}{l:List St},T d→Az d cs v→RSl 6 RSt d w l→BG v≤1000000→l.length≤100→
 Be P f [.agg cs.toArray,w] d [] (Ret fun r d' L'=>d'=d∧∃cs' h,r=.tuple #[.agg cs'.toArray,vZ (Ct v l).2]∧L'=[h]∧Ds cs' (Ct v l).1 h)
def Sv(a0 a1 a2:Nat):Bo:=⟨28,[(.cell 4 (some 6)),(.tmp 5)],(sR (o1 2 (.box 0)<|o1 4 (.alo (.agg #[(vZ 0),(vZ 0),(vZ 0),(Ag []),nV,nV]))<|o1 5 (.mv z0) .done) (.seq (sR (o1 9 (.ld (some 6) 2)<|om 10 1<|oc 11 a0 [9,10]<|om 6 11 .done) (sR (om 12 6<|ob 13 .neq 12 z0 .done) (.cond 13 (sR (o1 14 (.bld [(0,1),(1,2),(3,1),(4,1),(5,1)] [(vZ 0),(vZ 0),(vZ 0),(Ag []),nV,nV] [])<|om 15 6<|o0 (.st 6 4 14)<|om 5 15 .done) .ret) .skip))) (sR (o1 17 (.ld (some 6) 2)<|om 18 1<|oc 19 a1 [17,18]<|om 16 19<|oe 20 16 0<|oe 21 16 1<|o1 7 (.alo (.agg #[(vZ 0),(vZ 0),(vZ 0),(Ag []),nV,nV]))<|o0 (.st 6 7 20)<|om 8 21 .done) (.seq (sR (om 22 8<|ob 23 .neq 22 z0 .done) (.cond 23 (sR (o1 24 (.bld [(0,1),(1,2),(3,1),(4,1),(5,1)] [(vZ 0),(vZ 0),(vZ 0),(Ag []),nV,nV] [])<|om 25 8<|o0 (.st 6 4 24)<|om 5 25 .done) .ret) .skip)) (sR (o1 26 (.ld (some 6) 7)<|oc 27 a2 [26]<|o0 (.st 6 4 27)<|o1 5 (.mv z0) .done) .ret)))))⟩
def YB{T:Ad→Prop}(hd:dec P f=some (Sv f1 f2 f3))(h1:MU T P f1)(h2:O5 P f2)(h3:J3 P f3):QP T P f:=by
 intro d cs w v l ht hv hw hbv hll;have n1:=RSl.BW hw;obtain⟨a,c,rfl⟩:=RSl.val hw;have hcnt:=Ke l v hbv;refine Be.forget (Q:=fun r L'=>∃cs' h,r=.tuple #[.agg cs'.toArray,vZ (Ct v l).2]∧L'=[h]∧Ds cs' (Ct v l).1 h) ?_;refine Cq hd (Aca Z) ?_;obtain⟨c0,c1,c2,c3,c4,c5,rfl⟩:=six hv.len;show gwp P _ _ _ _ _;apply Ax;apply Ar;refine Bg (l:=[c0,c1,c2,c3,c4,c5]) Z (fun b2 T2=>?_);(refine BV (fun _ _=>A1 Z<|AP 1 Z Z Z<|AR Z ?_));rename_i b4 T4;refine AG Z (h1 ht hv hw) ?_;by_cases q3:CR v l≠0
 ·rw[Ct,if_pos q3];(refine Bt Z<|Ab Z<|AB Z Z<|AE Z<|Aj<|Bs<|Ab Z ?_);refine Au 0 [vZ 0,vZ 0,vZ 0,Ag [],nV,nV] Z Z Z Z (Aca Z) Z Z ?_;(refine AM Z ?_);exact Im 0 Z Z Z Ds.zero HL
 rw[Ct,if_neg q3];have hgd:=HE (M3 (v:=v) (l:=l) (by omega)) (by omega);(refine Bt Z<|Ab Z<|AB Z Z<|AJ Z<|Aj<|AP 1 Z Z Z<|AR Z ?_);refine Bi Z (h2 l hv hgd hbv hw hll) (fun r d2 L2 hl2 ⟨hL,cs',hr,hR⟩=>?_);subst hL;subst hr;obtain⟨f0,f1',f2',f3',f4',f5,rfl⟩:=six hR.len;(refine Bm Z<|Bx Z Z Z Z<|BV (fun _ _=>?_));rename_i b7 T7;refine Au 0 [f0,f1',f2',f3',f4',f5] Z Z Z Z (Aca Z) (AW _ _ _ hR) Z ?_;by_cases q4:(B7 v l).2≠0
 ·rw[if_pos q4];(refine A1 Z<|Ab Z<|AB Z Z<|AE Z<|Aj<|Bs<|Ab Z ?_);refine Au 1 [vZ 0,vZ 0,vZ 0,Ag [],nV,nV] Z Z Z Z (Aca Z) Z Z ?_;(refine AM Z ?_);exact Im 1 Z Z Z Ds.zero HL
 rw[if_neg q4];(refine A1 Z<|Ab Z<|AB Z Z<|AJ Z<|Aj<|AP 0 Z Z Z ?_);refine Bi Z (h3 _ hR (by omega)) (fun r d3 L3 _ ⟨hdd,cs',g,hr,hL,ho⟩=>?_);subst hdd;subst hL;subst hr;obtain⟨e0,e1,e2,e3,e4,e5,rfl⟩:=six ho.cells.1;refine Au 2 [e0,e1,e2,e3,e4,e5] Z Z Z Z (Aca Z) ho.cells.2 Z ?_;(refine AM Z ?_);exact Im 2 Z Z Z ho (Vs.drop ((Acb _).cons_cons _))
end Go.Gk.Val
end
section
namespace Go.Gk.Val
open Go Go.Gk Go.Gk.Utf
section
attribute [local irreducible] gwp gws
end
end Go.Gk.Val
end
section
namespace Go.Gk
open Go
section
section
variable {P:Program}{pan:List PanicEntry→A0}{Qn:Env→A0}{Ls L:List Ad}{ρ:Env}{d:Ad}{s:GS}{t:Nat}{tk:Bool}
end
end
end Go.Gk
end
section
namespace Go.Gk.Val
open Go Go.Gk Go.Gk.Utf
section
attribute [local irreducible] gwp gws
end
end Go.Gk.Val
end
section
namespace Go.Gk.Val
open Go Go.Gk
section
section
variable {H:Type}{enc:TypeId×Value→H}{P:Program}{W:World}
def Abu{t ti ts tb}(hf:∃fs:Array Field,P.underlying t=some (.struct fs)∧(fs[0]?).map (fun f=>(f.offset,f.type))=some (0,ti)∧(fs[1]?).map (fun f=>(f.offset,f.type))=some (1,ts)∧(fs[2]?).map (fun f=>(f.offset,f.type))=some (2,ti)∧
   (fs[3]?).map (fun f=>(f.offset,f.type))=some (3,ti)∧(fs[4]?).map (fun f=>(f.offset,f.type))=some (4,tb)∧(fs[5]?).map (fun f=>(f.offset,f.type))=some (5,tb))
  (c:P.cellsOf t=6) (ci:P.cellsOf ti=1) (cs:P.cellsOf ts=1) (cb:P.cellsOf tb=1) (ui:P.underlying ti=some (.int .i64)) (us:P.underlying ts=some .string) (ub:P.underlying tb=some .bool):Rd enc P W t RSt:=by
 intro held fuel cs' x h hw
 obtain⟨fs,hu,f0,f1,f2,f3,f4,f5⟩:=hf
 obtain⟨hl,hfs⟩:=Wu hu h hw
 obtain⟨k,e0,hk⟩:=hfs 0 0 ti 1 f0 ci (Q9 ui)
 obtain⟨s,e1,hs⟩:=hfs 1 1 ts 1 f1 cs (V6 us)
 obtain⟨a,e2,ha⟩:=hfs 2 2 ti 1 f2 ci (Q9 ui)
 obtain⟨b,e3,hb⟩:=hfs 3 3 ti 1 f3 ci (Q9 ui)
 obtain⟨p,e4⟩:=hfs 4 4 tb 1 f4 cb (TE ub)
 obtain⟨q,e5⟩:=hfs 5 5 tb 1 f5 cb (TE ub)
 obtain⟨a0,a1,a2,a3,a4,a5,rfl⟩:=six (hl.trans c)
 simp only[List.drop,List.take,List.cons.injEq,and_true] at e0 e1 e2 e3 e4 e5
 subst e0;subst e1;subst e2;subst e3;subst e4;subst e5
 exact⟨⟨k,s,a,b,p,q⟩,Z,hk,hs,ha,hb⟩
end
end
end Go.Gk.Val
end
section
namespace Go.Gk.Val
open Go Go.Gk Go.Gk.Utf
attribute [local irreducible] gwp gws
def Ko(P:Program)(f:FuncId):Prop:=∀{d v ks g}{p:List UInt8→Bool},B9 d v ks→(∀k∈ks,AO P g [Ag k] d (.bool (p k)))→AO P f [v,.func (.func g) #[] #[]] d (.bool (ks.all p))
def Kv:Bo:=⟨18,[(.tmp 4)],(sR (o1 4 (.mv (.const (.bool false))) .done) (.seq (sR (om 7 0<|oL 8 7<|o1 9 (.mv z0) .done) (.block 0 (.loop (sR (ob 10 .lss 9 8 .done) (.seq (.cond 10 .skip (.exit 0)) (.seq (.block 1 (sR (oI 11 1 7 9<|ol 12 11<|om 6 12 .done) (sR (om 13 1<|om 14 6<|o1 15 (.callv 13 [14])<|o1 16 (.un .not 15) .done) (.cond 16 (sR (o1 4 (.mv (.const (.bool false))) .done) .ret) .skip)))) (rG (ob 17 .add 9 z1<|om 9 17 .done)))))))) (sR (o1 4 (.mv (.const (.bool true))) .done) .ret)))⟩
def SQ{P f}(hd:dec P f=some Kv):Ko P f:=by
 intro d v ks g p hv hg;have n1:=RSl.BW hv;obtain⟨pa,ca,rfl⟩:=RSl.val hv;have hv':RSl 1 A9 d (.slice pa ks.length ca) ks:=hv;refine AO.of' hd (Aca Z) ?_;show gwp P _ _ _ _ _;refine Aj<|Ao Z<|Ap<|AR Z<|AK Z<|AL Z<|Am<|DJ (α:=Nat) (fun i=>[(1,.func (.func g) #[] #[]),(7,.slice pa ks.length ca),(8,vZ ks.length),(9,vZ i)]) (fun _=>[]) (fun i=>i≤ks.length∧(ks.take i).all p=true) (fun i=>ks.length - i) 0 ⟨Z,Z,Z,Z,trivial⟩ Z ⟨Acu _,Z⟩ ?_;rintro i ρ ⟨hi,hall⟩;by_cases hc:i<ks.length
 ·(refine Aj<|As Z Z<|Cr<|Bn Z<|Ay<|Ax<|Am<|Aj<|A2 (sz:=1) (R:=A9) (by rfl) (by assumption) (by rfl) Z (by omega) ?_;rintro _ _ _ _ _ ⟨rfl,_⟩;refine Al Z (BQ (by assumption) Z)<|Ak Z<|Br<|Yr Z<|Ak Z ?_);refine Te (vs:=[Ag ks[i]]) Z Z (hg _ (Acq hc)) ?_;cases hs:p ks[i] with
  |false=>
   (refine Bu Z<|BK Z<|Aj<|Bk Z ?_)
   apply BF;rfl
   rw[eq_comm,←Aev,Acn]
   intro h;rw[h _ (Acq hc)] at hs;cases hs
  |true=>
   (refine Bu Z<|Bh Z<|Ar<|AY Z Z<|AL Z ?_)
   exact⟨i+1,by omega,⟨Z,Z,Z,int_eq (by omega),trivial⟩,Z,Z,hc,by rw[Acx hc,Age,hall];simp[hs]⟩
 ·obtain rfl:i=ks.length:=by omega
  rw[Aed] at hall;(refine Aj<|As Z Z<|Cr<|AH Z<|A6<|Aj<|Bk Z ?_);apply BF;rfl;exact hall.symm
end Go.Gk.Val
end
section
namespace Go.Gk.Val
open Go Go.Gk Go.Gk.Utf
section
attribute [local irreducible] gwp gws
end
end Go.Gk.Val
end
section
namespace Go.Gk.Jsn
open Go Go.Gk Go.Proofs Go.RowKit Go.Shelf
def UO(T:Ad→Prop)(P:Program)(f:FuncId):Prop:=∀{d l},T d→l≠[]→AO P f [Ag l] d (.tuple #[.int .i32 (((Lib.decodeL l).1:Nat):Int),vZ (((Lib.decodeL l).2:Nat):Int)])
def Z7{T:Ad→Prop}{P}{ρ:Ren}(L:Lays.n197 P ρ)(hc:Du P (ρ.f 197))(hT:∀d,T d→Jx (ρ.g 3) (ρ.g 4) d):UO T P (ρ.f 197):=by
 intro d l ht hne;refine AO.Nh hc (fun W hs=>?_);have:=Any.utf8_DecodeRuneInString L ⟨l.toArray⟩ W ((hT d ht).AaD hs);have e:Lib.decodeGo ⟨l.toArray⟩=Lib.decodeL l:=by
  have hs:(⟨l.toArray⟩:ByteArray).size=l.length:=by simp[ByteArray.size]
  have hp:0<l.length:=Adk.2 hne;have h0:=Utf.JG l 0;rw[List.drop_zero] at h0;unfold Lib.decodeGo;rw[if_neg (by rw[hs];omega)];exact h0
 rw[e] at this;exact this
end Go.Gk.Jsn
end
section
namespace Go.Gk.Val
open Go Go.Gk Go.Gk.Utf
attribute [local irreducible] gwp gws
def sgn(m:Int):Int:=if m<0 then -1 else if 0<m then 1 else 0
end Go.Gk.Val
end
section
namespace Go.Gk.Val
open Go Go.Gk Go.Gk.Utf Go.Proofs Go.RowKit Go.Shelf
attribute [local irreducible] gwp gws
variable{P:Program}{ρ:Ren}
def Gh{f args d v}(hc:Du P f)(h:∀W,Calls P f args.toArray W fun e W'=>e=.returned v∧W'=W):AO P f args d v:=
 ⟨hc,fun F W x=>(h W).mono fun e W' ⟨he,hw⟩=>⟨d,[],by subst hw;exact x,Le.refl d,by subst hw;exact Ca.refl _,by subst he;exact⟨Z,Z,Z⟩⟩⟩
def Px(P:Program)(f:FuncId):Prop:=∀{d}{u:Nat},u<18446744073709551616→AO P f [.int .u64 u] d (vZ (Lib.bitLen u:Nat))
def XK(L:Lays.n129 P ρ)(hc:Du P (ρ.f 129)):Px P (ρ.f 129):=fun{d u} hu=>
 Gh hc fun W=>Any.bits_Len64 L u W (by omega) (by omega)
def OW(P:Program)(f:FuncId):Prop:=∀{d}{x:Nat},x≤64→AO P f [vZ x] d (vZ (Lib.l10 x:Nat))
def Xi(L:Lays.n317 P ρ)(hc:Du P (ρ.f 317)):OW P (ρ.f 317):=fun{d x} hx=>
 Gh hc fun W=>Any.internal_strconv_log10Pow2 L x hx W
def MS(P:Program)(f:FuncId):Prop:=∀{d}{i:Nat},i<100→AO P f [vZ i] d (Ag (Lib.decDigits i))
def XI(L:Lays.n283 P ρ)(hc:Du P (ρ.f 283)):MS P (ρ.f 283):=fun{d i} hi=>
 Gh hc fun W=>Any.internal_strconv_small L i hi W
def US(P:Program)(f:FuncId):Prop:=∀{d}{b:Nat}{T l}{c u:Nat},u<18446744073709551616→l.take (Lib.nDigits u)=Adi (Lib.nDigits u) (.int .u8 0)→
 Be P f [.slice (some ⟨b,0,none⟩) (Lib.nDigits u) c,.int .u64 u] d [bx b T l] (Ret fun r d' L'=>d'=d∧∃l',L'=[bx b T l']∧l'.length=l.length∧l'.take (Lib.nDigits u)=(Lib.decDigits u).map Bb)
def Qz{hs W}{b:Nat}{T l}{f:Array Value→Array Value}(x:Ok (bx b T l::hs) W):Ok (bx b T (f l.toArray).toList::hs) (Sort.mapBlock W b f):=by
 have hb:=x.head b _ (CG _ _);refine x.write _ ?_;show W.heap.modify b (Sort.onCells f)=W.heap.setIfInBounds b (.cells (f l.toArray).toList.toArray T (0,0));apply Array.ext_getElem?;intro i;rw[Array.getElem?_modify,Array.getElem?_setIfInBounds];obtain⟨hg,hv⟩:=Array.getElem?_eq_some_iff.1 hb;by_cases e:b=i
 ·subst e;simp[hg,hv,Sort.onCells]
 ·simp[e]
def AaO(L:Lays.n285 P ρ)(hc:Du P (ρ.f 285)):US P (ρ.f 285):=by
 intro d b T l c u hu hz;generalize hn:Lib.nDigits u=n at*;have hnl:n≤l.length:=by
  have:=congrArg List.length hz;rw[Aco,List.length_replicate] at this;omega
 have h20:=Lib.nDigits_le20 u hu;have hlt:=Lib.lt_pow_nDigits u;refine⟨hc,fun F W hOk=>?_⟩
 have y:Ok (bx b T l::d::F) W:=hOk.perm (Adz _ _ _);have hb:=y.head b _ (CG _ _);have hH:Sort.Holds (fun(b:UInt8)=>Value.int .u8 (b.toNat:Int)) W b 0 (Array.replicate n (0:UInt8)):=fun j hj=>by
  have hj':j<n:=by simpa using hj
  refine⟨?_,by simp[World.frozen?,hb]⟩
  have:=congrArg (·[j]?) hz;simp only[List.getElem?_replicate,hj',if_true] at this;rw[Ada hj'] at this;simp only[World.cell?,hb,Adw];rw[getElem!_pos _ j hj];simpa using this
 have hk:=Any.internal_strconv_formatBase10 L b 0 c u (Array.replicate n (0:UInt8)) W hH (by rw[Array.size_replicate,←hn];exact hlt) hu (by rw[Array.size_replicate];omega);rw[Array.size_replicate] at hk;refine hk.mono ?_;rintro e W' ⟨rfl,m,v',dk,rfl,hinv⟩;have hdk:dk.size=n:=hinv.size;refine⟨d,[bx b T (Sort.putCells (fun(b:UInt8)=>Value.int .u8 (b.toNat:Int)) 0 dk l.toArray).toList],?_,Le.refl d,⟨Z,Z,Z,?_⟩,Z,_,Z,by simp[Sort.putCells],?_⟩
 ·have z:=(Qz (f:=Sort.putCells (fun(b:UInt8)=>Value.int .u8 (b.toNat:Int)) 0 dk) y)
  exact(z.perm (Adz _ _ _)).same Z
 ·show W.heap.size≤(W.heap.modify b _).size;simp
 ·have hdl:=Lib.decDigits_length u;apply Aes;intro j;by_cases hj:j<n
  ·have hjd:j<(Lib.decDigits u).length:=by rw[hdl,hn];exact hj
   have hrow:=Lib.row_is_numeral (u:=u) (v':=v') (dk:=dk) (by rw[hn];exact hinv) j hjd;have hjl:j<l.length:=by omega
   rw[Ada hj,Aej,Acf hjd,hrow];simp[Sort.putCells,hjl,hdk,hj,Bb]
  ·rw[Acz (by rw[Aco];omega),Acz (by rw[Adq,hdl];omega)]
def Pc(P:Program)(f:FuncId):Prop:=∀{d}{b:Bool},AO P f [.bool b] d (vZ (if b then 1 else 0))
def HF:Bo:=⟨4,[(.tmp 2)],(sR (o1 2 (.mv z0) .done) (.seq (sR (om 3 0 .done) (.cond 3 (sR (o1 2 (.mv z1) .done) .ret) .skip)) (sR (o1 2 (.mv z0) .done) .ret)))⟩
def X6{f}(hd:dec P f=some HF):Pc P f:=by
 intro d b;refine AO.of' hd (Aca Z) ?_;show gwp P _ _ _ _ _;cases b with
 |true=>
  (refine AD Z<|Bw<|Ao Z<|Ci Z<|AD Z<|Bz ?_)
  exact CX Z
 |false=>
  (refine AD Z<|Bw<|Ao Z<|A7 Z<|Ay<|AD Z<|Bz ?_)
  exact CX Z
def NU(T:Ad→Prop)(P:Program)(f:FuncId):Prop:=∀{d}{u:Nat},T d→1≤u→u<18446744073709551616→AO P f [.int .u64 u] d (vZ (Lib.nDigits u:Nat))
def HK(a0 a1 a2 a3:Nat):Bo:=⟨15,[(.tmp 2)],(sR (o1 2 (.mv z0) .done) (sR (om 4 0<|oc 5 a0 [4]<|oc 6 a1 [5]<|om 3 6 .done) (sR (om 7 3<|om 8 0<|om 9 3<|o1 10 (.idxa 20 1 (.global a2) 9)<|ol 11 10<|ob 12 .geq 8 11<|oc 13 a3 [12]<|ob 14 .add 7 13<|om 2 14 .done) .ret)))⟩
def Zb{T:Ad→Prop}{f f1 f2 g3 f4}(hT:∀d,T d→DCs d g3 0 Ij)(hd:dec P f=some (HK f1 f2 g3 f4))(h1:Px P f1)(h2:OW P f2)(h4:Pc P f4):NU T P f:=by
 intro d u ht hu1 hu2;obtain⟨he,hl⟩:=Lib.numDigits_eq u hu1 hu2;have hb:Lib.bitLen u≤64:=Lib.bitLen_le u 64 (Ack _) hu2;have htab:DC d g3 (Lib.l10 (Lib.bitLen u)) (.int .u64 ((10 ^ Lib.l10 (Lib.bitLen u):Nat):Int)):=by
  have:=(hT d ht).at (i:=Lib.l10 (Lib.bitLen u)) (by simp[Ij,show Lib.l10 (Lib.bitLen u)<20 by omega];rfl);rwa [Adw] at this
 refine AO.of' hd (Aca Z) ?_;show gwp P _ _ _ _ _;refine AD Z<|Br<|Ab Z<|AG Z (h1 hu2)<|AG Z (h2 hb) ?_;generalize hlg:Lib.l10 (Lib.bitLen u)=n at*;refine Bt Z<|Ab Z<|Ab Z<|Ab Z<|Dd n Z Z Z (by omega)<|Al Z (C0 (by rw[Aex,Adw];exact htab)) ?_;(apply A5;rfl;rfl);refine AG Z h4 ?_;have hlen:(if (decide (((10 ^ n:Nat):Int)≤(u:Int))) then(1:Int) else 0)=((if 10 ^ n≤u then 1 else 0:Nat):Int):=by
  by_cases q:10 ^ n≤u
  ·have q2:((10 ^ n:Nat):Int)≤(u:Int):=by omega
   rw[if_pos q,if_pos (by simpa using q2)];rfl
  ·have q2:¬((10 ^ n:Nat):Int)≤(u:Int):=by omega
   rw[if_neg q,if_neg (by simpa using q2)];rfl
 have hnd:=Lib.nDigits_le20 u hu2;rw[hlen];clear hlen;generalize (if 10 ^ n≤u then 1 else 0:Nat)=m at*;have hm:m≤20:=by omega
 (refine AY Z Z<|AM Z ?_);apply C7;rfl;omega
end Go.Gk.Val
end
section
namespace Go.Gk
open Go
section
variable {P:Program}{pan:List PanicEntry→A0}{Qn:Env→A0}{Ls L:List Ad}{ρ:Env}{d:Ad}{s:GS}
def Pu{α:Type}{sz by_ t:Nat}{R:Ad→List Value→α→Prop}{z:List Value}{x y:Operand}{v w:Value}{xs ys:List α}{h:Ad}(hR:Kl R)(ex:ev ρ x=v)(ho:AQ sz R d v xs h)
  (ey:ev ρ y=w) (hs:Src sz R d (Ls++(h::L)++(h::L)) w ys) (hsz:0<sz) (hm:xs.length+ys.length≤140737488355328) (hb:(xs.length+ys.length)*by_≤140737488355328)
  (k:∀a c d',Le d d'→RSl sz R d' (.slice a (xs++ys).length c) (xs++ys)→gws P pan Qn s Ls (upd ρ t (.slice a (xs++ys).length c)) d' L):gws P pan Qn (.op false ⟨some t,none,.app sz by_ z x y⟩ s) Ls ρ d (h::L):=by
 obtain⟨cs,h1,h2⟩:=ho
 obtain⟨news,k1,k2,k3⟩:=hs
 have hl:=h1.1
 refine Oq 0 ex Z h1 ey k1 k2 hsz hm hb (fun v' h' o=>⟨join d h',L,Vs.freeze,?_⟩)
 have hg:AQ sz R d v' (xs++ys) h':=by
  refine⟨cs++news,by rw[Acd];exact o,fun j hj=>?_⟩
  by_cases e:j<xs.length
  ·rw[EG hl e,List.getElem_append_left e];exact h2 j e
  ·rw[El hl (by omega),List.getElem_append_right (by omega)];exact k3 _ (by simp at hj;omega)
 have hr:=hg.rsl hR hsz (Le.B8 d h') (Le.CM d h')
 obtain⟨a,c,rfl⟩:=hr.val
 exact k a c _ (Le.B8 d h') hr
def Vk{α:Type}{sz by_ t0 t1 t2:Nat}{R:Ad→List Value→α→Prop}{z:List Value}{x y:Operand}{vx vy:Value}{xs ys:List α}(hR:Kl R)(hc:Ir R)(hsz:0<sz)(_:(t0==t1)=false)
  (rx:RSl sz R d vx xs) (ry:RSl sz R d vy ys) (ex:∀u,ev (upd ρ t0 u) x=vx) (ey:∀u w,ev (upd (upd ρ t0 u) t1 w) y=vy) (hb:(xs.length+ys.length)*by_≤140737488355328) (hm:xs.length+ys.length≤140737488355328)
  (k:∀v0 v1 a c d',Le d d'→RSl sz R d' (.slice a (xs++ys).length c) (xs++ys)→gws P pan Qn s Ls (upd (upd (upd ρ t0 v0) t1 v1) t2 (.slice a (xs++ys).length c)) d' L):
  gws P pan Qn (.op false ⟨some t0,none,.bsl 0 sz z []⟩ (.op false ⟨some t1,none,.app sz by_ z (.tmp t0) x⟩ (.op false ⟨some t2,none,.app sz by_ z (.tmp t1) y⟩ s))) Ls ρ d L:=by
 have up:∀(ρ:Env) (t:Nat) (v:Value),ev (upd ρ t v) (.tmp t)=v:=fun ρ t v=>by simp[ev,upd]
 refine GM (cs:=[]) (by simp) (by simp[Instr.fill,BZ]) (fun b T=>?_)
 have hm1:xs.length*by_≤140737488355328:=Adp (Adv _ (by omega)) hb
 refine Dc (R:=R) 0 (up _ _ _) Z (AQ.QJ (R:=R) (sz:=sz)) (ex _) (rx.src hc hsz _) hsz (by simp;omega) (by simpa using hm1) (fun v1 h1 o1=>?_)
 rw[Aer] at o1
 exact Pu (R:=R) hR (up _ _ _) o1 (ey _ _) (ry.src hc hsz _) hsz hm hb (fun a c d' hl hr=>k _ _ a c d' hl hr)
def JZ{α:Type}{sz by_ t0 t1:Nat}{R:Ad→List Value→α→Prop}{z:List Value}{x:Operand}{vx:Value}{xs:List α}(_:Kl R)(hc:Ir R)(hsz:0<sz)
  (rx:RSl sz R d vx xs) (ex:∀u,ev (upd ρ t0 u) x=vx) (hb:xs.length*by_≤140737488355328) (hm:xs.length≤140737488355328)
  (k:∀v0 v1 h1,AQ sz R d v1 xs h1→gws P pan Qn s Ls (upd (upd ρ t0 v0) t1 v1) d (h1::L)):
  gws P pan Qn (.op false ⟨some t0,none,.bsl 0 sz z []⟩ (.op false ⟨some t1,none,.app sz by_ z (.tmp t0) x⟩ s)) Ls ρ d L:=by
 have up:∀(ρ:Env) (t:Nat) (v:Value),ev (upd ρ t v) (.tmp t)=v:=fun ρ t v=>by simp[ev,upd]
 refine GM (cs:=[]) (by simp) (by simp[Instr.fill,BZ]) (fun b T=>?_)
 refine Dc (R:=R) 0 (up _ _ _) Z (AQ.QJ (R:=R) (sz:=sz)) (ex _) (rx.src hc hsz _) hsz (by simp;omega) (by simpa using hb) (fun v1 h1 o1=>?_)
 rw[Aer] at o1
 exact k _ _ _ o1
end
end Go.Gk
namespace Go.Gk
open Go
section
variable {P:Program}{pan:List PanicEntry→A0}{Qn:Env→A0}{Ls L:List Ad}{ρ:Env}{d:Ad}{s:GS}{t:Nat}{tk:Bool}
def Aak{x y}{a b:Int}(ex:ev ρ x=vZ a)(ey:ev ρ y=vZ b)(h:∀u,(-9223372036854775808≤a+b→a+b≤9223372036854775807→u=a+b)→gws P pan Qn s Ls (upd ρ t (vZ u)) d L):
  gws P pan Qn (.op tk ⟨some t,none,.bin .add x y⟩ s) Ls ρ d L:=
 Dg (by rw[ex,ey];simp[De]) (h (IntKind.i64.wrap (a+b)) (fun h1 h2=>Fo h1 h2))
end
end Go.Gk
namespace Go.Gk
open Go
def EF{l vs}{o k:Nat}(h:o+vs.length≤l.length):(patch l o vs)[k]?=if o≤k∧k<o+vs.length then vs[k - o]? else l[k]?:=by
 unfold patch;have hl:(l.take o).length=o:=by rw[Aco];omega
 by_cases h1:k<o
 ·rw[if_neg (by omega),Ach,Aet (by omega),Ada h1]
 by_cases h2:k<o+vs.length
 ·rw[if_pos ⟨by omega,h2⟩,Aet (by rw[Acd];omega),Ahb (by omega),hl]
 ·rw[if_neg (by omega),Ahb (by rw[Acd];omega),Aeg,Acd,hl];congr 1;omega
def P3{l vs}{o:Nat}(h:o+vs.length≤l.length):(patch l o vs).length=l.length:=by
 unfold patch;simp only[Acd,Aco,Acl];omega
def Uv{l vs}{o n:Nat}(h:o+vs.length≤n)(hn:n≤l.length):(patch l o vs).take n=patch (l.take n) o vs:=by
 refine Aes fun k=>?_;have hl:(l.take n).length=n:=by rw[Aco];omega
 rw[EF (by omega)];by_cases hk:k<n
 ·rw[Ada hk,Ada hk,EF (by omega)]
 ·rw[if_neg (by omega),Acz (by rw[Aco];omega),Acz (by omega)]
def Gb{cs}{i sz k:Nat}:(chunk cs i sz)[k]?=if k<sz then cs[i*sz+k]? else none:=by
 unfold chunk;by_cases h:k<sz
 ·rw[Ada h,Aeg,if_pos h]
 ·rw[if_neg h,Acz (by rw[Aco];omega)]
def SF{cs vs}{i m sz n:Nat}(hl:cs.length=n*sz)(hv:vs.length=sz)(hm:m<n):chunk (patch cs (m*sz) vs) i sz=if i=m then vs else chunk cs i sz:=by
 have h1:m*sz+sz≤n*sz:=by have:=Adv sz (show m+1≤n from hm);rwa [Aeo,Agz] at this
 refine Aes fun k=>?_;rw[Gb];by_cases e:i=m
 ·subst e;rw[if_pos Z];by_cases hk:k<sz
  ·rw[if_pos hk,EF (by omega),if_pos (by omega)];congr 1;omega
  ·rw[if_neg hk,Acz (by omega)]
 ·rw[if_neg e,Gb];by_cases hk:k<sz
  ·rw[if_pos hk,if_pos hk,EF (by omega),if_neg];rintro⟨a,b⟩;rcases Nat.lt_or_gt_of_ne e with q|q
   ·have:=Adv sz (show i+1≤m from q);rw[Aeo,Agz] at this;omega
   ·have:=Adv sz (show m+1≤i from q);rw[Aeo,Agz] at this;omega
  ·rw[if_neg hk,if_neg hk]
def YW{P}{pan:List PanicEntry→A0}{Qn:Env→A0}{Ls ρ d g}(h:∀d',Le d d'→Le g d'→Qn ρ d' Ls):gws P pan Qn .done Ls ρ d [g]:=
 ⟨join d g,Ls,(Vs.perm List.perm_append_comm:Vs d (Ls++[g]) d ([g]++Ls)).trans Vs.freeze,h _ (Le.B8 _ _) (Le.CM _ _)⟩
def AQ.Mv{α}{sz:Nat}{R d v}{xs:List α}{h}(_:0<sz)(o:AQ sz R d v xs h){m:Nat}(hm:m<xs.length):
  ∃b T l c,v=.slice (some ⟨b,0,none⟩) xs.length c∧h=bx b T l∧m*sz+sz≤l.length∧∀cs' x,cs'.length=sz→R d cs' x→AQ sz R d v (xs.set m x) (bx b T (patch l (m*sz) cs')):=by
 obtain⟨cs,⟨h1,h2,⟨rfl,h0,rfl⟩|⟨b,T,l,c,rfl,rfl,h3,h4,h5,h6⟩⟩,hr⟩:=o
 ·omega
 ·have hmz:m*sz+sz≤xs.length*sz:=by have:=Adv sz (show m+1≤xs.length from hm);rwa [Aeo,Agz] at this
  have hcz:xs.length*sz≤c*sz:=Adv sz h3
  refine⟨b,T,l,c,Z,Z,by omega,fun cs' x hl hx=>⟨patch cs (m*sz) cs',?_,fun i hi=>?_⟩⟩
  ·have hp:(patch cs (m*sz) cs').length=cs.length:=P3 (by omega)
   refine⟨by rw[hp,Afm,h1],by rw[Afm];exact h2,.inr ⟨b,T,_,c,by rw[Afm],Z,by rw[Afm];exact h3,h4,by rw[P3 (by omega)];exact h5,?_⟩⟩
   rw[hp,Uv (by omega) (by omega),h6]
  ·rw[SF h1 hl hm]
   rw[Afm] at hi
   by_cases e:i=m
   ·subst e
    rw[if_pos Z,List.getElem_set_self];exact hx
   ·rw[if_neg e,List.getElem_set_ne (fun q=>e q.symm)];exact hr i hi
end Go.Gk
end
section
namespace Go.Gk
open Go
section
def AQ.ofBytes{d v xs h}(o:B5 1 v xs.length (xs.map Bb) h):AQ 1 Cd d v xs h:=by
 refine⟨xs.map Bb,o,fun i hi=>?_⟩
 simp only[Cd,chunk,Aex,←List.map_drop,←List.map_take];rw[List.drop_eq_getElem_cons hi];rfl
def Km(q:Nat)(l:List UInt8)(pos:Nat):Ad:=sg q (.stringIter ⟨l.toArray⟩ pos)
section
variable {P:Program}{pan:List PanicEntry→A0}{Qn:Env→A0}{Ls L:List Ad}{ρ:Env}{d:Ad}{s:GS}{t:Nat}
def Z2{by_:Nat}{z x y}(i:Nat){v}{n:Nat}{xs l0 h}(ex:ev ρ x=v)(hi:L[i]?=some h)(ho:B5 1 v n xs h)
  (ey:ev ρ y=Ag l0) (hm:n+l0.length≤140737488355328) (hb:(n+l0.length)*by_≤140737488355328)
  (k:∀v' h',B5 1 v' (n+l0.length) (xs++l0.map Bb) h'→∃d2 L2,Vs d (L.set i h') d2 L2∧gws P pan Qn s Ls (upd ρ t v') d2 L2):gws P pan Qn (.op false ⟨some t,none,.mop (.aps by_ z x y)⟩ s) Ls ρ d L:=by
 have hxl:=ho.1
 have hl:(l0.map Bb).length=l0.length*1:=by simp
 have hlen:(xs++l0.map Bb).length=(n+l0.length)*1:=by rw[Acd,hxl,hl,Aeo]
 refine⟨d,L,Vs.refl d L,?_⟩
 simp only[gop,gi,mi,maxLen]
 obtain⟨h2,h3,⟨rfl,rfl,rfl⟩|⟨b,T,l,c,rfl,rfl,h4,h5,h6,h7⟩⟩:=ho
 ·have hxs:xs=[]:=Acm (by simpa using hxl)
  subst hxs
  refine⟨none,0,0,l0,ex,ey,by omega,by omega,fun hle=>.inl ?_,fun hlt=>⟨by simpa using hb,[],by simp,fun _=>Z,(fun _ h=>nomatch h),fun b T c' hc1 hc2=>?_⟩⟩
  ·have hn:l0=[]:=Acm (by omega)
   subst hn
   obtain⟨d2,L2,hv,hg⟩:=k nV emp (by simpa using B5.nil 1)
   have e:L.set i emp=L:=by
    obtain⟨hlt,he⟩:=Acj.1 hi;rw[←he];simp
   rw[e] at hv
   exact⟨Z,d2,L2,hv,by simpa [put] using hg⟩
  ·have o:B5 1 (.slice (some ⟨b,0,none⟩) (0+l0.length) c') (0+l0.length) ([]++l0.map Bb) (bx b T (l0.map Bb++BZ z ((c' - (0+l0.length))*1))):=by
    refine B5.mk hlen hm (by omega) hc2 ?_ ?_
    ·simp only[Aer,Acd,hl,BZ,Adq,List.length_range];omega
    ·simp
   obtain⟨d2,L2,hv,hg⟩:=k _ _ o
   exact⟨d2,L2,(Vs.put hi).trans hv,by simpa [put] using hg⟩
 ·refine⟨_,n,c,l0,ex,ey,by omega,h5,fun hle=>.inr ⟨i,b,0,T,l,Z,hi,?_,?_⟩,fun hlt=>⟨hb,xs,hxl,(fun h=>nomatch h),fun a' ha j u hu=>?_,fun b' T' c' hc1 hc2=>?_⟩⟩
  ·omega
  ·refine k (.slice (some ⟨b,0,none⟩) (n+l0.length) c) (bx b T (patch l (0+n*1) (l0.map Bb))) (B5.mk hlen hm hle h5 ?_ ?_)
   ·simp only[patch,Acd,Aco,Acl]
    omega
   ·rw[hlen,Aeo]
    have e1:l.take (n*1)=xs:=by rw[←hxl];exact h7
    simp only[patch,Adw,e1]
    rw[←hl,←hxl,←Acd]
    exact List.take_left
  ·cases ha
   rw[Addr.add_lit,Adw]
   refine⟨Z,bx b T l,.inr (List.mem_append_right _ (Aei hi)),l.toArray,T,(0,0),CG _ _,?_⟩
   have hj:j<xs.length:=(Acj.1 hu).1
   rw[←h7] at hu
   rw[Ada (by omega)] at hu
   simpa using hu
  ·have o:B5 1 (.slice (some ⟨b',0,none⟩) (n+l0.length) c') (n+l0.length) (xs++l0.map Bb) (bx b' T' (xs++l0.map Bb++BZ z ((c' - (n+l0.length))*1))):=by
    refine B5.mk hlen hm hc1 hc2 ?_ ?_
    ·simp only[Acd,hxl,hl,BZ,Adq,List.length_range];omega
    ·exact List.take_left
   obtain⟨d2,L2,hv,hg⟩:=k _ _ o
   exact⟨d2,L2,(Vs.put hi).trans hv,by simpa [put] using hg⟩
def UZ{by_:Nat}{z x y}(i:Nat){v xs l h}(ex:ev ρ x=v)(hi:L[i]?=some h)(ho:AQ 1 Cd d v xs h)
  (ey:ev ρ y=Ag l) (hm:xs.length+l.length≤140737488355328) (hb:(xs.length+l.length)*by_≤140737488355328)
  (k:∀v' h',AQ 1 Cd d v' (xs++l) h'→gws P pan Qn s Ls (upd ρ t v') d (L.set i h')):gws P pan Qn (.op false ⟨some t,none,.mop (.aps by_ z x y)⟩ s) Ls ρ d L:=
 Z2 i ex hi ho.bytes ey hm hb fun v' h' o=>⟨d,_,Vs.refl _ _,k v' h' (AQ.ofBytes (by rw[Acd,List.map_append];exact o))⟩
def Aby{x l}(ex:ev ρ x=Ag l)(h:∀q,gws P pan Qn s Ls (upd ρ t (pZ q)) d (Km q l 0::L)):gws P pan Qn (.op false ⟨some t,none,.mop (.rgs x)⟩ s) Ls ρ d L:=
 ⟨d,L,Vs.refl d L,l,ex,fun q=>⟨_,_,Vs.refl _ _,h q⟩⟩
def Abr{x}{q pos:Nat}{l}(i:Nat)(hi:L[i]?=some (Km q l pos))(ex:ev ρ x=pZ q)
  (h1:pos<l.length→gws P pan Qn s Ls (upd ρ t (.tuple #[.bool true,vZ ((pos:Nat):Int),.int .i32 (((Lib.decodeL (l.drop pos)).1:Nat):Int)])) d (L.set i (Km q l (pos+(Lib.decodeL (l.drop pos)).2))))
  (h2:l.length≤pos→gws P pan Qn s Ls (upd ρ t (.tuple #[.bool false])) d L):gws P pan Qn (.op false ⟨some t,none,.mop (.nxs x)⟩ s) Ls ρ d L:=
 ⟨d,L,Vs.refl d L,i,q,l,pos,hi,ex,fun e=>⟨_,_,Vs.refl _ _,by rw[Utf.JG];exact h1 e⟩,fun e=>⟨_,_,Vs.refl _ _,h2 e⟩⟩
def Hd(n:Nat){dst:Option Nat}{m:String}{x T v g args R vs}(ex:ev ρ x=.iface T v)(hm:J5 P T m=some g)
  (ea:args.map (ev ρ)=vs) (hc:Be P g (v::vs) d (L.take n) (Ret R))
  (h:∀v d' L',Le d d'→R v d' L'→gws P pan Qn s Ls (put ρ dst v) d' (L'++L.drop n)):gws P pan Qn (.op false ⟨dst,none,.inv m x args⟩ s) Ls ρ d L:=
 ⟨d,L,Vs.refl d L,T,v,g,L.take n,L.drop n,Ret R,ex,hm,by simp,by rw[ea];exact hc,fun e d' L' hl hr=>by
  cases e with
  |returned v=>exact⟨_,_,Vs.refl _ _,h v d' L' hl hr⟩
  |panicked c=>exact hr.elim
  |outgrown=>exact hr⟩
end
end
section
section
variable {P:Program}{r:Option Nat}{n:Nat}
end
end
end Go.Gk
end
section
namespace Go.Gk
open Go Go.Conc
end Go.Gk
end
section
namespace Go.Gk
open Go Go.Conc
end Go.Gk
end
section
namespace Go.Gk
open Go Go.Conc
section
section
variable {P:Program}{n:Nat}{ds:List Deferred}{ops:Array Oper}{F:List Ad}
end
end
section
section
variable {P:Program}{ops:Array Oper}{k:Nat}{o:Oper}{a:Act}{W:World}{c cap s r:Nat}{buf:Array Value}{tm:Bool}
end
end
section
section
variable {Fe:Fence}{m:Nat}{P:Program}
end
section
variable {P:Program}{n:Nat}{ds:List Deferred}{ops:Array Oper}{F:List Ad}{W0:World}{d0:Ad}
end
end
end Go.Gk
end
section
namespace Go.Gk
open Go Go.Conc
end Go.Gk
end
section
namespace Go.Gk
open Go
variable{x:Operand}
section
section
variable {P:Program}{Q:CZ}{ρ:Env}{d:Ad}{L:List Ad}
end
section
variable {P:Program}{Q:CZ}{ρ:Env}{d:Ad}{L:List Ad}
end
end
section
section
variable {P:Program}{pan:List PanicEntry→A0}{Qn:Env→A0}{Ls L:List Ad}{ρ:Env}{d:Ad}{s:GS}{t:Nat}{tk:Bool}
def Wo{ρ}{t:Nat}{v}:ev (upd ρ t v) (.tmp t)=v:=by simp[ev,upd]
def Z9{t1 t2:Nat}{z y}{b:UInt8}{v xs h zb}(ex:ev ρ x=Bb b)(ho:AQ 1 Cd d v xs h)(ey:∀u,ev (upd ρ t1 u) y=v)(hm:xs.length+1≤140737488355328)
  (k:∀u v' h',AQ 1 Cd d v' (xs++[b]) h'→gws P pan Qn s Ls (upd (upd ρ t1 u) t2 v') d (h'::L)):
  gws P pan Qn (.op false ⟨some t1,none,.bsl 1 1 [zb] [(0,x)]⟩ (.op false ⟨some t2,none,.app 1 1 z y (.tmp t1)⟩ s)) Ls ρ d (h::L):=by
 refine Ff (v0:=Bb b) ex Z (fun q T=>?_)
 exact Ei (R:=Cd) 0 (ey _) Z ho Wo (AQ.G7 (l:=[b]) Z Z (by simp)) E2 (by omega) (by simpa using hm) (by simpa using hm) (fun v' h' o=>k _ v' h' o)
def Hz{t1 t2:Nat}{z x' y}{b b':UInt8}{v xs h zb}(ex:ev ρ x=Bb b)(ex':ev ρ x'=Bb b')(ho:AQ 1 Cd d v xs h)(ey:∀u,ev (upd ρ t1 u) y=v)(hm:xs.length+2≤140737488355328)
  (k:∀u v' h',AQ 1 Cd d v' (xs++[b,b']) h'→gws P pan Qn s Ls (upd (upd ρ t1 u) t2 v') d (h'::L)):
  gws P pan Qn (.op false ⟨some t1,none,.bsl 2 1 [zb] [(0,x),(1,x')]⟩ (.op false ⟨some t2,none,.app 1 1 z y (.tmp t1)⟩ s)) Ls ρ d (h::L):=by
 refine UF (v0:=Bb b) (v1:=Bb b') ex Z ex' Z (fun q T=>?_)
 exact Ei (R:=Cd) 0 (ey _) Z ho Wo (AQ.G7 (l:=[b,b']) Z Z (by simp)) E2 (by omega) (by simpa using hm) (by simpa using hm) (fun v' h' o=>k _ v' h' o)
def JQ{y}{a b:Int}(ex:ev ρ x=.int .u8 a)(ey:ev ρ y=.int .u8 b)(h1:0≤a - b)(h2:a - b≤255)
  (h:gws P pan Qn s Ls (upd ρ t (.int .u8 (a - b))) d L):gws P pan Qn (.op tk ⟨some t,none,.bin .sub x y⟩ s) Ls ρ d L:=
 Dg (by
  have e:IntKind.u8.wrap (a - b)=a - b:=by simp[IntKind.wrap,IntKind.signed,IntKind.bits];omega
  rw[ex,ey];simp[De,e]) h
def TB{y}{a b:Int}(ex:ev ρ x=vZ a)(ey:ev ρ y=vZ b)(h:gws P pan Qn s Ls (upd ρ t (.agg [vZ a,vZ b].toArray)) d L):
  gws P pan Qn (.op tk ⟨some t,none,.bld [(0,1),(1,1)] [vZ 0,vZ 0] [(0,x),(1,y)]⟩ s) Ls ρ d L:=
 B2 (cs:=[vZ a,vZ b]) (by simp[Instr.fill,ex,ey,Value.cells]) h
end
end
section
section
variable {P:Program}{pan:List PanicEntry→A0}{Qn:Env→A0}{Ls L:List Ad}{ρ:Env}{d:Ad}{s:GS}{t:Nat}{tk:Bool}
end
end
section
section
variable {κ ν:Type}(kE:κ→Value) (vE:ν→Value)
def FK(ms:List (κ×ν×Nat)):List MapEntry:=ms.map fun p=>⟨kE p.1,vE p.2.1,p.2.2⟩
def mp(b:Nat)(ms:List (κ×ν×Nat))(c:Nat):Ad:=sg b (.map (FK kE vE ms).toArray c)
end
section
variable {κ ν:Type} [DecidableEq κ]
def mIx(k:κ):List (κ×ν×Nat)→Nat→Option (Nat×ν)
 |[],_=>none
 |p::ms,i=>if k=p.1 then some (i,p.2.1) else mIx k ms (i+1)
def FD(k:κ):List (κ×ν×Nat)→Option ν
 |[]=>none
 |p::ms=>if k=p.1 then some p.2.1 else FD k ms
def EW(k:κ)(v:ν)(c:Nat):List (κ×ν×Nat)→List (κ×ν×Nat)
 |[]=>[(k,v,c)]
 |p::ms=>if k=p.1 then(p.1,v,p.2.2)::ms else p::EW k v c ms
def Pl(k:κ)(c:Nat)(ms:List (κ×ν×Nat)):Nat:=if (FD k ms).isSome then c else c+1
def Ul(kd:Nat)(kE:κ→Value):Prop:=∀a b,eq1 kd (kE a) (kE b)=some (decide (a=b))
def KV{kd:Nat}{kE:κ→Value}{vE:ν→Value}(hk:Ul kd kE)(k:κ):∀(ms:List (κ×ν×Nat)) (i:Nat),FH kd (kE k) (FK kE vE ms) i=some ((mIx k ms i).map fun p=>(p.1,vE p.2))
 |[],i=>rfl
 |p::ms,i=>by
  have ih:=KV (vE:=vE) hk k ms (i+1);have e:eq1 kd (kE k) (kE p.1)=some (decide (k=p.1)):=hk k p.1;show FH kd (kE k) (⟨kE p.1,vE p.2.1,p.2.2⟩::FK kE vE ms) i=_;rw[FH,mIx];simp only[e];by_cases h:k=p.1
  ·simp only[h,decide_true,if_true];rfl
  ·simp only[h,decide_false,if_false];exact ih
def Pp(k:κ):∀(ms:List (κ×ν×Nat)) (i:Nat),(mIx k ms i).map (·.2)=FD k ms
 |[],_=>rfl
 |p::ms,i=>by
  rw[mIx,FD];by_cases h:k=p.1
  ·simp[h]
  ·rw[if_neg h,if_neg h];exact Pp k ms (i+1)
def X7{kE:κ→Value}{vE:ν→Value}(k:κ)(v:ν)(c:Nat)(ms:List (κ×ν×Nat)):
  upO (FK kE vE ms) c (kE k) (vE v) ((mIx k ms 0).map fun p=>(p.1,vE p.2))=.map (FK kE vE (EW k v c ms)).toArray (Pl k c ms):=by
 have key:∀(ms:List (κ×ν×Nat)) (i:Nat),(∀j u,mIx k ms i=some (j,u)→i≤j∧(FK kE vE ms).modify (j - i) (fun e:MapEntry=>{e with val:=vE v})=FK kE vE (EW k v c ms))∧
   (mIx k ms i=none→FK kE vE ms++[(⟨kE k,vE v,c⟩:MapEntry)]=FK kE vE (EW k v c ms)):=by
  intro ms
  induction ms with
  |nil=>intro i;exact⟨fun j u h=>(by cases h),fun _=>Z⟩
  |cons p ms ih=>
   intro i
   rw[mIx,EW]
   by_cases h:k=p.1
   ·rw[if_pos h,if_pos h]
    refine⟨fun j u e=>?_,fun e=>by cases e⟩
    cases e
    refine⟨Ack _,?_⟩
    rw[Aeu];simp[FK]
   ·rw[if_neg h,if_neg h]
    obtain⟨h1,h2⟩:=ih (i+1)
    refine⟨fun j u e=>?_,fun e=>?_⟩
    ·obtain⟨h3,h4⟩:=h1 j u e
     refine⟨by omega,?_⟩
     rw[show j - i=(j - (i+1))+1 by omega]
     simp only[FK,Adx,List.modify_succ_cons] at h4⊢
     rw[h4]
    ·have:=h2 e
     simp only[FK,Adx,Aff] at this⊢
     rw[this]
 have hg:=Pp k ms 0
 cases hq:mIx k ms 0 with
 |none=>
  rw[hq] at hg
  simp only[Option.map_none,upO,Pl,←hg,Option.isSome_none,Bool.false_eq_true,if_false]
  rw[(key ms 0).2 hq]
 |some p=>
  obtain⟨j,u⟩:=p
  rw[hq] at hg
  simp only[Aeh,upO,Pl,←hg,Option.isSome_some,if_true]
  have:=((key ms 0).1 j u hq).2
  rw[Nat.sub_zero] at this
  rw[this]
def V8:Ul 1 Ag:=fun a b=>by
 show eq1 1 (.string ⟨a.toArray⟩) (.string ⟨b.toArray⟩)=_;show some ((⟨a.toArray⟩:ByteArray)==⟨b.toArray⟩)=_;have h:((⟨a.toArray⟩:ByteArray)==⟨b.toArray⟩)=(a.toArray==b.toArray):=Z;rw[h];congr 1;by_cases e:a=b
 ·subst e;simp
 ·have:a.toArray≠b.toArray:=fun h=>e (by simpa using h);simp[e]
end
section
variable {κ ν:Type}{kE:κ→Value}{vE:ν→Value}
variable {P:Program}{pan:List PanicEntry→A0}{Qn:Env→A0}{Ls L:List Ad}{ρ:Env}{d:Ad}{s:GS}{t:Nat}
def Abo(kE:κ→Value)(vE:ν→Value)(h:∀b,gws P pan Qn s Ls (upd ρ t (.map (some b))) d (mp kE vE b [] 0::L)):gws P pan Qn (.op false ⟨some t,none,.mop .mk⟩ s) Ls ρ d L:=
 ⟨d,L,Vs.refl d L,fun b=>⟨_,_,Vs.refl _ _,h b⟩⟩
def Aa6 [DecidableEq κ] {kd:Nat}{x y z}{b c:Nat}{ms:List (κ×ν×Nat)}{k:κ}{v:ν}(hk:Ul kd kE) (i:Nat) (hi:L[i]?=some (mp kE vE b ms c)) (ex:ev ρ x=.map (some b)) (ey:ev ρ y=kE k) (ez:ev ρ z=vE v)
  (h:gws P pan Qn s Ls ρ d (L.set i (mp kE vE b (EW k v c ms) (Pl k c ms)))):gws P pan Qn (.op false ⟨none,none,.mop (.up kd x y z)⟩ s) Ls ρ d L:=
 ⟨d,L,Vs.refl d L,i,b,FK kE vE ms,c,_,hi,ex,by rw[ey];exact KV hk k ms 0,_,_,Vs.refl _ _,by rw[ey,ez,X7];exact h⟩
def XZ{b c i:Nat}{ms:List (κ×ν×Nat)}(hi:(Ls++L)[i]?=some (mp kE vE b ms c)):Is d ((Ls++L)++L) (.map (some b)) (FK kE vE ms):=
 .inr ⟨b,c,Z,_,.inr (Aep _ (Aei hi)),CG _ _⟩
def Abn [DecidableEq κ] {kd:Nat}{z x y}{b c:Nat}{ms:List (κ×ν×Nat)}{k:κ}{v:ν}(hk:Ul kd kE) (i:Nat) (hi:(Ls++L)[i]?=some (mp kE vE b ms c)) (ex:ev ρ x=.map (some b)) (ey:ev ρ y=kE k) (hg:FD k ms=some v)
  (h:gws P pan Qn s Ls (upd ρ t (vE v)) d L):gws P pan Qn (.op false ⟨some t,none,.mop (.lk kd z false x y)⟩ s) Ls ρ d L:=by
 refine⟨d,L,Vs.refl d L,FK kE vE ms,_,by rw[ex];exact XZ hi,by rw[ey];exact KV hk k ms 0,_,_,Vs.refl _ _,?_⟩
 have:=Pp k ms 0
 rw[hg] at this
 cases hq:mIx k ms 0 with
 |none=>rw[hq] at this;cases this
 |some p=>rw[hq] at this;simp at this;subst this;exact h
def mit(q b n:Nat)(seen:List Nat):Ad:=sg q (.mapIter (some b) n seen.toArray n)
def Abv{b c:Nat}{ms:List (κ×ν×Nat)}(kE:κ→Value)(vE:ν→Value)(i:Nat)(hi:(Ls++L)[i]?=some (mp kE vE b ms c))(ex:ev ρ x=.map (some b))
  (h:∀q,gws P pan Qn s Ls (upd ρ t (pZ q)) d (mit q b c []::L)):gws P pan Qn (.op false ⟨some t,none,.mop (.rng x)⟩ s) Ls ρ d L:=
 ⟨d,L,Vs.refl d L,b,(FK kE vE ms).toArray,c,ex,⟨_,.inr (Aep _ (Aei hi)),CG _ _⟩,fun q=>⟨_,_,Vs.refl _ _,h q⟩⟩
def Aa8{q b c:Nat}{ms:List (κ×ν×Nat)}{seen:List Nat}(kE:κ→Value)(vE:ν→Value)(j:Nat)(hj:L[j]?=some (mit q b c seen))(i:Nat)(hi:(Ls++L)[i]?=some (mp kE vE b ms c))(ex:ev ρ x=pZ q)
  (hs:∀p∈ms,p.2.2<c) (h0:seen≠[]→ms≠[])
  (h1:∀p∈ms,p.2.2∉seen→gws P pan Qn s Ls (upd ρ t (.tuple #[.bool true,kE p.1,vE p.2.1])) d (L.set j (mit q b c (seen++[p.2.2]))))
  (h2:(∀p∈ms,p.2.2∈seen)→gws P pan Qn s Ls (upd ρ t (.tuple #[.bool false])) d L):gws P pan Qn (.op false ⟨some t,none,.mop (.nxt x)⟩ s) Ls ρ d L:=by
 refine⟨d,L,Vs.refl d L,j,q,b,c,seen.toArray,c,FK kE vE ms,c,hj,ex,⟨_,.inr (Aep _ (Aei hi)),CG _ _⟩,?_,fun e he hb=>⟨_,_,Vs.refl _ _,?_⟩,fun ha=>⟨_,_,Vs.refl _ _,h2 fun p hp=>?_⟩⟩
 ·by_cases e:seen=[]
  ·subst e;exact .inl Z
  ·obtain⟨p,hp⟩:=List.exists_mem_of_ne_nil _ (h0 e)
   exact .inr ⟨_,Aey hp,hs p hp⟩
 ·obtain⟨p,hp,rfl⟩:=List.mem_map.1 he
  have:=h1 p hp (by simpa using hb)
  have e:seen.toArray.push p.2.2=(seen++[p.2.2]).toArray:=by simp
  simp only[mit] at this
  rw[←e] at this
  exact this
 ·have:=ha ⟨kE p.1,vE p.2.1,p.2.2⟩ (Aey hp) (hs p hp)
  simpa using this
def Abh{q b c:Nat}{ms:List (κ×ν×Nat)}{seen:List Nat}{p:κ×ν×Nat}(kE:κ→Value)(vE:ν→Value)(j:Nat)(hj:(Ls++L)[j]?=some (mit q b c (seen++[p.2.2])))(i:Nat)(hi:(Ls++L)[i]?=some (mp kE vE b ms c))(ex:ev ρ x=pZ q)
  (hm:p∈ms) (hn:(ms.map (·.2.2)).Nodup) (h:gws P pan Qn s Ls (upd ρ t (.tuple #[kE p.1,vE p.2.1])) d L):gws P pan Qn (.op false ⟨some t,none,.mop (.ent x)⟩ s) Ls ρ d L:=by
 refine⟨d,L,Vs.refl d L,q,b,c,(seen++[p.2.2]).toArray,c,p.2.2,FK kE vE ms,⟨kE p.1,vE p.2.1,p.2.2⟩,ex,⟨_,.inr (Aep _ (Aei hj)),CG _ _⟩,by simp,⟨_,.inr (Aep _ (Aei hi)),CG _ _⟩,?_,_,_,Vs.refl _ _,h⟩
 clear hi h
 induction ms with
 |nil=>cases hm
 |cons a ms ih=>
  rw[Adx,List.nodup_cons] at hn
  show List.find? _ (⟨kE a.1,vE a.2.1,a.2.2⟩::FK kE vE ms)=_
  rw[List.find?_cons]
  rcases List.mem_cons.1 hm with rfl|hm
  ·simp
  ·have hne:a.2.2≠p.2.2:=fun e=>hn.1 (by rw[e];exact Aey hm)
   have:((a.2.2:Nat)==p.2.2)=false:=by simpa using hne
   simp only[this]
   exact ih hm hn.2
end
end
end Go.Gk
end
section
namespace Go.Gk
open Go
def Rq:∀(cs:List Value) (k off:Nat) (a:Array Value),off+k+cs.length≤a.size→(cs.zipIdx k).foldl (fun(a:Array Value) (p:Value×Nat)=>a.setIfInBounds (off+p.2) p.1) a=(patch a.toList (off+k) cs).toArray
 |[],k,off,a,h=>by simp[patch]
 |c::cs,k,off,a,h=>by
  simp only[Acg] at h;rw[List.zipIdx_cons,List.foldl_cons,Rq cs (k+1) off _ (by simp;omega)];congr 1;have h1:off+k<a.toList.length:=by simp;omega
  simp only[Array.toList_setIfInBounds];apply Aes;intro i;rw[EF (by simp;omega),EF (by simp;omega)];simp only[Acg];by_cases e:i=off+k
  ·subst e;rw[if_neg (by omega),if_pos ⟨by omega,by omega⟩,Aeu,List.getElem?_set_self h1];rfl
  ·by_cases e2:off+(k+1)≤i∧i<off+(k+1)+cs.length
   ·rw[if_pos e2,if_pos ⟨by omega,by omega⟩,show i - (off+k)=(i - (off+(k+1)))+1 by omega,List.getElem?_cons_succ]
   ·rw[if_neg e2,if_neg (by omega),List.getElem?_set_ne (by omega)]
def V0{place:Nat→Option (Nat×Nat)}{a}{i off sz:Nat}{v}{ps:List (Nat×Value)}(hp:place i=some (off,sz))(hs:v.cells.size=sz)(ho:off+sz≤a.length):
  Instr.fill place a.toArray ((i,v)::ps)=Instr.fill place (patch a off v.cells.toList).toArray ps:=by
 rw[Instr.fill]
 simp only[hp]
 rw[if_neg (by simp[hs];omega)]
 congr 1
 have:=Rq v.cells.toList 0 off a.toArray (by simp[hs];omega)
 rw[Nat.add_zero] at this
 have e:v.cells.zipIdx.foldl (fun cs (c,j)=>cs.setIfInBounds (off+j) c) a.toArray=(v.cells.toList.zipIdx 0).foldl (fun(a:Array Value) (p:Value×Nat)=>a.setIfInBounds (off+p.2) p.1) a.toArray:=by
  rw[←Array.foldl_toList,Array.toList_zipIdx]
 exact e.trans this
def Va{l cs}(h:l.length=cs.length):patch l 0 cs=cs:=by simp[patch,h]
section
variable {P:Program}{pan:List PanicEntry→A0}{Qn:Env→A0}{Ls L:List Ad}{ρ:Env}{d:Ad}{s:GS}{t:Nat}{tk:Bool}
def BR{l}(h:∀b T,gws P pan Qn s Ls (upd ρ t (pZ b)) d (bx b T l::L)):
  gws P pan Qn (.op false ⟨some t,none,.alo (.agg l.toArray)⟩ s) Ls ρ d L:=BV h
def Abs{x}{n b o:Nat}{T l}(cs:List Value)(i:Nat)(e:ev ρ x=.pointer (some ⟨b,o,none⟩))(hi:(lk tk Ls L)[i]?=some (bx b T l))(hn:cs.length=n)(hc:∀j u,cs[j]?=some u→l[o+j]?=some u)
  (h:gws P pan Qn s Ls (upd ρ t (.agg cs.toArray)) d L):gws P pan Qn (.op tk ⟨some t,none,.ld (some n) x⟩ s) Ls ρ d L:=
 w_q Z ⟨b,o,cs,e,hn,fun j u hu=>An i hi (hc j u hu),Z⟩ h
def OB{sz:Nat}{z cs x}(ex:ev ρ x=.agg cs.toArray)(hz:z.length=sz)(hc:cs.length=sz)(hs:sz≤16777216)(h:∀b T,gws P pan Qn s Ls (upd ρ t (.slice (some ⟨b,0,none⟩) 1 1)) d (bx b T cs::L)):
  gws P pan Qn (.op false ⟨some t,none,.bsl 1 sz z [(0,x)]⟩ s) Ls ρ d L:=by
 refine GM (cs:=cs) (by omega) ?_ h
 simp only[Adx,Afl,ex]
 rw[V0 (off:=0) (sz:=sz) (by simp) (by simpa [Value.cells] using hc) (by simp[BZ])]
 rw[Instr.fill,show(Value.agg cs.toArray).cells.toList=cs from Z,Va (by simp[BZ,hc])]
end
def AQ.at{α}{sz:Nat}{R d v}{xs:List α}{h}(hsz:0<sz)(o:AQ sz R d v xs h){m:Nat}(hm:m<xs.length):
  ∃b T l c cs,v=.slice (some ⟨b,0,none⟩) xs.length c∧h=bx b T l∧cs.length=sz∧(∀j u,cs[j]?=some u→l[m*sz+j]?=some u)∧m*sz+sz≤l.length∧R d cs xs[m]∧
   ∀cs' x,cs'.length=sz→R d cs' x→AQ sz R d v (xs.set m x) (bx b T (patch l (m*sz) cs')):=by
 obtain⟨b,T,l,c,e1,e2,e3,e4⟩:=o.Mv hsz hm
 obtain⟨cs,⟨h1,h2,⟨q1,h0,q2⟩|⟨b',T',l',c',q1,q2,h3,h4,h5,h6⟩⟩,hr⟩:=o
 ·omega
 ·have hmz:m*sz+sz≤xs.length*sz:=by have:=Adv sz (show m+1≤xs.length from hm);rwa [Aeo,Agz] at this
  have hbl:l'.toArray=l.toArray∧b'=b:=by
   rw[e2] at q2;have:=(congrFun (congrFun q2 b) (.cells l.toArray T (0,0))).mp (CG _ _);obtain⟨z1,z2⟩:=IE this;injection z2 with z3
   exact⟨z3.symm,z1.symm⟩
  have hl':l'=l:=by simpa using hbl.1
  subst hl'
  refine⟨b,T,l',c,chunk cs m sz,e1,e2,?_,fun j u hu=>?_,e3,hr m hm,e4⟩
  ·exact Qe h1 hm
  ·rw[Gb] at hu
   split at hu
   ·rename_i hj
    rw[←h6,List.getElem?_take] at hu
    split at hu
    ·exact hu
    ·cases hu
   ·cases hu
def AQ.zero{α:Type}{sz:Nat}{R:Ad→List Value→α→Prop}{d:Ad}{b n:Nat}{T:TypeId}{z:List Value}{x:α}(hz:z.length=sz)(_:0<sz)(hx:R d z x)(hn:n≤140737488355328):
  AQ sz R d (.slice (some ⟨b,0,none⟩) n n) (Adi n x) (bx b T (BZ z (n*sz))):=by
 refine AQ.lit (by simp) (by simp[BZ]) (by simpa using hn) (fun i hi=>?_)
 have hin:i<n:=by simpa using hi
 have:chunk (BZ z (n*sz)) i sz=z:=by
  refine Aes fun k=>?_;rw[Gb];by_cases hk:k<sz
  ·have h1:(i+1)*sz≤n*sz:=Adv sz hin;rw[Aeo,Agz] at h1;rw[if_pos hk,BZ,Aej,List.getElem?_range (by omega),Aeh,hz,show i*sz+k=k+sz*i by rw[Nat.mul_comm];omega,Nat.add_mul_mod_self_left,Ago hk];rw[List.getD_eq_getElem?_getD,Acf (by omega)];simp
  ·rw[if_neg hk,Acz (by omega)]
 rw[this]
 simpa using hx
end Go.Gk
namespace Go.Gk
open Go
section
variable {P:Program}{pan:List PanicEntry→A0}{Qn:Env→A0}{Ls L:List Ad}{ρ:Env}{d:Ad}{s:GS}{t:Nat}
end
end Go.Gk
namespace Go.Gk
open Go
end Go.Gk
namespace Go.Gk
open Go
section
variable {P:Program}{pan:List PanicEntry→A0}{Qn:Env→A0}{Ls L:List Ad}{ρ:Env}{d:Ad}{s:GS}{t:Nat}
end
end Go.Gk
namespace Go.Gk
open Go
section
variable {P:Program}{pan:List PanicEntry→A0}{Qn:Env→A0}{Ls L:List Ad}{ρ:Env}{d:Ad}{s:GS}{t:Nat}
end
end Go.Gk
namespace Go.Gk
open Go
section
variable {P:Program}{pan:List PanicEntry→A0}{Qn:Env→A0}{Ls L:List Ad}{ρ:Env}{d:Ad}{s:GS}{t:Nat}
end
end Go.Gk
namespace Go.Gk
open Go
section
variable {P:Program}{pan:List PanicEntry→A0}{Qn:Env→A0}{Ls L:List Ad}{ρ:Env}{d:Ad}{s:GS}{t:Nat}{tk:Bool}
end
end Go.Gk
namespace Go.Gk
open Go
end Go.Gk
end
section
namespace Go.Gk
open Go
variable{k:IntKind}{a b:Int}{x y:Operand}
section
section
variable {P:Program}{pan:List PanicEntry→A0}{Qn:Env→A0}{Ls L:List Ad}{ρ:Env}{d:Ad}{s:GS}{t:Nat}{tk:Bool}
end
section
variable {P:Program}{pan:List PanicEntry→A0}{Qn:Env→A0}{Ls L:List Ad}{ρ:Env}{d:Ad}{s:GS}{t:Nat}
end
end
section
section
variable {P:Program}{pan:List PanicEntry→A0}{Qn:Env→A0}{Ls L:List Ad}{ρ:Env}{d:Ad}{s:GS}{t:Nat}{tk:Bool}
end
end
section
def Gz(h1:(if k.signed then -(2 ^(k.bits - 1):Int) else 0)≤a)(h2:a<(if k.signed then(2 ^(k.bits - 1):Int) else 2 ^ k.bits)):k.wrap a=a:=by
 cases k<;>simp[IntKind.wrap,IntKind.signed,IntKind.bits] at h1 h2⊢<;>omega
def Aaz{n a b c:Nat}(hb:b<2 ^ c)(hs:a*2 ^ c+b<2 ^ n):(BitVec.ofInt n ((a*2 ^ c:Nat):Int)|||BitVec.ofInt n ((b:Nat):Int)).toNat=a*2 ^ c+b:=by
 have h1:=Nat.shiftLeft_add_eq_or_of_lt (i:=c) hb a;rw[Nat.shiftLeft_eq] at h1;rw[BitVec.toNat_or,BitVec.ofInt_natCast,BitVec.ofInt_natCast,BitVec.toNat_ofNat,BitVec.toNat_ofNat];rw[Ago (by omega),Ago (by omega)];exact h1.symm
def S9{n a c:Nat}(ha:a<2 ^ n)(hc:2 ^ c≤2 ^ n)(hc0:2 ^ c - 1<2 ^ n):(BitVec.ofInt n ((a:Nat):Int)&&& BitVec.ofInt n (((2 ^ c - 1:Nat)):Int)).toNat=a % 2 ^ c:=by
 rw[BitVec.toNat_and,BitVec.ofInt_natCast,BitVec.ofInt_natCast,BitVec.toNat_ofNat,BitVec.toNat_ofNat];rw[Ago ha,Ago hc0];exact Nat.and_two_pow_sub_one_eq_mod a c
section
variable {P:Program}{pan:List PanicEntry→A0}{Qn:Env→A0}{Ls L:List Ad}{ρ:Env}{d:Ad}{s:GS}{t:Nat}{tk:Bool}
def Wh(k:IntKind)(c a b:Nat){u v:Int}(ex:ev ρ x=.int k u)(ey:ev ρ y=.int k v)(hu:u=((a*2 ^ c:Nat):Int))(hv:v=(b:Int))(hb:b<2 ^ c)(hs:a*2 ^ c+b<(if k.signed then 2 ^(k.bits - 1) else 2 ^ k.bits))
  (h:gws P pan Qn s Ls (upd ρ t (.int k ((a*2 ^ c+b:Nat):Int))) d L):gws P pan Qn (.op tk ⟨some t,none,.bin .or x y⟩ s) Ls ρ d L:=by
 refine Dg ?_ h
 have hs':a*2 ^ c+b<2 ^ k.bits:=by
  refine Nat.lt_of_lt_of_le hs ?_;split
  ·exact Nat.pow_le_pow_right (by omega) (by omega)
  ·exact Ack _
 have e:(BitVec.ofInt k.bits ((a*2 ^ c:Nat):Int)|||BitVec.ofInt k.bits ((b:Nat):Int)).toNat=a*2 ^ c+b:=Aaz hb hs'
 rw[ex,ey,hu,hv]
 simp only[De,e,ne_eq,not_true_eq_false,if_false]
 rw[Gz]
 ·split
  ·have:(0:Int)≤2 ^(k.bits - 1):=Int.pow_nonneg (by omega)
   omega
  ·omega
 ·split
  ·rename_i q;rw[if_pos q] at hs;exact_mod_cast hs
  ·rename_i q;rw[if_neg q] at hs;exact_mod_cast hs
def GX(ex:ev ρ x=.int .u8 a)(ey:ev ρ y=.int .u8 63)(h0:0≤a)(h1:a<256)(h:gws P pan Qn s Ls (upd ρ t (.int .u8 (a % 64))) d L):gws P pan Qn (.op tk ⟨some t,none,.bin .and x y⟩ s) Ls ρ d L:=by
 refine Dg ?_ h;obtain⟨m,rfl⟩:∃m:Nat,a=m:=⟨a.toNat,by omega⟩
 have e:(BitVec.ofInt IntKind.u8.bits ((m:Nat):Int)&&& BitVec.ofInt IntKind.u8.bits (63:Int)).toNat=m % 64:=by
  have:=S9 (n:=8) (a:=m) (c:=6) (by simp only[Nat.reducePow];omega) (by decide) (by decide);exact this
 rw[ex,ey];simp only[De,e,ne_eq,not_true_eq_false,if_false];rw[Gz (by simp[IntKind.signed,IntKind.bits];try omega) (by simp[IntKind.signed,IntKind.bits];omega)];simp
def Zx(ex:ev ρ x=.int .i32 a)(ey:ev ρ y=.int .i32 15)(h0:0≤a)(h1:a<2147483648)(h:gws P pan Qn s Ls (upd ρ t (.int .i32 (a % 16))) d L):gws P pan Qn (.op tk ⟨some t,none,.bin .and x y⟩ s) Ls ρ d L:=by
 refine Dg ?_ h;obtain⟨m,rfl⟩:∃m:Nat,a=m:=⟨a.toNat,by omega⟩
 have e:(BitVec.ofInt IntKind.i32.bits ((m:Nat):Int)&&& BitVec.ofInt IntKind.i32.bits (15:Int)).toNat=m % 16:=by
  have:=S9 (n:=32) (a:=m) (c:=4) (by simp only[Nat.reducePow];omega) (by decide) (by decide);exact this
 rw[ex,ey];simp only[De,e,ne_eq,not_true_eq_false,if_false];rw[Gz (by simp[IntKind.signed,IntKind.bits];try omega) (by simp[IntKind.signed,IntKind.bits];omega)];simp
def G4{k'}(n:Nat)(ex:ev ρ x=.int k a)(ey:ev ρ y=.int k' (n:Int))(hn:n≤k.bits)(h:gws P pan Qn s Ls (upd ρ t (.int k (a / (2 ^ n:Nat)))) d L):
  gws P pan Qn (.op tk ⟨some t,none,.bin .shr x y⟩ s) Ls ρ d L:=by
 refine Dg ?_ h
 have h1:min (Int.toNat (n:Int)) k.bits=n:=by simp;omega
 rw[ex,ey]
 simp only[De,h1]
 rw[if_neg (by omega)]
 congr 2
 rw[Int.fdiv_eq_ediv_of_nonneg _ (by exact_mod_cast Acu _)]
 simp
def Aab{k'}(n:Nat)(ex:ev ρ x=.int k a)(ey:ev ρ y=.int k' (n:Int))(hn:n≤k.bits)(h0:0≤a)(h1:a*(2 ^ n:Nat)<(if k.signed then(2 ^(k.bits - 1):Int) else 2 ^ k.bits))
  (h:gws P pan Qn s Ls (upd ρ t (.int k (a*(2 ^ n:Nat)))) d L):gws P pan Qn (.op tk ⟨some t,none,.bin .shl x y⟩ s) Ls ρ d L:=by
 refine Dg ?_ h
 have h2:min (Int.toNat (n:Int)) k.bits=n:=by simp;omega
 rw[ex,ey]
 simp only[De,h2]
 rw[if_neg (by omega)]
 have e:a*2 ^ n=a*(2 ^ n:Nat):=by push_cast;rfl
 rw[e,Gz _ h1]
 have h3:0≤a*((2 ^ n:Nat):Int):=Int.mul_nonneg h0 (by exact_mod_cast Acu _)
 split
 ·have:(0:Int)≤2 ^(k.bits - 1):=Int.pow_nonneg (by omega)
  omega
 ·exact h3
def Ox{k'}(n:Nat)(ex:ev ρ x=.int .i32 a)(ey:ev ρ y=.int k' (n:Int))(hn:n≤32)(h0:0≤a)(h1:a*(2 ^ n:Nat)<2147483648)
  (h:gws P pan Qn s Ls (upd ρ t (.int .i32 (a*(2 ^ n:Nat)))) d L):gws P pan Qn (.op tk ⟨some t,none,.bin .shl x y⟩ s) Ls ρ d L:=
 Aab n ex ey hn h0 (by simpa [IntKind.signed,IntKind.bits] using h1) h
def U7(c a b:Nat){u v:Int}(ex:ev ρ x=.int .i32 u)(ey:ev ρ y=.int .i32 v)(hu:u=((a*2 ^ c:Nat):Int))(hv:v=(b:Int))(hb:b<2 ^ c)(hs:a*2 ^ c+b<2147483648)
  (h:gws P pan Qn s Ls (upd ρ t (.int .i32 ((a*2 ^ c+b:Nat):Int))) d L):gws P pan Qn (.op tk ⟨some t,none,.bin .or x y⟩ s) Ls ρ d L:=
 Wh .i32 c a b ex ey hu hv hb (by simpa [IntKind.signed,IntKind.bits] using hs) h
def RH{j}(ex:ev ρ x=.int j a)(h1:(if k.signed then -(2 ^(k.bits - 1):Int) else 0)≤a)(h2:a<(if k.signed then(2 ^(k.bits - 1):Int) else 2 ^ k.bits))(h:gws P pan Qn s Ls (upd ρ t (.int k a)) d L):
  gws P pan Qn (.op tk ⟨some t,none,.cvi k x⟩ s) Ls ρ d L:=OA ex (by rw[Gz h1 h2];exact h)
def F9{j}(ex:ev ρ x=.int j a)(h:gws P pan Qn s Ls (upd ρ t (.int .u8 (a % 256))) d L):gws P pan Qn (.op tk ⟨some t,none,.cvi .u8 x⟩ s) Ls ρ d L:=
 OA ex (by rw[show IntKind.u8.wrap a=a % 256 by simp[IntKind.wrap,IntKind.signed,IntKind.bits]];exact h)
def VV{j}(ex:ev ρ x=.int j a)(h1:0≤a)(h2:a<4294967296)(h:gws P pan Qn s Ls (upd ρ t (.int .u32 a)) d L):gws P pan Qn (.op tk ⟨some t,none,.cvi .u32 x⟩ s) Ls ρ d L:=
 RH ex (by simpa [IntKind.signed] using h1) (by simpa [IntKind.signed,IntKind.bits] using h2) h
def JU{j}(ex:ev ρ x=.int j a)(h1:0≤a)(h2:a<2147483648)(h:gws P pan Qn s Ls (upd ρ t (.int .i32 a)) d L):gws P pan Qn (.op tk ⟨some t,none,.cvi .i32 x⟩ s) Ls ρ d L:=
 RH ex (by simp[IntKind.signed,IntKind.bits];omega) (by simpa [IntKind.signed,IntKind.bits] using h2) h
def GG(c a b:Nat){v:Int}(ex:ev ρ x=.int .u8 ((a*2 ^ c:Nat):Int))(ey:ev ρ y=.int .u8 v)(hv:v=(b:Int))(hb:b<2 ^ c)(hs:a*2 ^ c+b<256)
  (h:gws P pan Qn s Ls (upd ρ t (.int .u8 ((a*2 ^ c+b:Nat):Int))) d L):gws P pan Qn (.op tk ⟨some t,none,.bin .or x y⟩ s) Ls ρ d L:=
 Wh .u8 c a b ex ey Z hv hb (by simpa [IntKind.signed,IntKind.bits] using hs) h
def Wj(ex:ev ρ x=.int k a)(ey:ev ρ y=.int k b)(h1:(if k.signed then -(2 ^(k.bits - 1):Int) else 0)≤a+b)(h2:a+b<(if k.signed then(2 ^(k.bits - 1):Int) else 2 ^ k.bits))
  (h:gws P pan Qn s Ls (upd ρ t (.int k (a+b))) d L):gws P pan Qn (.op tk ⟨some t,none,.bin .add x y⟩ s) Ls ρ d L:=
 Dg (by rw[ex,ey];simp only[De,ne_eq,not_true_eq_false,if_false];rw[Gz h1 h2]) h
def AaB(ex:ev ρ x=.int k a)(ey:ev ρ y=.int k b)(h1:(if k.signed then -(2 ^(k.bits - 1):Int) else 0)≤a - b)(h2:a - b<(if k.signed then(2 ^(k.bits - 1):Int) else 2 ^ k.bits))
  (h:gws P pan Qn s Ls (upd ρ t (.int k (a - b))) d L):gws P pan Qn (.op tk ⟨some t,none,.bin .sub x y⟩ s) Ls ρ d L:=
 Dg (by rw[ex,ey];simp only[De,ne_eq,not_true_eq_false,if_false];rw[Gz h1 h2]) h
def Vq(ex:ev ρ x=.int .i32 a)(ey:ev ρ y=.int .i32 b)(h1: -2147483648≤a+b)(h2:a+b<2147483648)
  (h:gws P pan Qn s Ls (upd ρ t (.int .i32 (a+b))) d L):gws P pan Qn (.op tk ⟨some t,none,.bin .add x y⟩ s) Ls ρ d L:=
 Wj ex ey (by simp[IntKind.signed,IntKind.bits];omega) (by simp[IntKind.signed,IntKind.bits];omega) h
def Vr(ex:ev ρ x=.int .i32 a)(ey:ev ρ y=.int .i32 b)(h1: -2147483648≤a - b)(h2:a - b<2147483648)
  (h:gws P pan Qn s Ls (upd ρ t (.int .i32 (a - b))) d L):gws P pan Qn (.op tk ⟨some t,none,.bin .sub x y⟩ s) Ls ρ d L:=
 AaB ex ey (by simp[IntKind.signed,IntKind.bits];omega) (by simp[IntKind.signed,IntKind.bits];omega) h
def AaL{x0 x1 x2 x3 x4 x5 x6 x7}{a0 a1 a2 a3 a4 a5 a6 a7:Int}(e0:ev ρ x0=vZ a0)(e1:ev ρ x1=vZ a1)(e2:ev ρ x2=vZ a2)(e3:ev ρ x3=vZ a3)(e4:ev ρ x4=vZ a4)(e5:ev ρ x5=vZ a5)(e6:ev ρ x6=vZ a6)(e7:ev ρ x7=vZ a7)
  (h:gws P pan Qn s Ls (upd ρ t (.agg [vZ a0,vZ a1,vZ a2,vZ a3,vZ a4,vZ a5,vZ a6,vZ a7].toArray)) d L):
  gws P pan Qn (.op tk ⟨some t,none,.bld [(0,1),(1,1),(2,1),(3,1),(4,1),(5,1),(6,1),(7,1)] [vZ 0,vZ 0,vZ 0,vZ 0,vZ 0,vZ 0,vZ 0,vZ 0] [(0,x0),(1,x1),(2,x2),(3,x3),(4,x4),(5,x5),(6,x6),(7,x7)]⟩ s) Ls ρ d L:=by
 refine B2 (cs:=[vZ a0,vZ a1,vZ a2,vZ a3,vZ a4,vZ a5,vZ a6,vZ a7]) ?_ h
 simp[Instr.fill,Value.cells,e0,e1,e2,e3,e4,e5,e6,e7]
def Aan{z x0 x1 x2 x3 x4 x5}{a0 a1 a2 a3 a4 a5:UInt8}(e0:ev ρ x0=Bb a0)(e1:ev ρ x1=Bb a1)(e2:ev ρ x2=Bb a2)(e3:ev ρ x3=Bb a3)(e4:ev ρ x4=Bb a4)(e5:ev ρ x5=Bb a5)
  (h:∀b T,gws P pan Qn s Ls (upd ρ t (.slice (some ⟨b,0,none⟩) 6 6)) d (bx b T ([a0,a1,a2,a3,a4,a5].map Bb)::L)):gws P pan Qn (.op false ⟨some t,none,.bsl 6 1 [z] [(0,x0),(1,x1),(2,x2),(3,x3),(4,x4),(5,x5)]⟩ s) Ls ρ d L:=by
 have c:∀a:UInt8,(Bb a).cells= #[Bb a]:=fun _=>Z
 refine GM (by omega) ?_ h
 simp[Instr.fill,BZ,List.range,List.range.loop,e0,c,e1,e2,e3,e4,e5]
end
end
end Go.Gk
end
section
namespace Go.Gk.Jsn
open Go Go.Gk Go.Lib Go.Gk.Utf
variable{b:UInt8}{t:List UInt8}
def JD(r:Int):Prop:=0≤r∧(r<55296∨(57343<r∧r≤1114111))
def Fy(l:List UInt8):JD ((decodeL l).1:Int):=by
 have hd:(decodeL l).1<55296∨(57343<(decodeL l).1∧(decodeL l).1≤1114111):=by
  rw[decodeL_N];exact decodeN_valid _ _ _ _ _ (UInt8.toNat_lt _)
 exact⟨by omega,by omega⟩
def P9:∀(n m:Nat) (l:List UInt8),l.length≤n→l.length≤m→FG n l=FG m l
 |0,0,_,_,_=>rfl
 |0,m+1,l,h,_=>by
  have:l=[]:=Acm (by omega);simp[FG,this]
 |n+1,0,l,_,h=>by
  have:l=[]:=Acm (by omega);simp[FG,this]
 |n+1,m+1,l,h1,h2=>by
  by_cases h:l=[]
  ·simp[FG,h]
  ·have hw:=decodeL_width l;have hl:0<l.length:=Adk.2 h;simp only[FG,if_neg h];rw[P9 n m _ (by rw[Acl];omega) (by rw[Acl];omega)]
def QL{l}(h:l≠[]):rns l=((decodeL l).1:Int)::rns (l.drop (decodeL l).2):=by
 have hl:0<l.length:=Adk.2 h;have hw:=decodeL_width l;obtain⟨n,hn⟩:∃n,l.length=n+1:=⟨l.length - 1,by omega⟩
 rw[rns,hn,FG,if_neg h,rns];rw[P9 n _ _ (by rw[Acl];omega) (Ack _)]
def u8n{x:Int}(h0:0≤x)(h:x<256):UInt8.ofNat (x % 256).toNat=x.toNat.toUInt8:=by
 rw[IZ h0 h]
def IV{r:Int}(h:JD r):Dr r=EV r:=by
 rw[I6 h.1 h.2,encodeRune];obtain⟨h0,h⟩:=h;by_cases h1:r<128
 ·rw[MN h0 h1,encodeRuneZ_one h0 (by omega),Adx,Afl,u8n h0 (by omega)]
 by_cases h2:r<2048
 ·rw[TO (by omega) h2,encodeRuneZ_two (by omega) (by omega)];simp only[Adx,Afl];rw[u8n (by omega) (by omega),u8n (by omega) (by omega)]
 by_cases h3:r<65536
 ·rw[O1 (by omega) h3 (by omega),encodeRuneZ_three (by omega)];simp only[Adx,Afl];rw[u8n (by omega) (by omega),u8n (by omega) (by omega),u8n (by omega) (by omega)]
 rw[TH (by omega) (by omega),encodeRuneZ_four (by omega) (by omega)];simp only[Adx,Afl];rw[u8n (by omega) (by omega),u8n (by omega) (by omega),u8n (by omega) (by omega),u8n (by omega) (by omega)]
def hxd(n:Int):UInt8:=if n<10 then UInt8.ofNat (48+n.toNat) else UInt8.ofNat (87+n.toNat)
def qch(r:Int):List UInt8:=
 if r=34∨r=92 then [92,UInt8.ofNat r.toNat] else
 if r=8 then [92,98] else if r=9 then [92,116] else if r=10 then [92,110] else if r=12 then [92,102] else if r=13 then [92,114] else
 if r<32 then [92,117,48,48,hxd (r / 16),hxd (r % 16)] else EV r
def Nt(r:Int):(EV r).length≤4:=by
 unfold EV Utf8.encode;simp only;generalize (if Utf8.valid r then r.toNat else Utf8.runeError)=c;by_cases h1:c<128
 ·rw[if_pos h1];simp
 rw[if_neg h1];by_cases h2:c<2048
 ·rw[if_pos h2];simp
 rw[if_neg h2];by_cases h3:c<65536
 ·rw[if_pos h3];simp
 ·rw[if_neg h3];simp
def Pq(r:Int):(qch r).length≤6:=by
 unfold qch;repeat' split
 all_goals first
  |(simp;done)
  |exact Adp (Nt r) (by omega)
def ET(s:List UInt8):List UInt8:=[34]++(rns s).flatMap qch++[34]
def Eg(c:UInt8):Option Int:=
 if c=34 then some 34 else if c=92 then some 92 else if c=47 then some 47 else if c=98 then some 8 else if c=102 then some 12 else if c=110 then some 10 else
 if c=114 then some 13 else if c=116 then some 9 else none
def CW(c:UInt8):Int:=
 if 48≤c.toNat∧c.toNat≤57 then c.toNat - 48 else if 97≤c.toNat∧c.toNat≤102 then c.toNat - 87 else if 65≤c.toNat∧c.toNat≤70 then c.toNat - 55 else -1
def HH(c:UInt8): -1≤CW c∧CW c<16:=by
 unfold CW;split
 ·omega
 ·split
  ·omega
  ·split<;>omega
def Cp:List UInt8→Int
 |a::b::c::d::_=>if CW a<0∨CW b<0∨CW c<0∨CW d<0 then -1 else((CW a*16+CW b)*16+CW c)*16+CW d
 |_=> -1
def Hm(l:List UInt8): -1≤Cp l∧Cp l<65536:=by
 unfold Cp;split
 ·rename_i a b c d _;have h1:=HH a;have h2:=HH b;have h3:=HH c;have h4:=HH d;split<;>omega
 ·omega
def G3{l}(h:Cp l≠ -1):4≤l.length:=by
 unfold Cp at h;split at h
 ·simp
 ·exact absurd Z h
def Dw(s:List UInt8):Int×Nat:=
 let a:=Cp s
 if a<0∨(56320≤a∧a≤57343) then(0,0) else if a<55296∨57343<a then(a,4) else
 let b:=if s[4]?=some 92∧s[5]?=some 117 then Cp (s.drop 6) else -1
 if b<56320∨57343<b then(0,0) else(65536+(a - 55296)*1024+b - 56320,10)
def RE(s:List UInt8):(Dw s).2≤s.length:=by
 unfold Dw;have h1:= @G3 s
 have h2:= @G3 (s.drop 6)
 rw[Acl] at h2;simp only;split
 ·exact Acu _
 ·split
  ·exact h1 (by omega)
  ·by_cases c:s[4]?=some 92∧s[5]?=some 117
   ·simp only[if_pos c];split
    ·exact Acu _
    ·rename_i q2;have:=h2 (by omega);show 10≤s.length;omega
   ·simp only[if_neg c];exact Acu _
def Wm{s}(h:(Dw s).2≠0):JD (Dw s).1:=by
 revert h;unfold Dw;have h1:=Hm s;have h2:=Hm (s.drop 6);simp only;split
 ·exact fun h=>absurd Z h
 ·split
  ·intro _;exact⟨by omega,by omega⟩
  ·by_cases c:s[4]?=some 92∧s[5]?=some 117
   ·simp only[if_pos c];split
    ·exact fun h=>absurd Z h
    ·rename_i q0 q1 q2;intro _;show JD (65536+(Cp s - 55296)*1024+Cp (s.drop 6) - 56320);exact⟨by omega,by omega⟩
   ·simp only[if_neg c];exact fun h=>absurd Z h
def Dz:List UInt8→Int×Nat
 |[]=>(0,0)
 |c::r=>match Eg c with
  |some x=>(x,1)
  |none=>if c=117 then(if (Dw r).2=0 then(0,0) else((Dw r).1,(Dw r).2+1)) else(0,0)
def SW{c:UInt8}{x:Int}(h:Eg c=some x):JD x∧x<128:=by
 unfold Eg at h;repeat' (split at h)
 all_goals (first|(cases h;exact⟨⟨by omega,by omega⟩,by omega⟩)|cases h)
def Jl{s}(h:(Dz s).2≠0):JD (Dz s).1:=by
 cases s with
 |nil=>exact absurd Z h
 |cons c r=>
  rw[Dz] at h⊢
  cases hs:Eg c with
  |some x=>exact(SW hs).1
  |none=>
   rw[hs] at h
   simp only at h⊢
   by_cases q:c=117
   ·rw[if_pos q] at h⊢
    by_cases q2:(Dw r).2=0
    ·rw[if_pos q2] at h;exact absurd Z h
    ·rw[if_neg q2];exact Wm q2
   ·rw[if_neg q] at h;exact absurd Z h
def R9(s:List UInt8):(Dz s).2≤s.length:=by
 cases s with
 |nil=>exact Ack _
 |cons c r=>
  rw[Dz]
  cases hs:Eg c with
  |some x=>simp
  |none=>
   simp only
   by_cases q:c=117
   ·rw[if_pos q]
    by_cases q2:(Dw r).2=0
    ·rw[if_pos q2];exact Acu _
    ·rw[if_neg q2];exact Nat.succ_le_succ (RE r)
   ·rw[if_neg q];exact Acu _
def pcP:List UInt8→List UInt8×Nat
 |[]=>([],0)
 |b::t=>
  if b.toNat<32 then([],0) else
  if b=92 then(if (Dz t).2=0 then([],0) else(EV (Dz t).1,(Dz t).2+1)) else
  if (decodeL (b::t)).1=65533∧(decodeL (b::t)).2<2 then([],0) else((b::t).take (decodeL (b::t)).2,(decodeL (b::t)).2)
def pcR:List UInt8→Int×Int
 |[]=>(0,0)
 |b::t=>
  if b≠92 then(if (Dp (b::t)).1<32∨(Dp (b::t)).1=34 then(0,0) else Dp (b::t)) else
  if (Dz t).2=0 then(0,0) else((Dz t).1,((Dz t).2+1:Nat))
def Qa(h:b.toNat<128):decodeL (b::t)=(b.toNat,1):=decodeL_ascii b t h
def W2(h:128≤b.toNat):128≤(decodeL (b::t)).1:=by
 rw[decodeL_N];rcases decodeN_shape (b::t).length ((b::t).getD 0 0).toNat ((b::t).getD 1 0).toNat ((b::t).getD 2 0).toNat ((b::t).getD 3 0).toNat with ⟨c,e⟩|⟨c1,c2,c3,cv,e⟩|⟨c1,c2,c3,c4,cv,cs,e⟩|⟨c1,c2,c3,c4,c5,cv,cw,e⟩|e
 ·simp only[Agl] at c;omega
 all_goals (rw[e];dsimp only;omega)
def Jp:pcR (92::t)=if (Dz t).2=0 then(0,0) else((Dz t).1,(((Dz t).2+1:Nat):Int)):=by
 rw[pcR,if_neg (fun h=>h Z)]
def Np(h:b≠92):pcR (b::t)=if (Dp (b::t)).1<32∨(Dp (b::t)).1=34 then(0,0) else Dp (b::t):=by
 rw[pcR,if_pos h]
def GZ:pcP (92::t)=if (Dz t).2=0 then([],0) else(EV (Dz t).1,(Dz t).2+1):=by
 rw[pcP,if_neg (by decide),if_pos Z]
def HG(h:b≠92)(h1:¬b.toNat<32):pcP (b::t)=if (decodeL (b::t)).1=65533∧(decodeL (b::t)).2<2 then([],0) else((b::t).take (decodeL (b::t)).2,(decodeL (b::t)).2):=by
 rw[pcP,if_neg h1,if_neg h]
def Abf(hb:b≠34):pcP (b::t)=if (pcR (b::t)).2=0 then([],0) else(Dr (pcR (b::t)).1,(pcR (b::t)).2.toNat):=by
 have hw:=decodeL_width (b::t);by_cases h92:b=92
 ·subst h92;rw[Jp,GZ];by_cases h:(Dz t).2=0
  ·simp only[if_pos h];rfl
  ·simp only[if_neg h];rw[IV (Jl h),if_neg (by omega)];rfl
 ·rw[Np h92];have hf:=Utf.GO (l:=b::t) (by simp);by_cases h1:b.toNat<32
  ·have e1:decodeL (b::t)=(b.toNat,1):=Qa (by omega);have h3:¬decodeL (b::t)=(65533,1):=by rw[e1];intro h;injection h with h _;omega
   rw[if_neg h3,e1] at hf;rw[pcP,if_pos h1,hf];simp only;have h5:(b.toNat:Int)<32∨(b.toNat:Int)=34:=.inl (by omega);simp only[if_pos h5];rfl
  ·rw[HG h92 h1];by_cases h2:(decodeL (b::t)).1=65533∧(decodeL (b::t)).2<2
   ·rw[if_pos (Prod.ext h2.1 (by simp only;omega))] at hf;rw[if_pos h2,hf];rfl
   ·have h3:¬decodeL (b::t)=(65533,1):=fun h=>h2 (by rw[h];exact⟨Z,by decide⟩);rw[if_neg h3] at hf;rw[if_neg h2,hf];have h4:¬(((decodeL (b::t)).1:Int)<32∨((decodeL (b::t)).1:Int)=34):=by
     by_cases h5:b.toNat<128
     ·have e1:decodeL (b::t)=(b.toNat,1):=Qa h5;have:b.toNat≠34:=fun h=>hb (UInt8.toNat_inj.1 h);rw[e1];simp only;omega
     ·have:= @W2 b t (by omega)
      omega
    simp only[if_neg h4];rw[if_neg (by omega),IV (Fy _),I6 (Fy _).1 (Fy _).2,encode_decode _ (by simp) (fun h=>h2 ⟨h.1,by omega⟩)];simp
def DD:Nat→List UInt8→List UInt8→Nat→List UInt8×Int×Int
 |0,_,_,_=>([],0,20)
 |f+1,s,out,n=>
  if s=[] then([],0,20) else if s.head?=some 34 then(out,(n+1:Nat),0) else
  if (pcP s).2=0 then([],0,20) else DD f (s.drop (pcP s).2) (out++(pcP s).1) (n+(pcP s).2)
def Oa:∀(f g:Nat) (s out:List UInt8) (n:Nat),s.length≤f→s.length≤g→DD f s out n=DD g s out n
 |0,0,_,_,_,_,_=>rfl
 |0,g+1,s,out,n,h,_=>by
  have:s=[]:=Acm (by omega);rw[DD,DD,if_pos this]
 |f+1,0,s,out,n,_,h=>by
  have:s=[]:=Acm (by omega);rw[DD,DD,if_pos this]
 |f+1,g+1,s,out,n,h1,h2=>by
  rw[DD,DD];by_cases h:s=[]
  ·rw[if_pos h,if_pos h]
  ·rw[if_neg h,if_neg h];by_cases q:s.head?=some 34
   ·rw[if_pos q,if_pos q]
   ·rw[if_neg q,if_neg q];by_cases p:(pcP s).2=0
    ·rw[if_pos p,if_pos p]
    ·rw[if_neg p,if_neg p];have hl:0<s.length:=Adk.2 h;exact Oa f g _ _ _ (by rw[Acl];omega) (by rw[Acl];omega)
def FZ(s out:List UInt8)(n:Nat):List UInt8×Int×Int:=DD s.length s out n
def PQ(t out:List UInt8)(n:Nat):FZ (34::t) out n=(out,((n+1:Nat):Int),0):=by
 rw[FZ,Acg,DD,if_neg (by simp),if_pos (show(34::t).head?=some 34 from Z)]
def Jq{out}{n:Nat}(h:b≠34)(hp:(pcP (b::t)).2=0):FZ (b::t) out n=([],0,20):=by
 rw[FZ,Acg,DD,if_neg (by simp),if_neg (show¬(b::t).head?=some 34 from fun q=>h (Option.some.inj q)),if_pos hp]
def Kt{out}{n:Nat}(h:b≠34)(hp:(pcP (b::t)).2≠0):FZ (b::t) out n=FZ ((b::t).drop (pcP (b::t)).2) (out++(pcP (b::t)).1) (n+(pcP (b::t)).2):=by
 rw[FZ,Acg,DD,if_neg (by simp),if_neg (show¬(b::t).head?=some 34 from fun q=>h (Option.some.inj q)),if_neg hp];exact Oa _ _ _ _ _ (by rw[Acl,Acg];omega) (Ack _)
def Ck(s:List UInt8):List UInt8×Int×Int:=if s.head?=some 34 then FZ s.tail [] 1 else([],0,20)
end Go.Gk.Jsn
end
section
namespace Go.Gk.Jsn
open Go Go.Gk Go.Lib
attribute [local irreducible] gwp gws
def Th{m:Nat}(h1:128≤m)(h2:m≤2047):EV (m:Int)=[UInt8.ofNat (192+m / 64),UInt8.ofNat (128+m % 64)]:=by
 rw[Utf.I6 (by omega) (by omega),encodeRune,encodeRuneZ_two (by omega) (by omega)];simp only[Adx,Afl];rw[show((192:Int)+m / 64).toNat=192+m / 64 by omega,show((128:Int)+m % 64).toNat=128+m % 64 by omega]
def LM{m:Nat}(h:(2048≤m∧m<55296)∨(57343<m∧m≤65535)):EV (m:Int)=[UInt8.ofNat (224+m / 4096),UInt8.ofNat (128+m / 64 % 64),UInt8.ofNat (128+m % 64)]:=by
 rw[Utf.I6 (by omega) (by omega),encodeRune,encodeRuneZ_three (by omega)];simp only[Adx,Afl];rw[show((224:Int)+m / 4096).toNat=224+m / 4096 by omega,show((128:Int)+m / 64 % 64).toNat=128+m / 64 % 64 by omega,show((128:Int)+m % 64).toNat=128+m % 64 by omega]
def Rw{m:Nat}(h1:65536≤m)(h2:m≤1114111):EV (m:Int)=[UInt8.ofNat (240+m / 262144),UInt8.ofNat (128+m / 4096 % 64),UInt8.ofNat (128+m / 64 % 64),UInt8.ofNat (128+m % 64)]:=by
 rw[Utf.I6 (by omega) (by omega),encodeRune,encodeRuneZ_four (by omega) (by omega)];simp only[Adx,Afl];rw[show((240:Int)+m / 262144).toNat=240+m / 262144 by omega,show((128:Int)+m / 4096 % 64).toNat=128+m / 4096 % 64 by omega,show((128:Int)+m / 64 % 64).toNat=128+m / 64 % 64 by omega,show((128:Int)+m % 64).toNat=128+m % 64 by omega]
def Eb{n:Nat}(h:n<256):Value.int .u8 (n:Int)=Bb (UInt8.ofNat n):=by
 simp only[Bb];rw[UInt8.toNat_ofNat_of_lt' (by simpa using h)]
def Jv(a:Int):Bb (UInt8.ofNat (a % 256).toNat)=.int .u8 (a % 256):=by
 have h:(a % 256).toNat<256:=by omega
 rw[←Eb h];congr 1;omega
def IJ(lo:Int)(P:Program)(f:FuncId):Prop:=∀{d v h xs}{r:Int},AQ 1 Cd d v xs h→xs.length≤100000000→lo≤r→JD r→
 Be P f [v,.int .i32 r] d [h] (Ret fun v' d' L'=>d'=d∧∃h',L'=[h']∧AQ 1 Cd d v' (xs++EV r) h')
def GD:Bo:=⟨78,[(.tmp 4)],(sR (o1 4 (.mv nS) .done) (sR (om 6 1<|o1 7 (.cvi .u32 6)<|om 5 7 .done) (.block 0 (sR (om 12 5<|ob 13 .leq 12 (.const (.int .u32 2047))<|om 11 13 .done) (.cond 11 (sR (om 14 0<|om 15 1<|ob 16 .shr 15 (.const (.int .u64 6))<|o1 17 (.cvi .u8 16)<|ob 18 .or (.const (.int .u8 192)) 17<|om 19 1<|o1 20 (.cvi .u8 19)<|ob 21 .and 20 (.const (.int .u8 63))<|ob 22 .or (.const (.int .u8 128)) 21<|o1 23 (.bsl 2 1 [(.int .u8 0)] [(0,18),(1,22)])<|o1 24 (.app 1 1 [(.int .u8 0)] 14 23)<|om 4 24 .done) .ret) (.seq (sR (om 26 5<|ob 27 .lss 26 (.const (.int .u32 55296))<|om 25 27 .done) (.cond 25 .skip (rG (om 28 5<|ob 29 .lss (.const (.int .u32 57343)) 28<|om 30 29<|gT 31 30 5<|oT 32 30 (.bin .leq 31 (.const (.int .u32 65535)))<|gP 33 30 32<|om 25 33 .done)))) (.cond 25 (sR (om 34 0<|om 35 1<|ob 36 .shr 35 (.const (.int .u64 12))<|o1 37 (.cvi .u8 36)<|ob 38 .or (.const (.int .u8 224)) 37<|om 39 1<|ob 40 .shr 39 (.const (.int .u64 6))<|o1 41 (.cvi .u8 40)<|ob 42 .and 41 (.const (.int .u8 63))<|ob 43 .or (.const (.int .u8 128)) 42<|om 44 1<|o1 45 (.cvi .u8 44)<|ob 46 .and 45 (.const (.int .u8 63))<|ob 47 .or (.const (.int .u8 128)) 46<|o1 48 (.bsl 3 1 [(.int .u8 0)] [(0,38),(1,43),(2,47)])<|o1 49 (.app 1 1 [(.int .u8 0)] 34 48)<|om 4 49 .done) .ret) (sR (om 51 5<|ob 52 .gtr 51 (.const (.int .u32 65535))<|om 53 52<|gT 54 53 5<|oT 55 53 (.bin .leq 54 (.const (.int .u32 1114111)))<|gP 56 53 55<|om 50 56 .done) (.cond 50 (sR (om 57 0<|om 58 1<|ob 59 .shr 58 (.const (.int .u64 18))<|o1 60 (.cvi .u8 59)<|ob 61 .or (.const (.int .u8 240)) 60<|om 62 1<|ob 63 .shr 62 (.const (.int .u64 12))<|o1 64 (.cvi .u8 63)<|ob 65 .and 64 (.const (.int .u8 63))<|ob 66 .or (.const (.int .u8 128)) 65<|om 67 1<|ob 68 .shr 67 (.const (.int .u64 6))<|o1 69 (.cvi .u8 68)<|ob 70 .and 69 (.const (.int .u8 63))<|ob 71 .or (.const (.int .u8 128)) 70<|om 72 1<|o1 73 (.cvi .u8 72)<|ob 74 .and 73 (.const (.int .u8 63))<|ob 75 .or (.const (.int .u8 128)) 74<|o1 76 (.bsl 4 1 [(.int .u8 0)] [(0,61),(1,66),(2,71),(3,75)])<|o1 77 (.app 1 1 [(.int .u8 0)] 57 76)<|om 4 77 .done) .ret) (sR (om 8 0<|o1 9 (.bsl 3 1 [(.int .u8 0)] [(0,(.const (.int .u8 239))),(1,(.const (.int .u8 191))),(2,(.const (.int .u8 189)))])<|o1 10 (.app 1 1 [(.int .u8 0)] 8 9)<|om 4 10 .done) .ret))))))))))⟩
set_option maxHeartbeats 1000000 in
def Zt{P f}(hd:dec P f=some GD):IJ 128 P f:=by
 intro d v h xs r ho hx hlo hr;obtain⟨m,rfl⟩:∃m:Nat,r=m:=⟨r.toNat,by have:=hr.1;omega⟩
 have hrr:=hr.2;refine EK hd<|Es Z<|Br<|Ab Z<|VV Z (by omega) (by omega) ?_;by_cases c1:m≤2047
 ·refine AL Z<|Am<|AD Z<|BN Z Z<|Ao Z<|Bn Z<|Aj<|B3<|Ab Z<|G4 6 Z Z (by decide) ?_;apply F9;rfl;refine GG 6 3 (m / 64) Z Z (by omega) (by omega) (by omega)<|Ab Z<|Em Z<|GX (a:=(m:Int) % 256) (Jv _) Z (by omega) (by omega)<|GG 6 2 (m % 64) Z Z (by omega) (by omega) (by omega)<|UF (v0:=Bb (UInt8.ofNat (192+m / 64))) (Eb (by omega)) Z (v1:=Bb (UInt8.ofNat (128+m % 64))) (Eb (by omega)) Z (fun b T=>?_);skip;refine Ei (R:=Cd) 0 Z Z ho Z (AQ.G7 (l:=[UInt8.ofNat (192+m / 64),UInt8.ofNat (128+m % 64)]) Z Z (by simp)) E2 (by decide) (by simp;omega) (by simp;omega) (fun v1 h1 o1=>?_);refine B3<|Bz<|Ba [v1] ⟨Z,trivial⟩ (Acy _) ⟨Z,_,Z,by rw[Th (by omega) (by omega)];exact o1⟩
 by_cases c2:m<55296
 ·refine AL Z<|Am<|AD Z<|BN Z Z<|Ao Z<|AH Z<|Ap<|Ab Z<|As Z Z<|Ao Z<|Bn Z<|Ay<|Bn Z<|Aj<|B3<|Ab Z<|G4 12 Z Z (by decide) ?_;apply F9;rfl;refine GG 4 14 (m / 4096) Z Z (by omega) (by omega) (by omega) ?_;(apply Ab;rfl);refine G4 6 Z Z (by decide) ?_;apply F9;rfl;refine GX Z Z (by omega) (by omega)<|GG 6 2 (m / 64 % 64) Z Z (by omega) (by omega) (by omega)<|Ab Z<|Em Z<|GX (a:=(m:Int) % 256) (Jv _) Z (by omega) (by omega)<|GG 6 2 (m % 64) Z Z (by omega) (by omega) (by omega)<|Qv (v0:=Bb (UInt8.ofNat (224+m / 4096))) (Eb (by omega)) Z (v1:=Bb (UInt8.ofNat (128+m / 64 % 64))) (Eb (by omega)) Z (v2:=Bb (UInt8.ofNat (128+m % 64))) (Eb (by omega)) Z (fun b T=>?_);skip;refine Ei (R:=Cd) 0 Z Z ho Z (AQ.G7 (l:=[UInt8.ofNat (224+m / 4096),UInt8.ofNat (128+m / 64 % 64),UInt8.ofNat (128+m % 64)]) Z Z (by simp)) E2 (by decide) (by simp;omega) (by simp;omega) (fun v1 h1 o1=>?_);refine B3<|Bz<|Ba [v1] ⟨Z,trivial⟩ (Acy _) ⟨Z,_,Z,by rw[LM (by omega)];exact o1⟩
 by_cases c3:m≤65535
 ·refine AL Z<|Am<|AD Z<|BN Z Z<|Ao Z<|AH Z<|Ap<|Ab Z<|As Z Z<|Ao Z<|AH Z<|Ar<|Ab Z<|As Z Z<|Ac Z<|AA Z<|Aa Z<|Ab Z<|Aa Z<|BN Z Z<|Ah Z Z<|Ao Z<|Bn Z<|Aj<|B3<|Ab Z<|G4 12 Z Z (by decide) ?_;apply F9;rfl;refine GG 4 14 (m / 4096) Z Z (by omega) (by omega) (by omega) ?_;(apply Ab;rfl);refine G4 6 Z Z (by decide) ?_;apply F9;rfl;refine GX Z Z (by omega) (by omega)<|GG 6 2 (m / 64 % 64) Z Z (by omega) (by omega) (by omega)<|Ab Z<|Em Z<|GX (a:=(m:Int) % 256) (Jv _) Z (by omega) (by omega)<|GG 6 2 (m % 64) Z Z (by omega) (by omega) (by omega)<|Qv (v0:=Bb (UInt8.ofNat (224+m / 4096))) (Eb (by omega)) Z (v1:=Bb (UInt8.ofNat (128+m / 64 % 64))) (Eb (by omega)) Z (v2:=Bb (UInt8.ofNat (128+m % 64))) (Eb (by omega)) Z (fun b T=>?_);skip;refine Ei (R:=Cd) 0 Z Z ho Z (AQ.G7 (l:=[UInt8.ofNat (224+m / 4096),UInt8.ofNat (128+m / 64 % 64),UInt8.ofNat (128+m % 64)]) Z Z (by simp)) E2 (by decide) (by simp;omega) (by simp;omega) (fun v1 h1 o1=>?_);refine B3<|Bz<|Ba [v1] ⟨Z,trivial⟩ (Acy _) ⟨Z,_,Z,by rw[LM (by omega)];exact o1⟩
 ·refine AL Z<|Am<|AD Z<|BN Z Z<|Ao Z<|AH Z<|Ap<|Ab Z<|As Z Z<|Ao Z<|AH Z<|Ar<|Ab Z<|As Z Z<|Ac Z<|AA Z<|Aa Z<|Ab Z<|Aa Z<|BN Z Z<|Ah Z Z<|Ao Z<|AH Z<|AD Z<|AS Z Z<|Ac Z<|AA Z<|Aa Z<|Ab Z<|Aa Z<|BN Z Z<|Ah Z Z<|Ao Z<|Bn Z<|Aj<|B3<|Ab Z<|G4 18 Z Z (by decide) ?_;apply F9;rfl;refine GG 3 30 (m / 262144) Z Z (by omega) (by omega) (by omega) ?_;(apply Ab;rfl);refine G4 12 Z Z (by decide) ?_;apply F9;rfl;refine GX Z Z (by omega) (by omega)<|GG 6 2 (m / 4096 % 64) Z Z (by omega) (by omega) (by omega) ?_;(apply Ab;rfl);refine G4 6 Z Z (by decide) ?_;apply F9;rfl;refine GX Z Z (by omega) (by omega)<|GG 6 2 (m / 64 % 64) Z Z (by omega) (by omega) (by omega)<|Ab Z<|Em Z<|GX (a:=(m:Int) % 256) (Jv _) Z (by omega) (by omega)<|GG 6 2 (m % 64) Z Z (by omega) (by omega) (by omega)<|Ym (v0:=Bb (UInt8.ofNat (240+m / 262144))) (Eb (by omega)) Z (v1:=Bb (UInt8.ofNat (128+m / 4096 % 64))) (Eb (by omega)) Z (v2:=Bb (UInt8.ofNat (128+m / 64 % 64))) (Eb (by omega)) Z (v3:=Bb (UInt8.ofNat (128+m % 64))) (Eb (by omega)) Z (fun b T=>?_);skip;refine Ei (R:=Cd) 0 Z Z ho Z (AQ.G7 (l:=[UInt8.ofNat (240+m / 262144),UInt8.ofNat (128+m / 4096 % 64),UInt8.ofNat (128+m / 64 % 64),UInt8.ofNat (128+m % 64)]) Z Z (by simp)) E2 (by decide) (by simp;omega) (by simp;omega) (fun v1 h1 o1=>?_);refine B3<|Bz<|Ba [v1] ⟨Z,trivial⟩ (Acy _) ⟨Z,_,Z,by rw[Rw (by omega) (by omega)];exact o1⟩
def Ip(a0:Nat):Bo:=⟨16,[(.tmp 4)],(sR (o1 4 (.mv nS) .done) (.seq (sR (om 5 1<|o1 6 (.cvi .u32 5)<|ob 7 .leq 6 (.const (.int .u32 127)) .done) (.cond 7 (sR (om 8 0<|om 9 1<|o1 10 (.cvi .u8 9)<|o1 11 (.bsl 1 1 [(.int .u8 0)] [(0,10)])<|o1 12 (.app 1 1 [(.int .u8 0)] 8 11)<|om 4 12 .done) .ret) .skip)) (sR (om 13 0<|om 14 1<|oc 15 a0 [13,14]<|om 4 15 .done) .ret)))⟩
def YD{P f f1}(hd:dec P f=some (Ip f1))(h1:IJ 128 P f1):IJ 0 P f:=by
 intro d v h xs r ho hx hlo hr;have hrr:=hr.2;refine EK hd<|Es Z<|Bw<|Ab Z<|VV Z (by omega) (by omega) ?_;by_cases c:r≤127
 ·refine BN Z Z<|AE Z<|Aj<|B3<|Ab Z<|Em Z<|Ff (v0:=Bb (UInt8.ofNat (r % 256).toNat)) Z Z (fun b T=>?_);skip;refine Ei (R:=Cd) 0 Z Z ho Z (AQ.G7 (l:=[UInt8.ofNat (r % 256).toNat]) Z Z (by simp)) E2 (by decide) (by simp;omega) (by simp;omega) (fun v1 h1 o1=>?_);refine B3<|Bz<|Ba [v1] ⟨Z,trivial⟩ (Acy _) ⟨Z,_,Z,by rw[←IV hr,Utf.MN hlo (by omega)];exact o1⟩
 ·refine BN Z Z<|AJ Z<|Aj<|B3<|Ab Z<|JY 1 Z (h1 ho hx (by omega) hr) (fun v1 d1 L1 hl1 hr1=>?_);obtain⟨rfl,h1',rfl,o1⟩:=hr1;refine B3<|Bz<|Ba [v1] ⟨Z,trivial⟩ (Acy _) ⟨Z,_,Z,o1⟩
end Go.Gk.Jsn
end
section
namespace Go.Gk.Jsn
open Go Go.Gk Go.Lib Go.Gk.Utf
def Lf:∀(n:Nat) (a b:List UInt8),a.length≤n→validD a=true→validD b=true→validD (a++b)=true
 |0,a,b,hn,_,hb=>by
  have:a=[]:=Acm (by omega);subst this;exact hb
 |n+1,a,b,hn,ha,hb=>by
  by_cases h:a=[]
  ·subst h;exact hb
  ·have hr:=G6 h ha;rw[validD_step a h] at ha;have hbad:¬((decodeL a).1=65533∧(decodeL a).2=1):=fun q=>by rw[if_pos q] at ha;cases ha
   have hw:=decodeL_width a;have hwl:=decodeL_le a h;have hl:0<a.length:=Adk.2 h;have hd:decodeL (a++b)=decodeL a:=by
    have:=M0 h hbad (a.drop (decodeL a).2++b);rw[←Ach,Aem] at this;exact this
   rw[validD_step (a++b) (by simp[h]),hd,if_neg hbad,List.drop_append_of_le_length hwl];exact Lf n _ b (by rw[Acl];omega) hr hb
def dN2{m:Nat}(h1:128≤m)(h2:m≤2047):decodeN 2 (192+m / 64) (128+m % 64) 0 0=(m,2):=by
 rw[decodeN,if_neg (by omega),if_pos ⟨by omega,by omega,by omega⟩,if_pos (by omega)];exact Prod.ext (by simp only;omega) Z
def dN3{m:Nat}(h:(2048≤m∧m<55296)∨(57343<m∧m≤65535)):decodeN 3 (224+m / 4096) (128+m / 64 % 64) (128+m % 64) 0=(m,3):=by
 have e:(224+m / 4096) % 16*4096+(128+m / 64 % 64) % 64*64+(128+m % 64) % 64=m:=by omega
 rw[decodeN,if_neg (by omega),if_neg (by omega),if_pos ⟨by omega,⟨by omega,by omega⟩,by omega,by omega⟩,e,if_pos (by omega)]
def dN4{m:Nat}(h1:65536≤m)(h2:m≤1114111):decodeN 4 (240+m / 262144) (128+m / 4096 % 64) (128+m / 64 % 64) (128+m % 64)=(m,4):=by
 have e:(240+m / 262144) % 8*262144+(128+m / 4096 % 64) % 64*4096+(128+m / 64 % 64) % 64*64+(128+m % 64) % 64=m:=by omega
 rw[decodeN,if_neg (by omega),if_neg (by omega),if_neg (by omega),if_pos ⟨by omega,⟨by omega,by omega⟩,⟨by omega,by omega⟩,by omega,by omega⟩,e,if_pos (by omega)]
def ofN{n:Nat}(h:n<256):(UInt8.ofNat n).toNat=n:=UInt8.toNat_ofNat_of_lt' (by simpa using h)
def PL{r:Int}(h:JD r):validD (EV r)=true:=by
 obtain⟨m,rfl⟩:∃m:Nat,r=m:=⟨r.toNat,by have:=h.1;omega⟩
 have h2:=h.2;by_cases c1:m<128
 ·rw[←IV h,MN (by omega) (by omega)];have e:(UInt8.ofNat ((m:Int) % 256).toNat).toNat<128:=by rw[ofN (by omega)];omega
  rw[validD_cons _ _ e];rfl
 by_cases c2:m≤2047
 ·rw[Th (by omega) c2,validD_step _ (by simp),decodeL_N];simp only[Acg,Acs,Agl,Ahh,List.getD_nil];rw[ofN (by omega),ofN (by omega)];rw[show decodeN (0+1+1) (192+m / 64) (128+m % 64) (UInt8.toNat 0) (UInt8.toNat 0)=(m,2) from dN2 (by omega) c2];rw[if_neg (by simp only;omega)];rfl
 by_cases c3:m≤65535
 ·rw[LM (by omega),validD_step _ (by simp),decodeL_N];simp only[Acg,Acs,Agl,Ahh,List.getD_nil];rw[ofN (by omega),ofN (by omega),ofN (by omega)];rw[show decodeN (0+1+1+1) (224+m / 4096) (128+m / 64 % 64) (128+m % 64) (UInt8.toNat 0)=(m,3) from dN3 (by omega)];rw[if_neg (by simp only;omega)];rfl
 ·rw[Rw (by omega) (by omega),validD_step _ (by simp),decodeL_N];simp only[Acg,Acs,Agl,Ahh,List.getD_nil];rw[ofN (by omega),ofN (by omega),ofN (by omega),ofN (by omega)];rw[show decodeN (0+1+1+1+1) (240+m / 262144) (128+m / 4096 % 64) (128+m / 64 % 64) (128+m % 64)=(m,4) from dN4 (by omega) (by omega)];rw[if_neg (by simp only;omega)];rfl
def Wk(s:List UInt8):validD (pcP s).1=true:=by
 cases s with
 |nil=>rfl
 |cons b t=>
  by_cases h:b=92
  ·subst h
   rw[GZ]
   by_cases h2:(Dz t).2=0
   ·rw[if_pos h2];rfl
   ·rw[if_neg h2];exact PL (Jl h2)
  ·by_cases h1:b.toNat<32
   ·rw[pcP,if_pos h1];rfl
   ·rw[HG h h1]
    by_cases h2:(decodeL (b::t)).1=65533∧(decodeL (b::t)).2<2
    ·rw[if_pos h2];rfl
    ·rw[if_neg h2]
     have hw:=decodeL_width (b::t)
     have e:=encode_decode (b::t) (by simp) (fun q=>h2 ⟨q.1,by omega⟩)
     simp only
     rw[←e,←I6 (Fy _).1 (Fy _).2]
     exact PL (Fy _)
def M9:∀(f:Nat) (s out:List UInt8) (n:Nat),validD out=true→validD (DD f s out n).1=true
 |0,_,_,_,_=>rfl
 |f+1,s,out,n,h=>by
  rw[DD];by_cases h1:s=[]
  ·rw[if_pos h1];rfl
  rw[if_neg h1];by_cases h2:s.head?=some 34
  ·rw[if_pos h2];exact h
  rw[if_neg h2];by_cases h3:(pcP s).2=0
  ·rw[if_pos h3];rfl
  rw[if_neg h3];exact M9 f _ _ _ (Lf _ _ _ (Ack _) h (Wk s))
def SU(s:List UInt8):validD (Ck s).1=true:=by
 unfold Ck;split
 ·exact M9 _ _ _ _ Z
 ·rfl
def RW(s:List UInt8):(pcP s).2≤s.length∧(pcP s).1.length≤4*(pcP s).2:=by
 cases s with
 |nil=>exact⟨Ack _,Ack _⟩
 |cons b t=>
  by_cases h:b=92
  ·subst h
   rw[GZ]
   have e1:=R9 t
   have e2:=Nt (Dz t).1
   by_cases h2:(Dz t).2=0
   ·rw[if_pos h2];exact⟨Acu _,Ack _⟩
   ·rw[if_neg h2];exact⟨Nat.succ_le_succ e1,by simp only;omega⟩
  ·by_cases h1:b.toNat<32
   ·rw[pcP,if_pos h1];exact⟨Acu _,Ack _⟩
   ·rw[HG h h1]
    have hl:=decodeL_le (b::t) (by simp)
    split
    ·exact⟨Acu _,Ack _⟩
    ·exact⟨hl,by simp only[Aco];omega⟩
def OC:∀(f:Nat) (s out:List UInt8) (n:Nat),0≤(DD f s out n).2.1∧(DD f s out n).2.1≤((n+s.length:Nat):Int)
 |0,_,_,_=>⟨Afv _,by simp only[DD];omega⟩
 |f+1,s,out,n=>by
  rw[DD];by_cases h1:s=[]
  ·rw[if_pos h1];exact⟨Afv _,by simp only;omega⟩
  have hl:0<s.length:=Adk.2 h1;rw[if_neg h1];by_cases h2:s.head?=some 34
  ·rw[if_pos h2];exact⟨by simp only;omega,by simp only;omega⟩
  rw[if_neg h2];by_cases h3:(pcP s).2=0
  ·rw[if_pos h3];exact⟨Afv _,by simp only;omega⟩
  rw[if_neg h3];have:=OC f (s.drop (pcP s).2) (out++(pcP s).1) (n+(pcP s).2);refine⟨this.1,Int.le_trans this.2 ?_⟩
  have hp:=(RW s).1;rw[Acl];omega
end Go.Gk.Jsn
end
