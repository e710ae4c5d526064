/-
  Our own texts, one behind the other: GkXM GkXF GkXP Gk46 GkX5 GkX6 GkX7 GkX8 GkX9 GkXA GkXB GkXN GkXO GkXG GkXQ GkXJ GkXC GkXD GkXR GkXGb.
-/
import Derived.Test.YteekdjalpmjdhaaGreatPlF
set_option linter.defProp false
set_option linter.unusedVariables false
set_option linter.unusedSimpArgs false
open Nat renaming le_of_ble_eq_true→Aca,le_refl→Acj,zero_le→Adf,mul_le_mul_right→Adp,zero_add→Aee,succ_ne_zero→Aef,add_mul→Aeg,le_trans→Aeq,not_lt_zero→Aez,le_of_not_lt→Agh,add_sub_cancel→Agk,min_eq_left→Agq
open Bool renaming and_eq_true→Acb,or_eq_true→Adu,false_or→Agt,or_eq_false_iff→Ahf
open List.Sublist renaming refl→Acd,cons_cons→Aey
open List renaming append_assoc→Ace,getElem?_eq_getElem→Acf,getD_eq_getElem?_getD→Acg,mem_append→Ach,length_append→Aci,eq_nil_of_length_eq_zero→Acl,mem_cons_self→Acm,perm_append_comm→Acn,mem_cons_of_mem→Aco,take_succ_eq_append_getElem→Acp,length_take→Acs,drop_eq_getElem_cons→Acu,mem_cons→Acw,length_cons→Acx,mem_append_right→Acy,getElem_mem→Acz,mem_append_left→Ada,getElem?_eq_some_iff→Adc,range→Adg,sublist_append_right→Adi,nil_sublist→Adj,map_append→Adl,append_nil→Adm,length_map→Adq,nil_append→Adr,length_drop→Ads,cons_append→Adv,mem_map_of_mem→Aea,take_length→Aec,exists_cons_of_ne_nil→Aed,length_nil→Aei,getElem_of_mem→Aej,nodup_append→Ael,map_cons→Aet,drop_length→Afb,mem_range→Afl,mem_map→Aft,any_eq_true→Afz,take_left→Agc,nodup_nil→Agd,perm_middle→Agg,mem_of_mem_take→Ago,mem_of_mem_drop→Agp,drop_eq_nil_of_le→Agw,map_take→Ahd,take_take→Ahh
open List.Perm renaming cons→Acr,swap→Adb,refl→Adz,append_right→Aer
open Option renaming getD_some→Aem
section
namespace Go.Gk.Tre
open Go Go.Gk Go.Gk.Dev Go.Gk.Cch Go.Gk.Pgr Go.Gk.Chn Go.Gk.Node
attribute [local irreducible] gwp gws xwp
section
def Fw(s:PD)(lf:Bool)(fr to:List UInt8)(ks vs:List (List UInt8))(S:List Int)(n:Nat):CR:=if lf=true then Hw s fr to ks vs S n else⟨S,n,if ks.any (F5 fr to)=true then 200 else 0⟩
def Ua{s}{g:Nat}{page h:Int}{fr to}{S:List Int}{n:Nat}{nd:Ax}(he:(AN s page h).2=0)(hn:(AN s page h).1=nd):
  Cb s (g+1) page h fr to S n=if page∈S∨nd.keys=[] then⟨S,n,200⟩ else
   if (Fw s nd.leaf fr to nd.keys nd.vals (page::S) n).e≠0 then Fw s nd.leaf fr to nd.keys nd.vals (page::S) n else
   FZ (fun c lo hi S n=>Cb s g c (h - 1) lo hi S n) fr to nd.keys nd.kids (Fw s nd.leaf fr to nd.keys nd.vals (page::S) n).S (Fw s nd.leaf fr to nd.keys nd.vals (page::S) n).n:=by
 have hr:=(GX he).1
 have hs:AX (AN s page h).1=true:=by simp only[AV,Acb] at hr;exact hr.1
 rw[Cb,if_neg (fun q=>q he)]
 rw[hn] at hs⊢
 by_cases h1:page∈S∨nd.keys=[]
 ·rw[if_pos h1,if_pos h1]
 rw[if_neg h1,if_neg h1]
 unfold Fw
 by_cases h2:nd.leaf=true
 ·rw[if_pos h2,if_pos h2]
  have hk:nd.kids=[]:=by rw[C0 hs h2]
  rw[hk,FZ]
  generalize Hw s fr to nd.keys nd.vals (page::S) n=W
  by_cases h3:W.e≠0
  ·rw[if_pos h3]
  ·rw[if_neg h3]
   obtain⟨S',n',e'⟩:=W
   simp only[ne_eq,Decidable.not_not] at h3
   rw[h3]
 ·rw[if_neg h2,if_neg h2]
  by_cases h3:nd.keys.any (F5 fr to)=true
  ·rw[if_pos h3,if_pos h3];rfl
  ·rw[if_neg h3,if_neg h3];rfl
def ZJ{s}{lf:Bool}{fr to}{S:List Int}{n:Nat}{vs}:Fw s lf fr to [] vs S n=⟨S,n,0⟩:=by
 unfold Fw;cases lf
 ·rfl
 ·cases vs<;>rfl
section
variable {s:PD}{nd:Ax}{fr to:List UInt8}{S:List Int}{n i:Nat}
def Te(hi:i<nd.keys.length)(hlv:nd.leaf=true→nd.vals.length=nd.keys.length)(h:F5 fr to nd.keys[i]=true):(Fw s nd.leaf fr to (nd.keys.drop i) (nd.vals.drop i) S n).e=200:=by
 rw[Acu hi];unfold Fw;by_cases hl:nd.leaf=true
 ·have hv:i<nd.vals.length:=by rw[hlv hl];exact hi
  rw[if_pos hl,Acu hv,Hw,if_pos h]
 ·rw[if_neg hl,List.any_cons,h];rfl
def Xy(hl:nd.leaf=true)(hi:i<nd.keys.length)(hv:i<nd.vals.length)(h:F5 fr to nd.keys[i]=false):Fw s nd.leaf fr to (nd.keys.drop i) (nd.vals.drop i) S n=
  if (Dw s S nd.vals[i]).2≠0 then⟨S,n,(Dw s S nd.vals[i]).2⟩ else Fw s nd.leaf fr to (nd.keys.drop (i+1)) (nd.vals.drop (i+1)) (Dw s S nd.vals[i]).1 (n+1):=by
 rw[Acu hi,Acu hv]
 unfold Fw
 rw[if_pos hl,if_pos hl,Hw,if_neg (by rw[h];decide)]
def VL(hl:¬nd.leaf=true)(hi:i<nd.keys.length)(h:F5 fr to nd.keys[i]=false):Fw s nd.leaf fr to (nd.keys.drop i) (nd.vals.drop i) S n=Fw s nd.leaf fr to (nd.keys.drop (i+1)) (nd.vals.drop (i+1)) S n:=by
 rw[Acu hi];unfold Fw;rw[if_neg hl,if_neg hl,List.any_cons,h,Agt]
end
def RSl.some{α}{sz:Nat}{R d a}{n c:Nat}{xs:List α}(h:RSl sz R d (.slice a n c) xs)(hn:n≠0):∃b o,a=some ⟨b,o,none⟩:=by
 obtain⟨a',c',b,o,e,h1,_⟩:=h;injection e with e1 e2 e3
 subst e1;subst e2;exact⟨b,o,h1 hn⟩
def AaO{fr to k}(h:Lib.compareBytes k fr<0):F5 fr to k=true:=by
 unfold F5;rw[(EN _ _).1 h];rfl
def AaF{fr to k}(h0:to≠[])(h:¬Lib.compareBytes k to<0):F5 fr to k=true:=by
 unfold F5;have h1:Op.bytesLess k to=false:=by
  cases q:Op.bytesLess k to with
  |true=>exact absurd ((EN _ _).2 q) h
  |false=>rfl
 rw[h1];cases to with
 |nil=>exact absurd Z h0
 |cons=>simp
def Wd{fr to k}(h:¬Lib.compareBytes k fr<0)(h2:to=[]∨Lib.compareBytes k to<0):F5 fr to k=false:=
 R4 (fun q=>h ((EN _ _).2 q)) (h2.imp id (fun q=>(EN _ _).1 q))
def loI(nd:Ax)(fr to:List UInt8)(i:Nat):List UInt8:=if i=0 then fr else(nd.keys.drop (i - 1)).headD to
def Un(P:Program)(f:FuncId):Prop:=∀(g:Nat) {d s}{bc bm n c:Nat}{Tc dv pv fv tv}{ms:List (Int×Int×Nat)}{S:List Int}{page h:Int}{fr to L},PgT d s dv pv L→Hv ms S→AH d fv fr→AH d tv to→(to=[]→tv=nV)→
 (Cb s g page h fr to S n).e≠99999→(g:Int) - 1000000000≤h→h≤1000000000→
 AB P f [pZ bc,vZ page,vZ h,fv,tv] d (ckB bc Tc pv bm n::mpS bm ms c::L) (Ret fun v d' L'=>Le d d'∧v=vZ (Cb s g page h fr to S n).e∧∃ms' c' n' L2,L'=ckB bc Tc pv bm n'::mpS bm ms' c'::L2∧PgT d' s dv pv L2∧
  ((Cb s g page h fr to S n).e=0→Hv ms' (Cb s g page h fr to S n).S∧n'=(Cb s g page h fr to S n).n))
def Jd(a0 a1 a2 a3 a4:Nat):A3:=⟨125,[(.tmp 10)],(sR (o1 10 (.mv z0) .done) (sR (om 22 0<|o1 23 (.nilc 22)<|oj 24 0 23<|ol 25 24<|om 26 1<|om 27 2<|oc 28 a0 [25,26,27]<|om 21 28<|oe 29 21 0<|oe 30 21 1<|o1 11 (.alo (.agg #[(.bool false),nV,nV,nV]))<|o0 (.st 4 11 29)<|om 12 30 .done) (.seq (sR (om 31 12<|ob 32 .neq 31 z0 .done) (.cond 32 (sR (om 33 12<|om 10 33 .done) .ret) .skip)) (.seq (sR (om 34 0<|om 35 1<|oc 36 a1 [34,35]<|o1 37 (.un .not 36)<|om 38 37<|oF 39 38 (.fld 1 11)<|oF 40 38 (.ld none 39)<|oF 41 38 (.len 40)<|oF 42 38 (.bin .eql 41 z0)<|o1 43 (.pick 38 (.const (.bool true)) 42) .done) (.cond 43 (sR (o1 10 (.mv (kZ 200)) .done) .ret) .skip)) (.seq (sR (oj 44 1 11<|ol 45 44<|oL 46 45<|o1 47 (.mv z0) .done) (.block 0 (.loop (sR (ob 48 .lss 47 46 .done) (.seq (.cond 48 .skip (.exit 0)) (.seq (.block 1 (sR (om 49 47<|oI 50 1 45 47<|ol 51 50<|om 13 49<|om 14 51 .done) (.seq (sR (om 52 14<|om 53 3<|oc 54 a2 [52,53]<|ob 55 .lss 54 z0<|om 56 55<|gF 57 56 4<|oF 58 56 (.eqs true 57 nS)<|gF 59 56 58<|gT 60 59 14<|gT 61 59 4<|oT 62 59 (.call a2 [60,61])<|oT 63 59 (.bin .geq 62 z0)<|oF 64 56 (.pick 59 63 (.const (.bool false)))<|o1 65 (.pick 56 (.const (.bool true)) 64) .done) (.cond 65 (sR (o1 10 (.mv (kZ 200)) .done) .ret) .skip)) (sR (oj 66 0 11<|ol 67 66 .done) (.cond 67 (sR (om 68 0<|o1 69 (.nilc 68)<|oj 70 2 69<|ol 71 70<|ob 72 .add 71 z1<|o1 73 (.nilc 68)<|oj 74 2 73<|o0 (.st 1 74 72) .done) (sR (om 75 0<|oj 76 2 11<|ol 77 76<|om 78 13<|oI 79 1 77 78<|ol 80 79<|oc 81 a3 [75,80]<|om 15 81 .done) (sR (om 82 15<|ob 83 .neq 82 z0 .done) (.cond 83 (sR (om 84 15<|om 10 84 .done) .ret) .skip)))) .skip))))) (rG (ob 85 .add 47 z1<|om 47 85 .done)))))))) (.seq (sR (oj 86 3 11<|ol 87 86<|oL 88 87<|o1 89 (.mv z0) .done) (.block 2 (.loop (sR (ob 90 .lss 89 88 .done) (.seq (.cond 90 .skip (.exit 2)) (.seq (.block 3 (sR (om 91 89<|oI 92 1 87 89<|ol 93 92<|om 16 91<|om 17 93 .done) (sR (om 94 3<|om 95 4<|om 18 94<|om 19 95 .done) (.seq (sR (om 96 16<|ob 97 .gtr 96 z0 .done) (.cond 97 (rG (oj 98 1 11<|ol 99 98<|om 100 16<|ob 101 .sub 100 z1<|oI 102 1 99 101<|ol 103 102<|om 18 103 .done)) .skip)) (.seq (sR (om 104 16<|oj 105 1 11<|ol 106 105<|oL 107 106<|ob 108 .lss 104 107 .done) (.cond 108 (rG (oj 109 1 11<|ol 110 109<|om 111 16<|oI 112 1 110 111<|ol 113 112<|om 19 113 .done)) .skip)) (sR (om 114 0<|om 115 17<|om 116 2<|ob 117 .sub 116 z1<|om 118 18<|om 119 19<|oc 120 a4 [114,115,117,118,119]<|om 20 120 .done) (sR (om 121 20<|ob 122 .neq 121 z0 .done) (.cond 122 (sR (om 123 20<|om 10 123 .done) .ret) .skip)))))))) (rG (ob 124 .add 89 z1<|om 89 124 .done)))))))) (sR (o1 10 (.mv z0) .done) .ret)))))))⟩
set_option maxRecDepth 4000 in
set_option maxHeartbeats 1000000 in
def Aba{P f f1 f2 f3 f4}(hd:dec P f=some (Jd f1 f2 f3 f4 f))(h1:LN P f1)(h2:NB P f2)(h3:Ft P f3)(h4:Ko P f4):Un P f:=by
 intro g;induction g with
 |zero=>intro d s bc bm n c Tc dv pv fv tv ms S page h fr to L _ _ _ _ _ hx;exact absurd Z hx
 |succ g ih=>
 intro d s bc bm n c Tc dv pv fv tv ms S page h fr to L hp hs hf ht htn hx hlo hhi;obtain⟨pb,rfl⟩:=hp.ptr;obtain⟨fa,fc,rfl⟩:=RSl.val hf;obtain⟨ta,tc0,rfl⟩:=RSl.val ht;have hfl:=RSl.Bt hf;have htl:=RSl.Bt ht;refine AK hd (Aca Z) ?_;show gwp P _ _ _ _ _;(refine Ad<|Ac Z<|Aa<|Ad<|Ah Z<|AJ Z<|Aj Z<|Ai Z (Aq 0 Z Z)<|Ac Z<|Ac Z ?_);obtain⟨n0,hp⟩:=hp;refine Be [_,_] (h1 (k:=page) (x:=h) hp) Z Z (fun v d2 L2 hl ⟨_,cs,tc,e1,hn,hp2,_⟩=>?_);subst e1;rw[show AN (wtc s n0) page h=AN s page h from Z] at hn⊢;have hp2:PgT d2 s dv (pZ pb) L2:=⟨tc,hp2⟩
 obtain⟨xa,xc,ya,yc,za,zc,rfl⟩:=CO.four hn;(refine AU Z<|Ap Z Z<|Ap Z Z<|Da (fun _ _=>?_));rename_i b11 T11;refine Bg 0 [.bool (AN s page h).1.leaf,.slice xa (AN s page h).1.keys.length xc,.slice ya (AN s page h).1.vals.length yc,.slice za (AN s page h).1.kids.length zc] Z Z Z Z (Aca Z) Z Z ?_;by_cases he:(AN s page h).2=0
 ·obtain⟨hr,hlf⟩:=GX he;obtain⟨nd,hne⟩:∃nd,(AN s page h).1=nd:=⟨_,Z⟩
  have hF:=Ua (g:=g) (fr:=fr) (to:=to) (S:=S) (n:=n) he hne;rw[hF] at hx⊢;rw[he];rw[hne] at hn hr hlf⊢;have hlv:nd.leaf=true→nd.vals.length=nd.keys.length:=Hn hr;have hkb:∀k∈nd.keys,k≠[]:=fun k hk q=>by
   have hsd:AX nd=true:=by simp only[AV,Acb] at hr;exact hr.1
   have hko:KO nd.keys:=by simp only[AX,Acb] at hsd;exact Kr.1 hsd.1
   have:=(hko.1 k hk).1;rw[q] at this;simp at this
  have hlk:nd.kids.length≤nd.keys.length+1:=by
   cases q:nd.leaf with
   |false=>rw[Jq hr q];exact Acj _
   |true=>
    have hsd:AX nd=true:=by simp only[AV,Acb] at hr;exact hr.1
    rw[C0 hsd q];exact Adf _
  clear hr hF;(refine Ac Z<|Aa<|Ag<|Ad<|Ac Z<|AW Z Z<|Aa<|Aw Z (by omega) ?_);apply Al;refine Ag<|Ad<|Ah Z<|Ac Z<|BA d2 (bx b11 T11 [.bool nd.leaf,.slice xa nd.keys.length xc,.slice ya nd.vals.length yc,.slice za nd.kids.length zc]::ckB bc Tc (pZ pb) bm n::mpS bm ms c::L2) (Vs.refl _ _) ?_;refine Qj (fun d6 hl6 hg6=>?_);replace hg6:=K0 hg6;have hp6:=hp2.mono hl6;have hf6:RSl 1 AE d6 (.slice fa fr.length fc) fr:=RSl.mono (R:=AE) AP hf (hl.trans hl6);have ht6:RSl 1 AE d6 (.slice ta to.length tc0) to:=RSl.mono (R:=AE) AP ht (hl.trans hl6);obtain⟨kv,vv,iv,q,r1,r2,r3⟩:=hn;cases q;have r1:RSl 1 RBs d6 (.slice xa nd.keys.length xc) nd.keys:=RSl.mono (R:=RBs) BQ r1 hl6;have r2:RSl 1 RBs d6 (.slice ya nd.vals.length yc) nd.vals:=RSl.mono (R:=RBs) BQ r2 hl6;have r3:RSl 1 A7 d6 (.slice za nd.kids.length zc) nd.kids:=RSl.mono (R:=A7) BE r3 hl6;have n1:=r1.Bt;have n3:=r3.Bt;clear hf ht hp2;refine Be [] (h2 (L:=L2) (k:=page) (n:=n) (c:=c) hs) Z Z (fun v d7 L7 hl7 ⟨q1,q2,ms7,c7,q3,hs7⟩=>?_);subst q1;subst q3;by_cases hm:page∈S
  ·rw[decide_eq_false (fun q=>q hm)] at q2;subst q2;rw[if_pos (.inl hm)];clear hx;(refine Bd Z<|Af Z<|Am Z<|Am Z<|Am Z<|Am Z<|Ay Z Z<|Aa<|A8 Z<|Ad<|Ac Z<|Aa<|Ao ?_);exact A9 [vZ 200] ⟨Ar Z,trivial⟩ (d':=d7) (L':=ckB bc Tc (pZ pb) bm n::mpS bm ms7 c7::L2) (Vs.refl _ _) ⟨hl.trans hl6,Z,ms7,c7,n,L2,Z,hp6,fun q=>absurd (show(200:Int)=0 from q) (by decide)⟩
  rw[decide_eq_true hm] at q2;subst q2;have hs7:=hs7 hm;by_cases hk0:nd.keys.length=0
  ·rw[if_pos (.inr (Acl hk0))];clear hx;(refine Bd Z<|Af Z<|Ae Z<|Aj Z<|Ae Z<|Ai Z (Bf (by assumption) Z)<|Ae Z<|AO Z<|Ae Z<|AT Z Z<|Av Z Z<|Aa<|AF Z (by omega)<|Ad<|Ac Z<|Aa<|Ao ?_);exact A9 [vZ 200] ⟨Ar Z,trivial⟩ (d':=d7) (L':=ckB bc Tc (pZ pb) bm n::mpS bm ms7 c7::L2) (Vs.refl _ _) ⟨hl.trans hl6,Z,ms7,c7,n,L2,Z,hp6,fun q=>absurd (show(200:Int)=0 from q) (by decide)⟩
  rw[if_neg (fun q=>q.elim hm (fun e=>hk0 (by rw[e];rfl)))] at hx⊢;obtain⟨W,hW⟩:∃W,Fw s nd.leaf fr to nd.keys nd.vals (page::S) n=W:=⟨_,Z⟩
  rw[hW] at hx⊢;obtain⟨R,hR⟩:∃R,(if W.e≠0 then W else FZ (fun c lo hi S n=>Cb s g c (h - 1) lo hi S n) fr to nd.keys nd.kids W.S W.n)=R:=⟨_,Z⟩
  rw[hR] at hx⊢;refine Bd Z<|Af Z<|Ae Z<|Aj Z<|Ae Z<|Ai Z (Bf (by assumption) Z)<|Ae Z<|AO Z<|Ae Z<|AT Z Z<|Av Z Z<|Aa<|Aw Z (by omega)<|Al<|Ag<|Ad<|Aj Z<|Ai Z (Bf (by assumption) Z)<|AO Z<|Ac Z<|Aa<|Az<|BM (α:=Nat×List Int×Nat×List (Int×Int×Nat)×Nat) (fun x=>[(0,pZ bc),(2,vZ h),(3,.slice fa fr.length fc),(4,.slice ta to.length tc0),(11,pZ b11),(45,.slice xa nd.keys.length xc),(46,vZ nd.keys.length),(47,vZ x.1)])
   (fun x d' L'=>Le d7 d'∧x.1≤nd.keys.length∧Fw s nd.leaf fr to (nd.keys.drop x.1) (nd.vals.drop x.1) x.2.1 x.2.2.1=W∧Hv x.2.2.2.1 x.2.1∧∃L3,PgT d' s dv (pZ pb) L3∧L'=ckB bc Tc (pZ pb) bm x.2.2.1::mpS bm x.2.2.2.1 x.2.2.2.2::L3)
   (fun x=>nd.keys.length - x.1) (0,page::S,n,ms7,c7) ⟨Z,Z,Z,Z,Z,Z,Z,Z,trivial⟩ ⟨Le.refl _,Adf _,hW,hs7,L2,hp6,Z⟩ ?_
  rintro⟨i,S1,n1',ms1,c1⟩ ρ d8 Lx ⟨hl8,hi,hWi,hs1,L3,hp8,hL⟩;simp only at hi hWi hs1 hp8 hL⊢;subst hL;have hg8:=hg6.mono hl8;have k1:RSl 1 RBs d8 (.slice xa nd.keys.length xc) nd.keys:=RSl.mono (R:=RBs) BQ r1 hl8;have k2:RSl 1 RBs d8 (.slice ya nd.vals.length yc) nd.vals:=RSl.mono (R:=RBs) BQ r2 hl8;have hf8:RSl 1 AE d8 (.slice fa fr.length fc) fr:=RSl.mono (R:=AE) AP hf6 hl8;have ht8:RSl 1 AE d8 (.slice ta to.length tc0) to:=RSl.mono (R:=AE) AP ht6 hl8;by_cases e1:i<nd.keys.length
  ·apply Ag;apply AI;(refine AA Z Z<|Aa ?_);apply Ag;refine AF Z (by omega) ?_;apply Al;apply Ag;apply Az;apply Ag;apply AI;(refine Ac Z<|A0 (sz:=1) (R:=RBs) (by rfl) (by assumption) (by rfl) Z (by omega) ?_;rintro _ _ _ _ _ ⟨_,rfl,_⟩;refine Ai Z (Bp (by assumption) Z)<|Ac Z<|AQ<|Aa ?_);show gwp P _ _ _ _ _;apply Ag;refine HM (fun ρ d9 L9=>d9=d8∧Bk ρ [(0,pZ bc),(2,vZ h),(3,.slice fa fr.length fc),(4,.slice ta to.length tc0),(11,pZ b11),(13,vZ i),(45,.slice xa nd.keys.length xc),(46,vZ nd.keys.length),(47,vZ i)]∧
    L9=ckB bc Tc (pZ pb) bm n1'::mpS bm ms1 c1::L3∧F5 fr to nd.keys[i]=false) ?_ ?_
   ·by_cases c2:Lib.compareBytes nd.keys[i] fr<0
    ·have hRe:R.e=200:=by
      have hWe:W.e=200:=by rw[←hWi];exact Te e1 hlv (AaO c2)
      rw[←hR,if_pos (by rw[hWe];decide),hWe]
     clear hR hWi hx;refine Ad<|AQ<|Ak Z<|Br Z (h3 (show AH _ _ nd.keys[i] by assumption) hf8) ?_;(refine AA Z Z<|Af Z<|A4 Z (by omega)<|Am Z<|Am Z<|Am Z<|Bo Z<|Bo Z<|Bo Z<|Bo Z<|Am Z<|Ay Z Z<|Aa<|A8 Z<|Ad<|Ac Z<|Aa<|Ao ?_);exact A9 [vZ 200] ⟨Ar Z,trivial⟩ (d':=d8) (L':=ckB bc Tc (pZ pb) bm n1'::mpS bm ms1 c1::L3) (Vs.refl _ _) ⟨(hl.trans hl6).trans hl8,by rw[hRe];rfl,ms1,c1,n1',L3,Z,hp8,fun q=>by rw[hRe] at q;exact absurd q (by decide)⟩
    by_cases hto:to=[]
    ·have hout:=Wd (to:=to) c2 (.inl hto);have htv:=htn hto;injection htv with t1 t2 t3
     subst t1;clear hR hWi hx;refine Ad<|AQ<|Ak Z<|Br Z (h3 (show AH _ _ nd.keys[i] by assumption) hf8) ?_;(refine AA Z Z<|Af Z<|A1 Z (by omega)<|Ae Z<|Ak Z<|Ae Z<|NT Z Z<|Ae Z<|Af Z<|Am Z<|Am Z<|Am Z<|Am Z<|Ae Z<|Av Z Z<|Av Z Z<|Aa<|AS Z<|Al ?_);exact⟨Z,⟨Z,Z,Z,Z,Z,Z,Z,Z,Z,trivial⟩,Z,hout⟩
    ·obtain⟨tb,tf,hta⟩:=RSl.some ht8 (fun q=>hto (Acl q));subst hta;by_cases c3:Lib.compareBytes nd.keys[i] to<0
     ·have hout:=Wd (to:=to) c2 (.inr c3);clear hR hWi hx;refine Ad<|AQ<|Ak Z<|Br Z (h3 (show AH _ _ nd.keys[i] by assumption) hf8) ?_;refine AA Z Z<|Af Z<|A1 Z (by omega)<|Ae Z<|Ak Z<|Ae Z<|Kk Z Z<|Ae Z<|Af Z<|Ae Z<|AQ<|Ae Z<|Ak Z<|Ae Z<|Br Z (h3 (show AH _ _ nd.keys[i] by assumption) ht8) ?_;(refine Ae Z<|Ds Z Z<|Ae Z<|Ay Z Z<|Av Z Z<|Aa<|Aw Z (by omega)<|Al ?_);exact⟨Z,⟨Z,Z,Z,Z,Z,Z,Z,Z,Z,trivial⟩,Z,hout⟩
     ·have hRe:R.e=200:=by
       have hWe:W.e=200:=by rw[←hWi];exact Te e1 hlv (AaF hto c3)
       rw[←hR,if_pos (by rw[hWe];decide),hWe]
      clear hR hWi hx;refine Ad<|AQ<|Ak Z<|Br Z (h3 (show AH _ _ nd.keys[i] by assumption) hf8) ?_;refine AA Z Z<|Af Z<|A1 Z (by omega)<|Ae Z<|Ak Z<|Ae Z<|Kk Z Z<|Ae Z<|Af Z<|Ae Z<|AQ<|Ae Z<|Ak Z<|Ae Z<|Br Z (h3 (show AH _ _ nd.keys[i] by assumption) ht8) ?_;(refine Ae Z<|Ds Z Z<|Ae Z<|Ay Z Z<|Av Z Z<|Aa<|AF Z (by omega)<|Ad<|Ac Z<|Aa<|Ao ?_);exact A9 [vZ 200] ⟨Ar Z,trivial⟩ (d':=d8) (L':=ckB bc Tc (pZ pb) bm n1'::mpS bm ms1 c1::L3) (Vs.refl _ _) ⟨(hl.trans hl6).trans hl8,by rw[hRe];rfl,ms1,c1,n1',L3,Z,hp8,fun q=>by rw[hRe] at q;exact absurd q (by decide)⟩
   rintro ρ d9 L9 ⟨hdd,hsl,hL,hout⟩;subst hdd;subst hL;show gwp P _ _ _ _ _;refine CY _ hsl ?_;clear hsl;by_cases hleaf:nd.leaf=true
   ·have hv1:i<nd.vals.length:=by rw[hlv hleaf];exact e1
    rw[Xy hleaf e1 hv1 hout] at hWi;rewrite [hleaf] at hg8;refine Ad<|Aj Z<|Ai Z (Bf (by assumption) Z)<|Aa<|A8 Z<|Ad<|Ah Z<|AJ Z<|Aj Z<|Ai Z (Aq 0 Z Z)<|Kt (n:=n1') Z Z ?_;refine AJ Z<|Aj Z<|Bg 0 [pZ pb,.map (some bm),vZ (wr (n1'+1))] Z Z Z Z (Aca Z) Z Z ?_;(refine Aa<|Ad<|Ah Z<|Aj Z<|Ai Z (Bf (by assumption) Z)<|Ac Z<|A0 (sz:=1) (R:=RBs) (by rfl) (by assumption) (by rfl) Z (by omega) ?_;rintro _ _ _ _ _ ⟨_,rfl,_⟩;apply Ai;rfl;exact Bp (by assumption) Z);refine BA d9 (ckB bc Tc (pZ pb) bm (n1'+1)::mpS bm ms1 c1::L3) (Vs.refl _ _) ?_;refine Be [] (h4 (L:=L3) (n:=n1'+1) (c:=c1) hp8 hs1 (show AH d9 _ nd.vals[i] by assumption)) Z Z (fun v d10 L10 hl10 ⟨_,q2,ms10,c10,L11,q3,hp11,hs11⟩=>?_);subst q2;subst q3;obtain⟨C,hC⟩:∃C,Dw s S1 nd.vals[i]=C:=⟨_,Z⟩
    rw[hC] at hs11 hWi⊢;by_cases hc0:C.2=0
    ·rw[if_neg (fun q=>q hc0)] at hWi;rw[hc0];(refine Ac Z<|Aa<|Ad<|Ac Z<|AW Z Z<|Aa<|Aw Z (by omega)<|Al<|AI<|AY Z Z (by omega) (by omega)<|Ac Z<|Aa ?_);exact⟨(i+1,C.1,n1'+1,ms10,c10),by show nd.keys.length - (i+1)<nd.keys.length - i;omega,⟨Z,Z,Z,Z,Z,Z,Z,Z,trivial⟩,hl8.trans hl10,e1,hWi,hs11 hc0,L11,hp11,Z⟩
    ·rw[if_pos hc0] at hWi;have hRe:R.e=C.2:=by
      have hWe:W.e=C.2:=by rw[←hWi]
      rw[←hR,if_pos (by rw[hWe];exact hc0),hWe]
     clear hR hWi hx;(refine Ac Z<|Aa<|Ad<|Ac Z<|AW Z Z<|Aa<|AF Z (by omega)<|Ad<|Ac Z<|Ac Z<|Aa<|Ao ?_);exact A9 [vZ C.2] ⟨Ar Z,trivial⟩ (d':=d10) (L':=ckB bc Tc (pZ pb) bm (n1'+1)::mpS bm ms10 c10::L11) (Vs.refl _ _) ⟨((hl.trans hl6).trans hl8).trans hl10,by rw[hRe];rfl,ms10,c10,n1'+1,L11,Z,hp11,fun q=>absurd (hRe.symm.trans q) hc0⟩
   ·rw[VL hleaf e1 hout] at hWi;have hlf2:nd.leaf=false:=by simpa using hleaf
    rewrite [hlf2] at hg8;(refine Ad<|Aj Z<|Ai Z (Bf (by assumption) Z)<|Aa<|AS Z<|Al<|AI<|AY Z Z (by omega) (by omega)<|Ac Z<|Aa ?_);exact⟨(i+1,S1,n1',ms1,c1),by show nd.keys.length - (i+1)<nd.keys.length - i;omega,⟨Z,Z,Z,Z,Z,Z,Z,Z,trivial⟩,hl8,e1,hWi,hs1,L3,hp8,Z⟩
  ·rw[Agw (by omega),ZJ] at hWi;subst hWi;rw[if_neg (fun q=>q Z)] at hR;clear hlv;refine Ad<|AA Z Z<|Aa<|Ag<|Aw Z (by omega)<|Ba<|Ag<|Ad<|Aj Z<|Ai Z (Bf (by assumption) Z)<|AO Z<|Ac Z<|Aa<|Az<|BM (α:=Nat×List Int×Nat×List (Int×Int×Nat)×Nat) (fun x=>[(0,pZ bc),(2,vZ h),(3,.slice fa fr.length fc),(4,.slice ta to.length tc0),(11,pZ b11),(87,.slice za nd.kids.length zc),(88,vZ nd.kids.length),(89,vZ x.1)])
    (fun x d' L'=>Le d7 d'∧x.1≤nd.kids.length∧FZ (fun c lo hi S n=>Cb s g c (h - 1) lo hi S n) (loI nd fr to x.1) to (nd.keys.drop x.1) (nd.kids.drop x.1) x.2.1 x.2.2.1=R∧Hv x.2.2.2.1 x.2.1∧∃L3,PgT d' s dv (pZ pb) L3∧L'=ckB bc Tc (pZ pb) bm x.2.2.1::mpS bm x.2.2.2.1 x.2.2.2.2::L3)
    (fun x=>nd.kids.length - x.1) (0,S1,n1',ms1,c1) ⟨Z,Z,Z,Z,Z,Z,Z,Z,trivial⟩ ⟨hl8,Adf _,hR,hs1,L3,hp8,Z⟩ ?_
   clear hR hs1 hp8 hg8 k1 k2 hf8 ht8 hl8;rintro⟨i,S1,n1',ms1,c1⟩ ρ d8 Lx ⟨hl8,hi,hR,hs1,L3,hp8,hL⟩;simp only at hi hR hs1 hp8 hL⊢;subst hL;have hg8:=hg6.mono hl8;have k1:RSl 1 RBs d8 (.slice xa nd.keys.length xc) nd.keys:=RSl.mono (R:=RBs) BQ r1 hl8;have k3:RSl 1 A7 d8 (.slice za nd.kids.length zc) nd.kids:=RSl.mono (R:=A7) BE r3 hl8;have hf8:RSl 1 AE d8 (.slice fa fr.length fc) fr:=RSl.mono (R:=AE) AP hf6 hl8;have ht8:RSl 1 AE d8 (.slice ta to.length tc0) to:=RSl.mono (R:=AE) AP ht6 hl8;by_cases e1:i<nd.kids.length
   ·rw[Acu e1,FZ] at hR;apply Ag;apply AI;(refine AA Z Z<|Aa ?_);apply Ag;refine AF Z (by omega) ?_;apply Al;apply Ag;apply Az;apply Ag;apply AI;(refine Ac Z<|A0 (sz:=1) (R:=A7) (by rfl) (by assumption) (by rfl) Z (by omega) ?_;rintro _ _ _ _ _ ⟨rfl,_,_⟩;refine Ai Z (Bp (by assumption) Z)<|Ac Z<|Ac Z<|Aa ?_);show gwp P _ _ _ _ _;apply Ag;apply AI;(refine Ak Z<|Ak Z<|Ak Z<|Ak Z<|Aa ?_);show gwp P _ _ _ _ _;apply Ag;refine HM (fun ρ d9 L9=>d9=d8∧(∃lv,Bk ρ [(0,pZ bc),(2,vZ h),(3,.slice fa fr.length fc),(4,.slice ta to.length tc0),(11,pZ b11),(16,vZ i),(17,vZ nd.kids[i]),(18,lv),(19,.slice ta to.length tc0),(87,.slice za nd.kids.length zc),(88,vZ nd.kids.length),(89,vZ i)]∧AH d8 lv (loI nd fr to i))∧
     L9=ckB bc Tc (pZ pb) bm n1'::mpS bm ms1 c1::L3) ?_ ?_
    ·by_cases hi0:0<i
     ·have hik:i - 1<nd.keys.length:=by omega
      have hlo:loI nd fr to i=nd.keys[i - 1]:=by unfold loI;rw[if_neg (by omega),Acu hik];rfl
      have hie:(i:Int) - 1=((i - 1:Nat):Int):=by omega
      clear hR hx;refine Ad<|Ac Z<|Bb Z Z<|Aa<|AF Z (by omega)<|AI<|Aj Z<|Ai Z (Bf (by assumption) Z)<|Ac Z<|CP Z Z (by omega) (by omega)<|A0 (sz:=1) (R:=RBs) Z k1 Z (m:=i - 1) hie hik (fun bq oq csq hcq hDq hRq=>?_);obtain⟨uq,hu,hRu⟩:=hRq;subst hu;(refine Ai Z (Bp (by assumption) Z)<|AQ<|Aa ?_);exact⟨Z,⟨_,⟨Z,Z,Z,Z,Z,Z,Z,Z,Z,Z,Z,Z,trivial⟩,by rw[hlo];exact hRu⟩,Z⟩
     ·have hlo:loI nd fr to i=fr:=by unfold loI;rw[if_pos (by omega)]
      clear hR hx;(refine Ad<|Ac Z<|Bb Z Z<|Aa<|Aw Z (by omega)<|Al ?_);exact⟨Z,⟨_,⟨Z,Z,Z,Z,Z,Z,Z,Z,Z,Z,Z,Z,trivial⟩,by rw[hlo];exact hf8⟩,Z⟩
    rintro ρ d9 L9 ⟨hdd,⟨lv,hsl,hlow⟩,hL⟩;subst hdd;subst hL;obtain⟨la,lc,rfl⟩:=RSl.val hlow;show gwp P _ _ _ _ _;refine CY _ hsl ?_;clear hsl;apply Ag;refine HM (fun ρ d10 L10=>d10=d9∧(∃hv,Bk ρ [(0,pZ bc),(2,vZ h),(3,.slice fa fr.length fc),(4,.slice ta to.length tc0),(11,pZ b11),(16,vZ i),(17,vZ nd.kids[i]),(18,.slice la (loI nd fr to i).length lc),(19,hv),(87,.slice za nd.kids.length zc),(88,vZ nd.kids.length),(89,vZ i)]∧AH d9 hv ((nd.keys.drop i).headD to)∧((nd.keys.drop i).headD to=[]→hv=nV))∧
     L10=ckB bc Tc (pZ pb) bm n1'::mpS bm ms1 c1::L3) ?_ ?_
    ·by_cases hik:i<nd.keys.length
     ·have hhi2:(nd.keys.drop i).headD to=nd.keys[i]:=by rw[Acu hik];rfl
      have hne2:=hkb nd.keys[i] (Acz hik);rw[hhi2];clear hR hx hhi2;(refine Ad<|Ac Z<|Aj Z<|Ai Z (Bf (by assumption) Z)<|AO Z<|AA Z Z<|Aa<|AF Z (by omega)<|AI<|Aj Z<|Ai Z (Bf (by assumption) Z)<|Ac Z<|A0 (sz:=1) (R:=RBs) (by rfl) (by assumption) (by rfl) Z (by omega) ?_;rintro _ _ _ _ _ ⟨_,rfl,_⟩;refine Ai Z (Bp (by assumption) Z)<|AQ<|Aa ?_);exact⟨Z,⟨_,⟨Z,Z,Z,Z,Z,Z,Z,Z,Z,Z,Z,Z,trivial⟩,by assumption,fun q=>absurd q hne2⟩,Z⟩
     ·have hhi2:(nd.keys.drop i).headD to=to:=by rw[Agw (by omega)];rfl
      rw[hhi2];clear hR hx hhi2;(refine Ad<|Ac Z<|Aj Z<|Ai Z (Bf (by assumption) Z)<|AO Z<|AA Z Z<|Aa<|Aw Z (by omega)<|Al ?_);exact⟨Z,⟨_,⟨Z,Z,Z,Z,Z,Z,Z,Z,Z,Z,Z,Z,trivial⟩,ht8,htn⟩,Z⟩
    rintro ρ d10 L10 ⟨hdd,⟨hv,hsl,hhigh,hnil⟩,hL⟩;subst hdd;subst hL;obtain⟨ha,hc,rfl⟩:=RSl.val hhigh;show gwp P _ _ _ _ _;refine CY _ hsl ?_;clear hsl;obtain⟨X,hX⟩:∃X,Cb s g nd.kids[i] (h - 1) (loI nd fr to i) ((nd.keys.drop i).headD to) S1 n1'=X:=⟨_,Z⟩
    rw[hX] at hR;have hXx:X.e≠99999:=fun q=>by rw[if_pos (by rw[q];decide)] at hR;subst hR;exact hx q
    have hcall:=ih (n:=n1') (c:=c1) (bc:=bc) (bm:=bm) (Tc:=Tc) hp8 hs1 hlow hhigh hnil (by rw[hX];exact hXx) (page:=nd.kids[i]) (h:=h - 1) (by omega) (by omega);rw[hX] at hcall;have hlo2:loI nd fr to (i+1)=(nd.keys.drop i).headD to:=by unfold loI;rw[if_neg (Aef _),Agk]
    generalize (nd.keys.drop i).headD to=hik at hcall hR hlo2 hnil hhigh⊢;refine Ad<|Ah Z<|Ac Z<|Ac Z<|CP Z Z (by omega) (by omega)<|Ak Z<|Ak Z<|Be [] hcall Z Z (fun v d11 L11 hl11 ⟨_,q2,ms11,c11,n11,L12,q3,hp12,hs12⟩=>?_);subst q2;subst q3;clear hcall;by_cases hx0:X.e=0
    ·obtain⟨hsA,hnA⟩:=hs12 hx0;subst hnA;rw[if_neg (fun q=>q hx0),List.tail_drop,←hlo2] at hR;rw[hx0];(refine Ac Z<|Aa<|Ad<|Ac Z<|AW Z Z<|Aa<|Aw Z (by omega)<|Al<|AI<|AY Z Z (by omega) (by omega)<|Ac Z<|Aa ?_);exact⟨(i+1,X.S,X.n,ms11,c11),by show nd.kids.length - (i+1)<nd.kids.length - i;omega,⟨Z,Z,Z,Z,Z,Z,Z,Z,trivial⟩,hl8.trans hl11,e1,hR,hsA,L12,hp12,Z⟩
    ·rw[if_pos hx0] at hR;subst hR;(refine Ac Z<|Aa<|Ad<|Ac Z<|AW Z Z<|Aa<|AF Z (by omega)<|Ad<|Ac Z<|Ac Z<|Aa<|Ao ?_);exact A9 [vZ X.e] ⟨Ar Z,trivial⟩ (d':=d11) (L':=ckB bc Tc (pZ pb) bm n11::mpS bm ms11 c11::L12) (Vs.refl _ _) ⟨((hl.trans hl6).trans hl8).trans hl11,Z,ms11,c11,n11,L12,Z,hp12,fun q=>absurd q hx0⟩
   ·rw[Agw (show nd.kids.length≤i by omega),FZ] at hR;subst hR;(refine Ad<|AA Z Z<|Aa<|Ag<|Aw Z (by omega)<|Ba<|Ad<|Ac Z<|Aa<|Ao ?_);exact A9 [vZ 0] ⟨Ar Z,trivial⟩ (d':=d8) (L':=ckB bc Tc (pZ pb) bm n1'::mpS bm ms1 c1::L3) (Vs.refl _ _) ⟨(hl.trans hl6).trans hl8,Z,ms1,c1,n1',L3,Z,hp8,fun _=>⟨hs1,Z⟩⟩
 ·have hF:Cb s (g+1) page h fr to S n=⟨S,n,(AN s page h).2⟩:=by rw[Cb,if_pos he]
  rw[hF];clear hF hx;(refine Ac Z<|Aa<|Ag<|Ad<|Ac Z<|AW Z Z<|Aa<|AF Z (by omega)<|Ad<|Ac Z<|Ac Z<|Aa<|Ao ?_);exact A9 [vZ (AN s page h).2] ⟨Ar Z,trivial⟩ (d':=d2) (L':=ckB bc Tc (pZ pb) bm n::mpS bm ms c::L2) (Vs.drop (.cons _ (Acd _))) ⟨hl,Z,ms,c,n,L2,Z,hp2,fun q=>absurd q he⟩
end
end Go.Gk.Tre
end
section
namespace Go.Gk.Tre
open Go Go.Gk Go.Gk.Dev Go.Gk.Cch Go.Gk.Pgr Go.Gk.Chn Go.Gk.Node
variable{t:TD}
def Tok.range{l}{P:List Int}(h:Tok t l P){fr to}{M:Nat}:
  Eu t M fr to=(Bl fr to M l,0)∧(0<M→(B3 t.s M fr to t.height t.root [] t.s.tc).out.length≤l.length)∧∃n,E5 t M fr to=t.s.tc+n+cpL (Bl fr to M l)∧n≤t.height*(2+(Bl fr to M l).length):=by
 unfold Eu E5
 rw[if_neg (by omega)]
 rcases h.tr with ⟨e1,_,rfl,_⟩|⟨x,e1,e2⟩
 ·rw[if_pos (.inl e1),if_pos (.inr (.inl e1)),SW,e1]
  exact⟨Z,fun _=>Adf _,0,by simp[cpL],Adf _⟩
 ·by_cases hM:M=0
  ·subst hM
   have e:Bl fr to 0 l=[]:=by simp[Bl]
   rw[if_pos (.inr Z),if_pos (.inr (.inr Z)),e]
   exact⟨Z,fun q=>absurd q (by decide),0,by simp[cpL],Adf _⟩
  ·rw[if_neg (show¬(t.height=0∨(M:Int)=0) by omega),if_neg (show¬((M:Int)<0∨t.height=0∨(M:Int)=0) by omega),e1]
   obtain⟨w1,w2,w3,w4,n,w5,w6⟩:=TI (fr:=fr) (to:=to) (M:=M) (x+1) (out:=[]) (tc:=t.s.tc) (f:=false) e2 (fun q=>by cases q) (by show 0<M;omega)
   rw[if_neg (by rw[w1];decide)]
   simp only[Adr,Aei,Nat.sub_zero] at w2 w5 w6
   rw[w2]
   refine⟨Z,fun _=>?_,n,w5,Aeq w6 (Nat.mul_le_mul_left _ ?_)⟩
   ·unfold Bl
    rw[Acs]
    exact Aeq (Nat.min_le_right ..) (List.length_filter_le ..)
   ·simp only[Bool.false_eq_true,if_false]
    split<;>omega
def Tok.CB{l}{P:List Int}(h:Tok t l P):CB t.root t.height t.count=true:=by
 have hc:=h.ct;unfold Tre.CB;rcases h.tr with ⟨e1,e2,rfl,_⟩|⟨x,e1,e2⟩
 ·rw[e1,e2,hc];decide
 ·have hne:=Fx.1 (Tr.ne e2);obtain⟨n,Q,hat,_⟩:=e2;have:=DD h.gd hat.liv;simp only[Adu,Acb,decide_eq_true_eq];omega
def Zw{P f}(h3:GP P f){d l}{Pp:List Int}{n:Nat}{dv pv fv tv L}{bt:Nat}{Tt fr to}{M:Nat}(hk:Tok t l Pp)(hl:l.length≤1000)(hp:Pg d (wtc t.s n) dv pv L)(hf:AH d fv fr)(ht:AH d tv to):
  AB P f [pv,pZ bt,fv,tv,vZ (M:Nat)] d (tbD bt Tt pv t::L) (Ret fun v d' L'=>Le d d'∧∃rv L2 m,v=.tuple #[rv,vZ 0]∧RSl 2 RBp d' rv (Bl fr to M l)∧L'=tbD bt Tt pv t::L2∧Pg d' (wtc t.s (n+m+cpL (Bl fr to M l))) dv pv L2∧m≤t.height*(2+(Bl fr to M l).length)):=by
 obtain⟨hkl,hth⟩:=hk.far hl
 have ho:=hk.CB
 have hk2:=hk.tc n
 obtain⟨r1,r2,m,r3,r4⟩:=hk2.range (fr:=fr) (to:=to) (M:=M)
 have hc:=hk.ct
 refine AB.EF (h3 (t:=⟨wtc t.s n,t.root,t.height,t.count⟩) (bt:=bt) (Tt:=Tt) hp ho (by have:=hkl.r1;show t.root≤1000000000;omega) (by show t.height≤1000000;omega) (by show t.count≤1000000000;omega) hf ht (fun q=>?_)) (fun r d' L' _ ⟨h0,rv,L2,tc,h1,h2,h3,h4,h5⟩=>⟨d',L',Vs.refl _ _,?_⟩)
 ·have:=r2 (by omega)
  exact Aeq this (by omega)
 ·have r1:Eu ⟨wtc t.s n,t.root,t.height,t.count⟩ M fr to=(Bl fr to M l,0):=r1
  have r3:E5 ⟨wtc t.s n,t.root,t.height,t.count⟩ M fr to=n+m+cpL (Bl fr to M l):=r3
  rw[r1] at h1 h2 h5
  have htc:tc=n+m+cpL (Bl fr to M l):=(h5 Z).trans r3
  subst htc
  exact⟨h0,rv,L2,m,h1,h2,h3,h4,r4⟩
def Ov{P f}(h3:GP P f){d l}{Pp:List Int}{dv pv fv tv L}{bt:Nat}{Tt fr to}{M:Nat}(hk:Tok t l Pp)(hl:l.length≤1000)(hp:PgT d t.s dv pv L)(hf:AH d fv fr)(ht:AH d tv to):
  AB P f [pv,pZ bt,fv,tv,vZ (M:Nat)] d (tbD bt Tt pv t::L) (Ret fun v d' L'=>Le d d'∧∃rv L2,v=.tuple #[rv,vZ 0]∧RSl 2 RBp d' rv (Bl fr to M l)∧L'=tbD bt Tt pv t::L2∧PgT d' t.s dv pv L2):=by
 obtain⟨n,hp⟩:=hp
 exact AB.EF (Zw h3 hk hl hp hf ht) (fun r d' L' _ ⟨h0,rv,L2,m,h1,h2,h3,h4,h5⟩=>⟨d',L',Vs.refl _ _,h0,rv,L2,h1,h2,h3,_,h4⟩)
end Go.Gk.Tre
end
section
namespace Go.Gk.Tre
open Go Go.Gk Go.Gk.Dev Go.Gk.Cch Go.Gk.Pgr Go.Gk.Chn Go.Gk.Node
attribute [local irreducible] gwp gws xwp
def AaR{P}{pan:List PanicEntry→AL}{Qn:Env→AL}{Ls L ρ d s}{t:Nat}{tk:Bool}{x y}{b bm:Nat}(ex:ev ρ x=pZ b)(ey:ev ρ y=.map (some bm))
  (h:gws P pan Qn s Ls (upd ρ t (.agg [pZ b,.map (some bm),vZ 0].toArray)) d L):gws P pan Qn (.op tk ⟨some t,none,.bld [(0,1),(1,1),(2,1)] [.pointer none,.map none,vZ 0] [(0,x),(1,y)]⟩ s) Ls ρ d L:=
 Ch (cs:=[pZ b,.map (some bm),vZ 0]) (by simp[Instr.fill,ex,ey,Value.cells]) h
def I8(P:Program)(f:FuncId):Prop:=∀(g:Nat) {d}{t:TD}{dv pv L}{bt:Nat}{Tt},PgT d t.s dv pv L→CB t.root t.height t.count=true→t.root≤1000000000→t.height≤1000000→t.count≤1000000000→g≤1000000→
 (t.height≠0→(Cb t.s g t.root t.height [] [] [] 0).e≠99999∧((Cb t.s g t.root t.height [] [] [] 0).e=0→(Cb t.s g t.root t.height [] [] [] 0).n≤1000000000))→
 AB P f [pv,pZ bt] d (tbD bt Tt pv t::L) (Ret fun v d' L'=>Le d d'∧v=vZ (HP g t)∧∃L2,L'=tbD bt Tt pv t::L2∧PgT d' t.s dv pv L2)
def QG(a0 a1 a2 a3 a4:Nat):A3:=⟨37,[(.tmp 4)],(sR (o1 4 (.mv z0) .done) (.seq (sR (om 8 0<|om 9 1<|oc 10 a0 [8,9]<|om 5 10 .done) (sR (om 11 5<|ob 12 .neq 11 z0 .done) (.cond 12 (sR (om 13 5<|om 4 13 .done) .ret) .skip))) (sR (om 14 0<|o1 15 (.mop .mk)<|o1 16 (.bld [(0,1),(1,1),(2,1)] [(.pointer none),(.map none),(vZ 0)] [(0,14),(1,15)])<|o1 17 (.box 16)<|om 6 17 .done) (.seq (sR (om 18 1<|oc 19 a1 [18]<|ob 20 .gtr 19 z0 .done) (.cond 20 (sR (om 21 6<|om 22 1<|oc 23 a2 [22]<|om 24 1<|oc 25 a1 [24]<|oc 26 a3 [21,23,25,nS,nS]<|om 7 26 .done) (sR (om 27 7<|ob 28 .neq 27 z0 .done) (.cond 28 (sR (om 29 7<|om 4 29 .done) .ret) .skip))) .skip)) (.seq (.seq (.reg true (pm 30 6<|p1 31 (.nilc 30)<|p1 32 (.fld 2 31)<|pl 33 32<|pm 34 1<|oc 35 a4 [34]<|p1 36 (.bin .neq 33 35) .done)) (.cond 36 (sR (o1 4 (.mv (kZ 200)) .done) .ret) .skip)) (sR (o1 4 (.mv z0) .done) .ret))))))⟩
set_option maxRecDepth 4000 in
def Vk{P f f1 f2 f3 f4 f5}(hd:dec P f=some (QG f1 f2 f3 f4 f5))(h1:JK P f1)(h2:Hb P f2)(h3:IW P f3)(h4:Un P f4)(h5:GU P f5):I8 P f:=by
 intro g d t dv pv L bt Tt hp ho hr hh hc hg hx0;obtain⟨pb,rfl⟩:=hp.ptr;obtain⟨n0,hp⟩:=hp;refine AK hd (Aca Z) ?_;show gwp P _ _ _ _ _;refine Ad<|Ac Z<|Aa<|Ag<|Ad<|Ah Z<|Ah Z<|Be [] (h1 (t:=⟨wtc t.s n0,t.root,t.height,t.count⟩) (bt:=bt) (Tt:=Tt) hp ho hr (by show t.height≤1000000000;omega) hc) Z Z (fun v d3 L3 hl3 ⟨_,e1,e2⟩=>?_);subst e1;subst e2;have hp3:PgT d3 t.s dv (pZ pb) L:=⟨n0,hp.mono hl3⟩
 refine Ac Z<|Aa<|Ad<|Ac Z<|AW Z Z<|Aa<|Aw Z (by omega)<|Al<|Ad<|Ah Z<|YJ kI kI (fun bm=>?_);refine AaR Z Z ?_;refine GJ Z (fun bc Tc=>?_);refine Ah Z<|Aa<|Ag<|Ad<|Ah Z<|BA d3 (ckB bc Tc (pZ pb) bm 0::mpS bm [] 0::tbD bt Tt (pZ pb) t::L) (Vs.refl _ _) ?_;refine B9 [_,_] (h2 (t:=t) (L:=L)) Z Z ?_;by_cases hz:t.height=0
 ·have hF:HP g t=if (0:Int)≠t.count then 200 else 0:=by unfold HP;rw[if_pos hz]
  rw[hF];refine Bb Z Z<|Aa<|Aw Z (by omega)<|Al<|Ag<|Ag<|BX [ckB bc Tc (pZ pb) bm 0] (mpS bm [] 0::tbD bt Tt (pZ pb) t::L) Z ?_;refine Ah Z<|AJ Z<|Aj Z<|Ai Z (Aq 0 Z Z)<|Ah Z<|B9 [_] (h5 (t:=t) (L:=L)) Z Z ?_;have hw0:wr 0=0:=Z;rw[hw0];by_cases hct:(0:Int)≠t.count
  ·rw[if_pos hct];clear hF;(refine AW Z Z<|By<|AF Z (by omega)<|Ad<|Ac Z<|Aa<|Ao ?_);exact A9 [vZ 200] ⟨Ar Z,trivial⟩ (d':=d3) (L':=tbD bt Tt (pZ pb) t::L) (Vs.drop (.cons _ (.cons _ (Acd _)))) ⟨hl3,Z,L,Z,hp3⟩
  ·rw[if_neg hct];clear hF;(refine AW Z Z<|By<|Aw Z (by omega)<|Al<|Ad<|Ac Z<|Aa<|Ao ?_);exact A9 [vZ 0] ⟨Ar Z,trivial⟩ (d':=d3) (L':=tbD bt Tt (pZ pb) t::L) (Vs.drop (.cons _ (.cons _ (Acd _)))) ⟨hl3,Z,L,Z,hp3⟩
 ·obtain⟨X,hX⟩:∃X,Cb t.s g t.root t.height [] [] [] 0=X:=⟨_,Z⟩
  have hF:HP g t=if X.e≠0 then X.e else if (X.n:Int)≠t.count then 200 else 0:=by unfold HP;rw[if_neg hz,hX]
  rw[hF];obtain⟨hx,hxn⟩:=hx0 hz;rw[hX] at hx hxn;have hcall:=h4 g (n:=0) (c:=0) (bc:=bc) (bm:=bm) (Tc:=Tc) (ms:=[]) (S:=[]) (fr:=[]) (to:=[]) (page:=t.root) (h:=(t.height:Nat)) hp3 (fun k=>by simp[CV]) RSl.nil RSl.nil (fun _=>Z) (by rw[hX];exact hx) (by omega) (by omega);rw[hX] at hcall;clear hF;refine Bb Z Z<|Aa<|AF Z (by omega)<|Ad<|Ah Z<|Ah Z<|B9 [_,_] (h3 (t:=t) (L:=L)) Z Z ?_;(apply Ah;rfl);refine B9 [_,_] (h2 (t:=t) (L:=L)) Z Z ?_;refine BA d3 (tbD bt Tt (pZ pb) t::ckB bc Tc (pZ pb) bm 0::mpS bm [] 0::L) (Vs.perm ((Acr _ (Adb _ _ _)).trans (Adb _ _ _))) ?_;refine Be [_] hcall Z Z (fun v d4 L4 hl4 ⟨_,q2,ms',c',n',L5,q3,hp5,hs5⟩=>?_);subst q2;subst q3;clear hcall;by_cases hx0:X.e=0
  ·have hxn:=hxn hx0;obtain⟨_,hn5⟩:=hs5 hx0;subst hn5;rw[if_neg (fun q=>q hx0),hx0];have hwr:wr X.n=(X.n:Int):=CM (by omega) (by omega);refine Ac Z<|Aa<|Ad<|Ac Z<|AW Z Z<|Aa<|Aw Z (by omega)<|Al<|Ag<|Ag<|Jy [ckB bc Tc (pZ pb) bm X.n] (mpS bm ms' c'::tbD bt Tt (pZ pb) t::L5) (Vs.perm ((Adb _ _ _).trans (Acr _ (Adb _ _ _)))) ?_;refine Ah Z<|AJ Z<|Aj Z<|Ai Z (Aq 0 Z Z)<|Ah Z<|B9 [_] (h5 (t:=t) (L:=L5)) Z Z ?_;rw[hwr];by_cases hct:(X.n:Int)≠t.count
   ·rw[if_pos hct];(refine AW Z Z<|By<|AF Z (by omega)<|Ad<|Ac Z<|Aa<|Ao ?_);exact A9 [vZ 200] ⟨Ar Z,trivial⟩ (d':=d4) (L':=tbD bt Tt (pZ pb) t::L5) (Vs.drop (.cons _ (.cons _ (Acd _)))) ⟨hl3.trans hl4,Z,L5,Z,hp5⟩
   ·rw[if_neg hct];(refine AW Z Z<|By<|Aw Z (by omega)<|Al<|Ad<|Ac Z<|Aa<|Ao ?_);exact A9 [vZ 0] ⟨Ar Z,trivial⟩ (d':=d4) (L':=tbD bt Tt (pZ pb) t::L5) (Vs.drop (.cons _ (.cons _ (Acd _)))) ⟨hl3.trans hl4,Z,L5,Z,hp5⟩
  ·rw[if_pos hx0];(refine Ac Z<|Aa<|Ad<|Ac Z<|AW Z Z<|Aa<|AF Z (by omega)<|Ad<|Ac Z<|Ac Z<|Aa<|Ao ?_);exact A9 [vZ X.e] ⟨Ar Z,trivial⟩ (d':=d4) (L':=tbD bt Tt (pZ pb) t::L5) (Vs.drop (.cons_cons _ (.cons _ (.cons _ (Acd _))))) ⟨hl3.trans hl4,Z,L5,Z,hp5⟩
end Go.Gk.Tre
end
section
namespace Go.Gk
open Go
section
def Vs.Ea{d h h' L}{i:Nat}(hi:L[i]?=some h):Vs d (h'::L) d (h::L.set i h'):=by
 obtain⟨A,B,rfl,e2⟩:=EM hi h';rw[e2];refine Vs.perm ?_;refine(Acr h' Agg).trans ((Adb h h' _).trans (Acr h List.perm_middle.symm))
section
variable {P:Program}{pan:List PanicEntry→AL}{Qn:Env→AL}{Ls L:List Ab}{ρ:Env}{d:Ab}{s:GS}{t:Nat}
def ZX{sz by_:Nat}{z x y}(i:Nat){v}{n m:Nat}{xs news h}(ex:ev ρ x=v)(hi:L[i]?=some h)(ho:Bu sz v n xs h)
  {w}(ey:ev ρ y=w) (hx:RdX d (Ls++L++L) w m sz news) (h1:(news.all (·.oneCell'))=true) (_hsz:0<sz) (hm:n+m≤140737488355328) (hb:(n+m)*by_≤140737488355328)
  (k:∀v' h' j,Bu sz v' (n+m) (xs++news) h'→(Bu sz v n xs h'∨Bu sz v n xs j)→∃d2 L2,Vs d (j::L.set i h') d2 L2∧gws P pan Qn s Ls (upd ρ t v') d2 L2):gws P pan Qn (.op false ⟨some t,none,.app sz by_ z x y⟩ s) Ls ρ d L:=by
 obtain⟨xa,xc,rfl,hl,hx0,hxc⟩:=hx
 have hxl:=ho.1
 have hlen:(xs++news).length=(n+m)*sz:=by rw[Aci,hxl,hl,Aeg]
 refine⟨d,L,Vs.refl d L,?_⟩
 simp only[gop,gi,maxLen]
 obtain⟨h2,h3,⟨rfl,rfl,rfl⟩|⟨b,T,l,c,rfl,rfl,h4,h5,h6,h7⟩⟩:=ho
 ·have hxs:xs=[]:=Acl (by simpa using hxl)
  subst hxs
  refine⟨none,0,0,xa,m,xc,news,ex,ey,hl,h1,hx0,hxc,by omega,by omega,fun hle=>.inl ?_,fun hlt=>⟨by simpa using hb,[],by simp,fun _=>Z,(fun _ h=>nomatch h),fun b T c' hc1 hc2=>?_⟩⟩
  ·have hm0:m=0:=by omega
   subst hm0
   have hn:news=[]:=Acl (by simpa using hl)
   subst hn
   obtain⟨d2,L2,hv,hg⟩:=k nV emp emp (by simpa using Bu.nil sz) (.inl (Bu.nil sz))
   have e:L.set i emp=L:=by
    obtain⟨hlt,he⟩:=Adc.1 hi;rw[←he];simp
   rw[e] at hv
   exact⟨Z,d2,L2,Vs.emp.trans hv,by simpa [put] using hg⟩
  ·have o:Bu sz (.slice (some ⟨b,0,none⟩) (0+m) c') (0+m) ([]++news) (bx b T (news++Bm z ((c' - (0+m))*sz))):=by
    refine Bu.mk hlen hm (by omega) hc2 ?_ ?_
    ·simp only[Adr,Aci,hl,Bm,Adq,List.length_range];rw[←Aeg];exact Nat.le_of_eq (by congr 1;omega)
    ·simp
   obtain⟨d2,L2,hv,hg⟩:=k _ _ emp o (.inr (Bu.nil sz))
   exact⟨d2,L2,((Vs.put hi).trans Vs.emp).trans hv,by simpa [put] using hg⟩
 ·have o0:Bu sz (.slice (some ⟨b,0,none⟩) n c) n xs (bx b T l):=Bu.mk hxl (by omega) h4 h5 h6 h7
  refine⟨_,n,c,xa,m,xc,news,ex,ey,hl,h1,hx0,hxc,by omega,h5,fun hle=>.inr ⟨i,b,0,T,l,Z,hi,?_,?_⟩,fun hlt=>⟨hb,xs,hxl,(fun h=>nomatch h),fun a' ha j u hu=>?_,fun b' T' c' hc1 hc2=>?_⟩⟩
  ·rw[Aee];exact Aeq (Adp sz hle) h6
  ·have h8:(n+m)*sz≤l.length:=Aeq (Adp sz hle) h6
   rw[Aeg] at h8
   have h9:(patch l (0+n*sz) news).take (n*sz)=l.take (n*sz):=by
    simp only[patch,Aee];rw[Ace,List.take_append_of_le_length (by rw[Acs];omega),Ahh,Nat.min_self]
   have h10:(patch l (0+n*sz) news).length=l.length:=by
    simp only[patch,Aci,Acs,Ads];have:=hl;omega
   have o1:Bu sz (.slice (some ⟨b,0,none⟩) (n+m) c) (n+m) (xs++news) (bx b T (patch l (0+n*sz) news)):=by
    refine Bu.mk hlen hm hle h5 ?_ ?_
    ·rw[h10];exact h6
    ·rw[hlen,Aeg];have e1:l.take (n*sz)=xs:=by rw[←hxl];exact h7
     simp only[patch,Aee,e1];rw[←hl,←hxl,←Aci];exact Agc
   have o2:Bu sz (.slice (some ⟨b,0,none⟩) n c) n xs (bx b T (patch l (0+n*sz) news)):=
    Bu.mk hxl (by omega) h4 h5 (by rw[h10];exact h6) (by rw[hxl,h9,←hxl];exact h7)
   obtain⟨d2,L2,hv,hg⟩:=k _ _ emp o1 (.inl o2)
   exact⟨d2,L2,Vs.emp.trans hv,hg⟩
  ·cases ha
   rw[Addr.add_lit,Aee]
   refine⟨Z,bx b T l,.inr (Acy _ (List.mem_of_getElem? hi)),l.toArray,T,(0,0),B2 _ _,?_⟩
   have hj:j<xs.length:=(Adc.1 hu).1
   rw[←h7] at hu
   rw[List.getElem?_take_of_lt (by omega)] at hu
   simpa using hu
  ·have o:Bu sz (.slice (some ⟨b',0,none⟩) (n+m) c') (n+m) (xs++news) (bx b' T' (xs++news++Bm z ((c' - (n+m))*sz))):=by
    refine Bu.mk hlen hm hc1 hc2 ?_ ?_
    ·simp only[Aci,hxl,hl,Bm,Adq,List.length_range];rw[←Aeg,←Aeg];exact Nat.le_of_eq (by congr 1;omega)
    ·exact Agc
   obtain⟨d2,L2,hv,hg⟩:=k _ _ (bx b T l) o (.inr o0)
   exact⟨d2,L2,(Vs.Ea hi).trans hv,by simpa [put] using hg⟩
def Lr{α:Type}{sz by_:Nat}{R:Ab→List Value→α→Prop}{z:List Value}{x y:Operand}(i:Nat){v w:Value}{xs ys:List α}{h g:Ab}(ex:ev ρ x=v)(hi:L[i]?=some h)(ho:An sz R d v xs h)
  (ey:ev ρ y=w) (hs:An sz R d w ys g) (hc:GG R) (hsz:0<sz) (hm:xs.length+ys.length≤140737488355328) (hb:(xs.length+ys.length)*by_≤140737488355328)
  (k:∀v' h' j,An sz R d v' (xs++ys) h'→(An sz R d v xs h'∨An sz R d v xs j)→gws P pan Qn s Ls (upd ρ t v') d (j::L.set i h')):gws P pan Qn (.op false ⟨some t,none,.app sz by_ z x y⟩ s) Ls ρ d (g::L):=by
 obtain⟨cs,h1,h2⟩:=ho
 obtain⟨news,k1,k2,k3⟩:=(hs.src hc (by simp):Src sz R d (Ls++(g::L)++(g::L)) w ys)
 have hl:=h1.1
 refine ZX (i+1) ex (by simpa using hi) h1 ey k1 k2 hsz hm hb (fun v' h' j o oj=>⟨d,j::L.set i h',?_,k v' h' j ⟨cs++news,by rw[Aci];exact o,fun j hj=>?_⟩ (oj.imp (fun q=>⟨cs,q,h2⟩) (fun q=>⟨cs,q,h2⟩))⟩)
 ·rw[List.set_cons_succ]
  exact Vs.drop (.cons_cons _ (List.sublist_cons_self _ _))
 ·by_cases e:j<xs.length
  ·rw[ER hl e,List.getElem_append_left e];exact h2 j e
  ·rw[Er hl (by omega),List.getElem_append_right (by omega)]
   exact k3 _ (by simp at hj;omega)
end
end
end Go.Gk
end
section
namespace Go.Gk.Tre
open Go Go.Gk Go.Gk.Dev Go.Gk.Cch Go.Gk.Pgr Go.Gk.Chn Go.Gk.Node
attribute [local irreducible] gwp gws xwp
def Ol(P:Program)(f:FuncId):Prop:=∀{d s dv pv w L cs}{n:Ax}{b},PgT d s dv pv L→CO d cs n→Bc n≤1000000000000→AH d w b→
 AB P f [pv,.agg cs.toArray,w] d L (Ret fun v d' L'=>Le d d'∧∃q u,v=.tuple #[.agg [vZ q,u].toArray,vZ (A5 s (-1) n).2.2]∧((A5 s (-1) n).2.2=0→q=(A5 s (-1) n).2.1∧u=w)∧(∃a m c,u=.slice a m c)∧PgT d' (A5 s (-1) n).1 dv pv L')
def U8(a0 a1 a2:Nat):A3:=⟨36,[(.cell 6 (some 2)),(.tmp 7)],(sR (o1 4 (.box 1)<|o1 6 (.alo (.agg #[(vZ 0),nV]))<|o1 7 (.mv z0) .done) (sR (o1 12 (.ld (some 4) 4)<|oc 13 a0 [12]<|om 11 13<|oe 14 11 0<|oe 15 11 1<|om 8 14<|om 9 15 .done) (.seq (sR (om 16 9<|ob 17 .neq 16 z0 .done) (.cond 17 (sR (o1 18 (.bld [(0,1),(1,1)] [(vZ 0),nV] [])<|om 19 9<|o0 (.st 2 6 18)<|om 7 19 .done) .ret) .skip)) (sR (om 21 0<|oc 22 a1 [21]<|om 20 22<|oe 23 20 0<|oe 24 20 1<|om 10 23<|om 9 24 .done) (.seq (sR (om 25 9<|ob 26 .neq 25 z0 .done) (.cond 26 (sR (o1 27 (.bld [(0,1),(1,1)] [(vZ 0),nV] [])<|om 28 9<|o0 (.st 2 6 27)<|om 7 28 .done) .ret) .skip)) (sR (om 29 10<|om 30 2<|o1 31 (.bld [(0,1),(1,1)] [(vZ 0),nV] [(0,29),(1,30)])<|om 32 0<|om 33 10<|om 34 8<|oc 35 a2 [32,33,34]<|o0 (.st 2 6 31)<|om 7 35 .done) .ret))))))⟩
set_option maxRecDepth 4000 in
def Aai{P f f1 f2 f3}(hd:dec P f=some (U8 f1 f2 f3))(h1:LJ P f1)(h3:Pgr.FO P f2)(h2:N9 P f3):Ol P f:=by
 intro d s dv pv w L cs n b hp hn hz hw;obtain⟨bp,rfl⟩:=hp.ptr;obtain⟨wa,wc,rfl⟩:=RSl.val hw;have hn0:=hn;obtain⟨ka,kc,va,vc,ia,ic,rfl⟩:=CO.four hn;refine AK hd (Aca Z) ?_;show gwp P _ _ _ _ _;apply Ag;apply AI;refine CC Z (fun b4 T4=>?_);(refine Da (fun _ _=>Ac Z<|Aa<|Ad<|Cg 1 Z Z Z ?_));refine CF Z (Ux h1 hn0 hz) (fun v d2 L2 _ ⟨e0,u,g,e1,e2,hg⟩=>?_);subst e0;subst e1;subst e2;obtain⟨ua,uc,rfl⟩:=hg.val;cases hr:AV n with
 |false=>
  have hF:A5 s (-1) n=(s,0,200):=by unfold A5;rw[hr,if_neg (by decide)]
  rw[hF]
  rw[hr,if_neg (by decide)] at hg
  rw[if_neg (by decide),if_neg (by decide)]
  clear hr hF
  (refine AU Z<|Ap Z Z<|Ap Z Z<|Ak Z<|Ac Z<|Aa<|Ag<|Ad<|Ac Z<|AW Z Z<|Aa<|AF Z (by omega)<|Ad<|Ch Z<|Ac Z ?_)
  refine DQ (cs:=[vZ 0,nV]) 1 Z Z Z Z Z Z ?_
  (refine Ac Z<|Aa<|Ao ?_)
  exact Dr (L':=L) [.agg [vZ 0,nV].toArray,vZ 200] ⟨Co 1 Z Z Z,Ar Z,trivial⟩ (.cons _ (.cons _ (.cons _ (Acd _)))) ⟨Le.refl _,0,_,Z,fun h=>absurd h (show¬(200:Int)=0 by decide),⟨_,_,_,Z⟩,hp⟩
 |true=>
  rw[hr,if_pos Z] at hg
  rw[if_pos Z,if_pos Z]
  obtain⟨d3,hle,v1,hb⟩:∃d3,Le d2 d3∧Vs d2 [g] d3 []∧AH d3 (.slice ua (B8 n).length uc) (B8 n):=⟨join d2 g,Le.Au _ _,Vs.freeze,An.rsl (R:=AE) (sz:=1) hg AP (by omega) (Le.Au _ _) (Le.AZ _ _)⟩
  have hp3:=hp.mono hle
  refine BA _ _ (Vs.app v1 _) ?_
  have hP:A5 s (-1) n=if s.AR.2.2≠0 then(s.AR.1,0,s.AR.2.2)
    else((s.AR.1.put s.AR.2.1 (B8 n)).1,s.AR.2.1,(s.AR.1.put s.AR.2.1 (B8 n)).2):=by unfold A5;rw[hr,if_pos Z,if_neg (by omega),if_neg (show¬((0:Int)≤ -1) by omega)]
  clear hr
  generalize B8 n=pg at hb hP
  (refine AU Z<|Ap Z Z<|Ap Z Z<|Ak Z<|Ac Z<|Aa<|Ag<|Ad<|Ac Z<|AW Z Z<|Aa<|Aw Z (by omega)<|Al<|Ad<|Ah Z ?_)
  refine Be [_,_] (Abp h3 hp3) Z Z (fun w d5 L5 hl5 ⟨e5,hp5⟩=>?_)
  subst e5
  have hb5:=RSl.mono (R:=AE) AP hb hl5
  by_cases ht:s.AR.2.2=0
  ·rw[if_neg (fun q=>q ht)] at hP
   rw[ht,hP]
   (refine AU Z<|Ap Z Z<|Ap Z Z<|Ac Z<|Ac Z<|Aa<|Ag<|Ad<|Ac Z<|AW Z Z<|Aa<|Aw Z (by omega)<|Al<|Ad<|Ac Z<|Ak Z<|Ch Z<|Ah Z<|Ac Z<|Ak Z ?_)
   refine Be [_,_] (AbR h2 hp5 (k:=s.AR.2.1) hb5) Z Z (fun w d7 L7 hl7 ⟨e7,hp7⟩=>?_)
   subst e7
   skip
   refine DQ (cs:=[vZ s.AR.2.1,.slice wa b.length wc]) 0 Z Z Z Z Z Z ?_
   (refine Ac Z<|Aa<|Ao ?_)
   exact Dr (L':=L7) [.agg [vZ s.AR.2.1,.slice wa b.length wc].toArray,vZ (s.AR.1.put s.AR.2.1 pg).2] ⟨Co 0 Z Z Z,Ar Z,trivial⟩ (.cons _ (.cons _ (Acd _))) ⟨(hle.trans hl5).trans hl7,_,_,Z,fun _=>⟨Z,Z⟩,⟨_,_,_,Z⟩,hp7⟩
  ·rw[if_pos ht] at hP
   rw[hP]
   (refine AU Z<|Ap Z Z<|Ap Z Z<|Ac Z<|Ac Z<|Aa<|Ag<|Ad<|Ac Z<|AW Z Z<|Aa<|AF Z (by omega)<|Ad<|Ch Z<|Ac Z ?_)
   refine DQ (cs:=[vZ 0,nV]) 0 Z Z Z Z Z Z ?_
   (refine Ac Z<|Aa<|Ao ?_)
   exact Dr (L':=L5) [.agg [vZ 0,nV].toArray,vZ s.AR.2.2] ⟨Co 0 Z Z Z,Ar Z,trivial⟩ (.cons _ (.cons _ (Acd _))) ⟨hle.trans hl5,0,_,Z,fun h=>absurd h ht,⟨_,_,_,Z⟩,hp5⟩
def wrB(l:List KV)(i:Nat):Bool:=decide ((l.getD i ([],[])).1.length<1)||decide (64<(l.getD i ([],[])).1.length)||(decide (0<i)&& decide (0≤Lib.compareBytes (l.getD (i - 1) ([],[])).1 (l.getD i ([],[])).1))
def Cx(l:List KV):Int:=if (Adg l.length).any (wrB l) then 2 else if l.any (fun x=>decide (16384<x.2.length)) then 3 else 0
def MJ(P:Program)(f:FuncId):Prop:=∀{d w l},RSl 2 RBp d w l→Cy P f [w] d (vZ (Cx l))
def FG{l}{i:Nat}(hi:i<l.length)(h:wrB l i=true):Cx l=2:=by
 unfold Cx;rw[if_pos (Afz.2 ⟨i,Afl.2 hi,h⟩)]
def Jm{l}(h:∀j,j<l.length→wrB l j=false):Cx l=if l.any (fun x=>decide (16384<x.2.length)) then 3 else 0:=by
 unfold Cx;rw[if_neg];intro q;obtain⟨j,q1,q2⟩:=Afz.1 q;rw[h j (Afl.1 q1)] at q2;cases q2
def Re{l}{i:Nat}(h:∀j,j<l.length→wrB l j=false)(hi:i<l.length)(hx:16384<l[i].2.length):Cx l=3:=by
 rw[Jm h,if_pos (Afz.2 ⟨l[i],Acz hi,by simpa using hx⟩)]
def Su{l}(h:∀j,j<l.length→wrB l j=false)(hx:∀j (hj:j<l.length),l[j].2.length≤16384):Cx l=0:=by
 rw[Jm h,if_neg];intro q;obtain⟨x,q1,q2⟩:=Afz.1 q;obtain⟨j,hj,rfl⟩:=Aej q1;have:=hx j hj;simp at q2;omega
def N4{l}{i:Nat}(hi:i<l.length):wrB l i=(decide (l[i].1.length<1)||decide (64<l[i].1.length)||(decide (0<i)&& decide (0≤Lib.compareBytes (l.getD (i - 1) ([],[])).1 l[i].1))):=by
 unfold wrB;simp only[Acg,Acf hi,Aem]
def RQ(a0:Nat):A3:=⟨52,[(.tmp 2)],(sR (o1 2 (.mv z0) .done) (.seq (sR (om 7 0<|oL 8 7<|o1 9 (.mv z0) .done) (.block 0 (.loop (sR (ob 10 .lss 9 8 .done) (.seq (.cond 10 .skip (.exit 0)) (.seq (.block 1 (sR (om 11 9<|oI 12 2 7 9<|o1 13 (.ld (some 2) 12)<|o1 4 (.alo (.agg #[nV,nV]))<|om 3 11<|o0 (.st 2 4 13) .done) (.seq (.reg true (p1 14 (.fld 0 4)<|pl 15 14<|p1 16 (.len 15)<|p1 17 (.bin .lss 16 z1)<|pm 18 17 (.op true ⟨(some 19),(some (18,false)),(.fld 0 4)⟩ (.op true ⟨(some 20),(some (18,false)),(.ld none 19)⟩ (.op true ⟨(some 21),(some (18,false)),(.len 20)⟩ (.op true ⟨(some 22),(some (18,false)),(.bin .gtr 21 (kZ 64))⟩ (p1 23 (.pick 18 (.const (.bool true)) 22) (pm 24 23 (.op true ⟨(some 25),(some (24,false)),(.mv 3)⟩ (.op true ⟨(some 26),(some (24,false)),(.bin .gtr 25 z0)⟩ (.op true ⟨(some 27),(some (24,false)),(.mv 26)⟩ (.op true ⟨(some 28),(some (27,true)),(.mv 0)⟩ (.op true ⟨(some 29),(some (27,true)),(.mv 3)⟩ (.op true ⟨(some 30),(some (27,true)),(.bin .sub 29 z1)⟩ (.op true ⟨(some 31),(some (27,true)),(.idx 2 28 30)⟩ (.op true ⟨(some 32),(some (27,true)),(.fld 0 31)⟩ (.op true ⟨(some 33),(some (27,true)),(.ld none 32)⟩ (.op true ⟨(some 34),(some (27,true)),(.fld 0 4)⟩ (.op true ⟨(some 35),(some (27,true)),(.ld none 34)⟩ (oT 36 27 (.call a0 [33,35]) (.op true ⟨(some 37),(some (27,true)),(.bin .geq 36 z0)⟩ (.op true ⟨(some 38),(some (24,false)),(.pick 27 37 (.const (.bool false)))⟩ (p1 39 (.pick 24 (.const (.bool true)) 38) .done))))))))))))))))))))))) (.cond 39 (sR (o1 2 (.mv z2) .done) .ret) .skip)))) (rG (ob 40 .add 9 z1<|om 9 40 .done)))))))) (.seq (sR (om 41 0<|oL 42 41<|o1 43 (.mv z0) .done) (.block 2 (.loop (sR (ob 44 .lss 43 42 .done) (.seq (.cond 44 .skip (.exit 2)) (.seq (.block 3 (sR (oI 45 2 41 43<|o1 46 (.ld (some 2) 45)<|o1 6 (.alo (.agg #[nV,nV]))<|o0 (.st 2 6 46) .done) (sR (oj 47 1 6<|ol 48 47<|oL 49 48<|ob 50 .gtr 49 (kZ 16384) .done) (.cond 50 (sR (o1 2 (.mv (kZ 3)) .done) .ret) .skip)))) (rG (ob 51 .add 43 z1<|om 43 51 .done)))))))) (sR (o1 2 (.mv z0) .done) .ret))))⟩
set_option maxRecDepth 4000 in
def We{P f f1}(hd:dec P f=some (RQ f1))(h1:Ft P f1):MJ P f:=by
 intro d w l hw;have hwl:=hw.Bt;obtain⟨a,c,rfl⟩:=hw.val;refine AK hd (Aca Z) ?_;show gwp P _ _ _ _ _;refine Ad<|Ac Z<|Aa<|Ag<|Ad<|Ak Z<|AO Z<|Ac Z<|Aa<|Az<|BM (α:=Nat) (fun x=>[(0,.slice a l.length c),(7,.slice a l.length c),(8,vZ l.length),(9,vZ x)]) (fun x d' L'=>d'=d∧x≤l.length∧∀j,j<x→wrB l j=false) (fun x=>l.length - x) 0 ⟨Z,Z,Z,Z,trivial⟩ ⟨Z,Adf _,fun j h=>absurd h (Aez j)⟩ ?_;rintro i ρ d' L' ⟨rfl,hi,hf⟩;simp only at hi hf⊢;by_cases e:i<l.length
 ·have hwr:=N4 e;refine Ad<|AA Z Z<|Aa<|Ag<|AF Z (by omega)<|Al<|Ag<|Az<|Ad<|Ac Z<|A0 (m:=i) Z hw Z Z e (fun b o cs hcl hdc ⟨k,v,q,hk,hv⟩=>?_);subst q;obtain⟨ka,kc,rfl⟩:=hk.val;obtain⟨va,vc,rfl⟩:=hv.val;have hkl:=hk.Bt;have hnx:wrB l i=false→∀j,j<i+1→wrB l j=false:=fun q j hj=>if h:j<i then hf j h else by rw[show j=i by omega];exact q
  (refine TR Z (by assumption) Z<|Da (fun _ _=>Ac Z ?_));refine DQ (cs:=[.slice ka l[i].1.length kc,.slice va l[i].2.length vc]) 0 Z Z Z Z Z Z ?_;by_cases c1:l[i].1.length<1
  ·rw[FG e (by rw[hwr];simp[c1])];clear hwr hnx hf;(refine Aa<|Ag<|C1<|Aj Z<|Ai Z (Aq 0 Z Z)<|AO Z<|AA Z Z<|Af Z<|A4 Z (by omega)<|Am Z<|Am Z<|Am Z<|Am Z<|Ay Z Z<|Af Z<|Am Z<|Am Z<|Am Z<|Bo Z<|Bo Z<|Bo Z<|Bo Z<|Bo Z<|Bo Z<|Bo Z<|Bo Z<|Bo Z<|Bo Z<|Am Z<|Ay Z Z<|By<|A8 Z<|Ad<|Ac Z<|Aa<|Ao ?_);exact Dr [vZ 2] ⟨Ar Z,trivial⟩ (Adj _) ⟨Z,Z,Z⟩
  ·by_cases c2:l[i].1.length>64
   ·rw[FG e (by rw[hwr];simp[c2])];clear hwr hnx hf;(refine Aa<|Ag<|C1<|Aj Z<|Ai Z (Aq 0 Z Z)<|AO Z<|AA Z Z<|Af Z<|A1 Z (by omega)<|Ae Z<|Aj Z<|Ae Z<|Ai Z (Aq 0 Z Z)<|Ae Z<|AO Z<|Ae Z<|Bb Z Z<|Av Z Z<|Af Z<|A4 Z (by omega)<|Am Z<|Am Z<|Am Z<|Bo Z<|Bo Z<|Bo Z<|Bo Z<|Bo Z<|Bo Z<|Bo Z<|Bo Z<|Bo Z<|Bo Z<|Am Z<|Ay Z Z<|By<|A8 Z<|Ad<|Ac Z<|Aa<|Ao ?_);exact Dr [vZ 2] ⟨Ar Z,trivial⟩ (Adj _) ⟨Z,Z,Z⟩
   ·by_cases c3:i>0
    ·refine Aa<|Ag<|C1<|Aj Z<|Ai Z (Aq 0 Z Z)<|AO Z<|AA Z Z<|Af Z<|A1 Z (by omega)<|Ae Z<|Aj Z<|Ae Z<|Ai Z (Aq 0 Z Z)<|Ae Z<|AO Z<|Ae Z<|Bb Z Z<|Av Z Z<|Af Z<|A1 Z (by omega)<|Ae Z<|Ac Z<|Ae Z<|Bb Z Z<|Ae Z<|Af Z<|A4 Z (by omega)<|Ae Z<|Ak Z<|Ae Z<|Ac Z<|Ae Z<|CP Z Z (by omega) (by omega)<|Ae Z<|A0 (m:=i - 1) Z hw Z (by omega) (by omega) (fun b2 o2 cs2 hcl2 hdc2 ⟨k2,v2,q2,hk2,hv2⟩=>?_);subst q2;obtain⟨k2a,k2c,rfl⟩:=hk2.val;obtain⟨v2a,v2c,rfl⟩:=hv2.val;have hg:l.getD (i - 1) ([],[])=l[i - 1]'(by omega):=by simp only[Acg,Acf (show i - 1<l.length by omega),Aem]
     rw[hg] at hwr;refine Ae Z<|Aj Z<|Ae Z<|Ai Z (Bf (by assumption) Z)<|Ae Z<|Aj Z<|Ae Z<|Ai Z (Aq 0 Z Z)<|Ae Z<|Br Z (h1 hk2 hk) ?_;by_cases c4:Lib.compareBytes (l[i - 1]'(by omega)).1 l[i].1≥0
     ·rw[FG e (by rw[hwr];simp[c3];exact .inr c4)];clear hwr hnx hf;(refine Ae Z<|Ds Z Z<|Ae Z<|Ay Z Z<|Av Z Z<|By<|AF Z (by omega)<|Ad<|Ac Z<|Aa<|Ao ?_);exact Dr [vZ 2] ⟨Ar Z,trivial⟩ (Adj _) ⟨Z,Z,Z⟩
     ·have hn:=hnx (by rw[hwr];simp[c1,c2,c3];omega);clear hwr hnx hf;(refine Ae Z<|Ds Z Z<|Ae Z<|Ay Z Z<|Av Z Z<|By<|Aw Z (by omega)<|Al<|AI<|AY Z Z (by omega) (by omega)<|Ac Z<|Aa ?_);exact⟨i+1,by omega,⟨Z,Z,Z,Z,trivial⟩,Z,by omega,hn⟩
    ·have hn:=hnx (by rw[hwr];simp[c1,c2,c3]<;>omega);clear hwr hnx hf;(refine Aa<|Ag<|C1<|Aj Z<|Ai Z (Aq 0 Z Z)<|AO Z<|AA Z Z<|Af Z<|A1 Z (by omega)<|Ae Z<|Aj Z<|Ae Z<|Ai Z (Aq 0 Z Z)<|Ae Z<|AO Z<|Ae Z<|Bb Z Z<|Av Z Z<|Af Z<|A1 Z (by omega)<|Ae Z<|Ac Z<|Ae Z<|Bb Z Z<|Ae Z<|Af Z<|A1 Z (by omega)<|Am Z<|Am Z<|Am Z<|Am Z<|Am Z<|Am Z<|Am Z<|Am Z<|Am Z<|Am Z<|Ae Z<|Av Z Z<|Av Z Z<|By<|AS Z<|Al<|AI<|AY Z Z (by omega) (by omega)<|Ac Z<|Aa ?_);exact⟨i+1,by omega,⟨Z,Z,Z,Z,trivial⟩,Z,by omega,hn⟩
 ·have:i=l.length:=by omega
  subst this;refine Ad<|AA Z Z<|Aa<|Ag<|Aw Z (by omega)<|Ba<|Ag<|Ad<|Ak Z<|AO Z<|Ac Z<|Aa<|Az<|BM (α:=Nat) (fun x=>[(41,.slice a l.length c),(42,vZ l.length),(43,vZ x)]) (fun x d'' L'=>d''=d'∧x≤l.length∧∀j (hj:j<l.length),j<x→l[j].2.length≤16384) (fun x=>l.length - x) 0 ⟨Z,Z,Z,trivial⟩ ⟨Z,Adf _,fun j _ h=>absurd h (Aez j)⟩ ?_;rintro i ρ d'' L'' ⟨rfl,hi,hf2⟩;simp only at hi hf2⊢;by_cases e:i<l.length
  ·refine Ad<|AA Z Z<|Aa<|Ag<|AF Z (by omega)<|Al<|Ag<|Az<|Ad<|A0 (m:=i) Z hw Z Z e (fun b o cs hcl hdc ⟨k,v,q,hk,hv⟩=>?_);subst q;obtain⟨ka,kc,rfl⟩:=hk.val;obtain⟨va,vc,rfl⟩:=hv.val;have hvl:=hv.Bt;(refine TR Z (by assumption) Z<|Da (fun _ _=>?_));refine DQ (cs:=[.slice ka l[i].1.length kc,.slice va l[i].2.length vc]) 0 Z Z Z Z Z Z ?_;by_cases c1:l[i].2.length>16384
   ·rw[Re hf e c1];clear hf hf2;(refine Aa<|Ad<|Aj Z<|Ai Z (Aq 0 Z Z)<|AO Z<|Bb Z Z<|Aa<|AF Z (by omega)<|Ad<|Ac Z<|Aa<|Ao ?_);exact Dr [vZ 3] ⟨Ar Z,trivial⟩ (Adj _) ⟨Z,Z,Z⟩
   ·have hn:∀j (hj:j<l.length),j<i+1→l[j].2.length≤16384:=by
     intro j hj h;by_cases q:j<i
     ·exact hf2 j hj q
     ·obtain rfl:j=i:=by omega
      exact Agh c1
    clear hf hf2;(refine Aa<|Ad<|Aj Z<|Ai Z (Aq 0 Z Z)<|AO Z<|Bb Z Z<|Aa<|Aw Z (by omega)<|Al<|AI<|AY Z Z (by omega) (by omega)<|Ac Z<|Aa ?_);exact⟨i+1,by omega,⟨Z,Z,Z,trivial⟩,Z,by omega,hn⟩
  ·rw[Su hf (fun j hj=>hf2 j hj (by omega))];clear hf hf2;(refine Ad<|AA Z Z<|Aa<|Ag<|Aw Z (by omega)<|Ba<|Ad<|Ac Z<|Aa<|Ao ?_);exact Dr [vZ 0] ⟨Ar Z,trivial⟩ (Adj _) ⟨Z,Z,Z⟩
end Go.Gk.Tre
end
section
namespace Go.Gk.Tre
open Go Go.Gk Go.Gk.Dev Go.Gk.Cch Go.Gk.Pgr Go.Gk.Chn Go.Gk.Node
abbrev LD:=Int×List UInt8
def RLd(d:Ab)(cs:List Value)(x:LD):Prop:=∃u,cs=[vZ x.1,u]∧AH d u x.2
def D6:Gs RLd:=fun hl ⟨u,e,a⟩=>⟨u,e,RSl.mono (R:=AE) AP a hl⟩
def RU:GG RLd:=fun d cs x ⟨u,e,a⟩=>by
 subst e;obtain⟨u1,u2,rfl⟩:=RSl.val a;rfl
def Y0{P}{pan:List PanicEntry→AL}{Qn:Env→AL}{Ls L ρ d s}{t:Nat}{x u v}(ex:ev ρ x=.agg [u,v].toArray)(h:∀b T,gws P pan Qn s Ls (upd ρ t (.slice (some ⟨b,0,none⟩) 1 1)) d (bx b T [u,v]::L)):
  gws P pan Qn (.op false ⟨some t,none,.bsl 1 2 [vZ 0,nV] [(0,x)]⟩ s) Ls ρ d L:=by
 refine De (by omega) ?_ h
 simp[Instr.fill,Bm,Adg,List.range.loop,ex,Value.cells]
def Wp{α}{a:List α}{x:α}{n:Nat}(h:a.length=n){hn:n<(a++[x]).length}:(a++[x])[n]=x:=by subst h;simp
def Hi(n:Ax)(k c:List UInt8):Ax:=⟨true,n.keys++[k],n.vals++[c],[]⟩
def BI:PD→List KV→Ax→List LD→PD×List LD×Int
 |s,[],n,out=>if (A5 s (-1) n).2.2≠0 then((A5 s (-1) n).1,[],(A5 s (-1) n).2.2) else((A5 s (-1) n).1,out++[((A5 s (-1) n).2.1,n.keys.getD 0 [])],0)
 |s,x::l,n,out=>
  if (Bs s x.2).2.2≠0 then((Bs s x.2).1,[],(Bs s x.2).2.2)
  else if AV (Hi n x.1 (Bs s x.2).2.1) then BI (Bs s x.2).1 l (Hi n x.1 (Bs s x.2).2.1) out
  else if (A5 (Bs s x.2).1 (-1) n).2.2≠0 then((A5 (Bs s x.2).1 (-1) n).1,[],(A5 (Bs s x.2).1 (-1) n).2.2)
  else BI (A5 (Bs s x.2).1 (-1) n).1 l ⟨true,[x.1],[(Bs s x.2).2.1],[]⟩ (out++[((A5 (Bs s x.2).1 (-1) n).2.1,n.keys.getD 0 [])])
def GN(n:Ax)(x:LD):Ax:=⟨false,n.keys++[x.2],[],n.kids++[x.1]⟩
def Cv:Ax→List LD→Nat
 |_,[]=>0
 |n,x::l=>if AV (GN n x) then Cv (GN n x) l+1 else 0
def BP(x:LD)(l:List LD):Nat:=if Cv ⟨false,[],[],[x.1]⟩ l+1=l.length then Cv ⟨false,[],[],[x.1]⟩ l - 1 else Cv ⟨false,[],[],[x.1]⟩ l
def CN(x:LD)(l:List LD)(c:Nat):Ax:=⟨false,(l.take c).map (·.2),[],x.1::(l.take c).map (·.1)⟩
def Bz:Nat→PD→List LD→List LD→PD×List LD×Int
 |0,s,_,_=>(s,[],99999)
 |_+1,s,[],out=>(s,out,0)
 |g+1,s,x::l,out=>
  if (A5 s (-1) (CN x l (BP x l))).2.2≠0 then((A5 s (-1) (CN x l (BP x l))).1,[],(A5 s (-1) (CN x l (BP x l))).2.2)
  else Bz g (A5 s (-1) (CN x l (BP x l))).1 (l.drop (BP x l)) (out++[((A5 s (-1) (CN x l (BP x l))).2.1,x.2)])
def SU{l}{i:Nat}(hi:i<l.length)(h:wrB l i=false):1≤l[i].1.length∧l[i].1.length≤64:=by
 rw[N4 hi] at h;simp only[Ahf,decide_eq_false_iff_not] at h;omega
def Kv{l}(h:Cx l=0):(∀j,j<l.length→wrB l j=false)∧∀x∈l,x.2.length≤16384:=by
 unfold Cx at h;split at h
 ·omega
 ·rename_i h1;split at h
  ·omega
  ·rename_i h2;refine⟨fun j hj=>?_,fun x hx=>?_⟩
   ·cases q:wrB l j with
    |false=>rfl
    |true=>exact absurd (Afz.2 ⟨j,Afl.2 hj,q⟩) h1
   ·exact Agh fun q=>h2 (Afz.2 ⟨x,hx,by simpa using q⟩)
def ML{s v}:(Bs s v).2.1.length≤16:=by
 unfold Bs;split
 ·simp;omega
 ·simp[F3]
def Kh{k c}(h1:1≤k.length)(h2:k.length≤64)(h3:c.length≤16):AV ⟨true,[k],[c],[]⟩=true:=by
 simp only[AV,Acb,decide_eq_true_eq];refine⟨?_,?_⟩
 ·simp[AX,CI,kOk,GZ,h3,h1,h2]
 ·rw[size_leaf (ks:=[k]) (vs:=[c]) Z];simp[Cf];omega
def Yd{n:Ax}(h:AV n=true∨n.keys=[]∧n.vals=[]){k c}(h2:k.length≤64)(h3:c.length≤16):Fit (Hi n k c) 600:=by
 have hf:n.keys.length≤257∧n.vals.length≤257∧(∀x∈n.keys,x.length≤1000)∧∀x∈n.vals,x.length≤1000:=by
  rcases h with h|⟨h,q⟩
  ·have:=(Ga h).1;exact⟨this.k,this.v,this.kl,this.vl⟩
  ·rw[h,q];simp
 obtain⟨f1,f2,f3,f4⟩:=hf;refine⟨?_,?_,?_,fun x hx=>?_,fun x hx=>?_⟩
 ·simp[Hi];omega
 ·simp[Hi];omega
 ·simp[Hi]
 ·rcases Ach.1 hx with hx|hx
  ·exact f3 x hx
  ·simp at hx;subst hx;omega
 ·rcases Ach.1 hx with hx|hx
  ·exact f4 x hx
  ·simp at hx;subst hx;omega
end Go.Gk.Tre
end
section
namespace Go.Gk.Tre
open Go Go.Gk Go.Gk.Dev Go.Gk.Cch Go.Gk.Pgr Go.Gk.Chn Go.Gk.Node
attribute [local irreducible] gwp gws xwp
variable{x:LD}
def CG(s:PD)(l:List KV):PD×List LD×Int:=BI s l ⟨true,[],[],[]⟩ []
def J6(P:Program)(f:FuncId):Prop:=∀{d s dv pv w L l},PgT d s dv pv L→RSl 2 RBp d w l→Cx l=0→l≠[]→l.length≤1000000→
 AB P f [pv,w] d L (Ret fun v d' L'=>Le d d'∧∃u,v=.tuple #[u,vZ (CG s l).2.2]∧RSl 2 RLd d' u (CG s l).2.1∧PgT d' (CG s l).1 dv pv L')
structure LvS where
 i:Nat
 ks:List (List UInt8)
 vs:List (List UInt8)
 out:List LD
 s:PD
 ka:Option Addr
 kc:Nat
 va:Option Addr
 vc:Nat
 oa:Option Addr
 oc:Nat
def PZ(a0 a1 a2:Nat):A3:=⟨97,[(.tmp 4),(.tmp 5)],(sR (o1 4 (.mv nS)<|o1 5 (.mv z0) .done) (sR (o1 6 (.mv nS) .done) (sR (o1 15 (.bld [(0,1),(1,1),(2,1),(3,1)] [(.bool false),nV,nV,nV] [(0,(.const (.bool true)))])<|o1 7 (.alo (.agg #[(.bool false),nV,nV,nV]))<|o0 (.st 4 7 15) .done) (.seq (sR (o1 8 (.mv z0) .done) (.block 0 (.loop (.seq (sR (om 16 8<|om 17 1<|oL 18 17<|ob 19 .leq 16 18 .done) (.cond 19 .skip (.exit 0))) (.seq (.block 1 (sR (o1 22 (.ld (some 4) 7)<|o1 9 (.alo (.agg #[(.bool false),nV,nV,nV]))<|o0 (.st 4 9 22) .done) (.seq (sR (om 23 8<|om 24 1<|oL 25 24<|ob 26 .lss 23 25 .done) (.cond 26 (sR (om 28 0<|om 29 1<|om 30 8<|oI 31 2 29 30<|oj 32 1 31<|ol 33 32<|oc 34 a0 [28,33]<|om 27 34<|oe 35 27 0<|oe 36 27 1<|om 10 35<|om 11 36 .done) (.seq (sR (om 37 11<|ob 38 .neq 37 z0 .done) (.cond 38 (sR (om 39 11<|o1 4 (.mv nS)<|om 5 39 .done) .ret) .skip)) (.seq (.reg true (p1 40 (.fld 1 7)<|pl 41 40<|pm 42 1<|pm 43 8<|p1 44 (.idx 2 42 43)<|p1 45 (.fld 0 44)<|pl 46 45<|p1 49 (.fld 2 7)<|pl 50 49<|pm 51 10 (.par (o1 52 (.bsl 1 1 [nV] [(0,51)]) .done) (o1 47 (.bsl 1 1 [nV] [(0,46)]) (o1 48 (.app 1 24 [nV] 41 47) (p1 54 (.fld 1 9) .done))) (o1 53 (.app 1 24 [nV] 50 52) (.bar (o0 (.st 1 54 48) (p1 55 (.fld 2 9) (o0 (.st 1 55 53) .done)))))))) (sR (o1 56 (.ld (some 4) 9)<|oc 57 a1 [56] .done) (.cond 57 (sR (o1 58 (.ld (some 4) 9)<|o0 (.st 4 7 58) .done) (.exit 1)) .skip))))) .skip)) (.seq (.reg true (pm 60 0<|p1 61 (.ld (some 4) 7)<|p1 62 (.fld 1 7)<|pl 63 62<|p1 64 (.idx 1 63 z0)<|pl 65 64 (.par (o1 12 (.alo (.agg #[(vZ 0),nV])) .done) (oc 66 a2 [60,61,65] (pm 59 66 (p1 67 (.ext 59 0) (p1 68 (.ext 59 1) .done)))) (o0 (.st 2 12 67) (pm 13 68 .done))))) (.seq (sR (om 69 13<|ob 70 .neq 69 z0 .done) (.cond 70 (sR (om 71 13<|o1 4 (.mv nS)<|om 5 71 .done) .ret) .skip)) (sR (om 72 6<|o1 73 (.ld (some 2) 12)<|o1 74 (.bsl 1 2 [(vZ 0),nV] [(0,73)])<|o1 75 (.app 2 32 [(vZ 0),nV] 72 74)<|om 6 75 .done) (sR (oj 76 1 7<|ol 77 76<|oL 78 77<|om 14 78 .done) (sR (om 79 8<|om 80 1<|oL 81 80<|ob 82 .lss 79 81 .done) (.cond 82 (.reg true (p1 83 (.fld 1 9)<|pl 84 83<|pm 85 14<|p1 86 (.idx 1 84 85)<|pl 87 86<|p1 89 (.fld 2 9)<|pl 90 89<|pm 91 14<|p1 92 (.idx 1 90 91)<|pl 93 92 (.par (o1 94 (.bsl 1 1 [nV] [(0,93)]) .done) (o1 88 (.bsl 1 1 [nV] [(0,87)]) .done) (p1 95 (.bld [(0,1),(1,1),(2,1),(3,1)] [(.bool false),nV,nV,nV] [(0,(.const (.bool true))),(1,88),(2,94)]) (.bar (o0 (.st 4 7 95) .done)))))) .skip))))))))) (rG (om 20 8<|ob 21 .add 20 z1<|om 8 21 .done))))))) (sR (om 96 6<|om 4 96<|o1 5 (.mv z0) .done) .ret)))))⟩
set_option maxRecDepth 4000 in
set_option maxHeartbeats 2000000 in
def UN{P f f1 f2 f3}(hd:R3 P f=some (PZ f1 f2 f3))(h1:ON P f1)(h2:HF P f2)(h3:Ol P f3):J6 P f:=by
 intro d s0 dv pv w L l hp hw hwr hne hll;obtain⟨bp,rfl⟩:=hp.ptr;obtain⟨a,c,rfl⟩:=hw.val;obtain⟨hrow,hval⟩:=Kv hwr;generalize hR:CG s0 l=R;refine AK hd (Aca Z) ?_;show gwp P _ _ _ _ _;apply Ag;apply AI;refine BA d (emp::emp::emp::L) ((Vs.emp.trans Vs.emp).trans Vs.emp) ?_;(refine Ak Z<|Ac Z<|Aa<|Ad<|Ak Z<|Aa<|Ad<|Ch Z<|Da (fun _ _=>?_));rename_i b7 T7;refine DQ (cs:=[.bool true,nV,nV,nV]) 0 Z Z Z Z Z Z ?_;refine Aa<|Ag<|Ad<|Ac Z<|Aa<|Az<|BM (α:=LvS) (fun x=>[(0,pZ bp),(1,.slice a l.length c),(6,.slice x.oa x.out.length x.oc),(7,pZ b7),(8,vZ x.i)])
  (fun x d' L'=>Le d d'∧∃ro Lp,An 2 RLd d' (.slice x.oa x.out.length x.oc) x.out ro∧PgT d' x.s dv (pZ bp) Lp∧x.out.length≤x.i∧
   ((∃hk hv,L'=bx b7 T7 [.bool true,.slice x.ka x.ks.length x.kc,.slice x.va x.vs.length x.vc,nV]::hk::hv::ro::Lp∧An 1 RBs d' (.slice x.ka x.ks.length x.kc) x.ks hk∧An 1 RBs d' (.slice x.va x.vs.length x.vc) x.vs hv∧
    (AV ⟨true,x.ks,x.vs,[]⟩=true∧0<x.ks.length∨x.i=0∧x.ks=[]∧x.vs=[])∧x.i≤l.length∧R=BI x.s (l.drop x.i) ⟨true,x.ks,x.vs,[]⟩ x.out)∨
    (∃x9 x7 x12,L'=x9::x7::ro::x12::Lp∧x.i=l.length+1∧R=(x.s,x.out,0))))
  (fun x=>l.length+1 - x.i) ⟨0,[],[],[],s0,none,0,none,0,none,0⟩ ⟨Z,Z,Z,Z,Z,trivial⟩ ⟨Le.refl _,emp,L,An.nil,hp,Acj _,.inl ⟨emp,emp,Z,An.nil,An.nil,.inr ⟨Z,Z,Z⟩,Adf _,hR.symm⟩⟩ ?_
 rintro⟨i,ks,vs,out,s,ka,kc,va,vc,oa,oc⟩ ρ d' L' ⟨hle,ro,Lp,go,hp,hol,hst⟩;simp only at go hp hol hst⊢;rcases hst with ⟨hk,hv,rfl,gk,gv,hri,hil,hst⟩|⟨x9,x7,x12,rfl,hil,hst⟩
 ·(refine Ag<|Ad<|Ac Z<|Ak Z<|AO Z<|Gt Z Z<|Aa<|AF Z (by omega)<|Al<|Ag<|Az<|Ad<|Cg 0 Z Z Z<|Da (fun _ _=>?_));rename_i b9 T9;refine DQ (cs:=[.bool true,.slice ka ks.length kc,.slice va vs.length vc,nV]) 0 Z Z Z Z Z Z ?_;refine Aa ?_;show gwp P _ _ _ _ _;refine NX (fun ρ d5 L5=>Le d' d5∧∃s5 Lp5 k2a k2n k2c v2a v2n v2c,Bk ρ [(0,pZ bp),(1,.slice a l.length c),(6,.slice oa out.length oc),(7,pZ b7),(8,vZ i),(9,pZ b9)]∧
   L5=bx b9 T9 [.bool true,.slice k2a k2n k2c,.slice v2a v2n v2c,nV]::bx b7 T7 [.bool true,.slice ka ks.length kc,.slice va vs.length vc,nV]::ro::Lp5∧
   Dp d5 (.slice ka ks.length kc) ks∧Dp d5 (.slice va vs.length vc) vs∧An 2 RLd d5 (.slice oa out.length oc) out ro∧PgT d5 s5 dv (pZ bp) Lp5∧AV ⟨true,ks,vs,[]⟩=true∧0<ks.length∧
   ((∃(hlt:i<l.length) (cell:List UInt8),cell.length≤16∧Dp d5 (.slice k2a k2n k2c) (ks++[l[i].1])∧Dp d5 (.slice v2a v2n v2c) (vs++[cell])∧vs.length=ks.length∧AV ⟨true,[l[i].1],[cell],[]⟩=true∧
    R=(if (A5 s5 (-1) ⟨true,ks,vs,[]⟩).2.2≠0 then((A5 s5 (-1) ⟨true,ks,vs,[]⟩).1,[],(A5 s5 (-1) ⟨true,ks,vs,[]⟩).2.2)
     else BI (A5 s5 (-1) ⟨true,ks,vs,[]⟩).1 (l.drop (i+1)) ⟨true,[l[i].1],[cell],[]⟩ (out++[((A5 s5 (-1) ⟨true,ks,vs,[]⟩).2.1,ks.getD 0 [])])))∨
    (i=l.length∧R=if (A5 s5 (-1) ⟨true,ks,vs,[]⟩).2.2≠0 then((A5 s5 (-1) ⟨true,ks,vs,[]⟩).1,[],(A5 s5 (-1) ⟨true,ks,vs,[]⟩).2.2)
     else((A5 s5 (-1) ⟨true,ks,vs,[]⟩).1,out++[((A5 s5 (-1) ⟨true,ks,vs,[]⟩).2.1,ks.getD 0 [])],0)))) ?_ ?_
  ·by_cases hlt:i<l.length
   ·rw[Acu hlt,BI] at hst;obtain⟨hx1,hx2⟩:=SU hlt (hrow i hlt);have hx3:=hval _ (Acz hlt);refine Ad<|Ac Z<|Ak Z<|AO Z<|AA Z Z<|Aa<|AF Z (by omega)<|Ad<|Ah Z<|Ak Z<|Ac Z<|A0 (m:=i) Z (RSl.mono (R:=RBp) Cl hw hle) Z Z hlt (fun b o cs hcl hdc ⟨kv,vv,q,hkv,hvv⟩=>?_);subst q;refine Aj Z<|Ai Z (Bf (by assumption) Z)<|Be [_,_,_,_,_] (h1 hp hvv hx3) Z Z (fun v d2 L2 hl ⟨_,u,e1,hu,hp2⟩=>?_);subst e1;obtain⟨ua,uc,rfl⟩:=hu.val;by_cases he:(Bs s l[i].2).2.2=0
    ·rw[if_neg (fun q=>q he)] at hst;rw[he];have hw2:RSl 2 RBp d2 (.slice a l.length c) l:=RSl.mono (R:=RBp) Cl hw (hle.trans hl);have gk2:=gk.Ex hl;have gv2:=gv.Ex hl;have go2:An 2 RLd d2 (.slice oa out.length oc) out ro:=An.mono (R:=RLd) D6 go hl;refine AU Z<|Ap Z Z<|Ap Z Z<|Ak Z<|Ac Z<|Aa<|Ag<|Ad<|Ac Z<|AW Z Z<|Aa<|Aw Z (by omega)<|Al<|Ag<|BX [_,_] (hk::hv::ro::L2) Z ?_;refine Aj Z<|Ai Z (Aq 1 Z Z)<|Ak Z<|Ac Z<|A0 (m:=i) Z hw2 Z Z hlt (fun b2 o2 cs2 hcl2 hdc2 ⟨k2,v2,q,hk2,hv2⟩=>?_);subst q;obtain⟨xa,xc,rfl⟩:=hk2.val;have hfn:ks.length≤257∧vs.length≤257:=by
      rcases hri with ⟨q,_⟩|⟨_,q1,q2⟩
      ·exact⟨(Ga q).1.k,(Ga q).1.v⟩
      ·rw[q1,q2];exact⟨Adf _,Adf _⟩
     have hft:Fit ⟨true,ks++[l[i].1],vs++[(Bs s l[i].2).2.1],[]⟩ 600:=Yd (n:=⟨true,ks,vs,[]⟩) (hri.imp (fun q=>q.1) (fun q=>q.2)) hx2 ML;rw[show Hi ⟨true,ks,vs,[]⟩ l[i].1 (Bs s l[i].2).2.1=⟨true,ks++[l[i].1],vs++[(Bs s l[i].2).2.1],[]⟩ from Z] at hst;have hcl:(Bs s l[i].2).2.1.length≤16:=ML;generalize (Bs s l[i].2).2.1=cell at hu hst hft hcl⊢;generalize (Bs s l[i].2).1=s2 at hp2 hst;refine Aj Z<|Ai Z (Bf (by assumption) Z)<|Aj Z<|Ai Z (Aq 1 Z Z)<|Ak Z<|Hp (α:=Nat×TypeId) (β:=Option Addr×Nat×Ab×Ab) [(0,pZ bp),(1,.slice a l.length c),(6,.slice oa out.length oc),(7,pZ b7),(8,vZ i),(9,pZ b9),(50,.slice va vs.length vc)]
      (fun x=>[(52,.slice (some ⟨x.1,0,none⟩) 1 1)]) (fun x _ M=>M=[bx x.1 x.2 [.slice ua cell.length uc]])
      (fun y=>[(48,.slice y.1 (ks++[l[i].1]).length y.2.1),(54,.pointer (some ⟨b9,1,none⟩))])
      (fun y d' M=>An 1 RBs d' (.slice y.1 (ks++[l[i].1]).length y.2.1) (ks++[l[i].1]) y.2.2.1∧(An 1 RBs d' (.slice ka ks.length kc) ks y.2.2.1∨An 1 RBs d' (.slice ka ks.length kc) ks y.2.2.2)∧M=y.2.2.2::y.2.2.1::hv::ro::L2) [] _ Z
      (fun x d d' M hl h=>h) (fun y d d' M hl h=>⟨h.1.Ex hl,h.2.1.imp (fun q=>q.Ex hl) (fun q=>q.Ex hl),h.2.2⟩) (fun x=>Z) (fun y=>Z) Z ⟨Z,Z,Z,Z,Z,Z,Z,trivial⟩ ?_ ?_ ?_
     ·refine Db (v0:=.slice ua cell.length uc) Z Z (fun b52 T52=>?_);(apply By);exact⟨_,Z,(b52,T52),⟨Z,trivial⟩,Z⟩
     ·refine Db (v0:=.slice xa l[i].1.length xc) Z Z (fun b47 T47=>?_);refine Lr (R:=RBs) (ys:=[l[i].1]) 0 Z Z gk2 Z (An.D7 (R:=RBs) (x:=l[i].1) Z ⟨_,Z,hk2⟩) M9 (by omega) (by simp;omega) (by simp;omega) (fun v' hk' jk o oj=>?_);obtain⟨ga,gc,rfl⟩:=o.val;(refine Aj Z<|By ?_);exact⟨_,Z,(ga,gc,hk',jk),⟨Z,Z,trivial⟩,o,oj,Z⟩
     ·rintro⟨b52,T52⟩ ⟨ga,gc,hk',jk⟩ ρ2 d3 M1 M2 hl3 hM1 ⟨hg1,hgj,hM2⟩;subst hM1;subst hM2;simp only at hg1 hgj⊢;refine Lr (R:=RBs) (ys:=[cell]) 2 Z Z (gv2.Ex hl3) Z (An.D7 (R:=RBs) (x:=cell) Z ⟨_,Z,RSl.mono (R:=AE) AP hu hl3⟩) M9 (by omega) (by simp;omega) (by simp;omega) (fun v' hv' jv ov ovj=>?_);obtain⟨za,zc,rfl⟩:=ov.val;apply Du;refine Bg 0 [.bool true,.slice ga (ks++[l[i].1]).length gc,.slice va vs.length vc,nV] Z Z Z Z (Aca Z) Z Z ?_;(apply Aj;rfl);refine Bg 0 [.bool true,.slice ga (ks++[l[i].1]).length gc,.slice za (vs++[cell]).length zc,nV] Z Z Z Z (Aca Z) Z Z ?_;refine Aa<|Ad<|Cg 0 Z Z Z<|BA d3 (bx b9 T9 [.bool true,.slice ga (ks++[l[i].1]).length gc,.slice za (vs++[cell]).length zc,nV]::bx b7 T7 [.bool true,.slice ka ks.length kc,.slice va vs.length vc,nV]::jv::jk::hk'::hv'::ro::L2) (Vs.refl _ _) ?_;refine LM (vs:=[.agg [.bool true,.slice ga (ks++[l[i].1]).length gc,.slice za (vs++[cell]).length zc,nV].toArray]) (v:=.bool (AV ⟨true,ks++[l[i].1],vs++[cell],[]⟩)) Z (fun d4 hl4 hL4=>h2 (cs:=[.bool true,.slice ga (ks++[l[i].1]).length gc,.slice za (vs++[cell]).length zc,nV]) (n:=⟨true,ks++[l[i].1],vs++[cell],[]⟩) ⟨_,_,_,Z,An.rsl (R:=RBs) hg1 BQ (by omega) hl4 (hL4 _ (by simp)),An.rsl (R:=RBs) ov BQ (by omega) hl4 (hL4 _ (by simp)),RSl.nil⟩ (hft.small (by omega)).1) ?_;by_cases hr:AV ⟨true,ks++[l[i].1],vs++[cell],[]⟩=true
      ·rw[if_pos hr] at hst;rw[hr];refine Aa<|A8 Z<|Ad<|Cg 0 Z Z Z<|BA d3 (bx b7 T7 [.bool true,.slice ka ks.length kc,.slice va vs.length vc,nV]::hk'::hv'::ro::L2) (Vs.drop (.cons _ (.cons_cons _ (.cons _ (.cons _ (Acd _)))))) ?_;refine DQ (cs:=[.bool true,.slice ga (ks++[l[i].1]).length gc,.slice za (vs++[cell]).length zc,nV]) 0 Z Z Z Z Z Z ?_;(refine Aa<|Ba<|AI<|Ac Z<|AY Z Z (by omega) (by omega)<|Ac Z<|Aa ?_);exact⟨⟨i+1,ks++[l[i].1],vs++[cell],out,s2,ga,gc,za,zc,oa,oc⟩,(by show l.length+1 - (i+1)<l.length+1 - i;omega),⟨Z,Z,Z,Z,Z,trivial⟩,(hle.trans hl).trans hl3,ro,L2,An.mono (R:=RLd) D6 go2 hl3,hp2.mono hl3,Nat.le_succ_of_le hol,.inl ⟨hk',hv',Z,hg1,ov,.inl ⟨hr,by simp⟩,hlt,hst⟩⟩
      ·rw[if_neg hr] at hst;have hrf:AV ⟨true,ks++[l[i].1],vs++[cell],[]⟩=false:=by simpa using hr
       rw[hrf];have hri':AV ⟨true,ks,vs,[]⟩=true∧0<ks.length:=by
        rcases hri with q|⟨_,q1,q2⟩
        ·exact q
        ·rw[q1,q2] at hr;exact absurd (Kh hx1 hx2 hcl) hr
       obtain⟨d4,v1,hl4,hL4⟩:=Vs.Gp d3 [jv,jk,hk',hv'];refine Gi ⟨d4,bx b9 T9 [.bool true,.slice ga (ks++[l[i].1]).length gc,.slice za (vs++[cell]).length zc,nV]::bx b7 T7 [.bool true,.slice ka ks.length kc,.slice va vs.length vc,nV]::ro::L2,(Vs.perm (Aer (ro::L2) (Acn (l₁:=[_,_]) (l₂:=[jv,jk,hk',hv'])))).trans (Vs.app v1 _),?_⟩;(apply AS;rfl);apply Al;refine⟨(hl.trans hl3).trans hl4,s2,L2,ga,(ks++[l[i].1]).length,gc,za,(vs++[cell]).length,zc,⟨Z,Z,Z,Z,Z,Z,trivial⟩,Z,?_,?_,An.mono (R:=RLd) D6 go2 (hl3.trans hl4),hp2.mono (hl3.trans hl4),hri'.1,hri'.2,.inl ⟨hlt,cell,hcl,An.rsl (R:=RBs) hg1 BQ (by omega) hl4 (hL4 _ (by simp)),An.rsl (R:=RBs) ov BQ (by omega) hl4 (hL4 _ (by simp)),Hn hri'.1 Z,Kh hx1 hx2 hcl,hst⟩⟩
       ·rcases hgj with q|q
        ·exact An.rsl (R:=RBs) q BQ (by omega) hl4 (hL4 _ (by simp))
        ·exact An.rsl (R:=RBs) q BQ (by omega) hl4 (hL4 _ (by simp))
       ·rcases ovj with q|q
        ·exact An.rsl (R:=RBs) q BQ (by omega) hl4 (hL4 _ (by simp))
        ·exact An.rsl (R:=RBs) q BQ (by omega) hl4 (hL4 _ (by simp))
    ·rw[if_pos he] at hst;rw[hst];(refine AU Z<|Ap Z Z<|Ap Z Z<|Ak Z<|Ac Z<|Aa<|Ag<|Ad<|Ac Z<|AW Z Z<|Aa<|AF Z (by omega)<|Ad<|Ac Z<|Ak Z<|Ac Z<|Aa<|Ao ?_);exact A9 [nV,vZ (Bs s l[i].2).2.2] ⟨Ar Z,Ar Z,trivial⟩ (d':=d2) (L':=L2) (Vs.drop (Adi [_,_,_,_,_] L2)) ⟨hle.trans hl,_,Z,RSl.nil,hp2⟩
   ·have:i=l.length:=by omega
    subst this;rw[Afb,BI] at hst;have hri':AV ⟨true,ks,vs,[]⟩=true∧0<ks.length:=by
     rcases hri with q|⟨q,_⟩
     ·exact q
     ·exact absurd (List.length_eq_zero_iff.1 q) hne
    obtain⟨d4,v1,hl4,hL4⟩:=Vs.Gp d' [hk,hv];apply Ag;apply AI;refine BA d' (bx b9 T9 [.bool true,.slice ka ks.length kc,.slice va vs.length vc,nV]::bx b7 T7 [.bool true,.slice ka ks.length kc,.slice va vs.length vc,nV]::hk::hv::ro::Lp) (Vs.refl _ _) ?_;refine BA d4 (bx b9 T9 [.bool true,.slice ka ks.length kc,.slice va vs.length vc,nV]::bx b7 T7 [.bool true,.slice ka ks.length kc,.slice va vs.length vc,nV]::ro::Lp) ((Vs.perm (Aer (ro::Lp) (Acn (l₁:=[_,_]) (l₂:=[hk,hv])))).trans (Vs.app v1 _)) ?_;(refine Ac Z<|Ak Z<|AO Z<|AA Z Z<|Aa<|Aw Z (by omega) ?_);apply Al;exact⟨hl4,s,Lp,ka,ks.length,kc,va,vs.length,vc,⟨Z,Z,Z,Z,Z,Z,trivial⟩,Z,An.rsl (R:=RBs) gk BQ (by omega) hl4 (hL4 _ (by simp)),An.rsl (R:=RBs) gv BQ (by omega) hl4 (hL4 _ (by simp)),An.mono (R:=RLd) D6 go hl4,hp.mono hl4,hri'.1,hri'.2,.inr ⟨Z,hst⟩⟩
  ·rintro ρ d5 L5 ⟨hl5,s5,Lp5,k2a,k2n,k2c,v2a,v2n,v2c,hsl,rfl,hk5,hv5,go5,hp5,hr5,hk0,hst⟩;refine CY _ hsl ?_;(apply Ag);refine BX [_,_,_] Lp5 Z ?_;(refine Ah Z<|Cg 1 Z Z Z<|Aj Z<|Ai Z (Aq 1 Z Z)<|A0 (sz:=1) (R:=RBs) (by rfl) (by assumption) (by rfl) Z (by omega) ?_;rintro _ _ _ _ _ ⟨_,rfl,_⟩;apply Ai;rfl;exact Bp (by assumption) Z);have hq:=‹AH d5 _ ks[0]›;obtain⟨fa,fc,rfl⟩:=hq.val;refine Hp (α:=Nat×TypeId) (β:=Int×Value) [(0,pZ bp),(1,.slice a l.length c),(6,.slice oa out.length oc),(7,pZ b7),(8,vZ i),(9,pZ b9)]
    (fun x=>[(12,.pointer (some ⟨x.1,0,none⟩))]) (fun x _ M=>M=[bx x.1 x.2 [vZ 0,nV]])
    (fun y=>[(67,.agg [vZ y.1,y.2].toArray),(68,vZ (A5 s5 (-1) ⟨true,ks,vs,[]⟩).2.2)])
    (fun y d' M=>((A5 s5 (-1) ⟨true,ks,vs,[]⟩).2.2=0→y.1=(A5 s5 (-1) ⟨true,ks,vs,[]⟩).2.1∧y.2=.slice fa ks[0].length fc)∧(∃a m c,y.2=.slice a m c)∧PgT d' (A5 s5 (-1) ⟨true,ks,vs,[]⟩).1 dv (pZ bp) M) [] _ Z
    (fun x d d' M hl h=>h) (fun y d d' M hl h=>⟨h.1,h.2.1,h.2.2.mono hl⟩) (fun x=>Z) (fun y=>Z) Z ⟨Z,Z,Z,Z,Z,Z,trivial⟩ ?_ ?_ ?_
   ·refine Dj (fun b12 T12=>?_);(apply By);exact⟨_,Z,(b12,T12),⟨Z,trivial⟩,Z⟩
   ·refine Be [] (h3 hp5 (n:=⟨true,ks,vs,[]⟩) (cs:=[.bool true,.slice ka ks.length kc,.slice va vs.length vc,nV]) ⟨_,_,_,Z,hk5,hv5,RSl.nil⟩ ((Ga hr5).1.small (by omega)).1 hq) Z Z (fun v d6 L6 hl6 ⟨_,q,u,e1,hq1,hqs,hp6⟩=>?_);subst e1;(refine AU Z<|Ap Z Z<|Ap Z Z<|By ?_);exact⟨_,Z,(q,u),⟨Z,Z,trivial⟩,hq1,hqs,hp6⟩
   ·rintro⟨b12,T12⟩ ⟨q,u⟩ ρ2 d6 M1 M2 hl6 hM1 ⟨hq1,⟨ya,ym,yc,hu⟩,hp6⟩;subst hM1;simp only at hq1 hu hp6⊢;subst hu;refine DQ (cs:=[vZ q,.slice ya ym yc]) 0 Z Z Z Z Z Z ?_;have hg0:ks.getD 0 []=ks[0]:=by simp only[Acg,Acf hk0,Aem]
    rw[hg0] at hst;generalize A5 s5 (-1) ⟨true,ks,vs,[]⟩=W at hq1 hp6 hst⊢;by_cases hpe:W.2.2=0
    ·obtain⟨rfl,hu2⟩:=hq1 hpe;cases hu2;rw[hpe];have hst2:(∃(hlt:i<l.length) (cell:List UInt8),cell.length≤16∧Dp d6 (.slice k2a k2n k2c) (ks++[l[i].1])∧Dp d6 (.slice v2a v2n v2c) (vs++[cell])∧vs.length=ks.length∧AV ⟨true,[l[i].1],[cell],[]⟩=true∧R=BI W.1 (l.drop (i+1)) ⟨true,[l[i].1],[cell],[]⟩ (out++[(W.2.1,ks[0])]))∨(i=l.length∧R=(W.1,out++[(W.2.1,ks[0])],0)):=by
      rcases hst with ⟨hlt,cell,q1,q2,q3,q4,q5,q6⟩|⟨q1,q2⟩
      ·rw[if_neg (fun q=>q hpe)] at q6;exact .inl ⟨hlt,cell,q1,q2.mono hl6,q3.mono hl6,q4,q5,q6⟩
      ·rw[if_neg (fun q=>q hpe)] at q2;exact .inr ⟨q1,q2⟩
     clear hst;have go6:An 2 RLd d6 (.slice oa out.length oc) out ro:=An.mono (R:=RLd) D6 go5 hl6;have hq6:AH d6 (.slice fa ks[0].length fc) ks[0]:=RSl.mono (R:=AE) AP hq hl6;refine Ac Z<|By<|Ag<|Ad<|Ac Z<|AW Z Z<|Aa<|Aw Z (by omega)<|Al<|Ad<|Ak Z<|Cg 3 Z Z Z<|Y0 (u:=vZ W.2.1) (v:=.slice fa ks[0].length fc) Z (fun b74 T74=>?_);refine Ep (R:=RLd) (ys:=[(W.2.1,ks[0])]) 2 Z Z go6 Z (An.D7 (R:=RLd) (x:=(W.2.1,ks[0])) Z ⟨_,Z,hq6⟩) RU (by omega) (by simp;omega) (by simp;omega) (fun v' ro' o=>?_);obtain⟨pa,pc,rfl⟩:=o.val;rcases hst2 with ⟨hlt,cell,hcl,hk2,hv2,hvk,hr1,hstE⟩|⟨hie,hstE⟩
     ·obtain⟨x2,y2,q2⟩:=hk2.val;cases q2;obtain⟨x3,y3,q3⟩:=hv2.val;cases q3;refine Ak Z<|Aa<|Ad<|Aj Z<|Ai Z (Aq 1 Z Z)<|AO Z<|Ac Z<|Aa<|Ad<|Ac Z<|Ak Z<|AO Z<|AA Z Z<|Aa<|AF Z (by omega)<|BX [_,_,_,_] M2 Z ?_;refine Aj Z<|Ai Z (Aq 0 Z Z)<|Ac Z<|A0 (m:=ks.length) Z hk2 Z Z (by simp) (fun b2 o2 cs2 hcl2 hdc2 ⟨uk,qk,hku⟩=>?_);subst qk;rw[Wp Z] at hku;obtain⟨ja,jc,rfl⟩:=hku.val;refine Ai Z (Bp (by assumption) Z)<|Aj Z<|Ai Z (Aq 0 Z Z)<|Ac Z<|A0 (m:=ks.length) Z hv2 Z Z (by simp;omega) (fun b3 o3 cs3 hcl3 hdc3 ⟨uv,qv,hvu⟩=>?_);subst qv;rw[Wp hvk] at hvu;obtain⟨za,zc,rfl⟩:=hvu.val;(apply Ai;rfl;exact Bp (by assumption) Z);refine Hp (α:=Nat×TypeId) (β:=Nat×TypeId) [(0,pZ bp),(1,.slice a l.length c),(6,.slice pa (out++[(W.2.1,ks[0])]).length pc),(7,pZ b7),(8,vZ i)]
       (fun x=>[(94,.slice (some ⟨x.1,0,none⟩) 1 1)]) (fun x _ M=>M=[bx x.1 x.2 [.slice za cell.length zc]])
       (fun y=>[(88,.slice (some ⟨y.1,0,none⟩) 1 1)]) (fun y _ M=>M=bx y.1 y.2 [.slice ja l[i].1.length jc]::M2) [] _ Z
       (fun x d d' M hl h=>h) (fun y d d' M hl h=>h) (fun x=>Z) (fun y=>Z) Z ⟨Z,Z,Z,Z,Z,trivial⟩ ?_ ?_ ?_
      ·refine Db (v0:=.slice za cell.length zc) Z Z (fun b94 T94=>?_);(apply By);exact⟨_,Z,(b94,T94),⟨Z,trivial⟩,Z⟩
      ·refine Db (v0:=.slice ja l[i].1.length jc) Z Z (fun b88 T88=>?_);(apply By);exact⟨_,Z,(b88,T88),⟨Z,trivial⟩,Z⟩
      ·rintro⟨b94,T94⟩ ⟨b88,T88⟩ ρ3 d7 M1 M3 hl7 hM1 hM3;subst hM1;subst hM3;refine Ch Z<|Du<|BA d7 (bx b7 T7 [.bool true,.slice ka ks.length kc,.slice va vs.length vc,nV]::bx b88 T88 [.slice ja l[i].1.length jc]::bx b94 T94 [.slice za cell.length zc]::ro'::M2) ((Vs.drop (.cons _ (.cons_cons _ (.cons_cons _ (.cons _ (Acd _)))))).trans (Vs.perm (Acr _ (Aer M2 (List.reverse_perm [ro',bx b94 T94 [.slice za cell.length zc],bx b88 T88 [.slice ja l[i].1.length jc]]).symm)))) ?_;refine DQ (cs:=[.bool true,.slice (some ⟨b88,0,none⟩) 1 1,.slice (some ⟨b94,0,none⟩) 1 1,nV]) 0 Z Z Z Z Z Z ?_;(refine Aa<|AI<|Ac Z<|AY Z Z (by omega) (by omega)<|Ac Z<|Aa ?_);exact⟨⟨i+1,[l[i].1],[cell],out++[(W.2.1,ks[0])],W.1,some ⟨b88,0,none⟩,1,some ⟨b94,0,none⟩,1,pa,pc⟩,(by show l.length+1 - (i+1)<l.length+1 - i;omega),⟨Z,Z,Z,Z,Z,trivial⟩,((hle.trans hl5).trans hl6).trans hl7,ro',M2,An.mono (R:=RLd) D6 o hl7,hp6.mono hl7,(by simp;omega),
        .inl ⟨_,_,Z,An.D7 (R:=RBs) (x:=l[i].1) Z ⟨_,Z,RSl.mono (R:=AE) AP hku hl7⟩,An.D7 (R:=RBs) (x:=cell) Z ⟨_,Z,RSl.mono (R:=AE) AP hvu hl7⟩,.inl ⟨hr1,by simp⟩,hlt,hstE⟩⟩
     ·subst hie;(refine Ak Z<|Aa<|Ad<|Aj Z<|Ai Z (Aq 1 Z Z)<|AO Z<|Ac Z<|Aa<|Ad<|Ac Z<|Ak Z<|AO Z<|AA Z Z<|Aa<|Aw Z (by omega)<|Al<|AI<|Ac Z<|AY Z Z (by omega) (by omega)<|Ac Z<|Aa ?_);exact⟨⟨l.length+1,ks,vs,out++[(W.2.1,ks[0])],W.1,ka,kc,va,vc,pa,pc⟩,(by show l.length+1 - (l.length+1)<l.length+1 - l.length;omega),⟨Z,Z,Z,Z,Z,trivial⟩,(hle.trans hl5).trans hl6,ro',M2,o,hp6,(by simp;omega),.inr ⟨_,_,_,Z,Z,hstE⟩⟩
    ·have hst2:R=(W.1,[],W.2.2):=by
      rcases hst with ⟨hlt,cell,q1,q2,q3,q4,q5,q6⟩|⟨q1,q2⟩
      ·rw[if_pos hpe] at q6;exact q6
      ·rw[if_pos hpe] at q2;exact q2
     rw[hst2];clear hst hst2;(refine Ac Z<|By<|Ag<|Ad<|Ac Z<|AW Z Z<|Aa<|AF Z (by omega)<|Ad<|Ac Z<|Ak Z<|Ac Z<|Aa<|Ao ?_);exact A9 [nV,vZ W.2.2] ⟨Ar Z,Ar Z,trivial⟩ (d':=d6) (L':=M2) (Vs.drop (Adi [_,_,_,_] M2)) ⟨(hle.trans hl5).trans hl6,_,Z,RSl.nil,hp6⟩
 ·subst hil;rw[hst];(refine Ag<|Ad<|Ac Z<|Ak Z<|AO Z<|Gt Z Z<|Aa<|Aw Z (by omega)<|Ba<|Ad<|Ak Z<|Ak Z<|Ac Z<|Aa<|Ao ?_);exact A9 [.slice oa out.length oc,vZ 0] ⟨Ar Z,Ar Z,trivial⟩ (d':=join d' ro) (L':=Lp) ((Vs.drop (.cons _ (.cons _ (.cons_cons _ (.cons _ (Acd _)))))).trans Vs.freeze) ⟨hle.trans (Le.Au _ _),_,Z,An.rsl (R:=RLd) go D6 (by omega) (Le.Au _ _) (Le.AZ _ _),hp.mono (Le.Au _ _)⟩
def YI(l:List LD):Prop:=∀x∈l,0≤x.1∧x.1≤8191∧1≤x.2.length∧x.2.length≤64
def MX(P:Program)(f:FuncId):Prop:=∀{d s dv pv w L}{l:List LD},PgT d s dv pv L→RSl 2 RLd d w l→YI l→l.length≤1000000→
 AB P f [pv,w] d L (Ret fun v d' L'=>Le d d'∧∃u,v=.tuple #[u,vZ (Bz (l.length+1) s l []).2.2]∧RSl 2 RLd d' u (Bz (l.length+1) s l []).2.1∧PgT d' (Bz (l.length+1) s l []).1 dv pv L')
def W8{n:Ax}(h:AV n=true∨n.keys=[]∧n.kids.length=1)(h2:x.2.length≤64):Fit (GN n x) 600:=by
 have hf:n.keys.length≤257∧n.kids.length≤257∧∀x∈n.keys,x.length≤1000:=by
  rcases h with h|⟨h,q⟩
  ·have:=(Ga h).1;exact⟨this.k,this.i,this.kl⟩
  ·rw[h,q];simp
 obtain⟨f1,f2,f3⟩:=hf;refine⟨?_,?_,?_,fun x hx=>?_,fun x hx=>?_⟩
 ·simp[GN];omega
 ·simp[GN]
 ·simp[GN];omega
 ·rcases Ach.1 hx with hx|hx
  ·exact f3 x hx
  ·simp at hx;subst hx;omega
 ·simp[GN] at hx
def Wt{a:Int}(ha:0≤a∧a≤8191)(hx:0≤x.1∧x.1≤8191∧1≤x.2.length∧x.2.length≤64):AV (GN ⟨false,[],[],[a]⟩ x)=true:=by
 show AV ⟨false,[x.2],[],[a,x.1]⟩=true;simp only[AV,Acb,decide_eq_true_eq];refine⟨?_,?_⟩
 ·simp[AX,CI,kOk,FY,ha,hx]
 ·rw[size_inner];simp[Cf];omega
def XE{l:List LD}{c:Nat}(h:∀y∈l,y.2.length≤1000)(hl:l.length≤1000000):Bc (CN x l c)≤1000000000000:=by
 have hk:(CN x l c).keys.length≤1000000:=by simp[CN];omega
 have hi:(CN x l c).kids.length≤1000001:=by simp[CN];omega
 have hc:=MU (n:=CN x l c) (fun y hy=>by
  obtain⟨z,hz,rfl⟩:=Aft.1 hy;exact h z (Ago hz)) (fun y hy=>by cases hy) (CN x l c).keys.length
 unfold Bc;split<;>omega
structure AbI where
 j:Nat
 ka:Option Addr
 kc:Nat
 ia:Option Addr
 ic:Nat
structure AbS where
 at_:Nat
 out:List LD
 s:PD
 oa:Option Addr
 oc:Nat
def Rz(a0 a1:Nat):A3:=⟨98,[(.tmp 4),(.tmp 5)],(sR (o1 4 (.mv nS)<|o1 5 (.mv z0) .done) (sR (o1 6 (.mv nS) .done) (.seq (sR (o1 7 (.mv z0) .done) (.block 0 (.loop (.seq (sR (om 13 7<|om 14 1<|oL 15 14<|ob 16 .lss 13 15 .done) (.cond 16 .skip (.exit 0))) (.block 1 (sR (om 17 1<|om 18 7<|oI 19 2 17 18<|oj 20 0 19<|ol 21 20<|o1 22 (.bsl 1 1 [(vZ 0)] [(0,21)])<|o1 23 (.bld [(0,1),(1,1),(2,1),(3,1)] [(.bool false),nV,nV,nV] [(3,22)])<|o1 8 (.alo (.agg #[(.bool false),nV,nV,nV]))<|o0 (.st 4 8 23) .done) (sR (om 24 7<|ob 25 .add 24 z1<|om 9 25 .done) (.seq (.block 2 (.loop (.seq (sR (om 26 9<|om 27 1<|oL 28 27<|ob 29 .lss 26 28 .done) (.cond 29 .skip (.exit 2))) (.seq (.block 3 (.seq (.reg true (p1 32 (.fld 1 8)<|pl 33 32<|pm 34 1<|pm 35 9<|p1 36 (.idx 2 34 35)<|p1 37 (.fld 1 36)<|pl 38 37<|p1 41 (.fld 3 8)<|pl 42 41<|pm 43 1<|pm 44 9<|p1 45 (.idx 2 43 44)<|p1 46 (.fld 0 45)<|pl 47 46 (.par (.par (o1 48 (.bsl 1 1 [(vZ 0)] [(0,47)]) .done) (o1 39 (.bsl 1 1 [nV] [(0,38)]) (o1 40 (.app 1 24 [nV] 33 39) .done)) (o1 49 (.app 1 8 [(vZ 0)] 42 48) (p1 50 (.bld [(0,1),(1,1),(2,1),(3,1)] [(.bool false),nV,nV,nV] [(1,40),(3,49)]) .done))) (o1 10 (.alo (.agg #[(.bool false),nV,nV,nV])) .done) (.bar (o0 (.st 4 10 50) .done))))) (.seq (sR (o1 51 (.ld (some 4) 10)<|oc 52 a0 [51]<|o1 53 (.un .not 52) .done) (.cond 53 (.exit 2) .skip)) (rG (o1 54 (.ld (some 4) 10)<|o0 (.st 4 8 54) .done))))) (rG (om 30 9<|ob 31 .add 30 z1<|om 9 31 .done)))))) (.seq (sR (om 55 9<|om 56 1<|oL 57 56<|ob 58 .sub 57 z1<|ob 59 .eql 55 58 .done) (.cond 59 (sR (om 60 9<|ob 61 .sub 60 z1<|om 9 61 .done) (.reg true (p1 62 (.fld 1 8)<|p1 64 (.fld 1 8)<|p1 69 (.fld 3 8)<|p1 71 (.fld 3 8) (.alt ⟨(some 63),none,(.ld none 62)⟩ (.alt ⟨(some 65),none,(.ld none 64)⟩ (p1 66 (.len 65) (p1 67 (.bin .sub 66 z1) (p1 68 (.sl 1 63 none (some 67) none) (.alt ⟨(some 70),none,(.ld none 69)⟩ (ol 72 71 (p1 73 (.len 72) (p1 74 (.bin .sub 73 z1) (p1 75 (.sl 1 70 none (some 74) none) (p1 76 (.fld 1 8) (o0 (.st 1 76 68) (p1 77 (.fld 3 8) (o0 (.st 1 77 75) .done)))))))) (ol 72 71 (p1 73 (.len 72) (p1 74 (.bin .sub 73 z1) (ol 70 69 (p1 75 (.sl 1 70 none (some 74) none) (p1 76 (.fld 1 8) (o0 (.st 1 76 68) (p1 77 (.fld 3 8) (o0 (.st 1 77 75) .done))))))))))))) (.alt ⟨(some 70),none,(.ld none 69)⟩ (.alt ⟨(some 65),none,(.ld none 64)⟩ (p1 66 (.len 65) (p1 67 (.bin .sub 66 z1) (p1 68 (.sl 1 63 none (some 67) none) (ol 72 71 (p1 73 (.len 72) (p1 74 (.bin .sub 73 z1) (p1 75 (.sl 1 70 none (some 74) none) (p1 76 (.fld 1 8) (o0 (.st 1 76 68) (p1 77 (.fld 3 8) (o0 (.st 1 77 75) .done))))))))))) (ol 72 71 (p1 73 (.len 72) (p1 74 (.bin .sub 73 z1) (p1 75 (.sl 1 70 none (some 74) none) (ol 65 64 (p1 66 (.len 65) (p1 67 (.bin .sub 66 z1) (p1 68 (.sl 1 63 none (some 67) none) (p1 76 (.fld 1 8) (o0 (.st 1 76 68) (p1 77 (.fld 3 8) (o0 (.st 1 77 75) .done))))))))))))) (ol 72 71 (p1 73 (.len 72) (p1 74 (.bin .sub 73 z1) (.alt ⟨(some 65),none,(.ld none 64)⟩ (p1 66 (.len 65) (p1 67 (.bin .sub 66 z1) (p1 68 (.sl 1 63 none (some 67) none) (ol 70 69 (p1 75 (.sl 1 70 none (some 74) none) (p1 76 (.fld 1 8) (o0 (.st 1 76 68) (p1 77 (.fld 3 8) (o0 (.st 1 77 75) .done))))))))) (ol 70 69 (p1 75 (.sl 1 70 none (some 74) none) (ol 65 64 (p1 66 (.len 65) (p1 67 (.bin .sub 66 z1) (p1 68 (.sl 1 63 none (some 67) none) (p1 76 (.fld 1 8) (o0 (.st 1 76 68) (p1 77 (.fld 3 8) (o0 (.st 1 77 75) .done)))))))))))))))) (.alt ⟨(some 65),none,(.ld none 64)⟩ (p1 66 (.len 65) (p1 67 (.bin .sub 66 z1) (.alt ⟨(some 63),none,(.ld none 62)⟩ (p1 68 (.sl 1 63 none (some 67) none) (.alt ⟨(some 70),none,(.ld none 69)⟩ (ol 72 71 (p1 73 (.len 72) (p1 74 (.bin .sub 73 z1) (p1 75 (.sl 1 70 none (some 74) none) (p1 76 (.fld 1 8) (o0 (.st 1 76 68) (p1 77 (.fld 3 8) (o0 (.st 1 77 75) .done)))))))) (ol 72 71 (p1 73 (.len 72) (p1 74 (.bin .sub 73 z1) (ol 70 69 (p1 75 (.sl 1 70 none (some 74) none) (p1 76 (.fld 1 8) (o0 (.st 1 76 68) (p1 77 (.fld 3 8) (o0 (.st 1 77 75) .done))))))))))) (.alt ⟨(some 70),none,(.ld none 69)⟩ (.alt ⟨(some 63),none,(.ld none 62)⟩ (p1 68 (.sl 1 63 none (some 67) none) (ol 72 71 (p1 73 (.len 72) (p1 74 (.bin .sub 73 z1) (p1 75 (.sl 1 70 none (some 74) none) (p1 76 (.fld 1 8) (o0 (.st 1 76 68) (p1 77 (.fld 3 8) (o0 (.st 1 77 75) .done))))))))) (ol 72 71 (p1 73 (.len 72) (p1 74 (.bin .sub 73 z1) (p1 75 (.sl 1 70 none (some 74) none) (ol 63 62 (p1 68 (.sl 1 63 none (some 67) none) (p1 76 (.fld 1 8) (o0 (.st 1 76 68) (p1 77 (.fld 3 8) (o0 (.st 1 77 75) .done))))))))))) (ol 72 71 (p1 73 (.len 72) (p1 74 (.bin .sub 73 z1) (.alt ⟨(some 63),none,(.ld none 62)⟩ (p1 68 (.sl 1 63 none (some 67) none) (ol 70 69 (p1 75 (.sl 1 70 none (some 74) none) (p1 76 (.fld 1 8) (o0 (.st 1 76 68) (p1 77 (.fld 3 8) (o0 (.st 1 77 75) .done))))))) (ol 70 69 (p1 75 (.sl 1 70 none (some 74) none) (ol 63 62 (p1 68 (.sl 1 63 none (some 67) none) (p1 76 (.fld 1 8) (o0 (.st 1 76 68) (p1 77 (.fld 3 8) (o0 (.st 1 77 75) .done)))))))))))))))) (.alt ⟨(some 70),none,(.ld none 69)⟩ (.alt ⟨(some 63),none,(.ld none 62)⟩ (.alt ⟨(some 65),none,(.ld none 64)⟩ (p1 66 (.len 65) (p1 67 (.bin .sub 66 z1) (p1 68 (.sl 1 63 none (some 67) none) (ol 72 71 (p1 73 (.len 72) (p1 74 (.bin .sub 73 z1) (p1 75 (.sl 1 70 none (some 74) none) (p1 76 (.fld 1 8) (o0 (.st 1 76 68) (p1 77 (.fld 3 8) (o0 (.st 1 77 75) .done))))))))))) (ol 72 71 (p1 73 (.len 72) (p1 74 (.bin .sub 73 z1) (p1 75 (.sl 1 70 none (some 74) none) (ol 65 64 (p1 66 (.len 65) (p1 67 (.bin .sub 66 z1) (p1 68 (.sl 1 63 none (some 67) none) (p1 76 (.fld 1 8) (o0 (.st 1 76 68) (p1 77 (.fld 3 8) (o0 (.st 1 77 75) .done))))))))))))) (.alt ⟨(some 65),none,(.ld none 64)⟩ (p1 66 (.len 65) (p1 67 (.bin .sub 66 z1) (.alt ⟨(some 63),none,(.ld none 62)⟩ (p1 68 (.sl 1 63 none (some 67) none) (ol 72 71 (p1 73 (.len 72) (p1 74 (.bin .sub 73 z1) (p1 75 (.sl 1 70 none (some 74) none) (p1 76 (.fld 1 8) (o0 (.st 1 76 68) (p1 77 (.fld 3 8) (o0 (.st 1 77 75) .done))))))))) (ol 72 71 (p1 73 (.len 72) (p1 74 (.bin .sub 73 z1) (p1 75 (.sl 1 70 none (some 74) none) (ol 63 62 (p1 68 (.sl 1 63 none (some 67) none) (p1 76 (.fld 1 8) (o0 (.st 1 76 68) (p1 77 (.fld 3 8) (o0 (.st 1 77 75) .done))))))))))))) (ol 72 71 (p1 73 (.len 72) (p1 74 (.bin .sub 73 z1) (p1 75 (.sl 1 70 none (some 74) none) (.alt ⟨(some 63),none,(.ld none 62)⟩ (ol 65 64 (p1 66 (.len 65) (p1 67 (.bin .sub 66 z1) (p1 68 (.sl 1 63 none (some 67) none) (p1 76 (.fld 1 8) (o0 (.st 1 76 68) (p1 77 (.fld 3 8) (o0 (.st 1 77 75) .done)))))))) (ol 65 64 (p1 66 (.len 65) (p1 67 (.bin .sub 66 z1) (ol 63 62 (p1 68 (.sl 1 63 none (some 67) none) (p1 76 (.fld 1 8) (o0 (.st 1 76 68) (p1 77 (.fld 3 8) (o0 (.st 1 77 75) .done)))))))))))))))) (ol 72 71 (p1 73 (.len 72) (p1 74 (.bin .sub 73 z1) (.alt ⟨(some 63),none,(.ld none 62)⟩ (.alt ⟨(some 65),none,(.ld none 64)⟩ (p1 66 (.len 65) (p1 67 (.bin .sub 66 z1) (p1 68 (.sl 1 63 none (some 67) none) (ol 70 69 (p1 75 (.sl 1 70 none (some 74) none) (p1 76 (.fld 1 8) (o0 (.st 1 76 68) (p1 77 (.fld 3 8) (o0 (.st 1 77 75) .done))))))))) (ol 70 69 (p1 75 (.sl 1 70 none (some 74) none) (ol 65 64 (p1 66 (.len 65) (p1 67 (.bin .sub 66 z1) (p1 68 (.sl 1 63 none (some 67) none) (p1 76 (.fld 1 8) (o0 (.st 1 76 68) (p1 77 (.fld 3 8) (o0 (.st 1 77 75) .done))))))))))) (.alt ⟨(some 65),none,(.ld none 64)⟩ (p1 66 (.len 65) (p1 67 (.bin .sub 66 z1) (.alt ⟨(some 63),none,(.ld none 62)⟩ (p1 68 (.sl 1 63 none (some 67) none) (ol 70 69 (p1 75 (.sl 1 70 none (some 74) none) (p1 76 (.fld 1 8) (o0 (.st 1 76 68) (p1 77 (.fld 3 8) (o0 (.st 1 77 75) .done))))))) (ol 70 69 (p1 75 (.sl 1 70 none (some 74) none) (ol 63 62 (p1 68 (.sl 1 63 none (some 67) none) (p1 76 (.fld 1 8) (o0 (.st 1 76 68) (p1 77 (.fld 3 8) (o0 (.st 1 77 75) .done))))))))))) (ol 70 69 (p1 75 (.sl 1 70 none (some 74) none) (.alt ⟨(some 63),none,(.ld none 62)⟩ (ol 65 64 (p1 66 (.len 65) (p1 67 (.bin .sub 66 z1) (p1 68 (.sl 1 63 none (some 67) none) (p1 76 (.fld 1 8) (o0 (.st 1 76 68) (p1 77 (.fld 3 8) (o0 (.st 1 77 75) .done)))))))) (ol 65 64 (p1 66 (.len 65) (p1 67 (.bin .sub 66 z1) (ol 63 62 (p1 68 (.sl 1 63 none (some 67) none) (p1 76 (.fld 1 8) (o0 (.st 1 76 68) (p1 77 (.fld 3 8) (o0 (.st 1 77 75) .done))))))))))))))))))))))) .skip)) (.seq (.reg true (pm 79 0<|p1 80 (.ld (some 4) 8)<|pm 81 1<|pm 82 7<|p1 83 (.idx 2 81 82)<|p1 84 (.fld 1 83)<|pl 85 84 (.par (o1 11 (.alo (.agg #[(vZ 0),nV])) .done) (oc 86 a1 [79,80,85] (pm 78 86 (p1 87 (.ext 78 0) (p1 88 (.ext 78 1) .done)))) (o0 (.st 2 11 87) (pm 12 88 .done))))) (.seq (sR (om 89 12<|ob 90 .neq 89 z0 .done) (.cond 90 (sR (om 91 12<|o1 4 (.mv nS)<|om 5 91 .done) .ret) .skip)) (sR (om 92 6<|o1 93 (.ld (some 2) 11)<|o1 94 (.bsl 1 2 [(vZ 0),nV] [(0,93)])<|o1 95 (.app 2 32 [(vZ 0),nV] 92 94)<|om 6 95 .done) (rG (om 96 9<|om 7 96 .done)))))))))))))) (sR (om 97 6<|om 4 97<|o1 5 (.mv z0) .done) .ret))))⟩
set_option maxRecDepth 4000 in
set_option maxHeartbeats 2000000 in
def VZ{P f f1 f2}(hd:R3 P f=some (Rz f1 f2))(h2:HF P f1)(h3:Ol P f2):MX P f:=by
 intro d s0 dv pv w L l hp hw hrow hll;obtain⟨bp,rfl⟩:=hp.ptr;obtain⟨a,c,rfl⟩:=hw.val;generalize hR:Bz (l.length+1) s0 l []=R;refine AK hd (Aca Z) ?_;show gwp P _ _ _ _ _;apply Ag;apply AI;refine BA d (emp::L) Vs.emp ?_;refine Ak Z<|Ac Z<|Aa<|Ad<|Ak Z<|Aa<|Ag<|Ad<|Ac Z<|Aa<|Az<|BM (α:=AbS) (fun x=>[(0,pZ bp),(1,.slice a l.length c),(6,.slice x.oa x.out.length x.oc),(7,vZ x.at_)])
  (fun x d' L'=>Le d d'∧∃ro Lp g,L'=ro::Lp∧An 2 RLd d' (.slice x.oa x.out.length x.oc) x.out ro∧PgT d' x.s dv (pZ bp) Lp∧x.out.length≤x.at_∧x.at_≤l.length∧R=Bz g x.s (l.drop x.at_) x.out∧l.length - x.at_<g)
  (fun x=>l.length - x.at_) ⟨0,[],s0,none,0⟩ ⟨Z,Z,Z,Z,trivial⟩ ⟨Le.refl _,emp,L,l.length+1,Z,An.nil,hp,Acj _,Adf _,hR.symm,by show l.length - 0<l.length+1;omega⟩ ?_
 rintro⟨at_,out,s,oa,oc⟩ ρ d' L' ⟨hle,ro,Lp,g,rfl,go,hp,hol,hal,hst,hgl⟩;simp only at go hp hol hal hst hgl⊢;by_cases hlt:at_<l.length
 ·obtain⟨g,rfl⟩:∃g',g=g'+1:=⟨g - 1,by omega⟩
  rw[Acu hlt,Bz] at hst;have hw':RSl 2 RLd d' (.slice a l.length c) l:=RSl.mono (R:=RLd) D6 hw hle;obtain⟨o1,o2,o3,o4⟩:=hrow _ (Acz hlt);refine Ag<|Ad<|Ac Z<|Ak Z<|AO Z<|AA Z Z<|Aa<|AF Z (by omega)<|Al<|Az<|Ad<|Ak Z<|Ac Z<|A0 (m:=at_) Z hw' Z Z hlt (fun b o cs hcl hdc ⟨u0,q,hu0⟩=>?_);subst q;obtain⟨ua,uc,rfl⟩:=hu0.val;refine Aj Z<|Ai Z (Bf (by assumption) Z)<|Db (v0:=vZ l[at_].1) Z Z (fun b22 T22=>?_);refine BA d' (emp::bx b22 T22 [vZ l[at_].1]::ro::Lp) Vs.emp ?_;(refine Ch Z<|Da (fun _ _=>?_));rename_i b8 T8;refine DQ (cs:=[.bool false,nV,nV,.slice (some ⟨b22,0,none⟩) 1 1]) 0 Z Z Z Z Z Z ?_;refine Aa ?_;show gwp P _ _ _ _ _;apply Ag;apply AI;(refine Ac Z<|AY Z Z (by omega) (by omega)<|Ac Z<|Aa ?_);show gwp P _ _ _ _ _;generalize htl:l.drop (at_+1)=t at hst;have htn:t.length=l.length - (at_+1):=by rw[←htl,Ads]
  refine NX (fun ρ d5 L5=>Le d' d5∧∃ka kc ia ic,Bk ρ [(0,pZ bp),(1,.slice a l.length c),(6,.slice oa out.length oc),(7,vZ at_),(8,pZ b8),(9,vZ ((at_+1+Cv ⟨false,[],[],[l[at_].1]⟩ t:Nat):Int))]∧
   L5=bx b8 T8 [.bool false,.slice ka (Cv ⟨false,[],[],[l[at_].1]⟩ t) kc,nV,.slice ia (1+Cv ⟨false,[],[],[l[at_].1]⟩ t) ic]::ro::Lp∧Cv ⟨false,[],[],[l[at_].1]⟩ t≤t.length∧
   Dp d5 (.slice ka (Cv ⟨false,[],[],[l[at_].1]⟩ t) kc) ((t.take (Cv ⟨false,[],[],[l[at_].1]⟩ t)).map (·.2))∧Dt d5 (.slice ia (1+Cv ⟨false,[],[],[l[at_].1]⟩ t) ic) (l[at_].1::(t.take (Cv ⟨false,[],[],[l[at_].1]⟩ t)).map (·.1))) ?_ ?_
  ·(apply Az);refine BM (α:=AbI) (fun x=>[(0,pZ bp),(1,.slice a l.length c),(6,.slice oa out.length oc),(7,vZ at_),(8,pZ b8),(9,vZ ((at_+1+x.j:Nat):Int))])
    (fun x d5 L5=>Le d' d5∧x.j≤t.length∧∃hk hi,L5=bx b8 T8 [.bool false,.slice x.ka x.j x.kc,nV,.slice x.ia (1+x.j) x.ic]::hk::hi::ro::Lp∧
     An 1 RBs d5 (.slice x.ka x.j x.kc) ((t.take x.j).map (·.2)) hk∧An 1 A7 d5 (.slice x.ia (1+x.j) x.ic) (l[at_].1::(t.take x.j).map (·.1)) hi∧
     (AV ⟨false,(t.take x.j).map (·.2),[],l[at_].1::(t.take x.j).map (·.1)⟩=true∨x.j=0)∧
     Cv ⟨false,[],[],[l[at_].1]⟩ t=x.j+Cv ⟨false,(t.take x.j).map (·.2),[],l[at_].1::(t.take x.j).map (·.1)⟩ (t.drop x.j))
    (fun x=>t.length - x.j) ⟨0,none,0,some ⟨b22,0,none⟩,1⟩ ⟨Z,Z,Z,Z,Z,Z,trivial⟩ ⟨Le.refl _,Adf _,emp,_,Z,An.nil,An.D7 (R:=A7) Z ⟨Z,by omega,by omega⟩,.inr Z,by simp⟩ ?_
   rintro⟨j,ka,kc,ia,ic⟩ ρ2 d5 L5 ⟨hl5,hj,hk,hi,rfl,gk,gi,hri,hcn⟩;simp only at hj gk gi hri hcn⊢;by_cases hjt:j<t.length
   ·have hje:at_+1+j<l.length:=by omega
    have htj:t[j]=l[at_+1+j]:=by subst htl;rw[List.getElem_drop]
    rw[Acu hjt,Cv] at hcn;have hw5:RSl 2 RLd d5 (.slice a l.length c) l:=RSl.mono (R:=RLd) D6 hw (hle.trans hl5);obtain⟨p1,p2,p3,p4⟩:=hrow _ (Acz hje);(refine Ag<|Ad<|Ac Z<|Ak Z<|AO Z<|AA Z Z<|Aa<|AF Z (by omega)<|Al<|Ag<|Az<|Ag ?_);have hKe:(t.take (j+1)).map (·.2)=(t.take j).map (·.2)++[l[at_+1+j].2]:=by rw[Acp hjt,Adl,htj];rfl
    have hIe:l[at_].1::(t.take (j+1)).map (·.1)=(l[at_].1::(t.take j).map (·.1))++[l[at_+1+j].1]:=by rw[Acp hjt,Adl,htj];rfl
    have hKl:((t.take j).map (·.2)).length=j:=by rw[Adq,Acs];omega
    have hIl:(l[at_].1::(t.take j).map (·.1)).length=1+j:=by rw[Acx,Adq,Acs];omega
    have hri2:AV ⟨false,(t.take j).map (·.2),[],l[at_].1::(t.take j).map (·.1)⟩=true∨(t.take j).map (·.2)=[]∧(l[at_].1::(t.take j).map (·.1)).length=1:=hri.imp id (fun q=>by subst q;simp);have hcn2:Cv ⟨false,[],[],[l[at_].1]⟩ t=j+if AV ⟨false,(t.take (j+1)).map (·.2),[],l[at_].1::(t.take (j+1)).map (·.1)⟩=true then Cv ⟨false,(t.take (j+1)).map (·.2),[],l[at_].1::(t.take (j+1)).map (·.1)⟩ (t.drop (j+1))+1 else 0:=by
     rw[hcn,hKe,hIe,←htj];rfl
    have hft:Fit ⟨false,(t.take (j+1)).map (·.2),[],l[at_].1::(t.take (j+1)).map (·.1)⟩ 600:=by
     rw[hKe,hIe];exact W8 (n:=⟨false,_,[],_⟩) hri2 p4
    clear hcn;rw[hKe,hIe] at hcn2 hft;have hfk:j≤257:=by
     rcases hri2 with q|⟨q,_⟩
     ·have:=(Ga q).1.k;rw[hKl] at this;exact this
     ·rw[q] at hKl;simp at hKl;omega
    generalize hKS:(t.take j).map (·.2)=KS at gk hcn2 hft hKl hKe hri2;generalize hIS:l[at_].1::(t.take j).map (·.1)=IS at gi hcn2 hft hIl hIe hri2;clear hri2 hri;refine BX [_] (hk::hi::ro::Lp) Z ?_;refine Aj Z<|Ai Z (Aq 0 Z Z)<|Ak Z<|Ac Z<|A0 (m:=at_+1+j) Z hw5 Z Z hje (fun b2 o2 cs2 hcl2 hdc2 ⟨uk,qk,huk⟩=>?_);subst qk;obtain⟨ja,jc,rfl⟩:=huk.val;refine Aj Z<|Ai Z (Bf (by assumption) Z)<|Aj Z<|Ai Z (Aq 0 Z Z)<|Ak Z<|Ac Z<|A0 (m:=at_+1+j) Z hw5 Z Z hje (fun b3 o3 cs3 hcl3 hdc3 ⟨uk3,qk3,huk3⟩=>?_);subst qk3;obtain⟨j3a,j3c,rfl⟩:=huk3.val;refine Aj Z<|Ai Z (Bf (by assumption) Z)<|Hp (α:=Option Addr×Nat×Option Addr×Nat×Ab×Ab×Ab×Ab) (β:=Nat×TypeId) [(0,pZ bp),(1,.slice a l.length c),(6,.slice oa out.length oc),(7,vZ at_),(8,pZ b8),(9,vZ ((at_+1+j:Nat):Int))]
     (fun y=>[(50,.agg [.bool false,.slice y.1 (j+1) y.2.1,nV,.slice y.2.2.1 (1+(j+1)) y.2.2.2.1].toArray)])
     (fun y d' M=>An 1 RBs d' (.slice y.1 (j+1) y.2.1) (KS++[l[at_+1+j].2]) y.2.2.2.2.1∧(An 1 RBs d' (.slice ka j kc) KS y.2.2.2.2.1∨An 1 RBs d' (.slice ka j kc) KS y.2.2.2.2.2.2.1)∧
      An 1 A7 d' (.slice y.2.2.1 (1+(j+1)) y.2.2.2.1) (IS++[l[at_+1+j].1]) y.2.2.2.2.2.1∧(An 1 A7 d' (.slice ia (1+j) ic) IS y.2.2.2.2.2.1∨An 1 A7 d' (.slice ia (1+j) ic) IS y.2.2.2.2.2.2.2)∧M=[y.2.2.2.2.2.2.2,y.2.2.2.2.2.2.1,y.2.2.2.2.1,y.2.2.2.2.2.1])
     (fun x=>[(10,.pointer (some ⟨x.1,0,none⟩))]) (fun x _ M=>M=bx x.1 x.2 [.bool false,nV,nV,nV]::ro::Lp) [hk,hi] (ro::Lp) Z
     (fun y d d' M hl h=>⟨h.1.Ex hl,h.2.1.imp (fun q=>q.Ex hl) (fun q=>q.Ex hl),h.2.2.1.JA hl,h.2.2.2.1.imp (fun q=>q.JA hl) (fun q=>q.JA hl),h.2.2.2.2⟩) (fun x d d' M hl h=>h) (fun y=>Z) (fun x=>Z) Z ⟨Z,Z,Z,Z,Z,Z,trivial⟩ ?_ ?_ ?_
    ·refine Hp (α:=Nat×TypeId) (β:=Option Addr×Nat×Ab×Ab) [(42,.slice ia (1+j) ic)] (fun x=>[(48,.slice (some ⟨x.1,0,none⟩) 1 1)]) (fun x _ M=>M=[bx x.1 x.2 [vZ l[at_+1+j].1]])
      (fun y=>[(40,.slice y.1 (j+1) y.2.1)]) (fun y d' M=>An 1 RBs d' (.slice y.1 (j+1) y.2.1) (KS++[l[at_+1+j].2]) y.2.2.1∧(An 1 RBs d' (.slice ka j kc) KS y.2.2.1∨An 1 RBs d' (.slice ka j kc) KS y.2.2.2)∧M=[y.2.2.2,y.2.2.1,hi]) [] [hk,hi] Z
      (fun x d d' M hl h=>h) (fun y d d' M hl h=>⟨h.1.Ex hl,h.2.1.imp (fun q=>q.Ex hl) (fun q=>q.Ex hl),h.2.2⟩) (fun x=>Z) (fun y=>Z) Z ⟨Z,trivial⟩ ?_ ?_ ?_
     ·refine Db (v0:=vZ l[at_+1+j].1) Z Z (fun b48 T48=>?_);(apply By);exact⟨_,Z,(b48,T48),⟨Z,trivial⟩,Z⟩
     ·refine Db (v0:=.slice ja l[at_+1+j].2.length jc) Z Z (fun b39 T39=>?_);refine Lr (R:=RBs) (ys:=[l[at_+1+j].2]) 0 Z Z gk Z (An.D7 (R:=RBs) (x:=l[at_+1+j].2) Z ⟨_,Z,huk⟩) M9 (by omega) (by simp;omega) (by simp;omega) (fun v' hk' jk o oj=>?_);obtain⟨ga,gc,rfl⟩:=o.val;rw[show(KS++[l[at_+1+j].2]).length=j+1 by simp;omega] at o⊢;(apply By);exact⟨_,Z,(ga,gc,hk',jk),⟨Z,trivial⟩,o,oj,Z⟩
     ·rintro⟨b48,T48⟩ ⟨ga,gc,hk',jk⟩ ρ3 d6 M1 M2 hl6 hM1 ⟨hg1,hgj,hM2⟩;subst hM1;subst hM2;simp only at hg1 hgj⊢;refine Lr (R:=A7) (ys:=[l[at_+1+j].1]) 2 Z Z (gi.JA hl6) Z (An.D7 (R:=A7) (x:=l[at_+1+j].1) Z ⟨Z,by omega,by omega⟩) D2 (by omega) (by simp;omega) (by simp;omega) (fun v' hi' ji o oj=>?_);obtain⟨za,zc,rfl⟩:=o.val;rw[show(IS++[l[at_+1+j].1]).length=1+(j+1) by simp;omega] at o⊢;(refine Ch Z<|By ?_);exact⟨_,Z,(ga,gc,za,zc,hk',hi',jk,ji),⟨Z,trivial⟩,hg1,hgj,o,oj,Z⟩
    ·refine Dj (fun b10 T10=>?_);(apply By);exact⟨_,Z,(b10,T10),⟨Z,trivial⟩,Z⟩
    ·rintro⟨ga,gc,za,zc,hk',hi',jk,ji⟩ ⟨b10,T10⟩ ρ3 d6 M1 M2 hl6 ⟨hg1,hgj,hg2,hgi,hM1⟩ hM2;subst hM1;subst hM2;simp only at hg1 hgj hg2 hgi⊢;apply Du;refine DQ (cs:=[.bool false,.slice ga (j+1) gc,nV,.slice za (1+(j+1)) zc]) 5 Z Z Z Z Z Z ?_;refine Aa<|Ag<|Ad<|Cg 5 Z Z Z<|BA d6 (bx b8 T8 [.bool false,.slice ka j kc,nV,.slice ia (1+j) ic]::ji::jk::hk'::hi'::bx b10 T10 [.bool false,.slice ga (j+1) gc,nV,.slice za (1+(j+1)) zc]::ro::Lp) (Vs.refl _ _) ?_;refine LM (vs:=[.agg [.bool false,.slice ga (j+1) gc,nV,.slice za (1+(j+1)) zc].toArray]) (v:=.bool (AV ⟨false,KS++[l[at_+1+j].2],[],IS++[l[at_+1+j].1]⟩)) Z (fun d7 hl7 hL7=>h2 (cs:=[.bool false,.slice ga (j+1) gc,nV,.slice za (1+(j+1)) zc]) (n:=⟨false,KS++[l[at_+1+j].2],[],IS++[l[at_+1+j].1]⟩) ⟨_,_,_,Z,An.rsl (R:=RBs) hg1 BQ (by omega) hl7 (hL7 _ (by simp)),RSl.nil,An.rsl (R:=A7) hg2 BE (by omega) hl7 (hL7 _ (by simp))⟩ (hft.small (by omega)).1) ?_;by_cases hr:AV ⟨false,KS++[l[at_+1+j].2],[],IS++[l[at_+1+j].1]⟩=true
     ·rw[if_pos hr] at hcn2;rw[hr];refine Bd Z<|Aa<|AS Z<|Al<|AI<|Cg 5 Z Z Z<|BA d6 (bx b8 T8 [.bool false,.slice ka j kc,nV,.slice ia (1+j) ic]::hk'::hi'::ro::Lp) (Vs.drop (.cons_cons _ (.cons _ (.cons _ (.cons_cons _ (.cons_cons _ (.cons _ (Acd _)))))))) ?_;refine DQ (cs:=[.bool false,.slice ga (j+1) gc,nV,.slice za (1+(j+1)) zc]) 0 Z Z Z Z Z Z ?_;(refine Aa<|AI<|Ac Z<|AY Z Z (by omega) (by omega)<|Ac Z<|Aa ?_);exact⟨⟨j+1,ga,gc,za,zc⟩,(by show t.length - (j+1)<t.length - j;omega),⟨Z,Z,Z,Z,Z,Z,trivial⟩,hl5.trans hl6,hjt,hk',hi',Z,(by simp only[hKe];exact hg1),(by simp only[hIe];exact hg2),.inl (by simp only[hKe,hIe];exact hr),(by
       show Cv _ t=(j+1)+Cv ⟨false,(t.take (j+1)).map (·.2),[],l[at_].1::(t.take (j+1)).map (·.1)⟩ (t.drop (j+1));rw[hKe,hIe,hcn2];omega)⟩
     ·rw[if_neg hr,Nat.add_zero] at hcn2;have hrf:AV ⟨false,KS++[l[at_+1+j].2],[],IS++[l[at_+1+j].1]⟩=false:=by simpa using hr
      rw[hrf,hcn2,hKS,hIS];obtain⟨d7,v1,hl7,hL7⟩:=Vs.Gp d6 [ji,jk,hk',hi'];refine BA d7 (bx b8 T8 [.bool false,.slice ka j kc,nV,.slice ia (1+j) ic]::ro::Lp) (((Vs.perm (Aer (bx b10 T10 [.bool false,.slice ga (j+1) gc,nV,.slice za (1+(j+1)) zc]::ro::Lp) (Acn (l₁:=[_]) (l₂:=[ji,jk,hk',hi'])))).trans (Vs.app v1 _)).trans (Vs.drop (.cons_cons _ (.cons _ (Acd _))))) ?_;(refine Bd Z<|Aa<|A8 Z<|Ba ?_);refine⟨(hl5.trans hl6).trans hl7,ka,kc,ia,ic,⟨Z,Z,Z,Z,Z,Z,trivial⟩,Z,hj,?_,?_⟩
      ·rcases hgj with q|q
       ·exact An.rsl (R:=RBs) q BQ (by omega) hl7 (hL7 _ (by simp))
       ·exact An.rsl (R:=RBs) q BQ (by omega) hl7 (hL7 _ (by simp))
      ·rcases hgi with q|q
       ·exact An.rsl (R:=A7) q BE (by omega) hl7 (hL7 _ (by simp))
       ·exact An.rsl (R:=A7) q BE (by omega) hl7 (hL7 _ (by simp))
   ·have:j=t.length:=by omega
    subst this;rw[Afb,Cv,Nat.add_zero] at hcn;rw[hcn];obtain⟨d7,v1,hl7,hL7⟩:=Vs.Gp d5 [hk,hi];apply Ag;apply Ag;apply AI;refine BA d7 (bx b8 T8 [.bool false,.slice ka t.length kc,nV,.slice ia (1+t.length) ic]::ro::Lp) ((Vs.perm (Aer (ro::Lp) (Acn (l₁:=[_]) (l₂:=[hk,hi])))).trans (Vs.app v1 _)) ?_;(refine Ac Z<|Ak Z<|AO Z<|AA Z Z<|Aa<|Aw Z (by omega)<|Ba ?_);exact⟨hl5.trans hl7,ka,kc,ia,ic,⟨Z,Z,Z,Z,Z,Z,trivial⟩,Z,Acj _,An.rsl (R:=RBs) gk BQ (by omega) hl7 (hL7 _ (by simp)),An.rsl (R:=A7) gi BE (by omega) hl7 (hL7 _ (by simp))⟩
  ·rintro ρ d5 L5 ⟨hl5,ka,kc,ia,ic,hsl,rfl,hcn,hk5,hi5⟩;refine CY _ hsl ?_;have hc1:Cv ⟨false,[],[],[l[at_].1]⟩ t+1=t.length→1≤Cv ⟨false,[],[],[l[at_].1]⟩ t:=by
    intro q;have ht0:0<t.length:=by omega
    have hje:at_+1<l.length:=by omega
    have ht1:t=l[at_+1]::t.drop 1:=by
     subst htl;rw[List.drop_drop,←Acu hje]
    rw[ht1,Cv,if_pos (Wt ⟨o1,o2⟩ (hrow _ (Acz hje)))];omega
   have htk:BP l[at_] t=if Cv ⟨false,[],[],[l[at_].1]⟩ t+1=t.length then Cv ⟨false,[],[],[l[at_].1]⟩ t - 1 else Cv ⟨false,[],[],[l[at_].1]⟩ t:=Z
   generalize Cv ⟨false,[],[],[l[at_].1]⟩ t=c0 at hc1 htk hcn hk5 hi5⊢;have hkl:((t.take c0).map (·.2)).length=c0:=by rw[Adq,Acs];omega
   have hil:(l[at_].1::(t.take c0).map (·.1)).length=1+c0:=by rw[Acx,Adq,Acs];omega
   refine NX (fun ρ d6 L6=>d6=d5∧∃ka kc ia ic,Bk ρ [(0,pZ bp),(1,.slice a l.length c),(6,.slice oa out.length oc),(7,vZ at_),(8,pZ b8),(9,vZ ((at_+1+BP l[at_] t:Nat):Int))]∧
    L6=bx b8 T8 [.bool false,.slice ka (BP l[at_] t) kc,nV,.slice ia (1+BP l[at_] t) ic]::ro::Lp∧BP l[at_] t≤t.length∧
    Dp d5 (.slice ka (BP l[at_] t) kc) ((t.take (BP l[at_] t)).map (·.2))∧Dt d5 (.slice ia (1+BP l[at_] t) ic) (l[at_].1::(t.take (BP l[at_] t)).map (·.1))) ?_ ?_
   ·by_cases hgb:c0+1=t.length
    ·have hc2:=hc1 hgb;rw[htk,if_pos hgb];clear hc1 htk;obtain⟨c1,rfl⟩:∃c1,c0=c1+1:=⟨c0 - 1,by omega⟩
     rw[Agk];refine Ad<|Ac Z<|Ak Z<|AO Z<|CP Z Z (by omega) (by omega)<|AT Z Z<|Aa<|AF Z (by omega)<|Ad<|Ac Z<|CP Z Z (by omega) (by omega)<|Ac Z<|Aa<|BX [] (bx b8 T8 [.bool false,.slice ka (c1+1) kc,nV,.slice ia (1+(c1+1)) ic]::ro::Lp) Z ?_;(refine Aj Z<|Aj Z<|Aj Z<|Aj Z ?_);have hkt:((t.take (c1+1)).map (·.2)).take c1=(t.take c1).map (·.2):=by rw[←Ahd,Ahh,Agq (by omega)]
     have hit:(l[at_].1::(t.take (c1+1)).map (·.1)).take (1+c1)=l[at_].1::(t.take c1).map (·.1):=by rw[Nat.add_comm 1 c1,List.take_succ_cons,←Ahd,Ahh,Agq (by omega)]
     have hkl1:((t.take c1).map (·.2)).length=c1:=by rw[Adq,Acs];omega
     have hil1:(l[at_].1::(t.take c1).map (·.1)).length=1+c1:=by rw[Acx,Adq,Acs];omega
     repeat' (first
      |refine Ue ?_ ?_
      |(refine Ai Z (Aq 0 Z Z) ?_)
      |(refine AO Z ?_)
      |(refine CP Z Z (by omega) (by omega) ?_)
      |(refine Aj Z ?_)
      |(refine Oi (n:=c1) rfl hk5 rfl (by omega) (by omega) (fun vk hvk=>?_);rw[hkt] at hvk;obtain⟨vka,vkc,rfl⟩:=hvk.val;rw[hkl1] at hvk⊢)
      |(refine Oi (n:=1+c1) rfl hi5 rfl (by omega) (by omega) (fun vi hvi=>?_);rw[hit] at hvi;obtain⟨via,vic,rfl⟩:=hvi.val;rw[hil1] at hvi⊢)
      |(refine Bg 0 [.bool false,.slice vka c1 vkc,nV,.slice ia (1+(c1+1)) ic] Z Z Z Z (Aca Z) Z Z ?_)
      |(refine Bg 0 [.bool false,.slice vka c1 vkc,nV,.slice via (1+c1) vic] Z Z Z Z (Aca Z) Z Z ?_)
      |exact Aa ⟨Z,vka,vkc,via,vic,⟨Z,Z,Z,Z,Z,int_eq (by omega),trivial⟩,Z,(by omega),hvk,hvi⟩)
    ·rw[htk,if_neg hgb];clear hc1 htk;(refine Ad<|Ac Z<|Ak Z<|AO Z<|CP Z Z (by omega) (by omega)<|AT Z Z<|Aa<|Aw Z (by omega)<|Al ?_);exact⟨Z,ka,kc,ia,ic,⟨Z,Z,Z,Z,Z,Z,trivial⟩,Z,hcn,hk5,hi5⟩
   ·rintro ρ d6 L6 ⟨rfl,ka,kc,ia,ic,hsl,rfl,hcn,hk5,hi5⟩;refine CY _ hsl ?_;(apply Ag);refine BX [_,_] Lp Z ?_;(refine Ah Z<|Cg 0 Z Z Z<|Ak Z<|Ac Z ?_);have hw6:RSl 2 RLd d6 (.slice a l.length c) l:=RSl.mono (R:=RLd) D6 hw (hle.trans hl5);refine A0 (m:=at_) Z hw6 Z Z hlt (fun b2 o2 cs2 hcl2 hdc2 ⟨uk,qk,hq⟩=>?_);subst qk;obtain⟨fa,fc,rfl⟩:=hq.val;have hsz:Bc (CN l[at_] t (BP l[at_] t))≤1000000000000:=by
     refine XE (fun x hx=>?_) (by omega);have:=hrow x (by rw[←htl] at hx;exact Agp hx);omega
    have hnd:CO d6 [.bool false,.slice ka (BP l[at_] t) kc,nV,.slice ia (1+BP l[at_] t) ic] (CN l[at_] t (BP l[at_] t)):=⟨_,_,_,Z,hk5,RSl.nil,hi5⟩
    have hlen:at_+1+BP l[at_] t≤l.length:=by omega
    have hdr:t.drop (BP l[at_] t)=l.drop (at_+1+BP l[at_] t):=by rw[←htl,List.drop_drop]
    rw[hdr] at hst;have hp6:=hp.mono hl5;have go6:An 2 RLd d6 (.slice oa out.length oc) out ro:=An.mono (R:=RLd) D6 go hl5;generalize BP l[at_] t=cc at*;refine Aj Z<|Ai Z (Bf (by assumption) Z)<|Hp (α:=Nat×TypeId) (β:=Int×Value) [(0,pZ bp),(1,.slice a l.length c),(6,.slice oa out.length oc),(7,vZ at_),(8,pZ b8),(9,vZ ((at_+1+cc:Nat):Int))]
     (fun x=>[(11,.pointer (some ⟨x.1,0,none⟩))]) (fun x _ M=>M=[bx x.1 x.2 [vZ 0,nV]])
     (fun y=>[(87,.agg [vZ y.1,y.2].toArray),(88,vZ (A5 s (-1) (CN l[at_] t cc)).2.2)])
     (fun y d' M=>((A5 s (-1) (CN l[at_] t cc)).2.2=0→y.1=(A5 s (-1) (CN l[at_] t cc)).2.1∧y.2=.slice fa l[at_].2.length fc)∧(∃a m c,y.2=.slice a m c)∧PgT d' (A5 s (-1) (CN l[at_] t cc)).1 dv (pZ bp) M) [] _ Z
     (fun x d d' M hl h=>h) (fun y d d' M hl h=>⟨h.1,h.2.1,h.2.2.mono hl⟩) (fun x=>Z) (fun y=>Z) Z ⟨Z,Z,Z,Z,Z,Z,trivial⟩ ?_ ?_ ?_
    ·refine Dj (fun b12 T12=>?_);(apply By);exact⟨_,Z,(b12,T12),⟨Z,trivial⟩,Z⟩
    ·refine Be [] (h3 hp6 hnd hsz hq) Z Z (fun v d7 L7 hl7 ⟨_,q,u,e1,hq1,hqs,hp7⟩=>?_);subst e1;(refine AU Z<|Ap Z Z<|Ap Z Z<|By ?_);exact⟨_,Z,(q,u),⟨Z,Z,trivial⟩,hq1,hqs,hp7⟩
    ·rintro⟨b12,T12⟩ ⟨q,u⟩ ρ2 d7 M1 M2 hl7 hM1 ⟨hq1,⟨ya,ym,yc,hu⟩,hp7⟩;subst hM1;simp only at hq1 hu hp7⊢;subst hu;refine DQ (cs:=[vZ q,.slice ya ym yc]) 0 Z Z Z Z Z Z ?_;clear hnd hsz hk5 hi5;generalize A5 s (-1) (CN l[at_] t cc)=W at hq1 hp7 hst⊢;by_cases hpe:W.2.2=0
     ·obtain⟨rfl,hu2⟩:=hq1 hpe;cases hu2;rw[if_neg (fun q=>q hpe)] at hst;rw[hpe];have go7:An 2 RLd d7 (.slice oa out.length oc) out ro:=An.mono (R:=RLd) D6 go6 hl7;have hq7:AH d7 (.slice fa l[at_].2.length fc) l[at_].2:=RSl.mono (R:=AE) AP hq hl7;refine Ac Z<|By<|Ag<|Ad<|Ac Z<|AW Z Z<|Aa<|Aw Z (by omega)<|Al<|Ad<|Ak Z<|Cg 2 Z Z Z<|Y0 (u:=vZ W.2.1) (v:=.slice fa l[at_].2.length fc) Z (fun b74 T74=>?_);refine Ep (R:=RLd) (ys:=[(W.2.1,l[at_].2)]) 1 Z Z go7 Z (An.D7 (R:=RLd) (x:=(W.2.1,l[at_].2)) Z ⟨_,Z,hq7⟩) RU (by omega) (by simp;omega) (by simp;omega) (fun v' ro' o=>?_);obtain⟨pa,pc,rfl⟩:=o.val;refine BA d7 (ro'::M2) (Vs.drop (.cons _ (.cons_cons _ (.cons _ (Acd _))))) ?_;(refine Ak Z<|Aa<|AI<|Ac Z<|Ac Z<|Aa ?_);exact⟨⟨at_+1+cc,out++[(W.2.1,l[at_].2)],W.1,pa,pc⟩,(by show l.length - (at_+1+cc)<l.length - at_;omega),⟨Z,Z,Z,Z,trivial⟩,(hle.trans hl5).trans hl7,ro',M2,g,Z,o,hp7,(by simp;omega),hlen,hst,(by show l.length - (at_+1+cc)<g;omega)⟩
     ·rw[if_pos hpe] at hst;rw[hst];clear hst;(refine Ac Z<|By<|Ag<|Ad<|Ac Z<|AW Z Z<|Aa<|AF Z (by omega)<|Ad<|Ac Z<|Ak Z<|Ac Z<|Aa<|Ao ?_);exact A9 [nV,vZ W.2.2] ⟨Ar Z,Ar Z,trivial⟩ (d':=d7) (L':=M2) (Vs.drop (Adi [_,_,_] M2)) ⟨(hle.trans hl5).trans hl7,_,Z,RSl.nil,hp7⟩
 ·have:at_=l.length:=by omega
  subst this;have:R=(s,out,0):=by
   rw[Afb] at hst;cases g with
   |zero=>omega
   |succ g=>rw[hst,Bz]
  rw[this];(refine Ag<|Ad<|Ac Z<|Ak Z<|AO Z<|AA Z Z<|Aa<|Aw Z (by omega)<|Ba<|Ad<|Ak Z<|Ak Z<|Ac Z<|Aa<|Ao ?_);exact A9 [.slice oa out.length oc,vZ 0] ⟨Ar Z,Ar Z,trivial⟩ (d':=join d' ro) (L':=Lp) Vs.freeze ⟨hle.trans (Le.Au _ _),_,Z,An.rsl (R:=RLd) go D6 (by omega) (Le.Au _ _) (Le.AZ _ _),hp.mono (Le.Au _ _)⟩
end Go.Gk.Tre
end
section
namespace Go.Gk.Tre
open Go Go.Gk Go.Gk.Dev Go.Gk.Cch Go.Gk.Pgr Go.Gk.Chn Go.Gk.Node
def KE:∀(l:List KV) (s:PD) (n:Ax) (out:List LD),Pgr.AG s (BI s l n out).1
 |[],s,n,out=>by
  rw[BI];split
  ·exact Ek s (-1) n
  ·exact Ek s (-1) n
 |x::l,s,n,out=>by
  rw[BI];split
  ·exact Gb s x.2
  split
  ·exact(Gb s x.2).trans (KE l _ _ _)
  split
  ·exact(Gb s x.2).trans (Ek _ (-1) n)
  ·exact((Gb s x.2).trans (Ek _ (-1) n)).trans (KE l _ _ _)
def Rv:∀(g:Nat) (s:PD) (l out:List LD),Pgr.AG s (Bz g s l out).1
 |0,s,l,out=>Pgr.AG.refl s
 |g+1,s,[],out=>Pgr.AG.refl s
 |g+1,s,x::l,out=>by
  rw[Bz];split
  ·exact Ek s (-1) _
  ·exact(Ek s (-1) _).trans (Rv g _ _ _)
def KO.sub{a b}(h:a.Sublist b)(k:KO b):KO a:=⟨fun x hx=>k.1 x (h.subset hx),k.2.sublist h⟩
def IF(l:List LD):Prop:=(∀x∈l,0≤x.1∧x.1≤8191)∧KO (l.map (·.2))
def IF.ok{l:List LD}(h:IF l):YI l:=fun x hx=>by
 have:=h.1 x hx;have:=h.2.1 x.2 (Aft.2 ⟨x,hx,Z⟩);omega
def Ka{s}(hG:Pgr.Good s){n:Ax}(h:(A5 s (-1) n).2.2=0):0≤(A5 s (-1) n).2.1∧(A5 s (-1) n).2.1≤8191:=by
 unfold A5 at h⊢;split
 ·rename_i hr;rw[if_pos hr] at h;rw[if_neg (by omega)] at h⊢;split
  ·rename_i he;rw[if_pos he] at h;exact absurd h he
  ·rename_i he;rw[if_neg (show¬((0:Int)≤ -1) by omega)];rcases Oz hG with ⟨q1,q2,q3⟩|⟨q1,_⟩
   ·exact DD (ET hG) (.inl q3)
   ·exact absurd (by rw[q1];decide) he
 ·simp
def Vt{l}(h:∀j,j<l.length→wrB l j=false):KO (l.map (·.1)):=by
 refine⟨fun k hk=>?_,?_⟩
 ·obtain⟨x,hx,rfl⟩:=Aft.1 hk;obtain⟨j,hj,rfl⟩:=Aej hx;exact SU hj (h j hj)
 ·have step:∀j (hj:j+1<l.length),Lt (l[j]'(by omega)).1 l[j+1].1:=by
   intro j hj;have:=h (j+1) hj;rw[N4 hj] at this;simp only[Ahf,Bool.and_eq_false_iff,decide_eq_false_iff_not,Agk] at this;rcases this.2 with q|q
   ·omega
   ·have hg:l.getD j ([],[])=l[j]'(by omega):=by simp only[Acg,Acf (show j<l.length by omega),Aem]
    rw[hg] at q;exact(EN _ _).1 (by omega)
  have far:∀i d (hi:i+(d+1)<l.length),Lt (l[i]'(by omega)).1 (l[i+(d+1)]).1:=by
   intro i d;induction d with
   |zero=>intro hi;exact step i hi
   |succ d ih=>intro hi;exact EG (ih (by omega)) (step (i+(d+1)) hi)
  refine List.pairwise_iff_getElem.2 fun i j hi hj hij=>?_;simp only[List.getElem_map];simp only[Adq] at hi hj;have:=far i (j - i - 1) (by omega);rwa [show l[i+(j - i - 1+1)]=l[j] from by congr 1;omega] at this
def VX{s}(h:Pgr.Good s){v}:Pgr.Good (Bs s v).1:=by
 unfold Bs;split
 ·exact h
 ·exact Ps h
def Jc:∀(l:List KV) (s:PD) (n:Ax) (out:List LD),Pgr.Good s→(n.keys=[]→n.vals=[]∧l≠[])→KO (out.map (·.2)++(n.keys++l.map (·.1)))→(∀x∈out,0≤x.1∧x.1≤8191)→(BI s l n out).2.2=0→IF (BI s l n out).2.1
 |[],s,n,out,hG,hn,hk,ho,he=>by
  rw[BI] at he⊢;split at he
  ·rename_i q;exact absurd he q
  ·rename_i q;rw[if_neg q];have hp:=Ka hG (Decidable.not_not.1 q);have hne:n.keys≠[]:=fun e=>(hn e).2 Z;refine⟨fun x hx=>?_,?_⟩
   ·rcases Ach.1 hx with hx|hx
    ·exact ho x hx
    ·simp at hx;subst hx;exact hp
   ·refine KO.sub ?_ hk;rw[Adl];refine List.Sublist.append (Acd _) ?_;obtain⟨k0,ks,e⟩:=Aed hne;rw[e];simp
 |x::l,s,n,out,hG,hn,hk,ho,he=>by
  rw[BI] at he⊢;split at he
  ·rename_i q;exact absurd he q
  ·rename_i q;rw[if_neg q];have hG1:Pgr.Good (Bs s x.2).1:=VX hG;split at he
   ·rename_i r;rw[if_pos r];exact Jc l _ _ _ hG1 (fun e=>by simp[Hi] at e) (by simpa [Hi] using hk) ho he
   ·rename_i r;rw[if_neg r];split at he
    ·rename_i w;exact absurd he w
    ·rename_i w;rw[if_neg w];have hne:n.keys≠[]:=fun e=>by
      have hx:=hk.1 x.1 (by simp);have:=Kh (c:=(Bs s x.2).2.1) hx.1 hx.2 ML;rw[show Hi n x.1 (Bs s x.2).2.1=⟨true,[x.1],[(Bs s x.2).2.1],[]⟩ by unfold Hi;rw[e,(hn e).1];rfl] at r;exact r this
     have hp:=Ka hG1 (Decidable.not_not.1 w);refine Jc l _ _ _ (K7 hG1) (fun e=>by cases e) ?_ (fun y hy=>?_) he
     ·refine KO.sub ?_ hk;rw[Adl,Ace];refine List.Sublist.append (Acd _) ?_;obtain⟨k0,ks,e⟩:=Aed hne;rw[e];simp
     ·rcases Ach.1 hy with hy|hy
      ·exact ho y hy
      ·simp at hy;subst hy;exact hp
def PE:∀{ks},(∀k∈ks,k.length≤64)→Cf ks≤64*ks.length
 |[],_=>by simp[Cf]
 |k::ks,h=>by
  have h1:=h k (Acm ..);have h2:=PE fun x hx=>h x (Aco _ hx);simp[Cf] at h2⊢;omega
def Tu:∀(t:List LD) (n:Ax),Cv n t≤t.length
 |[],n=>Acj _
 |y::t,n=>by
  rw[Cv];split
  ·have:=Tu t (GN n y);simp;omega
  ·exact Adf _
def Tw:∀(t:List LD) (ks:List (List UInt8)) (is:List Int),KO (ks++t.map (·.2))→is.length=ks.length+1→(∀k∈is,0≤k∧k≤8191)→(∀x∈t,0≤x.1∧x.1≤8191)→3 - ks.length≤Cv ⟨false,ks,[],is⟩ t∨Cv ⟨false,ks,[],is⟩ t=t.length
 |[],ks,is,_,_,_,_=>.inr Z
 |y::t,ks,is,hk,hl,hi,ht=>by
  by_cases h3:3≤ks.length
  ·exact .inl (by omega)
  have hk2:KO ((ks++[y.2])++t.map (·.2)):=by simpa using hk
  have hko:KO (ks++[y.2]):=KO.sub (List.sublist_append_left _ _) hk2;have hi2:∀k∈is++[y.1],0≤k∧k≤8191:=fun k hkm=>by
   rcases Ach.1 hkm with q|q
   ·exact hi k q
   ·simp at q;subst q;exact ht y (Acm ..)
  have hr:AV ⟨false,ks++[y.2],[],is++[y.1]⟩=true:=by
   simp only[AV,Acb,decide_eq_true_eq];refine⟨BF.2 ⟨hko,by simp;omega,hi2⟩,?_⟩
   rw[size_inner];have:=PE (ks:=ks++[y.2]) (fun k q=>(hko.1 k q).2);simp at this⊢;omega
  rw[Cv,show GN ⟨false,ks,[],is⟩ y=⟨false,ks++[y.2],[],is++[y.1]⟩ from Z,if_pos hr];rcases Tw t (ks++[y.2]) (is++[y.1]) hk2 (by simp;omega) hi2 (fun x hx=>ht x (Aco _ hx)) with q|q
  ·exact .inl (by simp at q;omega)
  ·exact .inr (by simp;omega)
def Ri{x:LD}{t:List LD}(h:IF (x::t))(ht:t≠[]):1≤BP x t∧BP x t≤t.length∧t.length - BP x t≠1:=by
 have h0:0<t.length:=List.length_pos_iff.2 ht;have hle:=Tu t ⟨false,[],[],[x.1]⟩;have hge:=Tw t [] [x.1] (by simpa using (KO.cons.1 (by simpa using h.2)).2.1) Z (fun k hk=>by simp at hk;subst hk;exact h.1 x (Acm ..)) (fun y hy=>h.1 y (Aco _ hy));unfold BP;generalize Cv ⟨false,[],[],[x.1]⟩ t=c0 at hle hge⊢;simp at hge;split<;>omega
def PU:∀(g:Nat) (s:PD) (l out:List LD),Pgr.Good s→l.length≠1→l.length<g→KO (out.map (·.2)++l.map (·.2))→(∀x∈l,0≤x.1∧x.1≤8191)→(∀x∈out,0≤x.1∧x.1≤8191)→(Bz g s l out).2.2=0→
  IF (Bz g s l out).2.1∧2*(Bz g s l out).2.1.length≤2*out.length+l.length∧out.length+(if l=[] then 0 else 1)≤(Bz g s l out).2.1.length
 |0,s,l,out,_,_,hg,_,_,_,_=>absurd hg (Aez _)
 |g+1,s,[],out,_,_,_,hk,_,ho,_=>⟨⟨ho,by simpa [Bz] using hk⟩,by simp[Bz],by simp[Bz]⟩
 |g+1,s,x::t,out,hG,h1,hg,hk,hl,ho,he=>by
  have hrk:IF (x::t):=⟨hl,KO.sub (Adi _ _) hk⟩
  have ht:t≠[]:=fun e=>h1 (by rw[e];rfl);obtain⟨t1,t2,t3⟩:=Ri hrk ht;rw[Bz] at he⊢;split at he
  ·rename_i q;exact absurd he q
  ·rename_i q;rw[if_neg q];have hp:=Ka hG (Decidable.not_not.1 q);have hd:(t.drop (BP x t)).length=t.length - BP x t:=Ads ..;have hg2:t.length+1<g+1:=hg;have:=PU g _ (t.drop (BP x t)) (out++[((A5 s (-1) (CN x t (BP x t))).2.1,x.2)]) (K7 hG) (by omega) (by omega) ?_ (fun y hy=>hl y (Aco _ (Agp hy))) (fun y hy=>?_) he
   ·obtain⟨r1,r2,r3⟩:=this;refine⟨r1,?_,?_⟩
    ·simp at r2⊢;omega
    ·simp at r3⊢;split at r3<;>omega
   ·refine KO.sub ?_ hk;rw[Adl,Ace];refine List.Sublist.append (Acd _) ?_;exact Aey _ ((List.drop_sublist _ _).map _)
   ·rcases Ach.1 hy with hy|hy
    ·exact ho y hy
    ·simp at hy;subst hy;exact hp
def Jr:∀(l:List KV) (s:PD) (n:Ax) (out:List LD),(BI s l n out).2.2=0→out.length+1≤(BI s l n out).2.1.length∧(BI s l n out).2.1.length≤out.length+l.length+1
 |[],s,n,out,he=>by
  rw[BI] at he⊢;split at he
  ·rename_i q;exact absurd he q
  ·rename_i q;rw[if_neg q];simp
 |x::l,s,n,out,he=>by
  rw[BI] at he⊢;split at he
  ·rename_i q;exact absurd he q
  ·rename_i q;rw[if_neg q];split at he
   ·rename_i r;rw[if_pos r];have:=Jr l _ _ _ he;simp;omega
   ·rename_i r;rw[if_neg r];split at he
    ·rename_i w;exact absurd he w
    ·rename_i w;rw[if_neg w];have:=Jr l _ _ _ he;simp at this⊢;omega
end Go.Gk.Tre
end
section
namespace Go.Gk.Tre
open Go Go.Gk Go.Gk.Dev Go.Gk.Cch Go.Gk.Pgr Go.Gk.Chn Go.Gk.Node
attribute [local irreducible] gwp gws xwp
def upN:Nat→PD→List LD→Nat→PD×List LD×Int×Nat
 |0,s,row,h=>(s,row,99999,h)
 |g+1,s,row,h=>if 1<row.length then
   (if (Bz (row.length+1) s row []).2.2=0 then upN g (Bz (row.length+1) s row []).1 (Bz (row.length+1) s row []).2.1 (h+1)
    else((Bz (row.length+1) s row []).1,(Bz (row.length+1) s row []).2.1,(Bz (row.length+1) s row []).2.2,h+1))
  else(s,row,0,h)
def upE(g:Nat)(s:PD)(row:List LD)(e:Int)(h:Nat):PD×List LD×Int×Nat:=if e=0 then upN g s row h else(s,row,e,h)
def Hy(s:PD)(n:Nat)(u:PD×List LD×Int×Nat):Int×TD:=if u.2.2.1≠0 then(u.2.2.1,⟨u.1.back s.mark, -1,0,0⟩) else(0,⟨u.1,(u.2.1.getD 0 (0,[])).1,(u.2.2.2:Nat),(n:Nat)⟩)
def CT(s:PD)(l:List KV):Int×TD:=
 if Cx l≠0 then(Cx l,⟨s, -1,0,0⟩) else if l.length=0 then(0,⟨s, -1,0,0⟩)
 else Hy s l.length (upE ((CG s l).2.1.length+1) (CG s l).1 (CG s l).2.1 (CG s l).2.2 1)
def Lo(P:Program)(f:FuncId):Prop:=∀{d s dv pv w L l},PgT d s dv pv L→RSl 2 RBp d w l→l.length≤900000→
 AB P f [pv,w] d L (Ret fun v d' L'=>Le d d'∧∃L2,PgT d' (CT s l).2.s dv pv L2∧(((CT s l).1=0∧∃bt Tt,v=.tuple #[pZ bt,vZ 0]∧L'=tbD bt Tt pv (CT s l).2::L2)∨((CT s l).1≠0∧v=.tuple #[.pointer none,vZ (CT s l).1]∧L'=L2)))
structure LoS where
 row:List LD
 s:PD
 e:Int
 h:Nat
 ra:Option Addr
 rc:Nat
def Sg(a0 a1 a2 a3 a4 a5 a6:Nat):A3:=⟨65,[(.tmp 4),(.tmp 5)],(sR (o1 4 (.mv (.const (.pointer none)))<|o1 5 (.mv z0) .done) (sR (om 11 0<|oc 12 a0 [11]<|om 6 12 .done) (.seq (sR (om 13 6<|o1 14 (.eqp false 13 (.const (.pointer none))) .done) (.cond 14 (sR (o1 4 (.mv (.const (.pointer none)))<|o1 5 (.mv z1) .done) .ret) .skip)) (.seq (sR (om 15 1<|oc 16 a1 [15]<|om 7 16 .done) (sR (om 17 7<|ob 18 .neq 17 z0 .done) (.cond 18 (sR (om 19 7<|o1 4 (.mv (.const (.pointer none)))<|om 5 19 .done) .ret) .skip))) (.seq (sR (om 20 1<|oL 21 20<|ob 22 .eql 21 z0 .done) (.cond 22 (sR (om 23 0<|oc 24 a2 [23]<|oe 25 24 0<|oe 26 24 1<|om 4 25<|om 5 26 .done) .ret) .skip)) (sR (om 28 0<|om 29 1<|oc 30 a3 [28,29]<|om 27 30<|oe 31 27 0<|oe 32 27 1<|om 8 31<|om 9 32 .done) (sR (o1 10 (.mv z1) .done) (.seq (.block 0 (.loop (.seq (sR (om 33 9<|ob 34 .eql 33 z0<|om 35 34<|gT 36 35 8<|oT 37 35 (.len 36)<|oT 38 35 (.bin .gtr 37 z1)<|gP 39 35 38 .done) (.cond 39 .skip (.exit 0))) (.block 1 (sR (om 41 0<|om 42 8<|oc 43 a4 [41,42]<|om 40 43<|oe 44 40 0<|oe 45 40 1<|om 8 44<|om 9 45 .done) (rG (om 46 10<|ob 47 .add 46 z1<|om 10 47 .done))))))) (.seq (sR (om 48 9<|ob 49 .neq 48 z0 .done) (.cond 49 (sR (om 50 0<|om 51 6<|oc 52 a5 [50,51] .done) (sR (om 53 9<|o1 4 (.mv (.const (.pointer none)))<|om 5 53 .done) .ret)) .skip)) (sR (om 54 0<|om 55 8<|o1 56 (.idx 2 55 z0)<|oj 57 0 56<|ol 58 57<|om 59 10<|om 60 1<|oL 61 60<|oc 62 a6 [54,58,59,61]<|oe 63 62 0<|oe 64 62 1<|om 4 63<|om 5 64 .done) .ret))))))))))⟩
set_option maxRecDepth 4000 in
set_option maxHeartbeats 2000000 in
def Yp{P f f1 f2 f3 f4 f5 f6 f7}(hd:dec P f=some (Sg f1 f2 f3 f4 f5 f6 f7))(h1:HQ P f1)(h2:MJ P f2)(h3:Ny P f3)(h4:J6 P f4)(h5:MX P f5)(h6:Ot P f6)(h7:Lu P f7):Lo P f:=by
 intro d s dv pv w L l hp hw hll;obtain⟨bp,rfl⟩:=hp.ptr;obtain⟨a,c,rfl⟩:=hw.val;have hG:=hp.GL;refine AK hd (Aca Z) ?_;show gwp P _ _ _ _ _;refine Ad<|Ah Z<|Ac Z<|Aa<|Ad<|Ah Z<|Be [] (Abc h1 hp) Z Z (fun r d2 L2 hl2 ⟨e1,_,hm⟩=>?_);subst e1;have hp2:=hp.mono hl2;have hw2:RSl 2 RBp d2 (.slice a l.length c) l:=RSl.mono (R:=RBp) Cl hw hl2;obtain⟨bm,rfl⟩:∃bm,r=pZ bm:=by obtain⟨bm,_,_,_,_,_,q,_⟩:=hm;exact⟨bm,q⟩
 refine Ah Z<|Aa<|Ag<|Ad<|Ah Z<|BZ Z Z<|Aa<|AS Z<|Al<|Ag<|Ad<|Ak Z<|Br Z (h2 hw2) ?_;by_cases hwr:Cx l=0
 ·rw[hwr];by_cases hl0:l.length=0
  ·have hN:CT s l=(0,⟨s, -1,0,0⟩):=by unfold CT;rw[if_neg (fun q=>q hwr),if_pos hl0]
   rw[hN];(refine Ac Z<|Aa<|Ad<|Ac Z<|AW Z Z<|Aa<|Aw Z (by omega)<|Al<|Ag<|Ad<|Ak Z<|AO Z<|AT Z Z<|Aa<|AF Z (by omega)<|Ad<|Ah Z ?_);obtain⟨n2,hpn⟩:=hp2;refine Be [] (h3 hpn) Z Z (fun r d3 L3 hl3 ⟨_,bt,Tt,e3,e4⟩=>?_);subst e3;subst e4;(refine Ap Z Z<|Ap Z Z<|Ah Z<|Ac Z<|Aa<|Ao ?_);exact A9 [pZ bt,vZ 0] ⟨Ar Z,Ar Z,trivial⟩ (d':=d3) (L':=tbD bt Tt (pZ bp) ⟨s, -1,0,0⟩::L2) (Vs.refl _ _) ⟨hl2.trans hl3,L2,(show PgT d2 s dv (pZ bp) L2 from⟨n2,hpn⟩).mono hl3,.inl ⟨Z,bt,Tt,Z,Z⟩⟩
  ·have hN:CT s l=Hy s l.length (upE ((CG s l).2.1.length+1) (CG s l).1 (CG s l).2.1 (CG s l).2.2 1):=by unfold CT;rw[if_neg (fun q=>q hwr),if_neg hl0]
   rw[hN];refine Ac Z<|Aa<|Ad<|Ac Z<|AW Z Z<|Aa<|Aw Z (by omega)<|Al<|Ag<|Ad<|Ak Z<|AO Z<|AT Z Z<|Aa<|Aw Z (by omega)<|Al<|Ad<|Ah Z<|Ak Z<|Be [] (h4 hp2 hw2 hwr (fun q=>hl0 (by rw[q];rfl)) (by omega)) Z Z (fun r d3 L3 hl3 ⟨_,u,e1,hu,hp3⟩=>?_);subst e1;obtain⟨ua,uc,rfl⟩:=hu.val;have hK:Pgr.AG s (CG s l).1:=KE _ _ _ _;have hV:(CG s l).2.2=0→IF (CG s l).2.1∧1≤(CG s l).2.1.length∧(CG s l).2.1.length≤900001:=fun q=>by
    have q1:=Jc l s ⟨true,[],[],[]⟩ [] hG (fun _=>⟨Z,fun q=>hl0 (by rw[q];rfl)⟩) (by simpa using Vt (Kv hwr).1) (fun x hx=>by cases hx) q;have q2:=Jr l s ⟨true,[],[],[]⟩ [] q;refine⟨q1,?_,?_⟩
    ·exact Aeq (by simp) q2.1
    ·have:=q2.2;exact Aeq this (by simp;omega)
   generalize CG s l=V at hu hp3 hK hV⊢;(refine AU Z<|Ap Z Z<|Ap Z Z<|Ak Z<|Ac Z<|Aa<|Ad<|Ac Z<|Aa<|Ag<|Az ?_);generalize hU:upE (V.2.1.length+1) V.1 V.2.1 V.2.2 1=U;refine BM (α:=LoS) (fun x=>[(0,pZ bp),(1,.slice a l.length c),(6,pZ bm),(8,.slice x.ra x.row.length x.rc),(9,vZ x.e),(10,vZ x.h)])
    (fun x d' L'=>Le d3 d'∧PgT d' x.s dv (pZ bp) L'∧RSl 2 RLd d' (.slice x.ra x.row.length x.rc) x.row∧Pgr.AG s x.s∧1≤x.h∧x.h≤900002∧(x.e=0→IF x.row∧1≤x.row.length∧x.row.length+x.h≤900002)∧∃g,U=upE g x.s x.row x.e x.h∧(x.e=0→x.row.length<g))
    (fun x=>if x.e=0 then x.row.length else 0) ⟨V.2.1,V.1,V.2.2,1,ua,uc⟩ ⟨Z,Z,Z,Z,Z,Z,trivial⟩ ⟨Le.refl _,hp3,hu,hK,Acj _,(by show 1≤900002;omega),fun q=>⟨(hV q).1,(hV q).2.1,by have:=(hV q).2.2;show V.2.1.length+1≤900002;omega⟩,_,hU.symm,fun _=>Nat.lt_succ_self _⟩ ?_
   rintro⟨row,s4,e,h,ra,rc⟩ ρ d' L' ⟨hl4,hp4,hr4,hk4,hh1,hh2,hrw,g,hUg,hg⟩;simp only at hp4 hr4 hk4 hh1 hh2 hrw hUg hg⊢;by_cases he:e=0
   ·subst he;obtain⟨q1,q2,q3⟩:=hrw Z;have hg:=hg Z;obtain⟨g,rfl⟩:∃g',g=g'+1:=⟨g - 1,by omega⟩
    by_cases hlen:row.length>1
    ·refine Ag<|Ad<|Ac Z<|AT Z Z<|Af Z<|A4 Z (by omega)<|Ae Z<|Ak Z<|Ae Z<|AO Z<|Ae Z<|Bb Z Z<|Ay Z Z<|Aa<|AF Z (by omega)<|Al<|Az<|Ad<|Ah Z<|Ak Z<|Be [] (h5 hp4 hr4 q1.ok (by omega)) Z Z (fun r d5 L5 hl5 ⟨_,u5,e5,hu5,hp5⟩=>?_);subst e5;obtain⟨xa,xc,rfl⟩:=hu5.val;have hUA:U=upE g (Bz (row.length+1) s4 row []).1 (Bz (row.length+1) s4 row []).2.1 (Bz (row.length+1) s4 row []).2.2 (h+1):=by
      rw[hUg];unfold upE;rw[if_pos Z,upN,if_pos hlen]
     have hKA:Pgr.AG s4 (Bz (row.length+1) s4 row []).1:=Rv _ _ _ _;have hRA:(Bz (row.length+1) s4 row []).2.2=0→IF (Bz (row.length+1) s4 row []).2.1∧1≤(Bz (row.length+1) s4 row []).2.1.length∧2*(Bz (row.length+1) s4 row []).2.1.length≤row.length:=fun q=>by
      obtain⟨r1,r2,r3⟩:=PU (row.length+1) s4 row [] hp4.GL (by omega) (Nat.lt_succ_self _) (by simpa using q1.2) q1.1 (fun x hx=>by cases hx) q;rw[if_neg (fun e=>by rw[e] at hlen;simp at hlen)] at r3;simp at r2 r3;exact⟨r1,by omega,r2⟩
     generalize Bz (row.length+1) s4 row []=A at hu5 hp5 hUA hKA hRA⊢;(refine AU Z<|Ap Z Z<|Ap Z Z<|Ak Z<|Ac Z<|Aa<|AI<|Ac Z<|AY Z Z (by omega) (by omega)<|Ac Z<|Aa ?_);refine⟨⟨A.2.1,A.1,A.2.2,h+1,xa,xc⟩,?_,⟨Z,Z,Z,Z,Z,Z,trivial⟩,hl4.trans hl5,hp5,hu5,hk4.trans hKA,(by show 1≤h+1;omega),(by show h+1≤900002;omega),fun q=>?_,g,hUA,fun q=>?_⟩
     ·show(if A.2.2=0 then A.2.1.length else 0)<(if (0:Int)=0 then row.length else 0);rw[if_pos (Z:(0:Int)=0)];split
      ·rename_i q;have:=(hRA q).2.2;omega
      ·omega
     ·have:=hRA q;exact⟨this.1,this.2.1,by show A.2.1.length+(h+1)≤900002;omega⟩
     ·have:=(hRA q).2.2;show A.2.1.length<g;omega
    ·have hUU:U=(s4,row,0,h):=by rw[hUg];unfold upE;rw[if_pos Z,upN,if_neg hlen]
     have hL1:Hy s l.length U=(0,⟨s4,row[0].1,(h:Nat),(l.length:Nat)⟩):=by
      rw[hUU];unfold Hy;rw[if_neg (show¬(0:Int)≠0 by decide)];simp only[Acg,Acf (show 0<row.length by omega),Aem]
     rw[hL1];have hr0:=q1.1 _ (Acz (show 0<row.length by omega));clear hL1 hUU;refine Ag<|Ad<|Ac Z<|AT Z Z<|Af Z<|A4 Z (by omega)<|Ae Z<|Ak Z<|Ae Z<|AO Z<|Ae Z<|Bb Z Z<|Ay Z Z<|Aa<|Aw Z (by omega)<|Ba<|Ag<|Ad<|Ac Z<|AW Z Z<|Aa<|Aw Z (by omega)<|Al<|Ad<|Ah Z<|Ak Z<|A0 (m:=0) Z hr4 Z Z (by omega) (fun b o cs hcl hdc ⟨u0,q0,hu0⟩=>?_);subst q0;obtain⟨n4,hpn⟩:=hp4;refine Aj Z<|Ai Z (Bf (by assumption) Z)<|Ac Z<|Ak Z<|AO Z<|Be [] (h7 (root:=row[0].1) (height:=(h:Nat)) (count:=(l.length:Nat)) hpn (by omega) (by omega) (by omega) (by omega) (by omega) (by omega)) Z Z (fun r d5 L5 hl5 ⟨_,hR⟩=>?_);have hob:CB row[0].1 (h:Nat) (l.length:Nat)=true:=by
      simp only[CB,Adu,Acb,decide_eq_true_eq];omega
     rcases hR with ⟨_,bt,Tt,rfl,rfl⟩|⟨q,_⟩
     ·(refine Ap Z Z<|Ap Z Z<|Ah Z<|Ac Z<|Aa<|Ao ?_);exact A9 [pZ bt,vZ 0] ⟨Ar Z,Ar Z,trivial⟩ (d':=d5) (L':=tbD bt Tt (pZ bp) ⟨s4,row[0].1,(h:Nat),(l.length:Nat)⟩::L') (Vs.refl _ _) ⟨((hl2.trans hl3).trans hl4).trans hl5,L',(show PgT d' s4 dv (pZ bp) L' from⟨n4,hpn⟩).mono hl5,.inl ⟨Z,bt,Tt,Z,Z⟩⟩
     ·rw[hob] at q;cases q
   ·have hUU:U=(s4,row,e,h):=by rw[hUg];unfold upE;rw[if_neg he]
    have hL1:Hy s l.length U=(e,⟨s4.back s.mark, -1,0,0⟩):=by
     rw[hUU];unfold Hy;rw[if_pos he]
    rw[hL1];clear hL1 hUU;refine Ag<|Ad<|Ac Z<|AT Z Z<|Af Z<|A1 Z (by omega)<|Am Z<|Am Z<|Am Z<|Av Z Z<|Aa<|AS Z<|Ba<|Ag<|Ad<|Ac Z<|AW Z Z<|Aa<|AF Z (by omega)<|Ad<|Ah Z<|Ah Z<|Be [] (Aby h6 hp4 hG hk4 (hm.mono (hl3.trans hl4))) Z Z (fun r d5 L5 hl5 ⟨_,e5,hp5⟩=>?_);subst e5;(refine Aa<|Ad<|Ac Z<|Ah Z<|Ac Z<|Aa<|Ao ?_);exact A9 [.pointer none,vZ e] ⟨Ar Z,Ar Z,trivial⟩ (d':=d5) (L':=L5) (Vs.refl _ _) ⟨((hl2.trans hl3).trans hl4).trans hl5,L5,hp5.mono hl5,.inr ⟨he,Z,Z⟩⟩
 ·have hN:CT s l=(Cx l,⟨s, -1,0,0⟩):=by unfold CT;rw[if_pos hwr]
  rw[hN];(refine Ac Z<|Aa<|Ad<|Ac Z<|AW Z Z<|Aa<|AF Z (by omega)<|Ad<|Ac Z<|Ah Z<|Ac Z<|Aa<|Ao ?_);exact A9 [.pointer none,vZ (Cx l)] ⟨Ar Z,Ar Z,trivial⟩ (d':=d2) (L':=L2) (Vs.refl _ _) ⟨hl2,L2,hp2,.inr ⟨hwr,Z,Z⟩⟩
end Go.Gk.Tre
end
section
namespace Go.Gk.Tre
open Go Go.Gk Go.Gk.Dev Go.Gk.Cch Go.Gk.Pgr Go.Gk.Chn Go.Gk.Node
section
def Fo(s:PD)(h:Nat):List LD→List KV→List Int→Prop
 |[],l,P=>l=[]∧P=[]
 |x::r,l,P=>∃v l1 l2 P1 P2,l=((x.2,v)::l1)++l2∧P=P1++P2∧Tr s h x.1 ((x.2,v)::l1) P1∧Fo s h r l2 P2
section
variable {s t:PD}{h:Nat}
def Fo.app:∀{r r':List LD}{l l'}{P P':List Int},Fo s h r l P→Fo s h r' l' P'→Fo s h (r++r') (l++l') (P++P')
 |[],r',l,l',P,P',⟨e1,e2⟩,h'=>by subst e1;subst e2;exact h'
 |x::r,r',l,l',P,P',⟨v,l1,l2,P1,P2,e1,e2,h1,h2⟩,h'=>by
  subst e1;subst e2;exact⟨v,l1,l2++l',P1,P2++P',by simp,by simp,h1,h2.app h'⟩
def Fo.split:∀{r r':List LD}{l}{P:List Int},Fo s h (r++r') l P→∃l1 l2 P1 P2,l=l1++l2∧P=P1++P2∧Fo s h r l1 P1∧Fo s h r' l2 P2
 |[],r',l,P,hh=>⟨[],l,[],P,Z,Z,⟨Z,Z⟩,hh⟩
 |x::r,r',l,P,⟨v,l1,l2,P1,P2,e1,e2,h1,h2⟩=>by
  subst e1;subst e2;obtain⟨a,b,A,B,rfl,rfl,q1,q2⟩:=h2.split;exact⟨((x.2,v)::l1)++a,b,P1++A,B,by simp,by simp,⟨v,l1,a,P1,A,Z,Z,h1,q1⟩,q2⟩
def Fo.stay:∀{r:List LD}{l}{P:List Int},Fo s h r l P→Ei s t P→Fo t h r l P
 |[],l,P,hh,_=>hh
 |x::r,l,P,⟨v,l1,l2,P1,P2,e1,e2,h1,h2⟩,hs=>by
  subst e1;subst e2;exact⟨v,l1,l2,P1,P2,Z,Z,h1.stay (fun p hp=>hs p (Ada _ hp)),h2.stay (fun p hp=>hs p (Acy _ hp))⟩
def Fo.live:∀{r:List LD}{l}{P:List Int},Fo s h r l P→∀p∈P,A6 s p
 |[],l,P,⟨_,e⟩=>by subst e;exact fun p hp=>by cases hp
 |x::r,l,P,⟨v,l1,l2,P1,P2,e1,e2,h1,h2⟩=>by
  subst e2;exact fun p hp=>(Ach.1 hp).elim (h1.live p) (h2.live p)
def Fo.Qh(hG:Pgr.Good s):∀{r:List LD}{l}{P:List Int},Fo s h r l P→∀x∈r,0≤x.1∧x.1≤8191
 |[],l,P,_=>fun x hx=>by cases hx
 |x::r,l,P,⟨v,l1,l2,P1,P2,e1,e2,h1,h2⟩=>by
  intro y hy;rcases Acw.1 hy with rfl|hy
  ·cases h with
   |zero=>exact h1.elim
   |succ h=>
    obtain⟨n,Q,hat,_⟩:=h1
    exact DD hG hat.liv
  ·exact h2.Qh hG y hy
def Fo.Wx:∀{r:List LD}{l}{P:List Int},Fo s h r l P→(r.map (·.2)).Sublist (l.map Prod.fst)
 |[],l,P,⟨e,_⟩=>by subst e;exact Acd _
 |x::r,l,P,⟨v,l1,l2,P1,P2,e1,e2,h1,h2⟩=>by
  subst e1;rw[Aet,Adv,Aet,Adl];exact Aey _ (h2.Wx.trans (Adi _ _))
def Fo.row(hG:Pgr.Good s){r:List LD}{l}{P:List Int}(hh:Fo s h r l P)(hk:KO (l.map Prod.fst)):IF r:=⟨hh.Qh hG,KO.sub hh.Wx hk⟩
def Fo.kids:∀{x:LD}{r:List LD}{l}{P:List Int},Fo s h (x::r) l P→KO (l.map Prod.fst)→Kd (Tr s h) (r.map (·.2)) (x.1::r.map (·.1)) l P
 |x,[],l,P,⟨v,l1,l2,P1,P2,e1,e2,h1,q1,q2⟩,_=>by
  subst e1;subst e2;subst q1;subst q2;exact Kd.one.2 (by simpa using h1)
 |x,y::r,l,P,⟨v,l1,l2,P1,P2,e1,e2,h1,h2⟩,hk=>by
  subst e1;subst e2;rw[Adl] at hk;obtain⟨k1,k2,k3⟩:=KO.app.1 hk;have ih:=h2.kids k2;obtain⟨w,m1,m2,Q1,Q2,rfl,rfl,_,_⟩:=h2;refine Kd.cons.2 ⟨_,_,P1,_,Z,Z,h1,fun z hz=>k3 z.1 (Aea hz) y.2 (by simp),fun z hz=>?_,ih⟩;rw[Adv] at hz;rcases Acw.1 hz with rfl|hz
  ·exact H8
  ·rw[Adv,Aet,KO.cons] at k2;exact Jn (k2.2.2 z.1 (Aea hz))
end
def czV(x:KV):Nat:=2+x.1.length+(if x.2.length≤15 then 1+x.2.length else 7)
def czL(l:List KV):Nat:=(l.map czV).sum
def TE(a b:List KV):czL (a++b)=czL a+czL b:=by simp[czL]
def cpV(x:KV):Nat:=if 15<x.2.length then AM x.2.length else 0
def Rj(x:KV)(l:List KV):cpL (x::l)=cpV x+cpL l:=by simp[cpL,cpV]
def Xh{s}(hG:Pgr.Good s){x:KV}(hv:x.2.length≤16384):
  ((Bs s x.2).2.2=0∧∃P,Mv s (Bs s x.2).1 [] P (cpV x)∧P.length=cpV x∧Ce (Bs s x.2).1 (Bs s x.2).2.1 x.2 P)∨((Bs s x.2).2.2=190∧s.free<cpV x):=by
 by_cases h:x.2.length≤15
 ·have e:cpV x=0:=if_neg (by omega)
  unfold Bs
  rw[if_pos h,e]
  exact .inl ⟨Z,[],Mv.refl hG,Z,.inl ⟨h,Z,Z⟩⟩
 ·have e:cpV x=AM x.2.length:=if_pos (by omega)
  rw[e]
  rcases TC hG hv with ⟨h1,P,h2,h3⟩|h1
  ·refine .inl ⟨h1,P,h2,?_,h3⟩
   rcases h3 with ⟨q,_⟩|⟨_,_,q,_⟩
   ·exact absurd q h
   ·exact q.len
  ·exact .inr h1
def Ce.cz{s c v k}{P:List Int}(h:Ce s c v P):2+k.length+c.length=czV (k,v):=by
 unfold czV;rcases h with ⟨h1,rfl,_⟩|⟨h1,_,_,rfl⟩
 ·simp only;rw[if_pos h1,Acx];omega
 ·simp only;rw[if_neg (by omega)];rfl
def Lf.cz{s}:∀{ks vs l}{P:List Int},Lf s ks vs l P→2*ks.length+Cf ks+Cf vs=czL l
 |[],[],l,P,h=>by rw[Lf] at h;rw[h.1];rfl
 |[],_::_,l,P,h=>by rw[Lf] at h<;>simp_all
 |_::_,[],l,P,h=>by rw[Lf] at h<;>simp_all
 |k::ks,c::cs,l,P,h=>by
  rw[Lf] at h;obtain⟨v,l',P1,P2,rfl,rfl,h1,h2⟩:=h;have e1:=h1.cz (k:=k);have e2:=h2.cz;have e3:czL ((k,v)::l')=czV (k,v)+czL l':=by simp[czL]
  simp only[Acx,Cf];omega
def Lf.leaf{s ks vs l}{P:List Int}(h:Lf s ks vs l P)(hk:KO (l.map Prod.fst))(hc:∀v∈vs,v.length≤16):AV ⟨true,ks,vs,[]⟩=true↔2+czL l≤256:=by
 have e:=h.cz;have hs:AX ⟨true,ks,vs,[]⟩=true:=B6.2 ⟨by rw[h.keys];exact hk,h.len.1,hc⟩;simp only[AV,hs,Bool.true_and,decide_eq_true_eq];rw[size_leaf h.len.1];omega
def Lf.cells{s}:∀{ks vs l}{P:List Int},Lf s ks vs l P→∀v∈vs,v.length≤16
 |[],[],l,P,h=>fun v hv=>by cases hv
 |[],_::_,l,P,h=>by rw[Lf] at h<;>simp_all
 |_::_,[],l,P,h=>by rw[Lf] at h<;>simp_all
 |k::ks,c::cs,l,P,h=>by
  rw[Lf] at h;obtain⟨v,l',P1,P2,rfl,rfl,h1,h2⟩:=h;intro w hw;rcases Acw.1 hw with rfl|hw
  ·exact h1.len
  ·exact h2.cells w hw
section
variable {s:PD}{h:Nat}{out:List LD}{lo ln:List KV}{Po Pn:List Int}
def QZ{n:Ax}{k v}(hG:Pgr.Good s)(ho:Fo s (h+1) out lo Po)(hr:AV n=true)(hne:n.keys≠[])(hn:Nd s (Tr s h) (decide (h=0)) n ((k,v)::ln) Pn)(hd:(Po++Pn).Nodup):
  ((A5 s (-1) n).2.2=0∧Mv s (A5 s (-1) n).1 (Po++Pn) (Po++((A5 s (-1) n).2.1::Pn)) 1∧Fo (A5 s (-1) n).1 (h+1) (out++[((A5 s (-1) n).2.1,k)]) (lo++((k,v)::ln)) (Po++((A5 s (-1) n).2.1::Pn)))∨((A5 s (-1) n).2.2=190∧s.free<1):=by
 rcases Ld hG hr with ⟨h1,h2,h3⟩|h1
 ·have hl:∀p∈Po++Pn,A6 s p:=fun p hp=>(Ach.1 hp).elim (ho.live p) (hn.live p)
  have hm:=(h2.frame hl hd (fun p _ q=>by cases q)).perm (A':=Po++Pn) (B':=Po++((A5 s (-1) n).2.1::Pn)) (Adz _) (by
   rw[List.singleton_append];exact Agg)
  have hs:Ei s (A5 s (-1) n).1 (Po++Pn):=h2.same hl (fun p _ q=>by cases q)
  refine .inl ⟨h1,hm,(ho.stay (fun p hp=>hs p (Ada _ hp))).app ?_⟩
  exact⟨v,ln,[],_,[],by simp,by simp,⟨n,Pn,h3,hne,Z,hn.stay (fun p hp=>hs p (Acy _ hp))⟩,Z,Z⟩
 ·exact .inr h1
def J2:∀(l:List KV) {s ks vs}{out:List LD}{lo ln}{Po Pn:List Int},Pgr.Good s→Fo s 1 out lo Po→Lf s ks vs ln Pn→2+czL ln≤256→(ln=[]→l≠[])→(Po++Pn).Nodup→KO ((lo++(ln++l)).map Prod.fst)→(∀x∈l,x.2.length≤16384)→
  ((BI s l ⟨true,ks,vs,[]⟩ out).2.2=0∧∃P' j,Mv s (BI s l ⟨true,ks,vs,[]⟩ out).1 (Po++Pn) P' (cpL l+j)∧Fo (BI s l ⟨true,ks,vs,[]⟩ out).1 1 (BI s l ⟨true,ks,vs,[]⟩ out).2.1 (lo++(ln++l)) P'∧
   P'.length=Po.length+Pn.length+cpL l+j∧(BI s l ⟨true,ks,vs,[]⟩ out).2.1.length=out.length+j∧1≤j∧j≤1+(czL ln+czL l) / 172)∨
  ((BI s l ⟨true,ks,vs,[]⟩ out).2.2=190∧s.free<cpL l+(1+(czL ln+czL l) / 172))
 |[],s,ks,vs,out,lo,ln,Po,Pn,hG,ho,hf,hz,hne,hd,hk,hv=>by
  rw[Adm] at hk⊢;obtain⟨k1,k2,k3⟩:=KO.app.1 (show KO (lo.map Prod.fst++ln.map Prod.fst) by rw[←Adl];exact hk);obtain⟨⟨k,v⟩,ln',rfl⟩:=Aed (fun e:ln=[]=>hne e Z);have hkk:=hf.keys;rw[Aet] at hkk;rcases QZ (h:=0) (n:=⟨true,ks,vs,[]⟩) hG ho ((hf.leaf k2 hf.cells).2 hz) (by rw[hkk];simp) (.mkl Z hf) hd with ⟨h1,h2,h3⟩|⟨h1,h2⟩
  ·rw[BI,if_neg (fun q=>q h1)];have e:(⟨true,ks,vs,[]⟩:Ax).keys.getD 0 []=k:=by rw[hkk];rfl
   rw[e];exact .inl ⟨Z,_,1,by simpa [cpL] using h2,h3,by simp[cpL];omega,by simp,Acj _,by omega⟩
  ·rw[BI,if_pos (by rw[h1];decide)];exact .inr ⟨h1,by simp[cpL];omega⟩
 |x::l,s,ks,vs,out,lo,ln,Po,Pn,hG,ho,hf,hz,hne,hd,hk,hv=>by
  have hx:=hv x (Acm ..);have hk0:=hk;rw[Adl,Adl,Aet] at hk;obtain⟨k1,k2,k3⟩:=KO.app.1 hk;obtain⟨k4,k5,k6⟩:=KO.app.1 k2;obtain⟨k7,k8,k9⟩:=KO.cons.1 k5;have ecz:czL (x::l)=czV x+czL l:=by simp[czL]
  have hcz:czV x≤82:=by unfold czV;split<;>omega
  rw[BI,Rj,ecz];rcases Xh hG hx with ⟨c1,Pc,c2,c3,c4⟩|⟨c1,c2⟩
  rotate_left
  ·rw[if_pos (by rw[c1];decide)];exact .inr ⟨c1,by omega⟩
  rw[if_neg (fun q=>q c1)];generalize Bs s x.2=c at c1 c2 c4⊢;have hl:∀p∈Po++Pn,A6 s p:=fun p hp=>(Ach.1 hp).elim (ho.live p) (hf.live p);have hs:Ei s c.1 (Po++Pn):=c2.same hl (fun p _ q=>by cases q);have hm:=(c2.frame hl hd (fun p _ q=>by cases q))
  have ho1:=ho.stay (fun p hp=>hs p (Ada _ hp));have hf1:=hf.stay (fun p hp=>hs p (Acy _ hp));rw[Adr] at hm;have hone:Lf c.1 [x.1] [c.2.1] [x] Pc:=Lf.one c4;have hfr:=c2.fr;have hjoin:=hf1.join hone;have hko:KO ((ln++[x]).map Prod.fst):=by rw[Adl];exact KO.app.2 ⟨k4,KO.cons.2 ⟨k7,KO.nil,fun y hy=>by cases hy⟩,fun a ha b hb=>k6 a ha b (by simp at hb;subst hb;exact Acm ..)⟩
  have hzz:czL (ln++[x])=czL ln+czV x:=by rw[TE];simp[czL]
  have hrb:=hjoin.leaf hko hjoin.cells;rw[hzz] at hrb;have hadd:Hi ⟨true,ks,vs,[]⟩ x.1 c.2.1=⟨true,ks++[x.1],vs++[c.2.1],[]⟩:=Z;rw[hadd];by_cases hfit:2+(czL ln+czV x)≤256
  ·rw[if_pos (hrb.2 hfit)];have hm1:=hm.perm (A':=Po++Pn) (B':=Po++(Pn++Pc)) (Adz _) (by rw[←Ace];exact Acn);have hk':KO ((lo++(ln++[x]++l)).map Prod.fst):=by simpa using hk0
   rcases J2 l (out:=out) c2.gd ho1 hjoin (by rw[hzz];omega) (fun q=>by simp at q) hm1.nd hk' (fun y hy=>hv y (Aco _ hy)) with ⟨h1,P',j,h2,h3,h4,h5,h6,h7⟩|⟨h1,h2⟩
   ·refine .inl ⟨h1,P',j,(hm1.trans h2).mono (by omega),by simpa using h3,by rw[h4,Aci];omega,h5,h6,by rw[hzz] at h7;omega⟩
   ·refine .inr ⟨h1,?_⟩;rw[hzz] at h2;omega
  ·rw[if_neg (fun q=>hfit (hrb.1 q))];have hne2:ln≠[]:=fun e=>by subst e;simp[czL] at hfit;omega
   obtain⟨⟨k,v⟩,ln',rfl⟩:=Aed hne2;have hkk:=hf.keys;rw[Aet] at hkk;obtain⟨d1,d2,d3⟩:=Ael.1 hd;have hm2:=hm.perm (A':=Po++Pn) (B':=Pc++(Po++Pn)) (Adz _) (Adz _);have hnd2:(Po++Pn).Nodup:=hd;rcases QZ (h:=0) (n:=⟨true,ks,vs,[]⟩) c2.gd ho1 ((hf1.leaf k4 hf1.cells).2 hz) (by rw[hkk];simp) (.mkl Z hf1) hd with ⟨h1,h2,h3⟩|⟨h1,h2⟩
   rotate_left
   ·rw[if_pos (by rw[h1];decide)];refine .inr ⟨h1,?_⟩;have:172≤czL ((k,v)::ln'):=by omega
    omega
   rw[if_neg (fun q=>q h1)];have e:(⟨true,ks,vs,[]⟩:Ax).keys.getD 0 []=k:=by rw[hkk];rfl
   rw[e];generalize A5 c.1 (-1) ⟨true,ks,vs,[]⟩=u at h1 h2 h3⊢;have hlc:∀p∈Pc,A6 c.1 p:=c4.live;have hdc:∀p∈Pc,p∉Po++Pn:=fun p hp q=>by
    have hx:=(Ael.1 hm.nd).2.2;exact hx p hp p q Z
   have hsc:Ei c.1 u.1 Pc:=h2.same hlc hdc;have hm3:=h2.frame hlc c2.nd hdc;have hmm:Mv s u.1 (Po++Pn) (Po++(u.2.1::Pn)++Pc) (cpV x+1):=hm.trans (hm3.perm (A':=Pc++(Po++Pn)) Acn (Adz _));have hk':KO ((lo++((k,v)::ln')++([x]++l)).map Prod.fst):=by simpa using hk0
   have hone2:Lf u.1 [x.1] [c.2.1] [x] Pc:=hone.stay hsc;have hxz:czL [x]=czV x:=by simp[czL]
   rcases J2 l (out:=out++[(u.2.1,k)]) h2.gd h3 hone2 (by rw[hxz];omega) (fun q=>by cases q) hmm.nd hk' (fun y hy=>hv y (Aco _ hy)) with ⟨g1,P',j,g2,g3,g4,g5,g6,g7⟩|⟨g1,g2⟩
   ·refine .inl ⟨g1,P',j+1,(hmm.trans g2).mono (by omega),by simpa using g3,?_,by rw[g5];simp;omega,by omega,?_⟩
    ·rw[g4];simp;omega
    ·rw[hxz] at g7;have:172≤czL ((k,v)::ln'):=by omega
     omega
   ·refine .inr ⟨g1,?_⟩;have:=hmm.fr;rw[hxz] at g2;have:172≤czL ((k,v)::ln'):=by omega
    omega
end
end
def NR:∀(t:List LD) (n:Ax) (j:Nat),1≤j→j≤Cv n t→n.leaf=false→n.vals=[]→AV ⟨false,n.keys++(t.take j).map (·.2),[],n.kids++(t.take j).map (·.1)⟩=true
 |[],n,j,h1,h2,_,_=>by rw[Cv] at h2;omega
 |y::t,n,j,h1,h2,hl,hv=>by
  rw[Cv] at h2;split at h2
  ·rename_i hr;obtain⟨j,rfl⟩:∃i,j=i+1:=⟨j - 1,by omega⟩
   by_cases e:j=0
   ·subst e;simpa [GN] using hr
   ·have:=NR t (GN n y) j (by omega) (by omega) Z Z;simpa [GN] using this
  ·omega
def SH{x:LD}{t:List LD}(h:1≤BP x t):AV (CN x t (BP x t))=true:=by
 have hle:BP x t≤Cv ⟨false,[],[],[x.1]⟩ t:=by unfold BP;split<;>omega
 have:=NR t ⟨false,[],[],[x.1]⟩ (BP x t) h hle Z Z;simpa [CN] using this
def RW{h:Nat}:∀(g:Nat) {s}{l out:List LD}{lo lr}{Po Pr:List Int},Pgr.Good s→Fo s (h+1) l lr Pr→Fo s (h+2) out lo Po→l.length≠1→l.length<g→KO ((lo++lr).map Prod.fst)→(Po++Pr).Nodup→
  ((Bz g s l out).2.2=0∧∃P' j,Mv s (Bz g s l out).1 (Po++Pr) P' j∧Fo (Bz g s l out).1 (h+2) (Bz g s l out).2.1 (lo++lr) P'∧P'.length=Po.length+Pr.length+j∧(Bz g s l out).2.1.length=out.length+j∧j≤l.length / 2∧(l≠[]→1≤j))∨
  ((Bz g s l out).2.2=190∧s.free<l.length / 2)
 |0,s,l,out,lo,lr,Po,Pr,_,_,_,_,hg,_,_=>absurd hg (Aez _)
 |g+1,s,[],out,lo,lr,Po,Pr,hG,hr,ho,_,_,_,hd=>by
  obtain⟨rfl,rfl⟩:=hr;rw[Bz,Adm,Adm];refine .inl ⟨Z,Po,0,?_,ho,by simp,by simp,Adf _,fun q=>absurd Z q⟩;exact Mv.id hG ho.live (by simpa using hd)
 |g+1,s,x::t,out,lo,lr,Po,Pr,hG,hr,ho,h1,hg,hk,hd=>by
  have hk2:KO (lr.map Prod.fst):=by rw[Adl] at hk;exact(KO.app.1 hk).2.1
  have hrk:=hr.row hG hk2;have ht:t≠[]:=fun e=>h1 (by rw[e];rfl);obtain⟨t1,t2,t3⟩:=Ri hrk ht;have hrb:=SH t1;have hsp:x::t=(x::t.take (BP x t))++t.drop (BP x t):=by rw[Adv,List.take_append_drop]
  rw[Bz];generalize BP x t=c at*;rw[hsp] at hr;obtain⟨l1,l2,P1,P2,rfl,rfl,f1,f2⟩:=hr.split;have hk3:KO (l1.map Prod.fst):=by rw[Adl] at hk2;exact(KO.app.1 hk2).1
  have hkd:=f1.kids hk3;have hf10:=f1;obtain⟨v,m1,m2,Q1,Q2,e1,e2,_,_⟩:=f1;rw[Adv] at e1;have hd1:(Po++P1).Nodup:=by rw[←Ace] at hd;exact(Ael.1 hd).1
  have hne:(CN x t c).keys≠[]:=by
   have:0<(t.take c).length:=by rw[Acs];omega
   intro q;have:(t.take c).length=0:=by rw[←Adq (f:=fun(y:LD)=>y.2)];show(CN x t c).keys.length=0;rw[q];rfl
   omega
  have hnd:Nd s (Tr s (h+1)) (decide (h+1=0)) (CN x t c) ((x.2,v)::(m1++m2)) P1:=by
   rw[decide_eq_false (Aef _),←e1];exact .mki Z hkd
  have hlen:(x::t).length / 2=(t.length+1) / 2:=Z;have hdl:(t.drop c).length=t.length - c:=Ads ..;rcases QZ (h:=h+1) hG ho hrb hne hnd hd1 with ⟨p1,p2,p3⟩|⟨p1,p2⟩
  rotate_left
  ·rw[if_pos (by rw[p1];decide)];exact .inr ⟨p1,by rw[hlen];omega⟩
  rw[if_neg (fun q=>q p1)];generalize A5 s (-1) (CN x t c)=u at p1 p2 p3⊢;have hl2:∀p∈P2,A6 s p:=f2.live;have hd3:∀p∈P2,p∉Po++P1:=by
   rw[←Ace] at hd;exact fun p hp q=>(Ael.1 hd).2.2 p q p hp Z
  have hn2:P2.Nodup:=by rw[←Ace] at hd;exact(Ael.1 hd).2.1
  have hs2:Ei s u.1 P2:=p2.same hl2 hd3;have hm:=p2.frame hl2 hn2 hd3;rw[←e1] at p3;have hm2:Mv s u.1 (Po++(P1++P2)) (Po++(u.2.1::P1)++P2) 1:=hm.perm (by rw[Ace]) (Adz _);have hk':KO ((lo++l1++l2).map Prod.fst):=by rw[Ace];exact hk
  rcases RW g p2.gd (f2.stay hs2) p3 (by omega) (by rw[hdl];simp at hg;omega) hk' hm2.nd with ⟨g1,P',j,g2,g3,g4,g5,g6,g7⟩|⟨g1,g2⟩
  ·refine .inl ⟨g1,P',j+1,(hm2.trans g2).mono (by omega),by rw[←Ace];exact g3,?_,by rw[g5];simp;omega,by rw[hlen];omega,fun _=>by omega⟩;rw[g4];simp;omega
  ·refine .inr ⟨g1,?_⟩;have:=hm2.fr;rw[hlen];omega
def YE:∀(g:Nat) {h:Nat}{s}{row:List LD}{l}{P:List Int},Pgr.Good s→Fo s (h+1) row l P→1≤row.length→row.length≤g→KO (l.map Prod.fst)→P.Nodup→
  ((upN g s row (h+1)).2.2.1=0∧∃P' j x h',(upN g s row (h+1)).2.1=[x]∧(upN g s row (h+1)).2.2.2=h'+1∧Mv s (upN g s row (h+1)).1 P P' j∧Tr (upN g s row (h+1)).1 (h'+1) x.1 l P'∧P'.length=P.length+j∧j≤row.length - 1)∨
  ((upN g s row (h+1)).2.2.1=190∧s.free<row.length - 1)
 |0,h,s,row,l,P,_,_,h1,hg,_,_=>absurd hg (by omega)
 |g+1,h,s,row,l,P,hG,hr,h1,hg,hk,hd=>by
  rw[upN];by_cases e:1<row.length
  ·rw[if_pos e];rcases RW (h:=h) (row.length+1) (out:=[]) (lo:=[]) (Po:=[]) hG hr ⟨Z,Z⟩ (by omega) (by omega) (by simpa using hk) (by simpa using hd) with ⟨a1,P1,j,a2,a3,a4,a5,a6,a7⟩|⟨a1,a2⟩
   ·rw[if_pos a1];rw[Adr] at a2 a3;rw[Aei,Aee] at a4 a5;have hj:1≤j:=a7 (fun q=>by rw[q] at e;simp at e);rcases YE g a2.gd a3 (by omega) (by omega) hk a2.nd with ⟨b1,P2,i,x,h',b2,b3,b4,b5,b6,b7⟩|⟨b1,b2⟩
    ·exact .inl ⟨b1,P2,j+i,x,h',b2,b3,a2.trans b4,b5,by omega,by omega⟩
    ·have:=a2.fr;exact .inr ⟨b1,by omega⟩
   ·rw[if_neg (by rw[a1];decide)];exact .inr ⟨a1,by omega⟩
  ·rw[if_neg e];obtain⟨x,rfl⟩:∃x,row=[x]:=by
    cases row with
    |nil=>simp at h1
    |cons x r=>
     cases r with
     |nil=>exact⟨x,Z⟩
     |cons=>simp at e
   obtain⟨v,l1,l2,P1,P2,e1,e2,q1,rfl,rfl⟩:=hr;rw[Adm] at e1 e2;subst e1;subst e2;exact .inl ⟨Z,_,0,x,h,Z,Z,Mv.id hG q1.live hd,q1,by omega,Adf _⟩
def I7(l:List KV):Nat:=2+czL l / 64+cpL l
def TH{s l}(hG:Pgr.Good s)(hw:Cx l=0):
  ((CT s l).1=0∧∃P,Tok (CT s l).2 l P∧Mv s (CT s l).2.s [] P (I7 l)∧P.length≤I7 l)∨((CT s l).1=190∧(CT s l).2.s.free=s.free∧s.free<I7 l):=by
 obtain⟨hrow,hval⟩:=Kv hw
 have hko:=Vt hrow
 unfold CT
 rw[if_neg (fun q=>q hw)]
 by_cases h0:l.length=0
 ·have e:l=[]:=Acl h0
  subst e
  rw[if_pos h0]
  exact .inl ⟨Z,[],⟨hG,Agd,Z,.inl ⟨Z,Z,Z,Z⟩⟩,(Mv.refl hG).mono (Adf _),Adf _⟩
 rw[if_neg h0]
 have hm:2*(1+czL l / 172)≤3+czL l / 64:=by omega
 unfold I7 upE CG
 rcases J2 l (s:=s) (ks:=[]) (vs:=[]) (out:=[]) (lo:=[]) (ln:=[]) (Po:=[]) (Pn:=[]) hG ⟨Z,Z⟩ ⟨Z,Z⟩ (by simp[czL]) (fun _ e=>h0 (by rw[e];rfl)) Agd (by simpa using hko) hval with ⟨a1,P1,j,a2,a3,a4,a5,a6,a7⟩|⟨a1,a2⟩
 ·simp only[Adr,Aei,Aee,czL,List.map_nil,List.sum_nil] at a2 a3 a4 a5 a7
  rw[if_pos a1]
  generalize BI s l ⟨true,[],[],[]⟩ []=u at*
  rcases YE (u.2.1.length+1) a2.gd a3 (by omega) (by omega) hko a2.nd with ⟨b1,P2,i,x,h',b2,b3,b4,b5,b6,b7⟩|⟨b1,b2⟩
  ·unfold Hy
   rw[if_neg (fun q=>q b1)]
   rw[b2,b3]
   refine .inl ⟨Z,P2,⟨b4.gd,b4.nd,Z,.inr ⟨h',Z,b5⟩⟩,(a2.trans b4).mono ?_,?_⟩
   ·unfold czL at hm⊢;omega
   ·unfold czL at hm⊢;omega
  ·unfold Hy
   rw[if_pos (by rw[b1];decide),b1]
   have:=a2.fr
   refine .inr ⟨Z,Z,?_⟩
   unfold czL at hm⊢;omega
 ·rw[if_neg (by rw[a1];decide)]
  unfold Hy
  dsimp only
  rw[if_pos (by rw[a1];decide),a1]
  refine .inr ⟨Z,Z,?_⟩
  simp only[czL,List.map_nil,List.sum_nil,Aee] at a2
  unfold czL at hm⊢;omega
end Go.Gk.Tre
end
section
namespace Go.Gk.Tre
open Go Go.Gk Go.Gk.Dev Go.Gk.Cch Go.Gk.Pgr Go.Gk.Chn Go.Gk.Node
attribute [local irreducible] gwp gws xwp
variable{d:Ab}{P:Program}{f:FuncId}
section
section
variable {P:Program}{pan:List PanicEntry→AL}{Qn:Env→AL}{Ls L:List Ab}{ρ:Env}{d:Ab}{s:GS}{t:Nat}
def Vx{x y u v u' v'}(ex:ev ρ x=.agg [u,v].toArray)(ey:ev ρ y=.agg [u',v'].toArray)(h:∀b T,gws P pan Qn s Ls (upd ρ t (.slice (some ⟨b,0,none⟩) 2 2)) d (bx b T [u,v,u',v']::L)):
  gws P pan Qn (.op false ⟨some t,none,.bsl 2 2 [nV,nV] [(0,x),(1,y)]⟩ s) Ls ρ d L:=by
 refine De (by omega) ?_ h
 simp[Instr.fill,Bm,Adg,List.range.loop,ex,ey,Value.cells]
def Tl{tk:Bool}{x a}{n c:Nat}(ex:ev ρ x=.slice a n c)
  (h:gws P pan Qn s Ls (upd ρ t (.agg [.slice a n c,nV].toArray)) d L):gws P pan Qn (.op tk ⟨some t,none,.bld [(0,1),(1,1)] [nV,nV] [(0,x)]⟩ s) Ls ρ d L:=
 Ch (cs:=[.slice a n c,nV]) (by simp[Instr.fill,ex,Value.cells]) h
end
def YH{d}{q:Nat}{T u v u' v'}{a b:KV}(h1:AH d u a.1)(h2:AH d v a.2)(h3:AH d u' b.1)(h4:AH d v' b.2)(h:Le (bx q T [u,v,u',v']) d):RSl 2 RBp d (.slice (some ⟨q,0,none⟩) 2 2) [a,b]:=by
 have g:An 2 RBp d (.slice (some ⟨q,0,none⟩) 2 2) [a,b] (bx q T [u,v,u',v']):=An.lit Z Z (by simp) (fun i hi=>by
  have:i=0∨i=1:=by simp at hi;omega
  rcases this with rfl|rfl
  ·exact⟨u,v,Z,h1,h2⟩
  ·exact⟨u',v',Z,h3,h4⟩)
 exact An.rsl (R:=RBp) g Cl (by omega) (Le.refl _) h
def wl2:List KV:=[([1],[9]),([2],[8])]
def wl1:List KV:=[([2],[]),([1],[])]
def Xa:Cx wl2=0:=by decide+kernel
def Wu:Cx wl1=2:=by decide+kernel
def Aa1:Bl [1] [2] 5 wl2=[([1],[9])]:=by decide+kernel
def Aaq:Bl [] [] 5 wl2=wl2:=by decide+kernel
def Zk:I7 wl2=2:=by decide+kernel
def ZI:(pdN 9).free=9:=by decide+kernel
def TP(P:Program)(f:FuncId):Prop:=∀{d},AB P f [] d [] (Ret fun r d' L'=>r=.bool true∧L'=[])
def Js(a0 a1 a2 a3:Nat):A3:=⟨96,[(.tmp 0)],(sR (o1 0 (.mv (.const (.bool false))) .done) (sR (oc 12 a0 [(kZ 9)]<|om 11 12<|oe 13 11 0<|oe 14 11 1<|om 1 13<|om 2 14 .done) (.seq (sR (om 15 2<|o1 16 (.eqp false 15 (.const (.pointer none))) .done) (.cond 16 (sR (o1 0 (.mv (.const (.bool false))) .done) .ret) .skip)) (sR (om 18 1<|o1 19 (.bsl 1 1 [(.int .u8 0)] [(0,(.const (.int .u8 1)))])<|o1 20 (.bsl 1 1 [(.int .u8 0)] [(0,(.const (.int .u8 9)))])<|o1 21 (.bld [(0,1),(1,1)] [nV,nV] [(0,19),(1,20)])<|o1 22 (.bsl 1 1 [(.int .u8 0)] [(0,(.const (.int .u8 2)))])<|o1 23 (.bsl 1 1 [(.int .u8 0)] [(0,(.const (.int .u8 8)))])<|o1 24 (.bld [(0,1),(1,1)] [nV,nV] [(0,22),(1,23)])<|o1 25 (.bsl 2 2 [nV,nV] [(0,21),(1,24)])<|oc 26 a1 [18,25]<|om 17 26<|oe 27 17 0<|oe 28 17 1<|om 3 27<|om 4 28 .done) (.seq (sR (om 29 4<|ob 30 .neq 29 z0<|om 31 30<|gF 32 31 3<|oF 33 31 (.eqp false 32 (.const (.pointer none)))<|o1 34 (.pick 31 (.const (.bool true)) 33) .done) (.cond 34 (sR (o1 0 (.mv (.const (.bool false))) .done) .ret) .skip)) (sR (om 36 1<|om 37 3<|o1 38 (.bsl 1 1 [(.int .u8 0)] [(0,(.const (.int .u8 1)))])<|o1 39 (.bsl 1 1 [(.int .u8 0)] [(0,(.const (.int .u8 2)))])<|oc 40 a2 [36,37,38,39,(kZ 5)]<|om 35 40<|oe 41 35 0<|oe 42 35 1<|om 5 41<|om 6 42 .done) (sR (om 44 1<|om 45 3<|oc 46 a2 [44,45,nS,nS,(kZ 5)]<|om 43 46<|oe 47 43 0<|oe 48 43 1<|om 7 47<|om 8 48 .done) (sR (om 50 1<|o1 51 (.bsl 1 1 [(.int .u8 0)] [(0,(.const (.int .u8 2)))])<|o1 52 (.bld [(0,1),(1,1)] [nV,nV] [(0,51)])<|o1 53 (.bsl 1 1 [(.int .u8 0)] [(0,(.const (.int .u8 1)))])<|o1 54 (.bld [(0,1),(1,1)] [nV,nV] [(0,53)])<|o1 55 (.bsl 2 2 [nV,nV] [(0,52),(1,54)])<|oc 56 a1 [50,55]<|om 49 56<|oe 57 49 0<|oe 58 49 1<|om 9 57<|om 10 58 .done) (sR (om 59 6<|ob 60 .eql 59 z0<|om 61 60<|gT 62 61 5<|oT 63 61 (.len 62)<|oT 64 61 (.bin .eql 63 z1)<|gP 65 61 64<|om 66 65<|gT 67 66 5<|oT 68 66 (.idx 2 67 z0)<|oT 69 66 (.fld 1 68)<|oT 70 66 (.ld none 69)<|oT 71 66 (.b2s 70)<|oT 72 66 (.bin .eql 71 (.const (BC [9])))<|gP 73 66 72<|om 74 73<|gT 75 74 8<|oT 76 74 (.bin .eql 75 z0)<|gP 77 74 76<|om 78 77<|gT 79 78 7<|oT 80 78 (.len 79)<|oT 81 78 (.bin .eql 80 z2)<|gP 82 78 81<|om 83 82<|gT 84 83 10<|oT 85 83 (.bin .eql 84 z2)<|gP 86 83 85<|om 87 86<|gT 88 87 9<|oT 89 87 (.eqp false 88 (.const (.pointer none)))<|gP 90 87 89<|om 91 90<|gT 92 91 3<|oT 93 91 (.call a3 [92])<|oT 94 91 (.bin .eql 93 z2)<|gP 95 91 94<|om 0 95 .done) .ret)))))))))⟩
end
section
section
variable {P:Program}{f:FuncId}{d:Ab}{t:TD}{l:List KV}{Pp:List Int}{dv pv:Value}{L:List Ab}{bt:Nat}{Tt:TypeId}
def Zj(h:I8 P f)(hk:Tok t l Pp)(hl:l.length≤1000){c:Nat}(hc:c=0∨l≠[])(hcm:c≤1000)(hp:PgT d t.s dv pv L):
  AB P f [pv,pZ bt] d (tb bt Tt pv t.root t.height (t.count+c:Nat)::L) (Ret fun v d' L'=>Le d d'∧v=vZ (if c=0 then 0 else 200)∧∃L2,L'=tb bt Tt pv t.root t.height (t.count+c:Nat)::L2∧PgT d' t.s dv pv L2):=by
 obtain⟨hkl,hth⟩:=hk.far hl
 have hct:=hk.ct
 have ho:CB t.root t.height (t.count+c:Nat)=true:=by
  rcases hc with rfl|hc
  ·exact hk.CB
  ·have h1:=hk.CB;have h2:=Fx.1 hc;simp only[CB,Adu,Acb,decide_eq_true_eq] at h1⊢;omega
 have hr:=h 2000 (t:={t with count:=t.count+c}) (bt:=bt) (Tt:=Tt) hp ho (by have:=hkl.r1;show t.root≤1000000000;omega) (by show t.height≤1000000;omega) (by show t.count+c≤1000000000;omega) (by omega) (fun hz=>by
  rcases hk.tr with ⟨e1,_⟩|⟨x,e1,e2⟩
  ·exact absurd e1 hz
  ·obtain⟨S',e,_⟩:=Ng (s:=t.s) (x+1) 2000 (k:=t.root) (S:=[]) (fr:=[]) (to:=[]) (n:=0) (by omega) e2 (fun y _ q=>by cases hy:y.1<;>rw[hy] at q<;>simp[Lt,Op.bytesLess] at q) (.inl Z) hk.nd (fun p _ q=>by cases q);show(Cb t.s 2000 t.root t.height [] [] [] 0).e≠99999∧((Cb t.s 2000 t.root t.height [] [] [] 0).e=0→(Cb t.s 2000 t.root t.height [] [] [] 0).n≤1000000000);rw[e1,e];exact⟨by simp,fun _=>by show 0+l.length≤_;omega⟩)
 rw[hk.check (g:=2000) hth hc] at hr
 exact hr
end
end
def RA{w l}(hw:RSl 2 RKv d w l):∀x∈l,x.1.length≤140737488355328∧x.2.length≤140737488355328:=by
 intro x hx;obtain⟨i,hi,rfl⟩:=Aej hx;obtain⟨_,_,_,_,_,_,_,_,_,_,_,h8⟩:=hw;obtain⟨cs,_,_,_,q1,q2⟩:=h8 i hi;exact⟨q1,q2⟩
def Ut:∀{l},(∀x∈l,x.1.length≤140737488355328∧x.2.length≤140737488355328)→czL l≤l.length*140737488355400∧cpL l≤l.length*140737488355400
 |[],_=>⟨Acj _,Acj _⟩
 |x::l,h=>by
  obtain⟨h1,h2⟩:=Ut fun y hy=>h y (Aco _ hy);obtain⟨h3,h4⟩:=h x (Acm ..);have e:czL (x::l)=czV x+czL l:=by simp[czL]
  have e1:czV x≤140737488355400:=by unfold czV;split<;>omega
  have e2:cpV x≤140737488355400:=by unfold cpV AM;split<;>omega
  rw[e,Rj,Acx,Nat.succ_mul];omega
def Zb{l:List KV}{i:Nat}(h:i<l.length):czL (l.take (i+1))=czL (l.take i)+czV l[i]∧cpL (l.take (i+1))=cpL (l.take i)+cpV l[i]:=by
 rw[Acp h,TE,Ta];simp[czL,cpL,cpV]
def Je(P:Program)(f:FuncId):Prop:=∀{d w l},RSl 2 RKv d w l→l.length≤1000→Cy P f [w] d (.tuple #[vZ (czL l:Nat),vZ (cpL l:Nat)])
def I6:A3:=⟨44,[(.tmp 2),(.tmp 3)],(sR (o1 2 (.mv z0)<|o1 3 (.mv z0) .done) (sR (o1 4 (.mv z0) .done) (sR (o1 5 (.mv z0) .done) (.seq (sR (o1 6 (.mv z0) .done) (.block 0 (.loop (.seq (sR (om 8 6<|om 9 0<|oL 10 9<|ob 11 .lss 8 10 .done) (.cond 11 .skip (.exit 0))) (.seq (.block 1 (sR (om 14 0<|om 15 6<|oI 16 2 14 15<|oj 17 1 16<|ol 18 17<|o1 19 (.lens 18)<|om 7 19 .done) (sR (om 20 4<|ob 21 .add 20 z2<|om 22 0<|om 23 6<|oI 24 2 22 23<|oj 25 0 24<|ol 26 25<|o1 27 (.lens 26)<|ob 28 .add 21 27<|om 4 28 .done) (.seq (sR (om 29 7<|ob 30 .leq 29 (kZ 15) .done) (.cond 30 (sR (om 31 4<|ob 32 .add 31 z1<|om 33 7<|ob 34 .add 32 33<|om 4 34 .done) (.exit 1)) .skip)) (sR (om 35 4<|ob 36 .add 35 (kZ 7)<|om 4 36 .done) (rG (om 37 5<|om 38 7<|ob 39 .add 38 (kZ 253)<|ob 40 .quo 39 (kZ 254)<|ob 41 .add 37 40<|om 5 41 .done))))))) (rG (om 12 6<|ob 13 .add 12 z1<|om 6 13 .done))))))) (sR (om 42 4<|om 43 5<|om 2 42<|om 3 43 .done) .ret)))))⟩
set_option maxRecDepth 4000 in
def SA{P:Program}{f:FuncId}(hd:dec P f=some I6):Je P f:=by
 intro d w l hw hln;have hbd:=RA hw;obtain⟨a,c,rfl⟩:=hw.val;refine AK hd (Aca rfl) ?_;show gwp P _ _ _ _ _;(refine Ad<|Ac rfl<|Ac rfl<|Aa<|Ad<|Ac rfl<|Aa<|Ad<|Ac rfl<|Aa<|Ag<|Ad<|Ac rfl<|Aa<|Az ?_);refine BM (α:=Nat) (fun x=>[(0,.slice a l.length c),(4,vZ (czL (l.take x):Nat)),(5,vZ (cpL (l.take x):Nat)),(6,vZ x)]) (fun x d' L'=>d'=d∧x≤l.length) (fun x=>l.length - x) 0 ⟨rfl,rfl,rfl,rfl,trivial⟩ ⟨rfl,Adf _⟩ ?_;rintro i ρ d' L' ⟨rfl,hi⟩;simp only at hi⊢;by_cases e:i<l.length
 ·obtain⟨t1,t2⟩:=Zb e;obtain⟨b1,b2⟩:=Ut (l:=l.take i) (fun x hx=>hbd x (Ago hx));have b3:(l.take i).length≤1000:=by rw[Acs];omega
  have b4:(l.take i).length*140737488355400≤1000*140737488355400:=Adp _ b3;obtain⟨b5,b6⟩:=hbd _ (Acz e);generalize hz1:czL (l.take i)=z1 at t1 b1;generalize hz2:cpL (l.take i)=z2 at t2 b2;(refine Ag<|Ad<|Ac rfl<|Ak rfl<|AO rfl<|AA rfl rfl<|Aa<|AF rfl (by omega)<|Al<|Ag<|Az<|Ad<|Ak rfl<|Ac rfl ?_);refine A0 (m:=i) rfl hw rfl rfl e (fun b o cs hcl hdc ⟨q,_,_⟩=>?_);subst q;(refine Aj rfl<|Ai rfl (Bf (by assumption) rfl)<|E6 rfl<|Ac rfl<|Aa<|Ad<|Ac rfl<|AY rfl rfl (by omega) (by omega)<|Ak rfl<|Ac rfl ?_);refine A0 (m:=i) rfl hw rfl rfl e (fun b o cs hcl hdc ⟨q,_,_⟩=>?_);subst q;by_cases h15:(l[i].2.length:Int)≤15
  ·have v1:czV l[i]=2+l[i].1.length+(1+l[i].2.length):=by unfold czV;rw[if_pos (by omega)]
   have v2:cpV l[i]=0:=by unfold cpV;rw[if_neg (by omega)]
   (refine Aj rfl<|Ai rfl (Bf (by assumption) rfl)<|E6 rfl<|AY rfl rfl (by omega) (by omega)<|Ac rfl<|Aa<|Ag<|Ad<|Ac rfl<|Gt rfl rfl<|Aa<|AF rfl (by omega)<|Ad<|Ac rfl<|AY rfl rfl (by omega) (by omega)<|Ac rfl<|AY rfl rfl (by omega) (by omega)<|Ac rfl<|Aa<|Ba<|AI<|Ac rfl<|AY rfl rfl (by omega) (by omega)<|Ac rfl<|Aa ?_);exact⟨i+1,by omega,⟨rfl,(by show Value.int .i64 _=Value.int .i64 _;congr 1;omega),(by show Value.int .i64 _=Value.int .i64 _;congr 1;omega),rfl,trivial⟩,rfl,e⟩
  ·have v1:czV l[i]=2+l[i].1.length+7:=by unfold czV;rw[if_neg (by omega)]
   have v2:cpV l[i]=(l[i].2.length+253) / 254:=by unfold cpV AM;rw[if_pos (by omega)];omega
   (refine Aj rfl<|Ai rfl (Bf (by assumption) rfl)<|E6 rfl<|AY rfl rfl (by omega) (by omega)<|Ac rfl<|Aa<|Ag<|Ad<|Ac rfl<|Gt rfl rfl<|Aa<|Aw rfl (by omega)<|Al<|Ad<|Ac rfl<|AY rfl rfl (by omega) (by omega)<|Ac rfl<|Aa<|AI<|Ac rfl<|Ac rfl<|AY rfl rfl (by omega) (by omega)<|Y5 rfl rfl (by omega) (by omega) (by omega)<|AY rfl rfl (by omega) (by omega)<|Ac rfl<|Aa<|AI<|Ac rfl<|AY rfl rfl (by omega) (by omega)<|Ac rfl<|Aa ?_);exact⟨i+1,by omega,⟨rfl,(by show Value.int .i64 _=Value.int .i64 _;congr 1;omega),(by show Value.int .i64 _=Value.int .i64 _;congr 1;omega),rfl,trivial⟩,rfl,e⟩
 ·have:i=l.length:=by omega
  subst this;rw[Aec];(refine Ag<|Ad<|Ac rfl<|Ak rfl<|AO rfl<|AA rfl rfl<|Aa<|Aw rfl (by omega)<|Ba<|Ad<|Ac rfl<|Ac rfl<|Ac rfl<|Ac rfl<|Aa<|Ao ?_);exact Dr [vZ (czL l:Nat),vZ (cpL l:Nat)] ⟨Ar rfl,Ar rfl,trivial⟩ (Adj _) ⟨rfl,rfl,rfl⟩
def O9(l:List KV):Int:=if l.any (fun x=>decide (16384<x.2.length)) then 3 else 0
def Xu{l:List KV}{i:Nat}(h:i<l.length):O9 (l.take (i+1))=if 16384<l[i].2.length then 3 else O9 (l.take i):=by
 unfold O9;rw[Acp h,List.any_append];by_cases q:16384<l[i].2.length
 ·simp[q]
 ·rw[if_neg q,List.any_cons,List.any_nil,decide_eq_false q,Agt,Bool.or_false]
def AaY{l}{i:Nat}(hi:i<l.length):wrB l i=(decide (l[i].1.length<1)||decide (64<l[i].1.length)||(decide (0<i)&& !Op.bytesLess (l.getD (i - 1) ([],[])).1 l[i].1)):=by
 rw[N4 hi];congr 2;generalize l.getD (i - 1) ([],[])=y;have:=EN y.1 l[i].1;cases h:Op.bytesLess y.1 l[i].1 with
 |true=>have:=this.2 h;simp;omega
 |false=>
  have:¬Lib.compareBytes y.1 l[i].1<0:=fun q=>by rw[this.1 q] at h;cases h
  simp;omega
def Jo(P:Program)(f:FuncId):Prop:=∀{d w l},RSl 2 RKv d w l→Cy P f [w] d (vZ (Cx l))
def Jz:A3:=⟨53,[(.tmp 2)],(sR (o1 2 (.mv z0) .done) (sR (o1 3 (.mv z0) .done) (.seq (sR (o1 4 (.mv z0) .done) (.block 0 (.loop (.seq (sR (om 5 4<|om 6 0<|oL 7 6<|ob 8 .lss 5 7 .done) (.cond 8 .skip (.exit 0))) (.seq (.block 1 (.seq (.seq (.reg true (pm 11 0<|pm 12 4<|p1 13 (.idx 2 11 12)<|p1 14 (.fld 0 13)<|pl 15 14<|p1 16 (.lens 15)<|p1 17 (.bin .lss 16 z1)<|pm 18 17 (.op true ⟨(some 19),(some (18,false)),(.mv 0)⟩ (.op true ⟨(some 20),(some (18,false)),(.mv 4)⟩ (.op true ⟨(some 21),(some (18,false)),(.idx 2 19 20)⟩ (.op true ⟨(some 22),(some (18,false)),(.fld 0 21)⟩ (.op true ⟨(some 23),(some (18,false)),(.ld none 22)⟩ (.op true ⟨(some 24),(some (18,false)),(.lens 23)⟩ (.op true ⟨(some 25),(some (18,false)),(.bin .gtr 24 (kZ 64))⟩ (p1 26 (.pick 18 (.const (.bool true)) 25) (pm 27 26 (.op true ⟨(some 28),(some (27,false)),(.mv 4)⟩ (.op true ⟨(some 29),(some (27,false)),(.bin .gtr 28 z0)⟩ (.op true ⟨(some 30),(some (27,false)),(.mv 29)⟩ (.op true ⟨(some 31),(some (30,true)),(.mv 0)⟩ (.op true ⟨(some 32),(some (30,true)),(.mv 4)⟩ (.op true ⟨(some 33),(some (30,true)),(.bin .sub 32 z1)⟩ (.op true ⟨(some 34),(some (30,true)),(.idx 2 31 33)⟩ (.op true ⟨(some 35),(some (30,true)),(.fld 0 34)⟩ (.op true ⟨(some 36),(some (30,true)),(.ld none 35)⟩ (.op true ⟨(some 37),(some (30,true)),(.mv 0)⟩ (.op true ⟨(some 38),(some (30,true)),(.mv 4)⟩ (.op true ⟨(some 39),(some (30,true)),(.idx 2 37 38)⟩ (.op true ⟨(some 40),(some (30,true)),(.fld 0 39)⟩ (.op true ⟨(some 41),(some (30,true)),(.ld none 40)⟩ (.op true ⟨(some 42),(some (30,true)),(.bin .geq 36 41)⟩ (.op true ⟨(some 43),(some (27,false)),(.pick 30 42 (.const (.bool false)))⟩ (p1 44 (.pick 27 (.const (.bool true)) 43) .done)))))))))))))))))))))))))))) (.cond 44 (sR (o1 2 (.mv z2) .done) .ret) .skip)) (sR (om 45 0<|om 46 4<|oI 47 2 45 46<|oj 48 1 47<|ol 49 48<|o1 50 (.lens 49)<|ob 51 .gtr 50 (kZ 16384) .done) (.cond 51 (rG (o1 3 (.mv (kZ 3)) .done)) .skip)))) (rG (om 9 4<|ob 10 .add 9 z1<|om 4 10 .done))))))) (sR (om 52 3<|om 2 52 .done) .ret))))⟩
set_option maxRecDepth 4000 in
def SP(hd:dec P f=some Jz):Jo P f:=by
 intro d w l hw;have hwl:=hw.Bt;have hbd:=RA hw;obtain⟨a,c,rfl⟩:=hw.val;refine AK hd (Aca Z) ?_;show gwp P _ _ _ _ _;refine Ad<|Ac Z<|Aa<|Ad<|Ac Z<|Aa<|Ag<|Ad<|Ac Z<|Aa<|Az<|BM (α:=Nat) (fun x=>[(0,.slice a l.length c),(3,vZ (O9 (l.take x))),(4,vZ x)]) (fun x d' L'=>d'=d∧x≤l.length∧∀j,j<x→wrB l j=false) (fun x=>l.length - x) 0 ⟨Z,Z,Z,trivial⟩ ⟨Z,Adf _,fun j h=>absurd h (Aez j)⟩ ?_;rintro i ρ d' L' ⟨rfl,hi,hf⟩;simp only at hi hf⊢;by_cases e:i<l.length
 ·have hwr:=AaY e;have hbg:=Xu e;obtain⟨b5,b6⟩:=hbd _ (Acz e);refine Ag<|Ad<|Ac Z<|Ak Z<|AO Z<|AA Z Z<|Aa<|AF Z (by omega)<|Al<|Ag<|Az<|Ag<|Ag<|C1<|Ak Z<|Ac Z<|A0 (m:=i) Z hw Z Z e (fun b o cs hcl hdc ⟨q,_,_⟩=>?_);subst q;have hnx:wrB l i=false→∀j,j<i+1→wrB l j=false:=fun q j hj=>if h:j<i then hf j h else by rw[show j=i by omega];exact q
  by_cases c1:l[i].1.length<1
  ·rw[FG e (by rw[hwr];simp[c1])];clear hwr hnx hf hbg;(refine Aj Z<|Ai Z (Bf (by assumption) Z)<|E6 Z<|AA Z Z<|Af Z<|A4 Z (by omega)<|Am Z<|Am Z<|Am Z<|Am Z<|Am Z<|Am Z<|Am Z<|Ay Z Z<|Af Z<|Am Z<|Am Z<|Am Z<|Bo Z<|Bo Z<|Bo Z<|Bo Z<|Bo Z<|Bo Z<|Bo Z<|Bo Z<|Bo Z<|Bo Z<|Bo Z<|Bo Z<|Am Z<|Ay Z Z<|By<|A8 Z<|Ad<|Ac Z<|Aa<|Ao ?_);exact Dr [vZ 2] ⟨Ar Z,trivial⟩ (Adj _) ⟨Z,Z,Z⟩
  ·refine Aj Z<|Ai Z (Bf (by assumption) Z)<|E6 Z<|AA Z Z<|Af Z<|A1 Z (by omega)<|Ae Z<|Ak Z<|Ae Z<|Ac Z<|Ae Z<|A0 (m:=i) Z hw Z Z e (fun b o cs hcl hdc ⟨q,_,_⟩=>?_);subst q;by_cases c2:l[i].1.length>64
   ·rw[FG e (by rw[hwr];simp[c2])];clear hwr hnx hf hbg;(refine Ae Z<|Aj Z<|Ae Z<|Ai Z (Bf (by assumption) Z)<|Ae Z<|E6 Z<|Ae Z<|Bb Z Z<|Av Z Z<|Af Z<|A4 Z (by omega)<|Am Z<|Am Z<|Am Z<|Bo Z<|Bo Z<|Bo Z<|Bo Z<|Bo Z<|Bo Z<|Bo Z<|Bo Z<|Bo Z<|Bo Z<|Bo Z<|Bo Z<|Am Z<|Ay Z Z<|By<|A8 Z<|Ad<|Ac Z<|Aa<|Ao ?_);exact Dr [vZ 2] ⟨Ar Z,trivial⟩ (Adj _) ⟨Z,Z,Z⟩
   ·by_cases c3:i>0
    ·refine Ae Z<|Aj Z<|Ae Z<|Ai Z (Bf (by assumption) Z)<|Ae Z<|E6 Z<|Ae Z<|Bb Z Z<|Av Z Z<|Af Z<|A1 Z (by omega)<|Ae Z<|Ac Z<|Ae Z<|Bb Z Z<|Ae Z<|Af Z<|A4 Z (by omega)<|Ae Z<|Ak Z<|Ae Z<|Ac Z<|Ae Z<|CP Z Z (by omega) (by omega)<|Ae Z<|A0 (m:=i - 1) Z hw Z (by omega) (by omega) (fun b2 o2 cs2 hcl2 hdc2 ⟨q2,_,_⟩=>?_);subst q2;have hg:l.getD (i - 1) ([],[])=l[i - 1]'(by omega):=by simp only[Acg,Acf (show i - 1<l.length by omega),Aem]
     rw[hg] at hwr;refine Ae Z<|Aj Z<|Ae Z<|Ai Z (Bf (by assumption) Z)<|Ae Z<|Ak Z<|Ae Z<|Ac Z<|Ae Z<|A0 (m:=i) Z hw Z Z e (fun b o cs hcl hdc ⟨q,_,_⟩=>?_);subst q;by_cases c4:(!Op.bytesLess (l[i - 1]'(by omega)).1 l[i].1)=true
     ·rw[FG e (by rw[hwr];simp[c3];exact .inr (by simpa using c4))];clear hwr hnx hf hbg;(refine Ae Z<|Aj Z<|Ae Z<|Ai Z (Bf (by assumption) Z)<|Ae Z<|YP Z Z<|Ae Z<|Ay Z Z<|Av Z Z<|By ?_;apply Rk;rfl;(with_reducible assumption);refine Ad<|Ac Z<|Aa<|Ao ?_);exact Dr [vZ 2] ⟨Ar Z,trivial⟩ (Adj _) ⟨Z,Z,Z⟩
     ·have hn:=hnx (by rw[hwr];simp[c1,c3];exact⟨by omega,by simpa using c4⟩);have c4:(!Op.bytesLess (l[i - 1]'(by omega)).1 l[i].1)=false:=by simpa using c4
      clear hwr hnx hf;(refine Ae Z<|Aj Z<|Ae Z<|Ai Z (Bf (by assumption) Z)<|Ae Z<|YP Z Z<|Ae Z<|Ay Z Z<|Av Z Z<|By ?_;apply Rq;rfl;(with_reducible assumption);refine Al<|Ad<|Ak Z<|Ac Z ?_);refine A0 (m:=i) Z hw Z Z e (fun b o cs hcl hdc ⟨q,_,_⟩=>?_);subst q;by_cases c5:(l[i].2.length:Int)>16384
      ·rw[if_pos (by omega)] at hbg;(refine Aj Z<|Ai Z (Bf (by assumption) Z)<|E6 Z<|Bb Z Z<|Aa<|AF Z (by omega)<|AI<|Ac Z<|Aa<|AI<|Ac Z<|AY Z Z (by omega) (by omega)<|Ac Z<|Aa ?_);exact⟨i+1,by omega,⟨Z,(by rw[hbg];rfl),Z,trivial⟩,Z,by omega,hn⟩
      ·rw[if_neg (by omega)] at hbg;(refine Aj Z<|Ai Z (Bf (by assumption) Z)<|E6 Z<|Bb Z Z<|Aa<|Aw Z (by omega)<|Al<|AI<|Ac Z<|AY Z Z (by omega) (by omega)<|Ac Z<|Aa ?_);exact⟨i+1,by omega,⟨Z,(by rw[hbg];rfl),Z,trivial⟩,Z,by omega,hn⟩
    ·have hn:=hnx (by rw[hwr];simp[c1,c2,c3]<;>omega);clear hwr hnx hf;refine Ae Z<|Aj Z<|Ae Z<|Ai Z (Bf (by assumption) Z)<|Ae Z<|E6 Z<|Ae Z<|Bb Z Z<|Av Z Z<|Af Z<|A1 Z (by omega)<|Ae Z<|Ac Z<|Ae Z<|Bb Z Z<|Ae Z<|Af Z<|A1 Z (by omega)<|Am Z<|Am Z<|Am Z<|Am Z<|Am Z<|Am Z<|Am Z<|Am Z<|Am Z<|Am Z<|Am Z<|Am Z<|Ae Z<|Av Z Z<|Av Z Z<|By<|AS Z<|Al<|Ad<|Ak Z<|Ac Z<|A0 (m:=i) Z hw Z Z e (fun b o cs hcl hdc ⟨q,_,_⟩=>?_);subst q;by_cases c5:(l[i].2.length:Int)>16384
     ·rw[if_pos (by omega)] at hbg;(refine Aj Z<|Ai Z (Bf (by assumption) Z)<|E6 Z<|Bb Z Z<|Aa<|AF Z (by omega)<|AI<|Ac Z<|Aa<|AI<|Ac Z<|AY Z Z (by omega) (by omega)<|Ac Z<|Aa ?_);exact⟨i+1,by omega,⟨Z,(by rw[hbg];rfl),Z,trivial⟩,Z,by omega,hn⟩
     ·rw[if_neg (by omega)] at hbg;(refine Aj Z<|Ai Z (Bf (by assumption) Z)<|E6 Z<|Bb Z Z<|Aa<|Aw Z (by omega)<|Al<|AI<|Ac Z<|AY Z Z (by omega) (by omega)<|Ac Z<|Aa ?_);exact⟨i+1,by omega,⟨Z,(by rw[hbg];rfl),Z,trivial⟩,Z,by omega,hn⟩
 ·have:i=l.length:=by omega
  subst this;rw[Aec];rw[Jm hf,show(if l.any (fun x=>decide (16384<x.2.length)) then(3:Int) else 0)=O9 l from Z];clear hf;(refine Ag<|Ad<|Ac Z<|Ak Z<|AO Z<|AA Z Z<|Aa<|Aw Z (by omega)<|Ba<|Ad<|Ac Z<|Ac Z<|Aa<|Ao ?_);exact Dr [vZ (O9 l)] ⟨Ar Z,trivial⟩ (Adj _) ⟨Z,Z,Z⟩
def J8(P:Program)(f:FuncId):Prop:=∀{d w w2 l m},RSl 2 RBp d w l→RSl 2 RKv d w2 m→Cy P f [w,w2] d (.bool (decide (l=m)))
def JZ:A3:=⟨43,[(.tmp 4)],(sR (o1 4 (.mv (.const (.bool false))) .done) (.seq (sR (om 6 0<|oL 7 6<|om 8 1<|oL 9 8<|ob 10 .neq 7 9 .done) (.cond 10 (sR (o1 4 (.mv (.const (.bool false))) .done) .ret) .skip)) (.seq (sR (om 11 0<|oL 12 11<|o1 13 (.mv z0) .done) (.block 0 (.loop (sR (ob 14 .lss 13 12 .done) (.seq (.cond 14 .skip (.exit 0)) (.seq (.block 1 (sR (om 15 13<|om 5 15 .done) (.seq (.reg true (pm 16 0<|pm 17 5<|p1 18 (.idx 2 16 17)<|p1 19 (.fld 0 18)<|pl 20 19<|p1 21 (.b2s 20)<|pm 22 1<|pm 23 5<|p1 24 (.idx 2 22 23)<|p1 25 (.fld 0 24)<|pl 26 25<|p1 27 (.bin .neq 21 26)<|pm 28 27 (.op true ⟨(some 29),(some (28,false)),(.mv 0)⟩ (.op true ⟨(some 30),(some (28,false)),(.mv 5)⟩ (.op true ⟨(some 31),(some (28,false)),(.idx 2 29 30)⟩ (.op true ⟨(some 32),(some (28,false)),(.fld 1 31)⟩ (.op true ⟨(some 33),(some (28,false)),(.ld none 32)⟩ (.op true ⟨(some 34),(some (28,false)),(.b2s 33)⟩ (.op true ⟨(some 35),(some (28,false)),(.mv 1)⟩ (.op true ⟨(some 36),(some (28,false)),(.mv 5)⟩ (.op true ⟨(some 37),(some (28,false)),(.idx 2 35 36)⟩ (.op true ⟨(some 38),(some (28,false)),(.fld 1 37)⟩ (.op true ⟨(some 39),(some (28,false)),(.ld none 38)⟩ (.op true ⟨(some 40),(some (28,false)),(.bin .neq 34 39)⟩ (p1 41 (.pick 28 (.const (.bool true)) 40) .done))))))))))))))) (.cond 41 (sR (o1 4 (.mv (.const (.bool false))) .done) .ret) .skip)))) (rG (ob 42 .add 13 z1<|om 13 42 .done)))))))) (sR (o1 4 (.mv (.const (.bool true))) .done) .ret))))⟩
set_option maxRecDepth 4000 in
def UK(hd:dec P f=some JZ):J8 P f:=by
 intro d w w2 l m hw hm;have hwl:=hw.Bt;have hml:=hm.Bt;obtain⟨a,c,rfl⟩:=hw.val;obtain⟨b,c',rfl⟩:=hm.val;refine AK hd (Aca Z) ?_;show gwp P _ _ _ _ _;by_cases hln:l.length=m.length
 ·refine Ad<|Af Z<|Aa<|Ag<|Ad<|Ak Z<|AO Z<|Ak Z<|AO Z<|AW Z Z<|Aa<|Aw Z (by omega)<|Al<|Ag<|Ad<|Ak Z<|AO Z<|Ac Z<|Aa<|Az<|BM (α:=Nat) (fun x=>[(0,.slice a l.length c),(1,.slice b m.length c'),(12,vZ l.length),(13,vZ x)]) (fun x d' L'=>d'=d∧x≤l.length∧l.take x=m.take x) (fun x=>l.length - x) 0 ⟨Z,Z,Z,Z,trivial⟩ ⟨Z,Adf _,Z⟩ ?_;rintro i ρ d' L' ⟨rfl,hi,hf⟩;simp only at hi hf⊢;by_cases e:i<l.length
  ·have em:i<m.length:=by omega
   refine Ad<|AA Z Z<|Aa<|Ag<|AF Z (by omega)<|Al<|Ag<|Az<|Ad<|Ac Z<|Ac Z<|Aa<|Ag<|C1<|Ak Z<|Ac Z<|A0 (m:=i) Z hw Z Z e (fun b1 o1 cs1 hcl1 hdc1 ⟨k1,v1,q1,hk1,hv1⟩=>?_);subst q1;obtain⟨ka,kc,rfl⟩:=hk1.val;obtain⟨va,vc,rfl⟩:=hv1.val;refine Aj Z<|Ai Z (Bf (by assumption) Z)<|FU Z (by assumption)<|Ak Z<|Ac Z<|A0 (m:=i) Z hm Z Z em (fun b2 o2 cs2 hcl2 hdc2 ⟨q2,q3,q4⟩=>?_);subst q2;by_cases e1:l[i].1=m[i].1
   ·have e1n:¬(l[i].1≠m[i].1):=fun h=>h e1;refine Aj Z<|Ai Z (Bf (by assumption) Z)<|Li Z Z<|Af Z<|A1 Z (by omega)<|Ae Z<|Ak Z<|Ae Z<|Ac Z<|Ae Z<|A0 (m:=i) Z hw Z Z e (fun b1 o1 cs1 hcl1 hdc1 ⟨k1,v1,q1,hk1,hv1⟩=>?_);subst q1;obtain⟨k1a,k1c,rfl⟩:=hk1.val;obtain⟨v1a,v1c,rfl⟩:=hv1.val;refine Ae Z<|Aj Z<|Ae Z<|Ai Z (Bf (by assumption) Z)<|Ae Z<|FU Z (by assumption)<|Ae Z<|Ak Z<|Ae Z<|Ac Z<|Ae Z<|A0 (m:=i) Z hm Z Z em (fun b2 o2 cs2 hcl2 hdc2 ⟨q2,q3,q4⟩=>?_);subst q2;by_cases e2:l[i].2=m[i].2
    ·have hn:l.take (i+1)=m.take (i+1):=by rw[Acp e,Acp em,hf,show l[i]=m[i] from Prod.ext e1 e2]
     have e2n:¬(l[i].2≠m[i].2):=fun h=>h e2;(refine Ae Z<|Aj Z<|Ae Z<|Ai Z (Bf (by assumption) Z)<|Ae Z<|Li Z Z<|Av Z Z<|By<|Aw Z (by omega)<|Al<|AI<|AY Z Z (by omega) (by omega)<|Ac Z<|Aa ?_);exact⟨i+1,by omega,⟨Z,Z,Z,Z,trivial⟩,Z,e,hn⟩
    ·have hne:¬l=m:=fun q=>e2 (by subst q;rfl);rw[decide_eq_false hne];(refine Ae Z<|Aj Z<|Ae Z<|Ai Z (Bf (by assumption) Z)<|Ae Z<|Li Z Z<|Av Z Z<|By<|AF Z (by omega)<|Ad<|Af Z<|Aa<|Ao ?_);exact Dr [.bool false] ⟨Ar Z,trivial⟩ (Adj _) ⟨Z,Z,Z⟩
   ·have hne:¬l=m:=fun q=>e1 (by subst q;rfl);rw[decide_eq_false hne];(refine Aj Z<|Ai Z (Bf (by assumption) Z)<|Li Z Z<|Af Z<|A4 Z (by omega)<|Am Z<|Am Z<|Am Z<|Am Z<|Am Z<|Am Z<|Am Z<|Am Z<|Am Z<|Am Z<|Am Z<|Am Z<|Ay Z Z<|By<|A8 Z<|Ad<|Af Z<|Aa<|Ao ?_);exact Dr [.bool false] ⟨Ar Z,trivial⟩ (Adj _) ⟨Z,Z,Z⟩
  ·have hy:l=m:=by
    have:i=l.length:=by omega
    subst this;rw[Aec,hln,Aec] at hf;exact hf
   rw[decide_eq_true hy];clear hy hf;(refine Ad<|AA Z Z<|Aa<|Ag<|Aw Z (by omega)<|Ba<|Ad<|Af Z<|Aa<|Ao ?_);exact Dr [.bool true] ⟨Ar Z,trivial⟩ (Adj _) ⟨Z,Z,Z⟩
 ·rw[decide_eq_false (fun q=>hln (by rw[q]))];(refine Ad<|Af Z<|Aa<|Ag<|Ad<|Ak Z<|AO Z<|Ak Z<|AO Z<|AW Z Z<|Aa<|AF Z (by omega)<|Ad<|Af Z<|Aa<|Ao ?_);exact Dr [.bool false] ⟨Ar Z,trivial⟩ (Adj _) ⟨Z,Z,Z⟩
def Dy(l:List KV):List KV:=(l.take 60).map fun x=>(x.1,x.2.take 700)
def Mx(P:Program)(f:FuncId):Prop:=∀{d w l},RSl 2 RBp d w l→AB P f [w] d [] (Ret fun v d' L'=>Le d d'∧L'=[]∧∃u u',v=.tuple #[u,u']∧RSl 2 RBp d' u (Dy l)∧RSl 2 RKv d' u' (Dy l))
def Abv{pan:List PanicEntry→AL}{Qn:Env→AL}{Ls L ρ s}{t:Nat}{x a b}(ex:ev ρ x=.agg [BC a,BC b].toArray)(h:∀b' T,gws P pan Qn s Ls (upd ρ t (.slice (some ⟨b',0,none⟩) 1 1)) d (bx b' T [BC a,BC b]::L)):
  gws P pan Qn (.op false ⟨some t,none,.bsl 1 2 [BC [],BC []] [(0,x)]⟩ s) Ls ρ d L:=by
 refine De (by omega) ?_ h
 simp[Instr.fill,Bm,Adg,List.range.loop,ex,Value.cells]
structure PrS where
 i:Nat
 aa:Option Addr
 ac:Nat
 ba:Option Addr
 bc:Nat
def JG(a0:Nat):A3:=⟨48,[(.tmp 2),(.tmp 3)],(sR (o1 2 (.mv nS)<|o1 3 (.mv nS) .done) (sR (o1 4 (.mv nS) .done) (sR (o1 5 (.mv nS) .done) (.seq (sR (o1 6 (.mv z0) .done) (.block 0 (.loop (.seq (sR (om 8 6<|om 9 0<|oL 10 9<|ob 11 .lss 8 10<|om 12 11<|gT 13 12 6<|oT 14 12 (.bin .lss 13 (kZ 60))<|gP 15 12 14 .done) (.cond 15 .skip (.exit 0))) (.seq (.block 1 (sR (om 18 0<|om 19 6<|oI 20 2 18 19<|oj 21 1 20<|ol 22 21<|oc 23 a0 [22,(kZ 700)]<|om 7 23 .done) (sR (om 24 4<|om 25 0<|om 26 6<|oI 27 2 25 26<|oj 28 0 27<|ol 29 28<|om 30 7<|o1 31 (.bld [(0,1),(1,1)] [nV,nV] [(0,29),(1,30)])<|o1 32 (.bsl 1 2 [nV,nV] [(0,31)])<|o1 33 (.app 2 48 [nV,nV] 24 32)<|om 4 33 .done) (.reg true (pm 34 5<|pm 35 0<|pm 36 6<|p1 37 (.idx 2 35 36)<|p1 38 (.fld 0 37)<|pl 39 38<|p1 40 (.b2s 39)<|pm 41 7<|p1 42 (.b2s 41)<|p1 43 (.bld [(0,1),(1,1)] [(BC []),(BC [])] [(0,40),(1,42)])<|o1 44 (.bsl 1 2 [(BC []),(BC [])] [(0,43)])<|o1 45 (.app 2 32 [(BC []),(BC [])] 34 44) (.bar (pm 5 45 .done))))))) (rG (om 16 6<|ob 17 .add 16 z1<|om 6 17 .done))))))) (sR (om 46 4<|om 47 5<|om 2 46<|om 3 47 .done) .ret)))))⟩
set_option maxRecDepth 4000 in
def Vz{f1}(hd:dec P f=some (JG f1))(h1:OQ P f1):Mx P f:=by
 intro d w l hw;have hwl:=hw.Bt;obtain⟨a,c,rfl⟩:=hw.val;refine AK hd (Aca Z) ?_;show gwp P _ _ _ _ _;apply Ag;apply AI;refine BA d (emp::emp::[]) (Vs.emp.trans Vs.emp) ?_;refine Ak Z<|Ak Z<|Aa<|Ad<|Ak Z<|Aa<|Ad<|Ak Z<|Aa<|Ag<|Ad<|Ac Z<|Aa<|Az<|BM (α:=PrS) (fun x=>[(0,.slice a l.length c),(4,.slice x.aa x.i x.ac),(5,.slice x.ba x.i x.bc),(6,vZ x.i)])
  (fun x d' L'=>Le d d'∧∃ha hb,L'=[ha,hb]∧x.i≤l.length∧x.i≤60∧An 2 RBp d' (.slice x.aa x.i x.ac) (Dy (l.take x.i)) ha∧An 2 RKv d' (.slice x.ba x.i x.bc) (Dy (l.take x.i)) hb)
  (fun x=>60 - x.i) ⟨0,none,0,none,0⟩ ⟨Z,Z,Z,Z,trivial⟩ ⟨Le.refl _,emp,emp,Z,Adf _,Adf _,An.nil,An.nil⟩ ?_
 rintro⟨i,aa,ac,ba,bc⟩ ρ d' L' ⟨hle,ha,hb,rfl,hi,h60,ga,gb⟩;simp only at hi h60 ga gb⊢;by_cases e:i<l.length
 ·by_cases e2:i<60
  ·have hpl:(Dy (l.take i)).length=i:=by simp[Dy];omega
   have hpe:Dy (l.take (i+1))=Dy (l.take i)++[(l[i].1,l[i].2.take 700)]:=by
    unfold Dy;rw[Ahh,Ahh,Nat.min_eq_right (by omega),Nat.min_eq_right (by omega),Acp e,Adl];rfl
   refine Ag<|Ad<|Ac Z<|Ak Z<|AO Z<|AA Z Z<|Af Z<|A4 Z (by omega)<|Ae Z<|Ac Z<|Ae Z<|AA Z Z<|Ay Z Z<|Aa<|AF Z (by omega)<|Al<|Ag<|Az<|Ad<|Ak Z<|Ac Z<|A0 (m:=i) Z (RSl.mono (R:=RBp) Cl hw hle) Z Z e (fun b1 o1 cs1 hcl1 hdc1 ⟨k1,v1,q1,hk1,hv1⟩=>?_);subst q1;obtain⟨ka,kc,rfl⟩:=hk1.val;refine Aj Z<|Ai Z (Bf (by assumption) Z)<|Be [_,_] (h1 hv1 (show 700≤1000000 by omega)) Z Z (fun r d3 L3 hl3 ⟨e3,e4,hr⟩=>?_);subst e3;subst e4;obtain⟨ra,rc,rfl⟩:=hr.val;refine Ak Z<|Aa<|Ad<|Ak Z<|Ak Z<|Ac Z<|A0 (m:=i) Z (RSl.mono (R:=RBp) Cl hw hle) Z Z e (fun b2 o2 cs2 hcl2 hdc2 ⟨k2,v2,q2,hk2,hv2⟩=>?_);subst q2;obtain⟨k2a,k2c,rfl⟩:=hk2.val;refine Aj Z<|Ai Z (Bf (by assumption) Z)<|Ak Z<|Ch Z<|Y2 Z (fun b32 T32=>?_);refine Ep (R:=RBp) (ys:=[(l[i].1,l[i].2.take 700)]) 0 Z Z ga Z (An.D7 (R:=RBp) (x:=(l[i].1,l[i].2.take 700)) Z ⟨_,_,Z,hk2,hr⟩) R7 (by omega) (by simp;omega) (by simp;omega) (fun v33 ha' oa=>?_);obtain⟨pa,pc,rfl⟩:=oa.val;have hpl1:(Dy (l.take (i+1))).length=i+1:=by rw[hpe];simp;omega
   rw[←hpe,hpl1] at oa;rw[←hpe,hpl1];refine Ak Z<|Aa<|BX [ha'] [hb] Z ?_;refine Ak Z<|Ak Z<|Ac Z<|A0 (m:=i) Z (RSl.mono (R:=RBp) Cl hw hle) Z Z e (fun b4 o4 cs4 hcl4 hdc4 ⟨k4,v4,q4,hk4,hv4⟩=>?_);subst q4;obtain⟨k4a,k4c,rfl⟩:=hk4.val;refine Aj Z<|Ai Z (Bf (by assumption) Z)<|FU Z (by assumption)<|Ak Z<|FU Z (by assumption)<|Ch Z<|Abv (a:=l[i].1) (b:=l[i].2.take 700) Z (fun b44 T44=>?_);refine Ep (R:=RKv) (ys:=[(l[i].1,l[i].2.take 700)]) 0 Z Z gb Z (An.D7 (R:=RKv) (x:=(l[i].1,l[i].2.take 700)) Z ⟨Z,hk4.Bt,hr.Bt⟩) Yr (by omega) (by simp;omega) (by simp;omega) (fun v45 hb' ob=>?_);obtain⟨qa,qc,rfl⟩:=ob.val;rw[←hpe,hpl1] at ob;rw[←hpe,hpl1];(refine Du<|Ak Z<|Aa<|AI<|Ac Z<|AY Z Z (by omega) (by omega)<|Ac Z<|Aa ?_);exact⟨⟨i+1,pa,pc,qa,qc⟩,(by show 60 - (i+1)<60 - i;omega),⟨Z,Z,Z,Z,trivial⟩,hle,ha',hb',Z,e,e2,oa,ob⟩
  ·have hpf:Dy (l.take i)=Dy l:=by unfold Dy;rw[Ahh,Agq (by omega)]
   rw[hpf] at ga gb;(refine Ag<|Ad<|Ac Z<|Ak Z<|AO Z<|AA Z Z<|Af Z<|A4 Z (by omega)<|Ae Z<|Ac Z<|Ae Z<|AA Z Z<|Ay Z Z<|Aa<|Aw Z (by omega)<|Ba<|Ad<|Ak Z<|Ak Z<|Ak Z<|Ak Z<|Aa<|Ao ?_);exact AaW [.slice aa i ac,.slice ba i bc] ⟨Ar Z,Ar Z,trivial⟩ (fun d4 hl4 hL4=>⟨hle.trans hl4,Z,_,_,Z,An.rsl (R:=RBp) ga Cl (by omega) hl4 (hL4 _ (by simp)),An.rsl (R:=RKv) gb IV (by omega) hl4 (hL4 _ (by simp))⟩)
 ·have hpf:Dy (l.take i)=Dy l:=by rw[show i=l.length by omega,Aec]
  rw[hpf] at ga gb;(refine Ag<|Ad<|Ac Z<|Ak Z<|AO Z<|AA Z Z<|Af Z<|A1 Z (by omega)<|Am Z<|Am Z<|Av Z Z<|Aa<|AS Z<|Ba<|Ad<|Ak Z<|Ak Z<|Ak Z<|Ak Z<|Aa<|Ao ?_);exact AaW [.slice aa i ac,.slice ba i bc] ⟨Ar Z,Ar Z,trivial⟩ (fun d4 hl4 hL4=>⟨hle.trans hl4,Z,_,_,Z,An.rsl (R:=RBp) ga Cl (by omega) hl4 (hL4 _ (by simp)),An.rsl (R:=RKv) gb IV (by omega) hl4 (hL4 _ (by simp))⟩)
def TO(h:NU P f){s dv pv L}(hp:PgT d s dv pv L):C2 P f [pv] d L (vZ s.free):=by
 obtain⟨n,hp⟩:=hp;exact h (s:=wtc s n) hp
def Za(n:Nat):(pdN n).free=n:=by
 show(List.replicate n (0:Int)).countP (·==0)=n;rw[List.countP_replicate];simp
def ZS(x:KV):inR [] [] x=true:=by
 unfold inR;cases x.1<;>simp[Op.bytesLess]
def ZF{M:Nat}{l}(h:l.length≤M):Bl [] [] M l=l:=by
 unfold Bl;rw[List.filter_eq_self.2 (fun x _=>ZS x),List.take_of_length_le h]
def WG(l:List KV):(Dy l).length≤60:=by unfold Dy;simp;omega
def H4(a0 a1 a2 a3 a4 a5 a6 a7 a8 a9 a10:Nat):A3:=⟨131,[(.tmp 4)],(sR (o1 4 (.mv (.const (.bool false))) .done) (sR (om 18 0<|o1 19 (.cvi .u64 18)<|ob 20 .rem 19 (.const (.int .u64 300))<|o1 21 (.cvi .i64 20)<|ob 22 .add z1 21<|om 5 22 .done) (sR (om 24 5<|oc 25 a0 [24]<|om 23 25<|oe 26 23 0<|oe 27 23 1<|om 6 26<|om 7 27 .done) (.seq (sR (om 28 7<|o1 29 (.eqp false 28 (.const (.pointer none))) .done) (.cond 29 (sR (o1 4 (.mv (.const (.bool false))) .done) .ret) .skip)) (sR (om 31 1<|oc 32 a1 [31]<|om 30 32<|oe 33 30 0<|oe 34 30 1<|om 8 33<|om 9 34 .done) (sR (om 36 9<|oc 37 a2 [36]<|om 35 37<|oe 38 35 0<|oe 39 35 1<|om 10 38<|om 11 39 .done) (sR (om 40 10<|ob 41 .quo 40 (kZ 64)<|ob 42 .add z2 41<|om 43 11<|ob 44 .add 42 43<|om 12 44 .done) (sR (om 46 6<|om 47 8<|oc 48 a3 [46,47]<|om 45 48<|oe 49 45 0<|oe 50 45 1<|om 13 49<|om 14 50 .done) (sR (om 51 9<|oc 52 a4 [51]<|om 15 52 .done) (.seq (sR (om 53 15<|ob 54 .neq 53 z0 .done) (.cond 54 (sR (om 55 14<|om 56 15<|ob 57 .eql 55 56<|om 58 57<|gT 59 58 13<|oT 60 58 (.eqp false 59 (.const (.pointer none)))<|gP 61 58 60<|om 62 61<|gT 63 62 6<|oT 64 62 (.call a5 [63])<|gT 65 62 5<|oT 66 62 (.bin .eql 64 65)<|gP 67 62 66<|om 68 67<|oT 69 68 (.call a6 [])<|gP 70 68 69<|om 4 70 .done) .ret) .skip)) (.seq (sR (om 71 14<|ob 72 .eql 71 (kZ 190) .done) (.cond 72 (sR (om 73 5<|om 74 12<|ob 75 .lss 73 74<|om 76 75<|gT 77 76 13<|oT 78 76 (.eqp false 77 (.const (.pointer none)))<|gP 79 76 78<|om 80 79<|gT 81 80 6<|oT 82 80 (.call a5 [81])<|gT 83 80 5<|oT 84 80 (.bin .eql 82 83)<|gP 85 80 84<|om 86 85<|oT 87 86 (.call a6 [])<|gP 88 86 87<|om 4 88 .done) .ret) .skip)) (.seq (sR (om 89 14<|ob 90 .neq 89 z0<|om 91 90<|gF 92 91 13<|oF 93 91 (.eqp false 92 (.const (.pointer none)))<|o1 94 (.pick 91 (.const (.bool true)) 93)<|om 95 94<|gF 96 95 5<|gF 97 95 6<|oF 98 95 (.call a5 [97])<|oF 99 95 (.bin .sub 96 98)<|gF 100 95 12<|oF 101 95 (.bin .gtr 99 100)<|o1 102 (.pick 95 (.const (.bool true)) 101)<|om 103 102<|gF 104 103 13<|gF 105 103 9<|oF 106 103 (.call a7 [104,105])<|oF 107 103 (.un .not 106)<|o1 108 (.pick 103 (.const (.bool true)) 107)<|om 109 108<|gF 110 109 6<|gF 111 109 13<|oF 112 109 (.call a8 [110,111])<|oF 113 109 (.bin .neq 112 z0)<|o1 114 (.pick 109 (.const (.bool true)) 113) .done) (.cond 114 (sR (o1 4 (.mv (.const (.bool false))) .done) .ret) .skip)) (sR (om 116 6<|om 117 13<|oc 118 a9 [116,117,nS,nS,(kZ 100)]<|om 115 118<|oe 119 115 0<|oe 120 115 1<|om 16 119<|om 17 120 .done) (sR (om 121 17<|ob 122 .eql 121 z0<|om 123 122<|gT 124 123 16<|gT 125 123 9<|oT 126 123 (.call a10 [124,125])<|gP 127 123 126<|om 128 127<|oT 129 128 (.call a6 [])<|gP 130 128 129<|om 4 130 .done) .ret))))))))))))))⟩
set_option maxRecDepth 4000 in
set_option maxHeartbeats 1000000 in
def bulkLoads{f1 f2 f3 f4 f5 f6 f7 f8 f9 f10 f11}(hd:dec P f=some (H4 f1 f2 f3 f4 f5 f6 f7 f8 f9 f10 f11))(h1:Ir P f1)(h2:Mx P f2)(h3:Je P f3)(h4:Lo P f4)(h5:Jo P f5)(h6:NU P f6)(h7:TP P f7)(h8:QA P f8)(h9:I8 P f9)(h10:GP P f10)(h11:J8 P f11)
  {d w ps}{pg:Int}(hw:RSl 2 RBp d w ps):AB P f [vZ pg,w] d [] (Ret fun r _ _=>r=.bool true):=by
 have hwl:=hw.Bt
 obtain⟨m0,hm,hm12⟩:=Z9 pg 300 (by omega)
 replace hm:pg % 18446744073709551616 % 300=(m0:Int):=hm
 have hni:1+pg % 18446744073709551616 % 300=((1+m0:Nat):Int):=by omega
 refine AK hd (Aca Z) ?_
 show gwp P _ _ _ _ _
 (refine Ad<|Af Z<|Aa<|Ad<|Ac Z<|Aa3 Z<|Va Z Z (by omega) (by omega)<|DR Z (by omega) (by omega)<|AY Z Z (by omega) (by omega)<|Ac Z<|Aa<|Ad<|Ac Z ?_)
 rw[hni]
 refine Cz (L:=[]) (h1 (n:=1+m0) (by omega) (by omega)) Z (fun u d1 L1 hl1 ⟨bt,Tt,bd,bp,L2,q1,q2,hp⟩=>?_)
 subst q1;subst q2
 have hG:Pgr.Good (pdN (1+m0)):=hp.GL
 have hp:=PgT.of hp
 have hfr:=Za (1+m0)
 refine BA d1 L2 (Vs.drop (.cons _ (Acd _))) ?_
 (refine AU Z<|Ap Z Z<|Ap Z Z<|Ah Z<|Ah Z<|Aa<|Ag<|Ad<|Ah Z<|BZ Z Z<|Aa<|AS Z<|Al<|Ad<|AQ ?_)
 refine CF Z (h2 (RSl.mono (R:=RBp) Cl hw hl1)) (fun v d2 L3 hl2 ⟨_,q1,u,u',q2,hu,hu'⟩=>?_)
 subst q1;subst q2
 have hB:=WG ps
 have hcz:=Ut (RA hu')
 generalize Dy ps=B at hu hu' hB hcz
 have hz1:B.length*140737488355400≤60*140737488355400:=Adp _ hB
 obtain⟨ua,uc,rfl⟩:=hu.val
 obtain⟨va,vc,rfl⟩:=hu'.val
 (refine AU Z<|Ap Z Z<|Ap Z Z<|Ak Z<|Ak Z<|Aa<|Ad<|Ak Z ?_)
 refine Br Z (h3 hu' (by omega)) ?_
 have hmost:(I7 B:Int)=2+(czL B:Int) / 64+(cpL B:Int):=by unfold I7;omega
 (refine AU Z<|Ap Z Z<|Ap Z Z<|Ac Z<|Ac Z<|Aa<|Ad<|Ac Z<|Y5 Z Z (by omega) (by omega) (by omega)<|AY Z Z (by omega) (by omega)<|Ac Z<|AY Z Z (by omega) (by omega)<|Ac Z<|Aa<|Ad<|Ah Z<|Ak Z ?_)
 have hp2:=hp.mono hl2
 refine Be [] (h4 hp2 hu (by omega)) Z Z (fun v d3 L5 hl3 ⟨_,L6,hp6,hr⟩=>?_)
 have hu':=RSl.mono (R:=RKv) IV hu' hl3
 have hwr:=h5 hu'
 have hu:=RSl.mono (R:=RBp) Cl hu hl3
 by_cases hw0:Cx B=0
 ·rcases TH (s:=pdN (1+m0)) (l:=B) hG hw0 with ⟨q1,P1,q2,q3,q4⟩|⟨q1,q2,q3⟩
  ·obtain⟨bt2,Tt2,e1,e2⟩:∃bt2 Tt2,v=.tuple #[pZ bt2,vZ 0]∧L5=tbD bt2 Tt2 (pZ bp) (CT (pdN (1+m0)) B).2::L6:=by
    rcases hr with ⟨_,r⟩|⟨r,_⟩
    ·exact r
    ·exact absurd q1 r
   subst e1;subst e2
   have hfr3:=q3.fr
   rw[hfr] at hfr3
   generalize (CT (pdN (1+m0)) B).2=t at q2 hp6 hfr3⊢
   rw[hw0] at hwr
   clear hr q1 q3 q4 hfr
   (refine AU Z<|Ap Z Z<|Ap Z Z<|Ah Z<|Ac Z<|Aa<|Ad<|Ak Z ?_)
   refine Br Z hwr ?_
   (refine Ac Z<|Aa<|Ag<|Ad<|Ac Z<|AW Z Z<|Aa<|Aw Z (by omega)<|Al<|Ag<|Ad<|Ac Z<|AT Z Z<|Aa<|Aw Z (by omega)<|Al<|Ag<|Ad<|Ac Z<|AW Z Z<|Af Z<|A1 Z (by omega)<|Ae Z<|Ah Z<|Ae Z<|BZ Z Z<|Av Z Z<|Af Z<|Ae Z<|Ac Z<|Ae Z<|Ah Z<|Ae Z ?_)
   refine B9 [_] (TO h6 hp6) Z Z ?_
   obtain⟨hkl,hth⟩:=q2.far (by omega)
   have hct:=q2.ct
   have hfb:t.s.free≤t.s.kinds.length:=List.countP_le_length
   have hfl:=q2.gd.len
   (refine Ae Z<|CP Z Z (by omega) (by omega)<|Ae Z<|Ac Z<|Ae Z<|Bb Z Z<|Av Z Z<|Af Z<|A1 Z (by omega)<|Ae Z<|Ah Z<|Ae Z<|Ak Z<|Ae Z ?_)
   refine Be [] (h8 (root:=t.root) (h:=t.height) (c:=t.count) (Tt:=Tt2) hp6 hu' (by omega) (by omega)) Z Z (fun v d7 L7 hl7 ⟨_,e1,L8,e2,hp8⟩=>?_)
   rw[show Hg ⟨t.s,t.root,t.height,t.count⟩ B=true from q2.has] at e1
   subst e1;subst e2
   (refine Ae Z<|Bd Z<|Av Z Z<|Af Z<|Ae Z<|Ah Z<|Ae Z<|Ah Z<|Ae Z ?_)
   refine Be [] (Zj (c:=0) h9 q2 (by omega) (.inl Z) (by omega) hp8) Z Z (fun v d9 L9 hl9 ⟨_,e1,L10,e2,hp10⟩=>?_)
   rw[if_pos Z] at e1
   subst e1;subst e2
   refine BA d9 (tbD bt2 Tt2 (pZ bp) t::L10) (Vs.refl _ _) ?_
   (refine Ae Z<|AW Z Z<|Av Z Z<|Aa<|Aw Z (by omega)<|Al<|Ad<|Ah Z<|Ah Z ?_)
   refine Be [] (Ov h10 (M:=100) q2 (by omega) hp10 RSl.nil RSl.nil) Z Z (fun v d11 L11 hl11 ⟨_,rv,L12,e1,hrv,e2,hp12⟩=>?_)
   subst e1;subst e2
   rw[ZF (by omega)] at hrv
   obtain⟨ra,rc,rfl⟩:=hrv.val
   have hpu:=h11 hrv (RSl.mono (R:=RKv) IV hu' ((hl7.trans hl9).trans hl11))
   rw[decide_eq_true Z] at hpu
   clear q2 hkl hth hct hu hu' hrv hcz
   (refine AU Z<|Ap Z Z<|Ap Z Z<|Ak Z<|Ac Z<|Aa<|Ad<|Ac Z<|AT Z Z<|Af Z<|A4 Z (by omega)<|Ae Z<|Ak Z<|Ae Z<|Ak Z<|Ae Z ?_)
   refine Br Z hpu ?_
   clear hpu
   (refine Ay Z Z<|Af Z<|Ae Z ?_)
   refine CF Z h7 (fun v d13 L13 hl13 ⟨q7,q8⟩=>?_)
   subst q7;subst q8
   (refine Ay Z Z<|Af Z<|Aa<|Ao ?_)
   exact Ci Z (Adj _) Z
  ·obtain⟨e1,e2⟩:v=.tuple #[.pointer none,vZ 190]∧L5=L6:=by
    rcases hr with ⟨r,_⟩|⟨_,r⟩
    ·rw[q1] at r;exact absurd r (by decide)
    ·rw[q1] at r;exact r
   subst e1;subst e2
   rw[hfr] at q2 q3
   rw[hw0] at hwr
   have hg6:=TO h6 hp6
   rw[q2] at hg6
   have hlt:((1+m0:Nat):Int)<2+(czL B:Int) / 64+(cpL B:Int):=by omega
   clear hr q1 hp6 q2 q3 hmost
   (refine AU Z<|Ap Z Z<|Ap Z Z<|Ah Z<|Ac Z<|Aa<|Ad<|Ak Z ?_)
   refine Br Z hwr ?_
   (refine Ac Z<|Aa<|Ag<|Ad<|Ac Z<|AW Z Z<|Aa<|Aw Z (by omega)<|Al<|Ag<|Ad<|Ac Z<|AT Z Z<|Aa<|AF Z (by omega)<|Ad<|Ac Z<|Ac Z<|AA Z Z<|Af Z<|A4 Z (by omega)<|Ae Z<|Ah Z<|Ae Z<|KT Z Z<|Ay Z Z<|Af Z<|Ae Z<|Ah Z<|Ae Z ?_)
   refine B9 [] hg6 Z Z ?_
   clear hg6
   (refine Ae Z<|Ac Z<|Ae Z<|AT Z Z<|Ay Z Z<|Af Z<|A4 Z (by omega)<|Ae Z ?_)
   refine CF Z h7 (fun v d13 L13 hl13 ⟨q7,q8⟩=>?_)
   subst q7;subst q8
   (refine Ay Z Z<|Af Z<|Aa<|Ao ?_)
   exact Ci Z (Adj _) Z
 ·have hF:CT (pdN (1+m0)) B=(Cx B,⟨pdN (1+m0), -1,0,0⟩):=by unfold CT;rw[if_pos hw0]
  rw[hF] at hp6 hr
  obtain⟨e1,e2⟩:v=.tuple #[.pointer none,vZ (Cx B)]∧L5=L6:=by
   rcases hr with ⟨r,_⟩|⟨_,r⟩
   ·exact absurd r hw0
   ·exact r
  subst e1;subst e2
  have hg6:=TO h6 hp6
  rw[show(Cx B,(⟨pdN (1+m0), -1,0,0⟩:TD)).2.s=pdN (1+m0) from Z,hfr] at hg6
  generalize Cx B=e0 at hwr hw0
  clear hr hF hp6 hmost hcz hu hu'
  (refine AU Z<|Ap Z Z<|Ap Z Z<|Ah Z<|Ac Z<|Aa<|Ad<|Ak Z ?_)
  refine Br Z hwr ?_
  (refine Ac Z<|Aa<|Ag<|Ad<|Ac Z<|AW Z Z<|Aa<|AF Z (by omega)<|Ad<|Ac Z<|Ac Z<|AT Z Z<|Af Z<|A4 Z (by omega)<|Ae Z<|Ah Z<|Ae Z<|KT Z Z<|Ay Z Z<|Af Z<|Ae Z<|Ah Z<|Ae Z ?_)
  refine B9 [] hg6 Z Z ?_
  clear hg6
  (refine Ae Z<|Ac Z<|Ae Z<|AT Z Z<|Ay Z Z<|Af Z<|A4 Z (by omega)<|Ae Z ?_)
  refine CF Z h7 (fun v d13 L13 hl13 ⟨q7,q8⟩=>?_)
  subst q7;subst q8
  (refine Ay Z Z<|Af Z<|Aa<|Ao ?_)
  exact Ci Z (Adj _) Z
set_option maxRecDepth 4000 in
set_option maxHeartbeats 1000000 in
def Vb{f1 f2 f3 f4}(hd:dec P f=some (Js f1 f2 f3 f4))(h1:Ir P f1)(h2:Lo P f2)(h3:GP P f3)(h4:GU P f4):TP P f:=by
 intro d;refine AK hd (Aca rfl) ?_;show gwp P _ _ _ _ _;(refine Ad<|Af rfl<|Aa<|Ad ?_);refine Cz (L:=[]) (h1 (n:=9) (by omega) (by omega)) rfl (fun u d1 L1 hl1 ⟨bt,Tt,bd,bp,L2,q1,q2,hp⟩=>?_);subst q1;subst q2;have hG:Pgr.Good (pdN 9):=hp.GL;(refine AU rfl<|Ap rfl rfl<|Ap rfl rfl<|Ah rfl<|Ah rfl<|Aa<|Ag<|Ad<|Ah rfl<|BZ rfl rfl<|Aa<|AS rfl<|Al<|Ad<|Ah rfl ?_);refine Db (v0:=As 1) rfl rfl (fun b1 T1=>?_);refine BA (join d1 (bx b1 T1 [As 1])) _ Vs.freeze ?_;have k1:AH (join d1 (bx b1 T1 [As 1])) _ [1]:=G9 1;have hp:=hp.mono (Le.Au d1 (bx b1 T1 [As 1]));generalize join d1 (bx b1 T1 [As 1])=d2 at k1 hp;refine Db (v0:=As 9) rfl rfl (fun b2 T2=>?_);refine BA (join d2 (bx b2 T2 [As 9])) _ Vs.freeze ?_;have k2:AH (join d2 (bx b2 T2 [As 9])) _ [9]:=G9 9;have hp:=hp.mono (Le.Au d2 (bx b2 T2 [As 9]));have k1:=RSl.mono (R:=AE) AP k1 (Le.Au d2 (bx b2 T2 [As 9]));generalize join d2 (bx b2 T2 [As 9])=d3 at k1 k2 hp;refine RE rfl rfl ?_;refine Db (v0:=As 2) rfl rfl (fun b3 T3=>?_);refine BA (join d3 (bx b3 T3 [As 2])) _ Vs.freeze ?_;have k3:AH (join d3 (bx b3 T3 [As 2])) _ [2]:=G9 2;have hp:=hp.mono (Le.Au d3 (bx b3 T3 [As 2]));have k1:=RSl.mono (R:=AE) AP k1 (Le.Au d3 (bx b3 T3 [As 2]));have k2:=RSl.mono (R:=AE) AP k2 (Le.Au d3 (bx b3 T3 [As 2]));generalize join d3 (bx b3 T3 [As 2])=d4 at k1 k2 k3 hp;refine Db (v0:=As 8) rfl rfl (fun b4 T4=>?_);refine BA (join d4 (bx b4 T4 [As 8])) _ Vs.freeze ?_;have k4:AH (join d4 (bx b4 T4 [As 8])) _ [8]:=G9 8;have hp:=hp.mono (Le.Au d4 (bx b4 T4 [As 8]));have k1:=RSl.mono (R:=AE) AP k1 (Le.Au d4 (bx b4 T4 [As 8]));have k2:=RSl.mono (R:=AE) AP k2 (Le.Au d4 (bx b4 T4 [As 8]));have k3:=RSl.mono (R:=AE) AP k3 (Le.Au d4 (bx b4 T4 [As 8]));generalize join d4 (bx b4 T4 [As 8])=d5 at k1 k2 k3 k4 hp;refine RE rfl rfl ?_;refine Vx rfl rfl (fun b5 T5=>?_);refine BA (join d5 (bx b5 T5 _)) _ Vs.freeze ?_;have hw:RSl 2 RBp (join d5 (bx b5 T5 [.slice (some ⟨b1,0,none⟩) 1 1,.slice (some ⟨b2,0,none⟩) 1 1,.slice (some ⟨b3,0,none⟩) 1 1,.slice (some ⟨b4,0,none⟩) 1 1])) _ wl2:=
  YH (RSl.mono (R:=AE) AP k1 (Le.Au _ _)) (RSl.mono (R:=AE) AP k2 (Le.Au _ _)) (RSl.mono (R:=AE) AP k3 (Le.Au _ _)) (RSl.mono (R:=AE) AP k4 (Le.Au _ _)) (Le.AZ _ _)
 have hp:=hp.mono (Le.Au d5 (bx b5 T5 [.slice (some ⟨b1,0,none⟩) 1 1,.slice (some ⟨b2,0,none⟩) 1 1,.slice (some ⟨b3,0,none⟩) 1 1,.slice (some ⟨b4,0,none⟩) 1 1]));generalize join d5 (bx b5 T5 _)=d6 at hw hp;clear k1 k2 k3 k4;have hp:=PgT.of hp;rcases TH (s:=pdN 9) (l:=wl2) hG Xa with ⟨q1,P1,q2,q3,q4⟩|⟨_,_,q3⟩
 rotate_left
 ·rw[ZI,Zk] at q3;omega
 refine BA d6 L2 (Vs.drop (.cons _ (Acd _))) ?_;refine Be [] (h2 hp hw (by decide)) rfl rfl (fun v d7 L7 hl7 ⟨_,L8,hp8,hr⟩=>?_);obtain⟨bt2,Tt2,e1,e2⟩:∃bt2 Tt2,v=.tuple #[pZ bt2,vZ 0]∧L7=tbD bt2 Tt2 (pZ bp) (CT (pdN 9) wl2).2::L8:=by
  rcases hr with ⟨_,r⟩|⟨r,_⟩
  ·exact r
  ·exact absurd q1 r
 subst e1;subst e2;have hct:=q2.ct;generalize (CT (pdN 9) wl2).2=t at q2 hp8 hct⊢;clear hr q1 q3 q4 hw hp;(refine AU rfl<|Ap rfl rfl<|Ap rfl rfl<|Ah rfl<|Ac rfl<|Aa<|Ag<|Ad<|Ac rfl<|AW rfl rfl<|Af rfl<|A1 rfl (by omega)<|Ae rfl<|Ah rfl<|Ae rfl<|BZ rfl rfl<|Av rfl rfl<|Aa<|AS rfl<|Al<|Ad<|Ah rfl<|Ah rfl ?_);refine Db (v0:=As 1) rfl rfl (fun b11 T11=>?_);refine BA (join d7 (bx b11 T11 [As 1])) _ Vs.freeze ?_;have k1:AH (join d7 (bx b11 T11 [As 1])) _ [1]:=G9 1;have hp8:=hp8.mono (Le.Au d7 (bx b11 T11 [As 1]));generalize join d7 (bx b11 T11 [As 1])=d8 at k1 hp8;refine Db (v0:=As 2) rfl rfl (fun b12 T12=>?_);refine BA (join d8 (bx b12 T12 [As 2])) _ Vs.freeze ?_;have k2:AH (join d8 (bx b12 T12 [As 2])) _ [2]:=G9 2;have hp8:=hp8.mono (Le.Au d8 (bx b12 T12 [As 2]));have k1:=RSl.mono (R:=AE) AP k1 (Le.Au d8 (bx b12 T12 [As 2]));generalize join d8 (bx b12 T12 [As 2])=d9 at k1 k2 hp8;refine Be [] (Ov h3 (M:=5) q2 (by decide) hp8 k1 k2) rfl rfl (fun v d10 L10 hl10 ⟨_,rv,L11,e1,hrv,e2,hp11⟩=>?_);subst e1;subst e2;rw[Aa1] at hrv;obtain⟨ra,rc,rfl⟩:∃ra rc,rv=.slice ra 1 rc:=hrv.val;(refine AU rfl<|Ap rfl rfl<|Ap rfl rfl<|Ak rfl<|Ac rfl<|Aa<|Ad<|Ah rfl<|Ah rfl ?_);refine Be [] (Ov h3 (M:=5) q2 (by decide) hp11 RSl.nil RSl.nil) rfl rfl (fun v d12 L12 hl12 ⟨_,sv,L13,e1,hsv,e2,hp13⟩=>?_);subst e1;subst e2;rw[Aaq] at hsv;obtain⟨sa,sc,rfl⟩:∃sa sc,sv=.slice sa 2 sc:=hsv.val;have hrv:=RSl.mono (R:=RBp) Cl hrv hl12;(refine AU rfl<|Ap rfl rfl<|Ap rfl rfl<|Ak rfl<|Ac rfl<|Aa<|Ad<|Ah rfl ?_);refine Db (v0:=As 2) rfl rfl (fun b21 T21=>?_);refine BA (join d12 (bx b21 T21 [As 2])) _ Vs.freeze ?_;have k3:AH (join d12 (bx b21 T21 [As 2])) _ [2]:=G9 2;have hp13:=hp13.mono (Le.Au d12 (bx b21 T21 [As 2]));have hrv:=RSl.mono (R:=RBp) Cl hrv (Le.Au d12 (bx b21 T21 [As 2]));generalize join d12 (bx b21 T21 [As 2])=d14 at k3 hp13 hrv;refine Tl rfl ?_;refine Db (v0:=As 1) rfl rfl (fun b22 T22=>?_);refine BA (join d14 (bx b22 T22 [As 1])) _ Vs.freeze ?_;have k4:AH (join d14 (bx b22 T22 [As 1])) _ [1]:=G9 1;have hp13:=hp13.mono (Le.Au d14 (bx b22 T22 [As 1]));have hrv:=RSl.mono (R:=RBp) Cl hrv (Le.Au d14 (bx b22 T22 [As 1]));have k3:=RSl.mono (R:=AE) AP k3 (Le.Au d14 (bx b22 T22 [As 1]));generalize join d14 (bx b22 T22 [As 1])=d15 at k3 k4 hp13 hrv;refine Tl rfl ?_;refine Vx rfl rfl (fun b23 T23=>?_);refine BA (join d15 (bx b23 T23 _)) _ Vs.freeze ?_;have hw2:RSl 2 RBp (join d15 (bx b23 T23 [.slice (some ⟨b21,0,none⟩) 1 1,nV,.slice (some ⟨b22,0,none⟩) 1 1,nV])) _ wl1:=
  YH (RSl.mono (R:=AE) AP k3 (Le.Au _ _)) RSl.nil (RSl.mono (R:=AE) AP k4 (Le.Au _ _)) RSl.nil (Le.AZ _ _)
 have hp13:=hp13.mono (Le.Au d15 (bx b23 T23 [.slice (some ⟨b21,0,none⟩) 1 1,nV,.slice (some ⟨b22,0,none⟩) 1 1,nV]));have hrv:=RSl.mono (R:=RBp) Cl hrv (Le.Au d15 (bx b23 T23 [.slice (some ⟨b21,0,none⟩) 1 1,nV,.slice (some ⟨b22,0,none⟩) 1 1,nV]));generalize join d15 (bx b23 T23 _)=d16 at hw2 hp13 hrv;refine Be [_] (h2 hp13 hw2 (by decide)) rfl rfl (fun v d17 L17 hl17 ⟨_,L18,hp18,hr⟩=>?_);have hw1:(CT t.s wl1).1=2:=by unfold CT;rw[Wu];rfl
 rw[hw1] at hr;obtain⟨e1,e2⟩:v=.tuple #[.pointer none,vZ 2]∧L17=L18:=by
  rcases hr with ⟨r,_⟩|⟨_,r⟩
  ·exact absurd r (by decide)
  ·exact r
 subst e1;subst e2;clear hr hw1;have hrv:=RSl.mono (R:=RBp) Cl hrv hl17;(refine AU rfl<|Ap rfl rfl<|Ap rfl rfl<|Ah rfl<|Ac rfl<|Aa<|Ad<|Ac rfl<|AT rfl rfl<|Af rfl<|A4 rfl (by omega)<|Ae rfl<|Ak rfl<|Ae rfl<|AO rfl<|Ae rfl<|AT rfl rfl<|Ay rfl rfl<|Af rfl<|A4 rfl (by omega)<|Ae rfl<|Ak rfl<|Ae rfl ?_);refine A0 (R:=RBp) (m:=0) rfl hrv rfl rfl (by decide) (fun b31 o31 cs31 hcl31 hd31 ⟨ku,vu,q31,hk31,hv31⟩=>?_);have hv31:AH d17 vu [9]:=hv31;subst q31;obtain⟨va,vc,rfl⟩:∃va vc,vu=.slice va 1 vc:=hv31.val;have hct:t.count=2:=hct;have g4:C2 P f4 [pZ bt2] d17 (tbD bt2 Tt2 (pZ bp) t::L17) (vZ ((2:Nat):Int)):=by
  have:=h4 (d:=d17) (t:=t) (bt:=bt2) (pb:=bp) (Tt:=Tt2) (L:=L17);simpa only[hct] using this
 (refine Ae rfl<|Aj rfl<|Ae rfl<|Ai rfl (Bf (by assumption) rfl)<|Ae rfl<|FU rfl (by assumption)<|Ae rfl<|YF rfl rfl<|Ay rfl rfl<|Af rfl<|A4 rfl (by with_reducible rfl)<|Ae rfl<|Ac rfl<|Ae rfl<|AT rfl rfl<|Ay rfl rfl<|Af rfl<|A4 rfl (by omega)<|Ae rfl<|Ak rfl<|Ae rfl<|AO rfl<|Ae rfl<|AT rfl rfl<|Ay rfl rfl<|Af rfl<|A4 rfl (by omega)<|Ae rfl<|Ac rfl<|Ae rfl<|AT rfl rfl<|Ay rfl rfl<|Af rfl<|A4 rfl (by omega)<|Ae rfl<|Ah rfl<|Ae rfl<|KT rfl rfl<|Ay rfl rfl<|Af rfl<|Ae rfl<|Ah rfl<|Ae rfl ?_);refine B9 [] g4 rfl rfl ?_;(refine Ae rfl<|AT rfl rfl<|Ay rfl rfl<|Af rfl<|Aa<|Ao ?_);exact A9 [.bool true] ⟨Ar rfl,trivial⟩ (d':=d17) (L':=[]) (Vs.drop (Adj _)) ⟨rfl,rfl⟩
end Go.Gk.Tre
end
