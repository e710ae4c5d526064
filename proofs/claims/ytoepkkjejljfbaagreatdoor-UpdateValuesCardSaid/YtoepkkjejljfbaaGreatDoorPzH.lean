/-
  Our own texts, one behind the other: GkZ7 GkZ8 GkYH GkZ2 GkZ3.
-/
import Derived.Test.YtoepkkjejljfbaaGreatDoorPzG
set_option linter.defProp false
set_option linter.unusedVariables false
set_option linter.unusedSimpArgs false
open Nat renaming le_of_ble_eq_true→No,le_refl→ZL,zero_le→ZN,not_lt_zero→Z3,zero_add→Aac
open List renaming take_succ_eq_append_getElem→ZA,nil_sublist→ZB,getElem_mem→ZC,all_eq_true→ZF,replicate→ZI,getElem_of_mem→Aae,length_map→Aay,length_replicate→Aci,perm_middle→Acs
open List.Sublist renaming refl→ZS
open List.Perm renaming swap→Z0
section
namespace Go.Gk.Val
open Go Go.Gk Go.Gk.Utf
attribute [local irreducible] gwp gws
variable{f1 f2:FuncId}{r:Ag}{v:V}
def De(D:List Bool):List Value:=D.map Value.bool
def TO(D:List Bool):(De D).length=D.length:=Aay ..
def Ty{D:List Bool}{i:Nat}(h:i<D.length):(De D)[0+i*1]?=some (.bool (D.getD i false)):=by
 simp[De,h]
def Uh(n:Nat):BC [.bool false] (n*1)=De (ZI n false):=by
 apply List.ext_getElem?;intro i;by_cases h:i<n
 ·simp[BC,De,h,Nat.mod_one]
 ·simp[BC,De,h]
def S0{D:List Bool}{i:Nat}(h:i<D.length):patch (De D) i [.bool true]=De (D.set i true):=by
 unfold patch De;rw[List.map_set,List.set_eq_take_append_cons_drop,if_pos (by simpa using h)];simp
def Vo{ws:List (List St)}(h:∀j (hj:j<ws.length),Dc ws[j]=true):(ws.map fun w=>(Cr w).1)=ws.map BU:=by
 apply List.map_congr_left;intro w hw;obtain⟨j,hj,rfl⟩:=Aae hw;unfold Cr;rw[if_pos (h j hj)]
def KS(T:Ag→Prop)(P:Program)(f:FuncId):Prop:=∀{d cs wv}{v:V}{ws:List (List St)},T d→Aw d cs v→RSl 1 Cb d wv ws→Bq v≤1000000→ws.length≤1000→(∀w∈ws,w.length≤100)→
 A8 P f [.agg cs.toArray,wv] d [] (Ret fun r d' L'=>L'=[]∧∃cs',r=.tuple #[.agg cs'.toArray,vZ (DT v ws).2]∧Aw d' cs' (DT v ws).1)
def Ka(a0 a1 a2 a3 a4:Nat):A6:=⟨103,[(.cell 4 (some 6)),(.tmp 5)],(sR (o1 2 (.box 0)<|o1 4 (.alo (.agg #[(vZ 0),(vZ 0),(vZ 0),(Al []),(.slice none 0 0),(.slice none 0 0)]))<|o1 5 (.mv z0) .done) (sR (o1 14 (.ld (some 6) 2)<|oc 15 a0 [14]<|om 6 15 .done) (sR (o1 7 (.mv nS) .done) (.seq (sR (o1 8 (.mv z0) .done) (.block 0 (.loop (.seq (sR (om 16 8<|om 17 1<|oL 18 17<|ob 19 .lss 16 18<|om 20 19<|gT 21 20 6<|oT 22 20 (.bin .eql 21 z0)<|gP 23 20 22 .done) (.cond 23 .skip (.exit 0))) (.seq (.block 1 (sR (o1 9 (.alo (.agg #[(vZ 0),(vZ 0),(vZ 0),(Al []),(.slice none 0 0),(.slice none 0 0)])) .done) (sR (om 27 1<|om 28 8<|oI 29 1 27 28<|ol 30 29<|oc 31 a1 [30]<|om 26 31<|oe 32 26 0<|oe 33 26 1<|o0 (.st 6 9 32)<|om 6 33 .done) (rG (om 34 7<|o1 35 (.ld (some 6) 9)<|o1 36 (.bsl 1 6 [(vZ 0),(vZ 0),(vZ 0),(Al []),(.slice none 0 0),(.slice none 0 0)] [(0,35)])<|o1 37 (.app 6 88 [(vZ 0),(vZ 0),(vZ 0),(Al []),(.slice none 0 0),(.slice none 0 0)] 34 36)<|om 7 37 .done))))) (rG (om 24 8<|ob 25 .add 24 z1<|om 8 25 .done))))))) (sR (om 38 1<|oL 39 38<|o1 40 (.mks 1 1 [(.bool false)] 39 39)<|om 10 40 .done) (.seq (.block 2 (.loop (.seq (sR (om 41 6<|ob 42 .eql 41 z0 .done) (.cond 42 .skip (.exit 2))) (.block 3 (sR (o1 11 (.mv (kZ (-1))) .done) (.seq (sR (o1 12 (.mv z0) .done) (.block 4 (.loop (.seq (sR (om 43 12<|om 44 1<|oL 45 44<|ob 46 .lss 43 45 .done) (.cond 46 .skip (.exit 4))) (.seq (.block 5 (.seq (.reg true (pm 49 10<|pm 50 12<|p1 51 (.idx 1 49 50)<|pl 52 51<|p1 53 (.un .not 52)<|pm 54 53 (.op true ⟨(some 55),(some (54,true)),(.mv 11)⟩ (.op true ⟨(some 56),(some (54,true)),(.bin .lss 55 z0)⟩ (.op true ⟨(some 57),(some (54,true)),(.mv 56)⟩ (.op true ⟨(some 58),(some (57,false)),(.mv 7)⟩ (.op true ⟨(some 59),(some (57,false)),(.mv 12)⟩ (.op true ⟨(some 60),(some (57,false)),(.idx 6 58 59)⟩ (.op true ⟨(some 61),(some (57,false)),(.ld (some 6) 60)⟩ (.op true ⟨(some 62),(some (57,false)),(.mv 7)⟩ (.op true ⟨(some 63),(some (57,false)),(.mv 11)⟩ (.op true ⟨(some 64),(some (57,false)),(.idx 6 62 63)⟩ (.op true ⟨(some 65),(some (57,false)),(.ld (some 6) 64)⟩ (oF 66 57 (.call a2 [61,65]) (.op true ⟨(some 67),(some (57,false)),(.bin .gtr 66 z0)⟩ (.op true ⟨(some 68),(some (54,true)),(.pick 57 (.const (.bool true)) 67)⟩ (p1 69 (.pick 54 68 (.const (.bool false))) .done))))))))))))))))) (.cond 69 (rG (om 70 12<|om 11 70 .done)) .skip))) (rG (om 47 12<|ob 48 .add 47 z1<|om 12 48 .done))))))) (.seq (sR (om 71 11<|ob 72 .lss 71 z0 .done) (.cond 72 (sR (o1 73 (.ld (some 6) 2)<|o0 (.st 6 4 73)<|o1 5 (.mv z0) .done) .ret) .skip)) (.seq (sR (o1 13 (.mv z0) .done) (.block 6 (.loop (.seq (sR (om 74 13<|om 75 1<|oL 76 75<|ob 77 .lss 74 76 .done) (.cond 77 .skip (.exit 6))) (.seq (.block 7 (.seq (.reg true (pm 80 7<|pm 81 13<|p1 82 (.idx 6 80 81)<|p1 83 (.ld (some 6) 82)<|pm 84 7<|pm 85 11<|p1 86 (.idx 6 84 85)<|p1 87 (.ld (some 6) 86)<|oc 88 a3 [83,87] .done)) (.cond 88 (rG (om 89 10<|om 90 13<|oI 91 1 89 90<|o0 (.st 1 91 (.const (.bool true))) .done)) .skip))) (rG (om 78 13<|ob 79 .add 78 z1<|om 13 79 .done))))))) (.reg true (pm 94 1<|pm 95 11<|p1 96 (.idx 1 94 95)<|pl 97 96<|o1 93 (.ld (some 6) 2)<|oc 98 a4 [93,97]<|pm 92 98<|p1 99 (.ext 92 0)<|p1 100 (.ext 92 1)<|o0 (.st 6 2 99)<|pm 6 100 .done)))))))))) (sR (o1 101 (.bld [(0,1),(1,2),(3,1),(4,1),(5,1)] [(vZ 0),(vZ 0),(vZ 0),(Al []),(.slice none 0 0),(.slice none 0 0)] [])<|om 102 6<|o0 (.st 6 4 101)<|om 5 102 .done) .ret)))))))⟩
set_option maxHeartbeats 6000000 in
def SL{T:Ag→Prop}{P f f3 f4 f5}(hTm:∀{d d'},Le d d'→T d→T d')(hd:dec P f=some (Ka f1 f2 f3 f4 f5))(h1:EW T P f1)(h2:HK T P f2)(h3:IW T P f3)(h4:Gi P f4)(h5:NZ T P f5):KS T P f:=by
 intro d cs wv v ws ht hv hws hb hwl hwb;refine Bd hd (No rfl) ?_;have hvc:=AH _ _ _ hv;have hdv:=FX v;obtain⟨c0,c1,c2,c3,c4,c5,rfl⟩:=six hv.len;obtain⟨wa,wc,rfl⟩:=RSl.val hws;have hws0:RSl 1 Cb d (.slice wa ws.length wc) ws:=hws;show gwp P _ _ _ _ _;apply Ai;apply Ay;refine AO (l:=[c0,c1,c2,c3,c4,c5]) rfl (fun b2 T2=>?_);(refine AX (fun _ _=>Ab rfl<|Aa<|Ac<|AD 1 rfl rfl rfl ?_));rename_i b4 T4;refine B9 d [emp,bx b4 T4 A7,bx b2 T2 [c0,c1,c2,c3,c4,c5]] Vs.emp ?_;refine AF rfl (h1 ht hv (by omega)) ?_;(refine Ab rfl<|Aa<|Ac<|As rfl<|Aa<|Ai<|Ac<|Ab rfl<|Aa<|Av ?_);refine Bg (α:=Nat×Int×Option Addr×Nat) (fun p=>[(1,.slice wa ws.length wc),(2,pZ b2),(4,pZ b4),(6,vZ p.2.1),(7,.slice p.2.2.1 p.1 p.2.2.2),(8,vZ p.1)])
  (fun p d' L'=>Le d d'∧p.1≤ws.length∧(p.2.1≠0→DT v ws=(V.zero,p.2.1))∧(p.2.1=0→AS v=0∧∀j (hj:j<ws.length),j<p.1→Dc ws[j]=true)∧∃h J,AN 6 Aw d' (.slice p.2.2.1 p.1 p.2.2.2) ((ws.take p.1).map fun w=>(Cr w).1) h∧L'=h::bx b4 T4 A7::bx b2 T2 [c0,c1,c2,c3,c4,c5]::J) (fun p=>ws.length - p.1) (0,AS v,none,0)
  ⟨rfl,rfl,rfl,rfl,rfl,rfl,trivial⟩ ⟨Le.refl _,ZN _,fun q=>by show DT v ws=(V.zero,AS v);rw[DT,if_pos q],fun q=>⟨q,fun j _ h=>absurd h (Z3 j)⟩,_,_,AN.nil,rfl⟩ ?_
 rintro⟨i,e,na,nc⟩ ρ d2 L' ⟨hl2,hi,hz,hall,h,J,hrow,hL⟩;simp only at hi hz hall hrow⊢;subst hL;by_cases hc:i<ws.length
 ·by_cases hez:e=0
  ·subst hez;obtain⟨hr,hall⟩:=hall rfl;clear hz;have hws2:RSl 1 Cb d2 (.slice wa ws.length wc) ws:=RSl.mono (R:=Cb) DW hws0 hl2;have ht2:=hTm hl2 ht;(refine Ai<|Ac<|Ab rfl<|As rfl<|AA rfl<|Ax rfl rfl<|Ad rfl<|AE rfl (by omega)<|Ae rfl<|Ab rfl<|Ae rfl<|Aq rfl rfl<|Ap rfl rfl<|Aa<|Au rfl (by omega)<|Am<|Ai<|Av<|Ac<|AX (fun _ _=>Aa<|Ac<|As rfl<|Ab rfl ?_));rename_i b9 T9;refine AJ (sz:=1) (R:=Cb) rfl hws2 rfl rfl hc (fun bq oq csq hcq hDq ⟨u,hu,hw⟩=>?_);subst hu;obtain⟨ua,uc,rfl⟩:=RSl.val hw;have hwlb:=hwb _ (ZC hc);(apply Ah;rfl;exact A1 (by assumption) rfl);refine AR rfl (h2 ht2 hw (by omega)) (fun r d4 L4 hl4 ⟨hL,cs',hr',hR⟩=>?_);subst hL;subst hr';obtain⟨g0,g1,g2,g3,g4,g5,rfl⟩:=six hR.len;have hrow4:AN 6 Aw d4 (.slice na i nc) ((ws.take i).map fun w=>(Cr w).1) h:=AN.mono (R:=Aw) B8 hrow hl4;have hlen:((ws.take i).map fun w=>(Cr w).1).length=i:=by simp;omega
   (refine Bj rfl<|AL rfl rfl<|AL rfl rfl ?_);refine Az 0 [g0,g1,g2,g3,g4,g5] rfl rfl rfl rfl (No rfl) (AH _ _ _ hR) rfl ?_;(refine Ab rfl<|Aa<|Ay<|As rfl<|AD 0 rfl rfl rfl ?_);refine D4 rfl rfl (fun b36 T36=>?_);refine DH (R:=Aw) 1 rfl rfl hrow4 rfl (AN.D8 hR.len hR) AH (by omega) (by simp;omega) (by simp;omega) (fun v5 h5 o5=>?_);have htk:((ws.take i).map fun w=>(Cr w).1)++[(Cr ws[i]).1]=(ws.take (i+1)).map fun w=>(Cr w).1:=by rw[ZA hc,List.map_append,List.map_singleton]
   rw[htk] at o5;obtain⟨a5,c5',rfl⟩:=o5.val;have hlt:((ws.take (i+1)).map fun w=>(Cr w).1).length=i+1:=by simp;omega
   rw[hlt] at o5;rewrite [hlt];have hz':(Cr ws[i]).2≠0→DT v ws=(V.zero,(Cr ws[i]).2):=fun q=>by
    by_cases hok:Dc ws[i]=true
    ·rw[Cr,if_pos hok] at q;exact absurd rfl q
    ·rw[Cr,if_neg hok,DT,if_neg (fun k=>k hr),if_neg (fun k=>hok (ZF.1 k _ (ZC hc)))]
   have ho':(Cr ws[i]).2=0→AS v=0∧∀j (hj:j<ws.length),j<i+1→Dc ws[j]=true:=fun q=>⟨hr,fun j hj hji=>by
    by_cases e:j<i
    ·exact hall j hj e
    ·obtain rfl:j=i:=by omega
     by_cases hok:Dc ws[j]=true
     ·exact hok
     ·rw[Cr,if_neg hok] at q;cases q⟩
   clear hall hrow hrow4 hlen hlt;refine B9 d4 (h5::bx b4 T4 A7::bx b2 T2 [c0,c1,c2,c3,c4,c5]::J) (Vs.drop (.cons _ (ZS _))) ?_;(refine As rfl<|Aa<|Ay<|Ab rfl<|AI rfl rfl (by omega) (by omega)<|Ab rfl<|Aa ?_);exact⟨(i+1,(Cr ws[i]).2,a5,c5'),by simp only;omega,⟨rfl,rfl,rfl,rfl,rfl,int_eq (by omega),trivial⟩,hl2.trans hl4,hc,hz',ho',h5,J,o5,rfl⟩
  ·have hz:=hz hez;clear hall;(refine Ai<|Ac<|Ab rfl<|As rfl<|AA rfl<|Ax rfl rfl<|Ad rfl<|AE rfl (by omega)<|Ae rfl<|Ab rfl<|Ae rfl<|Aq rfl rfl<|Ap rfl rfl<|Aa<|Ao rfl (by omega)<|AV<|Ac<|As rfl<|AA rfl ?_);refine Io (n:=ws.length) (c:=ws.length) rfl rfl (ZL _) (by omega) (by omega) (fun b10 T10=>?_);refine B9 d2 (bx b4 T4 A7::bx b2 T2 [c0,c1,c2,c3,c4,c5]::J) (Vs.drop (.cons _ (.cons _ (ZS _)))) ?_;(refine As rfl<|Aa<|Ai<|Av ?_);refine Bg (α:=Nat) (fun _=>[(4,pZ b4),(6,vZ e)]) (fun _ d' L'=>d'=d2∧L'=bx b4 T4 A7::bx b2 T2 [c0,c1,c2,c3,c4,c5]::J) (fun _=>0) 0 ⟨rfl,rfl,trivial⟩ ⟨rfl,rfl⟩ ?_;rintro k ρ d3 L' ⟨hdd,hL⟩;subst hdd;subst hL;rewrite [hz];(refine Ai<|Ac<|Ab rfl<|Aq rfl rfl<|Aa<|Ao rfl (by omega)<|AV<|Ac<|Bl<|Ab rfl ?_);refine Az 0 A7 rfl rfl rfl rfl (No rfl) rfl rfl ?_;(refine Ab rfl<|Aa<|Ar ?_);exact BG (L':=[]) [.agg A7.toArray,vZ e] ⟨A3 0 rfl rfl rfl,A4 rfl,trivial⟩ (ZB _) ⟨rfl,_,rfl,Aw.zero⟩
 ·obtain rfl:i=ws.length:=by omega
  by_cases hez:¬e=0
  ·have hz:=hz hez;clear hall;(refine Ai<|Ac<|Ab rfl<|As rfl<|AA rfl<|Ax rfl rfl<|Ad rfl<|AB rfl (by omega)<|Ak rfl<|Ak rfl<|An rfl rfl<|Aa<|AK rfl<|AV<|Ac<|As rfl<|AA rfl ?_);refine Io (n:=ws.length) (c:=ws.length) rfl rfl (ZL _) (by omega) (by omega) (fun b10 T10=>?_);refine B9 d2 (bx b4 T4 A7::bx b2 T2 [c0,c1,c2,c3,c4,c5]::J) (Vs.drop (.cons _ (.cons _ (ZS _)))) ?_;(refine As rfl<|Aa<|Ai<|Av ?_);refine Bg (α:=Nat) (fun _=>[(4,pZ b4),(6,vZ e)]) (fun _ d' L'=>d'=d2∧L'=bx b4 T4 A7::bx b2 T2 [c0,c1,c2,c3,c4,c5]::J) (fun _=>0) 0 ⟨rfl,rfl,trivial⟩ ⟨rfl,rfl⟩ ?_;rintro k ρ d3 L' ⟨hdd,hL⟩;subst hdd;subst hL;rewrite [hz];(refine Ai<|Ac<|Ab rfl<|Aq rfl rfl<|Aa<|Ao rfl (by omega)<|AV<|Ac<|Bl<|Ab rfl ?_);refine Az 0 A7 rfl rfl rfl rfl (No rfl) rfl rfl ?_;(refine Ab rfl<|Aa<|Ar ?_);exact BG (L':=[]) [.agg A7.toArray,vZ e] ⟨A3 0 rfl rfl rfl,A4 rfl,trivial⟩ (ZB _) ⟨rfl,_,rfl,Aw.zero⟩
  have hez:e=0:=by omega
  subst hez;obtain⟨hr,hall⟩:=hall rfl;have hok:∀j (hj:j<ws.length),Dc ws[j]=true:=fun j hj=>hall j hj hj;have hmayN:∀z∈ws.map BU,BH z=true:=fun z hz=>by
   obtain⟨w,hw,rfl⟩:=List.mem_map.1 hz;obtain⟨j,hj,rfl⟩:=Aae hw;exact SE (hok j hj)
  have hup:DT v ws=FG v (ER (ws.map BU)):=by
   rw[DT,if_neg (fun k=>k hr),if_pos (ZF.2 fun w hw=>?_)];obtain⟨j,hj,rfl⟩:=Aae hw;exact hok j hj
  rw[List.take_length,Vo hok] at hrow;clear hz hall;(refine Ai<|Ac<|Ab rfl<|As rfl<|AA rfl<|Ax rfl rfl<|Ad rfl<|AB rfl (by omega)<|Ak rfl<|Ak rfl<|An rfl rfl<|Aa<|AK rfl<|AV<|Ac<|As rfl<|AA rfl ?_);refine BF (fun d5 hl5 hg5=>?_);have hNl:(ws.map BU).length=ws.length:=Aay ..;have hN5:RSl 6 Aw d5 (.slice na (ws.map BU).length nc) (ws.map BU):=by
   have:=hrow.rsl (R:=Aw) B8 (by omega) hl5 hg5;rw[hNl];exact this
  have hv5:=hv.mono (hl2.trans hl5);refine Io (n:=ws.length) (c:=ws.length) rfl rfl (ZL _) (by omega) (by omega) (fun b10 T10=>?_);rewrite [Uh];have hup0:DT v ws=FG v (ER (ws.map BU)):=hup;have hri:=WO (ws.map BU);rw[hNl] at hri;generalize hN:ws.map BU=N at hN5 hNl hmayN hup0 hri;have hNi:∀i (hi:i<ws.length),N[i]'(by omega)=BU ws[i]:=fun i hi=>by subst hN;simp
  clear hrow hup;refine B9 d5 [bx b10 T10 (De (ZI ws.length false)),bx b4 T4 A7,bx b2 T2 [c0,c1,c2,c3,c4,c5]] (Vs.drop (.cons_cons _ (.cons_cons _ (.cons_cons _ (ZB _))))) ?_;(refine As rfl<|Aa<|Ai<|Av ?_);refine Bg (α:=Int×List Bool) (fun p=>[(1,.slice wa ws.length wc),(2,pZ b2),(4,pZ b4),(6,vZ p.1),(7,.slice na ws.length nc),(10,.slice (some ⟨b10,0,none⟩) ws.length ws.length)])
   (fun p d' L'=>Le d5 d'∧p.2.length=ws.length∧(p.1≠0→DT v ws=(V.zero,p.1))∧∃v' a0 a1 a2 a3 a4 a5,(p.1=0→Aw d' [a0,a1,a2,a3,a4,a5] v'∧Bq v'≤1000000∧∃R,Rem N p.2 R∧DT v ws=FG v' (ER R))∧L'=[bx b10 T10 (De p.2),bx b4 T4 A7,bx b2 T2 [a0,a1,a2,a3,a4,a5]]) (fun p=>p.2.count false) (0,ZI ws.length false)
   ⟨rfl,rfl,rfl,rfl,rfl,rfl,trivial⟩ ⟨Le.refl _,Aci ..,fun q=>absurd rfl q,v,c0,c1,c2,c3,c4,c5,fun _=>⟨hv5,hb,N,hri,hup0⟩,rfl⟩ ?_
  rintro⟨e,D⟩ ρ d6 L' ⟨hl6,hDl,hz,v',a0,a1,a2,a3,a4,a5,hs,hL⟩;simp only at hDl hz hs⊢;subst hL;by_cases hez:¬e=0
  ·have hz:=hz hez;clear hs;rewrite [hz];(refine Ai<|Ac<|Ab rfl<|Aq rfl rfl<|Aa<|Ao rfl (by omega)<|AV<|Ac<|Bl<|Ab rfl ?_);refine Az 1 A7 rfl rfl rfl rfl (No rfl) rfl rfl ?_;(refine Ab rfl<|Aa<|Ar ?_);exact BG (L':=[]) [.agg A7.toArray,vZ e] ⟨A3 1 rfl rfl rfl,A4 rfl,trivial⟩ (ZB _) ⟨rfl,_,rfl,Aw.zero⟩
  have hez:e=0:=by omega
  subst hez;obtain⟨hv',hb',R,hR,hupR⟩:=hs rfl;clear hs hz;have hva:=AH _ _ _ hv';have ht6:=hTm ((hl2.trans hl5).trans hl6) ht;have hws6:RSl 1 Cb d6 (.slice wa ws.length wc) ws:=RSl.mono (R:=Cb) DW hws0 ((hl2.trans hl5).trans hl6);have hN6:RSl 6 Aw d6 (.slice na N.length nc) N:=BL.mono hN5 hl6;rw[hNl] at hN6;(refine Ai<|Ac<|Ab rfl<|Aq rfl rfl<|Aa<|Au rfl (by omega)<|Am<|Av<|Ac<|Ab rfl<|Aa<|Ai<|Ac<|Ab rfl<|Aa<|Av ?_);refine Bg (α:=Nat×Int) (fun p=>[(1,.slice wa ws.length wc),(2,pZ b2),(4,pZ b4),(6,vZ 0),(7,.slice na ws.length nc),(10,.slice (some ⟨b10,0,none⟩) ws.length ws.length),(11,vZ p.2),(12,vZ p.1)])
   (fun p d' L'=>d'=d6∧p.1≤ws.length∧HM N D p.1 p.2∧L'=[bx b10 T10 (De D),bx b4 T4 A7,bx b2 T2 [a0,a1,a2,a3,a4,a5]]) (fun p=>ws.length - p.1) (0, -1)
   ⟨rfl,rfl,rfl,rfl,rfl,rfl,rfl,rfl,trivial⟩ ⟨rfl,ZN _,Uy N D,rfl⟩ ?_
  rintro⟨i,best⟩ ρ d7 L' ⟨hdd,hi,hB,hL⟩;simp only at hi hB⊢;subst hdd;subst hL;by_cases hc:i<ws.length
  ·have hcell:=Ty (D:=D) (i:=i) (by omega);have hsa:SAd (some ⟨b10,0,none⟩) ws.length b10 0:=SAd.some _ _ _;have hDi:D[i]?=some (D.getD i false):=by rw[List.getD_eq_getElem?_getD,List.getElem?_eq_getElem (show i<D.length by omega)];rfl
   generalize D.getD i false=x at hcell hDi;cases x with
   |true=>
    (refine Ai<|Ac<|Ab rfl<|As rfl<|AA rfl<|Ax rfl rfl<|Aa<|Au rfl (by omega)<|Am<|Ai<|Av<|Ai<|AT<|As rfl<|Ab rfl ?_;apply Eh;rfl;rfl;rfl;omega;assumption;refine Ah rfl (Aj 0 rfl (by assumption))<|Bi rfl<|Ad rfl<|Ak rfl<|Ak rfl<|Ak rfl<|AY rfl<|AY rfl<|AY rfl<|AY rfl<|AY rfl<|AY rfl<|AY rfl<|AY rfl<|AY rfl<|AY rfl<|Ak rfl<|An rfl rfl<|AW<|AK rfl<|Am<|Ay<|Ab rfl<|AI rfl rfl (by omega) (by omega)<|Ab rfl<|Aa ?_)
    exact⟨(i+1,best),by simp only;omega,⟨rfl,rfl,rfl,rfl,rfl,rfl,rfl,int_eq (by omega),trivial⟩,rfl,hc,Vp hB hDi,rfl⟩
   |false=>
    rcases id hB with ⟨hb1,_⟩|⟨b,hb1,hb2,_,_⟩
    ·subst hb1
     (refine Ai<|Ac<|Ab rfl<|As rfl<|AA rfl<|Ax rfl rfl<|Aa<|Au rfl (by omega)<|Am<|Ai<|Av<|Ai<|AT<|As rfl<|Ab rfl ?_;apply Eh;rfl;rfl;rfl;omega;assumption;refine Ah rfl (Aj 0 rfl (by assumption))<|Bi rfl<|Ad rfl<|Ae rfl<|Ab rfl<|Ae rfl<|Ax rfl rfl<|Ae rfl<|Ad rfl<|AE rfl (by omega)<|Ak rfl<|Ak rfl<|Ak rfl<|Ak rfl<|Ak rfl<|Ak rfl<|Ak rfl<|Ak rfl<|Ak rfl<|Ak rfl<|Ae rfl<|Ap rfl rfl<|Ap rfl rfl<|AW<|Bb rfl<|Ay<|Ab rfl<|Ab rfl<|Aa<|Ay<|Ab rfl<|AI rfl rfl (by omega) (by omega)<|Ab rfl<|Aa ?_)
     exact⟨(i+1,(i:Int)),by simp only;omega,⟨rfl,rfl,rfl,rfl,rfl,rfl,rfl,int_eq (by omega),trivial⟩,rfl,hc,Te hB hDi,rfl⟩
    ·subst hb1
     (refine Ai<|Ac<|Ab rfl<|As rfl<|AA rfl<|Ax rfl rfl<|Aa<|Au rfl (by omega)<|Am<|Ai<|Av<|Ai<|AT<|As rfl<|Ab rfl ?_;apply Eh;rfl;rfl;rfl;omega;assumption;refine Ah rfl (Aj 0 rfl (by assumption))<|Bi rfl<|Ad rfl<|Ae rfl<|Ab rfl<|Ae rfl<|Ax rfl rfl<|Ae rfl<|Ad rfl<|AB rfl (by omega)<|Ae rfl<|As rfl<|Ae rfl<|Ab rfl<|Ae rfl<|AJ (sz:=6) (R:=Aw) (by rfl) (by assumption) (by rfl) rfl (by omega) ?_;rintro _ _ _ _ _ _;refine Ae rfl<|BE rfl (by assumption) (by assumption)<|Ae rfl<|As rfl<|Ae rfl<|Ab rfl<|Ae rfl<|AJ (sz:=6) (R:=Aw) (by rfl) (by assumption) (by rfl) rfl (by omega) ?_;rintro _ _ _ _ _ _;refine Ae rfl<|BE rfl (by assumption) (by assumption)<|Ae rfl ?_)
     rename_i p1 p2 p3 p4 p5 r1 p6 p7 p8 p9 p10 r2
     refine AF rfl (h3 _ _ ht6 r1 r2 (hmayN _ (ZC _)) (hmayN _ (ZC _))) ?_
     have e1:N.getD i V.zero=N[i]:=by simp[hNl,hc]
     have e2:N.getD b V.zero=N[b]:=by simp[hNl,show b<ws.length by omega]
     by_cases hg:BA N[i] N[b]>0
     ·have hnx:=UO hB hDi (by rw[e1,e2];exact hg)
      clear hDi hcell
      (refine Ae rfl<|AP rfl rfl<|Ae rfl<|An rfl rfl<|Ap rfl rfl<|AW<|Au rfl (by omega)<|Ay<|Ab rfl<|Ab rfl<|Aa<|Ay<|Ab rfl<|AI rfl rfl (by omega) (by omega)<|Ab rfl<|Aa ?_)
      exact⟨(i+1,(i:Int)),by simp only;omega,⟨rfl,rfl,rfl,rfl,rfl,rfl,rfl,int_eq (by omega),trivial⟩,rfl,hc,hnx,rfl⟩
     ·have hnx:=Vb hB hDi (by rw[e1,e2];exact hg)
      clear hDi hcell
      (refine Ae rfl<|AP rfl rfl<|Ae rfl<|An rfl rfl<|Ap rfl rfl<|AW<|Ao rfl (by omega)<|Am<|Ay<|Ab rfl<|AI rfl rfl (by omega) (by omega)<|Ab rfl<|Aa ?_)
      exact⟨(i+1,(b:Int)),by simp only;omega,⟨rfl,rfl,rfl,rfl,rfl,rfl,rfl,int_eq (by omega),trivial⟩,rfl,hc,hnx,rfl⟩
  ·obtain rfl:i=ws.length:=by omega
   rcases id hB with ⟨hb1,hb2⟩|⟨b,hb1,hb2,_,_⟩
   ·subst hb1;have hR0:=WR hR (by omega) (fun j hj=>hb2 j (by omega));subst hR0;rewrite [hupR];(refine Ai<|Ac<|Ab rfl<|As rfl<|AA rfl<|Ax rfl rfl<|Aa<|Ao rfl (by omega)<|AV<|Ai<|Ac<|Ab rfl<|Ax rfl rfl<|Aa<|Au rfl (by omega)<|Ac<|AD 2 rfl rfl rfl ?_);refine Az 1 [a0,a1,a2,a3,a4,a5] rfl rfl rfl rfl (No rfl) hva rfl ?_;(refine Ab rfl<|Aa<|Ar ?_);exact BG (L':=[]) [.agg [a0,a1,a2,a3,a4,a5].toArray,vZ 0] ⟨A3 1 rfl rfl rfl,A4 rfl,trivial⟩ (ZB _) ⟨rfl,_,rfl,hv'⟩
   ·subst hb1;rw[←hNl] at hB;obtain⟨hbl,hDb,hdesc⟩:=TD (by omega) hmayN hR hB;rw[hdesc,FG] at hupR;clear hB hdesc;have hmN:=hNi b hb2;(refine Ai<|Ac<|Ab rfl<|As rfl<|AA rfl<|Ax rfl rfl<|Aa<|Ao rfl (by omega)<|AV<|Ai<|Ac<|Ab rfl<|Ax rfl rfl<|Aa<|Ao rfl (by omega)<|Am<|Ai<|Ac<|Ab rfl<|Aa<|Av ?_);refine Bg (α:=Nat) (fun i=>[(1,.slice wa ws.length wc),(2,pZ b2),(4,pZ b4),(7,.slice na ws.length nc),(10,.slice (some ⟨b10,0,none⟩) ws.length ws.length),(11,vZ b),(13,vZ i)])
     (fun i d' L'=>d'=d7∧i≤ws.length∧L'=[bx b10 T10 (De (Dq N D N[b] i)),bx b4 T4 A7,bx b2 T2 [a0,a1,a2,a3,a4,a5]]) (fun i=>ws.length - i) 0
     ⟨rfl,rfl,rfl,rfl,rfl,rfl,rfl,trivial⟩ ⟨rfl,ZN _,by rw[Uo]⟩ ?_
    rintro i ρ d8 L' ⟨hdd,hi2,hL⟩;subst hdd;subst hL;by_cases hc2:i<ws.length
    ·have hsa:SAd (some ⟨b10,0,none⟩) ws.length b10 0:=SAd.some _ _ _;have e1:N.getD i V.zero=N[i]:=by simp[hNl,hc2]
     (refine Ai<|Ac<|Ab rfl<|As rfl<|AA rfl<|Ax rfl rfl<|Aa<|Au rfl (by omega)<|Am<|Ai<|Av<|Ai<|AT<|As rfl<|Ab rfl<|AJ (sz:=6) (R:=Aw) (by rfl) (by assumption) (by rfl) rfl (by omega) ?_;rintro _ _ _ _ _ _;refine BE rfl (by assumption) (by assumption)<|As rfl<|Ab rfl<|AJ (sz:=6) (R:=Aw) (by rfl) (by assumption) (by rfl) rfl (by omega) ?_;rintro _ _ _ _ _ _;apply BE;rfl;assumption;assumption);rename_i p1 p2 p3 p4 p5 r1 p6 p7 p8 p9 p10 r2;have hsm:=h4 _ _ r1 r2;cases hs:Ck N[i] N[b] with
     |true=>
      rw[hs] at hsm
      refine AF rfl hsm ?_
      have hmk:=TZ (ns:=N) (D:=D) (m:=N[b]) (i:=i) (by omega) (by rw[e1];exact hs)
      have hpb:=S0 (D:=Dq N D N[b] i) (i:=i) (by rw[DX];omega)
      rw[hmk] at hpb
      have hlb:0+i*1+1≤(De (Dq N D N[b] i)).length:=by rw[TO,DX];omega
      have hpb2:patch (De (Dq N D N[b] i)) (0+i*1) (Value.bool true).cells.toList=De (Dq N D N[b] (i+1)):=by rw[Aac,Nat.mul_one];exact hpb
      clear hs hsm hmk hpb
      (refine AW<|Bb rfl<|Ay<|As rfl<|Ab rfl ?_;apply Eh;rfl;rfl;rfl;omega;assumption)
      refine Az 0 (De (Dq N D N[b] (i+1))) rfl rfl rfl rfl hlb rfl hpb2 ?_
      (refine Aa<|Ay<|Ab rfl<|AI rfl rfl (by omega) (by omega)<|Ab rfl<|Aa ?_)
      exact⟨i+1,by omega,⟨rfl,rfl,rfl,rfl,rfl,rfl,int_eq (by omega),trivial⟩,rfl,hc2,rfl⟩
     |false=>
      rw[hs] at hsm
      refine AF rfl hsm ?_
      have hmk:=Tk (ns:=N) (D:=D) (m:=N[b]) (i:=i) (by rw[e1];exact hs)
      clear hs hsm
      (refine AW<|AK rfl<|Am<|Ay<|Ab rfl<|AI rfl rfl (by omega) (by omega)<|Ab rfl<|Aa ?_)
      exact⟨i+1,by omega,⟨rfl,rfl,rfl,rfl,rfl,rfl,int_eq (by omega),trivial⟩,rfl,hc2,by rw[hmk];rfl⟩
    ·obtain rfl:i=ws.length:=by omega
     have hwb2:=hwb _ (ZC hb2);have hdw:=LR (hok b hb2) v';have htx:=Kx v' ws[b] hb';rw[hmN,←hdw] at hupR;have hmr:Rem N (Dq N D N[b] ws.length) (R.filter fun z=> !Ck z N[b]):=by rw[←hNl];exact VL (by omega) hR
     have hmc:(Dq N D N[b] ws.length).count false<D.count false:=by
      rw[←hNl];exact Tx (by omega) hDb (by rw[show N.getD b V.zero=N[b] by simp[hNl,hb2]];exact(CP _ _).2 rfl)
     have hml:=DX N D N[b] ws.length;rw[hmN] at hmr hmc hml⊢;clear hdw hDb;(refine Ai<|Ac<|Ab rfl<|As rfl<|AA rfl<|Ax rfl rfl<|Aa<|Ao rfl (by omega)<|AV ?_);refine Dh [bx b10 T10 (De (Dq N D (BU ws[b]) ws.length)),bx b4 T4 A7] [bx b2 T2 [a0,a1,a2,a3,a4,a5]] rfl ?_;(refine As rfl<|Ab rfl ?_);refine AJ (sz:=1) (R:=Cb) rfl hws6 rfl (m:=b) rfl hb2 (fun bq oq csq hcq hDq ⟨u,hu,hw⟩=>?_);subst hu;obtain⟨ua,uc,rfl⟩:=RSl.val hw;(refine Ah rfl (A1 (by assumption) rfl)<|AD 2 rfl rfl rfl ?_);refine AR rfl (h5 ht6 hv' hw hb' hwb2) (fun r d9 L9 hl9 ⟨hL,cs',hr',hR'⟩=>?_);subst hL;subst hr';obtain⟨g0,g1,g2,g3,g4,g5,rfl⟩:=six hR'.len;(refine Bj rfl<|AL rfl rfl<|AL rfl rfl ?_);refine Az 0 [g0,g1,g2,g3,g4,g5] rfl rfl rfl rfl (No rfl) (AH _ _ _ hR') rfl ?_;(refine Ab rfl<|AW ?_);exact⟨((CC v' ws[b]).2,Dq N D (BU ws[b]) ws.length),hmc,⟨rfl,rfl,rfl,rfl,rfl,rfl,trivial⟩,hl6.trans hl9,by simp only;omega,fun q=>by rw[hupR,if_pos q],_,g0,g1,g2,g3,g4,g5,fun q=>⟨hR',Nat.le_trans htx hb',_,hmr,by rw[hupR,if_neg (fun k=>k q)]⟩,rfl⟩
def Vs.Y1{d d' L L'}(h:Vs d L d' L')(M:List Ag):Vs d (L++M) d' (L'++M):=
 ⟨h.1,fun F W x=>by rw[List.append_assoc] at x⊢;exact h.2 (M++F) W x⟩
def Hx(n:Nat)(v:Value)(r:Ag):Prop:=∃xs:List Unit,xs.length=n∧AN 6 (fun _ _ _=>True) emp v xs r
def OS{n:Nat}{v}(h:Hx n v r){k:Nat}(hk:k<n):
  ∃b T l c,v=.slice (some ⟨b,0,none⟩) n c∧r=bx b T l∧k*6+6≤l.length∧∀cs',cs'.length=6→Hx n v (bx b T (patch l (k*6) cs')):=by
 obtain⟨xs,hx,g⟩:=h
 obtain⟨b,T,l,c,h1,h2,h3,h4⟩:=AN.I6 (by omega) g (m:=k) (by omega)
 exact⟨b,T,l,c,by rw[h1,hx],h2,h3,fun cs' hc=>⟨xs.set k (),by rw[List.length_set,hx],h4 cs' () hc trivial⟩⟩
def Hx.val{n:Nat}{v}(h:Hx n v r):∃a c,v=.slice a n c:=by
 obtain⟨xs,hx,g⟩:=h;obtain⟨a,c,e⟩:=g.val;exact⟨a,c,by rw[e,hx]⟩
def Hx.len{n:Nat}{v}(h:Hx n v r):n≤140737488355328:=by
 obtain⟨xs,hx,cs,o,_⟩:=h;have:=o.2.1;omega
def Cv.top{cs h}(o:Cv cs v h):∃lv kv r,cs=[vZ v.kind,vZ v.m,vZ v.e,Al v.text,lv,kv]∧(∀d,Vs d [h] d [r])∧Hx v.list.length lv r:=by
 obtain⟨lv,kv,hk,hl,ccs,hs,rfl, -, -, -, -,gk,gl,hsl,el,dj,rfl⟩:=o.open;refine⟨lv,kv,hl,rfl,fun d=>?_,ZI v.list.length (),Aci ..,ccs,?_,fun _ _=>trivial⟩
 ·have h1:=Vs.PH (d:=d) (L0:=[]) dj;rw[List.append_nil] at h1;exact h1.trans (Vs.drop (.cons _ (.cons_cons _ (ZB _))))
 ·rw[Aci];exact gl
def Wp{x:V}(h:Dd (.mk 0 0 0 [] [v,x] [])≤600):Bq v≤600∧Bq x≤600:=by
 have e:Dd (.mk 0 0 0 [] [v,x] [])=1+0+0+(Dd v+(Dd x+0)):=rfl;have:=Mo v;have:=Mo x;omega
def Hd(a0 a1 a2 a3 a4 a5 a6 a7:Nat):A6:=⟨98,[(.tmp 6)],(sR (o1 3 (.box 0)<|o1 5 (.box 2)<|o1 6 (.mv (.const (.bool false))) .done) (.seq (sR (om 19 1<|o1 20 (.ld (some 6) 3)<|o1 21 (.ld (some 6) 5)<|o1 22 (.bsl 2 6 [(vZ 0),(vZ 0),(vZ 0),(Al []),(.slice none 0 0),(.slice none 0 0)] [(0,20),(1,21)])<|oc 23 a0 [19,22] .done) (.cond 23 (sR (oc 24 a1 []<|om 6 24 .done) .ret) .skip)) (sR (o1 25 (.ld (some 6) 3)<|oc 26 a2 [25]<|o1 7 (.alo (.agg #[(vZ 0),(vZ 0),(vZ 0),(Al []),(.slice none 0 0),(.slice none 0 0)]))<|o0 (.st 6 7 26) .done) (sR (o1 28 (.ld (some 6) 7)<|om 29 1<|o1 30 (.ld (some 6) 5)<|oc 31 a3 [28,29,30]<|om 27 31<|oe 32 27 0<|oe 33 27 1<|o1 8 (.alo (.agg #[(vZ 0),(vZ 0),(vZ 0),(Al []),(.slice none 0 0),(.slice none 0 0)]))<|o0 (.st 6 8 32)<|om 9 33 .done) (sR (o1 35 (.ld (some 6) 3)<|om 36 1<|o1 37 (.ld (some 6) 5)<|oc 38 a4 [35,36,37]<|om 34 38<|oe 39 34 0<|oe 40 34 1<|o1 10 (.alo (.agg #[(vZ 0),(vZ 0),(vZ 0),(Al []),(.slice none 0 0),(.slice none 0 0)]))<|o0 (.st 6 10 39)<|om 11 40 .done) (sR (o1 42 (.ld (some 6) 7)<|om 43 1<|oc 44 a5 [42,43]<|om 41 44<|oe 45 41 0<|oe 46 41 1<|o1 12 (.alo (.agg #[(vZ 0),(vZ 0),(vZ 0),(Al []),(.slice none 0 0),(.slice none 0 0)]))<|o0 (.st 6 12 45)<|om 13 46 .done) (sR (o1 48 (.ld (some 6) 3)<|om 49 1<|oc 50 a6 [48,49]<|om 47 50<|oe 51 47 0<|oe 52 47 1<|o1 14 (.alo (.agg #[(vZ 0),(vZ 0),(vZ 0),(Al []),(.slice none 0 0),(.slice none 0 0)]))<|o0 (.st 6 14 51)<|om 15 52 .done) (.seq (sR (o1 53 (.ld (some 6) 8)<|o1 54 (.ld (some 6) 10)<|oc 55 a7 [53,54]<|o1 56 (.un .not 55)<|om 57 56<|gF 58 57 9<|gF 59 57 11<|oF 60 57 (.bin .neq 58 59)<|o1 61 (.pick 57 (.const (.bool true)) 60)<|om 62 61<|oF 63 62 (.ld (some 6) 12)<|oF 64 62 (.ld (some 6) 14)<|oF 65 62 (.call a7 [63,64])<|oF 66 62 (.un .not 65)<|o1 67 (.pick 62 (.const (.bool true)) 66)<|om 68 67<|gF 69 68 13<|gF 70 68 15<|oF 71 68 (.bin .neq 69 70)<|o1 72 (.pick 68 (.const (.bool true)) 71) .done) (.cond 72 (sR (o1 6 (.mv (.const (.bool false))) .done) .ret) .skip)) (.seq (sR (o1 73 (.ld (some 6) 8)<|o1 74 (.ld (some 6) 12)<|o1 75 (.bld [(0,6),(6,6)] [(vZ 0),(vZ 0),(vZ 0),(Al []),(.slice none 0 0),(.slice none 0 0),(vZ 0),(vZ 0),(vZ 0),(Al []),(.slice none 0 0),(.slice none 0 0)] [(0,73),(1,74)])<|o1 76 (.mv z0) .done) (.block 0 (.loop (sR (ob 77 .lss 76 z2 .done) (.seq (.cond 77 .skip (.exit 0)) (.seq (.block 1 (sR (o1 78 (.aidx (some 6) 2 6 75 76)<|o1 17 (.alo (.agg #[(vZ 0),(vZ 0),(vZ 0),(Al []),(.slice none 0 0),(.slice none 0 0)]))<|o0 (.st 6 17 78) .done) (sR (oj 79 4 17<|ol 80 79<|oL 81 80<|o1 82 (.mv z0) .done) (.block 2 (.loop (sR (ob 83 .lss 82 81 .done) (.seq (.cond 83 .skip (.exit 2)) (.seq (.block 3 (sR (om 84 82<|om 18 84 .done) (rG (oj 85 4 17<|ol 86 85<|om 87 18<|o1 88 (.bld [(0,1),(1,2),(3,1),(4,1),(5,1)] [(vZ 0),(vZ 0),(vZ 0),(Al []),(.slice none 0 0),(.slice none 0 0)] [(0,(kZ (-4)))])<|oI 89 6 86 87<|o0 (.st 6 89 88) .done)))) (rG (ob 90 .add 82 z1<|om 82 90 .done)))))))))) (rG (ob 91 .add 76 z1<|om 76 91 .done)))))))) (sR (o1 92 (.ld (some 6) 7)<|o1 93 (.ld (some 6) 3)<|oc 94 a7 [92,93]<|om 95 94<|oT 96 95 (.call a1 [])<|gP 97 95 96<|om 6 97 .done) .ret))))))))))⟩
set_option maxHeartbeats 6000000 in
def Pu{T:Ag→Prop}{P f f3 f4 f5 f6 f7 f8}(hTm:∀{d d'},Le d d'→T d→T d')(hd:dec P f=some (Hd f1 f2 f3 f4 f5 f6 f7 f8))(h1:JQ P f1)(h2:PG T P f2)(h3:Oy P f3)(h4:P7 T P f4)(h5:Ml T P f5)(h6:Ln T P f6)(h7:KS T P f7)(h8:Gi P f8)
  {d cs es wv}{v x:V}{ws:List (List St)}(ht:T d) (hv:Aw d cs v) (hw:RSl 1 Cb d wv ws) (hx:Aw d es x):AM P f [.agg cs.toArray,wv,.agg es.toArray] d (.bool true):=by
 obtain⟨wa,wc,rfl⟩:=RSl.val hw
 have hw':RSl 1 Cb d (.slice wa ws.length wc) ws:=hw
 obtain⟨c0,c1,c2,c3,c4,c5,rfl⟩:=six hv.len
 obtain⟨e0,e1,e2,e3,e4,e5,rfl⟩:=six hx.len
 have hvc:=AH _ _ _ hv
 have hxc:=AH _ _ _ hx
 refine AM.of' hd (No rfl) ?_
 show gwp P _ _ _ _ _
 apply Ai;apply Ay
 refine AO (l:=[c0,c1,c2,c3,c4,c5]) rfl (fun b3 T3=>?_)
 refine AO (l:=[e0,e1,e2,e3,e4,e5]) rfl (fun b5 T5=>?_)
 (refine Ad rfl<|Aa<|Ai<|Ac<|As rfl<|AD 1 rfl rfl rfl<|AD 0 rfl rfl rfl ?_)
 refine Hp rfl rfl rfl rfl (fun b22 T22=>?_)
 refine BF (fun d2 hl2 hg2=>?_)
 have hv2:=hv.mono hl2
 have hx2:=hx.mono hl2
 have hw2:RSl 1 Cb d2 (.slice wa ws.length wc) ws:=RSl.mono (R:=Cb) DW hw' hl2
 refine AR rfl (h1 hw2 (Va hv hx hl2 hg2)) (fun r d3 L3 _ ⟨hdd,hL,b,hr,hb⟩=>?_)
 subst hdd;subst hL;subst hr
 have ht3:T d3:=hTm hl2 ht
 cases b with
 |true=>
  (refine Aa<|Bb rfl<|Ac ?_)
  refine AF rfl (h2 ht3) ?_
  (refine Ad rfl<|Aa<|Ar ?_)
  exact BI rfl
 |false=>
 obtain⟨hn,hlen,hbv⟩:=hb rfl
 obtain⟨hbt,hbx⟩:=Wp hbv
 clear hb hbv
 have hPB:Hc v ws x:=by
  have q:ws.length*(Bq x+49152)≤20*(600+49152):=Nat.mul_le_mul hn (by omega);exact Wl ws (by omega) hlen
 have hl100:∀w∈ws,w.length≤100:=fun w hw=>by have:=hlen w hw;omega
 have hcv:=Ec v
 have hcx:=Ec x
 clear hw hw' hv hx
 (refine Aa<|AK rfl<|Am<|Ac<|AD 1 rfl rfl rfl ?_)
 refine AR rfl (h3 v hv2 (by omega)) (fun r d4 L4 hl4 ⟨hL,cs4,hr,hO⟩=>?_)
 subst hL;subst hr
 obtain⟨o0,o1,o2,o3,o4,o5,rfl⟩:=six hO.len
 have hOc:=AH _ _ _ hO
 have hv4:=hv2.mono hl4
 have hx4:=hx2.mono hl4
 have hw4:RSl 1 Cb d4 (.slice wa ws.length wc) ws:=RSl.mono (R:=Cb) DW hw2 hl4
 have ht4:=hTm hl4 ht3
 (apply AX;intro _ _)
 rename_i b7 T7
 refine Az 0 [o0,o1,o2,o3,o4,o5] rfl rfl rfl rfl (No rfl) hOc rfl ?_
 (refine Aa<|Ac<|AD 0 rfl rfl rfl<|As rfl<|AD 1 rfl rfl rfl ?_)
 refine AR rfl (h4 ht4 hO hw4 hx4 hPB (by omega) hl100) (fun r d5 L5 hl5 ⟨_,cs5,g5,hr,hL,ho5⟩=>?_)
 subst hL;subst hr
 obtain⟨lv5,kv5,r5,rfl,hV5,hrow5⟩:=ho5.top
 obtain⟨la5,lc5,rfl⟩:=hrow5.val
 have n5:=hrow5.len
 have hAc:=ho5.cells.2
 have hv5:=hv4.mono hl5
 have hx5:=hx4.mono hl5
 have hO5:=hO.mono hl5
 have hw5:RSl 1 Cb d5 (.slice wa ws.length wc) ws:=RSl.mono (R:=Cb) DW hw4 hl5
 have ht5:=hTm hl5 ht4
 clear hv2 hx2 hw2 hv4 hx4 hw4 hO
 (refine Bj rfl<|AL rfl rfl<|AL rfl rfl<|AX (fun _ _=>?_))
 rename_i b8 T8
 have hA0:=ho5
 refine Az 0 [vZ (CJ v ws x).1.kind,vZ (CJ v ws x).1.m,vZ (CJ v ws x).1.e,Al (CJ v ws x).1.text,.slice la5 (CJ v ws x).1.list.length lc5,kv5] rfl rfl rfl rfl (No rfl) hAc rfl ?_
 (refine Ab rfl<|Aa<|Ac<|AD 4 rfl rfl rfl<|As rfl<|AD 3 rfl rfl rfl ?_)
 refine AR rfl (h5 ht5 hv5 hw5 hx5 hPB (by omega) hl100) (fun r d6 L6 hl6 ⟨hL,cs6,hr,hB⟩=>?_)
 subst hL;subst hr
 obtain⟨p0,p1,p2,p3,p4,p5,rfl⟩:=six hB.len
 have hBc:=AH _ _ _ hB
 have hv6:=hv5.mono hl6
 have hO6:=hO5.mono hl6
 have hw6:RSl 1 Cb d6 (.slice wa ws.length wc) ws:=RSl.mono (R:=Cb) DW hw5 hl6
 have ht6:=hTm hl6 ht5
 clear hv5 hx5 hw5 hO5 hPB
 (refine Bj rfl<|AL rfl rfl<|AL rfl rfl<|AX (fun _ _=>?_))
 rename_i b10 T10
 refine Az 0 [p0,p1,p2,p3,p4,p5] rfl rfl rfl rfl (No rfl) hBc rfl ?_
 (refine Ab rfl<|Aa<|Ac<|AD 3 rfl rfl rfl<|As rfl ?_)
 refine AR rfl (h6 ht6 hO6 hw6 (by omega) (by omega) hl100) (fun r d7 L7 hl7 ⟨_,cs7,g7,hr,hL,ho7⟩=>?_)
 subst hL;subst hr
 obtain⟨lv7,kv7,r7,rfl,hV7,hrow7⟩:=ho7.top
 obtain⟨la7,lc7,rfl⟩:=hrow7.val
 have n7:=hrow7.len
 have hCc:=ho7.cells.2
 have hv7:=hv6.mono hl7
 have hO7:=hO6.mono hl7
 have hw7:RSl 1 Cb d7 (.slice wa ws.length wc) ws:=RSl.mono (R:=Cb) DW hw6 hl7
 have ht7:=hTm hl7 ht6
 have hB7:=hB.mono hl7
 clear hv6 hw6 hO6 hB
 (refine Bj rfl<|AL rfl rfl<|AL rfl rfl<|AX (fun _ _=>?_))
 rename_i b12 T12
 refine Az 0 [vZ (DT v ws).1.kind,vZ (DT v ws).1.m,vZ (DT v ws).1.e,Al (DT v ws).1.text,.slice la7 (DT v ws).1.list.length lc7,kv7] rfl rfl rfl rfl (No rfl) hCc rfl ?_
 (refine Ab rfl<|Aa<|Ac<|AD 7 rfl rfl rfl<|As rfl ?_)
 refine AR rfl (h7 ht7 hv7 hw7 (by omega) (by omega) hl100) (fun r d8 L8 hl8 ⟨hL,cs8,hr,hD⟩=>?_)
 subst hL;subst hr
 obtain⟨q0,q1,q2,q3,q4,q5,rfl⟩:=six hD.len
 have hDc:=AH _ _ _ hD
 have hv8:=hv7.mono hl8
 have hO8:=hO7.mono hl8
 have ht8:=hTm hl8 ht7
 have hB8:=hB7.mono hl8
 clear hv7 hw7 hO7 hB7
 (refine Bj rfl<|AL rfl rfl<|AL rfl rfl<|AX (fun _ _=>?_))
 rename_i b14 T14
 refine Az 0 [q0,q1,q2,q3,q4,q5] rfl rfl rfl rfl (No rfl) hDc rfl ?_
 generalize CJ v ws x=A at*
 generalize DT v ws=C at*
 (refine Ab rfl<|Aa<|Ai<|Ac<|AD 4 rfl rfl rfl<|AD 3 rfl rfl rfl ?_)
 refine K8 (v:=.bool true) rfl (fun d9 hl9 hk9=>by
  have q:=h8 _ _ (ho5.Mj (d:=d9) (hk9 g5 (by simp))) (Aw.mono hl9 hB8);rwa [(CP _ _).2 rfl] at q) ?_
 (refine Bi rfl<|Ad rfl<|Ae rfl<|Ab rfl<|Ae rfl<|Ab rfl<|Ae rfl<|AG rfl rfl<|An rfl rfl<|Ad rfl<|AB rfl (by omega)<|Ae rfl<|AD 1 rfl rfl rfl<|Ae rfl<|AD 0 rfl rfl rfl<|Ae rfl ?_)
 refine K8 (v:=.bool true) rfl (fun d9 hl9 hk9=>by
  have q:=h8 _ _ (ho7.Mj (d:=d9) (hk9 g7 (by simp))) (Aw.mono hl9 hD);rwa [(CP _ _).2 rfl] at q) ?_
 refine B9 d8 [g5,g7,bx b7 T7 [o0,o1,o2,o3,o4,o5],bx b3 T3 [c0,c1,c2,c3,c4,c5],bx b8 T8 [vZ A.1.kind,vZ A.1.m,vZ A.1.e,Al A.1.text,.slice la5 A.1.list.length lc5,kv5],bx b12 T12 [vZ C.1.kind,vZ C.1.m,vZ C.1.e,Al C.1.text,.slice la7 C.1.list.length lc7,kv7]] ((Vs.pick [5,2,6,8,4,1,0,3,7] rfl).trans (Vs.drop (.cons_cons _ (.cons_cons _ (.cons_cons _ (.cons_cons _ (.cons_cons _ (.cons_cons _ (ZB _))))))))) ?_
 refine B9 d8 (r5::[g7,bx b7 T7 [o0,o1,o2,o3,o4,o5],bx b3 T3 [c0,c1,c2,c3,c4,c5],bx b8 T8 [vZ A.1.kind,vZ A.1.m,vZ A.1.e,Al A.1.text,.slice la5 A.1.list.length lc5,kv5],bx b12 T12 [vZ C.1.kind,vZ C.1.m,vZ C.1.e,Al C.1.text,.slice la7 C.1.list.length lc7,kv7]]) (Vs.Y1 (hV5 d8) _) ?_
 refine B9 d8 (g7::[r5,bx b7 T7 [o0,o1,o2,o3,o4,o5],bx b3 T3 [c0,c1,c2,c3,c4,c5],bx b8 T8 [vZ A.1.kind,vZ A.1.m,vZ A.1.e,Al A.1.text,.slice la5 A.1.list.length lc5,kv5],bx b12 T12 [vZ C.1.kind,vZ C.1.m,vZ C.1.e,Al C.1.text,.slice la7 C.1.list.length lc7,kv7]]) (Vs.perm (Z0 _ _ _)) ?_
 refine B9 d8 (r7::[r5,bx b7 T7 [o0,o1,o2,o3,o4,o5],bx b3 T3 [c0,c1,c2,c3,c4,c5],bx b8 T8 [vZ A.1.kind,vZ A.1.m,vZ A.1.e,Al A.1.text,.slice la5 A.1.list.length lc5,kv5],bx b12 T12 [vZ C.1.kind,vZ C.1.m,vZ C.1.e,Al C.1.text,.slice la7 C.1.list.length lc7,kv7]]) (Vs.Y1 (hV7 d8) _) ?_
 refine B9 d8 [bx b7 T7 [o0,o1,o2,o3,o4,o5],bx b3 T3 [c0,c1,c2,c3,c4,c5],r5,r7,bx b8 T8 [vZ A.1.kind,vZ A.1.m,vZ A.1.e,Al A.1.text,.slice la5 A.1.list.length lc5,kv5],bx b12 T12 [vZ C.1.kind,vZ C.1.m,vZ C.1.e,Al C.1.text,.slice la7 C.1.list.length lc7,kv7]] (Vs.pick [2,3,1,0,4,5] rfl) ?_
 (refine Ae rfl<|Bi rfl<|An rfl rfl<|Ad rfl<|Ae rfl<|Ab rfl<|Ae rfl<|Ab rfl<|Ae rfl<|AG rfl rfl<|An rfl rfl<|Aa<|Ao rfl (by omega)<|Am<|Ai<|Ac<|AD 4 rfl rfl rfl<|AD 5 rfl rfl rfl<|U0 rfl rfl<|Ab rfl<|Aa<|Av ?_)
 refine Bg (α:=Nat) (fun i=>[(3,pZ b3),(7,pZ b7),(75,.agg [vZ A.1.kind,vZ A.1.m,vZ A.1.e,Al A.1.text,.slice la5 A.1.list.length lc5,kv5,vZ C.1.kind,vZ C.1.m,vZ C.1.e,Al C.1.text,.slice la7 C.1.list.length lc7,kv7].toArray),(76,vZ i)])
  (fun i d' L'=>d'=d8∧i≤2∧∃ra rc J,Hx A.1.list.length (.slice la5 A.1.list.length lc5) ra∧Hx C.1.list.length (.slice la7 C.1.list.length lc7) rc∧L'=bx b7 T7 [o0,o1,o2,o3,o4,o5]::bx b3 T3 [c0,c1,c2,c3,c4,c5]::ra::rc::J) (fun i=>2 - i) 0
  ⟨rfl,rfl,rfl,rfl,trivial⟩ ⟨rfl,by omega,r5,r7,_,hrow5,hrow7,rfl⟩ ?_
 rintro i ρ d9 L' ⟨hdd,hi,ra,rc,J,hra,hrc,hL⟩
 subst hdd;subst hL
 by_cases hi0:i=0
 ·subst hi0
  (refine Ac<|Ax rfl rfl<|Aa<|Ai<|Au rfl (by omega)<|Am<|Ai<|Av<|Ac ?_)
  refine MT 0 rfl rfl rfl (by omega) (vs:=[vZ A.1.kind,vZ A.1.m,vZ A.1.e,Al A.1.text,.slice la5 A.1.list.length lc5,kv5]) rfl ?_
  (apply AX;intro _ _)
  rename_i b17 T17
  refine B9 d9 (bx b7 T7 [o0,o1,o2,o3,o4,o5]::bx b3 T3 [c0,c1,c2,c3,c4,c5]::ra::rc::bx b17 T17 A7::J) (Vs.perm (Acs (l₁:=[bx b7 T7 [o0,o1,o2,o3,o4,o5],bx b3 T3 [c0,c1,c2,c3,c4,c5],ra,rc])).symm) ?_
  refine Az 4 [vZ A.1.kind,vZ A.1.m,vZ A.1.e,Al A.1.text,.slice la5 A.1.list.length lc5,kv5] rfl rfl rfl rfl (No rfl) hAc rfl ?_
  (refine Aa<|Ac<|Af rfl<|Ah rfl (Aj 4 rfl rfl)<|AA rfl<|Ab rfl<|Aa<|Av ?_)
  refine Bg (α:=Nat) (fun k=>[(3,pZ b3),(7,pZ b7),(75,.agg [vZ A.1.kind,vZ A.1.m,vZ A.1.e,Al A.1.text,.slice la5 A.1.list.length lc5,kv5,vZ C.1.kind,vZ C.1.m,vZ C.1.e,Al C.1.text,.slice la7 C.1.list.length lc7,kv7].toArray),(76,vZ 0),(17,pZ b17),(81,vZ A.1.list.length),(82,vZ k)])
   (fun k d' L'=>d'=d9∧k≤A.1.list.length∧∃rr,Hx A.1.list.length (.slice la5 A.1.list.length lc5) rr∧L'=bx b7 T7 [o0,o1,o2,o3,o4,o5]::bx b3 T3 [c0,c1,c2,c3,c4,c5]::rr::rc::bx b17 T17 [vZ A.1.kind,vZ A.1.m,vZ A.1.e,Al A.1.text,.slice la5 A.1.list.length lc5,kv5]::J) (fun k=>A.1.list.length - k) 0
   ⟨rfl,rfl,rfl,rfl,rfl,rfl,rfl,trivial⟩ ⟨rfl,ZN _,_,hra,rfl⟩ ?_
  rintro k ρ d10 L' ⟨hdd,hk,rr,hrr,hL⟩
  subst hdd;subst hL
  by_cases hkn:k<A.1.list.length
  ·obtain⟨rb,rT,rl,rcap,e1,rfl,hle,hset⟩:=OS hrr hkn
   cases e1
   (refine Ac<|Ax rfl rfl<|Aa<|Ai<|Au rfl (by omega)<|Am<|Ai<|Av<|Ac<|Ab rfl<|Ab rfl<|Aa<|Ay<|Af rfl<|Ah rfl (Aj 4 rfl rfl)<|Ab rfl<|NJ rfl ?_)
   refine Eh (a:=some ⟨rb,0,none⟩) k rfl rfl rfl hkn (SAd.some _ rb 0) ?_
   rw[Aac (k*6)]
   refine SS 2 rfl rfl rfl rfl hle rfl ?_
   (refine Aa<|Ay<|AI rfl rfl (by omega) (by omega)<|Ab rfl<|Aa ?_)
   exact⟨k+1,by omega,⟨rfl,rfl,rfl,rfl,rfl,rfl,int_eq (by simp),trivial⟩,rfl,hkn,_,hset _ rfl,rfl⟩
  ·obtain rfl:k=A.1.list.length:=by omega
   (refine Ac<|Ax rfl rfl<|Aa<|Ai<|Ao rfl (by omega)<|AV<|Ay<|AI rfl rfl (by omega) (by omega)<|Ab rfl<|Aa ?_)
   exact⟨1,by omega,⟨rfl,rfl,rfl,rfl,trivial⟩,rfl,by omega,rr,rc,_::J,hrr,hrc,rfl⟩
 by_cases hi1:i=1
 ·subst hi1
  (refine Ac<|Ax rfl rfl<|Aa<|Ai<|Au rfl (by omega)<|Am<|Ai<|Av<|Ac ?_)
  refine MT 1 rfl rfl rfl (by omega) (vs:=[vZ C.1.kind,vZ C.1.m,vZ C.1.e,Al C.1.text,.slice la7 C.1.list.length lc7,kv7]) rfl ?_
  (apply AX;intro _ _)
  rename_i b17 T17
  refine B9 d9 (bx b7 T7 [o0,o1,o2,o3,o4,o5]::bx b3 T3 [c0,c1,c2,c3,c4,c5]::ra::rc::bx b17 T17 A7::J) (Vs.perm (Acs (l₁:=[bx b7 T7 [o0,o1,o2,o3,o4,o5],bx b3 T3 [c0,c1,c2,c3,c4,c5],ra,rc])).symm) ?_
  refine Az 4 [vZ C.1.kind,vZ C.1.m,vZ C.1.e,Al C.1.text,.slice la7 C.1.list.length lc7,kv7] rfl rfl rfl rfl (No rfl) hCc rfl ?_
  (refine Aa<|Ac<|Af rfl<|Ah rfl (Aj 4 rfl rfl)<|AA rfl<|Ab rfl<|Aa<|Av ?_)
  refine Bg (α:=Nat) (fun k=>[(3,pZ b3),(7,pZ b7),(75,.agg [vZ A.1.kind,vZ A.1.m,vZ A.1.e,Al A.1.text,.slice la5 A.1.list.length lc5,kv5,vZ C.1.kind,vZ C.1.m,vZ C.1.e,Al C.1.text,.slice la7 C.1.list.length lc7,kv7].toArray),(76,vZ 1),(17,pZ b17),(81,vZ C.1.list.length),(82,vZ k)])
   (fun k d' L'=>d'=d9∧k≤C.1.list.length∧∃rr,Hx C.1.list.length (.slice la7 C.1.list.length lc7) rr∧L'=bx b7 T7 [o0,o1,o2,o3,o4,o5]::bx b3 T3 [c0,c1,c2,c3,c4,c5]::ra::rr::bx b17 T17 [vZ C.1.kind,vZ C.1.m,vZ C.1.e,Al C.1.text,.slice la7 C.1.list.length lc7,kv7]::J) (fun k=>C.1.list.length - k) 0
   ⟨rfl,rfl,rfl,rfl,rfl,rfl,rfl,trivial⟩ ⟨rfl,ZN _,_,hrc,rfl⟩ ?_
  rintro k ρ d10 L' ⟨hdd,hk,rr,hrr,hL⟩
  subst hdd;subst hL
  by_cases hkn:k<C.1.list.length
  ·obtain⟨rb,rT,rl,rcap,e1,rfl,hle,hset⟩:=OS hrr hkn
   cases e1
   (refine Ac<|Ax rfl rfl<|Aa<|Ai<|Au rfl (by omega)<|Am<|Ai<|Av<|Ac<|Ab rfl<|Ab rfl<|Aa<|Ay<|Af rfl<|Ah rfl (Aj 4 rfl rfl)<|Ab rfl<|NJ rfl ?_)
   refine Eh (a:=some ⟨rb,0,none⟩) k rfl rfl rfl hkn (SAd.some _ rb 0) ?_
   rw[Aac (k*6)]
   refine SS 3 rfl rfl rfl rfl hle rfl ?_
   (refine Aa<|Ay<|AI rfl rfl (by omega) (by omega)<|Ab rfl<|Aa ?_)
   exact⟨k+1,by omega,⟨rfl,rfl,rfl,rfl,rfl,rfl,int_eq (by simp),trivial⟩,rfl,hkn,_,hset _ rfl,rfl⟩
  ·obtain rfl:k=C.1.list.length:=by omega
   (refine Ac<|Ax rfl rfl<|Aa<|Ai<|Ao rfl (by omega)<|AV<|Ay<|AI rfl rfl (by omega) (by omega)<|Ab rfl<|Aa ?_)
   exact⟨2,by omega,⟨rfl,rfl,rfl,rfl,trivial⟩,rfl,by omega,ra,rr,_::J,hra,hrr,rfl⟩
 obtain rfl:i=2:=by omega
 have hsm:=h8 _ _ hO8 hv8
 rw[(CP v v).2 rfl] at hsm
 (refine Ac<|Ax rfl rfl<|Aa<|Ai<|Ao rfl (by omega)<|AV<|Ac<|AD 0 rfl rfl rfl<|AD 1 rfl rfl rfl ?_)
 refine AF rfl hsm ?_
 (refine Ad rfl<|Ae rfl ?_)
 refine AF rfl (h2 ht8) ?_
 (refine Ap rfl rfl<|Ad rfl<|Aa<|Ar ?_)
 exact BI rfl
def WL(h:Dd (.mk 0 0 0 [] [v] [])≤600):Bq v≤600∧Cc v≤600∧Dd v≤600:=by
 have e:Dd (.mk 0 0 0 [] [v] [])=1+0+0+(Dd v+0):=rfl;have:=Mo v;have:=Wg v;omega
def YT{P}{Q:Er}{a b c e:Cz}{ρ d L}(M:Env→A0)(h1:gwp P a {Q with n:=gwp P (.seq b c) {Q with n:=M}} ρ d L)(h2:∀ρ d L,M ρ d L→gwp P e Q ρ d L):
  gwp P a {Q with n:=gwp P (.seq b (.seq c e)) Q} ρ d L:=by
 refine FP (fun ρ d L h=>?_) h1
 simp only[gwp] at h⊢
 exact FP (fun ρ d L h=>FP h2 h) h
def X1(h:BH v=true)(k:v.kind=3):Br v.m v.e=true:=by
 have h1:=Gq h;simp only[BW,Cf,Bool.and_eq_true,Bool.or_eq_true,decide_eq_true_eq] at h1;simp_all
def KD(h:BH v=true):(AQ v).2=(Cd v).2∧((AQ v).2=true→AQ v=Cd v):=by
 by_cases k:v.kind=3
 ·exact PW (X1 h k)
 ·unfold AQ Cd;rw[if_pos (Or.inl k),if_pos (Or.inl k)];exact⟨rfl,fun _=>rfl⟩
def Wb{ks}(h:ks.length=2)(h0:ks[0]=DE)(h1:ks[1]=CA):ks=[DE,CA]:=by
 match ks,h with
 |[a,b],_=>simp at h0 h1;rw[h0,h1]
def My(T:Ag→Prop)(P:Program)(f:FuncId):Prop:=∀{d cs}{v:V},T d→Aw d cs v→v.list.length≤1000000→Bc v≤1000000000→
 A8 P f [.agg cs.toArray] d [] (Ret fun r d' L'=>L'=[]∧∃w,r=.tuple #[w,vZ (G1 v).2]∧RSl 6 RSt d' w (G1 v).1)
def KU(a0 a1:Nat):A6:=⟨112,[(.tmp 2),(.tmp 3)],(sR (o1 1 (.box 0)<|o1 2 (.mv nS)<|o1 3 (.mv z0) .done) (sR (o1 10 (.ld (some 6) 1)<|oc 11 a0 [10]<|om 4 11 .done) (.seq (sR (om 12 4<|ob 13 .neq 12 z0 .done) (.cond 13 (sR (om 14 4<|o1 2 (.mv nS)<|om 3 14 .done) .ret) .skip)) (.seq (sR (oj 15 0 1<|ol 16 15<|ob 17 .neq 16 (kZ 5) .done) (.cond 17 (sR (o1 2 (.mv nS)<|o1 3 (.mv (kZ 80)) .done) .ret) .skip)) (sR (o1 5 (.mv nS) .done) (.seq (sR (o1 6 (.mv z0) .done) (.block 0 (.loop (.seq (sR (om 18 6<|oj 19 4 1<|ol 20 19<|oL 21 20<|ob 22 .lss 18 21 .done) (.cond 22 .skip (.exit 0))) (.seq (.block 1 (sR (oj 25 4 1<|ol 26 25<|om 27 6<|oI 28 6 26 27<|o1 29 (.ld (some 6) 28)<|o1 7 (.alo (.agg #[(vZ 0),(vZ 0),(vZ 0),(Al []),(.slice none 0 0),(.slice none 0 0)]))<|o0 (.st 6 7 29) .done) (sR (o1 8 (.alo (.agg #[(vZ 0),(Al []),(vZ 0),(vZ 0),(.bool false),(.bool false)])) .done) (sR (o1 9 (.mv (.const (.bool false))) .done) (.seq (sR (oj 30 0 7<|ol 31 30<|ob 32 .eql 31 (kZ 4) .done) (.cond 32 (sR (oj 33 3 7<|ol 34 33<|oj 35 1 8<|o0 (.st 1 35 34) .done) (rG (o1 9 (.mv (.const (.bool true))) .done))) .skip)) (.seq (sR (oj 36 0 7<|ol 37 36<|ob 38 .eql 37 (kZ 3) .done) (.cond 38 (sR (oj 39 0 8<|o0 (.st 1 39 z1) .done) (rG (o1 41 (.ld (some 6) 7)<|oc 42 a1 [41]<|om 40 42<|oe 43 40 0<|oe 44 40 1<|oj 45 2 8<|o0 (.st 1 45 43)<|om 9 44 .done))) .skip)) (.seq (sR (oj 46 0 7<|ol 47 46<|ob 48 .eql 47 (kZ 6)<|om 49 48<|oT 50 49 (.fld 5 7)<|oT 51 49 (.ld none 50)<|oT 52 49 (.len 51)<|oT 53 49 (.bin .eql 52 z2)<|gP 54 49 53<|om 55 54<|oT 56 55 (.fld 5 7)<|oT 57 55 (.ld none 56)<|oT 58 55 (.idx 1 57 z0)<|oT 59 55 (.ld none 58)<|oT 60 55 (.bin .eql 59 (.const (Al [101,110,100])))<|gP 61 55 60<|om 62 61<|oT 63 62 (.fld 5 7)<|oT 64 62 (.ld none 63)<|oT 65 62 (.idx 1 64 z1)<|oT 66 62 (.ld none 65)<|oT 67 62 (.bin .eql 66 (.const (Al [115,116,97,114,116])))<|gP 68 62 67 .done) (.cond 68 (sR (oj 69 0 8<|o0 (.st 1 69 z2) .done) (sR (o1 9 (.mv (.const (.bool true))) .done) (.seq (sR (oj 70 4 7<|ol 71 70<|o1 72 (.idx 6 71 z0)<|oj 73 0 72<|ol 74 73<|ob 75 .neq 74 z0 .done) (.cond 75 (sR (oj 76 5 8<|o0 (.st 1 76 (.const (.bool true))) .done) (rG (oj 78 4 7<|ol 79 78<|o1 80 (.idx 6 79 z0)<|o1 81 (.ld (some 6) 80)<|oc 82 a1 [81]<|om 77 82<|oe 83 77 0<|oe 84 77 1<|oj 85 3 8<|o0 (.st 1 85 83)<|om 9 84 .done))) .skip)) (sR (oj 86 4 7<|ol 87 86<|o1 88 (.idx 6 87 z1)<|oj 89 0 88<|ol 90 89<|ob 91 .neq 90 z0<|om 92 91<|gT 93 92 9<|gP 94 92 93 .done) (.cond 94 (sR (oj 95 4 8<|o0 (.st 1 95 (.const (.bool true))) .done) (rG (oj 97 4 7<|ol 98 97<|o1 99 (.idx 6 98 z1)<|o1 100 (.ld (some 6) 99)<|oc 101 a1 [100]<|om 96 101<|oe 102 96 0<|oe 103 96 1<|oj 104 2 8<|o0 (.st 1 104 102)<|om 9 103 .done))) .skip))))) .skip)) (.seq (sR (om 105 9<|o1 106 (.un .not 105) .done) (.cond 106 (sR (o1 2 (.mv nS)<|o1 3 (.mv (kZ 80)) .done) .ret) .skip)) (rG (om 107 5<|o1 108 (.ld (some 6) 8)<|o1 109 (.bsl 1 6 [(vZ 0),(Al []),(vZ 0),(vZ 0),(.bool false),(.bool false)] [(0,108)])<|o1 110 (.app 6 48 [(vZ 0),(Al []),(vZ 0),(vZ 0),(.bool false),(.bool false)] 107 109)<|om 5 110 .done)))))))))) (rG (om 23 6<|ob 24 .add 23 z1<|om 6 24 .done))))))) (sR (om 111 5<|om 2 111<|o1 3 (.mv z0) .done) .ret)))))))⟩
set_option maxHeartbeats 4000000 in
def Xv{T:Ag→Prop}{P f}(hTm:∀{d d'},Le d d'→T d→T d')(hd:dec P f=some (KU f1 f2))(h1:EW T P f1)(h2:Mu P f2):My T P f:=by
 intro d cs v ht hv hb hdp;refine Bd hd (No rfl) ?_;have hv0:=hv;obtain⟨lv,kv,rfl,ik,im,ie,it,hl,hks⟩:=hv.open;obtain⟨la,lc,rfl⟩:=RSl.val hl;obtain⟨ka,kc,rfl⟩:=RSl.val hks;show gwp P _ _ _ _ _;apply Ai;apply Ay;refine B9 d [emp] Vs.emp ?_;refine AO (l:=[vZ v.kind,vZ v.m,vZ v.e,Al v.text,.slice la v.list.length lc,.slice ka v.keys.length kc]) rfl (fun b1 T1=>?_);(refine As rfl<|Ab rfl<|Aa<|Ac<|AD 0 rfl rfl rfl ?_);refine AF rfl (h1 ht hv0 hdp) ?_;by_cases hr:AS v≠0
 ·rw[MS hr];(refine Ab rfl<|Aa<|Ai<|Ac<|Ab rfl<|AG rfl rfl<|Aa<|Au rfl (by omega)<|Ac<|Ab rfl<|As rfl<|Ab rfl<|Aa<|Ar ?_);exact BG (L':=[]) [.slice none 0 0,vZ (AS v)] ⟨A4 rfl,A4 rfl,trivial⟩ (ZB _) ⟨rfl,_,rfl,RSl.nil⟩
 by_cases hk:v.kind≠5
 ·rw[OH hr hk];(refine Ab rfl<|Aa<|Ai<|Ac<|Ab rfl<|AG rfl rfl<|Aa<|Ao rfl (by omega)<|Am<|Ai<|Ac<|Af rfl<|Ah rfl (Aj 0 rfl rfl)<|AG rfl rfl<|Aa<|Au rfl (by omega)<|Ac<|As rfl<|Ab rfl<|Aa<|Ar ?_);exact BG (L':=[]) [.slice none 0 0,vZ 80] ⟨A4 rfl,A4 rfl,trivial⟩ (ZB _) ⟨rfl,_,rfl,RSl.nil⟩
 have hmay:BH v=true:=(CE.1 (Decidable.not_not.1 hr)).1;have hl':RSl 6 Aw d (.slice la v.list.length lc) v.list:=hl;(refine Ab rfl<|Aa<|Ai<|Ac<|Ab rfl<|AG rfl rfl<|Aa<|Ao rfl (by omega)<|Am<|Ai<|Ac<|Af rfl<|Ah rfl (Aj 0 rfl rfl)<|AG rfl rfl<|Aa<|Ao rfl (by omega)<|Am<|Ac<|As rfl<|Aa<|Ai<|Ac<|Ab rfl<|Aa<|Av ?_);refine Bg (α:=Nat×Option Addr×Nat) (fun x=>[(1,pZ b1),(5,.slice x.2.1 x.1 x.2.2),(6,vZ x.1)])
  (fun x d' L'=>d'=d∧x.1≤v.list.length∧(∀j (hj:j<v.list.length),j<x.1→(BB v.list[j]).2=true)∧∃J h,AN 6 RSt d' (.slice x.2.1 x.1 x.2.2) ((v.list.map fun x=>(BB x).1).take x.1) h∧L'=bx b1 T1 [vZ v.kind,vZ v.m,vZ v.e,Al v.text,.slice la v.list.length lc,.slice ka v.keys.length kc]::h::J)
  (fun x=>v.list.length - x.1) (0,none,0) ⟨rfl,rfl,rfl,trivial⟩ ⟨rfl,ZN _,fun j _ h=>absurd h (Z3 j),[],emp,AN.nil,rfl⟩ ?_
 rintro⟨i,ra,rc⟩ ρ d3 L' ⟨hdd,hi,hall,J,h,hrow,hL⟩;simp only at hi hall hrow⊢;subst hdd;subst hL;by_cases hc:i<v.list.length
 ·(refine Ai<|Ac<|Ab rfl<|Af rfl<|Ah rfl (Aj 0 rfl rfl)<|AA rfl<|Ax rfl rfl<|Aa<|Au rfl (by omega)<|Am<|Ai<|Av<|Ac<|Af rfl<|Ah rfl (Aj 0 rfl rfl)<|Ab rfl<|AJ (sz:=6) (R:=Aw) (by rfl) (by assumption) (by rfl) rfl (by omega) ?_;rintro _ _ _ _ _ _;refine BE rfl (by assumption) (by assumption)<|AX (fun _ _=>?_));rename_i q1 q2 q3 q4 q5 hR b7 T7;have hRs:=PS hR;have hmx:BH v.list[i]=true:=CR hmay (ZC hc);generalize hx:v.list[i]=x at hR hRs hmx;obtain⟨xl,yk,rfl,ixk,ixm,ixe,ixt,hxl,hxk⟩:=hR.open;obtain⟨xa,xc,rfl⟩:=RSl.val hxl;obtain⟨ya,yc,rfl⟩:=RSl.val hxk;refine Az 0 [vZ x.kind,vZ x.m,vZ x.e,Al x.text,.slice xa x.list.length xc,.slice ya x.keys.length yc] rfl rfl rfl rfl (No rfl) (AH _ _ _ hR) rfl ?_;(refine Aa<|Ac<|AX (fun _ _=>Aa<|Ac<|Ad rfl<|Aa<|Ai<|Ac<|Af rfl<|Ah rfl (Aj 1 rfl rfl)<|Aq rfl rfl<|Aa ?_));rename_i b8 T8;show gwp P _ _ _ _ _;refine YT (fun ρ d8 L8=>d8=d3∧∃s:St,((BB x).2=true→s=(BB x).1)∧A9 ρ [(1,pZ b1),(5,.slice ra i rc),(6,vZ i),(8,pZ b8),(9,.bool (BB x).2)]∧
   L8=bx b8 T8 (stL s)::bx b7 T7 [vZ x.kind,vZ x.m,vZ x.e,Al x.text,.slice xa x.list.length xc,.slice ya x.keys.length yc]::bx b1 T1 [vZ v.kind,vZ v.m,vZ v.e,Al v.text,.slice la v.list.length lc,.slice ka v.keys.length kc]::h::J) ?_ ?_
  ·by_cases k4:x.kind=4
   ·rw[W2 k4];(refine Au rfl (by omega)<|Ac<|Af rfl<|Ah rfl (Aj 1 rfl rfl)<|Af rfl ?_);refine Az 0 [vZ 0,Al x.text,vZ 0,vZ 0,.bool false,.bool false] rfl rfl rfl rfl (No rfl) rfl rfl ?_;(refine Aa<|Ay<|Ad rfl<|Aa<|Ai<|Ac<|Af rfl<|Ah rfl (Aj 1 rfl rfl)<|Aq rfl rfl<|Aa<|Ao rfl (by omega)<|Am<|Ac<|Af rfl<|Ah rfl (Aj 1 rfl rfl)<|Aq rfl rfl<|Ad rfl<|AB rfl (by omega)<|Ak rfl<|Ak rfl<|Ak rfl<|Ak rfl<|An rfl rfl<|Ad rfl<|Ak rfl<|Ak rfl<|Ak rfl<|Ak rfl<|Ak rfl<|An rfl rfl<|Ad rfl<|Ak rfl<|Ak rfl<|Ak rfl<|Ak rfl<|Ak rfl<|An rfl rfl<|Aa<|AK rfl<|Am ?_);exact⟨rfl,⟨0,x.text,0,0,false,false⟩,fun _=>rfl,⟨rfl,rfl,rfl,rfl,rfl,trivial⟩,rfl⟩
   by_cases k3:x.kind=3
   ·obtain⟨hp1,hp2⟩:=KD hmx;rw[W7 k3];simp only;rw[hp1] at hp2⊢;clear hp1;(refine Ao rfl (by omega)<|Am<|Ai<|Ac<|Af rfl<|Ah rfl (Aj 1 rfl rfl)<|Aq rfl rfl<|Aa<|Au rfl (by omega)<|Ac<|Af rfl ?_);refine Az 0 [vZ 1,Al [],vZ 0,vZ 0,.bool false,.bool false] rfl rfl rfl rfl (No rfl) rfl rfl ?_;(refine Aa<|Ay<|AD 1 rfl rfl rfl ?_);refine AF rfl (h2 hR) ?_;(refine Bj rfl<|AL rfl rfl<|AL rfl rfl<|Af rfl ?_);refine Az 0 [vZ 1,Al [],vZ (Cd x).1,vZ 0,.bool false,.bool false] rfl rfl rfl rfl (No rfl) rfl rfl ?_;(refine Ad rfl<|Aa<|Ac<|Af rfl<|Ah rfl (Aj 1 rfl rfl)<|Aq rfl rfl<|Ad rfl<|AB rfl (by omega)<|Ak rfl<|Ak rfl<|Ak rfl<|Ak rfl<|An rfl rfl<|Ad rfl<|Ak rfl<|Ak rfl<|Ak rfl<|Ak rfl<|Ak rfl<|An rfl rfl<|Ad rfl<|Ak rfl<|Ak rfl<|Ak rfl<|Ak rfl<|Ak rfl<|An rfl rfl<|Aa<|AK rfl<|Am ?_);exact⟨rfl,⟨1,[],(Cd x).1,0,false,false⟩,fun q=>by rw[hp2 q],⟨rfl,rfl,rfl,rfl,rfl,trivial⟩,rfl⟩
   by_cases k6:x.kind=6
   ·by_cases hk2:x.keys.length=2
    ·by_cases hke:x.keys[0]=[101,110,100]
     ·by_cases hks2:x.keys[1]=[115,116,97,114,116]
      ·have hkk:=Wb hk2 hke hks2;obtain⟨p,q,hpq⟩:=R3 hmx k6 hkk;have hlen:x.list.length=2:=by rw[hpq];rfl
       have hp:x.list[0]=p:=by simp[hpq]
       have hq:x.list[1]=q:=by simp[hpq]
       have hmp:=KD (v:=p) (CR hmx (by simp[hpq]));have hmq:=KD (v:=q) (CR hmx (by simp[hpq]));rw[Xc k6 hkk hpq];clear hpq hkk;(refine Ao rfl (by omega)<|Am<|Ai<|Ac<|Af rfl<|Ah rfl (Aj 1 rfl rfl)<|Aq rfl rfl<|Aa<|Ao rfl (by omega)<|Am<|Ac<|Af rfl<|Ah rfl (Aj 1 rfl rfl)<|Aq rfl rfl<|Ad rfl<|AE rfl (by omega)<|Ae rfl<|Af rfl<|Ae rfl<|Ah rfl (Aj 1 rfl rfl)<|Ae rfl<|AA rfl<|Ae rfl<|Aq rfl rfl<|Ap rfl rfl<|Ad rfl<|AE rfl (by omega)<|Ae rfl<|Af rfl<|Ae rfl<|Ah rfl (Aj 1 rfl rfl)<|Ae rfl<|AJ (m:=0) (sz:=1) (R:=A2) (by rfl) (by assumption) (by rfl) rfl (by omega) ?_;rintro _ _ _ _ _ ⟨rfl,_⟩;refine Ae rfl<|Ah rfl (A1 (by assumption) rfl)<|Ae rfl<|Ek rfl rfl<|Ap rfl rfl<|Ad rfl<|AE rfl (by omega)<|Ae rfl<|Af rfl<|Ae rfl<|Ah rfl (Aj 1 rfl rfl)<|Ae rfl<|AJ (m:=1) (sz:=1) (R:=A2) (by rfl) (by assumption) (by rfl) rfl (by omega) ?_;rintro _ _ _ _ _ ⟨rfl,_⟩;refine Ae rfl<|Ah rfl (A1 (by assumption) rfl)<|Ae rfl<|Ek rfl rfl<|Ap rfl rfl<|Aa<|Au rfl (by omega)<|Ac<|Af rfl ?_);refine Az 0 [vZ 2,Al [],vZ 0,vZ 0,.bool false,.bool false] rfl rfl rfl rfl (No rfl) rfl rfl ?_;(refine Aa<|Ac<|Ad rfl<|Aa<|Ai<|Ac<|Af rfl<|Ah rfl (Aj 1 rfl rfl)<|AJ (m:=0) (sz:=6) (R:=Aw) (by rfl) (by assumption) (by rfl) rfl (by omega) ?_;rintro _ _ _ _ _ _;apply Af;rfl);rename_i r1 r2 cs1 r3 hD1 hR1;have hR1o:=hR1;obtain⟨lv1,kv1,rfl, -⟩:=hR1o.open;subst hp;subst hq;by_cases hA:x.list[0].kind=0
       ·rw[show(if x.list[0].kind≠0 then(AQ x.list[0]).1 else 0)=0 from if_neg (fun q=>q hA),show(decide (x.list[0].kind≠0))=false from decide_eq_false (fun q=>q hA),show(decide (x.list[0].kind=0)||(AQ x.list[0]).2)=true by simp[hA]];(refine Ah rfl (Ci (by assumption) rfl)<|AG rfl rfl<|Aa<|Ao rfl (by omega)<|Am<|Ac<|Af rfl<|Ah rfl (Aj 1 rfl rfl)<|AJ (m:=1) (sz:=6) (R:=Aw) (by rfl) (by assumption) (by rfl) rfl (by omega) ?_;rintro _ _ _ _ _ _;apply Af;rfl);by_cases hB:x.list[1].kind=0
        ·rw[show(if x.list[1].kind≠0 then(AQ x.list[1]).1 else 0)=0 from if_neg (fun q=>q hB),show(decide (x.list[1].kind≠0))=false from decide_eq_false (fun q=>q hB),show(decide (x.list[1].kind=0)||(AQ x.list[1]).2)=true by simp[hB]];skip;rename_i r4 r5 cs2 r6 hD2 hR2;obtain⟨lv2,kv2,rfl, -⟩:=hR2.open;(refine Ah rfl (Ci (by assumption) rfl)<|AG rfl rfl<|Ad rfl<|AB rfl (by omega)<|Ak rfl<|An rfl rfl<|Aa<|AK rfl<|Am ?_);exact⟨rfl,⟨2,[],0,0,false,false⟩,fun _=>rfl,⟨rfl,rfl,rfl,rfl,rfl,trivial⟩,rfl⟩
        ·rw[show(if x.list[1].kind≠0 then(AQ x.list[1]).1 else 0)=(AQ x.list[1]).1 from if_pos hB,show(decide (x.list[1].kind≠0))=true from decide_eq_true hB,show(decide (x.list[1].kind=0)||(AQ x.list[1]).2)=(AQ x.list[1]).2 by simp[hB]];skip;rename_i r4 r5 cs2 r6 hD2 hR2;have hR2o:=hR2;obtain⟨lv2,kv2,rfl, -⟩:=hR2o.open;(refine Ah rfl (Ci (by assumption) rfl)<|AG rfl rfl<|Ad rfl<|AE rfl (by omega)<|Ae rfl<|Ad rfl<|Ap rfl rfl<|Aa<|Bb rfl<|Ac<|Af rfl ?_);refine Az 0 [vZ 2,Al [],vZ 0,vZ 0,.bool true,.bool false] rfl rfl rfl rfl (No rfl) rfl rfl ?_;(refine Aa<|Ay<|Af rfl<|Ah rfl (Aj 1 rfl rfl)<|AJ (m:=1) (sz:=6) (R:=Aw) (by rfl) (by assumption) (by rfl) rfl (by omega) ?_;rintro _ _ _ _ _ _;apply BE;rfl;assumption;assumption);refine AF rfl (h2 (by assumption)) ?_;(refine Bj rfl<|AL rfl rfl<|AL rfl rfl<|Af rfl ?_);refine Az 0 [vZ 2,Al [],vZ (Cd x.list[1]).1,vZ 0,.bool true,.bool false] rfl rfl rfl rfl (No rfl) rfl rfl ?_;(refine Ad rfl<|Aa ?_);exact⟨rfl,⟨2,[],(Cd x.list[1]).1,0,true,false⟩,fun q=>by rw[hmq.2 (by simpa using q)],⟨rfl,rfl,rfl,rfl,by rw[hmq.1];rfl,trivial⟩,rfl⟩
       ·rw[show(if x.list[0].kind≠0 then(AQ x.list[0]).1 else 0)=(AQ x.list[0]).1 from if_pos hA,show(decide (x.list[0].kind≠0))=true from decide_eq_true hA,show(decide (x.list[0].kind=0)||(AQ x.list[0]).2)=(AQ x.list[0]).2 by simp[hA]];have hna:=h2 (d:=d3) hR1;have hpl:(Cd x.list[0]).2=true→(AQ x.list[0]).1=(Cd x.list[0]).1:=fun q=>by rw[hmp.2 (by rw[hmp.1];exact q)]
        rw[hmp.1];(refine Ah rfl (Ci (by assumption) rfl)<|AG rfl rfl<|Aa<|Au rfl (by omega)<|Ac<|Af rfl ?_);refine Az 0 [vZ 2,Al [],vZ 0,vZ 0,.bool false,.bool true] rfl rfl rfl rfl (No rfl) rfl rfl ?_;(refine Aa<|Ay<|Af rfl<|Ah rfl (Aj 1 rfl rfl)<|AJ (m:=0) (sz:=6) (R:=Aw) (by rfl) (by assumption) (by rfl) rfl (by omega) ?_;rintro _ _ _ _ _ _;apply BE;rfl;assumption;assumption);refine AF rfl (h2 (by assumption)) ?_;(refine Bj rfl<|AL rfl rfl<|AL rfl rfl<|Af rfl ?_);refine Az 0 [vZ 2,Al [],vZ 0,vZ (Cd x.list[0]).1,.bool false,.bool true] rfl rfl rfl rfl (No rfl) rfl rfl ?_;cases hn:(Cd x.list[0]).2 with
        |false=>
         clear hn hpl hna
         (refine Ad rfl<|Aa<|Ac<|Af rfl<|Ah rfl (Aj 1 rfl rfl)<|AJ (m:=1) (sz:=6) (R:=Aw) (by rfl) (by assumption) (by rfl) rfl (by omega) ?_;rintro _ _ _ _ _ _;apply Af;rfl)
         by_cases hB:x.list[1].kind=0
         ·rw[show(if x.list[1].kind≠0 then(AQ x.list[1]).1 else 0)=0 from if_neg (fun q=>q hB),show(decide (x.list[1].kind≠0))=false from decide_eq_false (fun q=>q hB),show(decide (x.list[1].kind=0)||(AQ x.list[1]).2)=true by simp[hB]]
          skip
          rename_i r4 r5 cs2 r6 hD2 hR2
          obtain⟨lv2,kv2,rfl, -⟩:=hR2.open
          (refine Ah rfl (Ci (by assumption) rfl)<|AG rfl rfl<|Ad rfl<|AB rfl (by omega)<|Ak rfl<|An rfl rfl<|Aa<|AK rfl<|Am ?_)
          exact⟨rfl,⟨2,[],0,(Cd x.list[0]).1,false,true⟩,fun q=>absurd q (by simp),⟨rfl,rfl,rfl,rfl,rfl,trivial⟩,rfl⟩
         ·rw[show(if x.list[1].kind≠0 then(AQ x.list[1]).1 else 0)=(AQ x.list[1]).1 from if_pos hB,show(decide (x.list[1].kind≠0))=true from decide_eq_true hB,show(decide (x.list[1].kind=0)||(AQ x.list[1]).2)=(AQ x.list[1]).2 by simp[hB]]
          skip
          rename_i r4 r5 cs2 r6 hD2 hR2
          have hR2o:=hR2
          obtain⟨lv2,kv2,rfl, -⟩:=hR2o.open
          (refine Ah rfl (Ci (by assumption) rfl)<|AG rfl rfl<|Ad rfl<|AE rfl (by omega)<|Ae rfl<|Ad rfl<|Ap rfl rfl<|Aa<|AK rfl<|Am ?_)
          exact⟨rfl,⟨2,[],0,(Cd x.list[0]).1,false,true⟩,fun q=>absurd q (by simp),⟨rfl,rfl,rfl,rfl,rfl,trivial⟩,rfl⟩
        |true=>
         rw[hpl hn]
         clear hn hpl hna
         (refine Ad rfl<|Aa<|Ac<|Af rfl<|Ah rfl (Aj 1 rfl rfl)<|AJ (m:=1) (sz:=6) (R:=Aw) (by rfl) (by assumption) (by rfl) rfl (by omega) ?_;rintro _ _ _ _ _ _;apply Af;rfl)
         by_cases hB:x.list[1].kind=0
         ·rw[show(if x.list[1].kind≠0 then(AQ x.list[1]).1 else 0)=0 from if_neg (fun q=>q hB),show(decide (x.list[1].kind≠0))=false from decide_eq_false (fun q=>q hB),show(decide (x.list[1].kind=0)||(AQ x.list[1]).2)=true by simp[hB]]
          skip
          rename_i r4 r5 cs2 r6 hD2 hR2
          obtain⟨lv2,kv2,rfl, -⟩:=hR2.open
          (refine Ah rfl (Ci (by assumption) rfl)<|AG rfl rfl<|Ad rfl<|AB rfl (by omega)<|Ak rfl<|An rfl rfl<|Aa<|AK rfl<|Am ?_)
          exact⟨rfl,⟨2,[],0,(Cd x.list[0]).1,false,true⟩,fun _=>rfl,⟨rfl,rfl,rfl,rfl,rfl,trivial⟩,rfl⟩
         ·rw[show(if x.list[1].kind≠0 then(AQ x.list[1]).1 else 0)=(AQ x.list[1]).1 from if_pos hB,show(decide (x.list[1].kind≠0))=true from decide_eq_true hB,show(decide (x.list[1].kind=0)||(AQ x.list[1]).2)=(AQ x.list[1]).2 by simp[hB]]
          skip
          rename_i r4 r5 cs2 r6 hD2 hR2
          have hR2o:=hR2
          obtain⟨lv2,kv2,rfl, -⟩:=hR2o.open
          (refine Ah rfl (Ci (by assumption) rfl)<|AG rfl rfl<|Ad rfl<|AE rfl (by omega)<|Ae rfl<|Ad rfl<|Ap rfl rfl<|Aa<|Bb rfl<|Ac<|Af rfl ?_)
          refine Az 0 [vZ 2,Al [],vZ 0,vZ (Cd x.list[0]).1,.bool true,.bool true] rfl rfl rfl rfl (No rfl) rfl rfl ?_
          (refine Aa<|Ay<|Af rfl<|Ah rfl (Aj 1 rfl rfl)<|AJ (m:=1) (sz:=6) (R:=Aw) (by rfl) (by assumption) (by rfl) rfl (by omega) ?_;rintro _ _ _ _ _ _;apply BE;rfl;assumption;assumption)
          refine AF rfl (h2 (by assumption)) ?_
          (refine Bj rfl<|AL rfl rfl<|AL rfl rfl<|Af rfl ?_)
          refine Az 0 [vZ 2,Al [],vZ (Cd x.list[1]).1,vZ (Cd x.list[0]).1,.bool true,.bool true] rfl rfl rfl rfl (No rfl) rfl rfl ?_
          (refine Ad rfl<|Aa ?_)
          exact⟨rfl,⟨2,[],(Cd x.list[1]).1,(Cd x.list[0]).1,true,true⟩,fun q=>by rw[hmq.2 (by simpa using q)],⟨rfl,rfl,rfl,rfl,by rw[hmq.1];rfl,trivial⟩,rfl⟩
      ·rw[Nl k6 (fun q=>hks2 (by simp[q,CA]))];(refine Ao rfl (by omega)<|Am<|Ai<|Ac<|Af rfl<|Ah rfl (Aj 1 rfl rfl)<|Aq rfl rfl<|Aa<|Ao rfl (by omega)<|Am<|Ac<|Af rfl<|Ah rfl (Aj 1 rfl rfl)<|Aq rfl rfl<|Ad rfl<|AE rfl (by omega)<|Ae rfl<|Af rfl<|Ae rfl<|Ah rfl (Aj 1 rfl rfl)<|Ae rfl<|AA rfl<|Ae rfl<|Aq rfl rfl<|Ap rfl rfl<|Ad rfl<|AE rfl (by omega)<|Ae rfl<|Af rfl<|Ae rfl<|Ah rfl (Aj 1 rfl rfl)<|Ae rfl<|AJ (m:=0) (sz:=1) (R:=A2) (by rfl) (by assumption) (by rfl) rfl (by omega) ?_;rintro _ _ _ _ _ ⟨rfl,_⟩;refine Ae rfl<|Ah rfl (A1 (by assumption) rfl)<|Ae rfl<|Ek rfl rfl<|Ap rfl rfl<|Ad rfl<|AE rfl (by omega)<|Ae rfl<|Af rfl<|Ae rfl<|Ah rfl (Aj 1 rfl rfl)<|Ae rfl<|AJ (m:=1) (sz:=1) (R:=A2) (by rfl) (by assumption) (by rfl) rfl (by omega) ?_;rintro _ _ _ _ _ ⟨rfl,_⟩;refine Ae rfl<|Ah rfl (A1 (by assumption) rfl)<|Ae rfl<|Ek rfl rfl<|Ap rfl rfl<|Aa<|Ao rfl (by omega)<|Am ?_);exact⟨rfl,stZ,fun q=>absurd q (by decide),⟨rfl,rfl,rfl,rfl,rfl,trivial⟩,rfl⟩
     ·rw[Nl k6 (fun q=>hke (by simp[q,DE]))];(refine Ao rfl (by omega)<|Am<|Ai<|Ac<|Af rfl<|Ah rfl (Aj 1 rfl rfl)<|Aq rfl rfl<|Aa<|Ao rfl (by omega)<|Am<|Ac<|Af rfl<|Ah rfl (Aj 1 rfl rfl)<|Aq rfl rfl<|Ad rfl<|AE rfl (by omega)<|Ae rfl<|Af rfl<|Ae rfl<|Ah rfl (Aj 1 rfl rfl)<|Ae rfl<|AA rfl<|Ae rfl<|Aq rfl rfl<|Ap rfl rfl<|Ad rfl<|AE rfl (by omega)<|Ae rfl<|Af rfl<|Ae rfl<|Ah rfl (Aj 1 rfl rfl)<|Ae rfl<|AJ (m:=0) (sz:=1) (R:=A2) (by rfl) (by assumption) (by rfl) rfl (by omega) ?_;rintro _ _ _ _ _ ⟨rfl,_⟩;refine Ae rfl<|Ah rfl (A1 (by assumption) rfl)<|Ae rfl<|Ek rfl rfl<|Ap rfl rfl<|Ad rfl<|AB rfl (by omega)<|Ak rfl<|Ak rfl<|Ak rfl<|Ak rfl<|Ak rfl<|An rfl rfl<|Aa<|AK rfl<|Am ?_);exact⟨rfl,stZ,fun q=>absurd q (by decide),⟨rfl,rfl,rfl,rfl,rfl,trivial⟩,rfl⟩
    ·rw[Nl k6 (fun q=>hk2 (by rw[q];rfl))];(refine Ao rfl (by omega)<|Am<|Ai<|Ac<|Af rfl<|Ah rfl (Aj 1 rfl rfl)<|Aq rfl rfl<|Aa<|Ao rfl (by omega)<|Am<|Ac<|Af rfl<|Ah rfl (Aj 1 rfl rfl)<|Aq rfl rfl<|Ad rfl<|AE rfl (by omega)<|Ae rfl<|Af rfl<|Ae rfl<|Ah rfl (Aj 1 rfl rfl)<|Ae rfl<|AA rfl<|Ae rfl<|Aq rfl rfl<|Ap rfl rfl<|Ad rfl<|AB rfl (by omega)<|Ak rfl<|Ak rfl<|Ak rfl<|Ak rfl<|Ak rfl<|An rfl rfl<|Ad rfl<|Ak rfl<|Ak rfl<|Ak rfl<|Ak rfl<|Ak rfl<|An rfl rfl<|Aa<|AK rfl<|Am ?_);exact⟨rfl,stZ,fun q=>absurd q (by decide),⟨rfl,rfl,rfl,rfl,rfl,trivial⟩,rfl⟩
   ·rw[Xm k4 k3 k6];(refine Ao rfl (by omega)<|Am<|Ai<|Ac<|Af rfl<|Ah rfl (Aj 1 rfl rfl)<|Aq rfl rfl<|Aa<|Ao rfl (by omega)<|Am<|Ac<|Af rfl<|Ah rfl (Aj 1 rfl rfl)<|Aq rfl rfl<|Ad rfl<|AB rfl (by omega)<|Ak rfl<|Ak rfl<|Ak rfl<|Ak rfl<|An rfl rfl<|Ad rfl<|Ak rfl<|Ak rfl<|Ak rfl<|Ak rfl<|Ak rfl<|An rfl rfl<|Ad rfl<|Ak rfl<|Ak rfl<|Ak rfl<|Ak rfl<|Ak rfl<|An rfl rfl<|Aa<|AK rfl<|Am ?_);exact⟨rfl,stZ,fun q=>absurd q (by decide),⟨rfl,rfl,rfl,rfl,rfl,trivial⟩,rfl⟩
  rintro ρ d8 L8 ⟨hdd,s,hts,hsl,hL⟩;subst hL;subst hdd;show gwp P _ _ _ _ _;refine Bo _ hsl ?_;clear hsl;cases hok:(BB x).2 with
  |false=>
   rw[←hx] at hok
   rw[Sr hr hk hc hok]
   clear hts hok
   (refine Ai<|Ac<|Ad rfl<|Bi rfl<|Aa<|Bb rfl<|Ac<|As rfl<|Ab rfl<|Aa<|Ar ?_)
   exact BG (L':=[]) [.slice none 0 0,vZ 80] ⟨A4 rfl,A4 rfl,trivial⟩ (ZB _) ⟨rfl,_,rfl,RSl.nil⟩
  |true=>
   obtain rfl:=hts hok
   subst hx
   have hall2:∀j (hj:j<v.list.length),j<i+1→(BB v.list[j]).2=true:=fun j hj hji=>by
    by_cases e:j<i
    ·exact hall j hj e
    ·obtain rfl:j=i:=by omega
     exact hok
   clear hok hts
   (refine Ai<|Ac<|Ad rfl<|Bi rfl<|Aa<|AK rfl<|Am<|Ay<|As rfl<|AD 0 rfl rfl rfl ?_)
   refine HH rfl (fun b34 T34=>?_)
   refine DH (R:=RSt) 3 rfl rfl hrow rfl (AN.D8 rfl hRs) HL (by omega) (by simp;omega) (by simp;omega) (fun v5 h5 o5=>?_)
   have htk:(v.list.map fun x=>(BB x).1).take i++[(BB v.list[i]).1]=(v.list.map fun x=>(BB x).1).take (i+1):=by rw[ZA (show i<(v.list.map fun x=>(BB x).1).length by simpa using hc)];simp
   rw[htk] at o5
   obtain⟨a5,c5',hv5⟩:=o5.val
   have hlt:((v.list.map fun x=>(BB x).1).take (i+1)).length=i+1:=by simp;omega
   rw[hlt] at hv5
   subst hv5
   refine B9 d8 (bx b1 T1 [vZ v.kind,vZ v.m,vZ v.e,Al v.text,.slice la v.list.length lc,.slice ka v.keys.length kc]::h5::J) (Vs.drop (.cons _ (.cons _ (ZS _)))) ?_
   (refine As rfl<|Aa<|Ay<|Ab rfl<|AI rfl rfl (by omega) (by omega)<|Ab rfl<|Aa ?_)
   exact⟨(i+1,a5,c5'),by simp only;omega,⟨rfl,rfl,int_eq (by omega),trivial⟩,rfl,hc,hall2,J,h5,o5,rfl⟩
 ·obtain rfl:i=v.list.length:=by omega
  rw[Q6 hr hk (fun j hj=>hall j hj hj)];have hf:(v.list.map fun x=>(BB x).1).take v.list.length=v.list.map fun x=>(BB x).1:=List.take_of_length_le (by simp);(refine Ai<|Ac<|Ab rfl<|Af rfl<|Ah rfl (Aj 0 rfl rfl)<|AA rfl<|Ax rfl rfl<|Aa<|Ao rfl (by omega)<|AV<|Ac<|As rfl<|As rfl<|Ab rfl<|Aa<|Ar ?_);refine Iv [.slice ra v.list.length rc,vZ 0] ⟨A4 rfl,A4 rfl,trivial⟩ (fun d' hld hkk=>?_);have hrs:=hrow.rsl (R:=RSt) Df (by omega) hld (hkk h (by simp));rw[hf] at hrs;exact⟨rfl,_,rfl,hrs⟩
def GN(a0 a1 a2 a3 a4 a5 a6 a7:Nat):A6:=⟨63,[(.tmp 4)],(sR (o1 3 (.box 1)<|o1 4 (.mv (.const (.bool false))) .done) (.seq (sR (o1 13 (.ld (some 6) 3)<|o1 14 (.bsl 1 6 [(vZ 0),(vZ 0),(vZ 0),(Al []),(.slice none 0 0),(.slice none 0 0)] [(0,13)])<|oc 15 a0 [nS,14]<|om 16 15<|gF 17 16 0<|oF 18 16 (.len 17)<|oF 19 16 (.bin .gtr 18 (kZ 300))<|o1 20 (.pick 16 (.const (.bool true)) 19) .done) (.cond 20 (sR (oc 21 a1 []<|om 4 21 .done) .ret) .skip)) (sR (om 23 0<|oc 24 a2 [23]<|om 22 24<|oe 25 22 0<|oe 26 22 1<|o1 5 (.alo (.agg #[(vZ 0),(vZ 0),(vZ 0),(Al []),(.slice none 0 0),(.slice none 0 0)]))<|o0 (.st 6 5 25)<|om 6 26 .done) (sR (om 28 0<|oc 29 a3 [28]<|om 27 29<|oe 30 27 0<|oe 31 27 1<|o1 7 (.alo (.agg #[(vZ 0),(vZ 0),(vZ 0),(Al []),(.slice none 0 0),(.slice none 0 0)]))<|o0 (.st 6 7 30)<|om 8 31 .done) (sR (o1 33 (.ld (some 6) 3)<|oc 34 a4 [33]<|om 32 34<|oe 35 32 0<|oe 36 32 1<|om 9 35<|om 10 36 .done) (sR (o1 38 (.ld (some 6) 3)<|oc 39 a5 [38]<|om 37 39<|oe 40 37 0<|oe 41 37 1<|om 11 40<|om 12 41 .done) (sR (o1 42 (.ld (some 6) 5)<|o1 43 (.ld (some 6) 7)<|oc 44 a6 [42,43]<|om 45 44<|gT 46 45 6<|gT 47 45 8<|oT 48 45 (.bin .eql 46 47)<|gP 49 45 48<|om 50 49<|gT 51 50 9<|gT 52 50 11<|oT 53 50 (.call a7 [51,52])<|gP 54 50 53<|om 55 54<|gT 56 55 10<|gT 57 55 12<|oT 58 55 (.bin .eql 56 57)<|gP 59 55 58<|om 60 59<|oT 61 60 (.call a1 [])<|gP 62 60 61<|om 4 62 .done) .ret)))))))⟩
set_option maxHeartbeats 4000000 in
def NH{T:Ag→Prop}{P f f3 f4 f5 f6 f7 f8}(hTm:∀{d d'},Le d d'→T d→T d')(hd:dec P f=some (GN f1 f2 f3 f4 f5 f6 f7 f8))(h1:JQ P f1)(h2:PG T P f2)(h3:HB T P f3)(h4:HK T P f4)(h5:P4 T P f5)(h6:My T P f6)(h7:Gi P f7)(h8:Kr P f8)
  {d cs wv}{v:V}{w:List St}(ht:T d) (hv:Aw d cs v) (hw:RSl 6 RSt d wv w):AM P f [wv,.agg cs.toArray] d (.bool true):=by
 have n1:=RSl.Be hw
 obtain⟨wa,wc,rfl⟩:=RSl.val hw
 have hw':RSl 6 RSt d (.slice wa w.length wc) w:=hw
 obtain⟨c0,c1,c2,c3,c4,c5,rfl⟩:=six hv.len
 have hvc:=AH _ _ _ hv
 refine AM.of' hd (No rfl) ?_
 show gwp P _ _ _ _ _
 apply Ai;apply Ay
 refine AO (l:=[c0,c1,c2,c3,c4,c5]) rfl (fun b3 T3=>?_)
 (refine Ad rfl<|Aa<|Ai<|Ac<|AD 0 rfl rfl rfl ?_)
 refine D4 rfl rfl (fun b14 T14=>?_)
 refine BF (fun d2 hl2 hg2=>?_)
 have hv2:=hv.mono hl2
 have hw2:RSl 6 RSt d2 (.slice wa w.length wc) w:=RSl.mono (R:=RSt) Df hw' hl2
 refine AR rfl (h1 (ws:=[]) RSl.nil (NV hv2 hg2)) (fun r d3 L3 _ ⟨hdd,hL,b,hr,hb⟩=>?_)
 subst hdd;subst hL;subst hr
 have ht3:T d3:=hTm hl2 ht
 cases b with
 |true=>
  (refine Ad rfl<|Ak rfl<|Ak rfl<|Ak rfl<|Ap rfl rfl<|Aa<|Bb rfl<|Ac ?_)
  refine AF rfl (h2 ht3) ?_
  (refine Ad rfl<|Aa<|Ar ?_)
  exact BI rfl
 |false=>
 obtain⟨_,_,hbv⟩:=hb rfl
 obtain⟨hbt,hbc,hbb⟩:=WL hbv
 clear hb
 have hdb:=TP v
 have hcn:=Ex (v:=v)
 by_cases hl300:300<w.length
 ·(refine Ad rfl<|Ae rfl<|As rfl<|Ae rfl<|AA rfl<|Ae rfl<|AP rfl rfl<|An rfl rfl<|Aa<|Au rfl (by omega)<|Ac ?_)
  refine AF rfl (h2 ht3) ?_
  (refine Ad rfl<|Aa<|Ar ?_)
  exact BI rfl
 (refine Ad rfl<|Ae rfl<|As rfl<|Ae rfl<|AA rfl<|Ae rfl<|AP rfl rfl<|An rfl rfl<|Aa<|Ao rfl (by omega)<|Am<|Ac<|As rfl ?_)
 refine AR rfl (h3 ht3 hw2 (by omega)) (fun r d4 L4 hl4 ⟨hL,cs4,hr,hR4⟩=>?_)
 subst hL;subst hr
 have hc4:=AH _ _ _ hR4
 obtain⟨x0,x1,x2,x3,x4,x5,rfl⟩:=six hR4.len
 have hv4:=hv2.mono hl4
 have hw4:RSl 6 RSt d4 (.slice wa w.length wc) w:=RSl.mono (R:=RSt) Df hw2 hl4
 have ht4:T d4:=hTm hl4 ht3
 (refine Bj rfl<|AL rfl rfl<|AL rfl rfl<|AX (fun _ _=>?_))
 rename_i b5 T5
 refine Az 0 [x0,x1,x2,x3,x4,x5] rfl rfl rfl rfl (No rfl) hc4 rfl ?_
 (refine Ab rfl<|Aa<|Ac<|As rfl ?_)
 refine AR rfl (h4 ht4 hw4 (by omega)) (fun r d5 L5 hl5 ⟨hL,cs5,hr,hR5⟩=>?_)
 subst hL;subst hr
 have hc5:=AH _ _ _ hR5
 obtain⟨y0,y1,y2,y3,y4,y5,rfl⟩:=six hR5.len
 have hv5:=hv4.mono hl5
 have ht5:T d5:=hTm hl5 ht4
 (refine Bj rfl<|AL rfl rfl<|AL rfl rfl<|AX (fun _ _=>?_))
 rename_i b7 T7
 refine Az 0 [y0,y1,y2,y3,y4,y5] rfl rfl rfl rfl (No rfl) hc5 rfl ?_
 (refine Ab rfl<|Aa<|Ac<|AD 2 rfl rfl rfl ?_)
 refine AR rfl (h5 ht5 hv5 (by omega)) (fun r d6 L6 hl6 ⟨hL,u6,hr,hu6⟩=>?_)
 subst hL;subst hr
 have hv6:=hv5.mono hl6
 have ht6:T d6:=hTm hl6 ht5
 (refine Bj rfl<|AL rfl rfl<|AL rfl rfl<|Ew<|Ab rfl<|Aa<|Ac<|AD 2 rfl rfl rfl ?_)
 refine AR rfl (h6 ht6 hv6 (by omega) (by omega)) (fun r d7 L7 hl7 ⟨hL,u7,hr,hu7⟩=>?_)
 subst hL;subst hr
 have ht7:T d7:=hTm hl7 ht6
 have hsw:=h8 (RSl.mono (R:=RSt) Df hu6 hl7) hu7
 rw[(Kk _ _).2 rfl] at hsw
 have hsm:=h7 _ _ (hR4.mono (hl5.trans (hl6.trans hl7))) (hR5.mono (hl6.trans hl7))
 rw[(CP _ _).2 rfl] at hsm
 (refine Bj rfl<|AL rfl rfl<|AL rfl rfl<|Ew<|Ab rfl<|Aa<|Ac<|AD 1 rfl rfl rfl<|AD 0 rfl rfl rfl ?_)
 refine AF rfl hsm ?_
 clear hsm
 (refine Ad rfl<|Ae rfl<|Ab rfl<|Ae rfl<|Ab rfl<|Ae rfl<|Aq rfl rfl<|Ap rfl rfl<|Ad rfl<|AE rfl (by omega)<|Ae rfl<|Ew<|Ae rfl<|Ew<|Ae rfl ?_)
 refine AF rfl hsw ?_
 clear hsw
 (refine Ap rfl rfl<|Ad rfl<|Ae rfl<|Ab rfl<|Ae rfl<|Ab rfl<|Ae rfl<|Aq rfl rfl<|Ap rfl rfl<|Ad rfl<|AE rfl (by omega)<|Ae rfl ?_)
 refine AF rfl (h2 ht7) ?_
 (refine Ap rfl rfl<|Ad rfl<|Aa<|Ar ?_)
 exact BI rfl
end Go.Gk.Val
end
