/-
  Our own texts, one behind the other: GkS2 GkS3 GkS4 GkS5 GkS6 GkS7 GkS8 GkS9 GkT1 Gk18 GkT2 GkVArg GkM2 GkM3 Gk24 GkP1 GkP2 GkY0 GkY1 GkYB GkT0 Gk23 GkM0 GkY2 GkY3.
-/
import Derived.Sort.Walk0
import Derived.Test.YtoepkkjejljfbaaDoorPuC
set_option linter.defProp false
set_option linter.unusedVariables false
set_option linter.unusedSimpArgs false
open Nat renaming le_of_ble_eq_true→No,le_refl→Xq,zero_le→Xw,mul_le_mul_right→Xx,not_lt_zero→XP,add_mul→XW,le_trans→X6,one_mul→Yx,lt_or_ge→YD,pow_succ→Y0
open List renaming getElem_mem→Xh,take_succ_eq_append_getElem→Xi,all_eq_true→Xj,length_append→Xl,nil_sublist→Xm,length_take→Xn,mem_cons_self→Xp,take_append_drop→Xr,mem_cons→Xu,length_cons→Xv,take_length→Xz,append_nil→XA,drop_eq_getElem_cons→XE,cons_append→XF,getElem?_take_of_lt→XH,length_singleton→XI,range→XK,replicate→XU,length_drop→XX,drop_length→XY,getElem?_eq_none→X3,mem_map→X4,getElem?_append_right→Yf,getElem?_append_left→Yj,not_mem_nil→Yk,getElem?_drop→Yn,take_succ_cons→Ys,length_set→YA,ext_getElem?→YU
open Bool renaming and_eq_true→Xg,not_eq_true→Yq
open List.Sublist renaming refl→Xy
open Int renaming toNat_natCast→XO,dvd_of_emod_eq_zero→Y4
section
namespace Go.Gk.Val
open Go Go.Gk Go.Gk.Utf
attribute [local irreducible] gwp gws
variable{v:V}
def Gj{α}(sz:Nat)(R:Ae→List Value→α→Prop)(P:Program)(f:FuncId):Prop:=∀{d v w}{xs ys:List α}{i j:Nat},RSl sz R d v xs→RSl sz R d w ys→i≤j→j≤xs.length→xs.length+ys.length≤1000000001→
 AY P f [v,vZ i,vZ j,w] d [] (Ret fun r d' L'=>L'=[]∧RSl sz R d' r (xs.take i++ys++xs.drop j))
def Js:A0:=⟨31,[(.tmp 8)],(sR (o1 8 (.mv nS) .done) (sR (om 10 0<|oL 11 10<|om 12 2<|ob 13 .sub 11 12<|om 14 1<|ob 15 .add 13 14<|om 16 3<|oL 17 16<|ob 18 .add 15 17<|o1 19 (.mks 1 16 [(Al [])] z0 18)<|om 9 19 .done) (.seq (.reg true (pm 20 9<|pm 21 0<|pm 22 1<|p1 23 (.sl 1 21 none (some 22) none)<|pm 25 3<|pm 27 0<|pm 28 2<|p1 29 (.sl 1 27 (some 28) none none)<|o1 24 (.app 1 16 [(Al [])] 20 23)<|o1 26 (.app 1 16 [(Al [])] 24 25)<|o1 30 (.app 1 16 [(Al [])] 26 29) (.bar (pm 8 30 .done)))) .ret)))⟩
def QE{P f}(hd:dec P f=some Js):Gj 1 Bk P f:=by
 intro d v w xs ys i j hv hw hij hj hb;have n1:=RSl.A2 hv;have n2:=RSl.A2 hw;have hv':=hv;obtain⟨a,c,rfl⟩:=RSl.val hv;obtain⟨a2,c2,rfl⟩:=RSl.val hw;refine Bf hd (No rfl) ?_;show gwp P _ _ _ _ _;(refine Ac<|Ar rfl<|Aa<|Ac<|Ar rfl<|Ay rfl<|Ab rfl<|Bw rfl rfl (by omega) (by omega)<|Ab rfl<|AI rfl rfl (by omega) (by omega)<|Ar rfl<|Ay rfl<|AI rfl rfl (by omega) (by omega) ?_);refine NP (n:=0) (c:=xs.length - j+i+ys.length) rfl (int_eq (by omega)) (by omega) (by omega) (by omega) (fun b9 T9=>?_);have o0:AO 1 Bk d (.slice (some ⟨b9,0,none⟩) 0 (xs.length - j+i+ys.length)) [] (bx b9 T9 (Bu [Al []] ((xs.length - j+i+ys.length)*1))):=
  ⟨[],BB.mk rfl (by simp) (Xw _) (by omega) (by simp[Bu]) rfl,fun i hi=>absurd hi (XP i)⟩
 (refine Ar rfl<|Aa<|Ah ?_);refine Ek [] [_] rfl ?_;(refine Ar rfl<|Ar rfl<|Ab rfl ?_);refine LR (n:=i) rfl hv' rfl rfl (by omega) (fun v23 hv23=>?_);(refine Ar rfl<|Ar rfl<|Ab rfl ?_);refine GF (n:=j) rfl hv' rfl rfl (by omega) (fun v29 hv29=>?_);refine ES (R:=Bk) (xs:=[]) (ys:=xs.take i) 0 rfl rfl o0 rfl (RSl.src (R:=Bk) hv23 Hv (by omega) _) (by omega) (by simp;omega) (by simp;omega) (fun v5 h5 hrow5=>?_);refine ES (R:=Bk) (xs:=[]++xs.take i) (ys:=ys) 0 rfl rfl hrow5 rfl (RSl.src (R:=Bk) hw Hv (by omega) _) (by omega) (by simp;omega) (by simp;omega) (fun v6 h6 hrow6=>?_);refine ES (R:=Bk) (xs:=[]++xs.take i++ys) (ys:=xs.drop j) 0 rfl rfl hrow6 rfl (RSl.src (R:=Bk) hv29 Hv (by omega) _) (by omega) (by simp;omega) (by simp;omega) (fun v7 h7 hrow7=>?_);obtain⟨a7,c7,rfl⟩:=hrow7.val;(refine Cr<|Ar rfl<|Aa<|Aq ?_);exact Rh rfl (fun d' hl hk=>⟨rfl,hrow7.rsl (R:=Bk) O7 (by omega) hl (hk _ (by simp))⟩)
def HT:A0:=⟨31,[(.tmp 8)],(sR (o1 8 (.mv nS) .done) (sR (om 10 0<|oL 11 10<|om 12 2<|ob 13 .sub 11 12<|om 14 1<|ob 15 .add 13 14<|om 16 3<|oL 17 16<|ob 18 .add 15 17<|o1 19 (.mks 6 88 [(vZ 0),(vZ 0),(vZ 0),(Al []),(.slice none 0 0),(.slice none 0 0)] z0 18)<|om 9 19 .done) (.seq (.reg true (pm 20 9<|pm 21 0<|pm 22 1<|p1 23 (.sl 6 21 none (some 22) none)<|pm 25 3<|pm 27 0<|pm 28 2<|p1 29 (.sl 6 27 (some 28) none none)<|o1 24 (.app 6 88 [(vZ 0),(vZ 0),(vZ 0),(Al []),(.slice none 0 0),(.slice none 0 0)] 20 23)<|o1 26 (.app 6 88 [(vZ 0),(vZ 0),(vZ 0),(Al []),(.slice none 0 0),(.slice none 0 0)] 24 25)<|o1 30 (.app 6 88 [(vZ 0),(vZ 0),(vZ 0),(Al []),(.slice none 0 0),(.slice none 0 0)] 26 29) (.bar (pm 8 30 .done)))) .ret)))⟩
def NK{P f}(hd:dec P f=some HT):Gj 6 Aw P f:=by
 intro d v w xs ys i j hv hw hij hj hb;have n1:=RSl.A2 hv;have n2:=RSl.A2 hw;have hv':=hv;obtain⟨a,c,rfl⟩:=RSl.val hv;obtain⟨a2,c2,rfl⟩:=RSl.val hw;refine Bf hd (No rfl) ?_;show gwp P _ _ _ _ _;(refine Ac<|Ar rfl<|Aa<|Ac<|Ar rfl<|Ay rfl<|Ab rfl<|Bw rfl rfl (by omega) (by omega)<|Ab rfl<|AI rfl rfl (by omega) (by omega)<|Ar rfl<|Ay rfl<|AI rfl rfl (by omega) (by omega) ?_);refine NP (n:=0) (c:=xs.length - j+i+ys.length) rfl (int_eq (by omega)) (by omega) (by omega) (by omega) (fun b9 T9=>?_);have o0:AO 6 Aw d (.slice (some ⟨b9,0,none⟩) 0 (xs.length - j+i+ys.length)) [] (bx b9 T9 (Bu [vZ 0,vZ 0,vZ 0,Al [],.slice none 0 0,.slice none 0 0] ((xs.length - j+i+ys.length)*6))):=
  ⟨[],BB.mk rfl (by simp) (Xw _) (by omega) (by simp[Bu]) rfl,fun i hi=>absurd hi (XP i)⟩
 (refine Ar rfl<|Aa<|Ah ?_);refine Ek [] [_] rfl ?_;(refine Ar rfl<|Ar rfl<|Ab rfl ?_);refine LR (n:=i) rfl hv' rfl rfl (by omega) (fun v23 hv23=>?_);(refine Ar rfl<|Ar rfl<|Ab rfl ?_);refine GF (n:=j) rfl hv' rfl rfl (by omega) (fun v29 hv29=>?_);refine ES (R:=Aw) (xs:=[]) (ys:=xs.take i) 0 rfl rfl o0 rfl (RSl.src (R:=Aw) hv23 AK (by omega) _) (by omega) (by simp;omega) (by simp;omega) (fun v5 h5 hrow5=>?_);refine ES (R:=Aw) (xs:=[]++xs.take i) (ys:=ys) 0 rfl rfl hrow5 rfl (RSl.src (R:=Aw) hw AK (by omega) _) (by omega) (by simp;omega) (by simp;omega) (fun v6 h6 hrow6=>?_);refine ES (R:=Aw) (xs:=[]++xs.take i++ys) (ys:=xs.drop j) 0 rfl rfl hrow6 rfl (RSl.src (R:=Aw) hv29 AK (by omega) _) (by omega) (by simp;omega) (by simp;omega) (fun v7 h7 hrow7=>?_);obtain⟨a7,c7,rfl⟩:=hrow7.val;(refine Cr<|Ar rfl<|Aa<|Aq ?_);exact Rh rfl (fun d' hl hk=>⟨rfl,hrow7.rsl (R:=Aw) GO (by omega) hl (hk _ (by simp))⟩)
def JH(l:List V)(i:Int):V:=if 0≤i∧i<l.length then l.getD i.toNat V.zero else V.zero
def EP{α}(l:List α)(ab:Int×Int):List α:=(l.drop ab.1.toNat).take (ab.2.toNat - ab.1.toNat)
def AW(v:V)(s:St):V×Int:=
 if v.kind=0 then(V.zero,0)
 else if s.kind=0∧v.kind=6 then(if s.text∈v.keys then v.list.getD (Bq v.keys s.text) V.zero else V.zero,0)
 else if s.kind=1∧v.kind=5 then(JH v.list (BG s.src v.list.length),0)
 else if s.kind=2∧v.kind=5 then(.mk 5 0 0 [] (EP v.list (A5 s v.list.length)) [],0)
 else if s.kind=2∧v.kind=4 then(.mk 4 0 0 (EP (chs v.text) (A5 s (chs v.text).length)).flatten [] [],0)
 else(V.zero,80)
def CK(h:BK v=true):rising v.keys=true:=by simp[BK] at h;exact h.1.2
def SU(h:BK v=true):u8 v.text=true:=by simp[BK] at h;exact h.1.1.2
def CT(h:BK v=true)(hk:v.kind=6):v.keys.length=v.list.length:=by
 simp[BK] at h;rcases h.2 with h|h
 ·exact absurd hk h
 ·exact h
def E4{ρ d d0 L}{b t u:Nat}{T cs}{w:V}{e:Int}(i:Nat)(e4:ρ t=pZ b)(hi:L[i]?=some (bx b T cs))(e5:ρ u=vZ e)(hw:Aw d0 cs w):
  Ch [.cell t (some 6),.tmp u] (Ret fun r _ L'=>L'=[]∧∃cs',r=.tuple #[.agg cs'.toArray,vZ e]∧Aw d0 cs' w) ρ d L:=
 B8 (L':=[]) [.agg cs.toArray,vZ e] ⟨A4 i e4 hi (Aw.len hw),AZ e5,trivial⟩ (Xm _) ⟨rfl,cs,rfl,hw⟩
def SW{d l}{b c:Nat}{T}(h1:(BE l).length≤140737488355328)(h2:(BE l).length≤c)(h3:c≤maxLen)(h4:Le (bx b T (BE l++XU (c - (BE l).length) (.int .i32 0))) d):
  RSl 1 UM d (.slice (some ⟨b,0,none⟩) (BE l).length c) (rns l):=by
 have hl:(BE l).length=(rns l).length:=by rw[Jo];simp
 have o:BB 1 (.slice (some ⟨b,0,none⟩) (BE l).length c) (BE l).length (BE l) (bx b T (BE l++XU (c - (BE l).length) (.int .i32 0))):=
  BB.mk (by omega) h1 h2 (by simp only[maxLen] at h3;omega) (by simp;omega) (by simp)
 refine o.S8 h4 hl (fun i hi=>⟨.int .i32 (rns l)[i],?_,rfl⟩)
 rw[Jo];simp[hi]
def Jc(P:Program)(f:FuncId):Prop:=∀{d cs ds}{v:V}{s:St},Aw d cs v→BK v=true→v.text.length≤1000000000→RSt d ds s→
 AY P f [.agg cs.toArray,.agg ds.toArray] d [] (Ret fun r d' L'=>d'=d∧L'=[]∧∃cs',r=.tuple #[.agg cs'.toArray,vZ (AW v s).2]∧Aw d cs' (AW v s).1)
def O9(a0 a1 a2:Nat):A0:=⟨122,[(.cell 4 (some 6)),(.tmp 5)],(sR (o1 2 (.box 0)<|o1 3 (.box 1)<|o1 4 (.alo (.agg #[(vZ 0),(vZ 0),(vZ 0),(Al []),(.slice none 0 0),(.slice none 0 0)]))<|o1 5 (.mv z0) .done) (.seq (.block 0 (sR (oj 15 0 2<|ol 16 15<|ob 17 .eql 16 z0<|om 14 17 .done) (.cond 14 (sR (o1 18 (.bld [(0,1),(1,2),(3,1),(4,1),(5,1)] [(vZ 0),(vZ 0),(vZ 0),(Al []),(.slice none 0 0),(.slice none 0 0)] [])<|o0 (.st 6 4 18)<|o1 5 (.mv z0) .done) .ret) (sR (oj 20 0 3<|ol 21 20<|ob 22 .eql 21 z0<|om 23 22<|oT 24 23 (.fld 0 2)<|oT 25 23 (.ld none 24)<|oT 26 23 (.bin .eql 25 (kZ 6))<|gP 27 23 26<|om 19 27 .done) (.cond 19 (.seq (sR (oj 29 5 2<|ol 30 29<|oj 31 1 3<|ol 32 31<|oc 33 a0 [30,32]<|om 28 33<|oe 34 28 0<|oe 35 28 1<|om 6 34<|om 7 35 .done) (sR (om 36 7 .done) (.cond 36 (sR (oj 37 4 2<|ol 38 37<|om 39 6<|oI 40 6 38 39<|o1 41 (.ld (some 6) 40)<|o0 (.st 6 4 41)<|o1 5 (.mv z0) .done) .ret) .skip))) (sR (o1 42 (.bld [(0,1),(1,2),(3,1),(4,1),(5,1)] [(vZ 0),(vZ 0),(vZ 0),(Al []),(.slice none 0 0),(.slice none 0 0)] [])<|o0 (.st 6 4 42)<|o1 5 (.mv z0) .done) .ret)) (sR (oj 44 0 3<|ol 45 44<|ob 46 .eql 45 z1<|om 47 46<|oT 48 47 (.fld 0 2)<|oT 49 47 (.ld none 48)<|oT 50 47 (.bin .eql 49 (kZ 5))<|gP 51 47 50<|om 43 51 .done) (.cond 43 (.seq (sR (oj 52 2 3<|ol 53 52<|oj 54 4 2<|ol 55 54<|oL 56 55<|oc 57 a1 [53,56]<|om 8 57 .done) (sR (om 58 8<|ob 59 .geq 58 z0<|om 60 59<|gT 61 60 8<|oT 62 60 (.fld 4 2)<|oT 63 60 (.ld none 62)<|oT 64 60 (.len 63)<|oT 65 60 (.bin .lss 61 64)<|gP 66 60 65 .done) (.cond 66 (sR (oj 67 4 2<|ol 68 67<|om 69 8<|oI 70 6 68 69<|o1 71 (.ld (some 6) 70)<|o0 (.st 6 4 71)<|o1 5 (.mv z0) .done) .ret) .skip))) (sR (o1 72 (.bld [(0,1),(1,2),(3,1),(4,1),(5,1)] [(vZ 0),(vZ 0),(vZ 0),(Al []),(.slice none 0 0),(.slice none 0 0)] [])<|o0 (.st 6 4 72)<|o1 5 (.mv z0) .done) .ret)) (sR (oj 74 0 3<|ol 75 74<|ob 76 .eql 75 z2<|om 77 76<|oT 78 77 (.fld 0 2)<|oT 79 77 (.ld none 78)<|oT 80 77 (.bin .eql 79 (kZ 5))<|gP 81 77 80<|om 73 81 .done) (.cond 73 (sR (o1 83 (.ld (some 6) 3)<|oj 84 4 2<|ol 85 84<|oL 86 85<|oc 87 a2 [83,86]<|om 82 87<|oe 88 82 0<|oe 89 82 1<|om 9 88<|om 10 89 .done) (sR (oj 90 4 2<|ol 91 90<|om 92 9<|om 93 10<|o1 94 (.sl 6 91 (some 92) (some 93) none)<|o1 95 (.bld [(0,1),(1,2),(3,1),(4,1),(5,1)] [(vZ 0),(vZ 0),(vZ 0),(Al []),(.slice none 0 0),(.slice none 0 0)] [(0,(kZ 5)),(3,94)])<|o0 (.st 6 4 95)<|o1 5 (.mv z0) .done) .ret)) (sR (oj 97 0 3<|ol 98 97<|ob 99 .eql 98 z2<|om 100 99<|oT 101 100 (.fld 0 2)<|oT 102 100 (.ld none 101)<|oT 103 100 (.bin .eql 102 (kZ 4))<|gP 104 100 103<|om 96 104 .done) (.cond 96 (sR (oj 105 3 2<|ol 106 105<|o1 107 (.s2r 106)<|om 11 107 .done) (sR (o1 109 (.ld (some 6) 3)<|om 110 11<|oL 111 110<|oc 112 a2 [109,111]<|om 108 112<|oe 113 108 0<|oe 114 108 1<|om 12 113<|om 13 114 .done) (sR (om 115 11<|om 116 12<|om 117 13<|o1 118 (.sl 1 115 (some 116) (some 117) none)<|o1 119 (.r2s 118)<|o1 120 (.bld [(0,1),(1,2),(3,1),(4,1),(5,1)] [(vZ 0),(vZ 0),(vZ 0),(Al []),(.slice none 0 0),(.slice none 0 0)] [(0,(kZ 4)),(2,119)])<|o0 (.st 6 4 120)<|o1 5 (.mv z0) .done) .ret))) .skip))))))))))) (sR (o1 121 (.bld [(0,1),(1,2),(3,1),(4,1),(5,1)] [(vZ 0),(vZ 0),(vZ 0),(Al []),(.slice none 0 0),(.slice none 0 0)] [])<|o0 (.st 6 4 121)<|o1 5 (.mv (kZ 80)) .done) .ret)))⟩
set_option maxHeartbeats 1000000 in
def Vj{P:Program}{f f1 f2 f3:FuncId}(hd:dec P f=some (O9 f1 f2 f3))(h1:GG P f1)(h2:Gr P f2)(h3:Jf P f3):Jc P f:=by
 intro d cs ds v s hv hone hvt hs;have hr:=CK hone;have hu:=SU hone;have hkl:=CT hone;refine AY.forget (Q:=fun r L'=>L'=[]∧∃cs',r=.tuple #[.agg cs'.toArray,vZ (AW v s).2]∧Aw d cs' (AW v s).1) ?_;refine Bf hd (No rfl) ?_;obtain⟨w,e,hF⟩:∃w e,AW v s=(w,e):=⟨_,_,rfl⟩
 rw[hF];have hs':=hs;obtain⟨hds,ik',it',is,id⟩:=hs';subst hds;obtain⟨lv,kv,rfl,ik,im,ie,it,hl,hks⟩:=hv.open;obtain⟨la,lc,rfl⟩:=RSl.val hl;obtain⟨ka,kc,rfl⟩:=RSl.val hks;have hl':RSl 6 Aw d (.slice la v.list.length lc) v.list:=hl;have n1:=RSl.A2 hl;have n2:=RSl.A2 hks;show gwp P _ _ _ _ _;apply Ah;apply Ax;refine AR (l:=[vZ v.kind,vZ v.m,vZ v.e,Al v.text,.slice la v.list.length lc,.slice ka v.keys.length kc]) rfl (fun b2 T2=>?_);refine AR (l:=[vZ s.kind,Al s.text,vZ s.src,vZ s.dst,.bool s.hf,.bool s.ht]) rfl (fun b3 T3=>?_);(refine AV (fun _ _=>Ab rfl<|Aa ?_));rename_i b4 T4;by_cases k0:v.kind=0
 ·rw[AW,if_pos k0] at hF;cases hF;(refine Ah<|As<|Ac<|Ag rfl<|Ai rfl (Ak 2 rfl rfl)<|At rfl rfl<|Ad rfl<|Aa<|Au rfl (by omega)<|Ac<|Bz ?_);refine AA 0 [vZ 0,vZ 0,vZ 0,Al [],.slice none 0 0,.slice none 0 0] rfl rfl rfl rfl (No rfl) rfl rfl ?_;(refine Ab rfl<|Aa<|Aq ?_);exact E4 0 rfl rfl rfl Aw.zero
 by_cases s0:s.kind=0
 ·by_cases v6:v.kind=6
  ·rw[AW,if_neg k0,if_pos ⟨s0,v6⟩] at hF;(refine Ah<|As<|Ac<|Ag rfl<|Ai rfl (Ak 2 rfl rfl)<|At rfl rfl<|Ad rfl<|Aa<|An rfl (by omega)<|Ac<|Ag rfl<|Ai rfl (Ak 1 rfl rfl)<|At rfl rfl<|Ad rfl<|AF rfl (by omega)<|Af rfl<|Ag rfl<|Af rfl<|Ai rfl (Ak 2 rfl rfl)<|Af rfl<|At rfl rfl<|Ap rfl rfl<|Ad rfl<|Aa<|Au rfl (by omega)<|Ah<|Ac<|Ag rfl<|Ai rfl (Ak 2 rfl rfl)<|Ag rfl<|Ai rfl (Ak 1 rfl rfl) ?_);refine AD rfl (h1 hks hr) ?_;by_cases hm:s.text∈v.keys
   ·rw[if_pos hm] at hF;cases hF;obtain⟨hlo,_⟩:=(mem_iff hr).1 hm;have hlo2:Bq v.keys s.text<v.list.length:=by have:=hkl v6;omega
    (refine A9 rfl<|AH rfl rfl<|AH rfl rfl<|Ab rfl<|Ad rfl<|Aa<|Ac<|Ad rfl<|Aa<|Au rfl (by omega)<|Ac<|Ag rfl<|Ai rfl (Ak 2 rfl rfl)<|Ab rfl<|AN (sz:=6) (R:=Aw) (by rfl) (by assumption) (by rfl) rfl (by omega) ?_;rintro _ _ _ _ _ _;apply B5;rfl;assumption;assumption);rename_i cs hcs hD hR;obtain⟨c0,c1,c2,c3,c4,c5,rfl⟩:=six hcs;refine AA 0 [c0,c1,c2,c3,c4,c5] rfl rfl rfl rfl (No rfl) (AK _ _ _ hR) rfl ?_;(refine Ab rfl<|Aa<|Aq ?_);exact E4 0 rfl rfl rfl (by rw[show v.list.getD (Bq v.keys s.text) V.zero=v.list[Bq v.keys s.text] by simp[hlo2]];exact hR)
   ·rw[if_neg hm] at hF;cases hF;(refine A9 rfl<|AH rfl rfl<|AH rfl rfl<|Ab rfl<|Ad rfl<|Aa<|Ac<|Ad rfl<|Aa<|An rfl (by omega)<|Ao<|Ac<|Bz ?_);refine AA 0 [vZ 0,vZ 0,vZ 0,Al [],.slice none 0 0,.slice none 0 0] rfl rfl rfl rfl (No rfl) rfl rfl ?_;(refine Ab rfl<|Aa<|Aq ?_);exact E4 0 rfl rfl rfl Aw.zero
  ·rw[AW,if_neg k0,if_neg (fun h=>v6 h.2),if_neg (fun h=>by omega),if_neg (fun h=>by omega),if_neg (fun h=>by omega)] at hF;cases hF;(refine Ah<|As<|Ac<|Ag rfl<|Ai rfl (Ak 2 rfl rfl)<|At rfl rfl<|Ad rfl<|Aa<|An rfl (by omega)<|Ac<|Ag rfl<|Ai rfl (Ak 1 rfl rfl)<|At rfl rfl<|Ad rfl<|AF rfl (by omega)<|Af rfl<|Ag rfl<|Af rfl<|Ai rfl (Ak 2 rfl rfl)<|Af rfl<|At rfl rfl<|Ap rfl rfl<|Ad rfl<|Aa<|An rfl (by omega)<|Ac<|Ag rfl<|Ai rfl (Ak 1 rfl rfl)<|At rfl rfl<|Ad rfl<|Az rfl (by omega)<|Aj rfl<|Aj rfl<|Aj rfl<|Am rfl rfl<|Ad rfl<|Aa<|AJ rfl<|Ac<|Ag rfl<|Ai rfl (Ak 1 rfl rfl)<|At rfl rfl<|Ad rfl<|Az rfl (by omega)<|Aj rfl<|Aj rfl<|Aj rfl<|Am rfl rfl<|Ad rfl<|Aa<|AJ rfl<|Ac<|Ag rfl<|Ai rfl (Ak 1 rfl rfl)<|At rfl rfl<|Ad rfl<|Az rfl (by omega)<|Aj rfl<|Aj rfl<|Aj rfl<|Am rfl rfl<|Ad rfl<|Aa<|AJ rfl<|Ao<|Ac<|Bz ?_);refine AA 0 [vZ 0,vZ 0,vZ 0,Al [],.slice none 0 0,.slice none 0 0] rfl rfl rfl rfl (No rfl) rfl rfl ?_;(refine Ab rfl<|Aa<|Aq ?_);exact E4 0 rfl rfl rfl Aw.zero
 by_cases s1:s.kind=1
 ·by_cases v5:v.kind=5
  ·rw[AW,if_neg k0,if_neg (fun h=>s0 h.1),if_pos ⟨s1,v5⟩,JH] at hF;(refine Ah<|As<|Ac<|Ag rfl<|Ai rfl (Ak 2 rfl rfl)<|At rfl rfl<|Ad rfl<|Aa<|An rfl (by omega)<|Ac<|Ag rfl<|Ai rfl (Ak 1 rfl rfl)<|At rfl rfl<|Ad rfl<|Az rfl (by omega)<|Aj rfl<|Aj rfl<|Aj rfl<|Am rfl rfl<|Ad rfl<|Aa<|AJ rfl<|Ac<|Ag rfl<|Ai rfl (Ak 1 rfl rfl)<|At rfl rfl<|Ad rfl<|AF rfl (by omega)<|Af rfl<|Ag rfl<|Af rfl<|Ai rfl (Ak 2 rfl rfl)<|Af rfl<|At rfl rfl<|Ap rfl rfl<|Ad rfl<|Aa<|Au rfl (by omega)<|Ah<|Ac<|Ag rfl<|Ai rfl (Ak 1 rfl rfl)<|Ag rfl<|Ai rfl (Ak 2 rfl rfl)<|Ay rfl ?_);refine AD rfl (h2 is (by omega) (by omega)) ?_;by_cases p0:0≤BG s.src v.list.length
   ·by_cases p1:BG s.src v.list.length<v.list.length
    ·rw[if_pos ⟨p0,p1⟩] at hF;cases hF;have hlo2:(BG s.src v.list.length).toNat<v.list.length:=by omega
     (refine Ab rfl<|Aa<|Ac<|Ab rfl<|CY rfl rfl<|Ad rfl<|AF rfl (by omega)<|Af rfl<|Ab rfl<|Af rfl<|Ag rfl<|Af rfl<|Ai rfl (Ak 2 rfl rfl)<|Af rfl<|Ay rfl<|Af rfl<|Av rfl rfl<|Ap rfl rfl<|Aa<|Au rfl (by omega)<|Ac<|Ag rfl<|Ai rfl (Ak 2 rfl rfl)<|Ab rfl ?_);refine AN (sz:=6) (R:=Aw) (m:=(BG s.src v.list.length).toNat) (by rfl) hl' (by rfl) (by omega) hlo2 ?_;rintro _ _ cs hcs hD hR;(apply B5;rfl;assumption;assumption);obtain⟨c0,c1,c2,c3,c4,c5,rfl⟩:=six hcs;refine AA 0 [c0,c1,c2,c3,c4,c5] rfl rfl rfl rfl (No rfl) (AK _ _ _ hR) rfl ?_;(refine Ab rfl<|Aa<|Aq ?_);exact E4 0 rfl rfl rfl (by rw[show v.list.getD (BG s.src v.list.length).toNat V.zero=v.list[(BG s.src v.list.length).toNat] by simp[hlo2]];exact hR)
    ·rw[if_neg (fun h=>p1 h.2)] at hF;cases hF;(refine Ab rfl<|Aa<|Ac<|Ab rfl<|CY rfl rfl<|Ad rfl<|AF rfl (by omega)<|Af rfl<|Ab rfl<|Af rfl<|Ag rfl<|Af rfl<|Ai rfl (Ak 2 rfl rfl)<|Af rfl<|Ay rfl<|Af rfl<|Av rfl rfl<|Ap rfl rfl<|Aa<|An rfl (by omega)<|Ao<|Ac<|Bz ?_);refine AA 0 [vZ 0,vZ 0,vZ 0,Al [],.slice none 0 0,.slice none 0 0] rfl rfl rfl rfl (No rfl) rfl rfl ?_;(refine Ab rfl<|Aa<|Aq ?_);exact E4 0 rfl rfl rfl Aw.zero
   ·rw[if_neg (fun h=>p0 h.1)] at hF;cases hF;(refine Ab rfl<|Aa<|Ac<|Ab rfl<|CY rfl rfl<|Ad rfl<|Az rfl (by omega)<|Aj rfl<|Aj rfl<|Aj rfl<|Aj rfl<|Aj rfl<|Am rfl rfl<|Aa<|AJ rfl<|Ao<|Ac<|Bz ?_);refine AA 0 [vZ 0,vZ 0,vZ 0,Al [],.slice none 0 0,.slice none 0 0] rfl rfl rfl rfl (No rfl) rfl rfl ?_;(refine Ab rfl<|Aa<|Aq ?_);exact E4 0 rfl rfl rfl Aw.zero
  ·rw[AW,if_neg k0,if_neg (fun h=>s0 h.1),if_neg (fun h=>v5 h.2),if_neg (fun h=>by omega),if_neg (fun h=>by omega)] at hF;cases hF;(refine Ah<|As<|Ac<|Ag rfl<|Ai rfl (Ak 2 rfl rfl)<|At rfl rfl<|Ad rfl<|Aa<|An rfl (by omega)<|Ac<|Ag rfl<|Ai rfl (Ak 1 rfl rfl)<|At rfl rfl<|Ad rfl<|Az rfl (by omega)<|Aj rfl<|Aj rfl<|Aj rfl<|Am rfl rfl<|Ad rfl<|Aa<|AJ rfl<|Ac<|Ag rfl<|Ai rfl (Ak 1 rfl rfl)<|At rfl rfl<|Ad rfl<|AF rfl (by omega)<|Af rfl<|Ag rfl<|Af rfl<|Ai rfl (Ak 2 rfl rfl)<|Af rfl<|At rfl rfl<|Ap rfl rfl<|Ad rfl<|Aa<|An rfl (by omega)<|Ac<|Ag rfl<|Ai rfl (Ak 1 rfl rfl)<|At rfl rfl<|Ad rfl<|Az rfl (by omega)<|Aj rfl<|Aj rfl<|Aj rfl<|Am rfl rfl<|Ad rfl<|Aa<|AJ rfl<|Ac<|Ag rfl<|Ai rfl (Ak 1 rfl rfl)<|At rfl rfl<|Ad rfl<|Az rfl (by omega)<|Aj rfl<|Aj rfl<|Aj rfl<|Am rfl rfl<|Ad rfl<|Aa<|AJ rfl<|Ao<|Ac<|Bz ?_);refine AA 0 [vZ 0,vZ 0,vZ 0,Al [],.slice none 0 0,.slice none 0 0] rfl rfl rfl rfl (No rfl) rfl rfl ?_;(refine Ab rfl<|Aa<|Aq ?_);exact E4 0 rfl rfl rfl Aw.zero
 by_cases s2:s.kind=2
 ·by_cases v5:v.kind=5
  ·rw[AW,if_neg k0,if_neg (fun h=>s0 h.1),if_neg (fun h=>s1 h.1),if_pos ⟨s2,v5⟩] at hF;cases hF;have hends:=EE s (k:=v.list.length) (by omega);(refine Ah<|As<|Ac<|Ag rfl<|Ai rfl (Ak 2 rfl rfl)<|At rfl rfl<|Ad rfl<|Aa<|An rfl (by omega)<|Ac<|Ag rfl<|Ai rfl (Ak 1 rfl rfl)<|At rfl rfl<|Ad rfl<|Az rfl (by omega)<|Aj rfl<|Aj rfl<|Aj rfl<|Am rfl rfl<|Ad rfl<|Aa<|AJ rfl<|Ac<|Ag rfl<|Ai rfl (Ak 1 rfl rfl)<|At rfl rfl<|Ad rfl<|Az rfl (by omega)<|Aj rfl<|Aj rfl<|Aj rfl<|Am rfl rfl<|Ad rfl<|Aa<|AJ rfl<|Ac<|Ag rfl<|Ai rfl (Ak 1 rfl rfl)<|At rfl rfl<|Ad rfl<|AF rfl (by omega)<|Af rfl<|Ag rfl<|Af rfl<|Ai rfl (Ak 2 rfl rfl)<|Af rfl<|At rfl rfl<|Ap rfl rfl<|Ad rfl<|Aa<|Au rfl (by omega)<|Ac<|AE 1 rfl rfl rfl<|Ag rfl<|Ai rfl (Ak 2 rfl rfl)<|Ay rfl ?_);refine AD rfl (h3 hs (by omega) (by omega)) ?_;(refine A9 rfl<|AH rfl rfl<|AH rfl rfl<|Ab rfl<|Ab rfl<|Aa<|Ac<|Ag rfl<|Ai rfl (Ak 2 rfl rfl)<|Ab rfl<|Ab rfl ?_);refine Qp (n:=(A5 s v.list.length).1.toNat) (m:=(A5 s v.list.length).2.toNat) rfl hl' rfl rfl (by omega) (by omega) (by omega) (by omega) (fun v' hv'=>?_);obtain⟨sa,sc,rfl⟩:=RSl.val hv';(apply Ep;rfl;rfl);refine AA 0 [vZ 5,vZ 0,vZ 0,Al [],.slice sa _ sc,.slice none 0 0] rfl rfl rfl rfl (No rfl) rfl rfl ?_;(refine Ab rfl<|Aa<|Aq ?_);exact E4 0 rfl rfl rfl (Aw.close (v:=.mk 5 0 0 [] (EP v.list (A5 s v.list.length)) []) EZ A3 A3 (by simp) hv' RSl.nil)
  by_cases v4:v.kind=4
  ·rw[AW,if_neg k0,if_neg (fun h=>s0 h.1),if_neg (fun h=>s1 h.1),if_neg (fun h=>v5 h.2),if_pos ⟨s2,v4⟩] at hF;cases hF;have hrl:(BE v.text).length=(chs v.text).length:=by rw[Jo];simp[Qa]
   have hcl:=U1 v.text;have hends:=EE s (k:=(chs v.text).length) (by omega);have hrn:=Qa v.text;(refine Ah<|As<|Ac<|Ag rfl<|Ai rfl (Ak 2 rfl rfl)<|At rfl rfl<|Ad rfl<|Aa<|An rfl (by omega)<|Ac<|Ag rfl<|Ai rfl (Ak 1 rfl rfl)<|At rfl rfl<|Ad rfl<|Az rfl (by omega)<|Aj rfl<|Aj rfl<|Aj rfl<|Am rfl rfl<|Ad rfl<|Aa<|AJ rfl<|Ac<|Ag rfl<|Ai rfl (Ak 1 rfl rfl)<|At rfl rfl<|Ad rfl<|Az rfl (by omega)<|Aj rfl<|Aj rfl<|Aj rfl<|Am rfl rfl<|Ad rfl<|Aa<|AJ rfl<|Ac<|Ag rfl<|Ai rfl (Ak 1 rfl rfl)<|At rfl rfl<|Ad rfl<|AF rfl (by omega)<|Af rfl<|Ag rfl<|Af rfl<|Ai rfl (Ak 2 rfl rfl)<|Af rfl<|At rfl rfl<|Ap rfl rfl<|Ad rfl<|Aa<|An rfl (by omega)<|Ac<|Ag rfl<|Ai rfl (Ak 1 rfl rfl)<|At rfl rfl<|Ad rfl<|AF rfl (by omega)<|Af rfl<|Ag rfl<|Af rfl<|Ai rfl (Ak 2 rfl rfl)<|Af rfl<|At rfl rfl<|Ap rfl rfl<|Ad rfl<|Aa<|Au rfl (by omega)<|Ac<|Ag rfl<|Ai rfl (Ak 2 rfl rfl) ?_);refine W7 rfl (by omega) (fun b11 T11 c11 hc1 hc2=>?_);refine Bt (fun d5 hl5 hg5=>?_);have hrr:=SW (by omega) hc1 hc2 hg5;rw[hrl] at hrr⊢;(refine Ar rfl<|Aa<|Ac<|AE 1 rfl rfl rfl<|Ar rfl<|Ay rfl ?_);refine AD rfl (h3 (d:=d5) hs (by omega) (by omega)) ?_;(refine A9 rfl<|AH rfl rfl<|AH rfl rfl<|Ab rfl<|Ab rfl<|Aa<|Ac<|Ar rfl<|Ab rfl<|Ab rfl ?_);refine Qp (n:=(A5 s (chs v.text).length).1.toNat) (m:=(A5 s (chs v.text).length).2.toNat) rfl hrr rfl rfl (by omega) (by omega) (by omega) (by omega) (fun v' hv'=>?_);refine WO rfl hv' ?_;rw[Tq hu];(apply RR;rfl;rfl);refine AA 0 [vZ 4,vZ 0,vZ 0,Al (EP (chs v.text) (A5 s (chs v.text).length)).flatten,.slice none 0 0,.slice none 0 0] rfl rfl rfl rfl (No rfl) rfl rfl ?_;(refine Ab rfl<|Aa<|Aq ?_);exact E4 0 rfl rfl rfl (Aw.close (v:=.mk 4 0 0 (EP (chs v.text) (A5 s (chs v.text).length)).flatten [] []) UP A3 A3 (X6 (KB _ _) it) RSl.nil RSl.nil)
  rw[AW,if_neg k0,if_neg (fun h=>s0 h.1),if_neg (fun h=>s1 h.1),if_neg (fun h=>v5 h.2),if_neg (fun h=>v4 h.2)] at hF;cases hF;(refine Ah<|As<|Ac<|Ag rfl<|Ai rfl (Ak 2 rfl rfl)<|At rfl rfl<|Ad rfl<|Aa<|An rfl (by omega)<|Ac<|Ag rfl<|Ai rfl (Ak 1 rfl rfl)<|At rfl rfl<|Ad rfl<|Az rfl (by omega)<|Aj rfl<|Aj rfl<|Aj rfl<|Am rfl rfl<|Ad rfl<|Aa<|AJ rfl<|Ac<|Ag rfl<|Ai rfl (Ak 1 rfl rfl)<|At rfl rfl<|Ad rfl<|Az rfl (by omega)<|Aj rfl<|Aj rfl<|Aj rfl<|Am rfl rfl<|Ad rfl<|Aa<|AJ rfl<|Ac<|Ag rfl<|Ai rfl (Ak 1 rfl rfl)<|At rfl rfl<|Ad rfl<|AF rfl (by omega)<|Af rfl<|Ag rfl<|Af rfl<|Ai rfl (Ak 2 rfl rfl)<|Af rfl<|At rfl rfl<|Ap rfl rfl<|Ad rfl<|Aa<|An rfl (by omega)<|Ac<|Ag rfl<|Ai rfl (Ak 1 rfl rfl)<|At rfl rfl<|Ad rfl<|AF rfl (by omega)<|Af rfl<|Ag rfl<|Af rfl<|Ai rfl (Ak 2 rfl rfl)<|Af rfl<|At rfl rfl<|Ap rfl rfl<|Ad rfl<|Aa<|An rfl (by omega)<|Ao<|Ac<|Bz ?_);refine AA 0 [vZ 0,vZ 0,vZ 0,Al [],.slice none 0 0,.slice none 0 0] rfl rfl rfl rfl (No rfl) rfl rfl ?_;(refine Ab rfl<|Aa<|Aq ?_);exact E4 0 rfl rfl rfl Aw.zero
 rw[AW,if_neg k0,if_neg (fun h=>s0 h.1),if_neg (fun h=>s1 h.1),if_neg (fun h=>s2 h.1),if_neg (fun h=>s2 h.1)] at hF;cases hF;(refine Ah<|As<|Ac<|Ag rfl<|Ai rfl (Ak 2 rfl rfl)<|At rfl rfl<|Ad rfl<|Aa<|An rfl (by omega)<|Ac<|Ag rfl<|Ai rfl (Ak 1 rfl rfl)<|At rfl rfl<|Ad rfl<|Az rfl (by omega)<|Aj rfl<|Aj rfl<|Aj rfl<|Am rfl rfl<|Ad rfl<|Aa<|AJ rfl<|Ac<|Ag rfl<|Ai rfl (Ak 1 rfl rfl)<|At rfl rfl<|Ad rfl<|Az rfl (by omega)<|Aj rfl<|Aj rfl<|Aj rfl<|Am rfl rfl<|Ad rfl<|Aa<|AJ rfl<|Ac<|Ag rfl<|Ai rfl (Ak 1 rfl rfl)<|At rfl rfl<|Ad rfl<|Az rfl (by omega)<|Aj rfl<|Aj rfl<|Aj rfl<|Am rfl rfl<|Ad rfl<|Aa<|AJ rfl<|Ac<|Ag rfl<|Ai rfl (Ak 1 rfl rfl)<|At rfl rfl<|Ad rfl<|Az rfl (by omega)<|Aj rfl<|Aj rfl<|Aj rfl<|Am rfl rfl<|Ad rfl<|Aa<|AJ rfl<|Ao<|Ac<|Bz ?_);refine AA 0 [vZ 0,vZ 0,vZ 0,Al [],.slice none 0 0,.slice none 0 0] rfl rfl rfl rfl (No rfl) rfl rfl ?_;(refine Ab rfl<|Aa<|Aq ?_);exact E4 0 rfl rfl rfl Aw.zero
end Go.Gk.Val
end
section
namespace Go.Gk.Val
open Go Go.Gk Go.Gk.Utf
section
attribute [local irreducible] gwp gws
end
end Go.Gk.Val
end
section
namespace Go.Gk.Val
open Go Go.Gk Go.Gk.Utf
attribute [local irreducible] gwp gws
variable{P:Program}{f f1 f2 f3:FuncId}{v:V}
section
def CG(s:St):Bool:=decide (0≤s.kind∧s.kind≤2)&&(decide (s.kind≠0)||u8 s.text)
def all_false{l:List St}{i:Nat}(h:i<l.length)(hb:CG l[i]=false):l.all CG=false:=by
 rw[←Yq,Xj];intro ha;rw[ha _ (Xh h)] at hb;cases hb
def Cx(v:V)(l:List St):Int:=if AP v≠0 then AP v else if l.all CG=true then 0 else 2
def HN(T:Ae→Prop)(P:Program)(f:FuncId):Prop:=∀{d cs w}{v:V}{l:List St},T d→Aw d cs v→RSl 6 RSt d w l→AG P f [.agg cs.toArray,w] d (vZ (Cx v l))
def ND(a0 a1:Nat):A0:=⟨39,[(.tmp 4)],(sR (o1 2 (.box 0)<|o1 4 (.mv z0) .done) (.seq (sR (o1 8 (.ld (some 6) 2)<|oc 9 a0 [8]<|om 5 9 .done) (sR (om 10 5<|ob 11 .neq 10 z0 .done) (.cond 11 (sR (om 12 5<|om 4 12 .done) .ret) .skip))) (.seq (sR (om 13 1<|oL 14 13<|o1 15 (.mv z0) .done) (.block 0 (.loop (sR (ob 16 .lss 15 14 .done) (.seq (.cond 16 .skip (.exit 0)) (.seq (.block 1 (sR (oI 17 6 13 15<|o1 18 (.ld (some 6) 17)<|o1 7 (.alo (.agg #[(vZ 0),(Al []),(vZ 0),(vZ 0),(.bool false),(.bool false)]))<|o0 (.st 6 7 18) .done) (sR (oj 19 0 7<|ol 20 19<|ob 21 .lss 20 z0<|om 22 21<|oF 23 22 (.fld 0 7)<|oF 24 22 (.ld none 23)<|oF 25 22 (.bin .gtr 24 z2)<|o1 26 (.pick 22 (.const (.bool true)) 25)<|om 27 26<|oF 28 27 (.fld 0 7)<|oF 29 27 (.ld none 28)<|oF 30 27 (.bin .eql 29 z0)<|gF 31 27 30<|oT 32 31 (.fld 1 7)<|oT 33 31 (.ld none 32)<|oT 34 31 (.call a1 [33])<|oT 35 31 (.un .not 34)<|oF 36 27 (.pick 31 35 (.const (.bool false)))<|o1 37 (.pick 27 (.const (.bool true)) 36) .done) (.cond 37 (sR (o1 4 (.mv z2) .done) .ret) .skip)))) (rG (ob 38 .add 15 z1<|om 15 38 .done)))))))) (sR (o1 4 (.mv z0) .done) .ret))))⟩
def TR{T:Ae→Prop}(hd:dec P f=some (ND f1 f2))(h1:Ez T P f1)(h2:EO T P f2):HN T P f:=by
 intro d cs w v l ht hv hw;have n1:=RSl.A2 hw;obtain⟨a,c,rfl⟩:=RSl.val hw;have hw':=hw;refine AG.of' hd (No rfl) ?_;have hv0:=hv;obtain⟨lv,kv,rfl,ik,im,ie,it,hl,hks⟩:=hv.open;show gwp P _ _ _ _ _;apply Ah;apply Ax;refine AR (l:=[vZ v.kind,vZ v.m,vZ v.e,Al v.text,lv,kv]) rfl (fun b2 T2=>?_);(refine Ab rfl<|Aa<|Ah<|Ac<|AE 0 rfl rfl rfl ?_);refine AD rfl (h1 ht hv0) ?_;by_cases h0:AP v≠0
 ·(refine Ab rfl<|Aa<|Ac<|Ab rfl<|AB rfl rfl<|Aa<|Au rfl (by omega)<|Ac<|Ab rfl<|Ab rfl<|Aa<|Aq ?_);apply Dt;rfl;rw[Cx,if_pos h0]
 rw[Cx,if_neg h0];(refine Ab rfl<|Aa<|Ac<|Ab rfl<|AB rfl rfl<|Aa<|An rfl (by omega)<|Ao<|Ah<|Ac<|Ar rfl<|Ay rfl<|Ab rfl<|Aa<|As ?_);refine A6 (α:=Nat) (fun i=>[(13,.slice a l.length c),(14,vZ l.length),(15,vZ i)]) (fun i d' L'=>d'=d∧i≤l.length∧(l.take i).all CG=true) (fun i=>l.length - i) 0 ⟨rfl,rfl,rfl,trivial⟩ ⟨rfl,Xw _,by simp⟩ ?_;rintro i ρ d' L' ⟨hdd,hi,hall⟩;subst hdd;by_cases hc:i<l.length
 ·have hnext:CG l[i]=true→(l.take (i+1)).all CG=true:=fun h=>by rw[Xi hc,List.all_append,hall];simp[h]
  have hfail:CG l[i]=false→(2:Int)=if l.all CG=true then 0 else 2:=fun h=>by rw[if_neg (by rw[all_false hc h];simp)]
  (refine Ac<|Av rfl rfl<|Aa<|Ah<|Au rfl (by omega)<|Ao<|Ah<|As<|Ac<|AN (sz:=6) (R:=RSt) (by rfl) (by assumption) (by rfl) rfl (by omega) ?_;rintro _ _ _ _ _ ⟨rfl,_,_,_,_⟩;refine B5 rfl (by assumption) rfl<|AV (fun _ _=>?_));rename_i hcs hD ik' hlen is id b7 T7;refine AA 0 [vZ l[i].kind,Al l[i].text,vZ l[i].src,vZ l[i].dst,.bool l[i].hf,.bool l[i].ht] rfl rfl rfl rfl (No rfl) rfl rfl ?_;by_cases q1:l[i].kind<0
  ·(refine Aa<|Ac<|Ag rfl<|Ai rfl (Ak 0 rfl rfl)<|Av rfl rfl<|Ad rfl<|AF rfl (by omega)<|Aj rfl<|Aj rfl<|Aj rfl<|Ap rfl rfl<|Ad rfl<|Aj rfl<|Aj rfl<|Aj rfl<|Aj rfl<|AX rfl<|AX rfl<|AX rfl<|AX rfl<|Aj rfl<|Ap rfl rfl<|Aa<|Bd rfl<|Ac<|Ab rfl<|Aa<|Aq ?_);apply Dt;rfl;exact hfail (by simp only[CG];rw[decide_eq_false (by omega)];rfl)
  by_cases q2:l[i].kind>2
  ·(refine Aa<|Ac<|Ag rfl<|Ai rfl (Ak 0 rfl rfl)<|Av rfl rfl<|Ad rfl<|Az rfl (by omega)<|Af rfl<|Ag rfl<|Af rfl<|Ai rfl (Ak 0 rfl rfl)<|Af rfl<|AM rfl rfl<|Am rfl rfl<|Ad rfl<|AF rfl (by omega)<|Aj rfl<|Aj rfl<|Aj rfl<|Aj rfl<|AX rfl<|AX rfl<|AX rfl<|AX rfl<|Aj rfl<|Ap rfl rfl<|Aa<|Bd rfl<|Ac<|Ab rfl<|Aa<|Aq ?_);apply Dt;rfl;exact hfail (by simp only[CG];rw[decide_eq_false (by omega)];rfl)
  have hk:decide (0≤l[i].kind∧l[i].kind≤2)=true:=decide_eq_true (by omega);by_cases q3:l[i].kind=0
  ·(refine Aa<|Ac<|Ag rfl<|Ai rfl (Ak 0 rfl rfl)<|Av rfl rfl<|Ad rfl<|Az rfl (by omega)<|Af rfl<|Ag rfl<|Af rfl<|Ai rfl (Ak 0 rfl rfl)<|Af rfl<|AM rfl rfl<|Am rfl rfl<|Ad rfl<|Az rfl (by omega)<|Af rfl<|Ag rfl<|Af rfl<|Ai rfl (Ak 0 rfl rfl)<|Af rfl<|At rfl rfl<|Af rfl<|Ad rfl<|AF rfl (by omega)<|Af rfl<|Ag rfl<|Af rfl<|Ai rfl (Ak 0 rfl rfl)<|Af rfl ?_);refine AD rfl (h2 ht hlen) ?_;cases hu:u8 l[i].text with
   |true=>
    (refine Af rfl<|Be rfl<|Af rfl<|Ap rfl rfl<|Am rfl rfl<|Aa<|AJ rfl<|Ao<|Ax<|AI rfl rfl (by omega) (by omega)<|Ab rfl<|Aa ?_)
    exact⟨i+1,by omega,⟨rfl,rfl,int_eq (by omega),trivial⟩,rfl,hc,hnext (by simp only[CG,hk,hu];simp)⟩
   |false=>
    (refine Af rfl<|Be rfl<|Af rfl<|Ap rfl rfl<|Am rfl rfl<|Aa<|Bd rfl<|Ac<|Ab rfl<|Aa<|Aq ?_)
    apply Dt;rfl
    exact hfail (by simp only[CG,hk,hu];simp[q3])
  ·(refine Aa<|Ac<|Ag rfl<|Ai rfl (Ak 0 rfl rfl)<|Av rfl rfl<|Ad rfl<|Az rfl (by omega)<|Af rfl<|Ag rfl<|Af rfl<|Ai rfl (Ak 0 rfl rfl)<|Af rfl<|AM rfl rfl<|Am rfl rfl<|Ad rfl<|Az rfl (by omega)<|Af rfl<|Ag rfl<|Af rfl<|Ai rfl (Ak 0 rfl rfl)<|Af rfl<|At rfl rfl<|Af rfl<|Ad rfl<|Az rfl (by omega)<|Aj rfl<|Aj rfl<|Aj rfl<|Aj rfl<|Af rfl<|Am rfl rfl<|Am rfl rfl<|Aa<|AJ rfl<|Ao<|Ax<|AI rfl rfl (by omega) (by omega)<|Ab rfl<|Aa ?_);exact⟨i+1,by omega,⟨rfl,rfl,int_eq (by omega),trivial⟩,rfl,hc,hnext (by simp only[CG,hk];simp[q3])⟩
 ·obtain rfl:i=l.length:=by omega
  rw[Xz] at hall;(refine Ac<|Av rfl rfl<|Aa<|Ah<|An rfl (by omega)<|AU<|Ac<|Ab rfl<|Aa<|Aq ?_);apply Dt;rfl;rw[if_pos hall]
def B0:V→List St→V×Int
 |v,[]=>(v,0)
 |v,s::l=>if (AW v s).2≠0 then(V.zero,(AW v s).2) else B0 (AW v s).1 l
def Ju(v:V)(l:List St):V×Int:=if Cx v l≠0 then(V.zero,Cx v l) else B0 v l
def Gd(v:V):Prop:=Bc v=true∧BD v≤1000000000
def Gu(v:V):1≤BD v:=by have:=BV v;omega
def Ia:Gd V.zero:=⟨by decide,by decide⟩
def Je:∀(l:List V) (n:Nat),BN (l.drop n)≤BN l
 |l,0=>by simp
 |[],n+1=>by simp
 |x::l,n+1=>by have:=Je l n;simp only[List.drop_succ_cons,BN];omega
def Jt:∀(l:List V) (n:Nat),BN (l.take n)≤BN l
 |l,0=>by simp[BN]
 |[],n+1=>by simp
 |x::l,n+1=>by have:=Jt l n;simp only[Ys,BN];omega
def SA{x:V}(h:Gd v)(hx:x∈v.list):Gd x:=by
 obtain⟨h1,h2⟩:=h;rw[DS,Xg,Xj] at h1;have h3:=BV v;have h4:=Fs hx;exact⟨h1.2 x hx,by omega⟩
def Qr(h:Gd v)(i:Nat):Gd (v.list.getD i V.zero):=by
 by_cases hi:i<v.list.length
 ·rw[show v.list.getD i V.zero=v.list[i] by simp[hi]];exact SA h (Xh hi)
 ·rw[show v.list.getD i V.zero=V.zero by simp[hi]];exact Ia
def Ej(h:Gd v):BK v=true:=by have:=h.1;rw[DS,Xg] at this;exact this.1
def FD(h:Gd v):v.text.length≤1000000000:=by have:=BV v;have:=h.2;omega
def HP(h:Gd v)(s:St):Gd (AW v s).1:=by
 have h3:=BV v;unfold AW;split
 ·exact Ia
 split
 ·simp only;split
  ·exact Qr h _
  ·exact Ia
 split
 ·simp only[JH];split
  ·exact Qr h _
  ·exact Ia
 split
 ·refine⟨?_,?_⟩
  ·rw[DS,Xg,Xj];refine⟨by simp[BK,BL,V.kind,V.m,V.e,V.text,V.list,V.keys,Bg,u8,Lib.validD_nil,rising,Dv],fun x hx=>?_⟩
   exact(SA h (List.mem_of_mem_drop (List.mem_of_mem_take hx))).1
  ·rw[BV];have h5:=Jt (v.list.drop (A5 s v.list.length).1.toNat) ((A5 s v.list.length).2.toNat - (A5 s v.list.length).1.toNat);have h6:=Je v.list (A5 s v.list.length).1.toNat;have h7:=h.2;show 1+0+0+BN (EP v.list (A5 s v.list.length))≤1000000000;simp only[EP];omega
 split
 ·refine⟨?_,?_⟩
  ·rw[DS,Xg,Xj];refine⟨?_,fun x hx=>by cases hx⟩
   have:=Q9 (SU (Ej h)) (A5 s (chs v.text).length).1.toNat ((A5 s (chs v.text).length).2.toNat - (A5 s (chs v.text).length).1.toNat);simp[BK,BL,V.kind,V.m,V.e,V.text,V.list,V.keys,Bg,u8,EP,this,rising,Dv]
  ·rw[BV];have h5:=KB (l:=v.text) (A5 s (chs v.text).length).1.toNat ((A5 s (chs v.text).length).2.toNat - (A5 s (chs v.text).length).1.toNat);have h7:=h.2;show 1+(EP (chs v.text) (A5 s (chs v.text).length)).flatten.length+0+0≤1000000000;simp only[EP];omega
 ·exact Ia
def IC(h:AP v=0)(hb:BD v≤1000000000):Gd v:=by
 unfold AP at h;split at h
 ·split at h
  ·exact⟨by assumption,hb⟩
  ·cases h
 ·cases h
def Kg{l:List St}(h:Cx v l=0):AP v=0:=by
 unfold Cx at h;split at h
 ·exact h
 ·rename_i h2;simpa using h2
section
variable {ρ:Env}{d:Ae}{L:List Ae}
def E3{b t u:Nat}{T cs}{w:V}{e:Int}{h}(i:Nat)(e4:ρ t=pZ b)(hi:L[i]?=some (bx b T cs))(e5:ρ u=vZ e)(hw:B7 cs w h)(hs:Vs d L d [h]):
  Ch [.cell t (some 6),.tmp u] (Ret fun r _ L'=>∃cs' h,r=.tuple #[.agg cs'.toArray,vZ e]∧L'=[h]∧B7 cs' w h) ρ d L:=
 F9 (L':=[h]) [.agg cs.toArray,vZ e] ⟨A4 i e4 hi hw.cells.1,AZ e5,trivial⟩ hs ⟨cs,h,rfl,rfl,hw⟩
def CS:Vs d L d [Ec [emp,emp]]:=
 (Vs.emp.trans (Vs.emp.trans (Vs.LF (L:=[emp,emp]) (L0:=L)))).trans (Vs.drop ((Xm _).cons_cons _))
end
def Lh(T:Ae→Prop)(P:Program)(f:FuncId):Prop:=∀{d cs w}{v:V}{l:List St},T d→Aw d cs v→RSl 6 RSt d w l→BD v≤1000000000→
 AY P f [.agg cs.toArray,w] d [] (Ret fun r d' L'=>d'=d∧∃cs' h,r=.tuple #[.agg cs'.toArray,vZ (Ju v l).2]∧L'=[h]∧B7 cs' (Ju v l).1 h)
def PI(a0 a1 a2:Nat):A0:=⟨38,[(.cell 4 (some 6)),(.tmp 5)],(sR (o1 2 (.box 0)<|o1 4 (.alo (.agg #[(vZ 0),(vZ 0),(vZ 0),(Al []),(.slice none 0 0),(.slice none 0 0)]))<|o1 5 (.mv z0) .done) (.seq (sR (o1 11 (.ld (some 6) 2)<|om 12 1<|oc 13 a0 [11,12]<|om 6 13 .done) (sR (om 14 6<|ob 15 .neq 14 z0 .done) (.cond 15 (sR (o1 16 (.bld [(0,1),(1,2),(3,1),(4,1),(5,1)] [(vZ 0),(vZ 0),(vZ 0),(Al []),(.slice none 0 0),(.slice none 0 0)] [])<|om 17 6<|o0 (.st 6 4 16)<|om 5 17 .done) .ret) .skip))) (.seq (sR (om 18 1<|oL 19 18<|o1 20 (.mv z0) .done) (.block 0 (.loop (sR (ob 21 .lss 20 19 .done) (.seq (.cond 21 .skip (.exit 0)) (.seq (.block 1 (sR (oI 22 6 18 20<|o1 23 (.ld (some 6) 22)<|o1 8 (.alo (.agg #[(vZ 0),(Al []),(vZ 0),(vZ 0),(.bool false),(.bool false)]))<|o0 (.st 6 8 23) .done) (sR (o1 25 (.ld (some 6) 2)<|o1 26 (.ld (some 6) 8)<|oc 27 a1 [25,26]<|om 24 27<|oe 28 24 0<|oe 29 24 1<|o1 9 (.alo (.agg #[(vZ 0),(vZ 0),(vZ 0),(Al []),(.slice none 0 0),(.slice none 0 0)]))<|o0 (.st 6 9 28)<|om 10 29 .done) (.seq (sR (om 30 10<|ob 31 .neq 30 z0 .done) (.cond 31 (sR (o1 32 (.bld [(0,1),(1,2),(3,1),(4,1),(5,1)] [(vZ 0),(vZ 0),(vZ 0),(Al []),(.slice none 0 0),(.slice none 0 0)] [])<|om 33 10<|o0 (.st 6 4 32)<|om 5 33 .done) .ret) .skip)) (rG (o1 34 (.ld (some 6) 9)<|o0 (.st 6 2 34) .done)))))) (rG (ob 35 .add 20 z1<|om 20 35 .done)))))))) (sR (o1 36 (.ld (some 6) 2)<|oc 37 a2 [36]<|o0 (.st 6 4 37)<|o1 5 (.mv z0) .done) .ret))))⟩
set_option maxHeartbeats 1000000 in
def Sf{T:Ae→Prop}(hd:dec P f=some (PI f1 f2 f3))(h1:HN T P f1)(h2:Jc P f2)(h3:Fy P f3):Lh T P f:=by
 intro d cs w v l ht hv hw hb;have n1:=RSl.A2 hw;obtain⟨a,c,rfl⟩:=RSl.val hw;have hw':=hw;refine AY.forget (Q:=fun r L'=>∃cs' h,r=.tuple #[.agg cs'.toArray,vZ (Ju v l).2]∧L'=[h]∧B7 cs' (Ju v l).1 h) ?_;refine Bf hd (No rfl) ?_;have hv0:=hv;obtain⟨lv,kv,rfl,ik,im,ie,it,hl,hks⟩:=hv.open;show gwp P _ _ _ _ _;apply Ah;apply Ax;refine AR (l:=[vZ v.kind,vZ v.m,vZ v.e,Al v.text,lv,kv]) rfl (fun b2 T2=>?_);(refine AV (fun _ _=>Ab rfl<|Aa<|Ah<|Ac<|AE 1 rfl rfl rfl<|Ar rfl ?_));rename_i b4 T4;refine AD rfl (h1 ht hv0 hw) ?_;by_cases h0:Cx v l≠0
 ·rw[Ju,if_pos h0];(refine Ab rfl<|Aa<|Ac<|Ab rfl<|AB rfl rfl<|Aa<|Au rfl (by omega)<|Ac<|Bz<|Ab rfl ?_);refine AA 0 [vZ 0,vZ 0,vZ 0,Al [],.slice none 0 0,.slice none 0 0] rfl rfl rfl rfl (No rfl) rfl rfl ?_;(refine Ab rfl<|Aa<|Aq ?_);exact E3 0 rfl rfl rfl B7.zero CS
 rw[Ju,if_neg h0];have h0':Cx v l=0:=by omega
 have hgd:=IC (Kg h0') hb;(refine Ab rfl<|Aa<|Ac<|Ab rfl<|AB rfl rfl<|Aa<|An rfl (by omega)<|Ao<|Ah<|Ac<|Ar rfl<|Ay rfl<|Ab rfl<|Aa<|As ?_);refine A6 (α:=Nat) (fun i=>[(2,pZ b2),(4,pZ b4),(18,.slice a l.length c),(19,vZ l.length),(20,vZ i)])
  (fun i d' L'=>d'=d∧i≤l.length∧∃vi c0 c1 c2 c3 c4 c5,Aw d [c0,c1,c2,c3,c4,c5] vi∧Gd vi∧B0 vi (l.drop i)=B0 v l∧L'=[bx b4 T4 [vZ 0,vZ 0,vZ 0,Al [],.slice none 0 0,.slice none 0 0],bx b2 T2 [c0,c1,c2,c3,c4,c5]])
  (fun i=>l.length - i) 0 ⟨rfl,rfl,rfl,rfl,rfl,trivial⟩ ⟨rfl,Xw _,v,_,_,_,_,_,_,hv0,hgd,rfl,rfl⟩ ?_
 rintro i ρ d' L' ⟨hdd,hi,vi,c0,c1,c2,c3,c4,c5,hvi,hgi,hwk,hL⟩;subst hdd;subst hL;by_cases hc:i<l.length
 ·rw[XE hc,B0] at hwk;(refine Ac<|Av rfl rfl<|Aa<|Ah<|Au rfl (by omega)<|Ao<|Ah<|As<|Ac<|AN (sz:=6) (R:=RSt) (by rfl) (by assumption) (by rfl) rfl (by omega) ?_;rintro _ _ _ _ _ ⟨rfl,_,_,_,_⟩;refine B5 rfl (by assumption) rfl<|AV (fun _ _=>?_));rename_i hcs hD ik' hlen is id b8 T8;refine AA 0 [vZ l[i].kind,Al l[i].text,vZ l[i].src,vZ l[i].dst,.bool l[i].hf,.bool l[i].ht] rfl rfl rfl rfl (No rfl) rfl rfl ?_;(refine Aa<|Ac<|AE 2 rfl rfl rfl<|AE 0 rfl rfl rfl ?_);refine AQ rfl (h2 hvi (Ej hgi) (FD hgi) ⟨rfl,ik',hlen,is,id⟩) (fun r d3 L3 _ ⟨hdd,hL,cs',hr,hR'⟩=>?_);subst hdd;subst hL;subst hr;obtain⟨e0,e1,e2,e3,e4,e5,rfl⟩:=six hR'.len;(refine A9 rfl<|AH rfl rfl<|AH rfl rfl<|AV (fun _ _=>?_));rename_i b9 T9;refine AA 0 [e0,e1,e2,e3,e4,e5] rfl rfl rfl rfl (No rfl) (AK _ _ _ hR') rfl ?_;by_cases he:(AW vi l[i]).2≠0
  ·rw[if_pos he] at hwk;rw[←hwk];(refine Ab rfl<|Aa<|Ah<|Ac<|Ab rfl<|AB rfl rfl<|Aa<|Au rfl (by omega)<|Ac<|Bz<|Ab rfl ?_);refine AA 2 [vZ 0,vZ 0,vZ 0,Al [],.slice none 0 0,.slice none 0 0] rfl rfl rfl rfl (No rfl) rfl rfl ?_;(refine Ab rfl<|Aa<|Aq ?_);exact E3 2 rfl rfl rfl B7.zero CS
  ·rw[if_neg he] at hwk;(refine Ab rfl<|Aa<|Ah<|Ac<|Ab rfl<|AB rfl rfl<|Aa<|An rfl (by omega)<|Ao<|Ax<|AE 0 rfl rfl rfl ?_);refine Cn _ [bx b4 T4 [vZ 0,vZ 0,vZ 0,Al [],.slice none 0 0,.slice none 0 0],bx b2 T2 [c0,c1,c2,c3,c4,c5]] (Vs.drop (((Xy _).cons _).cons _)) ?_;refine AA 1 [e0,e1,e2,e3,e4,e5] rfl rfl rfl rfl (No rfl) (AK _ _ _ hR') rfl ?_;(refine Aa<|Ax<|AI rfl rfl (by omega) (by omega)<|Ab rfl<|Aa ?_);exact⟨i+1,by omega,⟨rfl,rfl,rfl,rfl,int_eq (by omega),trivial⟩,rfl,hc,_,_,_,_,_,_,_,hR',HP hgi _,hwk,rfl⟩
 ·obtain rfl:i=l.length:=by omega
  rw[XY,B0] at hwk;rw[←hwk];(refine Ac<|Av rfl rfl<|Aa<|Ah<|An rfl (by omega)<|AU<|Ac<|AE 1 rfl rfl rfl ?_);refine AQ rfl (h3 vi hvi (by have:=EM vi;have:=hgi.2;omega)) (fun r d3 L3 _ ⟨hdd,cs',g,hr,hL,ho⟩=>?_);subst hdd;subst hL;subst hr;obtain⟨e0,e1,e2,e3,e4,e5,rfl⟩:=six ho.cells.1;refine AA 1 [e0,e1,e2,e3,e4,e5] rfl rfl rfl rfl (No rfl) ho.cells.2 rfl ?_;(refine Ab rfl<|Aa<|Aq ?_);exact E3 1 rfl rfl rfl ho (Vs.drop ((Xm _).cons_cons _))
end
def toK(ks:List (List UInt8))(k:List UInt8):Nat:=if k∈ks then Bq ks k+1 else Bq ks k
def V5{ks}(h:rising ks=true)(k:List UInt8):Bq ks k≤toK ks k∧toK ks k≤ks.length:=by
 have:=HY ks k;unfold toK;split
 ·rename_i hm;obtain⟨h1,_⟩:=(mem_iff h).1 hm;omega
 ·omega
def F4(v:V)(k:List UInt8)(y:V):V:=.mk 6 0 0 [] (v.list.take (Bq v.keys k)++[y]++v.list.drop (toK v.keys k)) (v.keys.take (Bq v.keys k)++[k]++v.keys.drop (toK v.keys k))
def Mr(P:Program)(f:FuncId):Prop:=∀{d cs es}{v y:V}{k},Aw d cs v→rising v.keys=true→v.keys.length=v.list.length→v.keys.length≤1000000000→k.length≤140737488355328→Aw d es y→
 AY P f [.agg cs.toArray,Al k,.agg es.toArray] d [] (Ret fun r d' L'=>L'=[]∧∃cs',r=.agg cs'.toArray∧Aw d' cs' (F4 v k y))
def Q8{ρ d L}{b t:Nat}{T cs}{w:V}(i:Nat)(e4:ρ t=pZ b)(hi:L[i]?=some (bx b T cs))(hw:Aw d cs w):
  Ch [.cell t (some 6)] (Ret fun r d' L'=>L'=[]∧∃cs',r=.agg cs'.toArray∧Aw d' cs' w) ρ d L:=
 B8 (L':=[]) [.agg cs.toArray] ⟨A4 i e4 hi (Aw.len hw),trivial⟩ (Xm _) ⟨rfl,cs,rfl,hw⟩
def NF(a0 a1 a2:Nat):A0:=⟨36,[(.cell 6 (some 6))],(sR (o1 3 (.box 0)<|o1 5 (.box 2)<|o1 6 (.alo (.agg #[(vZ 0),(vZ 0),(vZ 0),(Al []),(.slice none 0 0),(.slice none 0 0)])) .done) (sR (oj 11 5 3<|ol 12 11<|om 13 1<|oc 14 a0 [12,13]<|om 10 14<|oe 15 10 0<|oe 16 10 1<|om 7 15<|om 8 16 .done) (sR (om 17 7<|om 9 17 .done) (.seq (sR (om 18 8 .done) (.cond 18 (rG (om 19 9<|ob 20 .add 19 z1<|om 9 20 .done)) .skip)) (.seq (.reg true (p1 21 (.fld 5 3)<|pl 22 21<|pm 23 7<|pm 24 9<|pm 25 1<|p1 28 (.fld 4 3)<|pl 29 28<|pm 30 7<|pm 31 9<|p1 32 (.ld (some 6) 5) (.alt ⟨(some 26),none,(.bsl 1 1 [(Al [])] [(0,25)])⟩ (.alt ⟨(some 27),none,(.call a1 [22,23,24,26])⟩ (o1 33 (.bsl 1 6 [(vZ 0),(vZ 0),(vZ 0),(Al []),(.slice none 0 0),(.slice none 0 0)] [(0,32)]) (oc 34 a2 [29,30,31,33] (p1 35 (.bld [(0,1),(1,2),(3,1),(4,1),(5,1)] [(vZ 0),(vZ 0),(vZ 0),(Al []),(.slice none 0 0),(.slice none 0 0)] [(0,(kZ 6)),(4,27),(3,34)]) (.bar (o0 (.st 6 6 35) .done))))) (o1 33 (.bsl 1 6 [(vZ 0),(vZ 0),(vZ 0),(Al []),(.slice none 0 0),(.slice none 0 0)] [(0,32)]) (oc 27 a1 [22,23,24,26] (oc 34 a2 [29,30,31,33] (p1 35 (.bld [(0,1),(1,2),(3,1),(4,1),(5,1)] [(vZ 0),(vZ 0),(vZ 0),(Al []),(.slice none 0 0),(.slice none 0 0)] [(0,(kZ 6)),(4,27),(3,34)]) (.bar (o0 (.st 6 6 35) .done))))))) (o1 33 (.bsl 1 6 [(vZ 0),(vZ 0),(vZ 0),(Al []),(.slice none 0 0),(.slice none 0 0)] [(0,32)]) (o1 26 (.bsl 1 1 [(Al [])] [(0,25)]) (oc 27 a1 [22,23,24,26] (oc 34 a2 [29,30,31,33] (p1 35 (.bld [(0,1),(1,2),(3,1),(4,1),(5,1)] [(vZ 0),(vZ 0),(vZ 0),(Al []),(.slice none 0 0),(.slice none 0 0)] [(0,(kZ 6)),(4,27),(3,34)]) (.bar (o0 (.st 6 6 35) .done)))))))))) .ret)))))⟩
set_option maxHeartbeats 1000000 in
def TH{P:Program}{f f1 f2 f3:FuncId}(hd:dec P f=some (NF f1 f2 f3))(h1:GG P f1)(h2:Gj 1 Bk P f2)(h3:Gj 6 Aw P f3):Mr P f:=by
 intro d cs es v y k hv hr hlen hb hk hy;refine Bf hd (No rfl) ?_;have htk:=V5 hr k;obtain⟨lv,kv,rfl,ik,im,ie,it,hl,hks⟩:=hv.open;obtain⟨la,lc,rfl⟩:=RSl.val hl;obtain⟨ka,kc,rfl⟩:=RSl.val hks;obtain⟨y0,y1,y2,y3,y4,y5,rfl⟩:=six hy.len;show gwp P _ _ _ _ _;apply Ah;apply Ax;refine AR (l:=[vZ v.kind,vZ v.m,vZ v.e,Al v.text,.slice la v.list.length lc,.slice ka v.keys.length kc]) rfl (fun b3 T3=>?_);refine AR (l:=[y0,y1,y2,y3,y4,y5]) rfl (fun b5 T5=>?_);(refine AV (fun _ _=>Aa ?_));rename_i b6 T6;apply Ah;apply Ax;(refine Ag rfl<|Ai rfl (Ak 2 rfl rfl)<|Bj rfl ?_);refine AD rfl (h1 hks hr) ?_;(refine A9 rfl<|AH rfl rfl<|AH rfl rfl<|Ab rfl<|Ad rfl<|Aa ?_);apply Ah;apply Ax;(refine Ab rfl<|Ab rfl<|Aa ?_);refine DY (fun ρ d' L'=>d'=d∧Bi ρ [(1,Al k),(3,pZ b3),(5,pZ b5),(6,pZ b6),(7,vZ (Bq v.keys k:Nat)),(9,vZ (toK v.keys k:Nat))]∧
  L'=[bx b6 T6 [vZ 0,vZ 0,vZ 0,Al [],.slice none 0 0,.slice none 0 0],bx b5 T5 [y0,y1,y2,y3,y4,y5],bx b3 T3 [vZ v.kind,vZ v.m,vZ v.e,Al v.text,.slice la v.list.length lc,.slice ka v.keys.length kc]]) ?_ ?_
 ·have n2:=RSl.A2 hks;have hlk:=HY v.keys k;by_cases hm:k∈v.keys
  ·(refine Ac<|Ad rfl<|Aa<|Au rfl (by omega)<|Ax<|Ab rfl<|AI rfl rfl (by omega) (by omega)<|Ab rfl<|Aa ?_);exact⟨rfl,⟨rfl,rfl,rfl,rfl,rfl,int_eq (by simp[toK,hm]),trivial⟩,rfl⟩
  ·(refine Ac<|Ad rfl<|Aa<|An rfl (by omega)<|Ao ?_);exact⟨rfl,⟨rfl,rfl,rfl,rfl,rfl,int_eq (by simp[toK,hm]),trivial⟩,rfl⟩
 rintro ρ d' L' ⟨hdd,hsl,hL⟩;subst hdd;subst hL;refine BQ _ hsl ?_;clear hsl;generalize hlo:Bq v.keys k=lo at*;generalize hto:toK v.keys k=tq at*;have hF:F4 v k y=.mk 6 0 0 [] (v.list.take lo++[y]++v.list.drop tq) (v.keys.take lo++[k]++v.keys.drop tq):=by rw[F4,hlo,hto]
 rw[hF];have kone:∀{d:Ae}{b:Nat}{T:TypeId},Le (bx b T [Al k]) d→RSl 1 Bk d (.slice (some ⟨b,0,none⟩) 1 1) [k]:=fun h=>(AO.Fx (sz:=1) (R:=Bk) (d:=emp) rfl ⟨rfl,hk⟩).rsl (R:=Bk) O7 (by omega) (fun _ _ h=>h.elim) h;have yone:∀{d d2:Ae}{b:Nat}{T:TypeId},Aw d [y0,y1,y2,y3,y4,y5] y→Le d d2→Le (bx b T [y0,y1,y2,y3,y4,y5]) d2→RSl 6 Aw d2 (.slice (some ⟨b,0,none⟩) 1 1) [y]:=fun h hl hg=>(AO.Fx (sz:=6) (R:=Aw) rfl h).rsl (R:=Aw) GO (by omega) hl hg;apply Ah;refine Bp ?_;(refine Ag rfl<|Ai rfl (Ak 2 rfl rfl)<|Ab rfl<|Ab rfl<|Bj rfl<|Ag rfl<|Ai rfl (Ak 2 rfl rfl)<|Ab rfl<|Ab rfl<|AE 1 rfl rfl rfl ?_);refine Ee ?_ ?_
 ·refine Ef (v0:=Al k) rfl rfl (fun b26 T26=>?_);refine Ee ?_ ?_
  ·refine Bt (fun d1 hl1 hg1=>?_);refine AQ rfl (h2 (B9.mono hks hl1) (kone hg1) htk.1 htk.2 (by simp;omega)) (fun r d2 L2 hl2 ⟨hL,hr2⟩=>?_);subst hL;obtain⟨ra,rc,rfl⟩:=RSl.val hr2;refine Ed rfl rfl (fun b33 T33=>?_);refine Bt (fun d3 hl3 hg3=>?_);refine AQ rfl (h3 (BY.mono hl ((hl1.trans hl2).trans hl3)) (yone (Aw.mono (hl1.trans hl2) hy) hl3 hg3) htk.1 (by omega) (by simp;omega)) (fun r d4 L4 hl4 ⟨hL,hr4⟩=>?_);subst hL;obtain⟨sa,sc,rfl⟩:=RSl.val hr4;(refine II rfl rfl rfl<|Cr ?_);refine AA 0 [vZ 6,vZ 0,vZ 0,Al [],.slice sa _ sc,.slice ra _ rc] rfl rfl rfl rfl (No rfl) rfl rfl ?_;(refine Aa<|Aq ?_);exact Q8 0 rfl rfl (Aw.close (v:=.mk 6 0 0 [] (v.list.take lo++[y]++v.list.drop tq) (v.keys.take lo++[k]++v.keys.drop tq)) JW A3 A3 (by simp) hr4 (B9.mono hr2 (hl3.trans hl4)))
  ·refine Bt (fun d1 hl1 hg1=>?_);refine Ed rfl rfl (fun b33 T33=>?_);refine Bt (fun d2 hl2 hg2=>?_);refine AQ rfl (h2 (B9.mono hks (hl1.trans hl2)) (B9.mono (kone hg1) hl2) htk.1 htk.2 (by simp;omega)) (fun r d3 L2 hl3 ⟨hL,hr2⟩=>?_);subst hL;obtain⟨ra,rc,rfl⟩:=RSl.val hr2;refine AQ rfl (h3 (BY.mono hl ((hl1.trans hl2).trans hl3)) (BY.mono (yone (Aw.mono hl1 hy) hl2 hg2) hl3) htk.1 (by omega) (by simp;omega)) (fun r d4 L4 hl4 ⟨hL,hr4⟩=>?_);subst hL;obtain⟨sa,sc,rfl⟩:=RSl.val hr4;(refine II rfl rfl rfl<|Cr ?_);refine AA 0 [vZ 6,vZ 0,vZ 0,Al [],.slice sa _ sc,.slice ra _ rc] rfl rfl rfl rfl (No rfl) rfl rfl ?_;(refine Aa<|Aq ?_);exact Q8 0 rfl rfl (Aw.close (v:=.mk 6 0 0 [] (v.list.take lo++[y]++v.list.drop tq) (v.keys.take lo++[k]++v.keys.drop tq)) JW A3 A3 (by simp) hr4 (B9.mono hr2 hl4))
 ·refine Ed rfl rfl (fun b33 T33=>?_);refine Bt (fun d1 hl1 hg1=>?_);refine Ef (v0:=Al k) rfl rfl (fun b26 T26=>?_);refine Bt (fun d2 hl2 hg2=>?_);refine AQ rfl (h2 (B9.mono hks (hl1.trans hl2)) (kone hg2) htk.1 htk.2 (by simp;omega)) (fun r d3 L2 hl3 ⟨hL,hr2⟩=>?_);subst hL;obtain⟨ra,rc,rfl⟩:=RSl.val hr2;refine AQ rfl (h3 (BY.mono hl ((hl1.trans hl2).trans hl3)) (BY.mono (yone hy hl1 hg1) (hl2.trans hl3)) htk.1 (by omega) (by simp;omega)) (fun r d4 L4 hl4 ⟨hL,hr4⟩=>?_);subst hL;obtain⟨sa,sc,rfl⟩:=RSl.val hr4;(refine II rfl rfl rfl<|Cr ?_);refine AA 0 [vZ 6,vZ 0,vZ 0,Al [],.slice sa _ sc,.slice ra _ rc] rfl rfl rfl rfl (No rfl) rfl rfl ?_;(refine Aa<|Aq ?_);exact Q8 0 rfl rfl (Aw.close (v:=.mk 6 0 0 [] (v.list.take lo++[y]++v.list.drop tq) (v.keys.take lo++[k]++v.keys.drop tq)) JW A3 A3 (by simp) hr4 (B9.mono hr2 hl4))
def VK{n i:Nat}(hi:i<n):chunk (Bu z6 (n*6)) i 6=z6:=by
 have hl:(Bu z6 (n*6)).length=n*6:=by simp[Bu]
 apply YU;intro j;by_cases hj:j<6
 ·rw[chunk,XH hj,Yn,Bu,List.getElem?_map,List.getElem?_range (by omega)];have e:(i*6+j) % z6.length=j:=by show(i*6+j) % 6=j;omega
  simp only[Option.map_some,e];obtain rfl|rfl|rfl|rfl|rfl|rfl:j=0∨j=1∨j=2∨j=3∨j=4∨j=5:=by omega
  all_goals rfl
 ·rw[X3 (by rw[Nc hl hi];omega),X3 (by simp[z6];omega)]
def MT{d}{b n:Nat}{T}(hn:n≤140737488355328)(h:Le (bx b T (Bu z6 (n*6))) d):RSl 6 Aw d (.slice (some ⟨b,0,none⟩) n n) (XU n V.zero):=by
 have o:BB 6 (.slice (some ⟨b,0,none⟩) n n) n (Bu z6 (n*6)) (bx b T (Bu z6 (n*6))):=BB.lit (by simp[Bu]) hn;refine o.rsl h (by simp) (by omega) (fun i hi=>?_);show Aw d (chunk (Bu z6 (n*6)) i 6) _;rw[VK (by simpa using hi),List.getElem_replicate];exact Aw.zero
def TX(h:BK v=true)(hk:v.kind=0∨v.kind=6):v.keys.length=v.list.length:=by
 rcases hk with hk|hk
 ·have hb:BL v=true:=by simp[BK] at h;exact h.1.1.1.1
  obtain⟨k,m,e,t,l,ks⟩:=v;have hk:k=0:=hk;subst hk;simp[BL,V.kind,V.m,V.e,V.text,V.list,V.keys] at hb;simp[V.keys,V.list,hb]
 ·exact CT h hk
def CQ(l:List V)(n:Nat):List V:=l++XU (n - l.length) V.zero
def CH(v:V)(s:St)(y:V):V×Int:=
 if s.kind=0∧(v.kind=0∨v.kind=6) then(F4 v s.text y,0)
 else if s.kind=1∧(v.kind=0∨v.kind=5) then
  (if BG s.src v.list.length<0∨4095<BG s.src v.list.length then(V.zero,4)
  else(.mk 5 0 0 [] ((CQ v.list ((BG s.src v.list.length).toNat+1)).take (BG s.src v.list.length).toNat++[y]++(CQ v.list ((BG s.src v.list.length).toNat+1)).drop ((BG s.src v.list.length).toNat+1)) [],0))
 else if s.kind=2∧(v.kind=0∨v.kind=5)∧y.kind=5 then(.mk 5 0 0 [] (v.list.take (A5 s v.list.length).1.toNat++y.list++v.list.drop (A5 s v.list.length).2.toNat) [],0)
 else(V.zero,80)
def NS(P:Program)(f:FuncId):Prop:=∀{d cs ds es}{v y:V}{s:St},Aw d cs v→BK v=true→RSt d ds s→Aw d es y→BS v+BS y≤900000000→
 AY P f [.agg cs.toArray,.agg ds.toArray,.agg es.toArray] d [] (Ret fun r d' L'=>L'=[]∧∃cs',r=.tuple #[.agg cs'.toArray,vZ (CH v s y).2]∧Aw d' cs' (CH v s y).1)
def PD(a0 a1 a2 a3:Nat):A0:=⟨118,[(.cell 6 (some 6)),(.tmp 7)],(sR (o1 3 (.box 0)<|o1 4 (.box 1)<|o1 5 (.box 2)<|o1 6 (.alo (.agg #[(vZ 0),(vZ 0),(vZ 0),(Al []),(.slice none 0 0),(.slice none 0 0)]))<|o1 7 (.mv z0) .done) (sR (oj 14 0 3<|ol 15 14<|ob 16 .eql 15 z0<|om 8 16 .done) (.seq (.block 0 (sR (oj 18 0 4<|ol 19 18<|ob 20 .eql 19 z0<|om 21 20<|gT 22 21 8<|gT 23 21 22<|oF 24 23 (.fld 0 3)<|oF 25 23 (.ld none 24)<|oF 26 23 (.bin .eql 25 (kZ 6))<|oT 27 21 (.pick 23 (.const (.bool true)) 26)<|gP 28 21 27<|om 17 28 .done) (.cond 17 (sR (o1 29 (.ld (some 6) 3)<|oj 30 1 4<|ol 31 30<|o1 32 (.ld (some 6) 5)<|oc 33 a0 [29,31,32]<|o0 (.st 6 6 33)<|o1 7 (.mv z0) .done) .ret) (sR (oj 35 0 4<|ol 36 35<|ob 37 .eql 36 z1<|om 38 37<|gT 39 38 8<|gT 40 38 39<|oF 41 40 (.fld 0 3)<|oF 42 40 (.ld none 41)<|oF 43 40 (.bin .eql 42 (kZ 5))<|oT 44 38 (.pick 40 (.const (.bool true)) 43)<|gP 45 38 44<|om 34 45 .done) (.cond 34 (sR (oj 46 2 4<|ol 47 46<|oj 48 4 3<|ol 49 48<|oL 50 49<|oc 51 a1 [47,50]<|om 9 51 .done) (.seq (sR (om 52 9<|ob 53 .lss 52 z0<|om 54 53<|gF 55 54 9<|oF 56 54 (.bin .gtr 55 (kZ 4095))<|o1 57 (.pick 54 (.const (.bool true)) 56) .done) (.cond 57 (sR (o1 58 (.bld [(0,1),(1,2),(3,1),(4,1),(5,1)] [(vZ 0),(vZ 0),(vZ 0),(Al []),(.slice none 0 0),(.slice none 0 0)] [])<|o0 (.st 6 6 58)<|o1 7 (.mv (kZ 4)) .done) .ret) .skip)) (sR (oj 59 4 3<|ol 60 59<|om 10 60 .done) (.seq (sR (om 61 9<|ob 62 .add 61 z1<|om 63 10<|oL 64 63<|ob 65 .sub 62 64<|om 11 65 .done) (sR (om 66 11<|ob 67 .gtr 66 z0 .done) (.cond 67 (rG (om 68 10<|om 69 10<|oL 70 69<|om 71 10<|oL 72 71<|om 73 11<|o1 74 (.mks 6 88 [(vZ 0),(vZ 0),(vZ 0),(Al []),(.slice none 0 0),(.slice none 0 0)] 73 73)<|oc 75 a2 [68,70,72,74]<|om 10 75 .done)) .skip))) (sR (om 76 10<|om 77 9<|om 78 9<|ob 79 .add 78 z1<|o1 80 (.ld (some 6) 5)<|o1 81 (.bsl 1 6 [(vZ 0),(vZ 0),(vZ 0),(Al []),(.slice none 0 0),(.slice none 0 0)] [(0,80)])<|oc 82 a2 [76,77,79,81]<|o1 83 (.bld [(0,1),(1,2),(3,1),(4,1),(5,1)] [(vZ 0),(vZ 0),(vZ 0),(Al []),(.slice none 0 0),(.slice none 0 0)] [(0,(kZ 5)),(3,82)])<|o0 (.st 6 6 83)<|o1 7 (.mv z0) .done) .ret))))) (sR (oj 85 0 4<|ol 86 85<|ob 87 .eql 86 z2<|om 88 87<|gT 89 88 8<|gT 90 88 89<|oF 91 90 (.fld 0 3)<|oF 92 90 (.ld none 91)<|oF 93 90 (.bin .eql 92 (kZ 5))<|oT 94 88 (.pick 90 (.const (.bool true)) 93)<|gP 95 88 94<|om 96 95<|oT 97 96 (.fld 0 5)<|oT 98 96 (.ld none 97)<|oT 99 96 (.bin .eql 98 (kZ 5))<|gP 100 96 99<|om 84 100 .done) (.cond 84 (sR (o1 102 (.ld (some 6) 4)<|oj 103 4 3<|ol 104 103<|oL 105 104<|oc 106 a3 [102,105]<|om 101 106<|oe 107 101 0<|oe 108 101 1<|om 12 107<|om 13 108 .done) (sR (oj 109 4 3<|ol 110 109<|om 111 12<|om 112 13<|oj 113 4 5<|ol 114 113<|oc 115 a2 [110,111,112,114]<|o1 116 (.bld [(0,1),(1,2),(3,1),(4,1),(5,1)] [(vZ 0),(vZ 0),(vZ 0),(Al []),(.slice none 0 0),(.slice none 0 0)] [(0,(kZ 5)),(3,115)])<|o0 (.st 6 6 116)<|o1 7 (.mv z0) .done) .ret)) .skip))))))) (sR (o1 117 (.bld [(0,1),(1,2),(3,1),(4,1),(5,1)] [(vZ 0),(vZ 0),(vZ 0),(Al []),(.slice none 0 0),(.slice none 0 0)] [])<|o0 (.st 6 6 117)<|o1 7 (.mv (kZ 80)) .done) .ret))))⟩
set_option maxHeartbeats 2000000 in
def Wh{P:Program}{f f1 f2 f3 f4:FuncId}(hd:dec P f=some (PD f1 f2 f3 f4))(h1:Mr P f1)(h2:Gr P f2)(h3:Gj 6 Aw P f3)(h4:Jf P f4):NS P f:=by
 intro d cs ds es v y s hv hone hs hy hb;refine Bf hd (No rfl) ?_;have hr:=CK hone;have b1:=E9 (v:=v);have b2':=Kx (v:=v);have b3':=E9 (v:=y);obtain⟨w,e,hF⟩:∃w e,CH v s y=(w,e):=⟨_,_,rfl⟩
 rw[hF];have hs':=hs;obtain⟨hds,ik',it',is,id⟩:=hs';subst hds;have hv0:=hv;have hy0:=hy;obtain⟨lv,kv,rfl,ik,im,ie,it,hl,hks⟩:=hv.open;obtain⟨la,lc,rfl⟩:=RSl.val hl;have hl':RSl 6 Aw d (.slice la v.list.length lc) v.list:=hl;obtain⟨yl,yk,rfl,yik,_,_,_,yhl,_⟩:=hy.open;obtain⟨ya,yc,rfl⟩:=RSl.val yhl;have yone:∀{d d2:Ae}{b:Nat}{T:TypeId},Aw d [vZ y.kind,vZ y.m,vZ y.e,Al y.text,.slice ya y.list.length yc,yk] y→Le d d2→Le (bx b T [vZ y.kind,vZ y.m,vZ y.e,Al y.text,.slice ya y.list.length yc,yk]) d2→RSl 6 Aw d2 (.slice (some ⟨b,0,none⟩) 1 1) [y]:=
  fun h hl hg=>(AO.Fx (sz:=6) (R:=Aw) rfl h).rsl (R:=Aw) GO (by omega) hl hg
 show gwp P _ _ _ _ _;apply Ah;apply Ax;refine AR (l:=[vZ v.kind,vZ v.m,vZ v.e,Al v.text,.slice la v.list.length lc,kv]) rfl (fun b3 T3=>?_);refine AR (l:=[vZ s.kind,Al s.text,vZ s.src,vZ s.dst,.bool s.hf,.bool s.ht]) rfl (fun b4 T4=>?_);refine AR (l:=[vZ y.kind,vZ y.m,vZ y.e,Al y.text,.slice ya y.list.length yc,yk]) rfl (fun b5 T5=>?_);(refine AV (fun _ _=>Ab rfl<|Aa ?_));rename_i b6 T6;by_cases s0:s.kind=0
 ·by_cases hk:v.kind=0∨v.kind=6
  ·rw[CH,if_pos ⟨s0,hk⟩] at hF;cases hF;have hlens:=TX hone hk;by_cases k0:v.kind=0
   ·(refine Ac<|Ag rfl<|Ai rfl (Ak 3 rfl rfl)<|At rfl rfl<|Ad rfl<|Aa<|Ah<|As<|Ac<|Ag rfl<|Ai rfl (Ak 2 rfl rfl)<|At rfl rfl<|Ad rfl<|AF rfl (by omega)<|Af rfl<|Ad rfl<|Af rfl<|Ad rfl<|AF rfl (by omega)<|Aj rfl<|Aj rfl<|Aj rfl<|Af rfl<|Ap rfl rfl<|Ap rfl rfl<|Ad rfl<|Aa<|Bd rfl<|Ac<|AE 3 rfl rfl rfl<|Ag rfl<|Ai rfl (Ak 2 rfl rfl)<|AE 1 rfl rfl rfl ?_);refine AQ rfl (h1 hv0 hr hlens (by omega) it' hy0) (fun r d2 L2 hl2 ⟨hL,cs',hr',hR'⟩=>?_);subst hL;subst hr';obtain⟨e0,e1,e2,e3,e4,e5,rfl⟩:=six hR'.len;refine AA 0 [e0,e1,e2,e3,e4,e5] rfl rfl rfl rfl (No rfl) (AK _ _ _ hR') rfl ?_;(refine Ab rfl<|Aa<|Aq ?_);exact Bx 0 rfl rfl rfl hR'
   by_cases k6:v.kind≠0
   ·(refine Ac<|Ag rfl<|Ai rfl (Ak 3 rfl rfl)<|At rfl rfl<|Ad rfl<|Aa<|Ah<|As<|Ac<|Ag rfl<|Ai rfl (Ak 2 rfl rfl)<|At rfl rfl<|Ad rfl<|AF rfl (by omega)<|Af rfl<|Ad rfl<|Af rfl<|Ad rfl<|Az rfl (by omega)<|Af rfl<|Ag rfl<|Af rfl<|Ai rfl (Ak 3 rfl rfl)<|Af rfl<|At rfl rfl<|Af rfl<|Am rfl rfl<|Ap rfl rfl<|Ad rfl<|Aa<|Au rfl (by omega)<|Ac<|AE 3 rfl rfl rfl<|Ag rfl<|Ai rfl (Ak 2 rfl rfl)<|AE 1 rfl rfl rfl ?_);refine AQ rfl (h1 hv0 hr hlens (by omega) it' hy0) (fun r d2 L2 hl2 ⟨hL,cs',hr',hR'⟩=>?_);subst hL;subst hr';obtain⟨e0,e1,e2,e3,e4,e5,rfl⟩:=six hR'.len;refine AA 0 [e0,e1,e2,e3,e4,e5] rfl rfl rfl rfl (No rfl) (AK _ _ _ hR') rfl ?_;(refine Ab rfl<|Aa<|Aq ?_);exact Bx 0 rfl rfl rfl hR'
   omega
  ·rw[CH,if_neg (fun h=>hk h.2),if_neg (fun h=>by omega),if_neg (fun h=>by omega)] at hF;cases hF;(refine Ac<|Ag rfl<|Ai rfl (Ak 3 rfl rfl)<|At rfl rfl<|Ad rfl<|Aa<|Ah<|As<|Ac<|Ag rfl<|Ai rfl (Ak 2 rfl rfl)<|At rfl rfl<|Ad rfl<|AF rfl (by omega)<|Af rfl<|Ad rfl<|Af rfl<|Ad rfl<|Az rfl (by omega)<|Af rfl<|Ag rfl<|Af rfl<|Ai rfl (Ak 3 rfl rfl)<|Af rfl<|At rfl rfl<|Af rfl<|Am rfl rfl<|Ap rfl rfl<|Ad rfl<|Aa<|An rfl (by omega)<|Ac<|Ag rfl<|Ai rfl (Ak 2 rfl rfl)<|At rfl rfl<|Ad rfl<|Az rfl (by omega)<|Aj rfl<|Aj rfl<|AX rfl<|AX rfl<|AX rfl<|Aj rfl<|Am rfl rfl<|Ad rfl<|Aa<|AJ rfl<|Ac<|Ag rfl<|Ai rfl (Ak 2 rfl rfl)<|At rfl rfl<|Ad rfl<|Az rfl (by omega)<|Aj rfl<|Aj rfl<|AX rfl<|AX rfl<|AX rfl<|Aj rfl<|Am rfl rfl<|Ad rfl<|Aj rfl<|Aj rfl<|Aj rfl<|Am rfl rfl<|Ad rfl<|Aa<|AJ rfl<|Ao<|Ac<|Bz ?_);refine AA 0 [vZ 0,vZ 0,vZ 0,Al [],.slice none 0 0,.slice none 0 0] rfl rfl rfl rfl (No rfl) rfl rfl ?_;(refine Ab rfl<|Aa<|Aq ?_);exact Bx 0 rfl rfl rfl Aw.zero
 by_cases s1:s.kind=1
 ·by_cases hk:v.kind=0∨v.kind=5
  ·rw[CH,if_neg (fun h=>s0 h.1),if_pos ⟨s1,hk⟩] at hF;obtain⟨p,hp⟩:∃p,BG s.src v.list.length=p:=⟨_,rfl⟩
   rw[hp] at hF;by_cases k0:v.kind=0
   ·(refine Ac<|Ag rfl<|Ai rfl (Ak 3 rfl rfl)<|At rfl rfl<|Ad rfl<|Aa<|Ah<|As<|Ac<|Ag rfl<|Ai rfl (Ak 2 rfl rfl)<|At rfl rfl<|Ad rfl<|Az rfl (by omega)<|Aj rfl<|Aj rfl<|AX rfl<|AX rfl<|AX rfl<|Aj rfl<|Am rfl rfl<|Ad rfl<|Aa<|AJ rfl<|Ac<|Ag rfl<|Ai rfl (Ak 2 rfl rfl)<|At rfl rfl<|Ad rfl<|AF rfl (by omega)<|Af rfl<|Ad rfl<|Af rfl<|Ad rfl<|AF rfl (by omega)<|Aj rfl<|Aj rfl<|Aj rfl<|Af rfl<|Ap rfl rfl<|Ap rfl rfl<|Ad rfl<|Aa<|Bd rfl<|Ac<|Ag rfl<|Ai rfl (Ak 2 rfl rfl)<|Ag rfl<|Ai rfl (Ak 3 rfl rfl)<|Ay rfl ?_);refine AD rfl (h2 is (by omega) (by omega)) ?_;rw[hp];by_cases q0:p<0
    ·rw[if_pos (.inl q0)] at hF;cases hF;(refine Ab rfl<|Aa<|Ah<|Ac<|Ab rfl<|Av rfl rfl<|Ad rfl<|AF rfl (by omega)<|Aj rfl<|Aj rfl<|Ap rfl rfl<|Aa<|Bd rfl<|Ac<|Bz ?_);refine AA 0 [vZ 0,vZ 0,vZ 0,Al [],.slice none 0 0,.slice none 0 0] rfl rfl rfl rfl (No rfl) rfl rfl ?_;(refine Ab rfl<|Aa<|Aq ?_);exact Bx 0 rfl rfl rfl Aw.zero
    by_cases q1:p>4095
    ·rw[if_pos (.inr q1)] at hF;cases hF;(refine Ab rfl<|Aa<|Ah<|Ac<|Ab rfl<|Av rfl rfl<|Ad rfl<|Az rfl (by omega)<|Af rfl<|Ab rfl<|Af rfl<|AM rfl rfl<|Am rfl rfl<|Aa<|Au rfl (by omega)<|Ac<|Bz ?_);refine AA 0 [vZ 0,vZ 0,vZ 0,Al [],.slice none 0 0,.slice none 0 0] rfl rfl rfl rfl (No rfl) rfl rfl ?_;(refine Ab rfl<|Aa<|Aq ?_);exact Bx 0 rfl rfl rfl Aw.zero
    rw[if_neg (fun h=>by omega)] at hF;cases hF;obtain⟨n,rfl⟩:∃n:Nat,p=(n:Int):=⟨p.toNat,by omega⟩
    simp only[XO];have hpl:(CQ v.list (n+1)).length=v.list.length+(n+1 - v.list.length):=by simp[CQ]
    by_cases q2:v.list.length<n+1
    ·(refine Ab rfl<|Aa<|Ah<|Ac<|Ab rfl<|Av rfl rfl<|Ad rfl<|Az rfl (by omega)<|Af rfl<|Ab rfl<|Af rfl<|AM rfl rfl<|Am rfl rfl<|Aa<|An rfl (by omega)<|Ao<|Ac<|Ag rfl<|Ai rfl (Ak 3 rfl rfl)<|Ar rfl<|Aa<|Ah<|Ac<|Ab rfl<|AI rfl rfl (by omega) (by omega)<|Ar rfl<|Ay rfl<|Bw rfl rfl (by omega) (by omega)<|Ab rfl<|Aa<|Ac<|Ab rfl<|AM rfl rfl<|Aa<|Au rfl (by omega)<|Ax<|Ar rfl<|Ar rfl<|Ay rfl<|Ar rfl<|Ay rfl<|Ab rfl ?_);refine NP (n:=n+1 - v.list.length) (c:=n+1 - v.list.length) (int_eq (by omega)) (int_eq (by omega)) (Xq _) (by omega) (by omega) (fun b74 T74=>?_);refine Bt (fun d1 hl1 hg1=>?_);have hz:=MT (by omega) hg1;refine AQ rfl (h3 (BY.mono hl hl1) hz (Xq _) (Xq _) (by simp;omega)) (fun r d2 L2 hl2 ⟨hL,hr2⟩=>?_);subst hL;have hr3:RSl 6 Aw d2 r (CQ v.list (n+1)):=by rw[Xz,XY,XA] at hr2;exact hr2
     obtain⟨ra,rc,rfl⟩:=RSl.val hr3;(refine Ar rfl<|Aa<|Ac<|Ar rfl<|Ab rfl<|Ab rfl<|AI rfl rfl (by omega) (by omega)<|AE 1 rfl rfl rfl ?_);refine Ed rfl rfl (fun b81 T81=>?_);refine Bt (fun d3 hl3 hg3=>?_);refine AQ rfl (h3 (i:=n) (j:=n+1) (BY.mono hr3 hl3) (yone (Aw.mono (hl1.trans hl2) hy0) hl3 hg3) (by omega) (by omega) (by simp only[XI];omega)) (fun r d4 L4 hl4 ⟨hL,hr4⟩=>?_);subst hL;obtain⟨sa,sc,rfl⟩:=RSl.val hr4;(apply Ep;rfl;rfl);refine AA 0 [vZ 5,vZ 0,vZ 0,Al [],.slice sa _ sc,.slice none 0 0] rfl rfl rfl rfl (No rfl) rfl rfl ?_;(refine Ab rfl<|Aa<|Aq ?_);exact Bx 0 rfl rfl rfl (Aw.close (v:=.mk 5 0 0 [] ((CQ v.list (n+1)).take n++[y]++(CQ v.list (n+1)).drop (n+1)) []) EZ A3 A3 (by simp) hr4 RSl.nil)
    ·have hpe:CQ v.list (n+1)=v.list:=by simp[CQ,show n+1 - v.list.length=0 by omega]
     rw[hpe];(refine Ab rfl<|Aa<|Ah<|Ac<|Ab rfl<|Av rfl rfl<|Ad rfl<|Az rfl (by omega)<|Af rfl<|Ab rfl<|Af rfl<|AM rfl rfl<|Am rfl rfl<|Aa<|An rfl (by omega)<|Ao<|Ac<|Ag rfl<|Ai rfl (Ak 3 rfl rfl)<|Ar rfl<|Aa<|Ah<|Ac<|Ab rfl<|AI rfl rfl (by omega) (by omega)<|Ar rfl<|Ay rfl<|Bw rfl rfl (by omega) (by omega)<|Ab rfl<|Aa<|Ac<|Ab rfl<|AM rfl rfl<|Aa<|An rfl (by omega)<|Ao<|Ac<|Ar rfl<|Ab rfl<|Ab rfl<|AI rfl rfl (by omega) (by omega)<|AE 1 rfl rfl rfl ?_);refine Ed rfl rfl (fun b81 T81=>?_);refine Bt (fun d3 hl3 hg3=>?_);refine AQ rfl (h3 (i:=n) (j:=n+1) (BY.mono hl hl3) (yone hy0 hl3 hg3) (by omega) (by omega) (by simp only[XI];omega)) (fun r d4 L4 hl4 ⟨hL,hr4⟩=>?_);subst hL;obtain⟨sa,sc,rfl⟩:=RSl.val hr4;(apply Ep;rfl;rfl);refine AA 0 [vZ 5,vZ 0,vZ 0,Al [],.slice sa _ sc,.slice none 0 0] rfl rfl rfl rfl (No rfl) rfl rfl ?_;(refine Ab rfl<|Aa<|Aq ?_);exact Bx 0 rfl rfl rfl (Aw.close (v:=.mk 5 0 0 [] (v.list.take n++[y]++v.list.drop (n+1)) []) EZ A3 A3 (by simp) hr4 RSl.nil)
   by_cases k6:v.kind≠0
   ·(refine Ac<|Ag rfl<|Ai rfl (Ak 3 rfl rfl)<|At rfl rfl<|Ad rfl<|Aa<|Ah<|As<|Ac<|Ag rfl<|Ai rfl (Ak 2 rfl rfl)<|At rfl rfl<|Ad rfl<|Az rfl (by omega)<|Aj rfl<|Aj rfl<|AX rfl<|AX rfl<|AX rfl<|Aj rfl<|Am rfl rfl<|Ad rfl<|Aa<|AJ rfl<|Ac<|Ag rfl<|Ai rfl (Ak 2 rfl rfl)<|At rfl rfl<|Ad rfl<|AF rfl (by omega)<|Af rfl<|Ad rfl<|Af rfl<|Ad rfl<|Az rfl (by omega)<|Af rfl<|Ag rfl<|Af rfl<|Ai rfl (Ak 3 rfl rfl)<|Af rfl<|At rfl rfl<|Af rfl<|Am rfl rfl<|Ap rfl rfl<|Ad rfl<|Aa<|Au rfl (by omega)<|Ac<|Ag rfl<|Ai rfl (Ak 2 rfl rfl)<|Ag rfl<|Ai rfl (Ak 3 rfl rfl)<|Ay rfl ?_);refine AD rfl (h2 is (by omega) (by omega)) ?_;rw[hp];by_cases q0:p<0
    ·rw[if_pos (.inl q0)] at hF;cases hF;(refine Ab rfl<|Aa<|Ah<|Ac<|Ab rfl<|Av rfl rfl<|Ad rfl<|AF rfl (by omega)<|Aj rfl<|Aj rfl<|Ap rfl rfl<|Aa<|Bd rfl<|Ac<|Bz ?_);refine AA 0 [vZ 0,vZ 0,vZ 0,Al [],.slice none 0 0,.slice none 0 0] rfl rfl rfl rfl (No rfl) rfl rfl ?_;(refine Ab rfl<|Aa<|Aq ?_);exact Bx 0 rfl rfl rfl Aw.zero
    by_cases q1:p>4095
    ·rw[if_pos (.inr q1)] at hF;cases hF;(refine Ab rfl<|Aa<|Ah<|Ac<|Ab rfl<|Av rfl rfl<|Ad rfl<|Az rfl (by omega)<|Af rfl<|Ab rfl<|Af rfl<|AM rfl rfl<|Am rfl rfl<|Aa<|Au rfl (by omega)<|Ac<|Bz ?_);refine AA 0 [vZ 0,vZ 0,vZ 0,Al [],.slice none 0 0,.slice none 0 0] rfl rfl rfl rfl (No rfl) rfl rfl ?_;(refine Ab rfl<|Aa<|Aq ?_);exact Bx 0 rfl rfl rfl Aw.zero
    rw[if_neg (fun h=>by omega)] at hF;cases hF;obtain⟨n,rfl⟩:∃n:Nat,p=(n:Int):=⟨p.toNat,by omega⟩
    simp only[XO];have hpl:(CQ v.list (n+1)).length=v.list.length+(n+1 - v.list.length):=by simp[CQ]
    by_cases q2:v.list.length<n+1
    ·(refine Ab rfl<|Aa<|Ah<|Ac<|Ab rfl<|Av rfl rfl<|Ad rfl<|Az rfl (by omega)<|Af rfl<|Ab rfl<|Af rfl<|AM rfl rfl<|Am rfl rfl<|Aa<|An rfl (by omega)<|Ao<|Ac<|Ag rfl<|Ai rfl (Ak 3 rfl rfl)<|Ar rfl<|Aa<|Ah<|Ac<|Ab rfl<|AI rfl rfl (by omega) (by omega)<|Ar rfl<|Ay rfl<|Bw rfl rfl (by omega) (by omega)<|Ab rfl<|Aa<|Ac<|Ab rfl<|AM rfl rfl<|Aa<|Au rfl (by omega)<|Ax<|Ar rfl<|Ar rfl<|Ay rfl<|Ar rfl<|Ay rfl<|Ab rfl ?_);refine NP (n:=n+1 - v.list.length) (c:=n+1 - v.list.length) (int_eq (by omega)) (int_eq (by omega)) (Xq _) (by omega) (by omega) (fun b74 T74=>?_);refine Bt (fun d1 hl1 hg1=>?_);have hz:=MT (by omega) hg1;refine AQ rfl (h3 (BY.mono hl hl1) hz (Xq _) (Xq _) (by simp;omega)) (fun r d2 L2 hl2 ⟨hL,hr2⟩=>?_);subst hL;have hr3:RSl 6 Aw d2 r (CQ v.list (n+1)):=by rw[Xz,XY,XA] at hr2;exact hr2
     obtain⟨ra,rc,rfl⟩:=RSl.val hr3;(refine Ar rfl<|Aa<|Ac<|Ar rfl<|Ab rfl<|Ab rfl<|AI rfl rfl (by omega) (by omega)<|AE 1 rfl rfl rfl ?_);refine Ed rfl rfl (fun b81 T81=>?_);refine Bt (fun d3 hl3 hg3=>?_);refine AQ rfl (h3 (i:=n) (j:=n+1) (BY.mono hr3 hl3) (yone (Aw.mono (hl1.trans hl2) hy0) hl3 hg3) (by omega) (by omega) (by simp only[XI];omega)) (fun r d4 L4 hl4 ⟨hL,hr4⟩=>?_);subst hL;obtain⟨sa,sc,rfl⟩:=RSl.val hr4;(apply Ep;rfl;rfl);refine AA 0 [vZ 5,vZ 0,vZ 0,Al [],.slice sa _ sc,.slice none 0 0] rfl rfl rfl rfl (No rfl) rfl rfl ?_;(refine Ab rfl<|Aa<|Aq ?_);exact Bx 0 rfl rfl rfl (Aw.close (v:=.mk 5 0 0 [] ((CQ v.list (n+1)).take n++[y]++(CQ v.list (n+1)).drop (n+1)) []) EZ A3 A3 (by simp) hr4 RSl.nil)
    ·have hpe:CQ v.list (n+1)=v.list:=by simp[CQ,show n+1 - v.list.length=0 by omega]
     rw[hpe];(refine Ab rfl<|Aa<|Ah<|Ac<|Ab rfl<|Av rfl rfl<|Ad rfl<|Az rfl (by omega)<|Af rfl<|Ab rfl<|Af rfl<|AM rfl rfl<|Am rfl rfl<|Aa<|An rfl (by omega)<|Ao<|Ac<|Ag rfl<|Ai rfl (Ak 3 rfl rfl)<|Ar rfl<|Aa<|Ah<|Ac<|Ab rfl<|AI rfl rfl (by omega) (by omega)<|Ar rfl<|Ay rfl<|Bw rfl rfl (by omega) (by omega)<|Ab rfl<|Aa<|Ac<|Ab rfl<|AM rfl rfl<|Aa<|An rfl (by omega)<|Ao<|Ac<|Ar rfl<|Ab rfl<|Ab rfl<|AI rfl rfl (by omega) (by omega)<|AE 1 rfl rfl rfl ?_);refine Ed rfl rfl (fun b81 T81=>?_);refine Bt (fun d3 hl3 hg3=>?_);refine AQ rfl (h3 (i:=n) (j:=n+1) (BY.mono hl hl3) (yone hy0 hl3 hg3) (by omega) (by omega) (by simp only[XI];omega)) (fun r d4 L4 hl4 ⟨hL,hr4⟩=>?_);subst hL;obtain⟨sa,sc,rfl⟩:=RSl.val hr4;(apply Ep;rfl;rfl);refine AA 0 [vZ 5,vZ 0,vZ 0,Al [],.slice sa _ sc,.slice none 0 0] rfl rfl rfl rfl (No rfl) rfl rfl ?_;(refine Ab rfl<|Aa<|Aq ?_);exact Bx 0 rfl rfl rfl (Aw.close (v:=.mk 5 0 0 [] (v.list.take n++[y]++v.list.drop (n+1)) []) EZ A3 A3 (by simp) hr4 RSl.nil)
   omega
  ·rw[CH,if_neg (fun h=>s0 h.1),if_neg (fun h=>hk h.2),if_neg (fun h=>by omega)] at hF;cases hF;(refine Ac<|Ag rfl<|Ai rfl (Ak 3 rfl rfl)<|At rfl rfl<|Ad rfl<|Aa<|Ah<|As<|Ac<|Ag rfl<|Ai rfl (Ak 2 rfl rfl)<|At rfl rfl<|Ad rfl<|Az rfl (by omega)<|Aj rfl<|Aj rfl<|AX rfl<|AX rfl<|AX rfl<|Aj rfl<|Am rfl rfl<|Ad rfl<|Aa<|AJ rfl<|Ac<|Ag rfl<|Ai rfl (Ak 2 rfl rfl)<|At rfl rfl<|Ad rfl<|AF rfl (by omega)<|Af rfl<|Ad rfl<|Af rfl<|Ad rfl<|Az rfl (by omega)<|Af rfl<|Ag rfl<|Af rfl<|Ai rfl (Ak 3 rfl rfl)<|Af rfl<|At rfl rfl<|Af rfl<|Am rfl rfl<|Ap rfl rfl<|Ad rfl<|Aa<|An rfl (by omega)<|Ac<|Ag rfl<|Ai rfl (Ak 2 rfl rfl)<|At rfl rfl<|Ad rfl<|Az rfl (by omega)<|Aj rfl<|Aj rfl<|AX rfl<|AX rfl<|AX rfl<|Aj rfl<|Am rfl rfl<|Ad rfl<|Aj rfl<|Aj rfl<|Aj rfl<|Am rfl rfl<|Ad rfl<|Aa<|AJ rfl<|Ao<|Ac<|Bz ?_);refine AA 0 [vZ 0,vZ 0,vZ 0,Al [],.slice none 0 0,.slice none 0 0] rfl rfl rfl rfl (No rfl) rfl rfl ?_;(refine Ab rfl<|Aa<|Aq ?_);exact Bx 0 rfl rfl rfl Aw.zero
 by_cases s2:s.kind=2
 ·by_cases hk:v.kind=0∨v.kind=5
  ·have hk2:=hk;by_cases k0:v.kind=0
   ·by_cases y5:y.kind=5
    ·rw[CH,if_neg (fun h=>s0 h.1),if_neg (fun h=>s1 h.1),if_pos ⟨s2,hk,y5⟩] at hF;cases hF;have hends:=EE s (k:=v.list.length) (by omega);have n1:=RSl.A2 hl;(refine Ac<|Ag rfl<|Ai rfl (Ak 3 rfl rfl)<|At rfl rfl<|Ad rfl<|Aa<|Ah<|As<|Ac<|Ag rfl<|Ai rfl (Ak 2 rfl rfl)<|At rfl rfl<|Ad rfl<|Az rfl (by omega)<|Aj rfl<|Aj rfl<|AX rfl<|AX rfl<|AX rfl<|Aj rfl<|Am rfl rfl<|Ad rfl<|Aa<|AJ rfl<|Ac<|Ag rfl<|Ai rfl (Ak 2 rfl rfl)<|At rfl rfl<|Ad rfl<|Az rfl (by omega)<|Aj rfl<|Aj rfl<|AX rfl<|AX rfl<|AX rfl<|Aj rfl<|Am rfl rfl<|Ad rfl<|Aa<|AJ rfl<|Ac<|Ag rfl<|Ai rfl (Ak 2 rfl rfl)<|At rfl rfl<|Ad rfl<|AF rfl (by omega)<|Af rfl<|Ad rfl<|Af rfl<|Ad rfl<|AF rfl (by omega)<|Aj rfl<|Aj rfl<|Aj rfl<|Af rfl<|Ap rfl rfl<|Ap rfl rfl<|Ad rfl<|Af rfl<|Ag rfl<|Af rfl<|Ai rfl (Ak 1 rfl rfl)<|Af rfl<|At rfl rfl<|Ap rfl rfl<|Ad rfl<|Aa<|Au rfl (by omega)<|Ac<|AE 2 rfl rfl rfl<|Ag rfl<|Ai rfl (Ak 3 rfl rfl)<|Ay rfl ?_);refine AD rfl (h4 hs (by omega) (by omega)) ?_;obtain⟨A,B,hab⟩:∃A B:Int,A5 s v.list.length=(A,B):=⟨_,_,rfl⟩
     rw[hab] at hends⊢;simp only at hends⊢;obtain⟨a,rfl⟩:∃a:Nat,A=(a:Int):=⟨A.toNat,by omega⟩
     obtain⟨b,rfl⟩:∃b:Nat,B=(b:Int):=⟨B.toNat,by omega⟩
     simp only[XO];(refine A9 rfl<|AH rfl rfl<|AH rfl rfl<|Ab rfl<|Ab rfl<|Aa<|Ac<|Ag rfl<|Ai rfl (Ak 3 rfl rfl)<|Ab rfl<|Ab rfl<|Ag rfl<|Ai rfl (Ak 1 rfl rfl) ?_);refine AQ rfl (h3 (i:=a) (j:=b) hl yhl (by omega) (by omega) (by omega)) (fun r d4 L4 hl4 ⟨hL,hr4⟩=>?_);subst hL;obtain⟨sa,sc,rfl⟩:=RSl.val hr4;(apply Ep;rfl;rfl);refine AA 0 [vZ 5,vZ 0,vZ 0,Al [],.slice sa _ sc,.slice none 0 0] rfl rfl rfl rfl (No rfl) rfl rfl ?_;(refine Ab rfl<|Aa<|Aq ?_);exact Bx 0 rfl rfl rfl (Aw.close (v:=.mk 5 0 0 [] (v.list.take a++y.list++v.list.drop b) []) EZ A3 A3 (by simp) hr4 RSl.nil)
    ·rw[CH,if_neg (fun h=>s0 h.1),if_neg (fun h=>s1 h.1),if_neg (fun h=>y5 h.2.2)] at hF;cases hF;(refine Ac<|Ag rfl<|Ai rfl (Ak 3 rfl rfl)<|At rfl rfl<|Ad rfl<|Aa<|Ah<|As<|Ac<|Ag rfl<|Ai rfl (Ak 2 rfl rfl)<|At rfl rfl<|Ad rfl<|Az rfl (by omega)<|Aj rfl<|Aj rfl<|AX rfl<|AX rfl<|AX rfl<|Aj rfl<|Am rfl rfl<|Ad rfl<|Aa<|AJ rfl<|Ac<|Ag rfl<|Ai rfl (Ak 2 rfl rfl)<|At rfl rfl<|Ad rfl<|Az rfl (by omega)<|Aj rfl<|Aj rfl<|AX rfl<|AX rfl<|AX rfl<|Aj rfl<|Am rfl rfl<|Ad rfl<|Aa<|AJ rfl<|Ac<|Ag rfl<|Ai rfl (Ak 2 rfl rfl)<|At rfl rfl<|Ad rfl<|AF rfl (by omega)<|Af rfl<|Ad rfl<|Af rfl<|Ad rfl<|AF rfl (by omega)<|Aj rfl<|Aj rfl<|Aj rfl<|Af rfl<|Ap rfl rfl<|Ap rfl rfl<|Ad rfl<|Af rfl<|Ag rfl<|Af rfl<|Ai rfl (Ak 1 rfl rfl)<|Af rfl<|At rfl rfl<|Ap rfl rfl<|Ad rfl<|Aa<|An rfl (by omega)<|Ao<|Ac<|Bz ?_);refine AA 0 [vZ 0,vZ 0,vZ 0,Al [],.slice none 0 0,.slice none 0 0] rfl rfl rfl rfl (No rfl) rfl rfl ?_;(refine Ab rfl<|Aa<|Aq ?_);exact Bx 0 rfl rfl rfl Aw.zero
   by_cases k6:v.kind≠0
   ·by_cases y5:y.kind=5
    ·rw[CH,if_neg (fun h=>s0 h.1),if_neg (fun h=>s1 h.1),if_pos ⟨s2,hk,y5⟩] at hF;cases hF;have hends:=EE s (k:=v.list.length) (by omega);have n1:=RSl.A2 hl;(refine Ac<|Ag rfl<|Ai rfl (Ak 3 rfl rfl)<|At rfl rfl<|Ad rfl<|Aa<|Ah<|As<|Ac<|Ag rfl<|Ai rfl (Ak 2 rfl rfl)<|At rfl rfl<|Ad rfl<|Az rfl (by omega)<|Aj rfl<|Aj rfl<|AX rfl<|AX rfl<|AX rfl<|Aj rfl<|Am rfl rfl<|Ad rfl<|Aa<|AJ rfl<|Ac<|Ag rfl<|Ai rfl (Ak 2 rfl rfl)<|At rfl rfl<|Ad rfl<|Az rfl (by omega)<|Aj rfl<|Aj rfl<|AX rfl<|AX rfl<|AX rfl<|Aj rfl<|Am rfl rfl<|Ad rfl<|Aa<|AJ rfl<|Ac<|Ag rfl<|Ai rfl (Ak 2 rfl rfl)<|At rfl rfl<|Ad rfl<|AF rfl (by omega)<|Af rfl<|Ad rfl<|Af rfl<|Ad rfl<|Az rfl (by omega)<|Af rfl<|Ag rfl<|Af rfl<|Ai rfl (Ak 3 rfl rfl)<|Af rfl<|At rfl rfl<|Af rfl<|Am rfl rfl<|Ap rfl rfl<|Ad rfl<|AF rfl (by omega)<|Af rfl<|Ag rfl<|Af rfl<|Ai rfl (Ak 1 rfl rfl)<|Af rfl<|At rfl rfl<|Ap rfl rfl<|Ad rfl<|Aa<|Au rfl (by omega)<|Ac<|AE 2 rfl rfl rfl<|Ag rfl<|Ai rfl (Ak 3 rfl rfl)<|Ay rfl ?_);refine AD rfl (h4 hs (by omega) (by omega)) ?_;obtain⟨A,B,hab⟩:∃A B:Int,A5 s v.list.length=(A,B):=⟨_,_,rfl⟩
     rw[hab] at hends⊢;simp only at hends⊢;obtain⟨a,rfl⟩:∃a:Nat,A=(a:Int):=⟨A.toNat,by omega⟩
     obtain⟨b,rfl⟩:∃b:Nat,B=(b:Int):=⟨B.toNat,by omega⟩
     simp only[XO];(refine A9 rfl<|AH rfl rfl<|AH rfl rfl<|Ab rfl<|Ab rfl<|Aa<|Ac<|Ag rfl<|Ai rfl (Ak 3 rfl rfl)<|Ab rfl<|Ab rfl<|Ag rfl<|Ai rfl (Ak 1 rfl rfl) ?_);refine AQ rfl (h3 (i:=a) (j:=b) hl yhl (by omega) (by omega) (by omega)) (fun r d4 L4 hl4 ⟨hL,hr4⟩=>?_);subst hL;obtain⟨sa,sc,rfl⟩:=RSl.val hr4;(apply Ep;rfl;rfl);refine AA 0 [vZ 5,vZ 0,vZ 0,Al [],.slice sa _ sc,.slice none 0 0] rfl rfl rfl rfl (No rfl) rfl rfl ?_;(refine Ab rfl<|Aa<|Aq ?_);exact Bx 0 rfl rfl rfl (Aw.close (v:=.mk 5 0 0 [] (v.list.take a++y.list++v.list.drop b) []) EZ A3 A3 (by simp) hr4 RSl.nil)
    ·rw[CH,if_neg (fun h=>s0 h.1),if_neg (fun h=>s1 h.1),if_neg (fun h=>y5 h.2.2)] at hF;cases hF;(refine Ac<|Ag rfl<|Ai rfl (Ak 3 rfl rfl)<|At rfl rfl<|Ad rfl<|Aa<|Ah<|As<|Ac<|Ag rfl<|Ai rfl (Ak 2 rfl rfl)<|At rfl rfl<|Ad rfl<|Az rfl (by omega)<|Aj rfl<|Aj rfl<|AX rfl<|AX rfl<|AX rfl<|Aj rfl<|Am rfl rfl<|Ad rfl<|Aa<|AJ rfl<|Ac<|Ag rfl<|Ai rfl (Ak 2 rfl rfl)<|At rfl rfl<|Ad rfl<|Az rfl (by omega)<|Aj rfl<|Aj rfl<|AX rfl<|AX rfl<|AX rfl<|Aj rfl<|Am rfl rfl<|Ad rfl<|Aa<|AJ rfl<|Ac<|Ag rfl<|Ai rfl (Ak 2 rfl rfl)<|At rfl rfl<|Ad rfl<|AF rfl (by omega)<|Af rfl<|Ad rfl<|Af rfl<|Ad rfl<|Az rfl (by omega)<|Af rfl<|Ag rfl<|Af rfl<|Ai rfl (Ak 3 rfl rfl)<|Af rfl<|At rfl rfl<|Af rfl<|Am rfl rfl<|Ap rfl rfl<|Ad rfl<|AF rfl (by omega)<|Af rfl<|Ag rfl<|Af rfl<|Ai rfl (Ak 1 rfl rfl)<|Af rfl<|At rfl rfl<|Ap rfl rfl<|Ad rfl<|Aa<|An rfl (by omega)<|Ao<|Ac<|Bz ?_);refine AA 0 [vZ 0,vZ 0,vZ 0,Al [],.slice none 0 0,.slice none 0 0] rfl rfl rfl rfl (No rfl) rfl rfl ?_;(refine Ab rfl<|Aa<|Aq ?_);exact Bx 0 rfl rfl rfl Aw.zero
   omega
  ·rw[CH,if_neg (fun h=>s0 h.1),if_neg (fun h=>s1 h.1),if_neg (fun h=>hk h.2.1)] at hF;cases hF;(refine Ac<|Ag rfl<|Ai rfl (Ak 3 rfl rfl)<|At rfl rfl<|Ad rfl<|Aa<|Ah<|As<|Ac<|Ag rfl<|Ai rfl (Ak 2 rfl rfl)<|At rfl rfl<|Ad rfl<|Az rfl (by omega)<|Aj rfl<|Aj rfl<|AX rfl<|AX rfl<|AX rfl<|Aj rfl<|Am rfl rfl<|Ad rfl<|Aa<|AJ rfl<|Ac<|Ag rfl<|Ai rfl (Ak 2 rfl rfl)<|At rfl rfl<|Ad rfl<|Az rfl (by omega)<|Aj rfl<|Aj rfl<|AX rfl<|AX rfl<|AX rfl<|Aj rfl<|Am rfl rfl<|Ad rfl<|Aa<|AJ rfl<|Ac<|Ag rfl<|Ai rfl (Ak 2 rfl rfl)<|At rfl rfl<|Ad rfl<|AF rfl (by omega)<|Af rfl<|Ad rfl<|Af rfl<|Ad rfl<|Az rfl (by omega)<|Af rfl<|Ag rfl<|Af rfl<|Ai rfl (Ak 3 rfl rfl)<|Af rfl<|At rfl rfl<|Af rfl<|Am rfl rfl<|Ap rfl rfl<|Ad rfl<|Az rfl (by omega)<|Aj rfl<|Aj rfl<|Aj rfl<|Am rfl rfl<|Ad rfl<|Aa<|AJ rfl<|Ao<|Ac<|Bz ?_);refine AA 0 [vZ 0,vZ 0,vZ 0,Al [],.slice none 0 0,.slice none 0 0] rfl rfl rfl rfl (No rfl) rfl rfl ?_;(refine Ab rfl<|Aa<|Aq ?_);exact Bx 0 rfl rfl rfl Aw.zero
 rw[CH,if_neg (fun h=>s0 h.1),if_neg (fun h=>s1 h.1),if_neg (fun h=>s2 h.1)] at hF;cases hF;by_cases k0:v.kind=0
 ·(refine Ac<|Ag rfl<|Ai rfl (Ak 3 rfl rfl)<|At rfl rfl<|Ad rfl<|Aa<|Ah<|As<|Ac<|Ag rfl<|Ai rfl (Ak 2 rfl rfl)<|At rfl rfl<|Ad rfl<|Az rfl (by omega)<|Aj rfl<|Aj rfl<|AX rfl<|AX rfl<|AX rfl<|Aj rfl<|Am rfl rfl<|Ad rfl<|Aa<|AJ rfl<|Ac<|Ag rfl<|Ai rfl (Ak 2 rfl rfl)<|At rfl rfl<|Ad rfl<|Az rfl (by omega)<|Aj rfl<|Aj rfl<|AX rfl<|AX rfl<|AX rfl<|Aj rfl<|Am rfl rfl<|Ad rfl<|Aa<|AJ rfl<|Ac<|Ag rfl<|Ai rfl (Ak 2 rfl rfl)<|At rfl rfl<|Ad rfl<|Az rfl (by omega)<|Aj rfl<|Aj rfl<|AX rfl<|AX rfl<|AX rfl<|Aj rfl<|Am rfl rfl<|Ad rfl<|Aj rfl<|Aj rfl<|Aj rfl<|Am rfl rfl<|Ad rfl<|Aa<|AJ rfl<|Ao<|Ac<|Bz ?_);refine AA 0 [vZ 0,vZ 0,vZ 0,Al [],.slice none 0 0,.slice none 0 0] rfl rfl rfl rfl (No rfl) rfl rfl ?_;(refine Ab rfl<|Aa<|Aq ?_);exact Bx 0 rfl rfl rfl Aw.zero
 ·(refine Ac<|Ag rfl<|Ai rfl (Ak 3 rfl rfl)<|At rfl rfl<|Ad rfl<|Aa<|Ah<|As<|Ac<|Ag rfl<|Ai rfl (Ak 2 rfl rfl)<|At rfl rfl<|Ad rfl<|Az rfl (by omega)<|Aj rfl<|Aj rfl<|AX rfl<|AX rfl<|AX rfl<|Aj rfl<|Am rfl rfl<|Ad rfl<|Aa<|AJ rfl<|Ac<|Ag rfl<|Ai rfl (Ak 2 rfl rfl)<|At rfl rfl<|Ad rfl<|Az rfl (by omega)<|Aj rfl<|Aj rfl<|AX rfl<|AX rfl<|AX rfl<|Aj rfl<|Am rfl rfl<|Ad rfl<|Aa<|AJ rfl<|Ac<|Ag rfl<|Ai rfl (Ak 2 rfl rfl)<|At rfl rfl<|Ad rfl<|Az rfl (by omega)<|Aj rfl<|Aj rfl<|AX rfl<|AX rfl<|AX rfl<|Aj rfl<|Am rfl rfl<|Ad rfl<|Aj rfl<|Aj rfl<|Aj rfl<|Am rfl rfl<|Ad rfl<|Aa<|AJ rfl<|Ao<|Ac<|Bz ?_);refine AA 0 [vZ 0,vZ 0,vZ 0,Al [],.slice none 0 0,.slice none 0 0] rfl rfl rfl rfl (No rfl) rfl rfl ?_;(refine Ab rfl<|Aa<|Aq ?_);exact Bx 0 rfl rfl rfl Aw.zero
def Cg:V→List St→V→V×Int
 |_,[],x=>(x,0)
 |v,s::l,x=>if (AW v s).2≠0 then(V.zero,(AW v s).2) else if (Cg (AW v s).1 l x).2≠0 then(V.zero,(Cg (AW v s).1 l x).2) else CH v s (Cg (AW v s).1 l x).1
def Eh(v:V)(s:St):BD (AW v s).1≤BD v:=by
 have h3:=BV v;have hz:BD V.zero=1:=by decide
 have hg:∀i:Nat,BD (v.list.getD i V.zero)≤BD v:=fun i=>by
  by_cases hi:i<v.list.length
  ·rw[show v.list.getD i V.zero=v.list[i] by simp[hi]];have:=Fs (Xh hi);omega
  ·rw[show v.list.getD i V.zero=V.zero by simp[hi],hz];exact Gu v
 unfold AW;split
 ·simp only[hz];exact Gu v
 split
 ·simp only;split
  ·exact hg _
  ·rw[hz];exact Gu v
 split
 ·simp only[JH];split
  ·exact hg _
  ·rw[hz];exact Gu v
 split
 ·rw[BV];have h5:=Jt (v.list.drop (A5 s v.list.length).1.toNat) ((A5 s v.list.length).2.toNat - (A5 s v.list.length).1.toNat);have h6:=Je v.list (A5 s v.list.length).1.toNat;show 1+0+0+BN (EP v.list (A5 s v.list.length))≤BD v;simp only[EP];omega
 split
 ·rw[BV];have h5:=KB (l:=v.text) (A5 s (chs v.text).length).1.toNat ((A5 s (chs v.text).length).2.toNat - (A5 s (chs v.text).length).1.toNat);show 1+(EP (chs v.text) (A5 s (chs v.text).length)).flatten.length+0+0≤BD v;simp only[EP];omega
 ·simp only[hz];exact Gu v
def Db:∀a b:List V,B3 (a++b)=B3 a+B3 b
 |[],b=>by simp[B3]
 |x::a,b=>by simp only[XF,B3,Db a b];omega
def Ih{l:List V}{i j:Nat}(h:i≤j):B3 (l.take i)+B3 (l.drop j)≤B3 l:=by
 have h1:=Db (l.take i) (l.drop i);rw[Xr] at h1;have h2:=Db ((l.drop i).take (j - i)) ((l.drop i).drop (j - i));rw[Xr,List.drop_drop,show i+(j - i)=j by omega] at h2;omega
def Ua(n:Nat):B3 (XU n V.zero)=n:=by
 induction n with
 |zero=>rfl
 |succ n ih=>
  rw[List.replicate_succ]
  have:BS V.zero=1:=by decide
  simp only[B3,ih,this];omega
def Qd(v:V)(s:St)(y:V):BS (CH v s y).1≤BS v+BS y+4100:=by
 have h3:=Cq v;have hy:=Cq y;have hz:BS V.zero=1:=by decide
 unfold CH;split
 ·simp only[F4];have hlt:Bq v.keys s.text≤toK v.keys s.text:=by unfold toK;split<;>omega
  have h4:=Ih (l:=v.list) hlt;have h5:(v.keys.take (Bq v.keys s.text)).length+(v.keys.drop (toK v.keys s.text)).length≤v.keys.length:=by simp;omega
  rw[Cq];show 1+(v.keys.take (Bq v.keys s.text)++[s.text]++v.keys.drop (toK v.keys s.text)).length+B3 (v.list.take (Bq v.keys s.text)++[y]++v.list.drop (toK v.keys s.text))≤_;rw[Db,Db];simp only[Xl,XI,B3];omega
 split
 ·split
  ·simp only[hz];omega
  ·rename_i hp;obtain⟨n,hn⟩:∃n:Nat,BG s.src v.list.length=(n:Int):=⟨(BG s.src v.list.length).toNat,by omega⟩
   rw[hn] at hp⊢;simp only[XO];have h4:=Ih (l:=CQ v.list (n+1)) (show n≤n+1 by omega);have h5:B3 (CQ v.list (n+1))≤B3 v.list+(n+1):=by rw[CQ,Db,Ua];omega
   rw[Cq];show 1+0+B3 ((CQ v.list (n+1)).take n++[y]++(CQ v.list (n+1)).drop (n+1))≤_;rw[Db,Db];simp only[B3];omega
 split
 ·have he:=EE s (k:=v.list.length) (by omega);have h4:=Ih (l:=v.list) (show(A5 s v.list.length).1.toNat≤(A5 s v.list.length).2.toNat by omega);rw[Cq];show 1+0+B3 (v.list.take (A5 s v.list.length).1.toNat++y.list++v.list.drop (A5 s v.list.length).2.toNat)≤_;rw[Db,Db];omega
 ·simp only[hz];omega
def VG(v:V):1≤BS v:=by have:=Cq v;omega
def Me:∀(l:List St) (v x:V),BD v≤1000000→BS (Cg v l x).1≤BS x+l.length*1004100
 |[],v,x,_=>by simp[Cg]
 |s::l,v,x,hb=>by
  have hz:BS V.zero=1:=by decide
  have h1:=VG x;have h2:=Me l (AW v s).1 x (X6 (Eh v s) hb);have h3:=Qd v s (Cg (AW v s).1 l x).1;have h4:=EM v;simp only[Cg,Xv];split
  ·simp only[hz];omega
  split
  ·simp only[hz];omega
  ·omega
def O4(P:Program)(f:FuncId):Prop:=∀(l:List St) {d cs es w}{v x:V},Aw d cs v→Gd v→BD v≤1000000→RSl 6 RSt d w l→Aw d es x→BS x≤1000000→l.length≤100→
 AY P f [.agg cs.toArray,w,.agg es.toArray] d [] (Ret fun r d' L'=>L'=[]∧∃cs',r=.tuple #[.agg cs'.toArray,vZ (Cg v l x).2]∧Aw d' cs' (Cg v l x).1)
def PV(a0 a1 a2:Nat):A0:=⟨46,[(.cell 6 (some 6)),(.tmp 7)],(sR (o1 3 (.box 0)<|o1 5 (.box 2)<|o1 6 (.alo (.agg #[(vZ 0),(vZ 0),(vZ 0),(Al []),(.slice none 0 0),(.slice none 0 0)]))<|o1 7 (.mv z0) .done) (.seq (sR (om 10 1<|oL 11 10<|ob 12 .eql 11 z0 .done) (.cond 12 (sR (o1 13 (.ld (some 6) 5)<|o0 (.st 6 6 13)<|o1 7 (.mv z0) .done) .ret) .skip)) (.seq (.reg true (pm 16 1<|p1 17 (.idx 6 16 z0)<|p1 18 (.ld (some 6) 17) (.alt ⟨(some 15),none,(.ld (some 6) 3)⟩ (.alt ⟨(some 19),none,(.call a0 [15,18])⟩ (pm 14 19 (p1 20 (.ext 14 0) (p1 21 (.ext 14 1) (o1 8 (.alo (.agg #[(vZ 0),(vZ 0),(vZ 0),(Al []),(.slice none 0 0),(.slice none 0 0)])) (o0 (.st 6 8 20) (pm 9 21 .done)))))) (o1 8 (.alo (.agg #[(vZ 0),(vZ 0),(vZ 0),(Al []),(.slice none 0 0),(.slice none 0 0)])) (oc 19 a0 [15,18] (pm 14 19 (p1 20 (.ext 14 0) (p1 21 (.ext 14 1) (o0 (.st 6 8 20) (pm 9 21 .done)))))))) (o1 8 (.alo (.agg #[(vZ 0),(vZ 0),(vZ 0),(Al []),(.slice none 0 0),(.slice none 0 0)])) (o1 15 (.ld (some 6) 3) (oc 19 a0 [15,18] (pm 14 19 (p1 20 (.ext 14 0) (p1 21 (.ext 14 1) (o0 (.st 6 8 20) (pm 9 21 .done))))))))))) (.seq (sR (om 22 9<|ob 23 .neq 22 z0 .done) (.cond 23 (sR (o1 24 (.bld [(0,1),(1,2),(3,1),(4,1),(5,1)] [(vZ 0),(vZ 0),(vZ 0),(Al []),(.slice none 0 0),(.slice none 0 0)] [])<|om 25 9<|o0 (.st 6 6 24)<|om 7 25 .done) .ret) .skip)) (.seq (.reg true (pm 28 1<|p1 29 (.sl 6 28 (some z1) none none) (.alt ⟨(some 27),none,(.ld (some 6) 8)⟩ (o1 30 (.ld (some 6) 5) (oc 31 a1 [27,29,30] (pm 26 31 (p1 32 (.ext 26 0) (p1 33 (.ext 26 1) (o0 (.st 6 8 32) (pm 9 33 .done))))))) (o1 30 (.ld (some 6) 5) (o1 27 (.ld (some 6) 8) (oc 31 a1 [27,29,30] (pm 26 31 (p1 32 (.ext 26 0) (p1 33 (.ext 26 1) (o0 (.st 6 8 32) (pm 9 33 .done))))))))))) (.seq (sR (om 34 9<|ob 35 .neq 34 z0 .done) (.cond 35 (sR (o1 36 (.bld [(0,1),(1,2),(3,1),(4,1),(5,1)] [(vZ 0),(vZ 0),(vZ 0),(Al []),(.slice none 0 0),(.slice none 0 0)] [])<|om 37 9<|o0 (.st 6 6 36)<|om 7 37 .done) .ret) .skip)) (.seq (.reg true (p1 38 (.ld (some 6) 3)<|pm 39 1<|p1 40 (.idx 6 39 z0)<|p1 41 (.ld (some 6) 40)<|p1 42 (.ld (some 6) 8)<|oc 43 a2 [38,41,42]<|p1 44 (.ext 43 0)<|p1 45 (.ext 43 1) (.bar (o0 (.st 6 6 44) (pm 7 45 .done))))) .ret)))))))⟩
set_option maxHeartbeats 2000000 in
def VC(hd:dec P f=some (PV f1 f f2))(h1:Jc P f1)(h2:NS P f2):O4 P f:=by
 intro l;induction l with
 |nil=>
  intro d cs es w v x hv hg hb hw hx hbx hll
  obtain⟨a,c,rfl⟩:=RSl.val hw
  refine Bf hd (No rfl) ?_
  obtain⟨c0,c1,c2,c3,c4,c5,rfl⟩:=six hv.len
  obtain⟨x0,x1,x2,x3,x4,x5,rfl⟩:=six hx.len
  show gwp P _ _ _ _ _
  apply Ah;apply Ax
  refine AR (l:=[c0,c1,c2,c3,c4,c5]) rfl (fun b3 T3=>?_)
  refine AR (l:=[x0,x1,x2,x3,x4,x5]) rfl (fun b5 T5=>?_)
  have hz:(([]:List St).length:Int)=0:=rfl
  (refine AV (fun _ _=>Ab rfl<|Aa<|Ah<|Ac<|Ar rfl<|Ay rfl<|At rfl rfl<|Aa<|Au rfl (by omega)<|Ac<|AE 1 rfl rfl rfl ?_))
  refine AA 0 [x0,x1,x2,x3,x4,x5] rfl rfl rfl rfl (No rfl) (AK _ _ _ hx) rfl ?_
  (refine Ab rfl<|Aa<|Aq ?_)
  exact Bx 0 rfl rfl rfl hx
 |cons s l ih=>
  intro d cs es w v x hv hg hb hw hx hbx hll
  have n1:=RSl.A2 hw
  obtain⟨a,c,rfl⟩:=RSl.val hw
  have hw':=hw
  have hcnt:=Me l (AW v s).1 x (X6 (Eh v s) hb)
  have hcb:=EM v
  have hlc:((s::l).length:Int)=l.length+1:=by simp
  rw[Xv] at hll
  refine Bf hd (No rfl) ?_
  obtain⟨c0,c1,c2,c3,c4,c5,rfl⟩:=six hv.len
  obtain⟨x0,x1,x2,x3,x4,x5,rfl⟩:=six hx.len
  show gwp P _ _ _ _ _
  apply Ah;apply Ax
  refine AR (l:=[c0,c1,c2,c3,c4,c5]) rfl (fun b3 T3=>?_)
  refine AR (l:=[x0,x1,x2,x3,x4,x5]) rfl (fun b5 T5=>?_)
  (refine AV (fun _ _=>Ab rfl<|Aa ?_))
  rename_i b6 T6
  apply Ah;apply Ah;apply Ax
  (refine Ar rfl<|Ay rfl<|At rfl rfl<|Aa ?_)
  refine An rfl (by omega) ?_
  apply Ao
  refine DY (fun ρ d' L'=>d'=d∧∃b8 T8 e0 e1 e2 e3 e4 e5,Bi ρ [(1,.slice a (s::l).length c),(3,pZ b3),(5,pZ b5),(6,pZ b6),(8,pZ b8),(9,vZ (AW v s).2)]∧Aw d [e0,e1,e2,e3,e4,e5] (AW v s).1∧
   L'=[bx b6 T6 [vZ 0,vZ 0,vZ 0,Al [],.slice none 0 0,.slice none 0 0],bx b5 T5 [x0,x1,x2,x3,x4,x5],bx b3 T3 [c0,c1,c2,c3,c4,c5],bx b8 T8 [e0,e1,e2,e3,e4,e5]]) ?_ ?_
  ·refine Bp ?_
   (refine Ar rfl<|AN (m:=0) (sz:=6) (R:=RSt) (by rfl) (by assumption) (by rfl) rfl (by omega) ?_;rintro _ _ _ _ _ ⟨rfl,_,_,_,_⟩;apply B5;rfl;assumption;rfl)
   rename_i hcs hD ik' it' is id
   have hS:RSt d [vZ s.kind,Al s.text,vZ s.src,vZ s.dst,.bool s.hf,.bool s.ht] s:=⟨rfl,ik',it',is,id⟩
   refine Ee ?_ ?_
   ·(apply AE 2;rfl;rfl;rfl)
    refine Ee ?_ ?_
    ·refine AQ rfl (h1 hv (Ej hg) (FD hg) hS) (fun r d3 L3 _ ⟨hdd,hL,cs',hr,hR'⟩=>?_)
     subst hdd;subst hL;subst hr
     obtain⟨e0,e1,e2,e3,e4,e5,rfl⟩:=six hR'.len
     (refine A9 rfl<|AH rfl rfl<|AH rfl rfl<|AV (fun _ _=>?_))
     rename_i b8 T8
     refine AA 0 [e0,e1,e2,e3,e4,e5] rfl rfl rfl rfl (No rfl) (AK _ _ _ hR') rfl ?_
     (refine Ab rfl<|Bo ?_)
     exact⟨rfl,b8,T8,_,_,_,_,_,_,⟨rfl,rfl,rfl,rfl,rfl,rfl,trivial⟩,hR',rfl⟩
    ·(apply AV;intro _ _)
     rename_i b8 T8
     refine AQ rfl (h1 hv (Ej hg) (FD hg) hS) (fun r d3 L3 _ ⟨hdd,hL,cs',hr,hR'⟩=>?_)
     subst hdd;subst hL;subst hr
     obtain⟨e0,e1,e2,e3,e4,e5,rfl⟩:=six hR'.len
     (refine A9 rfl<|AH rfl rfl<|AH rfl rfl ?_)
     refine AA 0 [e0,e1,e2,e3,e4,e5] rfl rfl rfl rfl (No rfl) (AK _ _ _ hR') rfl ?_
     (refine Ab rfl<|Bo ?_)
     exact⟨rfl,b8,T8,_,_,_,_,_,_,⟨rfl,rfl,rfl,rfl,rfl,rfl,trivial⟩,hR',rfl⟩
   ·(refine AV (fun _ _=>AE 2 rfl rfl rfl ?_))
    rename_i b8 T8
    refine AQ rfl (h1 hv (Ej hg) (FD hg) hS) (fun r d3 L3 _ ⟨hdd,hL,cs',hr,hR'⟩=>?_)
    subst hdd;subst hL;subst hr
    obtain⟨e0,e1,e2,e3,e4,e5,rfl⟩:=six hR'.len
    (refine A9 rfl<|AH rfl rfl<|AH rfl rfl ?_)
    refine AA 0 [e0,e1,e2,e3,e4,e5] rfl rfl rfl rfl (No rfl) (AK _ _ _ hR') rfl ?_
    (refine Ab rfl<|Bo ?_)
    exact⟨rfl,b8,T8,_,_,_,_,_,_,⟨rfl,rfl,rfl,rfl,rfl,rfl,trivial⟩,hR',rfl⟩
  rintro ρ d' L' ⟨hdd,b8,T8,e0,e1,e2,e3,e4,e5,hsl,hR,hL⟩
  subst hdd;subst hL
  refine BQ _ hsl ?_
  clear hsl
  by_cases he:(AW v s).2≠0
  ·rw[Cg,if_pos he]
   (refine Ah<|Ac<|Ab rfl<|AB rfl rfl<|Aa<|Au rfl (by omega)<|Ac<|Bz<|Ab rfl ?_)
   refine AA 0 [vZ 0,vZ 0,vZ 0,Al [],.slice none 0 0,.slice none 0 0] rfl rfl rfl rfl (No rfl) rfl rfl ?_
   (refine Ab rfl<|Aa<|Aq ?_)
   exact Bx 0 rfl rfl rfl Aw.zero
  rw[Cg,if_neg he]
  (refine Ah<|Ac<|Ab rfl<|AB rfl rfl<|Aa<|An rfl (by omega) ?_)
  apply Ao
  refine DY (fun ρ d9 L9=>Le d' d9∧∃f0 f1 f2 f3 f4 f5,Bi ρ [(1,.slice a (s::l).length c),(3,pZ b3),(5,pZ b5),(6,pZ b6),(8,pZ b8),(9,vZ (Cg (AW v s).1 l x).2)]∧Aw d9 [f0,f1,f2,f3,f4,f5] (Cg (AW v s).1 l x).1∧
   L9=[bx b6 T6 [vZ 0,vZ 0,vZ 0,Al [],.slice none 0 0,.slice none 0 0],bx b5 T5 [x0,x1,x2,x3,x4,x5],bx b3 T3 [c0,c1,c2,c3,c4,c5],bx b8 T8 [f0,f1,f2,f3,f4,f5]]) ?_ ?_
  ·refine Ek [bx b6 T6 [vZ 0,vZ 0,vZ 0,Al [],.slice none 0 0,.slice none 0 0],bx b5 T5 [x0,x1,x2,x3,x4,x5],bx b3 T3 [c0,c1,c2,c3,c4,c5]] [bx b8 T8 [e0,e1,e2,e3,e4,e5]] rfl ?_
   (apply Ar;rfl)
   refine GF (n:=1) rfl hw' rfl rfl (by simp) (fun v' hv'=>?_)
   refine Ee ?_ ?_
   ·(refine AE 3 rfl rfl rfl<|AE 1 rfl rfl rfl ?_)
    refine AQ rfl (ih hR (HP hg s) (X6 (Eh v s) hb) hv' hx hbx (by omega)) (fun r d4 L4 hl4 ⟨hL,cs',hr,hR'⟩=>?_)
    subst hL;subst hr
    obtain⟨f0,f1,f2,f3,f4,f5,rfl⟩:=six hR'.len
    (refine A9 rfl<|AH rfl rfl<|AH rfl rfl ?_)
    refine AA 0 [f0,f1,f2,f3,f4,f5] rfl rfl rfl rfl (No rfl) (AK _ _ _ hR') rfl ?_
    (refine Ab rfl<|Bo ?_)
    exact⟨hl4,_,_,_,_,_,_,⟨rfl,rfl,rfl,rfl,rfl,rfl,trivial⟩,hR',rfl⟩
   ·(refine AE 1 rfl rfl rfl<|AE 3 rfl rfl rfl ?_)
    refine AQ rfl (ih hR (HP hg s) (X6 (Eh v s) hb) hv' hx hbx (by omega)) (fun r d4 L4 hl4 ⟨hL,cs',hr,hR'⟩=>?_)
    subst hL;subst hr
    obtain⟨f0,f1,f2,f3,f4,f5,rfl⟩:=six hR'.len
    (refine A9 rfl<|AH rfl rfl<|AH rfl rfl ?_)
    refine AA 0 [f0,f1,f2,f3,f4,f5] rfl rfl rfl rfl (No rfl) (AK _ _ _ hR') rfl ?_
    (refine Ab rfl<|Bo ?_)
    exact⟨hl4,_,_,_,_,_,_,⟨rfl,rfl,rfl,rfl,rfl,rfl,trivial⟩,hR',rfl⟩
  rintro ρ d4 L' ⟨hl4,f0,f1,f2,f3,f4,f5,hsl,hR',hL⟩
  subst hL
  refine BQ _ hsl ?_
  clear hsl
  by_cases he2:(Cg (AW v s).1 l x).2≠0
  ·rw[if_pos he2]
   (refine Ah<|Ac<|Ab rfl<|AB rfl rfl<|Aa<|Au rfl (by omega)<|Ac<|Bz<|Ab rfl ?_)
   refine AA 0 [vZ 0,vZ 0,vZ 0,Al [],.slice none 0 0,.slice none 0 0] rfl rfl rfl rfl (No rfl) rfl rfl ?_
   (refine Ab rfl<|Aa<|Aq ?_)
   exact Bx 0 rfl rfl rfl Aw.zero
  rw[if_neg he2]
  have hw4:RSl 6 RSt d4 (.slice a (s::l).length c) (s::l):=RSl.mono (R:=RSt) (fun hl h=>h) hw' hl4
  (refine Ah<|Ac<|Ab rfl<|AB rfl rfl<|Aa<|An rfl (by omega)<|Ao<|Ah ?_)
  refine Bp ?_
  (refine AE 2 rfl rfl rfl<|Ar rfl<|AN (m:=0) (sz:=6) (R:=RSt) (by rfl) (by assumption) (by rfl) rfl (by omega) ?_;rintro _ _ _ _ _ ⟨rfl,_,_,_,_⟩;refine B5 rfl (by assumption) rfl<|AE 3 rfl rfl rfl ?_)
  rename_i hcs hD ik' it' is id
  refine AQ rfl (h2 (Aw.mono hl4 hv) (Ej hg) ⟨rfl,ik',it',is,id⟩ hR' (by omega)) (fun r d5 L5 hl5 ⟨hL,cs',hr,hR2⟩=>?_)
  subst hL;subst hr
  obtain⟨g0,g1,g2,g3,g4,g5,rfl⟩:=six hR2.len
  (refine AH rfl rfl<|AH rfl rfl<|Cr ?_)
  refine AA 0 [g0,g1,g2,g3,g4,g5] rfl rfl rfl rfl (No rfl) (AK _ _ _ hR2) rfl ?_
  (refine Ab rfl<|Aa<|Aq ?_)
  exact Bx 0 rfl rfl rfl hR2
def C4(v:V)(l:List St)(x:V):V×Int:=
 if AP v≠0 then(V.zero,AP v) else if AP x≠0 then(V.zero,AP x) else if Cx v l≠0 then(V.zero,Cx v l)
 else if (Cg v l x).2≠0 then(V.zero,(Cg v l x).2) else if AP (Cg v l x).1≠0 then(V.zero,AP (Cg v l x).1) else((Cg v l x).1,0)
def Rg(T:Ae→Prop)(P:Program)(f:FuncId):Prop:=∀{d cs es w}{v x:V}{l:List St},T d→Aw d cs v→RSl 6 RSt d w l→Aw d es x→BD v≤1000000→BS x≤1000000→l.length≤100→
 AY P f [.agg cs.toArray,w,.agg es.toArray] d [] (Ret fun r d' L'=>d'=d∧∃cs' h,r=.tuple #[.agg cs'.toArray,vZ (C4 v l x).2]∧L'=[h]∧B7 cs' (C4 v l x).1 h)
def PL(a0 a1 a2 a3:Nat):A0:=⟨49,[(.cell 6 (some 6)),(.tmp 7)],(sR (o1 3 (.box 0)<|o1 5 (.box 2)<|o1 6 (.alo (.agg #[(vZ 0),(vZ 0),(vZ 0),(Al []),(.slice none 0 0),(.slice none 0 0)]))<|o1 7 (.mv z0) .done) (.seq (sR (o1 13 (.ld (some 6) 3)<|oc 14 a0 [13]<|om 8 14 .done) (sR (om 15 8<|ob 16 .neq 15 z0 .done) (.cond 16 (sR (o1 17 (.bld [(0,1),(1,2),(3,1),(4,1),(5,1)] [(vZ 0),(vZ 0),(vZ 0),(Al []),(.slice none 0 0),(.slice none 0 0)] [])<|om 18 8<|o0 (.st 6 6 17)<|om 7 18 .done) .ret) .skip))) (.seq (sR (o1 19 (.ld (some 6) 5)<|oc 20 a0 [19]<|om 9 20 .done) (sR (om 21 9<|ob 22 .neq 21 z0 .done) (.cond 22 (sR (o1 23 (.bld [(0,1),(1,2),(3,1),(4,1),(5,1)] [(vZ 0),(vZ 0),(vZ 0),(Al []),(.slice none 0 0),(.slice none 0 0)] [])<|om 24 9<|o0 (.st 6 6 23)<|om 7 24 .done) .ret) .skip))) (.seq (sR (o1 25 (.ld (some 6) 3)<|om 26 1<|oc 27 a1 [25,26]<|om 10 27 .done) (sR (om 28 10<|ob 29 .neq 28 z0 .done) (.cond 29 (sR (o1 30 (.bld [(0,1),(1,2),(3,1),(4,1),(5,1)] [(vZ 0),(vZ 0),(vZ 0),(Al []),(.slice none 0 0),(.slice none 0 0)] [])<|om 31 10<|o0 (.st 6 6 30)<|om 7 31 .done) .ret) .skip))) (sR (o1 33 (.ld (some 6) 3)<|om 34 1<|o1 35 (.ld (some 6) 5)<|oc 36 a2 [33,34,35]<|om 32 36<|oe 37 32 0<|oe 38 32 1<|o1 11 (.alo (.agg #[(vZ 0),(vZ 0),(vZ 0),(Al []),(.slice none 0 0),(.slice none 0 0)]))<|o0 (.st 6 11 37)<|om 12 38 .done) (.seq (sR (om 39 12<|ob 40 .eql 39 z0 .done) (.cond 40 (rG (o1 41 (.ld (some 6) 11)<|oc 42 a0 [41]<|om 12 42 .done)) .skip)) (.seq (sR (om 43 12<|ob 44 .neq 43 z0 .done) (.cond 44 (sR (o1 45 (.bld [(0,1),(1,2),(3,1),(4,1),(5,1)] [(vZ 0),(vZ 0),(vZ 0),(Al []),(.slice none 0 0),(.slice none 0 0)] [])<|om 46 12<|o0 (.st 6 6 45)<|om 7 46 .done) .ret) .skip)) (sR (o1 47 (.ld (some 6) 11)<|oc 48 a3 [47]<|o0 (.st 6 6 48)<|o1 7 (.mv z0) .done) .ret))))))))⟩
set_option maxHeartbeats 1000000 in
def WB{T:Ae→Prop}{f4}(hT:∀{d d'},Le d d'→T d→T d')(hd:dec P f=some (PL f1 f2 f3 f4))(h1:Ez T P f1)(h2:HN T P f2)(h3:O4 P f3)(h4:Fy P f4):Rg T P f:=by
 intro d cs es w v x l ht hv hw hx hbv hbx hll;have n1:=RSl.A2 hw;obtain⟨a,c,rfl⟩:=RSl.val hw;have hcnt:=Me l v x hbv;refine AY.forget (Q:=fun r L'=>∃cs' h,r=.tuple #[.agg cs'.toArray,vZ (C4 v l x).2]∧L'=[h]∧B7 cs' (C4 v l x).1 h) ?_;refine Bf hd (No rfl) ?_;obtain⟨c0,c1,c2,c3,c4,c5,rfl⟩:=six hv.len;obtain⟨x0,x1,x2,x3,x4,x5,rfl⟩:=six hx.len;show gwp P _ _ _ _ _;apply Ah;apply Ax;refine AR (l:=[c0,c1,c2,c3,c4,c5]) rfl (fun b3 T3=>?_);refine AR (l:=[x0,x1,x2,x3,x4,x5]) rfl (fun b5 T5=>?_);(refine AV (fun _ _=>Ab rfl<|Aa<|Ah<|Ac<|AE 2 rfl rfl rfl ?_));rename_i b6 T6;refine AD rfl (h1 ht hv) ?_;by_cases q1:AP v≠0
 ·rw[C4,if_pos q1];(refine Ab rfl<|Aa<|Ac<|Ab rfl<|AB rfl rfl<|Aa<|Au rfl (by omega)<|Ac<|Bz<|Ab rfl ?_);refine AA 0 [vZ 0,vZ 0,vZ 0,Al [],.slice none 0 0,.slice none 0 0] rfl rfl rfl rfl (No rfl) rfl rfl ?_;(refine Ab rfl<|Aa<|Aq ?_);exact E3 0 rfl rfl rfl B7.zero CS
 (refine Ab rfl<|Aa<|Ac<|Ab rfl<|AB rfl rfl<|Aa<|An rfl (by omega)<|Ao<|Ah<|Ac<|AE 1 rfl rfl rfl ?_);refine AD rfl (h1 ht hx) ?_;by_cases q2:AP x≠0
 ·rw[C4,if_neg q1,if_pos q2];(refine Ab rfl<|Aa<|Ac<|Ab rfl<|AB rfl rfl<|Aa<|Au rfl (by omega)<|Ac<|Bz<|Ab rfl ?_);refine AA 0 [vZ 0,vZ 0,vZ 0,Al [],.slice none 0 0,.slice none 0 0] rfl rfl rfl rfl (No rfl) rfl rfl ?_;(refine Ab rfl<|Aa<|Aq ?_);exact E3 0 rfl rfl rfl B7.zero CS
 (refine Ab rfl<|Aa<|Ac<|Ab rfl<|AB rfl rfl<|Aa<|An rfl (by omega)<|Ao<|Ah<|Ac<|AE 2 rfl rfl rfl<|Ar rfl ?_);refine AD rfl (h2 ht hv hw) ?_;by_cases q3:Cx v l≠0
 ·rw[C4,if_neg q1,if_neg q2,if_pos q3];(refine Ab rfl<|Aa<|Ac<|Ab rfl<|AB rfl rfl<|Aa<|Au rfl (by omega)<|Ac<|Bz<|Ab rfl ?_);refine AA 0 [vZ 0,vZ 0,vZ 0,Al [],.slice none 0 0,.slice none 0 0] rfl rfl rfl rfl (No rfl) rfl rfl ?_;(refine Ab rfl<|Aa<|Aq ?_);exact E3 0 rfl rfl rfl B7.zero CS
 rw[C4,if_neg q1,if_neg q2,if_neg q3];have hgd:=IC (v:=v) (by simpa using q1) (by omega);(refine Ab rfl<|Aa<|Ac<|Ab rfl<|AB rfl rfl<|Aa<|An rfl (by omega)<|Ao<|Ac<|AE 2 rfl rfl rfl<|Ar rfl<|AE 1 rfl rfl rfl ?_);refine AQ rfl (h3 l hv hgd hbv hw hx hbx hll) (fun r d2 L2 hl2 ⟨hL,cs',hr,hR⟩=>?_);subst hL;subst hr;obtain⟨f0,f1',f2',f3',f4',f5,rfl⟩:=six hR.len;(refine A9 rfl<|AH rfl rfl<|AH rfl rfl<|AV (fun _ _=>?_));rename_i b11 T11;refine AA 0 [f0,f1',f2',f3',f4',f5] rfl rfl rfl rfl (No rfl) (AK _ _ _ hR) rfl ?_;by_cases q4:(Cg v l x).2≠0
 ·rw[if_pos q4];(refine Ab rfl<|Aa<|Ah<|Ac<|Ab rfl<|At rfl rfl<|Aa<|An rfl (by omega)<|Ao<|Ah<|Ac<|Ab rfl<|AB rfl rfl<|Aa<|Au rfl (by omega)<|Ac<|Bz<|Ab rfl ?_);refine AA 1 [vZ 0,vZ 0,vZ 0,Al [],.slice none 0 0,.slice none 0 0] rfl rfl rfl rfl (No rfl) rfl rfl ?_;(refine Ab rfl<|Aa<|Aq ?_);exact E3 1 rfl rfl rfl B7.zero CS
 rw[if_neg q4];(refine Ab rfl<|Aa<|Ah<|Ac<|Ab rfl<|At rfl rfl<|Aa<|Au rfl (by omega)<|Ax<|AE 0 rfl rfl rfl ?_);refine AD rfl (h1 (hT hl2 ht) hR) ?_;by_cases q5:AP (Cg v l x).1≠0
 ·rw[if_pos q5];(refine Ab rfl<|Aa<|Ah<|Ac<|Ab rfl<|AB rfl rfl<|Aa<|Au rfl (by omega)<|Ac<|Bz<|Ab rfl ?_);refine AA 1 [vZ 0,vZ 0,vZ 0,Al [],.slice none 0 0,.slice none 0 0] rfl rfl rfl rfl (No rfl) rfl rfl ?_;(refine Ab rfl<|Aa<|Aq ?_);exact E3 1 rfl rfl rfl B7.zero CS
 rw[if_neg q5];(refine Ab rfl<|Aa<|Ah<|Ac<|Ab rfl<|AB rfl rfl<|Aa<|An rfl (by omega)<|Ao<|Ac<|AE 0 rfl rfl rfl ?_);refine AQ rfl (h4 _ hR (by omega)) (fun r d3 L3 _ ⟨hdd,cs',g,hr,hL,ho⟩=>?_);subst hdd;subst hL;subst hr;obtain⟨e0,e1,e2,e3,e4,e5,rfl⟩:=six ho.cells.1;refine AA 2 [e0,e1,e2,e3,e4,e5] rfl rfl rfl rfl (No rfl) ho.cells.2 rfl ?_;(refine Ab rfl<|Aa<|Aq ?_);exact E3 2 rfl rfl rfl ho (Vs.drop ((Xm _).cons_cons _))
def Cd(v:V)(s:St):V×Int:=
 if v.kind=0 then(v,0)
 else if s.kind=0∧v.kind=6 then
  (if s.text∈v.keys then .mk 6 0 0 [] (v.list.take (Bq v.keys s.text)++[]++v.list.drop (Bq v.keys s.text+1)) (v.keys.take (Bq v.keys s.text)++[]++v.keys.drop (Bq v.keys s.text+1)) else v,0)
 else if s.kind=1∧v.kind=5 then
  (if BG s.src v.list.length<0∨(v.list.length:Int)≤BG s.src v.list.length then v else .mk 5 0 0 [] (v.list.take (BG s.src v.list.length).toNat++[]++v.list.drop ((BG s.src v.list.length).toNat+1)) [],0)
 else if s.kind=2∧v.kind=5 then(.mk 5 0 0 [] (v.list.take (A5 s v.list.length).1.toNat++[]++v.list.drop (A5 s v.list.length).2.toNat) [],0)
 else(V.zero,80)
def I9(P:Program)(f:FuncId):Prop:=∀{d cs ds}{v:V}{s:St},Aw d cs v→BK v=true→RSt d ds s→BS v≤900000000→
 AY P f [.agg cs.toArray,.agg ds.toArray] d [] (Ret fun r d' L'=>L'=[]∧∃cs',r=.tuple #[.agg cs'.toArray,vZ (Cd v s).2]∧Aw d' cs' (Cd v s).1)
def Lf(a0 a1 a2 a3 a4:Nat):A0:=⟨105,[(.cell 4 (some 6)),(.tmp 5)],(sR (o1 2 (.box 0)<|o1 3 (.box 1)<|o1 4 (.alo (.agg #[(vZ 0),(vZ 0),(vZ 0),(Al []),(.slice none 0 0),(.slice none 0 0)]))<|o1 5 (.mv z0) .done) (.seq (.block 0 (sR (oj 12 0 2<|ol 13 12<|ob 14 .eql 13 z0<|om 11 14 .done) (.cond 11 (sR (o1 15 (.ld (some 6) 2)<|o0 (.st 6 4 15)<|o1 5 (.mv z0) .done) .ret) (sR (oj 17 0 3<|ol 18 17<|ob 19 .eql 18 z0<|om 20 19<|oT 21 20 (.fld 0 2)<|oT 22 20 (.ld none 21)<|oT 23 20 (.bin .eql 22 (kZ 6))<|gP 24 20 23<|om 16 24 .done) (.cond 16 (sR (oj 26 5 2<|ol 27 26<|oj 28 1 3<|ol 29 28<|oc 30 a0 [27,29]<|om 25 30<|oe 31 25 0<|oe 32 25 1<|om 6 31<|om 7 32 .done) (.seq (sR (om 33 7<|o1 34 (.un .not 33) .done) (.cond 34 (sR (o1 35 (.ld (some 6) 2)<|o0 (.st 6 4 35)<|o1 5 (.mv z0) .done) .ret) .skip)) (.seq (.reg true (p1 36 (.fld 5 2)<|pl 37 36<|pm 38 6<|pm 39 6<|p1 40 (.bin .add 39 z1)<|p1 42 (.fld 4 2)<|pl 43 42<|pm 44 6<|pm 45 6<|p1 46 (.bin .add 45 z1)<|oc 41 a1 [37,38,40,nS]<|oc 47 a2 [43,44,46,nS]<|p1 48 (.bld [(0,1),(1,2),(3,1),(4,1),(5,1)] [(vZ 0),(vZ 0),(vZ 0),(Al []),(.slice none 0 0),(.slice none 0 0)] [(0,(kZ 6)),(4,41),(3,47)]) (.bar (o0 (.st 6 4 48) (p1 5 (.mv z0) .done))))) .ret))) (sR (oj 50 0 3<|ol 51 50<|ob 52 .eql 51 z1<|om 53 52<|oT 54 53 (.fld 0 2)<|oT 55 53 (.ld none 54)<|oT 56 53 (.bin .eql 55 (kZ 5))<|gP 57 53 56<|om 49 57 .done) (.cond 49 (sR (oj 58 2 3<|ol 59 58<|oj 60 4 2<|ol 61 60<|oL 62 61<|oc 63 a3 [59,62]<|om 8 63 .done) (.seq (sR (om 64 8<|ob 65 .lss 64 z0<|om 66 65<|gF 67 66 8<|oF 68 66 (.fld 4 2)<|oF 69 66 (.ld none 68)<|oF 70 66 (.len 69)<|oF 71 66 (.bin .geq 67 70)<|o1 72 (.pick 66 (.const (.bool true)) 71) .done) (.cond 72 (sR (o1 73 (.ld (some 6) 2)<|o0 (.st 6 4 73)<|o1 5 (.mv z0) .done) .ret) .skip)) (sR (oj 74 4 2<|ol 75 74<|om 76 8<|om 77 8<|ob 78 .add 77 z1<|oc 79 a2 [75,76,78,nS]<|o1 80 (.bld [(0,1),(1,2),(3,1),(4,1),(5,1)] [(vZ 0),(vZ 0),(vZ 0),(Al []),(.slice none 0 0),(.slice none 0 0)] [(0,(kZ 5)),(3,79)])<|o0 (.st 6 4 80)<|o1 5 (.mv z0) .done) .ret))) (sR (oj 82 0 3<|ol 83 82<|ob 84 .eql 83 z2<|om 85 84<|oT 86 85 (.fld 0 2)<|oT 87 85 (.ld none 86)<|oT 88 85 (.bin .eql 87 (kZ 5))<|gP 89 85 88<|om 81 89 .done) (.cond 81 (sR (o1 91 (.ld (some 6) 3)<|oj 92 4 2<|ol 93 92<|oL 94 93<|oc 95 a4 [91,94]<|om 90 95<|oe 96 90 0<|oe 97 90 1<|om 9 96<|om 10 97 .done) (sR (oj 98 4 2<|ol 99 98<|om 100 9<|om 101 10<|oc 102 a2 [99,100,101,nS]<|o1 103 (.bld [(0,1),(1,2),(3,1),(4,1),(5,1)] [(vZ 0),(vZ 0),(vZ 0),(Al []),(.slice none 0 0),(.slice none 0 0)] [(0,(kZ 5)),(3,102)])<|o0 (.st 6 4 103)<|o1 5 (.mv z0) .done) .ret)) .skip))))))))) (sR (o1 104 (.bld [(0,1),(1,2),(3,1),(4,1),(5,1)] [(vZ 0),(vZ 0),(vZ 0),(Al []),(.slice none 0 0),(.slice none 0 0)] [])<|o0 (.st 6 4 104)<|o1 5 (.mv (kZ 80)) .done) .ret)))⟩
set_option maxHeartbeats 2000000 in
def Rf{f4 f5}(hd:dec P f=some (Lf f1 f2 f3 f4 f5))(h1:GG P f1)(h2:Gj 1 Bk P f2)(h3:Gj 6 Aw P f3)(h4:Gr P f4)(h5:Jf P f5):I9 P f:=by
 intro d cs ds v s hv hone hs hb;refine Bf hd (No rfl) ?_;have hr:=CK hone;have b1:=E9 (v:=v);have b2':=Kx (v:=v);obtain⟨w,e,hF⟩:∃w e,Cd v s=(w,e):=⟨_,_,rfl⟩
 rw[hF];have hs':=hs;obtain⟨hds,ik',it',is,id⟩:=hs';subst hds;have hv0:=hv;obtain⟨lv,kv,rfl,ik,im,ie,it,hl,hks⟩:=hv.open;obtain⟨la,lc,rfl⟩:=RSl.val hl;obtain⟨ka,kc,rfl⟩:=RSl.val hks;have n1:=RSl.A2 hl;show gwp P _ _ _ _ _;apply Ah;apply Ax;refine AR (l:=[vZ v.kind,vZ v.m,vZ v.e,Al v.text,.slice la v.list.length lc,.slice ka v.keys.length kc]) rfl (fun b2 T2=>?_);refine AR (l:=[vZ s.kind,Al s.text,vZ s.src,vZ s.dst,.bool s.hf,.bool s.ht]) rfl (fun b3 T3=>?_);(refine AV (fun _ _=>Ab rfl<|Aa ?_));rename_i b4 T4;by_cases k0:v.kind=0
 ·rw[Cd,if_pos k0] at hF;cases hF;(refine Ah<|As<|Ac<|Ag rfl<|Ai rfl (Ak 2 rfl rfl)<|At rfl rfl<|Ad rfl<|Aa<|Au rfl (by omega)<|Ac<|AE 2 rfl rfl rfl ?_);refine AA 0 [vZ v.kind,vZ v.m,vZ v.e,Al v.text,.slice la v.list.length lc,.slice ka v.keys.length kc] rfl rfl rfl rfl (No rfl) rfl rfl ?_;(refine Ab rfl<|Aa<|Aq ?_);exact Bx 0 rfl rfl rfl hv0
 by_cases s0:s.kind=0
 ·by_cases v6:v.kind=6
  ·rw[Cd,if_neg k0,if_pos ⟨s0,v6⟩] at hF;have hlens:=CT hone v6;(refine Ah<|As<|Ac<|Ag rfl<|Ai rfl (Ak 2 rfl rfl)<|At rfl rfl<|Ad rfl<|Aa<|An rfl (by omega)<|Ac<|Ag rfl<|Ai rfl (Ak 1 rfl rfl)<|At rfl rfl<|Ad rfl<|AF rfl (by omega)<|Af rfl<|Ag rfl<|Af rfl<|Ai rfl (Ak 2 rfl rfl)<|Af rfl<|At rfl rfl<|Ap rfl rfl<|Ad rfl<|Aa<|Au rfl (by omega)<|Ac<|Ag rfl<|Ai rfl (Ak 2 rfl rfl)<|Ag rfl<|Ai rfl (Ak 1 rfl rfl) ?_);refine AD rfl (h1 hks hr) ?_;by_cases hm:s.text∈v.keys
   ·rw[if_pos hm] at hF;cases hF;obtain⟨hlo,_⟩:=(mem_iff hr).1 hm;have hm':(!decide (s.text∈v.keys))=false:=by simp[hm]
    (refine A9 rfl<|AH rfl rfl<|AH rfl rfl<|Ab rfl<|Ad rfl<|Aa<|Ah<|Ac<|Ad rfl<|Be rfl<|Aa ?_;apply Dq;rfl;(with_reducible assumption);refine Ao<|Ah ?_);refine Bp ?_;(refine Ag rfl<|Ai rfl (Ak 2 rfl rfl)<|Ab rfl<|Ab rfl<|AI rfl rfl (by omega) (by omega)<|Ag rfl<|Ai rfl (Ak 2 rfl rfl)<|Ab rfl<|Ab rfl<|AI rfl rfl (by omega) (by omega) ?_);refine AQ rfl (h2 (i:=Bq v.keys s.text) (j:=Bq v.keys s.text+1) (ys:=[]) hks RSl.nil (by omega) (by omega) (by simp;omega)) (fun r d2 L2 hl2 ⟨hL,hr2⟩=>?_);subst hL;obtain⟨ra,rc,rfl⟩:=RSl.val hr2;refine AQ rfl (h3 (i:=Bq v.keys s.text) (j:=Bq v.keys s.text+1) (ys:=[]) (BY.mono hl hl2) RSl.nil (by omega) (by omega) (by simp;omega)) (fun r d4 L4 hl4 ⟨hL,hr4⟩=>?_);subst hL;obtain⟨sa,sc,rfl⟩:=RSl.val hr4;(refine II rfl rfl rfl<|Cr ?_);refine AA 0 [vZ 6,vZ 0,vZ 0,Al [],.slice sa _ sc,.slice ra _ rc] rfl rfl rfl rfl (No rfl) rfl rfl ?_;(refine Ab rfl<|Aa<|Aq ?_);exact Bx 0 rfl rfl rfl (Aw.close (v:=.mk 6 0 0 [] (v.list.take (Bq v.keys s.text)++[]++v.list.drop (Bq v.keys s.text+1)) (v.keys.take (Bq v.keys s.text)++[]++v.keys.drop (Bq v.keys s.text+1))) JW A3 A3 (by simp) hr4 (B9.mono hr2 hl4))
   ·rw[if_neg hm] at hF;cases hF;have hm':(!decide (s.text∈v.keys))=true:=by simp[hm]
    (refine A9 rfl<|AH rfl rfl<|AH rfl rfl<|Ab rfl<|Ad rfl<|Aa<|Ah<|Ac<|Ad rfl<|Be rfl<|Aa ?_;apply GQ;rfl;(with_reducible assumption);refine Ac<|AE 2 rfl rfl rfl ?_);refine AA 0 [vZ v.kind,vZ v.m,vZ v.e,Al v.text,.slice la v.list.length lc,.slice ka v.keys.length kc] rfl rfl rfl rfl (No rfl) rfl rfl ?_;(refine Ab rfl<|Aa<|Aq ?_);exact Bx 0 rfl rfl rfl hv0
  ·rw[Cd,if_neg k0,if_neg (fun h=>v6 h.2),if_neg (fun h=>by omega),if_neg (fun h=>by omega)] at hF;cases hF;(refine Ah<|As<|Ac<|Ag rfl<|Ai rfl (Ak 2 rfl rfl)<|At rfl rfl<|Ad rfl<|Aa<|An rfl (by omega)<|Ac<|Ag rfl<|Ai rfl (Ak 1 rfl rfl)<|At rfl rfl<|Ad rfl<|AF rfl (by omega)<|Af rfl<|Ag rfl<|Af rfl<|Ai rfl (Ak 2 rfl rfl)<|Af rfl<|At rfl rfl<|Ap rfl rfl<|Ad rfl<|Aa<|An rfl (by omega)<|Ac<|Ag rfl<|Ai rfl (Ak 1 rfl rfl)<|At rfl rfl<|Ad rfl<|Az rfl (by omega)<|Aj rfl<|Aj rfl<|Aj rfl<|Am rfl rfl<|Ad rfl<|Aa<|AJ rfl<|Ac<|Ag rfl<|Ai rfl (Ak 1 rfl rfl)<|At rfl rfl<|Ad rfl<|Az rfl (by omega)<|Aj rfl<|Aj rfl<|Aj rfl<|Am rfl rfl<|Ad rfl<|Aa<|AJ rfl<|Ao<|Ac<|Bz ?_);refine AA 0 [vZ 0,vZ 0,vZ 0,Al [],.slice none 0 0,.slice none 0 0] rfl rfl rfl rfl (No rfl) rfl rfl ?_;(refine Ab rfl<|Aa<|Aq ?_);exact Bx 0 rfl rfl rfl Aw.zero
 by_cases s1:s.kind=1
 ·by_cases v5:v.kind=5
  ·rw[Cd,if_neg k0,if_neg (fun h=>s0 h.1),if_pos ⟨s1,v5⟩] at hF;obtain⟨p,hp⟩:∃p,BG s.src v.list.length=p:=⟨_,rfl⟩
   rw[hp] at hF;(refine Ah<|As<|Ac<|Ag rfl<|Ai rfl (Ak 2 rfl rfl)<|At rfl rfl<|Ad rfl<|Aa<|An rfl (by omega)<|Ac<|Ag rfl<|Ai rfl (Ak 1 rfl rfl)<|At rfl rfl<|Ad rfl<|Az rfl (by omega)<|Aj rfl<|Aj rfl<|Aj rfl<|Am rfl rfl<|Ad rfl<|Aa<|AJ rfl<|Ac<|Ag rfl<|Ai rfl (Ak 1 rfl rfl)<|At rfl rfl<|Ad rfl<|AF rfl (by omega)<|Af rfl<|Ag rfl<|Af rfl<|Ai rfl (Ak 2 rfl rfl)<|Af rfl<|At rfl rfl<|Ap rfl rfl<|Ad rfl<|Aa<|Au rfl (by omega)<|Ac<|Ag rfl<|Ai rfl (Ak 1 rfl rfl)<|Ag rfl<|Ai rfl (Ak 2 rfl rfl)<|Ay rfl ?_);refine AD rfl (h4 is (by omega) (by omega)) ?_;rw[hp];by_cases q0:p<0
   ·rw[if_pos (.inl q0)] at hF;cases hF;(refine Ab rfl<|Aa<|Ah<|Ac<|Ab rfl<|Av rfl rfl<|Ad rfl<|AF rfl (by omega)<|Aj rfl<|Aj rfl<|Aj rfl<|Aj rfl<|Aj rfl<|Ap rfl rfl<|Aa<|Bd rfl<|Ac<|AE 2 rfl rfl rfl ?_);refine AA 0 [vZ v.kind,vZ v.m,vZ v.e,Al v.text,.slice la v.list.length lc,.slice ka v.keys.length kc] rfl rfl rfl rfl (No rfl) rfl rfl ?_;(refine Ab rfl<|Aa<|Aq ?_);exact Bx 0 rfl rfl rfl hv0
   by_cases q1:(v.list.length:Int)≤p
   ·rw[if_pos (.inr q1)] at hF;cases hF;(refine Ab rfl<|Aa<|Ah<|Ac<|Ab rfl<|Av rfl rfl<|Ad rfl<|Az rfl (by omega)<|Af rfl<|Ab rfl<|Af rfl<|Ag rfl<|Af rfl<|Ai rfl (Ak 2 rfl rfl)<|Af rfl<|Ay rfl<|Af rfl<|CY rfl rfl<|Am rfl rfl<|Aa<|Au rfl (by omega)<|Ac<|AE 2 rfl rfl rfl ?_);refine AA 0 [vZ v.kind,vZ v.m,vZ v.e,Al v.text,.slice la v.list.length lc,.slice ka v.keys.length kc] rfl rfl rfl rfl (No rfl) rfl rfl ?_;(refine Ab rfl<|Aa<|Aq ?_);exact Bx 0 rfl rfl rfl hv0
   rw[if_neg (fun h=>by omega)] at hF;cases hF;obtain⟨n,rfl⟩:∃n:Nat,p=(n:Int):=⟨p.toNat,by omega⟩
   simp only[XO];(refine Ab rfl<|Aa<|Ah<|Ac<|Ab rfl<|Av rfl rfl<|Ad rfl<|Az rfl (by omega)<|Af rfl<|Ab rfl<|Af rfl<|Ag rfl<|Af rfl<|Ai rfl (Ak 2 rfl rfl)<|Af rfl<|Ay rfl<|Af rfl<|CY rfl rfl<|Am rfl rfl<|Aa<|An rfl (by omega)<|Ao<|Ac<|Ag rfl<|Ai rfl (Ak 2 rfl rfl)<|Ab rfl<|Ab rfl<|AI rfl rfl (by omega) (by omega) ?_);refine AQ rfl (h3 (i:=n) (j:=n+1) (ys:=[]) hl RSl.nil (by omega) (by omega) (by simp;omega)) (fun r d4 L4 hl4 ⟨hL,hr4⟩=>?_);subst hL;obtain⟨sa,sc,rfl⟩:=RSl.val hr4;(apply Ep;rfl;rfl);refine AA 0 [vZ 5,vZ 0,vZ 0,Al [],.slice sa _ sc,.slice none 0 0] rfl rfl rfl rfl (No rfl) rfl rfl ?_;(refine Ab rfl<|Aa<|Aq ?_);exact Bx 0 rfl rfl rfl (Aw.close (v:=.mk 5 0 0 [] (v.list.take n++[]++v.list.drop (n+1)) []) EZ A3 A3 (by simp) hr4 RSl.nil)
  ·rw[Cd,if_neg k0,if_neg (fun h=>s0 h.1),if_neg (fun h=>v5 h.2),if_neg (fun h=>by omega)] at hF;cases hF;(refine Ah<|As<|Ac<|Ag rfl<|Ai rfl (Ak 2 rfl rfl)<|At rfl rfl<|Ad rfl<|Aa<|An rfl (by omega)<|Ac<|Ag rfl<|Ai rfl (Ak 1 rfl rfl)<|At rfl rfl<|Ad rfl<|Az rfl (by omega)<|Aj rfl<|Aj rfl<|Aj rfl<|Am rfl rfl<|Ad rfl<|Aa<|AJ rfl<|Ac<|Ag rfl<|Ai rfl (Ak 1 rfl rfl)<|At rfl rfl<|Ad rfl<|AF rfl (by omega)<|Af rfl<|Ag rfl<|Af rfl<|Ai rfl (Ak 2 rfl rfl)<|Af rfl<|At rfl rfl<|Ap rfl rfl<|Ad rfl<|Aa<|An rfl (by omega)<|Ac<|Ag rfl<|Ai rfl (Ak 1 rfl rfl)<|At rfl rfl<|Ad rfl<|Az rfl (by omega)<|Aj rfl<|Aj rfl<|Aj rfl<|Am rfl rfl<|Ad rfl<|Aa<|AJ rfl<|Ao<|Ac<|Bz ?_);refine AA 0 [vZ 0,vZ 0,vZ 0,Al [],.slice none 0 0,.slice none 0 0] rfl rfl rfl rfl (No rfl) rfl rfl ?_;(refine Ab rfl<|Aa<|Aq ?_);exact Bx 0 rfl rfl rfl Aw.zero
 by_cases s2:s.kind=2
 ·by_cases v5:v.kind=5
  ·rw[Cd,if_neg k0,if_neg (fun h=>s0 h.1),if_neg (fun h=>s1 h.1),if_pos ⟨s2,v5⟩] at hF;cases hF;have hends:=EE s (k:=v.list.length) (by omega);(refine Ah<|As<|Ac<|Ag rfl<|Ai rfl (Ak 2 rfl rfl)<|At rfl rfl<|Ad rfl<|Aa<|An rfl (by omega)<|Ac<|Ag rfl<|Ai rfl (Ak 1 rfl rfl)<|At rfl rfl<|Ad rfl<|Az rfl (by omega)<|Aj rfl<|Aj rfl<|Aj rfl<|Am rfl rfl<|Ad rfl<|Aa<|AJ rfl<|Ac<|Ag rfl<|Ai rfl (Ak 1 rfl rfl)<|At rfl rfl<|Ad rfl<|Az rfl (by omega)<|Aj rfl<|Aj rfl<|Aj rfl<|Am rfl rfl<|Ad rfl<|Aa<|AJ rfl<|Ac<|Ag rfl<|Ai rfl (Ak 1 rfl rfl)<|At rfl rfl<|Ad rfl<|AF rfl (by omega)<|Af rfl<|Ag rfl<|Af rfl<|Ai rfl (Ak 2 rfl rfl)<|Af rfl<|At rfl rfl<|Ap rfl rfl<|Ad rfl<|Aa<|Au rfl (by omega)<|Ac<|AE 1 rfl rfl rfl<|Ag rfl<|Ai rfl (Ak 2 rfl rfl)<|Ay rfl ?_);refine AD rfl (h5 hs (by omega) (by omega)) ?_;obtain⟨A,B,hab⟩:∃A B:Int,A5 s v.list.length=(A,B):=⟨_,_,rfl⟩
   rw[hab] at hends⊢;simp only at hends⊢;obtain⟨a,rfl⟩:∃a:Nat,A=(a:Int):=⟨A.toNat,by omega⟩
   obtain⟨b,rfl⟩:∃b:Nat,B=(b:Int):=⟨B.toNat,by omega⟩
   simp only[XO];(refine A9 rfl<|AH rfl rfl<|AH rfl rfl<|Ab rfl<|Ab rfl<|Aa<|Ac<|Ag rfl<|Ai rfl (Ak 2 rfl rfl)<|Ab rfl<|Ab rfl ?_);refine AQ rfl (h3 (i:=a) (j:=b) (ys:=[]) hl RSl.nil (by omega) (by omega) (by simp;omega)) (fun r d4 L4 hl4 ⟨hL,hr4⟩=>?_);subst hL;obtain⟨sa,sc,rfl⟩:=RSl.val hr4;(apply Ep;rfl;rfl);refine AA 0 [vZ 5,vZ 0,vZ 0,Al [],.slice sa _ sc,.slice none 0 0] rfl rfl rfl rfl (No rfl) rfl rfl ?_;(refine Ab rfl<|Aa<|Aq ?_);exact Bx 0 rfl rfl rfl (Aw.close (v:=.mk 5 0 0 [] (v.list.take a++[]++v.list.drop b) []) EZ A3 A3 (by simp) hr4 RSl.nil)
  rw[Cd,if_neg k0,if_neg (fun h=>s0 h.1),if_neg (fun h=>s1 h.1),if_neg (fun h=>v5 h.2)] at hF;cases hF;(refine Ah<|As<|Ac<|Ag rfl<|Ai rfl (Ak 2 rfl rfl)<|At rfl rfl<|Ad rfl<|Aa<|An rfl (by omega)<|Ac<|Ag rfl<|Ai rfl (Ak 1 rfl rfl)<|At rfl rfl<|Ad rfl<|Az rfl (by omega)<|Aj rfl<|Aj rfl<|Aj rfl<|Am rfl rfl<|Ad rfl<|Aa<|AJ rfl<|Ac<|Ag rfl<|Ai rfl (Ak 1 rfl rfl)<|At rfl rfl<|Ad rfl<|Az rfl (by omega)<|Aj rfl<|Aj rfl<|Aj rfl<|Am rfl rfl<|Ad rfl<|Aa<|AJ rfl<|Ac<|Ag rfl<|Ai rfl (Ak 1 rfl rfl)<|At rfl rfl<|Ad rfl<|AF rfl (by omega)<|Af rfl<|Ag rfl<|Af rfl<|Ai rfl (Ak 2 rfl rfl)<|Af rfl<|At rfl rfl<|Ap rfl rfl<|Ad rfl<|Aa<|An rfl (by omega)<|Ao<|Ac<|Bz ?_);refine AA 0 [vZ 0,vZ 0,vZ 0,Al [],.slice none 0 0,.slice none 0 0] rfl rfl rfl rfl (No rfl) rfl rfl ?_;(refine Ab rfl<|Aa<|Aq ?_);exact Bx 0 rfl rfl rfl Aw.zero
 rw[Cd,if_neg k0,if_neg (fun h=>s0 h.1),if_neg (fun h=>s1 h.1),if_neg (fun h=>s2 h.1)] at hF;cases hF;(refine Ah<|As<|Ac<|Ag rfl<|Ai rfl (Ak 2 rfl rfl)<|At rfl rfl<|Ad rfl<|Aa<|An rfl (by omega)<|Ac<|Ag rfl<|Ai rfl (Ak 1 rfl rfl)<|At rfl rfl<|Ad rfl<|Az rfl (by omega)<|Aj rfl<|Aj rfl<|Aj rfl<|Am rfl rfl<|Ad rfl<|Aa<|AJ rfl<|Ac<|Ag rfl<|Ai rfl (Ak 1 rfl rfl)<|At rfl rfl<|Ad rfl<|Az rfl (by omega)<|Aj rfl<|Aj rfl<|Aj rfl<|Am rfl rfl<|Ad rfl<|Aa<|AJ rfl<|Ac<|Ag rfl<|Ai rfl (Ak 1 rfl rfl)<|At rfl rfl<|Ad rfl<|Az rfl (by omega)<|Aj rfl<|Aj rfl<|Aj rfl<|Am rfl rfl<|Ad rfl<|Aa<|AJ rfl<|Ao<|Ac<|Bz ?_);refine AA 0 [vZ 0,vZ 0,vZ 0,Al [],.slice none 0 0,.slice none 0 0] rfl rfl rfl rfl (No rfl) rfl rfl ?_;(refine Ab rfl<|Aa<|Aq ?_);exact Bx 0 rfl rfl rfl Aw.zero
def CE:V→List St→V×Int
 |_,[]=>(V.zero,0)
 |v,[s]=>Cd v s
 |v,s::s2::l=>if (AW v s).2≠0∨(AW v s).1.kind=0 then(v,(AW v s).2) else if (CE (AW v s).1 (s2::l)).2≠0 then(v,(CE (AW v s).1 (s2::l)).2) else CH v s (CE (AW v s).1 (s2::l)).1
def PO(v:V)(s:St):BS (Cd v s).1≤BS v:=by
 have h3:=Cq v;have hz:BS V.zero=1:=by decide
 have key:∀(i j:Nat),i≤j→∀ks:List (List UInt8),ks.length≤v.keys.length→BS (.mk 5 0 0 [] (v.list.take i++[]++v.list.drop j) ks)≤BS v∧BS (.mk 6 0 0 [] (v.list.take i++[]++v.list.drop j) ks)≤BS v:=by
  intro i j hij ks hk;have h4:=Ih (l:=v.list) hij;rw[Cq,Cq];show 1+ks.length+B3 (v.list.take i++[]++v.list.drop j)≤_∧1+ks.length+B3 (v.list.take i++[]++v.list.drop j)≤_;rw[Db,Db];simp only[B3];omega
 unfold Cd;split
 ·exact Xq _
 split
 ·simp only;split
  ·exact(key _ _ (by omega) _ (by simp;omega)).2
  ·exact Xq _
 split
 ·simp only;split
  ·exact Xq _
  ·exact(key _ _ (by omega) _ (by simp)).1
 split
 ·have he:=EE s (k:=v.list.length) (by omega);exact(key _ _ (by omega) _ (by simp)).1
 ·simp only[hz];omega
def KU:∀(l:List St) (v:V),BD v≤1000000→BS (CE v l).1≤1000000+l.length*1004100
 |[],v,_=>by
  have hz:BS V.zero=1:=by decide
  simp[CE,hz]
 |[s],v,hb=>by
  have h1:=PO v s;have h4:=EM v;simp only[CE,XI];omega
 |s::s2::l,v,hb=>by
  have h2:=KU (s2::l) (AW v s).1 (X6 (Eh v s) hb);have h3:=Qd v s (CE (AW v s).1 (s2::l)).1;have h4:=EM v;rw[CE];simp only[Xv] at h2⊢;split
  ·simp only;omega
  split
  ·simp only;omega
  ·omega
def MA(P:Program)(f:FuncId):Prop:=∀(l:List St) {d cs w}{v:V},Aw d cs v→Gd v→BD v≤1000000→RSl 6 RSt d w l→l.length≤100→
 AY P f [.agg cs.toArray,w] d [] (Ret fun r d' L'=>L'=[]∧∃cs',r=.tuple #[.agg cs'.toArray,vZ (CE v l).2]∧Aw d' cs' (CE v l).1)
def O6(a0 a1 a2 a3:Nat):A0:=⟨58,[(.cell 4 (some 6)),(.tmp 5)],(sR (o1 2 (.box 0)<|o1 4 (.alo (.agg #[(vZ 0),(vZ 0),(vZ 0),(Al []),(.slice none 0 0),(.slice none 0 0)]))<|o1 5 (.mv z0) .done) (.seq (sR (om 8 1<|oL 9 8 .done) (.block 0 (sR (ob 11 .eql 9 z0<|om 10 11 .done) (.cond 10 (sR (o1 12 (.bld [(0,1),(1,2),(3,1),(4,1),(5,1)] [(vZ 0),(vZ 0),(vZ 0),(Al []),(.slice none 0 0),(.slice none 0 0)] [])<|o0 (.st 6 4 12)<|o1 5 (.mv z0) .done) .ret) (sR (ob 14 .eql 9 z1<|om 13 14 .done) (.cond 13 (.seq (.reg true (p1 15 (.ld (some 6) 2)<|pm 16 1<|p1 17 (.idx 6 16 z0)<|p1 18 (.ld (some 6) 17)<|oc 19 a0 [15,18]<|p1 20 (.ext 19 0)<|p1 21 (.ext 19 1) (.bar (o0 (.st 6 4 20) (pm 5 21 .done))))) .ret) .skip)))))) (.seq (.reg true (pm 24 1<|p1 25 (.idx 6 24 z0)<|p1 26 (.ld (some 6) 25) (.alt ⟨(some 23),none,(.ld (some 6) 2)⟩ (.alt ⟨(some 27),none,(.call a1 [23,26])⟩ (pm 22 27 (p1 28 (.ext 22 0) (p1 29 (.ext 22 1) (o1 6 (.alo (.agg #[(vZ 0),(vZ 0),(vZ 0),(Al []),(.slice none 0 0),(.slice none 0 0)])) (o0 (.st 6 6 28) (pm 7 29 .done)))))) (o1 6 (.alo (.agg #[(vZ 0),(vZ 0),(vZ 0),(Al []),(.slice none 0 0),(.slice none 0 0)])) (oc 27 a1 [23,26] (pm 22 27 (p1 28 (.ext 22 0) (p1 29 (.ext 22 1) (o0 (.st 6 6 28) (pm 7 29 .done)))))))) (o1 6 (.alo (.agg #[(vZ 0),(vZ 0),(vZ 0),(Al []),(.slice none 0 0),(.slice none 0 0)])) (o1 23 (.ld (some 6) 2) (oc 27 a1 [23,26] (pm 22 27 (p1 28 (.ext 22 0) (p1 29 (.ext 22 1) (o0 (.st 6 6 28) (pm 7 29 .done))))))))))) (.seq (sR (om 30 7<|ob 31 .neq 30 z0<|om 32 31<|oF 33 32 (.fld 0 6)<|oF 34 32 (.ld none 33)<|oF 35 32 (.bin .eql 34 z0)<|o1 36 (.pick 32 (.const (.bool true)) 35) .done) (.cond 36 (sR (o1 37 (.ld (some 6) 2)<|om 38 7<|o0 (.st 6 4 37)<|om 5 38 .done) .ret) .skip)) (.seq (.reg true (pm 41 1<|p1 42 (.sl 6 41 (some z1) none none)<|o1 40 (.ld (some 6) 6)<|oc 43 a2 [40,42]<|pm 39 43<|p1 44 (.ext 39 0)<|p1 45 (.ext 39 1)<|o0 (.st 6 6 44)<|pm 7 45 .done)) (.seq (sR (om 46 7<|ob 47 .neq 46 z0 .done) (.cond 47 (sR (o1 48 (.ld (some 6) 2)<|om 49 7<|o0 (.st 6 4 48)<|om 5 49 .done) .ret) .skip)) (.seq (.reg true (p1 50 (.ld (some 6) 2)<|pm 51 1<|p1 52 (.idx 6 51 z0)<|p1 53 (.ld (some 6) 52)<|p1 54 (.ld (some 6) 6)<|oc 55 a3 [50,53,54]<|p1 56 (.ext 55 0)<|p1 57 (.ext 55 1) (.bar (o0 (.st 6 4 56) (pm 5 57 .done))))) .ret)))))))⟩
set_option maxHeartbeats 2000000 in
def Tl(hd:dec P f=some (O6 f1 f2 f f3))(h1:I9 P f1)(h2:Jc P f2)(h3:NS P f3):MA P f:=by
 intro l;induction l with
 |nil=>
  intro d cs w v hv hg hb hw hll
  obtain⟨a,c,rfl⟩:=RSl.val hw
  refine Bf hd (No rfl) ?_
  obtain⟨c0,c1,c2,c3,c4,c5,rfl⟩:=six hv.len
  show gwp P _ _ _ _ _
  apply Ah;apply Ax
  refine AR (l:=[c0,c1,c2,c3,c4,c5]) rfl (fun b2 T2=>?_)
  have hz:(([]:List St).length:Int)=0:=rfl
  (refine AV (fun _ _=>Ab rfl<|Aa<|Ah<|Ac<|Ar rfl<|Ay rfl<|Aa<|As<|Ac<|At rfl rfl<|Ad rfl<|Aa<|Au rfl (by omega)<|Ac<|Bz ?_))
  refine AA 0 [vZ 0,vZ 0,vZ 0,Al [],.slice none 0 0,.slice none 0 0] rfl rfl rfl rfl (No rfl) rfl rfl ?_
  (refine Ab rfl<|Aa<|Aq ?_)
  exact Bx 0 rfl rfl rfl Aw.zero
 |cons s l ih=>
  intro d cs w v hv hg hb hw hll
  have n1:=RSl.A2 hw
  obtain⟨a,c,rfl⟩:=RSl.val hw
  have hw':=hw
  have hcb:=EM v
  refine Bf hd (No rfl) ?_
  have hv0:=hv
  obtain⟨c0,c1,c2,c3,c4,c5,rfl⟩:=six hv.len
  show gwp P _ _ _ _ _
  apply Ah;apply Ax
  refine AR (l:=[c0,c1,c2,c3,c4,c5]) rfl (fun b2 T2=>?_)
  (refine AV (fun _ _=>Ab rfl<|Aa ?_))
  rename_i b4 T4
  cases l with
  |nil=>
   have hz:(([s]:List St).length:Int)=1:=rfl
   (refine Ah<|Ac<|Ar rfl<|Ay rfl<|Aa<|As<|Ac<|At rfl rfl<|Ad rfl<|Aa<|An rfl (by omega)<|Ac<|At rfl rfl<|Ad rfl<|Aa<|Au rfl (by omega)<|Ah ?_)
   refine Bp ?_
   (refine AE 1 rfl rfl rfl<|Ar rfl<|AN (m:=0) (sz:=6) (R:=RSt) (by rfl) (by assumption) (by rfl) rfl (by omega) ?_;rintro _ _ _ _ _ ⟨rfl,_,_,_,_⟩;apply B5;rfl;assumption;rfl)
   rename_i hcs hD ik' it' is id
   refine AQ rfl (h1 hv (Ej hg) ⟨rfl,ik',it',is,id⟩ (by omega)) (fun r d5 L5 hl5 ⟨hL,cs',hr,hR2⟩=>?_)
   subst hL;subst hr
   obtain⟨g0,g1,g2,g3,g4,g5,rfl⟩:=six hR2.len
   (refine AH rfl rfl<|AH rfl rfl<|Cr ?_)
   refine AA 0 [g0,g1,g2,g3,g4,g5] rfl rfl rfl rfl (No rfl) (AK _ _ _ hR2) rfl ?_
   (refine Ab rfl<|Aa<|Aq ?_)
   exact Bx 0 rfl rfl rfl hR2
  |cons s2 l=>
  have hz:((s::s2::l).length:Int)=l.length+2:=by simp;omega
  have hcnt:=KU (s2::l) (AW v s).1 (X6 (Eh v s) hb)
  have hll':(s2::l).length≤99:=by rw[Xv] at hll;omega
  (refine Ah<|Ac<|Ar rfl<|Ay rfl<|Aa<|As<|Ac<|At rfl rfl<|Ad rfl<|Aa<|An rfl (by omega)<|Ac<|At rfl rfl<|Ad rfl<|Aa<|An rfl (by omega) ?_)
  apply Ao
  refine DY (fun ρ d' L'=>d'=d∧∃b6 T6 e1 e2 e3 e4 e5,Bi ρ [(1,.slice a (s::s2::l).length c),(2,pZ b2),(4,pZ b4),(6,pZ b6),(7,vZ (AW v s).2)]∧Aw d [vZ (AW v s).1.kind,e1,e2,e3,e4,e5] (AW v s).1∧
   L'=[bx b4 T4 [vZ 0,vZ 0,vZ 0,Al [],.slice none 0 0,.slice none 0 0],bx b2 T2 [c0,c1,c2,c3,c4,c5],bx b6 T6 [vZ (AW v s).1.kind,e1,e2,e3,e4,e5]]) ?_ ?_
  ·refine Bp ?_
   (refine Ar rfl<|AN (m:=0) (sz:=6) (R:=RSt) (by rfl) (by assumption) (by rfl) rfl (by omega) ?_;rintro _ _ _ _ _ ⟨rfl,_,_,_,_⟩;apply B5;rfl;assumption;rfl)
   rename_i hcs hD ik' it' is id
   have hS:RSt d [vZ s.kind,Al s.text,vZ s.src,vZ s.dst,.bool s.hf,.bool s.ht] s:=⟨rfl,ik',it',is,id⟩
   refine Ee ?_ ?_
   ·(apply AE 1;rfl;rfl;rfl)
    refine Ee ?_ ?_
    ·refine AQ rfl (h2 hv (Ej hg) (FD hg) hS) (fun r d3 L3 _ ⟨hdd,hL,cs',hr,hR'⟩=>?_)
     subst hdd;subst hL;subst hr
     obtain⟨lv',kv',rfl,_⟩:=hR'.open
     (refine A9 rfl<|AH rfl rfl<|AH rfl rfl<|AV (fun _ _=>?_))
     rename_i b6 T6
     refine AA 0 [vZ (AW v s).1.kind,vZ (AW v s).1.m,vZ (AW v s).1.e,Al (AW v s).1.text,lv',kv'] rfl rfl rfl rfl (No rfl) (AK _ _ _ hR') rfl ?_
     (refine Ab rfl<|Bo ?_)
     exact⟨rfl,b6,T6,_,_,_,_,_,⟨rfl,rfl,rfl,rfl,rfl,trivial⟩,hR',rfl⟩
    ·(apply AV;intro _ _)
     rename_i b6 T6
     refine AQ rfl (h2 hv (Ej hg) (FD hg) hS) (fun r d3 L3 _ ⟨hdd,hL,cs',hr,hR'⟩=>?_)
     subst hdd;subst hL;subst hr
     obtain⟨lv',kv',rfl,_⟩:=hR'.open
     (refine A9 rfl<|AH rfl rfl<|AH rfl rfl ?_)
     refine AA 0 [vZ (AW v s).1.kind,vZ (AW v s).1.m,vZ (AW v s).1.e,Al (AW v s).1.text,lv',kv'] rfl rfl rfl rfl (No rfl) (AK _ _ _ hR') rfl ?_
     (refine Ab rfl<|Bo ?_)
     exact⟨rfl,b6,T6,_,_,_,_,_,⟨rfl,rfl,rfl,rfl,rfl,trivial⟩,hR',rfl⟩
   ·(refine AV (fun _ _=>AE 1 rfl rfl rfl ?_))
    rename_i b6 T6
    refine AQ rfl (h2 hv (Ej hg) (FD hg) hS) (fun r d3 L3 _ ⟨hdd,hL,cs',hr,hR'⟩=>?_)
    subst hdd;subst hL;subst hr
    obtain⟨lv',kv',rfl,_⟩:=hR'.open
    (refine A9 rfl<|AH rfl rfl<|AH rfl rfl ?_)
    refine AA 0 [vZ (AW v s).1.kind,vZ (AW v s).1.m,vZ (AW v s).1.e,Al (AW v s).1.text,lv',kv'] rfl rfl rfl rfl (No rfl) (AK _ _ _ hR') rfl ?_
    (refine Ab rfl<|Bo ?_)
    exact⟨rfl,b6,T6,_,_,_,_,_,⟨rfl,rfl,rfl,rfl,rfl,trivial⟩,hR',rfl⟩
  rintro ρ d' L' ⟨hdd,b6,T6,e1,e2,e3,e4,e5,hsl,hR,hL⟩
  subst hdd;subst hL
  refine BQ _ hsl ?_
  clear hsl
  rw[CE]
  by_cases he:(AW v s).2≠0
  ·rw[if_pos (.inl he)]
   (refine Ah<|Ac<|Ab rfl<|AB rfl rfl<|Ad rfl<|AF rfl (by omega)<|Aj rfl<|Aj rfl<|Aj rfl<|Ap rfl rfl<|Aa<|Bd rfl<|Ac<|AE 1 rfl rfl rfl<|Ab rfl ?_)
   refine AA 0 [c0,c1,c2,c3,c4,c5] rfl rfl rfl rfl (No rfl) (AK _ _ _ hv0) rfl ?_
   (refine Ab rfl<|Aa<|Aq ?_)
   exact Bx 0 rfl rfl rfl hv0
  by_cases hk0:(AW v s).1.kind=0
  ·rw[if_pos (.inr hk0)]
   (refine Ah<|Ac<|Ab rfl<|AB rfl rfl<|Ad rfl<|Az rfl (by omega)<|Af rfl<|Ag rfl<|Af rfl<|Ai rfl (Ak 2 rfl rfl)<|Af rfl<|At rfl rfl<|Am rfl rfl<|Aa<|Au rfl (by omega)<|Ac<|AE 1 rfl rfl rfl<|Ab rfl ?_)
   refine AA 0 [c0,c1,c2,c3,c4,c5] rfl rfl rfl rfl (No rfl) (AK _ _ _ hv0) rfl ?_
   (refine Ab rfl<|Aa<|Aq ?_)
   exact Bx 0 rfl rfl rfl hv0
  rw[if_neg (fun h=>h.elim he hk0)]
  (refine Ah<|Ac<|Ab rfl<|AB rfl rfl<|Ad rfl<|Az rfl (by omega)<|Af rfl<|Ag rfl<|Af rfl<|Ai rfl (Ak 2 rfl rfl)<|Af rfl<|At rfl rfl<|Am rfl rfl<|Aa<|An rfl (by omega)<|Ao<|Ah ?_)
  refine Ek [bx b4 T4 [vZ 0,vZ 0,vZ 0,Al [],.slice none 0 0,.slice none 0 0],bx b2 T2 [c0,c1,c2,c3,c4,c5]] [bx b6 T6 [vZ (AW v s).1.kind,e1,e2,e3,e4,e5]] rfl ?_
  (apply Ar;rfl)
  refine GF (n:=1) rfl hw' rfl rfl (by simp) (fun v' hv'=>?_)
  (apply AE 2;rfl;rfl;rfl)
  refine AQ rfl (ih hR (HP hg s) (X6 (Eh v s) hb) hv' (by omega)) (fun r d4 L4 hl4 ⟨hL,cs',hr,hR'⟩=>?_)
  subst hL;subst hr
  obtain⟨f0,f1,f2,f3,f4,f5,rfl⟩:=six hR'.len
  (refine A9 rfl<|AH rfl rfl<|AH rfl rfl ?_)
  refine AA 0 [f0,f1,f2,f3,f4,f5] rfl rfl rfl rfl (No rfl) (AK _ _ _ hR') rfl ?_
  have hv4:=Aw.mono hl4 hv0
  by_cases he2:(CE (AW v s).1 (s2::l)).2≠0
  ·rw[if_pos he2]
   (refine Ab rfl<|Bo<|Ah<|Ac<|Ab rfl<|AB rfl rfl<|Aa<|Au rfl (by omega)<|Ac<|AE 1 rfl rfl rfl<|Ab rfl ?_)
   refine AA 0 [c0,c1,c2,c3,c4,c5] rfl rfl rfl rfl (No rfl) (AK _ _ _ hv0) rfl ?_
   (refine Ab rfl<|Aa<|Aq ?_)
   exact Bx 0 rfl rfl rfl hv4
  rw[if_neg he2]
  have hw4:RSl 6 RSt d4 (.slice a (s::s2::l).length c) (s::s2::l):=RSl.mono (R:=RSt) (fun hl h=>h) hw' hl4
  (refine Ab rfl<|Bo<|Ah<|Ac<|Ab rfl<|AB rfl rfl<|Aa<|An rfl (by omega)<|Ao<|Ah ?_)
  refine Bp ?_
  (refine AE 1 rfl rfl rfl<|Ar rfl<|AN (m:=0) (sz:=6) (R:=RSt) (by rfl) (by assumption) (by rfl) rfl (by omega) ?_;rintro _ _ _ _ _ ⟨rfl,_,_,_,_⟩;refine B5 rfl (by assumption) rfl<|AE 2 rfl rfl rfl ?_)
  rename_i hcs hD ik' it' is id
  refine AQ rfl (h3 hv4 (Ej hg) ⟨rfl,ik',it',is,id⟩ hR' (by omega)) (fun r d5 L5 hl5 ⟨hL,cs',hr,hR2⟩=>?_)
  subst hL;subst hr
  obtain⟨g0,g1,g2,g3,g4,g5,rfl⟩:=six hR2.len
  (refine AH rfl rfl<|AH rfl rfl<|Cr ?_)
  refine AA 0 [g0,g1,g2,g3,g4,g5] rfl rfl rfl rfl (No rfl) (AK _ _ _ hR2) rfl ?_
  (refine Ab rfl<|Aa<|Aq ?_)
  exact Bx 0 rfl rfl rfl hR2
def CP(v:V)(l:List St):V×Int:=if Cx v l≠0 then(V.zero,Cx v l) else if (CE v l).2≠0 then(V.zero,(CE v l).2) else((CE v l).1,0)
def OZ(T:Ae→Prop)(P:Program)(f:FuncId):Prop:=∀{d cs w}{v:V}{l:List St},T d→Aw d cs v→RSl 6 RSt d w l→BD v≤1000000→l.length≤100→
 AY P f [.agg cs.toArray,w] d [] (Ret fun r d' L'=>d'=d∧∃cs' h,r=.tuple #[.agg cs'.toArray,vZ (CP v l).2]∧L'=[h]∧B7 cs' (CP v l).1 h)
def Po(a0 a1 a2:Nat):A0:=⟨28,[(.cell 4 (some 6)),(.tmp 5)],(sR (o1 2 (.box 0)<|o1 4 (.alo (.agg #[(vZ 0),(vZ 0),(vZ 0),(Al []),(.slice none 0 0),(.slice none 0 0)]))<|o1 5 (.mv z0) .done) (.seq (sR (o1 9 (.ld (some 6) 2)<|om 10 1<|oc 11 a0 [9,10]<|om 6 11 .done) (sR (om 12 6<|ob 13 .neq 12 z0 .done) (.cond 13 (sR (o1 14 (.bld [(0,1),(1,2),(3,1),(4,1),(5,1)] [(vZ 0),(vZ 0),(vZ 0),(Al []),(.slice none 0 0),(.slice none 0 0)] [])<|om 15 6<|o0 (.st 6 4 14)<|om 5 15 .done) .ret) .skip))) (sR (o1 17 (.ld (some 6) 2)<|om 18 1<|oc 19 a1 [17,18]<|om 16 19<|oe 20 16 0<|oe 21 16 1<|o1 7 (.alo (.agg #[(vZ 0),(vZ 0),(vZ 0),(Al []),(.slice none 0 0),(.slice none 0 0)]))<|o0 (.st 6 7 20)<|om 8 21 .done) (.seq (sR (om 22 8<|ob 23 .neq 22 z0 .done) (.cond 23 (sR (o1 24 (.bld [(0,1),(1,2),(3,1),(4,1),(5,1)] [(vZ 0),(vZ 0),(vZ 0),(Al []),(.slice none 0 0),(.slice none 0 0)] [])<|om 25 8<|o0 (.st 6 4 24)<|om 5 25 .done) .ret) .skip)) (sR (o1 26 (.ld (some 6) 7)<|oc 27 a2 [26]<|o0 (.st 6 4 27)<|o1 5 (.mv z0) .done) .ret)))))⟩
def Vp{T:Ae→Prop}(hd:dec P f=some (Po f1 f2 f3))(h1:HN T P f1)(h2:MA P f2)(h3:Fy P f3):OZ T P f:=by
 intro d cs w v l ht hv hw hbv hll;have n1:=RSl.A2 hw;obtain⟨a,c,rfl⟩:=RSl.val hw;have hcnt:=KU l v hbv;refine AY.forget (Q:=fun r L'=>∃cs' h,r=.tuple #[.agg cs'.toArray,vZ (CP v l).2]∧L'=[h]∧B7 cs' (CP v l).1 h) ?_;refine Bf hd (No rfl) ?_;obtain⟨c0,c1,c2,c3,c4,c5,rfl⟩:=six hv.len;show gwp P _ _ _ _ _;apply Ah;apply Ax;refine AR (l:=[c0,c1,c2,c3,c4,c5]) rfl (fun b2 T2=>?_);(refine AV (fun _ _=>Ab rfl<|Aa<|Ah<|Ac<|AE 1 rfl rfl rfl<|Ar rfl ?_));rename_i b4 T4;refine AD rfl (h1 ht hv hw) ?_;by_cases q3:Cx v l≠0
 ·rw[CP,if_pos q3];(refine Ab rfl<|Aa<|Ac<|Ab rfl<|AB rfl rfl<|Aa<|Au rfl (by omega)<|Ac<|Bz<|Ab rfl ?_);refine AA 0 [vZ 0,vZ 0,vZ 0,Al [],.slice none 0 0,.slice none 0 0] rfl rfl rfl rfl (No rfl) rfl rfl ?_;(refine Ab rfl<|Aa<|Aq ?_);exact E3 0 rfl rfl rfl B7.zero CS
 rw[CP,if_neg q3];have hgd:=IC (Kg (v:=v) (l:=l) (by omega)) (by omega);(refine Ab rfl<|Aa<|Ac<|Ab rfl<|AB rfl rfl<|Aa<|An rfl (by omega)<|Ao<|Ac<|AE 1 rfl rfl rfl<|Ar rfl ?_);refine AQ rfl (h2 l hv hgd hbv hw hll) (fun r d2 L2 hl2 ⟨hL,cs',hr,hR⟩=>?_);subst hL;subst hr;obtain⟨f0,f1',f2',f3',f4',f5,rfl⟩:=six hR.len;(refine A9 rfl<|AH rfl rfl<|AH rfl rfl<|AV (fun _ _=>?_));rename_i b7 T7;refine AA 0 [f0,f1',f2',f3',f4',f5] rfl rfl rfl rfl (No rfl) (AK _ _ _ hR) rfl ?_;by_cases q4:(CE v l).2≠0
 ·rw[if_pos q4];(refine Ab rfl<|Aa<|Ah<|Ac<|Ab rfl<|AB rfl rfl<|Aa<|Au rfl (by omega)<|Ac<|Bz<|Ab rfl ?_);refine AA 1 [vZ 0,vZ 0,vZ 0,Al [],.slice none 0 0,.slice none 0 0] rfl rfl rfl rfl (No rfl) rfl rfl ?_;(refine Ab rfl<|Aa<|Aq ?_);exact E3 1 rfl rfl rfl B7.zero CS
 rw[if_neg q4];(refine Ab rfl<|Aa<|Ah<|Ac<|Ab rfl<|AB rfl rfl<|Aa<|An rfl (by omega)<|Ao<|Ac<|AE 0 rfl rfl rfl ?_);refine AQ rfl (h3 _ hR (by omega)) (fun r d3 L3 _ ⟨hdd,cs',g,hr,hL,ho⟩=>?_);subst hdd;subst hL;subst hr;obtain⟨e0,e1,e2,e3,e4,e5,rfl⟩:=six ho.cells.1;refine AA 2 [e0,e1,e2,e3,e4,e5] rfl rfl rfl rfl (No rfl) ho.cells.2 rfl ?_;(refine Ab rfl<|Aa<|Aq ?_);exact E3 2 rfl rfl rfl ho (Vs.drop ((Xm _).cons_cons _))
end Go.Gk.Val
end
section
namespace Go.Gk.Val
open Go Go.Gk Go.Gk.Utf
section
attribute [local irreducible] gwp gws
end
end Go.Gk.Val
end
section
namespace Go.Gk
open Go
section
section
variable {P:Program}{pan:List PanicEntry→AT}{Qn:Env→AT}{Ls L:List Ae}{ρ:Env}{d:Ae}{s:GS}{t:Nat}{tk:Bool}
def Pr{y l}(ey:ev ρ y=Al l)(h:gws P pan Qn s Ls (upd ρ t (.agg [vZ 0,Al l,vZ 0,vZ 0,.bool false,.bool false].toArray)) d L):
  gws P pan Qn (.op tk ⟨some t,none,.bld [(0,1),(1,1),(2,1),(3,1),(4,1),(5,1)] [vZ 0,Al [],vZ 0,vZ 0,.bool false,.bool false] [(0,.const (vZ 0)),(1,y)]⟩ s) Ls ρ d L:=
 BF (cs:=[vZ 0,Al l,vZ 0,vZ 0,.bool false,.bool false]) (by have e0:ev ρ (.const (vZ 0))=vZ 0:=rfl;simp[Instr.fill,e0,ey,Value.cells,Al]) h
def Jl{y}{a:Int}(ey:ev ρ y=vZ a)(h:gws P pan Qn s Ls (upd ρ t (.agg [vZ 1,Al [],vZ a,vZ 0,.bool false,.bool false].toArray)) d L):
  gws P pan Qn (.op tk ⟨some t,none,.bld [(0,1),(1,1),(2,1),(3,1),(4,1),(5,1)] [vZ 0,Al [],vZ 0,vZ 0,.bool false,.bool false] [(0,.const (vZ 1)),(2,y)]⟩ s) Ls ρ d L:=
 BF (cs:=[vZ 1,Al [],vZ a,vZ 0,.bool false,.bool false]) (by have e0:ev ρ (.const (vZ 1))=vZ 1:=rfl;simp[Instr.fill,e0,ey,Value.cells,Al]) h
end
end
end Go.Gk
end
section
namespace Go.Gk.Val
open Go Go.Gk Go.Gk.Utf
section
attribute [local irreducible] gwp gws
end
end Go.Gk.Val
end
section
namespace Go.Gk.Val
open Go Go.Gk
section
section
variable {H:Type}{enc:TypeId×Value→H}{P:Program}{W:World}
def W4{t ti ts tb}(hf:∃fs:Array Field,P.underlying t=some (.struct fs)∧(fs[0]?).map (fun f=>(f.offset,f.type))=some (0,ti)∧(fs[1]?).map (fun f=>(f.offset,f.type))=some (1,ts)∧(fs[2]?).map (fun f=>(f.offset,f.type))=some (2,ti)∧
   (fs[3]?).map (fun f=>(f.offset,f.type))=some (3,ti)∧(fs[4]?).map (fun f=>(f.offset,f.type))=some (4,tb)∧(fs[5]?).map (fun f=>(f.offset,f.type))=some (5,tb))
  (c:P.cellsOf t=6) (ci:P.cellsOf ti=1) (cs:P.cellsOf ts=1) (cb:P.cellsOf tb=1) (ui:P.underlying ti=some (.int .i64)) (us:P.underlying ts=some .string) (ub:P.underlying tb=some .bool):Rd enc P W t RSt:=by
 intro held fuel cs' x h hw
 obtain⟨fs,hu,f0,f1,f2,f3,f4,f5⟩:=hf
 obtain⟨hl,hfs⟩:=Nb hu h hw
 obtain⟨k,e0,hk⟩:=hfs 0 0 ti 1 f0 ci (GV ui)
 obtain⟨s,e1,hs⟩:=hfs 1 1 ts 1 f1 cs (Pk us)
 obtain⟨a,e2,ha⟩:=hfs 2 2 ti 1 f2 ci (GV ui)
 obtain⟨b,e3,hb⟩:=hfs 3 3 ti 1 f3 ci (GV ui)
 obtain⟨p,e4⟩:=hfs 4 4 tb 1 f4 cb (Qf ub)
 obtain⟨q,e5⟩:=hfs 5 5 tb 1 f5 cb (Qf ub)
 obtain⟨a0,a1,a2,a3,a4,a5,rfl⟩:=six (hl.trans c)
 simp only[List.drop,List.take,List.cons.injEq,and_true] at e0 e1 e2 e3 e4 e5
 subst e0;subst e1;subst e2;subst e3;subst e4;subst e5
 exact⟨⟨k,s,a,b,p,q⟩,rfl,hk,hs,ha,hb⟩
end
end
end Go.Gk.Val
end
section
namespace Go.Gk.Val
open Go Go.Gk Go.Gk.Utf
attribute [local irreducible] gwp gws
mutual
def Fi:V→Nat
 |.mk _ _ _ _ l _=>CZ l+1
def CZ:List V→Nat
 |[]=>0
 |x::l=>Fi x+CZ l
end
def Pb(v:V):Fi v=CZ v.list+1:=by obtain⟨k,m,e,t,l,ks⟩:=v;rfl
def Q6(l:List V)(x:V):CZ (l++[x])=CZ l+Fi x:=by
 induction l with
 |nil=>simp[CZ]
 |cons a l ih=>simp only[XF,CZ,ih];omega
def Il:∀(l:List V) (i:Nat),CZ (l.take i)≤CZ l
 |[],i=>by simp
 |x::l,0=>by simp[CZ]
 |x::l,i+1=>by have:=Il l i;simp only[Ys,CZ];omega
def TO{x:V}{l:List V}(h:x∈l):Fi x≤CZ l:=by
 induction l with
 |nil=>cases h
 |cons a l ih=>
  simp only[CZ]
  rcases Xu.1 h with rfl|h
  ·omega
  ·have:=ih h;omega
mutual
def Nf:∀v:V,Fi v≤CV v
 |.mk k m e t l ks=>by
  have h1:=LV l;have h2:=G5 (.mk k m e t l ks);simp only[Fi];simp only[V.list] at h2;omega
def LV:∀l:List V,CZ l≤Dg l
 |[]=>by simp[CZ,Dg]
 |x::l=>by
  have h1:=Nf x;have h2:=LV l;simp only[CZ,Dg];omega
end
def Mb(P:Program)(f:FuncId):Prop:=∀(v:V) {d cs},Aw d cs v→Fi v≤1000000000→AG P f [.agg cs.toArray] d (vZ (Fi v))
def N6(a0:Nat):A0:=⟨19,[(.tmp 2)],(sR (o1 1 (.box 0)<|o1 2 (.mv z0) .done) (sR (o1 3 (.mv z1) .done) (.seq (sR (oj 6 4 1<|ol 7 6<|oL 8 7<|o1 9 (.mv z0) .done) (.block 0 (.loop (sR (ob 10 .lss 9 8 .done) (.seq (.cond 10 .skip (.exit 0)) (.seq (.block 1 (sR (oI 11 6 7 9<|o1 12 (.ld (some 6) 11)<|o1 5 (.alo (.agg #[(vZ 0),(vZ 0),(vZ 0),(Al []),(.slice none 0 0),(.slice none 0 0)]))<|o0 (.st 6 5 12) .done) (rG (om 13 3<|o1 14 (.ld (some 6) 5)<|oc 15 a0 [14]<|ob 16 .add 13 15<|om 3 16 .done)))) (rG (ob 17 .add 9 z1<|om 9 17 .done)))))))) (sR (om 18 3<|om 2 18 .done) .ret))))⟩
set_option maxHeartbeats 1000000 in
def Ty{P f}(hd:dec P f=some (N6 f)):Mb P f:=by
 intro v;induction v using V.ind with
 |h v ih=>
 intro d cs hv hb;refine AG.of' hd (No rfl) ?_;have he:=Pb v;obtain⟨lv,kv,rfl,ik,im,ie,it,hl,hks⟩:=hv.open;obtain⟨la,lc,rfl⟩:=RSl.val hl;have hll:=RSl.A2 hl;have hl':RSl 6 Aw d (.slice la v.list.length lc) v.list:=hl;show gwp P _ _ _ _ _;apply Ah;apply Ax;refine AR (l:=[vZ v.kind,vZ v.m,vZ v.e,Al v.text,.slice la v.list.length lc,kv]) rfl (fun b1 T1=>?_);(refine Ab rfl<|Aa<|Ac<|Ab rfl<|Aa<|Ah<|Ac<|Ag rfl<|Ai rfl (Ak 0 rfl rfl)<|Ay rfl<|Ab rfl<|Aa<|As ?_);refine A6 (α:=Nat) (fun i=>[(3,vZ (1+CZ (v.list.take i))),(7,.slice la v.list.length lc),(8,vZ v.list.length),(9,vZ i)])
  (fun i d' L'=>d'=d∧i≤v.list.length) (fun i=>v.list.length - i) 0 ⟨int_eq (by simp[CZ]),rfl,rfl,rfl,trivial⟩ ⟨rfl,Xw _⟩ ?_
 rintro i ρ d' L' ⟨hdd,hi⟩;subst hdd;have hti:=Il v.list i;have hlx:RSl 6 Aw d' (.slice la v.list.length lc) v.list:=hl';by_cases hc:i<v.list.length
 ·have hm:=TO (Xh hc);have hti2:=Il v.list (i+1);have hsn:CZ (v.list.take (i+1))=CZ (v.list.take i)+Fi v.list[i]:=by rw[Xi hc,Q6]
  (refine Ac<|Av rfl rfl<|Aa<|Ah<|Au rfl (by omega)<|Ao<|Ah<|As<|Ac<|AN (sz:=6) (R:=Aw) (by rfl) (by assumption) (by rfl) rfl (by omega) ?_;rintro _ _ _ _ _ _;refine B5 rfl (by assumption) (by assumption)<|AV (fun _ _=>?_));rename_i cs hcs hD hR b6 T6;obtain⟨c0,c1,c2,c3,c4,c5,rfl⟩:=six hcs;refine AA 0 [c0,c1,c2,c3,c4,c5] rfl rfl rfl rfl (No rfl) (AK _ _ _ hR) rfl ?_;(refine Aa<|Ax<|Ab rfl<|AE 0 rfl rfl rfl ?_);refine AD rfl (ih _ (Xh hc) hR (by omega)) ?_;(refine AI rfl rfl (by omega) (by omega)<|Ab rfl<|Aa<|Ax<|AI rfl rfl (by omega) (by omega)<|Ab rfl<|Aa ?_);exact⟨i+1,by omega,⟨int_eq (by omega),rfl,rfl,int_eq (by omega),trivial⟩,rfl,hc⟩
 ·obtain rfl:i=v.list.length:=by omega
  rw[Xz] at hti⊢;(refine Ac<|Av rfl rfl<|Aa<|Ah<|An rfl (by omega)<|AU<|Ac<|Ab rfl<|Ab rfl<|Aa<|Aq ?_);apply Dt;rfl;omega
def IG(P:Program)(f:FuncId):Prop:=∀{d v w a b},B9 d v a→B9 d w b→AG P f [v,w] d (.bool (decide (a=b)))
def Ft:A0:=⟨26,[(.tmp 4)],(sR (o1 4 (.mv (.const (.bool false))) .done) (.seq (sR (om 6 0<|oL 7 6<|om 8 1<|oL 9 8<|ob 10 .neq 7 9 .done) (.cond 10 (sR (o1 4 (.mv (.const (.bool false))) .done) .ret) .skip)) (.seq (sR (om 11 0<|oL 12 11<|o1 13 (.mv z0) .done) (.block 0 (.loop (sR (ob 14 .lss 13 12 .done) (.seq (.cond 14 .skip (.exit 0)) (.seq (.block 1 (sR (om 15 13<|om 5 15 .done) (.seq (.reg true (pm 16 0<|pm 17 5<|p1 18 (.idx 1 16 17)<|pl 19 18<|pm 20 1<|pm 21 5<|p1 22 (.idx 1 20 21)<|pl 23 22<|p1 24 (.bin .neq 19 23) .done)) (.cond 24 (sR (o1 4 (.mv (.const (.bool false))) .done) .ret) .skip)))) (rG (ob 25 .add 13 z1<|om 13 25 .done)))))))) (sR (o1 4 (.mv (.const (.bool true))) .done) .ret))))⟩
def Si{P f}(hd:Xc P f=some Ft):IG P f:=by
 intro d v w a b hv hw;have n1:=RSl.A2 hv;have n2:=RSl.A2 hw;obtain⟨pa,ca,rfl⟩:=RSl.val hv;obtain⟨pb,cb,rfl⟩:=RSl.val hw;have hv':RSl 1 Bk d (.slice pa a.length ca) a:=hv;have hw':RSl 1 Bk d (.slice pb b.length cb) b:=hw;refine AG.of' hd (No rfl) ?_;show gwp P _ _ _ _ _;by_cases hlen:(a.length:Int)≠b.length
 ·(refine Ac<|Ad rfl<|Aa<|Ah<|Ac<|Ar rfl<|Ay rfl<|Ar rfl<|Ay rfl<|AB rfl rfl<|Aa<|Au rfl (by omega)<|Ac<|Ad rfl<|Aa<|Aq ?_);apply A1;rfl;rw[eq_comm,decide_eq_false_iff_not];intro e;subst e;exact hlen rfl
 have hlen':a.length=b.length:=by omega
 have hlz:(a.length:Int)=b.length:=by omega
 (refine Ac<|Ad rfl<|Aa<|Ah<|Ac<|Ar rfl<|Ay rfl<|Ar rfl<|Ay rfl<|AB rfl rfl<|Aa<|An rfl (by omega)<|Ao<|Ah<|Ac<|Ar rfl<|Ay rfl<|Ab rfl<|Aa<|As ?_);refine Dy (α:=Nat) (fun i=>[(0,.slice pa a.length ca),(1,.slice pb b.length cb),(12,vZ a.length),(13,vZ i)]) (fun _=>[]) (fun i=>i≤a.length∧a.take i=b.take i) (fun i=>a.length - i) 0 ⟨rfl,rfl,rfl,rfl,trivial⟩ rfl ⟨Xw _,rfl⟩ ?_;rintro i ρ ⟨hi,heq⟩;by_cases hc:i<a.length
 ·have hcb:i<b.length:=by omega
  by_cases he:a[i]≠b[i]
  ·(refine Ac<|Av rfl rfl<|Aa<|Ah<|Au rfl (by omega)<|Ao<|Ah<|As<|Ac<|Ab rfl<|Ab rfl<|Aa<|Ah<|Bp<|Ar rfl<|Ab rfl<|AN (sz:=1) (R:=Bk) (by rfl) (by assumption) (by rfl) rfl (by omega) ?_;rintro _ _ _ _ _ ⟨rfl,_⟩;refine Ai rfl (Bb (by assumption) rfl)<|Ar rfl<|Ab rfl<|AN (sz:=1) (R:=Bk) (by rfl) (by assumption) (by rfl) rfl (by omega) ?_;rintro _ _ _ _ _ ⟨rfl,_⟩;refine Ai rfl (Bb (by assumption) rfl)<|CO rfl rfl<|Aa<|Au rfl (by omega)<|Ac<|Ad rfl<|Aa<|Aq ?_);apply A1;rfl;rw[eq_comm,decide_eq_false_iff_not];intro e;subst e;exact he rfl
  ·(refine Ac<|Av rfl rfl<|Aa<|Ah<|Au rfl (by omega)<|Ao<|Ah<|As<|Ac<|Ab rfl<|Ab rfl<|Aa<|Ah<|Bp<|Ar rfl<|Ab rfl<|AN (sz:=1) (R:=Bk) (by rfl) (by assumption) (by rfl) rfl (by omega) ?_;rintro _ _ _ _ _ ⟨rfl,_⟩;refine Ai rfl (Bb (by assumption) rfl)<|Ar rfl<|Ab rfl<|AN (sz:=1) (R:=Bk) (by rfl) (by assumption) (by rfl) rfl (by omega) ?_;rintro _ _ _ _ _ ⟨rfl,_⟩;refine Ai rfl (Bb (by assumption) rfl)<|CO rfl rfl<|Aa<|An rfl (by omega)<|Ao<|Ax<|AI rfl rfl (by omega) (by omega)<|Ab rfl<|Aa ?_);have he':a[i]=b[i]:=by simpa using he
   exact⟨i+1,by omega,⟨rfl,rfl,rfl,int_eq (by omega),trivial⟩,rfl,rfl,hc,by rw[Xi hc,Xi hcb,heq,he']⟩
 ·obtain rfl:i=a.length:=by omega
  rw[Xz,hlen',Xz] at heq;(refine Ac<|Av rfl rfl<|Aa<|Ah<|An rfl (by omega)<|AU<|Ac<|Ad rfl<|Aa<|Aq ?_);apply A1;rfl;rw[eq_comm,decide_eq_true_eq];exact heq
def Iu{l m:List V}:Fj l m=true↔l=m:=Jd fun x _ y=>C2 x y
def KF(P:Program)(f:FuncId):Prop:=∀{d v w}{l m:List V}{g},BY d v l→BY d w m→(∀x∈l,∀y cs ds,Aw d cs x→Aw d ds y→AG P g [.agg cs.toArray,.agg ds.toArray] d (.bool (CF x y)))→
 AG P f [v,w,.func (.func g) #[] #[]] d (.bool (Fj l m))
def CN:A0:=⟨32,[(.tmp 6)],(sR (o1 6 (.mv (.const (.bool false))) .done) (.seq (sR (om 10 0<|oL 11 10<|om 12 1<|oL 13 12<|ob 14 .neq 11 13 .done) (.cond 14 (sR (o1 6 (.mv (.const (.bool false))) .done) .ret) .skip)) (.seq (sR (om 15 0<|oL 16 15<|o1 17 (.mv z0) .done) (.block 0 (.loop (sR (ob 18 .lss 17 16 .done) (.seq (.cond 18 .skip (.exit 0)) (.seq (.block 1 (sR (om 19 17<|oI 20 6 15 17<|o1 21 (.ld (some 6) 20)<|o1 8 (.alo (.agg #[(vZ 0),(vZ 0),(vZ 0),(Al []),(.slice none 0 0),(.slice none 0 0)]))<|om 7 19<|o0 (.st 6 8 21) .done) (sR (om 22 1<|om 23 7<|oI 24 6 22 23<|o1 25 (.ld (some 6) 24)<|o1 9 (.alo (.agg #[(vZ 0),(vZ 0),(vZ 0),(Al []),(.slice none 0 0),(.slice none 0 0)]))<|o0 (.st 6 9 25) .done) (sR (om 26 2<|o1 27 (.ld (some 6) 8)<|o1 28 (.ld (some 6) 9)<|o1 29 (.callv 26 [27,28])<|o1 30 (.un .not 29) .done) (.cond 30 (sR (o1 6 (.mv (.const (.bool false))) .done) .ret) .skip))))) (rG (ob 31 .add 17 z1<|om 17 31 .done)))))))) (sR (o1 6 (.mv (.const (.bool true))) .done) .ret))))⟩
set_option maxHeartbeats 1000000 in
def R5{P f}(hd:dec P f=some CN):KF P f:=by
 intro d v w a b g hv hw hg;have n1:=RSl.A2 hv;have n2:=RSl.A2 hw;obtain⟨pa,ca,rfl⟩:=RSl.val hv;obtain⟨pb,cb,rfl⟩:=RSl.val hw;have hv':RSl 6 Aw d (.slice pa a.length ca) a:=hv;have hw':RSl 6 Aw d (.slice pb b.length cb) b:=hw;have hbad:∀{p:Prop},¬p→(a=b→p)→false=Fj a b:=fun h1 h2=>by rw[eq_comm,←Yq,Iu];exact fun e=>h1 (h2 e)
 refine AG.of' hd (No rfl) ?_;show gwp P _ _ _ _ _;by_cases hlen:(a.length:Int)≠b.length
 ·(refine Ac<|Ad rfl<|Aa<|Ah<|Ac<|Ar rfl<|Ay rfl<|Ar rfl<|Ay rfl<|AB rfl rfl<|Aa<|Au rfl (by omega)<|Ac<|Ad rfl<|Aa<|Aq ?_);apply A1;rfl;exact hbad (p:=(a.length:Int)=b.length) hlen (fun e=>by rw[e])
 have hlen':a.length=b.length:=by omega
 have hlz:(a.length:Int)=b.length:=by omega
 (refine Ac<|Ad rfl<|Aa<|Ah<|Ac<|Ar rfl<|Ay rfl<|Ar rfl<|Ay rfl<|AB rfl rfl<|Aa<|An rfl (by omega)<|Ao<|Ah<|Ac<|Ar rfl<|Ay rfl<|Ab rfl<|Aa<|As ?_);refine A6 (α:=Nat) (fun i=>[(1,.slice pb b.length cb),(2,.func (.func g) #[] #[]),(15,.slice pa a.length ca),(16,vZ a.length),(17,vZ i)]) (fun i d' L'=>d'=d∧i≤a.length∧a.take i=b.take i) (fun i=>a.length - i) 0 ⟨rfl,rfl,rfl,rfl,rfl,trivial⟩ ⟨rfl,Xw _,rfl⟩ ?_;rintro i ρ d' L' ⟨hdd,hi,heq⟩;subst hdd;have hv2:RSl 6 Aw d' (.slice pa a.length ca) a:=hv';have hw2:RSl 6 Aw d' (.slice pb b.length cb) b:=hw';by_cases hc:i<a.length
 ·have hcb:i<b.length:=by omega
  (refine Ac<|Av rfl rfl<|Aa<|Ah<|Au rfl (by omega)<|Ao<|Ah<|As<|Ac<|Ab rfl<|AN (sz:=6) (R:=Aw) (by rfl) (by assumption) (by rfl) rfl (by omega) ?_;rintro _ _ _ _ _ _;refine B5 rfl (by assumption) (by assumption)<|AV (fun _ _=>Ab rfl ?_));rename_i cs hcs hD hR b8 T8;obtain⟨c0,c1,c2,c3,c4,c5,rfl⟩:=six hcs;refine AA 0 [c0,c1,c2,c3,c4,c5] rfl rfl rfl rfl (No rfl) (AK _ _ _ hR) rfl ?_;(refine Aa<|Ac<|Ar rfl<|Ab rfl<|AN (sz:=6) (R:=Aw) (by rfl) (by assumption) (by rfl) rfl (by omega) ?_;rintro _ _ _ _ _ _;refine B5 rfl (by assumption) (by assumption)<|AV (fun _ _=>?_));rename_i ds hds hD2 hR2 b9 T9;obtain⟨e0,e1,e2,e3,e4,e5,rfl⟩:=six hds;refine AA 0 [e0,e1,e2,e3,e4,e5] rfl rfl rfl rfl (No rfl) (AK _ _ _ hR2) rfl ?_;(refine Aa<|Ac<|Cz rfl<|AE 1 rfl rfl rfl<|AE 0 rfl rfl rfl ?_);refine DD (vs:=[.agg [c0,c1,c2,c3,c4,c5].toArray,.agg [e0,e1,e2,e3,e4,e5].toArray]) rfl rfl (hg _ (Xh hc) _ _ _ hR hR2) ?_;cases hs:CF a[i] b[i] with
  |false=>
   (refine Be rfl<|Aa<|Bd rfl<|Ac<|Ad rfl<|Aa<|Aq ?_)
   apply A1;rfl
   refine hbad (p:=a[i]=b[i]) (fun e=>?_) (fun e=>by subst e;rfl)
   rw[(C2 _ _).2 e] at hs;cases hs
  |true=>
   (refine Be rfl<|Aa<|AJ rfl<|Ao<|Ax<|AI rfl rfl (by omega) (by omega)<|Ab rfl<|Aa ?_)
   exact⟨i+1,by omega,⟨rfl,rfl,rfl,rfl,int_eq (by omega),trivial⟩,rfl,hc,by rw[Xi hc,Xi hcb,heq,(C2 _ _).1 hs]⟩
 ·obtain rfl:i=a.length:=by omega
  rw[Xz,hlen',Xz] at heq;(refine Ac<|Av rfl rfl<|Aa<|Ah<|An rfl (by omega)<|AU<|Ac<|Ad rfl<|Aa<|Aq ?_);apply A1;rfl;rw[eq_comm,Iu];exact heq
def OW(a0 a1 a2:Nat):A0:=⟨38,[(.tmp 4)],(sR (o1 2 (.box 0)<|o1 3 (.box 1)<|o1 4 (.mv (.const (.bool false))) .done) (sR (oj 5 0 2<|ol 6 5<|oj 7 0 3<|ol 8 7<|ob 9 .eql 6 8<|om 10 9<|oT 11 10 (.fld 1 2)<|oT 12 10 (.ld (some 2) 11)<|oT 13 10 (.fld 1 3)<|oT 14 10 (.ld (some 2) 13)<|oT 15 10 (.eqc false [(0,0),(0,1)] 12 14)<|gP 16 10 15<|om 17 16<|oT 18 17 (.fld 3 2)<|oT 19 17 (.ld none 18)<|oT 20 17 (.fld 3 3)<|oT 21 17 (.ld none 20)<|oT 22 17 (.bin .eql 19 21)<|gP 23 17 22<|om 24 23<|oT 25 24 (.fld 5 2)<|oT 26 24 (.ld none 25)<|oT 27 24 (.fld 5 3)<|oT 28 24 (.ld none 27)<|oT 29 24 (.call a0 [26,28])<|gP 30 24 29<|om 31 30<|oT 32 31 (.fld 4 2)<|oT 33 31 (.ld none 32)<|oT 34 31 (.fld 4 3)<|oT 35 31 (.ld none 34)<|oT 36 31 (.call a1 [33,35,(.func a2)])<|gP 37 31 36<|om 4 37 .done) .ret))⟩
set_option maxHeartbeats 1000000 in
def TC{P f f1 f2}(hd:dec P f=some (OW f1 f2 f))(h1:IG P f1)(h2:KF P f2):EX P f:=by
 intro a;induction a using V.ind with
 |h a ih=>
 intro b d cs ds ha hb;refine AG.of' hd (No rfl) ?_;have hbad:∀{p:Prop},¬p→(a=b→p)→false=CF a b:=fun h1 h2=>JR ⟨fun h=>(by cases h),fun h=>absurd (h2 h) h1⟩;obtain⟨lv,kv,rfl,ik,im,ie,it,hl,hks⟩:=ha.open;obtain⟨lv',kv',rfl,ik',im',ie',it',hl',hks'⟩:=hb.open;obtain⟨la,lc,rfl⟩:=RSl.val hl;obtain⟨ka,kc,rfl⟩:=RSl.val hks;obtain⟨la',lc',rfl⟩:=RSl.val hl';obtain⟨ka',kc',rfl⟩:=RSl.val hks';show gwp P _ _ _ _ _;apply Ah;apply Ax;refine AR (l:=[vZ a.kind,vZ a.m,vZ a.e,Al a.text,.slice la a.list.length lc,.slice ka a.keys.length kc]) rfl (fun b2 T2=>?_);refine AR (l:=[vZ b.kind,vZ b.m,vZ b.e,Al b.text,.slice la' b.list.length lc',.slice ka' b.keys.length kc']) rfl (fun b3 T3=>?_);by_cases p1:a.kind≠b.kind
 ·(refine Ad rfl<|Aa<|Ac<|Ag rfl<|Ai rfl (Ak 1 rfl rfl)<|Ag rfl<|Ai rfl (Ak 0 rfl rfl)<|At rfl rfl<|Ad rfl<|Az rfl (by omega)<|Aj rfl<|Aj rfl<|Aj rfl<|Aj rfl<|Aj rfl<|Am rfl rfl<|Ad rfl<|Aj rfl<|Aj rfl<|Aj rfl<|Aj rfl<|Aj rfl<|Am rfl rfl<|Ad rfl<|Aj rfl<|Aj rfl<|Aj rfl<|Aj rfl<|Aj rfl<|Am rfl rfl<|Ad rfl<|Aj rfl<|Aj rfl<|Aj rfl<|Aj rfl<|Aj rfl<|Am rfl rfl<|Ad rfl<|Aa<|Aq ?_);apply A1;rfl;exact hbad (p:=a.kind=b.kind) p1 (fun h=>by rw[h])
 by_cases p2:(false ^^(decide (a.m=b.m)&& decide (a.e=b.e)))=false
 ·(refine Ad rfl<|Aa<|Ac<|Ag rfl<|Ai rfl (Ak 1 rfl rfl)<|Ag rfl<|Ai rfl (Ak 0 rfl rfl)<|At rfl rfl<|Ad rfl<|AF rfl (by omega)<|Af rfl<|Ag rfl<|Af rfl<|Bv 1 rfl rfl rfl<|Af rfl<|Ag rfl<|Af rfl<|Bv 0 rfl rfl rfl<|Af rfl<|Cc rfl rfl<|Ap rfl rfl<|Ad rfl ?_;apply JO;rfl;(with_reducible assumption);refine Aj rfl<|Aj rfl<|Aj rfl<|Aj rfl<|Aj rfl<|Am rfl rfl<|Ad rfl<|Aj rfl<|Aj rfl<|Aj rfl<|Aj rfl<|Aj rfl<|Am rfl rfl<|Ad rfl<|Aj rfl<|Aj rfl<|Aj rfl<|Aj rfl<|Aj rfl<|Am rfl rfl<|Ad rfl<|Aa<|Aq ?_);apply A1;rfl;refine hbad (p:=a.m=b.m∧a.e=b.e) (fun h=>?_) (fun h=>by rw[h];exact⟨rfl,rfl⟩);rw[h.1,h.2] at p2;simp at p2
 have p2':(false ^^(decide (a.m=b.m)&& decide (a.e=b.e)))=true:=by simpa using p2
 have p2'':a.m=b.m∧a.e=b.e:=by simpa using p2'
 by_cases p3:a.text≠b.text
 ·(refine Ad rfl<|Aa<|Ac<|Ag rfl<|Ai rfl (Ak 1 rfl rfl)<|Ag rfl<|Ai rfl (Ak 0 rfl rfl)<|At rfl rfl<|Ad rfl<|AF rfl (by omega)<|Af rfl<|Ag rfl<|Af rfl<|Bv 1 rfl rfl rfl<|Af rfl<|Ag rfl<|Af rfl<|Bv 0 rfl rfl rfl<|Af rfl<|Cc rfl rfl<|Ap rfl rfl<|Ad rfl ?_;apply Iw;rfl;(with_reducible assumption);refine Af rfl<|Ag rfl<|Af rfl<|Ai rfl (Ak 1 rfl rfl)<|Af rfl<|Ag rfl<|Af rfl<|Ai rfl (Ak 0 rfl rfl)<|Af rfl<|FE rfl rfl<|Ap rfl rfl<|Ad rfl<|Az rfl (by omega)<|Aj rfl<|Aj rfl<|Aj rfl<|Aj rfl<|Aj rfl<|Am rfl rfl<|Ad rfl<|Aj rfl<|Aj rfl<|Aj rfl<|Aj rfl<|Aj rfl<|Am rfl rfl<|Ad rfl<|Aa<|Aq ?_);apply A1;rfl;exact hbad (p:=a.text=b.text) p3 (fun h=>by rw[h])
 have p3':a.text=b.text:=by simpa using p3
 have p1':a.kind=b.kind:=by simpa using p1
 have fin:a.keys=b.keys→a.list=b.list→true=CF a b:=fun e1 e2=>JR ⟨fun _=>by
  obtain⟨k,m,e,t,l,ks⟩:=a;obtain⟨k',m',e',t',l',ks'⟩:=b;simp only[V.kind,V.m,V.e,V.text,V.list,V.keys] at p1' p2'' p3' e1 e2;rw[p1',p2''.1,p2''.2,p3',e1,e2],fun _=>rfl⟩
 (refine Ad rfl<|Aa<|Ac<|Ag rfl<|Ai rfl (Ak 1 rfl rfl)<|Ag rfl<|Ai rfl (Ak 0 rfl rfl)<|At rfl rfl<|Ad rfl<|AF rfl (by omega)<|Af rfl<|Ag rfl<|Af rfl<|Bv 1 rfl rfl rfl<|Af rfl<|Ag rfl<|Af rfl<|Bv 0 rfl rfl rfl<|Af rfl<|Cc rfl rfl<|Ap rfl rfl<|Ad rfl ?_;apply Iw;rfl;(with_reducible assumption);refine Af rfl<|Ag rfl<|Af rfl<|Ai rfl (Ak 1 rfl rfl)<|Af rfl<|Ag rfl<|Af rfl<|Ai rfl (Ak 0 rfl rfl)<|Af rfl<|FE rfl rfl<|Ap rfl rfl<|Ad rfl<|AF rfl (by omega)<|Af rfl<|Ag rfl<|Af rfl<|Ai rfl (Ak 1 rfl rfl)<|Af rfl<|Ag rfl<|Af rfl<|Ai rfl (Ak 0 rfl rfl)<|Af rfl ?_);refine AD rfl (h1 hks hks') ?_;by_cases p4:a.keys=b.keys
 ·rw[decide_eq_true p4];(refine Ap rfl rfl<|Ad rfl<|Af rfl<|Ag rfl<|Af rfl<|Ai rfl (Ak 1 rfl rfl)<|Af rfl<|Ag rfl<|Af rfl<|Ai rfl (Ak 0 rfl rfl)<|Af rfl ?_);refine AD rfl (h2 hl hl' (fun x hx y cs ds hcx hcy=>ih x hx y hcx hcy)) ?_;cases p5:Fj a.list b.list with
  |true=>
   (refine Ap rfl rfl<|Ad rfl<|Aa<|Aq ?_)
   apply A1;rfl
   exact fin p4 (Iu.1 p5)
  |false=>
   (refine Ap rfl rfl<|Ad rfl<|Aa<|Aq ?_)
   apply A1;rfl
   refine hbad (p:=a.list=b.list) (fun h=>?_) (fun h=>by rw[h])
   rw[Iu.2 h] at p5;cases p5
 ·rw[decide_eq_false p4];(refine Ap rfl rfl<|Ad rfl<|Aj rfl<|Aj rfl<|Aj rfl<|Aj rfl<|Aj rfl<|Am rfl rfl<|Ad rfl<|Aa<|Aq ?_);apply A1;rfl;exact hbad (p:=a.keys=b.keys) p4 (fun h=>by rw[h])
end Go.Gk.Val
end
section
namespace Go.Gk
open Go
section
section
variable {κ ν:Type}(kE:κ→Value) (vE:ν→Value)
end
section
variable {κ ν:Type} [DecidableEq κ]
end
section
variable {κ ν:Type}{kE:κ→Value}{vE:ν→Value}
variable {P:Program}{pan:List PanicEntry→AT}{Qn:Env→AT}{Ls L:List Ae}{ρ:Env}{d:Ae}{s:GS}{t:Nat}
end
end
end Go.Gk
end
section
namespace Go.Gk.Val
open Go Go.Gk Go.Gk.Utf
end Go.Gk.Val
end
section
namespace Go.Gk.Val
open Go Go.Gk Go.Gk.Utf
end Go.Gk.Val
end
section
namespace Go.Gk.Val
open Go Go.Gk Go.Gk.Utf
variable{n:Int}{has:Bool}{s:St}
def dig:Nat→Int→Int→Int×Int
 |0,n,e=>(n,e)
 |f+1,n,e=>if n≠0∧n % 10=0 then dig f (n / 10) (e+1) else(n,e)
def Cw(n:Int):Bool:=decide (-1000000000≤n∧n≤1000000000)
def De(n:Int):V:=.mk 3 (dig 10 n 0).1 (dig 10 n 0).2 [] [] []
def Kr{f:Nat}{e:Int}(h:n≠0∧n % 10=0):dig (f+1) n e=dig f (n / 10) (e+1):=by rw[dig,if_pos h]
def Iy{f:Nat}{e:Int}(h:¬(n≠0∧n % 10=0)):dig f n e=(n,e):=by
 cases f with
 |zero=>rfl
 |succ f=>rw[dig,if_neg h]
def Tj(h:n % 10=0):n.tdiv 10=n / 10:=Int.tdiv_eq_ediv_of_dvd (Y4 h)
def Pv:n.tmod 10=0↔n % 10=0:=by
 constructor
 ·intro h;exact Int.emod_eq_zero_of_dvd (Int.dvd_of_tmod_eq_zero h)
 ·intro h;exact Int.tmod_eq_zero_of_dvd (Y4 h)
def KV:∀(f:Nat) (n e:Int),n.natAbs<10 ^ f→∃k:Nat,k≤f∧(dig f n e).2=e+k∧n=(dig f n e).1*10 ^ k∧((dig f n e).1=0∨(dig f n e).1 % 10≠0)∧(n=0→k=0)
 |0,n,e,h=>⟨0,Xq _,by simp[dig],by simp[dig],by left;simp[dig];omega,fun _=>rfl⟩
 |f+1,n,e,h=>by
  by_cases c:n≠0∧n % 10=0
  ·rw[Kr c];obtain⟨k,h1,h2,h3,h4,h5⟩:=KV f (n / 10) (e+1) (by rw[Y0] at h;omega);refine⟨k+1,by omega,by rw[h2];push_cast;omega,?_,h4,fun q=>absurd q c.1⟩
   rw[Int.pow_succ,←Int.mul_assoc,←h3];omega
  ·rw[Iy c];refine⟨0,by omega,by simp,by simp,?_,fun _=>rfl⟩
   show n=0∨n % 10≠0;by_cases z:n=0
   ·exact Or.inl z
   ·exact Or.inr (fun q=>c ⟨z,q⟩)
def GC(n:Int):Bool:=decide (n>1000000000∨n< -1000000000)
def AS(v:V):Int×Bool:=if v.kind≠3∨v.e<0∨v.e>9 then(0,false) else if GC v.m=true then(0,false) else(v.m*10 ^ v.e.toNat,Cw (v.m*10 ^ v.e.toNat))
def FC:Cw n=true↔ -1000000000≤n∧n≤1000000000:=by simp[Cw]
def S4:GC n=true↔¬(Cw n=true):=by simp[GC,Cw];omega
def Nk(k:Nat):(1:Int)≤10 ^ k:=by
 induction k with
 |zero=>decide
 |succ k ih=>rw[Int.pow_succ];omega
def Ly(n:Int)(k:Nat):(0≤n→n≤n*10 ^ k)∧(n≤0→n*10 ^ k≤n):=by
 have h:=Nk k;constructor
 ·intro hn;have:=Int.mul_le_mul_of_nonneg_left h hn;omega
 ·intro hn;have:=Int.mul_le_mul_of_nonpos_left hn h;omega
def Hx(h:Cw n=true):Bg (dig 10 n 0).1 (dig 10 n 0).2=true∧AS (De n)=(n,true):=by
 rw[FC] at h;have hb:n.natAbs<10 ^ 10:=by rw[show(10:Nat)^ 10=10000000000 by decide];omega
 obtain⟨k,h1,h2,h3,h4,h5⟩:=KV 10 n 0 hb;simp only[Int.zero_add] at h2;have a:=Ly (dig 10 n 0).1 k;rw[←h3] at a;have hk:k≤9:=by
  by_cases z:n=0
  ·have:=h5 z;omega
  ·rcases YD k 10 with q|q
   ·omega
   ·have e:k=10:=by omega
    subst e;rw[show(10:Int)^ 10=10000000000 by decide] at h3;omega
 constructor
 ·unfold Bg;by_cases z:(dig 10 n 0).1=0
  ·have zn:n=0:=by rw[h3,z];simp
   rw[if_pos z,h2,h5 zn];rfl
  ·rw[if_neg z,h2];have h4':(dig 10 n 0).1 % 10≠0:=by rcases h4 with q|q;exact absurd q z;exact q
   simp only[decide_eq_true_eq];refine⟨by omega,by omega,h4',by omega,by omega⟩
 ·unfold AS De;simp only[V.kind,V.m,V.e];rw[h2];have ek:((k:Int)).toNat=k:=by omega
  rw[if_neg (by omega),if_neg (by rw[S4,FC];intro q;apply q;omega),ek,←h3];rw[show Cw n=true from FC.2 h]
def D6:List UInt8:=[101,110,100]
def CJ:List UInt8:=[115,116,97,114,116]
def stZ:St:=⟨0,[],0,0,false,false⟩
def Ds(n:Int)(has:Bool):Bool:= !has||Cw n
def CM(n:Int)(has:Bool):V:=if has then(if Cw n then De n else V.zero) else V.zero
def By(s:St):Bool:=if s.kind=0 then u8 s.text else if s.kind=1 then Cw s.src else if s.kind=2 then Ds s.dst s.ht && Ds s.src s.hf else false
def BP(s:St):V:=if s.kind=0 then .mk 4 0 0 s.text [] [] else if s.kind=1 then(if Cw s.src then De s.src else V.zero) else if s.kind=2 then .mk 6 0 0 [] [CM s.dst s.ht,CM s.src s.hf] [D6,CJ] else V.zero
def Ct(w:List St):Bool:=w.all By
def BC(w:List St):V:=.mk 5 0 0 [] (w.map BP) []
def Cy(w:List St):V×Int:=if Ct w then(BC w,0) else(V.zero,2)
def BA(v:V):St×Bool:=
 if v.kind=4 then(⟨0,v.text,0,0,false,false⟩,true)
 else if v.kind=3 then(⟨1,[],(AS v).1,0,false,false⟩,(AS v).2)
 else if v.kind=6 then
  if v.keys=[D6,CJ] then
   let a:=v.list.getD 0 V.zero;let b:=v.list.getD 1 V.zero
   (⟨2,[],if b.kind≠0 then(AS b).1 else 0,if a.kind≠0 then(AS a).1 else 0,decide (b.kind≠0),decide (a.kind≠0)⟩,(decide (a.kind=0)||(AS a).2)&&(decide (b.kind=0)||(AS b).2))
  else(stZ,false)
 else(stZ,false)
def Da(v:V):List St×Int:=
 if AP v≠0 then([],AP v) else if v.kind≠5 then([],80) else if v.list.all (fun x=>(BA x).2) then(v.list.map fun x=>(BA x).1,0) else([],80)
def Qi{v:V}:Bc v=true↔BK v=true∧∀x∈v.list,Bc x=true:=by rw[DS,Xg,Xj]
def Ij(h:Cw n=true):CM n true=De n:=by simp[CM,h]
def Ng(h:Cw n=true):Bc (De n)=true:=by
 obtain⟨h1,_⟩:=Hx h;rw[Qi];refine⟨?_,fun x hx=>absurd hx (Yk)⟩
 simp[De,BK,BL,V.kind,V.m,V.e,V.text,V.list,V.keys,h1,u8,Lib.validD_nil,rising,Dv]
def SZ:Bc V.zero=true:=by decide
def Qj(h:Ds n has=true):Bc (CM n has)=true:=by
 cases has with
 |false=>exact SZ
 |true=>
  have h:Cw n=true:=by simpa [Ds] using h
  rw[Ij h];exact Ng h
def K0(h:By s=true):Bc (BP s)=true:=by
 unfold By at h;unfold BP;by_cases k0:s.kind=0
 ·rw[if_pos k0] at h⊢;rw[Qi];refine⟨?_,fun x hx=>absurd hx (Yk)⟩
  simp only[BK,BL,V.kind,V.m,V.e,V.text,V.list,V.keys,h];rfl
 rw[if_neg k0] at h⊢;by_cases k1:s.kind=1
 ·rw[if_pos k1] at h⊢;rw[if_pos h];exact Ng h
 rw[if_neg k1] at h⊢;by_cases k2:s.kind=2
 ·rw[if_pos k2] at h⊢;rw[Xg] at h;refine Qb (by decide) rfl fun x hx=>?_;simp only[Xu,Yk,or_false] at hx;rcases hx with rfl|rfl
  ·exact Qj h.1
  ·exact Qj h.2
 ·rw[if_neg k2] at h;cases h
def MM{w:List St}(h:Ct w=true):Bc (BC w)=true:=by
 refine OF fun x hx=>?_;obtain⟨s,hs,rfl⟩:=X4.1 hx;exact K0 (Xj.1 h s hs)
def SS:(CM n has).list=[]:=by unfold CM;split<;>(try split)<;>rfl
def LA(s:St):Bh (BP s)≤2:=by
 rw[show 2=1+1 from rfl,D5];intro x hx;rw[show 1=0+1 from rfl,D5];intro y hy;exfalso;unfold BP at hx;split at hx
 ·cases hx
 split at hx
 ·split at hx<;>cases hx
 split at hx
 ·simp only[V.list,Xu,Yk,or_false] at hx;rcases hx with rfl|rfl<;>(rw[SS] at hy;cases hy)
 ·cases hx
def SB(w:List St):Bh (BC w)≤3:=by
 rw[show 3=2+1 from rfl,D5];intro x hx;obtain⟨s,hs,rfl⟩:=X4.1 (show x∈w.map BP from hx);exact LA s
def Sw{w:List St}(h:Ct w=true):AP (BC w)=0:=by
 unfold AP;rw[if_pos (by have:=SB w;omega),if_pos (MM h)]
def CD:∀a b:List V,BN (a++b)=BN a+BN b
 |[],b=>by simp[BN]
 |x::a,b=>by simp only[XF,BN,CD a b];omega
def Ip{l:List V}{i:Nat}(h:i<l.length):BN l=BN (l.take i)+BD l[i]+BN (l.drop (i+1)):=by
 have e:l=l.take i++(l[i]::l.drop (i+1)):=by rw[List.getElem_cons_drop,Xr]
 rw[congrArg BN e,CD];simp only[BN];omega
def Oc{l:List V}{i j:Nat}(h:i≤j):BN (l.take i)+BN ((l.drop i).take (j - i))+BN (l.drop j)=BN l:=by
 have e:l=l.take i++((l.drop i).take (j - i)++l.drop j):=by
  have:(l.drop i).take (j - i)++l.drop j=l.drop i:=by
   rw[show l.drop j=(l.drop i).drop (j - i) by rw[List.drop_drop];congr 1;omega,Xr]
  rw[this,Xr]
 have:=congrArg BN e;rw[CD,CD] at this;omega
def VZ{ks k}(h:rising ks=true)(hk:k∈ks):Bq ks k<ks.length:=by
 have h1:=HY ks k;rcases YD (Bq ks k) ks.length with q|q
 ·exact q
 ·exfalso;obtain⟨i,hi,rfl⟩:=List.getElem_of_mem hk;have:=OK (ks:=ks) (k:=ks[i]) (j:=i) (by omega) hi;rw[FW] at this;cases this
def V3{v y:V}(hm:Bc v=true)(he:(AW v s).2=0)(hk:(AW v s).1.kind≠0):BD (CH v s y).1+BD (AW v s).1≤BD v+BD y:=by
 have hone:=Cv hm;have ev:=BV v;have ey:=BV y;have hz:BD V.zero=1:=by decide
 unfold AW at he hk⊢;by_cases k0:v.kind=0
 ·rw[if_pos k0] at hk;exact absurd rfl hk
 rw[if_neg k0] at he hk⊢;by_cases c1:s.kind=0∧v.kind=6
 ·rw[if_pos c1] at he hk⊢;by_cases hmem:s.text∈v.keys
  ·simp only[if_pos hmem] at hk⊢;have hlow:=VZ (CK hone) hmem;have hkl:=CT hone c1.2;have hll:Bq v.keys s.text<v.list.length:=by omega
   have hg:v.list.getD (Bq v.keys s.text) V.zero=v.list[Bq v.keys s.text]:=by simp[hll]
   rw[hg];have h3:=Ip hll;unfold CH;rw[if_pos ⟨c1.1,.inr c1.2⟩];simp only[F4,toK,if_pos hmem];rw[BV (.mk 6 0 0 [] _ _)];show 1+0+(v.keys.take (Bq v.keys s.text)++[s.text]++v.keys.drop (Bq v.keys s.text+1)).length+BN (v.list.take (Bq v.keys s.text)++[y]++v.list.drop (Bq v.keys s.text+1))+_≤_;rw[CD,CD];simp only[Xl,Xn,XX,XI,BN];omega
  ·simp only[if_neg hmem] at hk;exact absurd rfl hk
 rw[if_neg c1] at he hk⊢;by_cases c2:s.kind=1∧v.kind=5
 ·rw[if_pos c2] at he hk⊢;simp only[JH] at hk⊢;by_cases hin:0≤BG s.src v.list.length∧BG s.src v.list.length<v.list.length
  ·rw[if_pos hin] at hk⊢;obtain⟨n,hn⟩:∃n:Nat,BG s.src v.list.length=n:=⟨(BG s.src v.list.length).toNat,by omega⟩
   rw[hn] at hin hk⊢;have hll:n<v.list.length:=by omega
   have hg:v.list.getD ((n:Int)).toNat V.zero=v.list[n]:=by simp[hll]
   rw[hg];have h3:=Ip hll;unfold CH;rw[if_neg (by omega),if_pos ⟨c2.1,.inr c2.2⟩,hn];split
   ·simp only[hz];have:=Fs (Xh hll);omega
   ·simp only[XO];have hp:CQ v.list (n+1)=v.list:=by unfold CQ;rw[show n+1 - v.list.length=0 by omega];simp
    rw[hp,BV (.mk 5 0 0 [] _ _)];show 1+0+0+BN (v.list.take n++[y]++v.list.drop (n+1))+_≤_;rw[CD,CD];simp only[BN];omega
  ·rw[if_neg hin] at hk;exact absurd rfl hk
 rw[if_neg c2] at he hk⊢;by_cases c3:s.kind=2∧v.kind=5
 ·rw[if_pos c3] at he hk⊢;have hle:=EE s (k:=v.list.length) (by omega);have hc:=Oc (l:=v.list) (show(A5 s v.list.length).1.toNat≤(A5 s v.list.length).2.toNat by omega);rw[BV (.mk 5 0 0 [] (EP v.list (A5 s v.list.length)) [])];simp only[EP];unfold CH;rw[if_neg (by omega),if_neg (by omega)];split
  ·rw[BV (.mk 5 0 0 [] (v.list.take _++_++_) [])];show 1+0+0+BN (v.list.take (A5 s v.list.length).1.toNat++y.list++v.list.drop (A5 s v.list.length).2.toNat)+(1+0+0+BN ((v.list.drop (A5 s v.list.length).1.toNat).take ((A5 s v.list.length).2.toNat - (A5 s v.list.length).1.toNat)))≤_;rw[CD,CD];omega
  ·simp only[hz];show 1+(1+0+0+BN ((v.list.drop (A5 s v.list.length).1.toNat).take ((A5 s v.list.length).2.toNat - (A5 s v.list.length).1.toNat)))≤_;omega
 rw[if_neg c3] at he hk⊢;have hi:=Eh v s;unfold AW at hi;rw[if_neg k0,if_neg c1,if_neg c2,if_neg c3] at hi;by_cases c4:s.kind=2∧v.kind=4
 ·rw[if_pos c4] at hi⊢;simp only at hi⊢;unfold CH;rw[if_neg (by omega),if_neg (by omega),if_neg (by omega)];simp only[hz];omega
 ·rw[if_neg c4] at he;cases he
def PX(v:V)(s:St):BD (Cd v s).1≤BD v:=by
 have h3:=BV v;have hz:BD V.zero=1:=by decide
 have key:∀(i j:Nat),i≤j→∀ks:List (List UInt8),ks.length≤v.keys.length→BD (.mk 5 0 0 [] (v.list.take i++[]++v.list.drop j) ks)≤BD v∧BD (.mk 6 0 0 [] (v.list.take i++[]++v.list.drop j) ks)≤BD v:=by
  intro i j hij ks hk;have h4:=Oc (l:=v.list) hij;rw[BV,BV];show 1+0+ks.length+BN (v.list.take i++[]++v.list.drop j)≤_∧1+0+ks.length+BN (v.list.take i++[]++v.list.drop j)≤_;rw[CD,CD];simp only[BN];omega
 unfold Cd;split
 ·exact Xq _
 split
 ·simp only;split
  ·exact(key _ _ (by omega) _ (by simp;omega)).2
  ·exact Xq _
 split
 ·simp only;split
  ·exact Xq _
  ·exact(key _ _ (by omega) _ (by simp)).1
 split
 ·have he:=EE s (k:=v.list.length) (by omega);exact(key _ _ (by omega) _ (by simp)).1
 ·simp only[hz];omega
def ON:∀(l:List St) {v:V},Gd v→BD (CE v l).1≤BD v
 |[],v,_=>by
  have hz:BD V.zero=1:=by decide
  have:=BV v;simp[CE,hz];omega
 |[s],v,_=>PX v s
 |s::s2::l,v,hg=>by
  have h2:=ON (s2::l) (HP hg s);rw[CE];split
  ·exact Xq _
  split
  ·exact Xq _
  ·rename_i h1 _;have h1':(AW v s).2=0∧(AW v s).1.kind≠0:=⟨Decidable.not_not.1 fun q=>h1 (.inl q),fun q=>h1 (.inr q)⟩
   have h3:=V3 (y:=(CE (AW v s).1 (s2::l)).1) hg.1 h1'.1 h1'.2;omega
def PY(v:V)(l:List St)(hb:BD v≤1000000):BD (CP v l).1≤BD v:=by
 have hz:BD V.zero=1:=by decide
 have hp:=BV v;unfold CP;split
 ·simp only[hz];omega
 split
 ·simp only[hz];omega
 ·rename_i h _;have hr:AP v=0:=by
   unfold Cx at h;by_cases q:AP v≠0
   ·rw[if_pos q] at h;exact absurd q h
   ·exact Decidable.not_not.1 q
  exact ON l (IC hr (by omega))
def Cs(s:St):St:=(BA (BP s)).1
def Nq(h:Ds n has=true):(decide ((CM n has).kind≠0)=has)∧(if (CM n has).kind≠0 then(AS (CM n has)).1 else 0)=(if has=true then n else 0)∧(decide ((CM n has).kind=0)||(AS (CM n has)).2)=true:=by
 cases has with
 |false=>exact⟨rfl,rfl,rfl⟩
 |true=>
  have hn:Cw n=true:=by simpa [Ds] using h
  rw[Ij hn,(Hx hn).2]
  exact⟨rfl,rfl,by simp⟩
def F0(h:By s=true):BA (BP s)=(Cs s,true)∧Cs s=if s.kind=0 then⟨0,s.text,0,0,false,false⟩ else if s.kind=1 then⟨1,[],s.src,0,false,false⟩ else⟨2,[],if s.hf=true then s.src else 0,if s.ht=true then s.dst else 0,s.hf,s.ht⟩:=by
 unfold Cs;unfold By at h;unfold BP;by_cases k0:s.kind=0
 ·rw[if_pos k0,if_pos k0];exact⟨rfl,rfl⟩
 rw[if_neg k0] at h⊢;rw[if_neg k0];by_cases k1:s.kind=1
 ·rw[if_pos k1] at h⊢;rw[if_pos k1,if_pos h];have hp:=(Hx h).2;have ht:BA (De s.src)=(⟨1,[],s.src,0,false,false⟩,true):=by
   unfold BA;rw[if_neg (show(De s.src).kind≠4 by simp[De,V.kind]),if_pos (show(De s.src).kind=3 from rfl),hp]
  rw[ht];exact⟨rfl,rfl⟩
 rw[if_neg k1] at h⊢;rw[if_neg k1];by_cases k2:s.kind=2
 ·rw[if_pos k2] at h⊢;rw[Xg] at h;obtain⟨a1,a2,a3⟩:=Nq h.1;obtain⟨b1,b2,b3⟩:=Nq h.2;have ht:BA (.mk 6 0 0 [] [CM s.dst s.ht,CM s.src s.hf] [D6,CJ])=(⟨2,[],if s.hf=true then s.src else 0,if s.ht=true then s.dst else 0,s.hf,s.ht⟩,true):=by
   rw[←a2,←b2];unfold BA;rw[if_neg (by simp[V.kind]),if_neg (by simp[V.kind]),if_pos rfl,if_pos rfl];show(_,(decide ((CM s.dst s.ht).kind=0)||(AS (CM s.dst s.ht)).2)&&(decide ((CM s.src s.hf).kind=0)||(AS (CM s.src s.hf)).2))=_;rw[a3,b3];show(St.mk 2 [] (if (CM s.src s.hf).kind≠0 then(AS (CM s.src s.hf)).1 else 0) (if (CM s.dst s.ht).kind≠0 then(AS (CM s.dst s.ht)).1 else 0) (decide ((CM s.src s.hf).kind≠0)) (decide ((CM s.dst s.ht).kind≠0)),true)=_;rw[b1,a1]
  rw[ht];exact⟨rfl,rfl⟩
 ·rw[if_neg k2] at h;cases h
def Hn(h:By s=true)(k:Int)(k2:s.kind=2):A5 (Cs s) k=A5 s k:=by
 rw[(F0 h).2,if_neg (by omega),if_neg (by omega)];simp only[A5];cases s.hf<;>cases s.ht<;>rfl
def Hf(h:By s=true):(Cs s).kind=s.kind∧(s.kind=0→(Cs s).text=s.text)∧(s.kind=1→(Cs s).src=s.src):=by
 have hk:s.kind=0∨s.kind=1∨s.kind=2:=by
  unfold By at h;by_cases k0:s.kind=0
  ·exact .inl k0
  by_cases k1:s.kind=1
  ·exact .inr (.inl k1)
  by_cases k2:s.kind=2
  ·exact .inr (.inr k2)
  ·rw[if_neg k0,if_neg k1,if_neg k2] at h;cases h
 rw[(F0 h).2];rcases hk with q|q|q
 ·rw[if_pos q];exact⟨q.symm,fun _=>rfl,fun r=>by omega⟩
 ·rw[if_neg (by omega),if_pos q];exact⟨q.symm,fun r=>by omega,fun _=>rfl⟩
 ·rw[if_neg (by omega),if_neg (by omega)];exact⟨q.symm,fun r=>by omega,fun r=>by omega⟩
def SF(h:By s=true)(v:V):AW v (Cs s)=AW v s:=by
 obtain⟨h1,h2,h3⟩:=Hf h;unfold AW;rw[h1];by_cases k0:s.kind=0
 ·rw[h2 k0];simp only[k0,show¬(0:Int)=1 by decide,show¬(0:Int)=2 by decide,false_and,if_false]
 by_cases k1:s.kind=1
 ·rw[h3 k1];simp only[k1,show¬(1:Int)=0 by decide,show¬(1:Int)=2 by decide,false_and,if_false]
 by_cases k2:s.kind=2
 ·rw[Hn h _ k2,Hn h _ k2];simp only[k2,show¬(2:Int)=0 by decide,show¬(2:Int)=1 by decide,false_and,if_false]
 ·simp only[k0,k1,k2,false_and,if_false]
def Te(h:By s=true)(v y:V):CH v (Cs s) y=CH v s y:=by
 obtain⟨h1,h2,h3⟩:=Hf h;unfold CH;rw[h1];by_cases k0:s.kind=0
 ·rw[h2 k0];simp only[k0,show¬(0:Int)=1 by decide,show¬(0:Int)=2 by decide,false_and,if_false]
 by_cases k1:s.kind=1
 ·rw[h3 k1];simp only[k1,show¬(1:Int)=0 by decide,show¬(1:Int)=2 by decide,false_and,if_false]
 by_cases k2:s.kind=2
 ·rw[Hn h _ k2];simp only[k2,show¬(2:Int)=0 by decide,show¬(2:Int)=1 by decide,false_and,if_false]
 ·simp only[k0,k1,k2,false_and,if_false]
def Oh(h:By s=true)(v:V):Cd v (Cs s)=Cd v s:=by
 obtain⟨h1,h2,h3⟩:=Hf h;unfold Cd;rw[h1];by_cases k0:s.kind=0
 ·rw[h2 k0];simp only[k0,show¬(0:Int)=1 by decide,show¬(0:Int)=2 by decide,false_and,if_false]
 by_cases k1:s.kind=1
 ·rw[h3 k1];simp only[k1,show¬(1:Int)=0 by decide,show¬(1:Int)=2 by decide,false_and,if_false]
 by_cases k2:s.kind=2
 ·rw[Hn h _ k2];simp only[k2,show¬(2:Int)=0 by decide,show¬(2:Int)=1 by decide,false_and,if_false]
 ·simp only[k0,k1,k2,false_and,if_false]
def Lv:∀(l:List St) (v:V),(∀s∈l,By s=true)→CE v (l.map Cs)=CE v l
 |[],_,_=>rfl
 |[s],v,h=>Oh (h s (Xp ..)) v
 |s::s2::l,v,h=>by
  have hs:=h s (Xp ..);have ih:=Lv (s2::l) (AW v s).1 (fun x hx=>h x (List.mem_cons_of_mem _ hx));simp only[List.map_cons] at ih⊢;rw[CE,CE,SF hs,ih,Te hs]
def OS(h:By s=true):CG s=true:=by
 unfold By at h;simp only[CG,Xg,Bool.or_eq_true,decide_eq_true_eq];by_cases k0:s.kind=0
 ·rw[if_pos k0] at h;exact⟨⟨by omega,by omega⟩,.inr h⟩
 by_cases k1:s.kind=1
 ·exact⟨⟨by omega,by omega⟩,.inl k0⟩
 by_cases k2:s.kind=2
 ·exact⟨⟨by omega,by omega⟩,.inl k0⟩
 ·rw[if_neg k0,if_neg k1,if_neg k2] at h;cases h
def OA(h:By s=true):By (Cs s)=true:=by
 have h0:=h;rw[(F0 h).2];unfold By at h;by_cases k0:s.kind=0
 ·rw[if_pos k0] at h⊢;simpa [By] using h
 rw[if_neg k0] at h⊢;by_cases k1:s.kind=1
 ·rw[if_pos k1] at h⊢;simpa [By] using h
 rw[if_neg k1] at h⊢;by_cases k2:s.kind=2
 ·rw[if_pos k2,Xg] at h;simp only[By,show¬(2:Int)=0 by decide,show¬(2:Int)=1 by decide,if_false,if_true,Xg];constructor
  ·have:=h.1;cases hb:s.ht<;>simp[Ds,hb] at this⊢;exact this
  ·have:=h.2;cases hb:s.hf<;>simp[Ds,hb] at this⊢;exact this
 ·rw[if_neg k2] at h;cases h
def Ov{l:List St}(h:Ct l=true)(v:V):CP v (l.map Cs)=CP v l:=by
 have hs:∀s∈l,By s=true:=fun s hm=>Xj.1 h s hm;have e1:l.all CG=true:=Xj.2 fun s hm=>OS (hs s hm);have e2:(l.map Cs).all CG=true:=by
  rw[Xj];intro s hm;obtain⟨x,hx,rfl⟩:=X4.1 hm;exact OS (OA (hs x hx))
 unfold CP Cx;rw[e1,e2,Lv l v hs]
def Ot(l:List St):l.map Cs=(BC l).list.map fun x=>(BA x).1:=by
 show _=(l.map BP).map _;rw[List.map_map];rfl
def Lc(v x:V):V×Int:=CP v (x.list.map fun x=>(BA x).1)
def PK{l:List St}(h:Ct l=true)(v:V):CP v l=Lc v (BC l):=by rw[Lc,←Ot,Ov h]
def HQ:V→List V→V×Int
 |v,[]=>(v,0)
 |v,x::l=>if (Lc v x).2≠0 then(V.zero,(Lc v x).2) else HQ (Lc v x).1 l
end Go.Gk.Val
end
section
namespace Go.Gk.Val
open Go Go.Gk
section
section
variable {P:Program}{pan:List PanicEntry→AT}{Qn:Env→AT}{Ls L:List Ae}{ρ:Env}{d:Ae}{s:GS}{t:Nat}{tk:Bool}
def R0{x y a b}(ex:ev ρ x=.agg a.toArray)(ha:a.length=6)(ey:ev ρ y=.agg b.toArray)(hb:b.length=6)(h:∀q T,gws P pan Qn s Ls (upd ρ t (.slice (some ⟨q,0,none⟩) 2 2)) d (bx q T (a++b)::L)):
  gws P pan Qn (.op false ⟨some t,none,.bsl 2 6 [vZ 0,vZ 0,vZ 0,Al [],.slice none 0 0,.slice none 0 0] [(0,x),(1,y)]⟩ s) Ls ρ d L:=by
 obtain⟨a0,a1,a2,a3,a4,a5,rfl⟩:=six ha
 obtain⟨b0,b1,b2,b3,b4,b5,rfl⟩:=six hb
 refine E1 (by omega) ?_ h
 simp[Instr.fill,Bu,XK,List.range.loop,ex,ey,Value.cells]
def Ww{x y z a b c}(ex:ev ρ x=.agg a.toArray)(ha:a.length=6)(ey:ev ρ y=.agg b.toArray)(hb:b.length=6)(ez:ev ρ z=.agg c.toArray)(hc:c.length=6)
  (h:∀q T,gws P pan Qn s Ls (upd ρ t (.slice (some ⟨q,0,none⟩) 3 3)) d (bx q T (a++b++c)::L)):
  gws P pan Qn (.op false ⟨some t,none,.bsl 3 6 [vZ 0,vZ 0,vZ 0,Al [],.slice none 0 0,.slice none 0 0] [(0,x),(1,y),(2,z)]⟩ s) Ls ρ d L:=by
 obtain⟨a0,a1,a2,a3,a4,a5,rfl⟩:=six ha
 obtain⟨b0,b1,b2,b3,b4,b5,rfl⟩:=six hb
 obtain⟨c0,c1,c2,c3,c4,c5,rfl⟩:=six hc
 refine E1 (by omega) ?_ h
 simp[Instr.fill,Bu,XK,List.range.loop,ex,ey,ez,Value.cells]
end
def Wb{d d'}{q:Nat}{T a b}{x y:V}(hx:Aw d a x)(hy:Aw d b y)(hl:Le d d')(h:Le (bx q T (a++b)) d'):BY d' (.slice (some ⟨q,0,none⟩) 2 2) [x,y]:=by
 obtain⟨a0,a1,a2,a3,a4,a5,rfl⟩:=six hx.len;obtain⟨b0,b1,b2,b3,b4,b5,rfl⟩:=six hy.len;have o:=BB.lit (sz:=6) (b:=q) (T:=T) (n:=2) (l:=[a0,a1,a2,a3,a4,a5]++[b0,b1,b2,b3,b4,b5]) rfl (by omega);refine o.rsl (R:=Aw) h rfl (by omega) (fun i hi=>?_);have hi2:i<2:=hi;obtain rfl|rfl:i=0∨i=1:=by omega
 ·exact Aw.mono hl hx
 ·exact Aw.mono hl hy
def WA{d d'}{q:Nat}{T a b c}{x y z:V}(hx:Aw d a x)(hy:Aw d b y)(hz:Aw d c z)(hl:Le d d')(h:Le (bx q T (a++b++c)) d'):BY d' (.slice (some ⟨q,0,none⟩) 3 3) [x,y,z]:=by
 obtain⟨a0,a1,a2,a3,a4,a5,rfl⟩:=six hx.len;obtain⟨b0,b1,b2,b3,b4,b5,rfl⟩:=six hy.len;obtain⟨c0,c1,c2,c3,c4,c5,rfl⟩:=six hz.len;have o:=BB.lit (sz:=6) (b:=q) (T:=T) (n:=3) (l:=[a0,a1,a2,a3,a4,a5]++[b0,b1,b2,b3,b4,b5]++[c0,c1,c2,c3,c4,c5]) rfl (by omega);refine o.rsl (R:=Aw) h rfl (by omega) (fun i hi=>?_);have hi2:i<3:=hi;obtain rfl|rfl|rfl:i=0∨i=1∨i=2:=by omega
 ·exact Aw.mono hl hx
 ·exact Aw.mono hl hy
 ·exact Aw.mono hl hz
end
end Go.Gk.Val
end
section
namespace Go.Gk
open Go
section
variable {P:Program}{pan:List PanicEntry→AT}{Qn:Env→AT}{Ls L:List Ae}{ρ:Env}{d:Ae}{s:GS}
def UQ{α:Type}{sz by_ t:Nat}{R:Ae→List Value→α→Prop}{z:List Value}{x y:Operand}{v w:Value}{xs ys:List α}{h:Ae}(hR:HK R)(ex:ev ρ x=v)(ho:AO sz R d v xs h)
  (ey:ev ρ y=w) (hs:Src sz R d (Ls++(h::L)++(h::L)) w ys) (hsz:0<sz) (hm:xs.length+ys.length≤140737488355328) (hb:(xs.length+ys.length)*by_≤140737488355328)
  (k:∀a c d',Le d d'→RSl sz R d' (.slice a (xs++ys).length c) (xs++ys)→gws P pan Qn s Ls (upd ρ t (.slice a (xs++ys).length c)) d' L):gws P pan Qn (.op false ⟨some t,none,.app sz by_ z x y⟩ s) Ls ρ d (h::L):=by
 obtain⟨cs,h1,h2⟩:=ho
 obtain⟨news,k1,k2,k3⟩:=hs
 have hl:=h1.1
 refine LC 0 ex rfl h1 ey k1 k2 hsz hm hb (fun v' h' o=>⟨join d h',L,Vs.freeze,?_⟩)
 have hg:AO sz R d v' (xs++ys) h':=by
  refine⟨cs++news,by rw[Xl];exact o,fun j hj=>?_⟩
  by_cases e:j<xs.length
  ·rw[Dj hl e,List.getElem_append_left e];exact h2 j e
  ·rw[DK hl (by omega),List.getElem_append_right (by omega)];exact k3 _ (by simp at hj;omega)
 have hr:=hg.rsl hR hsz (Le.BR d h') (Le.Ce d h')
 obtain⟨a,c,rfl⟩:=hr.val
 exact k a c _ (Le.BR d h') hr
end
end Go.Gk
namespace Go.Gk
open Go
section
variable {P:Program}{pan:List PanicEntry→AT}{Qn:Env→AT}{Ls L:List Ae}{ρ:Env}{d:Ae}{s:GS}{t:Nat}{tk:Bool}
end
end Go.Gk
namespace Go.Gk
open Go
def Hi{l vs}{o k:Nat}(h:o+vs.length≤l.length):(patch l o vs)[k]?=if o≤k∧k<o+vs.length then vs[k - o]? else l[k]?:=by
 unfold patch;have hl:(l.take o).length=o:=by rw[Xn];omega
 by_cases h1:k<o
 ·rw[if_neg (by omega),List.append_assoc,Yj (by omega),XH h1]
 by_cases h2:k<o+vs.length
 ·rw[if_pos ⟨by omega,h2⟩,Yj (by rw[Xl];omega),Yf (by omega),hl]
 ·rw[if_neg (by omega),Yf (by rw[Xl];omega),Yn,Xl,hl];congr 1;omega
def DH{l vs}{o:Nat}(h:o+vs.length≤l.length):(patch l o vs).length=l.length:=by
 unfold patch;simp only[Xl,Xn,XX];omega
def Ro{l vs}{o n:Nat}(h:o+vs.length≤n)(hn:n≤l.length):(patch l o vs).take n=patch (l.take n) o vs:=by
 refine YU fun k=>?_;have hl:(l.take n).length=n:=by rw[Xn];omega
 rw[Hi (by omega)];by_cases hk:k<n
 ·rw[XH hk,XH hk,Hi (by omega)]
 ·rw[if_neg (by omega),X3 (by rw[Xn];omega),X3 (by omega)]
def MU{cs}{i sz k:Nat}:(chunk cs i sz)[k]?=if k<sz then cs[i*sz+k]? else none:=by
 unfold chunk;by_cases h:k<sz
 ·rw[XH h,Yn,if_pos h]
 ·rw[if_neg h,X3 (by rw[Xn];omega)]
def P3{cs vs}{i m sz n:Nat}(hl:cs.length=n*sz)(hv:vs.length=sz)(hm:m<n):chunk (patch cs (m*sz) vs) i sz=if i=m then vs else chunk cs i sz:=by
 have h1:m*sz+sz≤n*sz:=by have:=Xx sz (show m+1≤n from hm);rwa [XW,Yx] at this
 refine YU fun k=>?_;rw[MU];by_cases e:i=m
 ·subst e;rw[if_pos rfl];by_cases hk:k<sz
  ·rw[if_pos hk,Hi (by omega),if_pos (by omega)];congr 1;omega
  ·rw[if_neg hk,X3 (by omega)]
 ·rw[if_neg e,MU];by_cases hk:k<sz
  ·rw[if_pos hk,if_pos hk,Hi (by omega),if_neg];rintro⟨a,b⟩;rcases Nat.lt_or_gt_of_ne e with q|q
   ·have:=Xx sz (show i+1≤m from q);rw[XW,Yx] at this;omega
   ·have:=Xx sz (show m+1≤i from q);rw[XW,Yx] at this;omega
  ·rw[if_neg hk,if_neg hk]
def AO.NO{α}{sz:Nat}{R d v}{xs:List α}{h}(_:0<sz)(o:AO sz R d v xs h){m:Nat}(hm:m<xs.length):
  ∃b T l c,v=.slice (some ⟨b,0,none⟩) xs.length c∧h=bx b T l∧m*sz+sz≤l.length∧∀cs' x,cs'.length=sz→R d cs' x→AO sz R d v (xs.set m x) (bx b T (patch l (m*sz) cs')):=by
 obtain⟨cs,⟨h1,h2,⟨rfl,h0,rfl⟩|⟨b,T,l,c,rfl,rfl,h3,h4,h5,h6⟩⟩,hr⟩:=o
 ·omega
 ·have hmz:m*sz+sz≤xs.length*sz:=by have:=Xx sz (show m+1≤xs.length from hm);rwa [XW,Yx] at this
  have hcz:xs.length*sz≤c*sz:=Xx sz h3
  refine⟨b,T,l,c,rfl,rfl,by omega,fun cs' x hl hx=>⟨patch cs (m*sz) cs',?_,fun i hi=>?_⟩⟩
  ·have hp:(patch cs (m*sz) cs').length=cs.length:=DH (by omega)
   refine⟨by rw[hp,YA,h1],by rw[YA];exact h2,.inr ⟨b,T,_,c,by rw[YA],rfl,by rw[YA];exact h3,h4,by rw[DH (by omega)];exact h5,?_⟩⟩
   rw[hp,Ro (by omega) (by omega),h6]
  ·rw[P3 h1 hl hm]
   rw[YA] at hi
   by_cases e:i=m
   ·subst e
    rw[if_pos rfl,List.getElem_set_self];exact hx
   ·rw[if_neg e,List.getElem_set_ne (fun q=>e q.symm)];exact hr i hi
end Go.Gk
end
section
namespace Go.Gk.Val
open Go Go.Gk Go.Gk.Utf
attribute [local irreducible] gwp gws
variable{d:Ae}{s:St}
section
section
variable {P:Program}{pan:List PanicEntry→AT}{Qn:Env→AT}{Ls L:List Ae}{ρ:Env}{d:Ae}{s:GS}{t:Nat}{tk:Bool}
def Wl{x}{a:Int}(ex:ev ρ x=vZ a)(h:gws P pan Qn s Ls (upd ρ t (.agg [vZ a,vZ 0].toArray)) d L):
  gws P pan Qn (.op tk ⟨some t,none,.bld [(0,1),(1,1)] [vZ 0,vZ 0] [(0,x)]⟩ s) Ls ρ d L:=
 BF (cs:=[vZ a,vZ 0]) (by simp[Instr.fill,ex,Value.cells]) h
def Qy{x y k}{a m e:Int}(ex:ev ρ x=.int k a)(ey:ev ρ y=.agg [vZ m,vZ e].toArray)(h:gws P pan Qn s Ls (upd ρ t (.agg [.int k a,vZ m,vZ e,Al [],.slice none 0 0,.slice none 0 0].toArray)) d L):
  gws P pan Qn (.op tk ⟨some t,none,.bld [(0,1),(1,2),(3,1),(4,1),(5,1)] [vZ 0,vZ 0,vZ 0,Al [],.slice none 0 0,.slice none 0 0] [(0,x),(1,y)]⟩ s) Ls ρ d L:=
 BF (cs:=[.int k a,vZ m,vZ e,Al [],.slice none 0 0,.slice none 0 0]) (by simp[Instr.fill,ex,ey,Value.cells,Al]) h
end
def Ts{d:Ae}{ks:List (List UInt8)}(h:∀k∈ks,k.length≤140737488355328):∀i (hi:i<ks.length),Bk d (chunk (ks.map Al) i 1) ks[i]:=fun i hi=>by
 have hc:chunk (ks.map Al) i 1=[Al ks[i]]:=by
  simp only[chunk,Nat.mul_one];rw[XE (by simpa using hi)];simp
 rw[hc];exact⟨rfl,h _ (Xh hi)⟩
def Hm{d}{q:Nat}{T ks}(hk:∀k∈ks,k.length≤140737488355328)(hl:ks.length≤140737488355328)(h:Le (bx q T (ks.map Al)) d):B9 d (.slice (some ⟨q,0,none⟩) ks.length ks.length) ks:=
 (BB.lit (sz:=1) (b:=q) (T:=T) (n:=ks.length) (l:=ks.map Al) (by simp) hl).rsl (R:=Bk) h rfl (by omega) (Ts hk)
def Uv:I64 3:=⟨by decide,by decide⟩
end
abbrev JI(n:Int):List Value:=[.int .i64 3,.int .i64 (dig 10 n 0).1,.int .i64 (dig 10 n 0).2,Al [],.slice none 0 0,.slice none 0 0]
def J0(n:Int):List Value:=if Cw n then JI n else Cm
def Rv(n:Int):V:=if Cw n then De n else V.zero
def Vx{n:Int}(h:Cw n=true):I64 (dig 10 n 0).1∧I64 (dig 10 n 0).2:=by
 rw[FC] at h;have hb:n.natAbs<10 ^ 10:=by rw[show(10:Nat)^ 10=10000000000 by decide];omega
 obtain⟨k,h1,h2,h3,_,_⟩:=KV 10 n 0 hb;have a:=Ly (dig 10 n 0).1 k;rw[←h3] at a;constructor
 ·constructor<;>omega
 ·rw[h2];constructor<;>omega
def FY{n:Int}:Aw d (J0 n) (Rv n):=by
 unfold J0 Rv;by_cases h:Cw n=true
 ·rw[if_pos h,if_pos h];obtain⟨h1,h2⟩:=Vx h;exact Aw.close (v:=De n) Uv h1 h2 (by simp[De,V.text]) RSl.nil RSl.nil
 ·rw[if_neg h,if_neg h];exact Aw.zero
def Q7(P:Program)(f:FuncId):Prop:=∀{d}{n:Int},I64 n→AG P f [vZ n] d (.tuple #[.agg (J0 n).toArray,.bool (Cw n)])
def Mf:A0:=⟨27,[(.cell 2 (some 6)),(.tmp 3)],(sR (o1 2 (.alo (.agg #[(vZ 0),(vZ 0),(vZ 0),(Al []),(.slice none 0 0),(.slice none 0 0)]))<|o1 3 (.mv (.const (.bool false))) .done) (.seq (sR (om 5 0<|ob 6 .lss 5 (kZ (-1000000000))<|om 7 6<|gF 8 7 0<|oF 9 7 (.bin .gtr 8 (kZ 1000000000))<|o1 10 (.pick 7 (.const (.bool true)) 9) .done) (.cond 10 (sR (o1 11 (.bld [(0,1),(1,2),(3,1),(4,1),(5,1)] [(vZ 0),(vZ 0),(vZ 0),(Al []),(.slice none 0 0),(.slice none 0 0)] [])<|o0 (.st 6 2 11)<|o1 3 (.mv (.const (.bool false))) .done) .ret) .skip)) (sR (o1 4 (.mv z0) .done) (.seq (.block 0 (.loop (.seq (sR (om 12 0<|ob 13 .neq 12 z0<|om 14 13<|gT 15 14 0<|oT 16 14 (.bin .rem 15 (kZ 10))<|oT 17 14 (.bin .eql 16 z0)<|gP 18 14 17 .done) (.cond 18 .skip (.exit 0))) (.block 1 (rG (om 19 0<|ob 20 .quo 19 (kZ 10)<|om 21 4<|ob 22 .add 21 z1<|om 0 20<|om 4 22 .done)))))) (sR (om 23 0<|om 24 4<|o1 25 (.bld [(0,1),(1,1)] [(vZ 0),(vZ 0)] [(0,23),(1,24)])<|o1 26 (.bld [(0,1),(1,2),(3,1),(4,1),(5,1)] [(vZ 0),(vZ 0),(vZ 0),(Al []),(.slice none 0 0),(.slice none 0 0)] [(0,(kZ 3)),(1,25)])<|o0 (.st 6 2 26)<|o1 3 (.mv (.const (.bool true))) .done) .ret)))))⟩
set_option maxHeartbeats 1000000 in
def WX{P f}(hd:dec P f=some Mf):Q7 P f:=by
 intro d n ⟨hi1,hi2⟩;refine AG.of' hd (No rfl) ?_;show gwp P _ _ _ _ _;(refine Ac<|AV (fun _ _=>Ad rfl<|Aa<|Ah<|Ac<|Ab rfl<|Av rfl rfl<|Ad rfl ?_));rename_i b2 T2;by_cases h:Cw n=true
 ·have hn:=FC.1 h;rw[J0,if_pos h,h];clear h;have hb:n.natAbs<10 ^ 10:=by rw[show(10:Nat)^ 10=10000000000 by decide];omega
  (refine Az rfl (by omega)<|Af rfl<|Ab rfl<|Af rfl<|AM rfl rfl<|Am rfl rfl<|Aa<|An rfl (by omega)<|Ao<|Ac<|Ab rfl<|Aa<|Ah<|As ?_);refine A6 (α:=Nat×Int×Int) (fun x=>[(0,vZ x.2.1),(2,pZ b2),(4,vZ x.2.2)])
   (fun x d' L'=>d'=d∧dig 10 n 0=dig x.1 x.2.1 x.2.2∧x.2.1.natAbs<10 ^ x.1∧x.2.2+x.1=10∧0≤x.2.2∧ -1000000000≤x.2.1∧x.2.1≤1000000000∧L'=[bx b2 T2 Cm]) (fun x=>x.1) (10,n,0)
   ⟨rfl,rfl,rfl,trivial⟩ ⟨rfl,rfl,hb,rfl,Int.le_refl _,hn.1,hn.2,rfl⟩ ?_
  rintro⟨f,m,e⟩ ρ d' L' ⟨hdd,hdg,hlt,hef,he,hm1,hm2,hL⟩;simp only at hdg hlt hef he hm1 hm2⊢;subst hdd;subst hL;by_cases hz:m=0
  ·subst hz;rw[show JI n=[vZ 3,vZ 0,vZ e,Al [],.slice none 0 0,.slice none 0 0] by unfold JI;rw[hdg,Iy (by omega)]];(refine Ah<|Ac<|Ab rfl<|AB rfl rfl<|Ad rfl<|Az rfl (by omega)<|Aj rfl<|Aj rfl<|Aj rfl<|Am rfl rfl<|Aa<|AJ rfl<|AU<|Ac<|Ab rfl<|Ab rfl<|BF rfl<|Qy rfl rfl ?_);refine AA 0 [vZ 3,vZ 0,vZ e,Al [],.slice none 0 0,.slice none 0 0] rfl rfl rfl rfl (No rfl) rfl rfl ?_;(refine Ad rfl<|Aa<|Aq ?_);exact B8 (L':=[]) [.agg [vZ 3,vZ 0,vZ e,Al [],.slice none 0 0,.slice none 0 0].toArray,.bool true] ⟨A4 0 rfl rfl rfl,AZ rfl,trivial⟩ (Xm _) ⟨rfl,rfl⟩
  by_cases hq:m % 10=0
  ·obtain⟨f,rfl⟩:∃g,f=g+1:=⟨f - 1,by cases f with|zero=>simp at hlt;omega|succ f=>rfl⟩
   have ht:=Pv.2 hq;have hdv:=Tj hq;rw[hdg,Kr ⟨hz,hq⟩];(refine Ah<|Ac<|Ab rfl<|AB rfl rfl<|Ad rfl<|AF rfl (by omega)<|Af rfl<|Ab rfl<|Af rfl<|FT rfl rfl (by omega)<|Af rfl<|At rfl rfl<|Ap rfl rfl<|Aa<|Au rfl (by omega)<|Ao<|As<|Ax<|Ab rfl<|OV rfl rfl (by omega) (by omega) (by omega)<|Ab rfl<|AI rfl rfl (by omega) (by omega)<|Ab rfl<|Ab rfl<|Aa ?_);exact⟨(f,m / 10,e+1),Nat.lt_succ_self f,⟨congrArg (Value.int .i64) hdv,rfl,rfl,trivial⟩,rfl,rfl,by simp only;rw[Y0] at hlt;omega,by simp only;omega,by simp only;omega,by simp only;omega,by simp only;omega,rfl⟩
  ·have ht:m.tmod 10≠0:=fun q=>hq (Pv.1 q);rw[show JI n=[vZ 3,vZ m,vZ e,Al [],.slice none 0 0,.slice none 0 0] by unfold JI;rw[hdg,Iy (fun q=>hq q.2)]];(refine Ah<|Ac<|Ab rfl<|AB rfl rfl<|Ad rfl<|AF rfl (by omega)<|Af rfl<|Ab rfl<|Af rfl<|FT rfl rfl (by omega)<|Af rfl<|At rfl rfl<|Ap rfl rfl<|Aa<|An rfl (by omega)<|AU<|Ac<|Ab rfl<|Ab rfl<|BF rfl<|Qy rfl rfl ?_);refine AA 0 [vZ 3,vZ m,vZ e,Al [],.slice none 0 0,.slice none 0 0] rfl rfl rfl rfl (No rfl) rfl rfl ?_;(refine Ad rfl<|Aa<|Aq ?_);exact B8 (L':=[]) [.agg [vZ 3,vZ m,vZ e,Al [],.slice none 0 0,.slice none 0 0].toArray,.bool true] ⟨A4 0 rfl rfl rfl,AZ rfl,trivial⟩ (Xm _) ⟨rfl,rfl⟩
 ·have hn:n< -1000000000∨1000000000<n:=by rw[FC] at h;omega
  have h':Cw n=false:=by simpa using h
  rw[J0,h'];clear h h';by_cases hlo:n< -1000000000
  ·(refine AF rfl (by omega)<|Aj rfl<|Aj rfl<|Ap rfl rfl<|Aa<|Bd rfl<|Ac<|Bz ?_);refine AA 0 [vZ 0,vZ 0,vZ 0,Al [],.slice none 0 0,.slice none 0 0] rfl rfl rfl rfl (No rfl) rfl rfl ?_;(refine Ad rfl<|Aa<|Aq ?_);exact B8 (L':=[]) [.agg [vZ 0,vZ 0,vZ 0,Al [],.slice none 0 0,.slice none 0 0].toArray,.bool false] ⟨A4 0 rfl rfl rfl,AZ rfl,trivial⟩ (Xm _) ⟨rfl,rfl⟩
  ·(refine Az rfl (by omega)<|Af rfl<|Ab rfl<|Af rfl<|AM rfl rfl<|Am rfl rfl<|Aa<|Au rfl (by omega)<|Ac<|Bz ?_);refine AA 0 [vZ 0,vZ 0,vZ 0,Al [],.slice none 0 0,.slice none 0 0] rfl rfl rfl rfl (No rfl) rfl rfl ?_;(refine Ad rfl<|Aa<|Aq ?_);exact B8 (L':=[]) [.agg [vZ 0,vZ 0,vZ 0,Al [],.slice none 0 0,.slice none 0 0].toArray,.bool false] ⟨A4 0 rfl rfl rfl,AZ rfl,trivial⟩ (Xm _) ⟨rfl,rfl⟩
def Jm{m:Int}(h1: -1000000000≤m)(h2:m≤1000000000){i:Nat}(hi:i≤9): -1000000000000000000≤m*10 ^ i∧m*10 ^ i≤1000000000000000000:=by
 have a:(m*10 ^ i).natAbs=m.natAbs*10 ^ i:=by rw[Int.natAbs_mul,Int.natAbs_pow];rfl
 have b:m.natAbs*10 ^ i≤1000000000*10 ^ 9:=Nat.mul_le_mul (by omega) (Nat.pow_le_pow_right (by decide) hi);have c:(1000000000:Nat)*10 ^ 9=1000000000000000000:=by decide
 omega
def Kt(P:Program)(f:FuncId):Prop:=∀{d cs}{v:V},Aw d cs v→AG P f [.agg cs.toArray] d (.tuple #[vZ (AS v).1,.bool (AS v).2])
def Mz:A0:=⟨44,[(.tmp 2),(.tmp 3)],(sR (o1 1 (.box 0)<|o1 2 (.mv z0)<|o1 3 (.mv (.const (.bool false))) .done) (.seq (sR (oj 5 0 1<|ol 6 5<|ob 7 .neq 6 (kZ 3)<|om 8 7<|oF 9 8 (.fld 1 1)<|oF 10 8 (.fld 1 9)<|oF 11 8 (.ld none 10)<|oF 12 8 (.bin .lss 11 z0)<|o1 13 (.pick 8 (.const (.bool true)) 12)<|om 14 13<|oF 15 14 (.fld 1 1)<|oF 16 14 (.fld 1 15)<|oF 17 14 (.ld none 16)<|oF 18 14 (.bin .gtr 17 (kZ 9))<|o1 19 (.pick 14 (.const (.bool true)) 18) .done) (.cond 19 (sR (o1 2 (.mv z0)<|o1 3 (.mv (.const (.bool false))) .done) .ret) .skip)) (sR (oj 20 1 1<|oj 21 0 20<|ol 22 21<|om 4 22 .done) (.seq (sR (om 23 4<|ob 24 .gtr 23 (kZ 1000000000)<|om 25 24<|gF 26 25 4<|oF 27 25 (.bin .lss 26 (kZ (-1000000000)))<|o1 28 (.pick 25 (.const (.bool true)) 27) .done) (.cond 28 (sR (o1 2 (.mv z0)<|o1 3 (.mv (.const (.bool false))) .done) .ret) .skip)) (.seq (sR (oj 29 1 1<|oj 30 1 29<|ol 31 30<|o1 32 (.mv z0) .done) (.block 0 (.loop (sR (ob 33 .lss 32 31 .done) (.seq (.cond 33 .skip (.exit 0)) (.seq (.block 1 (rG (om 34 4<|ob 35 .mul 34 (kZ 10)<|om 4 35 .done))) (rG (ob 36 .add 32 z1<|om 32 36 .done)))))))) (sR (om 37 4<|om 38 4<|ob 39 .geq 38 (kZ (-1000000000))<|om 40 39<|gT 41 40 4<|oT 42 40 (.bin .leq 41 (kZ 1000000000))<|gP 43 40 42<|om 2 37<|om 3 43 .done) .ret))))))⟩
set_option maxHeartbeats 1000000 in
def SX{P f}(hd:dec P f=some Mz):Kt P f:=by
 intro d cs v hv;refine AG.of' hd (No rfl) ?_;obtain⟨lv,kv,rfl,ik,im,ie,it,hl,hks⟩:=hv.open;obtain⟨la,lc,rfl⟩:=RSl.val hl;obtain⟨ka,kc,rfl⟩:=RSl.val hks;obtain⟨kind,m,e,t,l,ks⟩:=v;simp only[V.kind,V.m,V.e,V.text,V.list,V.keys] at ik im ie it hl hks⊢;obtain⟨im1,im2⟩:=im;obtain⟨ie1,ie2⟩:=ie;show gwp P _ _ _ _ _;apply Ah;apply Ax;refine AR (l:=[vZ kind,vZ m,vZ e,Al t,.slice la l.length lc,.slice ka ks.length kc]) rfl (fun b1 T1=>?_);by_cases c1:kind≠3
 ·rw[AS,if_pos (Or.inl c1)];(refine Ab rfl<|Ad rfl<|Aa<|Ah<|Ac<|Ag rfl<|Ai rfl (Ak 0 rfl rfl)<|AB rfl rfl<|Ad rfl<|AF rfl (by omega)<|Aj rfl<|Aj rfl<|Aj rfl<|Aj rfl<|Ap rfl rfl<|Ad rfl<|Aj rfl<|Aj rfl<|Aj rfl<|Aj rfl<|Ap rfl rfl<|Aa<|Bd rfl<|Ac<|Ab rfl<|Ad rfl<|Aa<|Aq ?_);exact Cu rfl rfl
 by_cases c2:e<0
 ·rw[AS,if_pos (Or.inr (Or.inl c2))];(refine Ab rfl<|Ad rfl<|Aa<|Ah<|Ac<|Ag rfl<|Ai rfl (Ak 0 rfl rfl)<|AB rfl rfl<|Ad rfl<|Az rfl (by omega)<|Af rfl<|Ag rfl<|Af rfl<|Ag rfl<|Af rfl<|Ai rfl (Ak 0 rfl rfl)<|Af rfl<|Av rfl rfl<|Am rfl rfl<|Ad rfl<|AF rfl (by omega)<|Aj rfl<|Aj rfl<|Aj rfl<|Aj rfl<|Ap rfl rfl<|Aa<|Bd rfl<|Ac<|Ab rfl<|Ad rfl<|Aa<|Aq ?_);exact Cu rfl rfl
 by_cases c3:e>9
 ·rw[AS,if_pos (Or.inr (Or.inr c3))];(refine Ab rfl<|Ad rfl<|Aa<|Ah<|Ac<|Ag rfl<|Ai rfl (Ak 0 rfl rfl)<|AB rfl rfl<|Ad rfl<|Az rfl (by omega)<|Af rfl<|Ag rfl<|Af rfl<|Ag rfl<|Af rfl<|Ai rfl (Ak 0 rfl rfl)<|Af rfl<|Av rfl rfl<|Am rfl rfl<|Ad rfl<|Az rfl (by omega)<|Af rfl<|Ag rfl<|Af rfl<|Ag rfl<|Af rfl<|Ai rfl (Ak 0 rfl rfl)<|Af rfl<|AM rfl rfl<|Am rfl rfl<|Aa<|Au rfl (by omega)<|Ac<|Ab rfl<|Ad rfl<|Aa<|Aq ?_);exact Cu rfl rfl
 rw[AS,if_neg (by intro q;rcases q with q|q|q;exact c1 q;exact c2 q;exact c3 q)];by_cases c4:m>1000000000
 ·rw[if_pos (show GC m=true by simp[GC];omega)];(refine Ab rfl<|Ad rfl<|Aa<|Ah<|Ac<|Ag rfl<|Ai rfl (Ak 0 rfl rfl)<|AB rfl rfl<|Ad rfl<|Az rfl (by omega)<|Af rfl<|Ag rfl<|Af rfl<|Ag rfl<|Af rfl<|Ai rfl (Ak 0 rfl rfl)<|Af rfl<|Av rfl rfl<|Am rfl rfl<|Ad rfl<|Az rfl (by omega)<|Af rfl<|Ag rfl<|Af rfl<|Ag rfl<|Af rfl<|Ai rfl (Ak 0 rfl rfl)<|Af rfl<|AM rfl rfl<|Am rfl rfl<|Aa<|An rfl (by omega)<|Ao<|Ac<|Ag rfl<|Ag rfl<|Ai rfl (Ak 0 rfl rfl)<|Ab rfl<|Aa<|Ah<|Ac<|Ab rfl<|AM rfl rfl<|Ad rfl<|AF rfl (by omega)<|Aj rfl<|Aj rfl<|Ap rfl rfl<|Aa<|Bd rfl<|Ac<|Ab rfl<|Ad rfl<|Aa<|Aq ?_);exact Cu rfl rfl
 by_cases c5:m< -1000000000
 ·rw[if_pos (show GC m=true by simp[GC];omega)];(refine Ab rfl<|Ad rfl<|Aa<|Ah<|Ac<|Ag rfl<|Ai rfl (Ak 0 rfl rfl)<|AB rfl rfl<|Ad rfl<|Az rfl (by omega)<|Af rfl<|Ag rfl<|Af rfl<|Ag rfl<|Af rfl<|Ai rfl (Ak 0 rfl rfl)<|Af rfl<|Av rfl rfl<|Am rfl rfl<|Ad rfl<|Az rfl (by omega)<|Af rfl<|Ag rfl<|Af rfl<|Ag rfl<|Af rfl<|Ai rfl (Ak 0 rfl rfl)<|Af rfl<|AM rfl rfl<|Am rfl rfl<|Aa<|An rfl (by omega)<|Ao<|Ac<|Ag rfl<|Ag rfl<|Ai rfl (Ak 0 rfl rfl)<|Ab rfl<|Aa<|Ah<|Ac<|Ab rfl<|AM rfl rfl<|Ad rfl<|Az rfl (by omega)<|Af rfl<|Ab rfl<|Af rfl<|Av rfl rfl<|Am rfl rfl<|Aa<|Au rfl (by omega)<|Ac<|Ab rfl<|Ad rfl<|Aa<|Aq ?_);exact Cu rfl rfl
 rw[if_neg (show¬GC m=true by simp[GC];omega)];obtain⟨k,rfl⟩:∃k:Nat,e=k:=⟨e.toNat,by omega⟩
 simp only[XO];(refine Ab rfl<|Ad rfl<|Aa<|Ah<|Ac<|Ag rfl<|Ai rfl (Ak 0 rfl rfl)<|AB rfl rfl<|Ad rfl<|Az rfl (by omega)<|Af rfl<|Ag rfl<|Af rfl<|Ag rfl<|Af rfl<|Ai rfl (Ak 0 rfl rfl)<|Af rfl<|Av rfl rfl<|Am rfl rfl<|Ad rfl<|Az rfl (by omega)<|Af rfl<|Ag rfl<|Af rfl<|Ag rfl<|Af rfl<|Ai rfl (Ak 0 rfl rfl)<|Af rfl<|AM rfl rfl<|Am rfl rfl<|Aa<|An rfl (by omega)<|Ao<|Ac<|Ag rfl<|Ag rfl<|Ai rfl (Ak 0 rfl rfl)<|Ab rfl<|Aa<|Ah<|Ac<|Ab rfl<|AM rfl rfl<|Ad rfl<|Az rfl (by omega)<|Af rfl<|Ab rfl<|Af rfl<|Av rfl rfl<|Am rfl rfl<|Aa<|An rfl (by omega)<|Ao<|Ah<|Ac<|Ag rfl<|Ag rfl<|Ai rfl (Ak 0 rfl rfl)<|Ab rfl<|Aa<|As ?_);refine A6 (α:=Nat×Int) (fun x=>[(1,pZ b1),(4,vZ x.2),(31,vZ k),(32,vZ x.1)])
  (fun x d' L'=>d'=d∧x.2=m*10 ^ x.1∧x.1≤k) (fun x=>k - x.1) (0,m) ⟨rfl,rfl,rfl,rfl,trivial⟩ ⟨rfl,by simp,Xw _⟩ ?_
 rintro⟨i,n⟩ ρ d' L' ⟨hdd,hn,hi⟩;simp only at hn hi⊢;subst hdd;have hb:=Jm (show -1000000000≤m by omega) (show m≤1000000000 by omega) (show i≤9 by omega);rw[←hn] at hb;by_cases hc:i<k
 ·have hb':=Jm (show -1000000000≤m by omega) (show m≤1000000000 by omega) (show i+1≤9 by omega);have he:m*10 ^(i+1)=n*10:=by rw[hn,Int.pow_succ,Int.mul_assoc]
  rw[he] at hb';(refine Ac<|Av rfl rfl<|Aa<|Ah<|Au rfl (by omega)<|Ao<|Ah<|As<|Ax<|Ab rfl<|Hp rfl rfl (by omega) (by omega)<|Ab rfl<|Aa<|Ax<|AI rfl rfl (by omega) (by omega)<|Ab rfl<|Aa ?_);exact⟨(i+1,n*10),by simp only;omega,⟨rfl,rfl,rfl,int_eq (by omega),trivial⟩,rfl,he.symm,hc⟩
 ·obtain rfl:i=k:=by omega
  rw[←hn];by_cases c6:n< -1000000000
  ·have h8:Cw n=false:=by simp[Cw];omega
   rw[h8];(refine Ac<|Av rfl rfl<|Aa<|Ah<|An rfl (by omega)<|AU<|Ac<|Ab rfl<|Ab rfl<|CY rfl rfl<|Ad rfl<|Az rfl (by omega)<|Aj rfl<|Aj rfl<|Am rfl rfl<|Ab rfl<|Ad rfl<|Aa<|Aq ?_);exact Cu rfl rfl
  ·have h8:Cw n=decide (n≤1000000000):=by simp[Cw];omega
   rw[h8];(refine Ac<|Av rfl rfl<|Aa<|Ah<|An rfl (by omega)<|AU<|Ac<|Ab rfl<|Ab rfl<|CY rfl rfl<|Ad rfl<|AF rfl (by omega)<|Af rfl<|Ab rfl<|Af rfl<|C1 rfl rfl<|Ap rfl rfl<|Ab rfl<|Ad rfl<|Aa<|Aq ?_);exact Cu rfl rfl
def S0(n:Int)(has:Bool):List Value:=if has then J0 n else Cm
def Es{n:Int}{has:Bool}:Aw d (S0 n has) (CM n has):=by
 cases has with
 |false=>exact Aw.zero
 |true=>exact FY
def OX(P:Program)(f:FuncId):Prop:=∀{d}{n:Int}{has:Bool},I64 n→AG P f [vZ n,.bool has] d (.tuple #[.agg (S0 n has).toArray,.bool (Ds n has)])
def Og(a0:Nat):A0:=⟨13,[(.cell 4 (some 6)),(.tmp 5)],(sR (o1 4 (.alo (.agg #[(vZ 0),(vZ 0),(vZ 0),(Al []),(.slice none 0 0),(.slice none 0 0)]))<|o1 5 (.mv (.const (.bool false))) .done) (.seq (sR (om 6 1<|o1 7 (.un .not 6) .done) (.cond 7 (sR (o1 8 (.bld [(0,1),(1,2),(3,1),(4,1),(5,1)] [(vZ 0),(vZ 0),(vZ 0),(Al []),(.slice none 0 0),(.slice none 0 0)] [])<|o0 (.st 6 4 8)<|o1 5 (.mv (.const (.bool true))) .done) .ret) .skip)) (sR (om 9 0<|oc 10 a0 [9]<|oe 11 10 0<|oe 12 10 1<|o0 (.st 6 4 11)<|om 5 12 .done) .ret)))⟩
def Vg{P f f1}(hd:dec P f=some (Og f1))(h1:Q7 P f1):OX P f:=by
 intro d n has hi;refine AG.of' hd (No rfl) ?_;show gwp P _ _ _ _ _;cases has with
 |false=>
  (refine Ac<|AV (fun _ _=>Ad rfl<|Aa<|Ah<|Ac<|Ad rfl<|Be rfl<|Aa<|Bd rfl<|Ac<|Bz ?_))
  refine AA 0 Cm rfl rfl rfl rfl (No rfl) rfl rfl ?_
  (refine Ad rfl<|Aa<|Aq ?_)
  exact B8 (L':=[]) [.agg Cm.toArray,.bool true] ⟨A4 0 rfl rfl rfl,AZ rfl,trivial⟩ (Xm _) ⟨rfl,rfl⟩
 |true=>
  (refine Ac<|AV (fun _ _=>Ad rfl<|Aa<|Ah<|Ac<|Ad rfl<|Be rfl<|Aa<|AJ rfl<|Ao<|Ac<|Ab rfl ?_))
  refine AD rfl (h1 hi) ?_
  obtain⟨c0,c1,c2,c3,c4,c5,hc⟩:=six (FY (d:=d) (n:=n)).len
  have hc1:=AK _ _ _ (FY (d:=d) (n:=n))
  rw[S0,if_pos rfl,show Ds n true=Cw n by simp[Ds]]
  rw[hc] at hc1⊢
  (refine AH rfl rfl<|AH rfl rfl ?_)
  refine AA 0 [c0,c1,c2,c3,c4,c5] rfl rfl rfl rfl (No rfl) hc1 rfl ?_
  (refine Ad rfl<|Aa<|Aq ?_)
  exact B8 (L':=[]) [.agg [c0,c1,c2,c3,c4,c5].toArray,.bool (Cw n)] ⟨A4 0 rfl rfl rfl,AZ rfl,trivial⟩ (Xm _) ⟨rfl,rfl⟩
def ML(T:Ae→Prop)(P:Program)(f:FuncId):Prop:=∀{d cs}{s:St},T d→RSt d cs s→AY P f [.agg cs.toArray] d [] (Ret fun r d' L'=>L'=[]∧∃cs',r=.tuple #[.agg cs'.toArray,.bool (By s)]∧Aw d' cs' (BP s))
def WU(h:s.kind=0):By s=u8 s.text∧BP s=.mk 4 0 0 s.text [] []:=by unfold By BP;rw[if_pos h,if_pos h];exact⟨rfl,rfl⟩
def step1(h:s.kind=1):By s=Cw s.src∧BP s=Rv s.src:=by unfold By BP;rw[if_neg (by omega),if_pos h,if_neg (by omega),if_pos h];exact⟨rfl,rfl⟩
def step2(h:s.kind=2):By s=(Ds s.dst s.ht && Ds s.src s.hf)∧BP s=.mk 6 0 0 [] [CM s.dst s.ht,CM s.src s.hf] [D6,CJ]:=by
 unfold By BP;rw[if_neg (by omega),if_neg (by omega),if_pos h,if_neg (by omega),if_neg (by omega),if_pos h];exact⟨rfl,rfl⟩
def WH(h0:s.kind≠0)(h1:s.kind≠1)(h2:s.kind≠2):By s=false∧BP s=V.zero:=by
 unfold By BP;rw[if_neg h0,if_neg h1,if_neg h2,if_neg h0,if_neg h1,if_neg h2];exact⟨rfl,rfl⟩
def SP{l}(h:l.length≤140737488355328):Aw d [vZ 4,vZ 0,vZ 0,Al l,.slice none 0 0,.slice none 0 0] (.mk 4 0 0 l [] []):=
 Aw.close (v:=.mk 4 0 0 l [] []) UP A3 A3 h RSl.nil RSl.nil
def M5{a b:Nat}{Ta Tb xs ys}{x y:V}(hx:Aw d xs x)(hy:Aw d ys y)(ha:Le (bx a Ta [Al D6,Al CJ]) d)(hb:Le (bx b Tb (xs++ys)) d):
  Aw d [vZ 6,vZ 0,vZ 0,Al [],.slice (some ⟨b,0,none⟩) 2 2,.slice (some ⟨a,0,none⟩) 2 2] (.mk 6 0 0 [] [x,y] [D6,CJ]):=
 Aw.close (v:=.mk 6 0 0 [] [x,y] [D6,CJ]) JW A3 A3 (by simp[V.text]) (Wb hx hy (Le.refl _) hb) (Hm (ks:=[D6,CJ]) (by decide) (by decide) ha)
def NJ(a0 a1 a2:Nat):A0:=⟨53,[(.cell 2 (some 6)),(.tmp 3)],(sR (o1 1 (.box 0)<|o1 2 (.alo (.agg #[(vZ 0),(vZ 0),(vZ 0),(Al []),(.slice none 0 0),(.slice none 0 0)]))<|o1 3 (.mv (.const (.bool false))) .done) (.seq (sR (oj 8 0 1<|ol 9 8 .done) (.block 0 (sR (ob 11 .eql 9 z0<|om 10 11 .done) (.cond 10 (.seq (.reg true (p1 12 (.fld 1 1)<|pl 13 12<|p1 14 (.bld [(0,1),(1,2),(3,1),(4,1),(5,1)] [(vZ 0),(vZ 0),(vZ 0),(Al []),(.slice none 0 0),(.slice none 0 0)] [(0,(kZ 4)),(2,13)])<|p1 15 (.fld 1 1)<|pl 16 15<|oc 17 a0 [16]<|o0 (.st 6 2 14)<|pm 3 17 .done)) .ret) (sR (ob 19 .eql 9 z1<|om 18 19 .done) (.cond 18 (sR (oj 20 2 1<|ol 21 20<|oc 22 a1 [21]<|oe 23 22 0<|oe 24 22 1<|o0 (.st 6 2 23)<|om 3 24 .done) .ret) (sR (ob 26 .eql 9 z2<|om 25 26 .done) (.cond 25 (sR (oj 28 3 1<|ol 29 28<|oj 30 5 1<|ol 31 30<|oc 32 a2 [29,31]<|om 27 32<|oe 33 27 0<|oe 34 27 1<|o1 4 (.alo (.agg #[(vZ 0),(vZ 0),(vZ 0),(Al []),(.slice none 0 0),(.slice none 0 0)]))<|o0 (.st 6 4 33)<|om 5 34 .done) (sR (oj 36 2 1<|ol 37 36<|oj 38 4 1<|ol 39 38<|oc 40 a2 [37,39]<|om 35 40<|oe 41 35 0<|oe 42 35 1<|o1 6 (.alo (.agg #[(vZ 0),(vZ 0),(vZ 0),(Al []),(.slice none 0 0),(.slice none 0 0)]))<|o0 (.st 6 6 41)<|om 7 42 .done) (sR (o1 43 (.bsl 2 1 [(Al [])] [(0,(.const (Al [101,110,100]))),(1,(.const (Al [115,116,97,114,116])))])<|o1 44 (.ld (some 6) 4)<|o1 45 (.ld (some 6) 6)<|o1 46 (.bsl 2 6 [(vZ 0),(vZ 0),(vZ 0),(Al []),(.slice none 0 0),(.slice none 0 0)] [(0,44),(1,45)])<|o1 47 (.bld [(0,1),(1,2),(3,1),(4,1),(5,1)] [(vZ 0),(vZ 0),(vZ 0),(Al []),(.slice none 0 0),(.slice none 0 0)] [(0,(kZ 6)),(4,43),(3,46)])<|om 48 5<|om 49 48<|gT 50 49 7<|gP 51 49 50<|o0 (.st 6 2 47)<|om 3 51 .done) .ret))) .skip)))))))) (sR (o1 52 (.bld [(0,1),(1,2),(3,1),(4,1),(5,1)] [(vZ 0),(vZ 0),(vZ 0),(Al []),(.slice none 0 0),(.slice none 0 0)] [])<|o0 (.st 6 2 52)<|o1 3 (.mv (.const (.bool false))) .done) .ret)))⟩
set_option maxHeartbeats 1000000 in
def Ur{T:Ae→Prop}{P f f1 f2 f3}(hd:dec P f=some (NJ f1 f2 f3))(h1:EO T P f1)(h2:Q7 P f2)(h3:OX P f3):ML T P f:=by
 intro d cs s ht hs;obtain⟨rfl,hk,htl,hs1,hs2⟩:=hs;refine Bf hd (No rfl) ?_;obtain⟨kind,text,src,dst,hf,hto⟩:=s;simp only at hk htl hs1 hs2⊢;show gwp P _ _ _ _ _;apply Ah;apply Ax;refine AR (l:=[vZ kind,Al text,vZ src,vZ dst,.bool hf,.bool hto]) rfl (fun b1 T1=>?_);by_cases k0:kind=0
 ·obtain⟨e1,e2⟩:=WU (s:=⟨kind,text,src,dst,hf,hto⟩) k0;simp only at e1 e2;rw[e1,e2];(refine AV (fun _ _=>Ad rfl<|Aa<|Ah<|Ac<|Ag rfl<|Ai rfl (Ak 1 rfl rfl)<|Aa<|As<|Ac<|At rfl rfl<|Ad rfl<|Aa<|Au rfl (by omega)<|Ah ?_));refine GL [1] [0] rfl ?_;(refine Ag rfl<|Ai rfl (Ak 0 rfl rfl)<|RR rfl rfl<|Ag rfl<|Ai rfl (Ak 0 rfl rfl) ?_);refine AD rfl (h1 ht htl) ?_;skip;refine AA 0 [vZ 4,vZ 0,vZ 0,Al text,.slice none 0 0,.slice none 0 0] rfl rfl rfl rfl (No rfl) rfl rfl ?_;(refine Ad rfl<|Bo<|Aq ?_);exact B8 (L':=[]) [.agg [vZ 4,vZ 0,vZ 0,Al text,.slice none 0 0,.slice none 0 0].toArray,.bool (u8 text)] ⟨A4 1 rfl rfl rfl,AZ rfl,trivial⟩ (Xm _) ⟨rfl,_,rfl,SP htl⟩
 by_cases k1:kind=1
 ·obtain⟨e1,e2⟩:=step1 (s:=⟨kind,text,src,dst,hf,hto⟩) k1;simp only at e1 e2;rw[e1,e2];(refine AV (fun _ _=>Ad rfl<|Aa<|Ah<|Ac<|Ag rfl<|Ai rfl (Ak 1 rfl rfl)<|Aa<|As<|Ac<|At rfl rfl<|Ad rfl<|Aa<|An rfl (by omega)<|Ac<|At rfl rfl<|Ad rfl<|Aa<|Au rfl (by omega)<|Ac<|Ag rfl<|Ai rfl (Ak 1 rfl rfl) ?_));refine AD rfl (h2 hs1) ?_;obtain⟨c0,c1,c2,c3,c4,c5,hc⟩:=six (FY (d:=d) (n:=src)).len;have hr:=FY (d:=d) (n:=src);have hc1:=AK _ _ _ hr;rw[hc] at hc1 hr⊢;(refine AH rfl rfl<|AH rfl rfl ?_);refine AA 0 [c0,c1,c2,c3,c4,c5] rfl rfl rfl rfl (No rfl) hc1 rfl ?_;(refine Ad rfl<|Aa<|Aq ?_);exact B8 (L':=[]) [.agg [c0,c1,c2,c3,c4,c5].toArray,.bool (Cw src)] ⟨A4 0 rfl rfl rfl,AZ rfl,trivial⟩ (Xm _) ⟨rfl,_,rfl,hr⟩
 by_cases k2:kind=2
 ·obtain⟨e1,e2⟩:=step2 (s:=⟨kind,text,src,dst,hf,hto⟩) k2;simp only at e1 e2;rw[e1,e2];cases hA:Ds dst hto with
  |false=>
   (refine AV (fun _ _=>Ad rfl<|Aa<|Ah<|Ac<|Ag rfl<|Ai rfl (Ak 1 rfl rfl)<|Aa<|As<|Ac<|At rfl rfl<|Ad rfl<|Aa<|An rfl (by omega)<|Ac<|At rfl rfl<|Ad rfl<|Aa<|An rfl (by omega)<|Ac<|At rfl rfl<|Ad rfl<|Aa<|Au rfl (by omega)<|Ac<|Ag rfl<|Ai rfl (Ak 1 rfl rfl)<|Ag rfl<|Ai rfl (Ak 1 rfl rfl) ?_))
   refine AD rfl (h3 hs2) ?_
   rw[hA]
   obtain⟨c0,c1,c2,c3,c4,c5,hc⟩:=six (Es (d:=d) (n:=dst) (has:=hto)).len
   have hr:=Es (d:=d) (n:=dst) (has:=hto)
   have hc1:=AK _ _ _ hr
   rw[hc] at hc1 hr⊢
   (refine A9 rfl<|AH rfl rfl<|AH rfl rfl<|AV (fun _ _=>?_))
   refine AA 0 [c0,c1,c2,c3,c4,c5] rfl rfl rfl rfl (No rfl) hc1 rfl ?_
   (refine Ad rfl<|Aa<|Ac<|Ag rfl<|Ai rfl (Ak 2 rfl rfl)<|Ag rfl<|Ai rfl (Ak 2 rfl rfl) ?_)
   refine AD rfl (h3 hs1) ?_
   obtain⟨o0,o1,o2,o3,o4,o5,ho⟩:=six (Es (d:=d) (n:=src) (has:=hf)).len
   have hr2:=Es (d:=d) (n:=src) (has:=hf)
   have hc2:=AK _ _ _ hr2
   rw[ho] at hc2 hr2⊢
   (refine A9 rfl<|AH rfl rfl<|AH rfl rfl<|AV (fun _ _=>?_))
   refine AA 0 [o0,o1,o2,o3,o4,o5] rfl rfl rfl rfl (No rfl) hc2 rfl ?_
   (refine Ad rfl<|Aa<|Ac ?_)
   refine Lq (v0:=Al D6) (v1:=Al CJ) rfl rfl rfl rfl (fun b43 T43=>?_)
   (refine AE 2 rfl rfl rfl<|AE 1 rfl rfl rfl ?_)
   refine R0 (a:=[c0,c1,c2,c3,c4,c5]) (b:=[o0,o1,o2,o3,o4,o5]) rfl rfl rfl rfl (fun b46 T46=>?_)
   refine Bt (fun d2 hl2 hg2=>?_)
   refine Bt (fun d3 hl3 hg3=>?_)
   have hR:=M5 (hr.mono (hl2.trans hl3)) (hr2.mono (hl2.trans hl3)) hg3 (hg2.trans hl3)
   (refine II rfl rfl rfl<|Ad rfl<|Ad rfl<|Aj rfl<|Am rfl rfl ?_)
   refine AA 2 [vZ 6,vZ 0,vZ 0,Al [],.slice (some ⟨b46,0,none⟩) 2 2,.slice (some ⟨b43,0,none⟩) 2 2] rfl rfl rfl rfl (No rfl) rfl rfl ?_
   (refine Ad rfl<|Aa<|Aq ?_)
   exact B8 (L':=[]) [.agg [vZ 6,vZ 0,vZ 0,Al [],.slice (some ⟨b46,0,none⟩) 2 2,.slice (some ⟨b43,0,none⟩) 2 2].toArray,.bool (false && Ds src hf)] ⟨A4 2 rfl rfl rfl,AZ rfl,trivial⟩ (Xm _) ⟨rfl,_,rfl,hR⟩
  |true=>
   (refine AV (fun _ _=>Ad rfl<|Aa<|Ah<|Ac<|Ag rfl<|Ai rfl (Ak 1 rfl rfl)<|Aa<|As<|Ac<|At rfl rfl<|Ad rfl<|Aa<|An rfl (by omega)<|Ac<|At rfl rfl<|Ad rfl<|Aa<|An rfl (by omega)<|Ac<|At rfl rfl<|Ad rfl<|Aa<|Au rfl (by omega)<|Ac<|Ag rfl<|Ai rfl (Ak 1 rfl rfl)<|Ag rfl<|Ai rfl (Ak 1 rfl rfl) ?_))
   refine AD rfl (h3 hs2) ?_
   rw[hA]
   obtain⟨c0,c1,c2,c3,c4,c5,hc⟩:=six (Es (d:=d) (n:=dst) (has:=hto)).len
   have hr:=Es (d:=d) (n:=dst) (has:=hto)
   have hc1:=AK _ _ _ hr
   rw[hc] at hc1 hr⊢
   (refine A9 rfl<|AH rfl rfl<|AH rfl rfl<|AV (fun _ _=>?_))
   refine AA 0 [c0,c1,c2,c3,c4,c5] rfl rfl rfl rfl (No rfl) hc1 rfl ?_
   (refine Ad rfl<|Aa<|Ac<|Ag rfl<|Ai rfl (Ak 2 rfl rfl)<|Ag rfl<|Ai rfl (Ak 2 rfl rfl) ?_)
   refine AD rfl (h3 hs1) ?_
   obtain⟨o0,o1,o2,o3,o4,o5,ho⟩:=six (Es (d:=d) (n:=src) (has:=hf)).len
   have hr2:=Es (d:=d) (n:=src) (has:=hf)
   have hc2:=AK _ _ _ hr2
   rw[ho] at hc2 hr2⊢
   (refine A9 rfl<|AH rfl rfl<|AH rfl rfl<|AV (fun _ _=>?_))
   refine AA 0 [o0,o1,o2,o3,o4,o5] rfl rfl rfl rfl (No rfl) hc2 rfl ?_
   (refine Ad rfl<|Aa<|Ac ?_)
   refine Lq (v0:=Al D6) (v1:=Al CJ) rfl rfl rfl rfl (fun b43 T43=>?_)
   (refine AE 2 rfl rfl rfl<|AE 1 rfl rfl rfl ?_)
   refine R0 (a:=[c0,c1,c2,c3,c4,c5]) (b:=[o0,o1,o2,o3,o4,o5]) rfl rfl rfl rfl (fun b46 T46=>?_)
   refine Bt (fun d2 hl2 hg2=>?_)
   refine Bt (fun d3 hl3 hg3=>?_)
   have hR:=M5 (hr.mono (hl2.trans hl3)) (hr2.mono (hl2.trans hl3)) hg3 (hg2.trans hl3)
   (refine II rfl rfl rfl<|Ad rfl<|Ad rfl<|Af rfl<|Ad rfl<|Ap rfl rfl ?_)
   refine AA 2 [vZ 6,vZ 0,vZ 0,Al [],.slice (some ⟨b46,0,none⟩) 2 2,.slice (some ⟨b43,0,none⟩) 2 2] rfl rfl rfl rfl (No rfl) rfl rfl ?_
   (refine Ad rfl<|Aa<|Aq ?_)
   exact B8 (L':=[]) [.agg [vZ 6,vZ 0,vZ 0,Al [],.slice (some ⟨b46,0,none⟩) 2 2,.slice (some ⟨b43,0,none⟩) 2 2].toArray,.bool (true && Ds src hf)] ⟨A4 2 rfl rfl rfl,AZ rfl,trivial⟩ (Xm _) ⟨rfl,_,rfl,hR⟩
 ·obtain⟨e1,e2⟩:=WH (s:=⟨kind,text,src,dst,hf,hto⟩) k0 k1 k2;rw[e1,e2];(refine AV (fun _ _=>Ad rfl<|Aa<|Ah<|Ac<|Ag rfl<|Ai rfl (Ak 1 rfl rfl)<|Aa<|As<|Ac<|At rfl rfl<|Ad rfl<|Aa<|An rfl (by omega)<|Ac<|At rfl rfl<|Ad rfl<|Aa<|An rfl (by omega)<|Ac<|At rfl rfl<|Ad rfl<|Aa<|An rfl (by omega)<|Ao<|Ac<|Bz ?_));refine AA 0 Cm rfl rfl rfl rfl (No rfl) rfl rfl ?_;(refine Ad rfl<|Aa<|Aq ?_);exact B8 (L':=[]) [.agg Cm.toArray,.bool false] ⟨A4 0 rfl rfl rfl,AZ rfl,trivial⟩ (Xm _) ⟨rfl,_,rfl,Aw.zero⟩
end Go.Gk.Val
end
