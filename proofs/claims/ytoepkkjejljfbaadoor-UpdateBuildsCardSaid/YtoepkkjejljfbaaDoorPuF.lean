/-
  Our own texts, one behind the other: GkQN5 GkCv GkYD GkY7 GkY8 GkYE GkYG GkG4 GkYF GkYH GkYJ GkYI GkYK GkYL GkYM GkYN GkZ4 GkZ5 GkZ9 GkZA.
-/
import Derived.Test.YtoepkkjejljfbaaDoorPuE
set_option linter.defProp false
set_option linter.unusedVariables false
set_option linter.unusedSimpArgs false
open Nat renaming le_of_ble_eq_true→No,le_refl→Xq,zero_le→Xw,not_lt_zero→XP,zero_add→XZ,le_trans→X6,min_eq_left→YB,lt_or_ge→YD,sub_self→YT
open List renaming append_assoc→Xf,getElem_mem→Xh,take_succ_eq_append_getElem→Xi,all_eq_true→Xj,mem_cons_of_mem→Xk,length_append→Xl,nil_sublist→Xm,length_take→Xn,eq_nil_of_length_eq_zero→Xo,mem_cons_self→Xp,take_append_drop→Xr,mem_append→Xs,getElem?_eq_getElem→Xt,mem_cons→Xu,length_cons→Xv,take_length→Xz,append_nil→XA,drop_eq_getElem_cons→XE,cons_append→XF,length_singleton→XI,range→XK,nil_append→XL,take_of_length_le→XQ,perm_append_comm→XR,mem_singleton→XT,length_pos_iff→XV,drop_length→XY,length_nil→X0,map_congr_left→X1,sublist_cons_self→X2,mem_map→X4,getElem_of_mem→X7,flatten_cons→Ya,drop_of_length_le→Yc,map_cons→Yd,length_map→Ye,getElem?_append_right→Yf,getElem_cons_drop→Yg,sublist_append_right→Yi,getElem?_append_left→Yj,mem_of_mem_take→Yp,perm_append_singleton→Yr,take_succ_cons→Ys,flatten_nil→YC,sublist_append_left→YH,getElem_take→YJ,ext_getElem→YK,map_map→YR,take_take→YX,flatten_append→YZ
open Bool renaming and_eq_true→Xg,or_eq_true→XN
open List.Sublist renaming refl→Xy
open List.Perm renaming cons→XD,swap→XM,append_left→Yl,refl→Ym
open Int renaming toNat_natCast→XO
section
namespace Go.Gk
open Go Srt
attribute [local irreducible] gwp gws
def EG(a0 a1:Nat):A0:=⟨63,[],(sR (o1 6 (.mv (kZ 20)) .done) (sR (om 10 6<|o1 7 (.mv z0)<|om 8 10 .done) (.seq (.block 0 (.loop (.seq (sR (om 11 8<|om 12 1<|ob 13 .leq 11 12 .done) (.cond 13 .skip (.exit 0))) (.block 1 (sR (om 14 0<|om 15 7<|om 16 8<|om 17 2<|oc 18 a0 [14,15,16,17] .done) (sR (om 19 8<|om 7 19 .done) (rG (om 20 8<|om 21 6<|ob 22 .add 20 21<|om 8 22 .done)))))))) (sR (om 23 0<|om 24 7<|om 25 1<|om 26 2<|oc 27 a0 [23,24,25,26] .done) (.block 2 (.loop (.seq (sR (om 28 6<|om 29 1<|ob 30 .lss 28 29 .done) (.cond 30 .skip (.exit 2))) (.block 3 (sR (om 31 6<|ob 32 .mul z2 31<|o1 7 (.mv z0)<|om 8 32 .done) (.seq (.block 4 (.loop (.seq (sR (om 33 8<|om 34 1<|ob 35 .leq 33 34 .done) (.cond 35 .skip (.exit 4))) (.block 5 (sR (om 36 0<|om 37 7<|om 38 7<|om 39 6<|ob 40 .add 38 39<|om 41 8<|om 42 2<|oc 43 a1 [36,37,40,41,42] .done) (sR (om 44 8<|om 7 44 .done) (rG (om 45 8<|om 46 6<|ob 47 .mul z2 46<|ob 48 .add 45 47<|om 8 48 .done)))))))) (.seq (sR (om 49 7<|om 50 6<|ob 51 .add 49 50<|om 9 51 .done) (sR (om 52 9<|om 53 1<|ob 54 .lss 52 53 .done) (.cond 54 (rG (om 55 0<|om 56 7<|om 57 9<|om 58 1<|om 59 2<|oc 60 a1 [55,56,57,58,59] .done)) .skip))) (rG (om 61 6<|ob 62 .mul 61 z2<|om 6 62 .done)))))))))))))⟩
set_option maxHeartbeats 2000000 in
def I3{P f f1 f2}(hd:dec P f=some (EG f1 f2))(h1:QN 7 P f1)(h2:QM 7 P f2):KY 7 P f:=by
 intro α R c d pa n cp g h xs oc hc1 ho hg;have hll:=ho.A2;obtain rfl:n=xs.length:=by obtain⟨_,_,e⟩:=ho.val;injection e
 refine Bf hd (No rfl) ?_;show gwp P _ _ _ _ _;apply Ah;apply Ax;(refine Ab rfl<|Aa ?_);apply Ah;apply Ax;(refine Ab rfl<|Ab rfl<|Ab rfl<|Aa ?_);refine DY (fun ρ d' L'=>d'=d∧∃(a:Nat) (bl:List (List α)) (rest:List α) (h':Ae),bl.flatten.length=a∧(∀x∈bl,x.length=20∧Srt c x)∧rest.length<20∧(bl.flatten++rest).Perm xs∧L'=[h']∧AO 7 R d (.slice pa xs.length cp) (bl.flatten++rest) h'∧
  Bi ρ [(0,.slice pa xs.length cp),(1,vZ xs.length),(2,.func (.func g) #[] #[]),(6,vZ 20),(7,vZ a)]) ?_ ?_
 ·(apply As);refine A6 (α:=Nat) (fun a=>[(0,.slice pa xs.length cp),(1,vZ xs.length),(2,.func (.func g) #[] #[]),(6,vZ 20),(7,vZ a),(8,vZ (a+20:Nat))])
   (fun a d' L'=>d'=d∧∃(bl:List (List α)) (rest:List α) (h':Ae),bl.flatten.length=a∧(∀x∈bl,x.length=20∧Srt c x)∧(bl.flatten++rest).Perm xs∧L'=[h']∧AO 7 R d (.slice pa xs.length cp) (bl.flatten++rest) h')
   (fun a=>xs.length - a) 0 ⟨rfl,rfl,rfl,rfl,rfl,rfl,trivial⟩ ⟨rfl,[],xs,h,rfl,by simp,Ym _,rfl,ho⟩ ?_
  rintro a ρ d' L' ⟨hdd,bl,rest,h',ha,hbl,hp,hL,ho'⟩;subst hdd;subst hL;have hlen:=hp.length_eq;simp only[Xl] at hlen;by_cases hc:20≤rest.length
  ·(refine Ah<|Ac<|Ab rfl<|Ab rfl<|C1 rfl rfl<|Aa<|Au rfl (by omega)<|Ao<|As<|Ac<|Ar rfl<|Ab rfl<|Ab rfl<|Cz rfl ?_);refine C7 1 rfl (h1 (A:=bl.flatten) (M:=rest.take 20) (B:=rest.drop 20) oc hc1 (by rw[Xf,Xr];exact ho') (by rw[Xf,Xr];exact hg.perm hp) (by omega) (by simp only[Xn];omega)) (fun r d2 L2 _ ⟨hdd,M',h2,hL,ho2,hpm,hsm⟩=>?_);subst hdd;subst hL;(refine Aa<|Ac<|Ab rfl<|Ab rfl<|Aa<|Ax<|Ab rfl<|Ab rfl<|AI rfl rfl (by omega) (by omega)<|Ab rfl<|Aa ?_);refine⟨a+20,by omega,⟨rfl,rfl,rfl,rfl,rfl,int_eq (by omega),trivial⟩,rfl,bl++[M'],rest.drop 20,h2,?_,?_,?_,rfl,by simpa using ho2⟩
   ·have:=hpm.length_eq;simp only[Xn] at this;simp only[YZ,Xl,Ya,YC,X0];omega
   ·intro x hx;rcases Xs.1 hx with hx|hx
    ·exact hbl x hx
    ·rw[XT.1 hx];exact⟨by have:=hpm.length_eq;simp at this;omega,hsm⟩
   ·refine List.Perm.trans ?_ hp;rw[YZ,Xf];refine Yl _ ?_;simp only[Ya,YC,XA];have:=hpm.append_right (rest.drop 20);rwa [Xr] at this
  ·(refine Ah<|Ac<|Ab rfl<|Ab rfl<|C1 rfl rfl<|Aa<|An rfl (by omega)<|AU ?_);exact⟨rfl,a,bl,rest,h',ha,hbl,by omega,hp,rfl,ho',rfl,rfl,rfl,rfl,rfl,trivial⟩
 rintro ρ d' L' ⟨hdd,a,bl,rest,h',ha,hbl,hrest,hp,hL,ho',hs⟩;subst hdd;subst hL;refine BQ _ hs ?_;clear hs;have hlen:=hp.length_eq;simp only[Xl] at hlen;(refine Ac<|Ar rfl<|Ab rfl<|Ab rfl<|Cz rfl ?_);refine C7 1 rfl (h1 (A:=bl.flatten) (M:=rest) (B:=[]) oc hc1 (by simpa using ho') (by simpa using hg.perm hp) (by omega) (by omega)) (fun r d2 L2 _ ⟨hdd,M',h3,hL,ho2,hpm,hsm⟩=>?_);subst hdd;subst hL;have hml:=hpm.length_eq;(refine Aa<|As ?_);refine A6 (α:=Nat) (fun bs=>[(0,.slice pa xs.length cp),(1,vZ xs.length),(2,.func (.func g) #[] #[]),(6,vZ bs)])
  (fun bs d' L'=>d'=d2∧20≤bs∧∃(bl:List (List α)) (rest:List α) (h':Ae),(∀x∈bl,x.length=bs∧Srt c x)∧rest.length<bs∧Srt c rest∧(bl.flatten++rest).Perm xs∧L'=[h']∧AO 7 R d2 (.slice pa xs.length cp) (bl.flatten++rest) h')
  (fun bs=>xs.length - bs) 20 ⟨rfl,rfl,rfl,rfl,trivial⟩ ⟨rfl,Xq _,bl,M',h3,hbl,by omega,hsm,(hpm.append_left _).trans hp,rfl,by simpa using ho2⟩ ?_
 clear ho2 hbl hpm hsm hml hrest hp ho' ha hlen;rintro bs ρ d3 L' ⟨hdd,hbs,bl,rest,h',hbl,hrest,hsr,hp,hL,ho'⟩;subst hdd;subst hL;have hlen:=hp.length_eq;simp only[Xl] at hlen;by_cases hc:bs<xs.length
 ·(refine Ah<|Ac<|Ab rfl<|Ab rfl<|Av rfl rfl<|Aa<|Au rfl (by omega)<|Ao<|As<|Ac<|Ab rfl<|Hp rfl rfl (by omega) (by omega)<|Ab rfl<|Ab rfl<|Aa<|Ah<|As ?_);refine A6 (α:=Nat) (fun a=>[(0,.slice pa xs.length cp),(1,vZ xs.length),(2,.func (.func g) #[] #[]),(6,vZ bs),(7,vZ a),(8,vZ (a+2*bs:Nat))])
   (fun a d' L'=>d'=d3∧∃(D bl:List (List α)) (rest:List α) (h':Ae),D.flatten.length=a∧(∀x∈D,x.length=2*bs∧Srt c x)∧(∀x∈bl,x.length=bs∧Srt c x)∧rest.length<bs∧Srt c rest∧(D.flatten++(bl.flatten++rest)).Perm xs∧L'=[h']∧AO 7 R d3 (.slice pa xs.length cp) (D.flatten++(bl.flatten++rest)) h')
   (fun a=>xs.length - a) 0 ⟨rfl,rfl,rfl,rfl,rfl,int_eq (by omega),trivial⟩ ⟨rfl,[],bl,rest,h',rfl,by simp,hbl,hrest,hsr,by simpa using hp,rfl,by simpa using ho'⟩ ?_
  clear ho' hp hbl hsr hrest hlen;rintro a ρ d2 L' ⟨hdd,D,bl,rest,h',ha,hD,hbl,hrest,hsr,hp,hL,ho'⟩;subst hdd;subst hL;have hlen:=hp.length_eq;simp only[Xl] at hlen;have hend:∀rest':List α,rest'.length<2*bs→Srt c rest'→∀h2,(D.flatten++rest').Perm xs→AO 7 R d2 (.slice pa xs.length cp) (D.flatten++rest') h2→20≤bs*2∧∃(bl:List (List α)) (rest:List α) (h':Ae),(∀x∈bl,x.length=bs*2∧Srt c x)∧rest.length<bs*2∧Srt c rest∧(bl.flatten++rest).Perm xs∧[h2]=[h']∧AO 7 R d2 (.slice pa xs.length cp) (bl.flatten++rest) h':=
   fun rest' q1 q2 h2 q3 q4=>⟨by omega,D,rest',h2,fun x hx=>⟨by have:=(hD x hx).1;omega,(hD x hx).2⟩,by omega,q2,q3,rfl,q4⟩
  match bl,hbl,hlen,hp,ho' with
  |X::Y::bl,hbl,hlen,hp,ho'=>
   obtain⟨hX1,hX2⟩:=hbl X (by simp)
   obtain⟨hY1,hY2⟩:=hbl Y (by simp)
   simp only[Ya,Xl] at hlen
   have e1:D.flatten++((X::Y::bl).flatten++rest)=D.flatten++X++Y++(bl.flatten++rest):=by simp only[Ya,Xf]
   rw[e1] at ho' hp
   (refine Ah<|Ac<|Ab rfl<|Ab rfl<|C1 rfl rfl<|Aa<|Au rfl (by omega)<|Ao<|As<|Ac<|Ar rfl<|Ab rfl<|Ab rfl<|Ab rfl<|AI rfl rfl (by omega) (by omega)<|Ab rfl<|Cz rfl ?_)
   refine C7 1 rfl (h2 oc hc1 _ (Xq _) ho' (hg.perm hp) hX2 hY2 (fun q=>by subst q;simp at hX1;omega) (fun q=>by subst q;simp at hY1;omega) (by omega) (by omega) (by omega)) (fun r d3 L2 _ ⟨hdd,M',h3,hL,ho2,hpm,hsm⟩=>?_)
   subst hdd;subst hL
   have hml:=hpm.length_eq
   simp only[Xl] at hml
   (refine Aa<|Ac<|Ab rfl<|Ab rfl<|Aa<|Ax<|Ab rfl<|Ab rfl<|Hp rfl rfl (by omega) (by omega)<|AI rfl rfl (by omega) (by omega)<|Ab rfl<|Aa ?_)
   refine⟨a+2*bs,by omega,⟨rfl,rfl,rfl,rfl,rfl,int_eq (by omega),trivial⟩,rfl,D++[M'],bl,rest,h3,?_,?_,fun x hx=>hbl x (by simp[hx]),hrest,hsr,?_,rfl,by simpa using ho2⟩
   ·simp only[YZ,Xl,Ya,YC,X0];omega
   ·intro x hx
    rcases Xs.1 hx with hx|hx
    ·exact hD x hx
    ·rw[XT.1 hx];exact⟨by omega,hsm⟩
   ·refine List.Perm.trans ?_ hp
    simp only[YZ,Ya,YC,XA,Xf]
    have:=(hpm.append_right (bl.flatten++rest)).append_left D.flatten
    simpa only[Xf] using this
  |[X],hbl,hlen,hp,ho'=>
   obtain⟨hX1,hX2⟩:=hbl X (by simp)
   simp only[Ya,YC,XA] at hlen ho' hp
   by_cases hr0:rest=[]
   ·subst hr0
    simp only[X0] at hlen
    rw[XA] at ho' hp
    (refine Ah<|Ac<|Ab rfl<|Ab rfl<|C1 rfl rfl<|Aa<|An rfl (by omega)<|AU<|Ah<|Ac<|Ab rfl<|Ab rfl<|AI rfl rfl (by omega) (by omega)<|Ab rfl<|Aa<|Ac<|Ab rfl<|Ab rfl<|Av rfl rfl<|Aa<|An rfl (by omega)<|Ao<|Ax<|Ab rfl<|Hp rfl rfl (by omega) (by omega)<|Ab rfl<|Aa ?_)
    exact⟨bs*2,by omega,⟨rfl,rfl,rfl,int_eq (by omega),trivial⟩,rfl,hend X (by omega) hX2 h' hp ho'⟩
   ·have hrl:rest.length≠0:=fun q=>hr0 (Xo q)
    rw[←Xf] at ho' hp
    (refine Ah<|Ac<|Ab rfl<|Ab rfl<|C1 rfl rfl<|Aa<|An rfl (by omega)<|AU<|Ah<|Ac<|Ab rfl<|Ab rfl<|AI rfl rfl (by omega) (by omega)<|Ab rfl<|Aa<|Ac<|Ab rfl<|Ab rfl<|Av rfl rfl<|Aa<|Au rfl (by omega)<|Ax<|Ar rfl<|Ab rfl<|Ab rfl<|Ab rfl<|Cz rfl ?_)
    refine C7 1 rfl (h2 (A:=D.flatten) (X:=X) (Y:=rest) (B:=[]) oc hc1 _ (Xq _) (by rw[XA];exact ho') (by rw[XA];exact hg.perm hp) hX2 hsr (fun q=>by subst q;simp at hX1;omega) hr0 (by omega) (by omega) (by omega)) (fun r d3 L2 _ ⟨hdd,M',h3,hL,ho2,hpm,hsm⟩=>?_)
    subst hdd;subst hL
    have hml:=hpm.length_eq
    simp only[Xl] at hml
    rw[XA] at ho2
    (refine Aa<|Ax<|Ab rfl<|Hp rfl rfl (by omega) (by omega)<|Ab rfl<|Aa ?_)
    exact⟨bs*2,by omega,⟨rfl,rfl,rfl,int_eq (by omega),trivial⟩,rfl,hend M' (by omega) hsm h3 (by rw[Xf] at hp;exact(hpm.append_left _).trans hp) ho2⟩
  |[],hbl,hlen,hp,ho'=>
   simp only[YC,XL,X0] at hlen ho' hp
   (refine Ah<|Ac<|Ab rfl<|Ab rfl<|C1 rfl rfl<|Aa<|An rfl (by omega)<|AU<|Ah<|Ac<|Ab rfl<|Ab rfl<|AI rfl rfl (by omega) (by omega)<|Ab rfl<|Aa<|Ac<|Ab rfl<|Ab rfl<|Av rfl rfl<|Aa<|An rfl (by omega)<|Ao<|Ax<|Ab rfl<|Hp rfl rfl (by omega) (by omega)<|Ab rfl<|Aa ?_)
   exact⟨bs*2,by omega,⟨rfl,rfl,rfl,int_eq (by omega),trivial⟩,rfl,hend rest (by omega) hsr h' hp ho'⟩
 ·(refine Ah<|Ac<|Ab rfl<|Ab rfl<|Av rfl rfl<|Aa<|An rfl (by omega)<|AU ?_);refine HB _ (Xy _) ?_;refine⟨rfl,_,h',rfl,ho',hp,?_⟩
  match bl,hbl,hlen with
  |[],_,_=>exact hsr
  |[X],hbl,hlen=>
   obtain⟨hX1,hX2⟩:=hbl X (by simp)
   simp only[Ya,YC,XA] at hlen⊢
   obtain rfl:rest=[]:=Xo (by omega)
   rw[XA];exact hX2
  |X::Y::bl,hbl,hlen=>
   obtain⟨hX1,_⟩:=hbl X (by simp)
   obtain⟨hY1,_⟩:=hbl Y (by simp)
   simp only[Ya,Xl] at hlen
   omega
def Dk(a0:Nat):A0:=⟨9,[],(rG (om 4 0<|om 5 0<|oL 6 5<|om 7 1<|oc 8 a0 [4,6,7] .done))⟩
def I6{P f f1}(hd:dec P f=some (Dk f1))(h1:KY 7 P f1):Ku 7 P f:=by
 intro α R c d pa n cp g h xs oc hc1 ho hg;refine Bf hd (No rfl) ?_;show gwp P _ _ _ _ _;(refine Ax<|Ar rfl<|Ar rfl<|Ay rfl<|Cz rfl ?_);refine C7 1 rfl (h1 oc hc1 ho hg) (fun r d2 L2 _ ⟨hdd,ys,h2,hL,ho2,hp,hs⟩=>?_);subst hdd;subst hL;(apply Aa);refine HB [h2] (by simp) ?_;exact⟨rfl,ys,h2,rfl,ho2,hp,hs⟩
end Go.Gk
end
section
namespace Go.Gk
open Go
section
section
variable {P:Program}{pan:List PanicEntry→AT}{Qn:Env→AT}{Ls L:List Ae}{ρ:Env}{d:Ae}{s:GS}{t:Nat}
def KW{f g}{first cap:Array Value}{args R vs A B}(hp:L.Perm (A++B))(ef:ev ρ f=.func (.func g) first cap)(ea:first.toList++args.map (ev ρ)++cap.toList=vs)
  (hc:AY P g vs d A (Ret R)) (h:∀v d' L',Le d d'→R v d' L'→gws P pan Qn s Ls (upd ρ t v) d' (L'++B)):gws P pan Qn (.op false ⟨some t,none,.callv f args⟩ s) Ls ρ d L:=
 Cn d (A++B) (Vs.perm hp) (Qc A.length ef ea (by rw[List.take_left];exact hc) (fun v d' L' hl hr=>by rw[List.drop_left];exact h v d' L' hl hr))
def P8{f args R vs A B}(hc:AY P f vs d A (Ret R))(hp:L.Perm (A++B))(ea:args.map (ev ρ)=vs)
  (h:∀v d' L',Le d d'→R v d' L'→gws P pan Qn s Ls (upd ρ t v) d' (L'++B)):gws P pan Qn (.op false ⟨some t,none,.call f args⟩ s) Ls ρ d L:=
 Cn d (A++B) (Vs.perm hp) (C7 A.length ea (by rw[List.take_left];exact hc) (fun v d' L' hl hr=>by rw[List.drop_left];exact h v d' L' hl hr))
end
end
end Go.Gk
end
section
namespace Go.Gk.Val
open Go Go.Gk Go.Gk.Utf Go.Gk.Srt
attribute [local irreducible] gwp gws
section
def Bm(d:Ae)(cs:List Value)(w:List St):Prop:=∃u,cs=[u]∧RSl 6 RSt d u w
def CB:HK Bm:=fun hl h=>by obtain⟨u,rfl,h⟩:=h;exact⟨u,rfl,RSl.mono (R:=RSt) Cp h hl⟩
def JF:DN Bm:=fun d cs w h=>by obtain⟨u,rfl,h⟩:=h;obtain⟨a,c,rfl⟩:=RSl.val h;rfl
section
variable {P:Program}{pan:List PanicEntry→AT}{Qn:Env→AT}{Ls L:List Ae}{ρ:Env}{d:Ae}{s:GS}{t:Nat}{tk:Bool}
def WC{x y a}{n c:Nat}{c0 c1 c2 c3 c4 c5}(ex:ev ρ x=.slice a n c)(ey:ev ρ y=.agg [c0,c1,c2,c3,c4,c5].toArray)(h:gws P pan Qn s Ls (upd ρ t (.agg [.slice a n c,c0,c1,c2,c3,c4,c5].toArray)) d L):
  gws P pan Qn (.op tk ⟨some t,none,.bld [(0,1),(1,6)] [.slice none 0 0,vZ 0,vZ 0,vZ 0,Al [],.slice none 0 0,.slice none 0 0] [(0,x),(1,y)]⟩ s) Ls ρ d L:=
 BF (cs:=[.slice a n c,c0,c1,c2,c3,c4,c5]) (by simp[Instr.fill,ex,ey,Value.cells,Al]) h
def WT{x u c0 c1 c2 c3 c4 c5}(ex:ev ρ x=.agg [u,c0,c1,c2,c3,c4,c5].toArray)(h:∀b T,gws P pan Qn s Ls (upd ρ t (.slice (some ⟨b,0,none⟩) 1 1)) d (bx b T [u,c0,c1,c2,c3,c4,c5]::L)):
  gws P pan Qn (.op false ⟨some t,none,.bsl 1 7 [.slice none 0 0,vZ 0,vZ 0,vZ 0,Al [],.slice none 0 0,.slice none 0 0] [(0,x)]⟩ s) Ls ρ d L:=by
 refine E1 (by omega) ?_ h
 simp[Instr.fill,Bu,XK,List.range.loop,ex,Value.cells]
end
def JM(T:Ae→Prop)(P:Program)(f:FuncId):Prop:=∀{d cs wv}{v:V}{ws:List (List St)},T d→Aw d cs v→RSl 1 Bm d wv ws→BD v≤1000000→ws.length≤1000→(∀w∈ws,w.length≤100)→
 AY P f [.agg cs.toArray,wv] d [] (Ret fun r d' L'=>Le d d'∧∃cs' h,r=.tuple #[.agg cs'.toArray,vZ (IB v ws).2]∧L'=[h]∧B7 cs' (IB v ws).1 h)
def TQ{ws:List (List St)}{p:Nm}(h:p∈ws.map fun w=>(w,BC w))(ha:ws.all Ct=true):Ct p.1=true∧p.2=BC p.1∧(∀a∈p.2.list,AP a=0):=by
 obtain⟨w,hw,rfl⟩:=X4.1 h;have hk:=Xj.1 ha w hw;refine⟨hk,rfl,fun a ha=>?_⟩
 obtain⟨s,hs,rfl⟩:=X4.1 (show a∈w.map BP from ha);exact BU.2 ⟨K0 (Xj.1 hk s hs),by have:=LA s;omega⟩
def NG(a0 a1 a2 a3 a4 a5 a6 a7:Nat):A0:=⟨69,[(.cell 4 (some 6)),(.tmp 5)],(sR (o1 2 (.box 0)<|o1 4 (.alo (.agg #[(vZ 0),(vZ 0),(vZ 0),(Al []),(.slice none 0 0),(.slice none 0 0)]))<|o1 5 (.mv z0) .done) (.seq (sR (o1 16 (.ld (some 6) 2)<|oc 17 a0 [16]<|om 6 17 .done) (sR (om 18 6<|ob 19 .neq 18 z0 .done) (.cond 19 (sR (o1 20 (.bld [(0,1),(1,2),(3,1),(4,1),(5,1)] [(vZ 0),(vZ 0),(vZ 0),(Al []),(.slice none 0 0),(.slice none 0 0)] [])<|om 21 6<|o0 (.st 6 4 20)<|om 5 21 .done) .ret) .skip))) (sR (o1 7 (.mv nS) .done) (.seq (sR (om 22 1<|oL 23 22<|o1 24 (.mv z0) .done) (.block 0 (.loop (sR (ob 25 .lss 24 23 .done) (.seq (.cond 25 .skip (.exit 0)) (.seq (.block 1 (sR (oI 26 1 22 24<|ol 27 26<|om 9 27 .done) (sR (om 29 9<|oc 30 a1 [29]<|om 28 30<|oe 31 28 0<|oe 32 28 1<|o1 10 (.alo (.agg #[(vZ 0),(vZ 0),(vZ 0),(Al []),(.slice none 0 0),(.slice none 0 0)]))<|o0 (.st 6 10 31)<|om 11 32 .done) (.seq (sR (om 33 11<|ob 34 .neq 33 z0 .done) (.cond 34 (sR (o1 35 (.bld [(0,1),(1,2),(3,1),(4,1),(5,1)] [(vZ 0),(vZ 0),(vZ 0),(Al []),(.slice none 0 0),(.slice none 0 0)] [])<|om 36 11<|o0 (.st 6 4 35)<|om 5 36 .done) .ret) .skip)) (rG (om 37 7<|om 38 9<|o1 39 (.ld (some 6) 10)<|o1 40 (.bld [(0,1),(1,6)] [(.slice none 0 0),(vZ 0),(vZ 0),(vZ 0),(Al []),(.slice none 0 0),(.slice none 0 0)] [(0,38),(1,39)])<|o1 41 (.bsl 1 7 [(.slice none 0 0),(vZ 0),(vZ 0),(vZ 0),(Al []),(.slice none 0 0),(.slice none 0 0)] [(0,40)])<|o1 42 (.app 7 112 [(.slice none 0 0),(vZ 0),(vZ 0),(vZ 0),(Al []),(.slice none 0 0),(.slice none 0 0)] 37 41)<|om 7 42 .done)))))) (rG (ob 43 .add 24 z1<|om 24 43 .done)))))))) (sR (om 44 7<|oc 45 a2 [44,(.func a3)] .done) (sR (om 46 7<|oc 47 a4 [46,(.func a5)]<|om 7 47 .done) (.seq (sR (om 48 7<|oL 49 48<|o1 50 (.mv z0) .done) (.block 2 (.loop (sR (ob 51 .lss 50 49 .done) (.seq (.cond 51 .skip (.exit 2)) (.seq (.block 3 (sR (oI 52 7 48 50<|o1 53 (.ld (some 7) 52)<|o1 13 (.alo (.agg #[(.slice none 0 0),(vZ 0),(vZ 0),(vZ 0),(Al []),(.slice none 0 0),(.slice none 0 0)]))<|o0 (.st 7 13 53) .done) (sR (o1 55 (.ld (some 6) 2)<|oj 56 0 13<|ol 57 56<|oc 58 a6 [55,57]<|om 54 58<|oe 59 54 0<|oe 60 54 1<|o1 14 (.alo (.agg #[(vZ 0),(vZ 0),(vZ 0),(Al []),(.slice none 0 0),(.slice none 0 0)]))<|o0 (.st 6 14 59)<|om 15 60 .done) (.seq (sR (om 61 15<|ob 62 .neq 61 z0 .done) (.cond 62 (sR (o1 63 (.bld [(0,1),(1,2),(3,1),(4,1),(5,1)] [(vZ 0),(vZ 0),(vZ 0),(Al []),(.slice none 0 0),(.slice none 0 0)] [])<|om 64 15<|o0 (.st 6 4 63)<|om 5 64 .done) .ret) .skip)) (rG (o1 65 (.ld (some 6) 14)<|o0 (.st 6 2 65) .done)))))) (rG (ob 66 .add 50 z1<|om 50 66 .done)))))))) (sR (o1 67 (.ld (some 6) 2)<|oc 68 a7 [67]<|o0 (.st 6 4 68)<|o1 5 (.mv z0) .done) .ret))))))))⟩
set_option maxHeartbeats 4000000 in
def S5{T:Ae→Prop}{P:Program}{f f1 f2 f3 f4 f5 f6 f7 f8:FuncId}(hTm:∀{d d':Ae},Le d d'→T d→T d')(hd:dec P f=some (NG f1 f2 f3 f4 f5 f6 f7 f8))(h1:Ez T P f1)(h2:GY T P f2)(h3:Ku 7 P f3)(h4:My T P f4)(h5:Ja 7 P f5)(h6:KL P f6)(h7:OZ T P f7)(h8:Fy P f8):JM T P f:=by
 intro d cs wv v ws ht hv hws hb hwl hwb;refine Bf hd (No rfl) ?_;obtain⟨c0,c1,c2,c3,c4,c5,rfl⟩:=six hv.len;obtain⟨wa,wc,rfl⟩:=RSl.val hws;have hws0:RSl 1 Bm d (.slice wa ws.length wc) ws:=hws;show gwp P _ _ _ _ _;apply Ah;apply Ax;refine Cn d [emp] Vs.emp ?_;refine AR (l:=[c0,c1,c2,c3,c4,c5]) rfl (fun b2 T2=>?_);(refine AV (fun _ _=>Ab rfl<|Aa<|Ah<|Ac<|AE 1 rfl rfl rfl ?_));rename_i b4 T4;refine AD rfl (h1 ht hv) ?_;by_cases hr:AP v≠0
 ·rw[IB,if_pos hr];(refine Ab rfl<|Aa<|Ac<|Ab rfl<|AB rfl rfl<|Aa<|Au rfl (by omega)<|Ac<|Bz<|Ab rfl ?_);refine AA 0 Cm rfl rfl rfl rfl (No rfl) rfl rfl ?_;(refine Ab rfl<|Aa<|Aq ?_);exact F9 [.agg Cm.toArray,vZ (AP v)] ⟨A4 0 rfl rfl rfl,AZ rfl,trivial⟩ (d':=d) (L':=[_]) CS ⟨Le.refl _,_,_,rfl,rfl,B7.zero⟩
 rewrite [IB,if_neg hr];(refine Ab rfl<|Aa<|Ac<|Ab rfl<|AB rfl rfl<|Aa<|An rfl (by omega)<|Ao<|Ac<|Ar rfl<|Aa<|Ah<|Ac<|Ar rfl<|Ay rfl<|Ab rfl<|Aa<|As ?_);refine A6 (α:=Nat×Option Addr×Nat) (fun x=>[(2,pZ b2),(4,pZ b4),(7,.slice x.2.1 x.1 x.2.2),(22,.slice wa ws.length wc),(23,vZ ws.length),(24,vZ x.1)])
  (fun x d' L'=>Le d d'∧x.1≤ws.length∧(∀j (hj:j<ws.length),j<x.1→Ct ws[j]=true)∧∃J h,AO 7 RNm d' (.slice x.2.1 x.1 x.2.2) ((ws.map fun w=>(w,BC w)).take x.1) h∧L'=bx b4 T4 Cm::bx b2 T2 [c0,c1,c2,c3,c4,c5]::h::J)
  (fun x=>ws.length - x.1) (0,none,0) ⟨rfl,rfl,rfl,rfl,rfl,rfl,trivial⟩ ⟨Le.refl _,Xw _,fun j _ h=>absurd h (XP j),[],emp,AO.nil,rfl⟩ ?_
 rintro⟨i,ra,rc⟩ ρ d3 L' ⟨hl3,hi,hall,J,h,hrow,hL⟩;simp only at hi hall hrow⊢;subst hL;have hws3:RSl 1 Bm d3 (.slice wa ws.length wc) ws:=RSl.mono (R:=Bm) CB hws0 hl3;have ht3:=hTm hl3 ht;have hv3:=hv.mono hl3;by_cases hc:i<ws.length
 ·(refine Ac<|Av rfl rfl<|Aa<|Ah<|Au rfl (by omega)<|Ao<|Ah<|As<|Ac ?_);refine AN (sz:=1) (R:=Bm) rfl hws3 rfl rfl hc (fun bq oq csq hcq hDq ⟨u,hu,hw⟩=>?_);subst hu;obtain⟨ua,uc,rfl⟩:=RSl.val hw;(refine Ai rfl (Bb (by assumption) rfl)<|Ar rfl<|Aa<|Ac<|Ar rfl ?_);have hlw:=hwb _ (Xh hc);refine AQ rfl (h2 ht3 hw (by omega)) (fun r d4 L4 hl4 ⟨hL,cs',hr',hR⟩=>?_);subst hL;subst hr';obtain⟨e0,e1,e2,e3,e4,e5,rfl⟩:=six hR.len;(refine A9 rfl<|AH rfl rfl<|AH rfl rfl<|AV (fun _ _=>?_));rename_i b10 T10;refine AA 0 [e0,e1,e2,e3,e4,e5] rfl rfl rfl rfl (No rfl) (AK _ _ _ hR) rfl ?_;have hvf:Cy ws[i]=if Ct ws[i]=true then(BC ws[i],0) else(V.zero,2):=rfl
  by_cases hok:Ct ws[i]=true
  ·rw[if_pos hok] at hvf;have hvf2:(Cy ws[i]).2=0:=by rw[hvf]
   rw[hvf] at hR;rewrite [hvf2];simp only at hR;clear hvf hvf2;have hall2:True∧∀j (hj:j<ws.length),j<i+1→Ct ws[j]=true:=⟨trivial,fun j hj hji=>by
    by_cases e:j<i
    ·exact hall j hj e
    ·obtain rfl:j=i:=by omega
     exact hok⟩
   clear hok;(refine Ab rfl<|Aa<|Ah<|Ac<|Ab rfl<|AB rfl rfl<|Aa<|An rfl (by omega)<|Ao<|Ax<|Ar rfl<|Ar rfl<|AE 0 rfl rfl rfl<|WC rfl rfl ?_);refine WT rfl (fun b41 T41=>?_);have hnm:RNm d4 [.slice ua ws[i].length uc,e0,e1,e2,e3,e4,e5] (ws[i],BC ws[i]):=⟨_,_,rfl,RSl.mono (R:=RSt) Cp hw hl4,hR⟩
   have hrow4:AO 7 RNm d4 (.slice ra i rc) ((ws.map fun w=>(w,BC w)).take i) h:=AO.mono (R:=RNm) Mq hrow hl4;refine F1 (R:=RNm) 3 rfl rfl hrow4 rfl (AO.Fx rfl hnm) IM (by omega) (by simp;omega) (by simp;omega) (fun v5 h5 o5=>?_);have htk:(ws.map fun w=>(w,BC w)).take i++[(ws[i],BC ws[i])]=(ws.map fun w=>(w,BC w)).take (i+1):=by rw[Xi (show i<(ws.map fun w=>(w,BC w)).length by simpa using hc)];simp
   rw[htk] at o5;obtain⟨a5,c5',rfl⟩:=o5.val;have hlt:((ws.map fun w=>(w,BC w)).take (i+1)).length=i+1:=by simp;omega
   rw[hlt] at o5;rewrite [hlt];refine Cn d4 (bx b4 T4 Cm::bx b2 T2 [c0,c1,c2,c3,c4,c5]::h5::J) (Vs.drop (.cons _ (Xy _))) ?_;(refine Ar rfl<|Aa<|Ax<|AI rfl rfl (by omega) (by omega)<|Ab rfl<|Aa ?_);exact⟨(i+1,a5,c5'),by simp only;omega,⟨rfl,rfl,rfl,rfl,rfl,int_eq (by omega),trivial⟩,hl3.trans hl4,hc,hall2.2,J,h5,o5,rfl⟩
  ·rw[if_neg hok] at hvf;have hvf2:(Cy ws[i]).2=2:=by rw[hvf]
   rw[hvf] at hR;rewrite [hvf2];simp only at hR;clear hvf hvf2;rewrite [if_neg (fun q=>hok (Xj.1 q _ (Xh hc)))];clear hok;(refine Ab rfl<|Aa<|Ah<|Ac<|Ab rfl<|AB rfl rfl<|Aa<|Au rfl (by omega)<|Ac<|Bz<|Ab rfl ?_);refine AA 1 Cm rfl rfl rfl rfl (No rfl) rfl rfl ?_;(refine Ab rfl<|Aa<|Aq ?_);exact F9 [.agg Cm.toArray,vZ 2] ⟨A4 1 rfl rfl rfl,AZ rfl,trivial⟩ (d':=d4) (L':=[_]) CS ⟨hl3.trans hl4,_,_,rfl,rfl,B7.zero⟩
 ·obtain rfl:i=ws.length:=by omega
  have hwok:ws.all Ct=true:=by
   rw[Xj];intro w hw;obtain⟨j,hj,rfl⟩:=X7 hw;exact hall j hj hj
  rewrite [if_pos hwok];have hfull:(ws.map fun w=>(w,BC w)).take ws.length=ws.map fun w=>(w,BC w):=XQ (by simp);rw[hfull] at hrow;generalize hN:(ws.map fun w=>(w,BC w))=N at hrow;have hNl:N.length=ws.length:=by rw[←hN];simp
  have hNk:∀p∈N,Ct p.1=true∧p.2=BC p.1∧(∀a∈p.2.list,AP a=0):=fun p hp=>TQ (ws:=ws) (by rw[hN];exact hp) hwok;have hNw:ws.map BC=N.map (·.2):=by rw[←hN,YR];rfl
  (refine Ac<|Av rfl rfl<|Aa<|Ah<|An rfl (by omega)<|AU<|Ac<|Ar rfl ?_);have hcmp:Ht P RNm cN f4 d3 N:=fun p hp q hq cs ds rp rq=>by
   have:=h4 ht3 rp rq (hNk p hp).2.2 (hNk q hq).2.2;rw[U8] at this;exact this
  have hnl:N.length=ws.length:=hNl;rw[←hnl] at hrow;rewrite [←hnl];refine P8 (A:=[h]) (B:=bx b4 T4 Cm::bx b2 T2 [c0,c1,c2,c3,c4,c5]::J) (h3 Wt IM hrow hcmp) ((XD _ (XM _ _ _)).trans (XM _ _ _)) rfl (fun r d9 L9 _ ⟨hdd,ys,h9,hL,hrow2,hpm,hsrt⟩=>?_);subst hdd;subst hL;have hyl:ys.length=N.length:=hpm.length_eq;rw[←hyl] at hrow2;rewrite [←hyl];(refine Aa<|Ac<|Ar rfl ?_);refine P8 (A:=[h9]) (B:=bx b4 T4 Cm::bx b2 T2 [c0,c1,c2,c3,c4,c5]::J) (h5 (e:=fun a b:Nm=>CF a.2 b.2) IM hrow2 (fun x _ y _ cs ds rx ry=>h6 rx ry) rfl) (Ym _) rfl (fun r d10 L10 _ ⟨hdd,h10,hr10,hL,hrow3⟩=>?_);subst hdd;subst hL;subst hr10;refine Bt (fun d5 hl5 hg5=>?_);have hrs:=hrow3.rsl (R:=RNm) Mq (by omega) hl5 hg5;have hcl:=P1 (fun a b:Nm=>CF a.2 b.2) ys;have hsort:Srt (fun x y=>BX y x) (ys.map (·.2)):=by
   refine List.pairwise_map.2 (hsrt.imp_of_mem fun{a b} ha hb hab=>?_);have ha':=hNk a (hpm.mem_iff.1 ha);have hb':=hNk b (hpm.mem_iff.1 hb);unfold cN at hab;rw[ha'.2.1,hb'.2.1] at hab;rewrite [ha'.2.1,hb'.2.1];exact hab
  have hdesc:(BJ (fun a b:Nm=>CF a.2 b.2) ys).map (·.2)=FK (ws.map BC):=by
   rw[PT,hNw];refine P6 (fun y hy=>?_) (fun x=>(hpm.map (·.2)).mem_iff) hsort;obtain⟨p,hp,rfl⟩:=X4.1 hy;obtain⟨k1,k2,_⟩:=hNk p hp;rw[k2];exact MM k1
  have hCk:∀p∈BJ (fun a b:Nm=>CF a.2 b.2) ys,Ct p.1=true∧p.2=BC p.1∧p.1.length≤100:=fun p hp=>by
   have hpy:p∈ys:=(PQ _ _).subset hp;have hpN:=hpm.mem_iff.1 hpy;obtain⟨k1,k2,_⟩:=hNk p hpN;refine⟨k1,k2,?_⟩
   rw[←hN] at hpN;obtain⟨w,hw,rfl⟩:=X4.1 hpN;exact hwb w hw
  rewrite [←hdesc];generalize hC:BJ (fun a b:Nm=>CF a.2 b.2) ys=C at hrs hcl hCk⊢;clear hcmp hN hNk hNw hdesc hsort hsrt hpm hC hall hwok;(refine Ar rfl<|Aa<|Ah<|Ac<|Ar rfl<|Ay rfl<|Ab rfl<|Aa<|As ?_);refine A6 (α:=Nat) (fun i=>[(2,pZ b2),(4,pZ b4),(48,.slice ra C.length rc),(49,vZ C.length),(50,vZ i)])
   (fun i d' L'=>Le d5 d'∧i≤C.length∧∃v' a0 a1 a2 a3 a4 a5 J,Aw d' [a0,a1,a2,a3,a4,a5] v'∧BD v'≤1000000∧HQ v (C.map (·.2))=HQ v' ((C.drop i).map (·.2))∧L'=bx b4 T4 Cm::bx b2 T2 [a0,a1,a2,a3,a4,a5]::J)
   (fun i=>C.length - i) 0 ⟨rfl,rfl,rfl,rfl,rfl,trivial⟩ ⟨Le.refl _,Xw _,v,c0,c1,c2,c3,c4,c5,J,hv3.mono hl5,hb,rfl,rfl⟩ ?_
  rintro i ρ d6 L' ⟨hl6,hi,v',a0,a1,a2,a3,a4,a5,J',hv',hb',hdr,hL⟩;subst hL;have hrs6:RSl 7 RNm d6 (.slice ra C.length rc) C:=RSl.mono (R:=RNm) Mq hrs hl6;have ht6:=hTm (hl5.trans hl6) ht3;have hva:=AK _ _ _ hv';by_cases hc:i<C.length
  ·obtain⟨k1,k2,k3⟩:=hCk _ (Xh hc);rw[←Yg hc,Yd,HQ] at hdr;rw[k2,←PK k1] at hdr;(refine Ac<|Av rfl rfl<|Aa<|Ah<|Au rfl (by omega)<|Ao<|Ah<|As<|Ac ?_);refine AN (sz:=7) (R:=RNm) rfl hrs6 rfl rfl hc (fun bq oq csq hcq hDq ⟨u,vs,hu,hw,hx⟩=>?_);subst hu;obtain⟨ua,uc,rfl⟩:=RSl.val hw;have hxc:=AK _ _ _ hx;obtain⟨x0,x1,x2,x3,x4,x5,rfl⟩:=six hx.len;(refine B5 rfl (by assumption) rfl<|AV (fun _ _=>?_));rename_i b13 T13;refine AA 0 [.slice ua C[i].1.length uc,x0,x1,x2,x3,x4,x5] rfl rfl rfl rfl (No rfl) (IM d6 _ C[i] ⟨_,_,rfl,hw,hx⟩) rfl ?_;(refine Aa<|Ac<|AE 2 rfl rfl rfl<|Ag rfl<|Ai rfl (Ak 0 rfl rfl) ?_);refine AQ rfl (h7 ht6 hv' hw hb' k3) (fun r d7 L7 hl7 ⟨hdd,cs',g,hr',hL,ho⟩=>?_);subst hdd;subst hL;subst hr';have htx:=PY v' C[i].1 hb';obtain⟨e0,e1,e2,e3,e4,e5,rfl⟩:=six ho.cells.1;refine Bt (fun d8 hl8 hg8=>?_);have hR:=ho.HE hg8;have hRc:=AK _ _ _ hR;(refine A9 rfl<|AH rfl rfl<|AH rfl rfl<|AV (fun _ _=>?_));rename_i b14 T14;refine AA 0 [e0,e1,e2,e3,e4,e5] rfl rfl rfl rfl (No rfl) hRc rfl ?_;by_cases he:(CP v' C[i].1).2≠0
   ·rw[if_pos he] at hdr;rewrite [hdr];(refine Ab rfl<|Aa<|Ah<|Ac<|Ab rfl<|AB rfl rfl<|Aa<|Au rfl (by omega)<|Ac<|Bz<|Ab rfl ?_);refine AA 2 Cm rfl rfl rfl rfl (No rfl) rfl rfl ?_;(refine Ab rfl<|Aa<|Aq ?_);exact F9 [.agg Cm.toArray,vZ (CP v' C[i].1).2] ⟨A4 2 rfl rfl rfl,AZ rfl,trivial⟩ (d':=d8) (L':=[_]) CS ⟨((hl3.trans hl5).trans hl6).trans hl8,_,_,rfl,rfl,B7.zero⟩
   ·rw[if_neg he] at hdr;(refine Ab rfl<|Aa<|Ah<|Ac<|Ab rfl<|AB rfl rfl<|Aa<|An rfl (by omega)<|Ao<|Ax<|AE 0 rfl rfl rfl ?_);refine Cn d8 (bx b4 T4 Cm::bx b2 T2 [a0,a1,a2,a3,a4,a5]::J') (Vs.drop (.cons _ (.cons _ (Xy _)))) ?_;refine AA 1 [e0,e1,e2,e3,e4,e5] rfl rfl rfl rfl (No rfl) hRc rfl ?_;(refine Aa<|Ax<|AI rfl rfl (by omega) (by omega)<|Ab rfl<|Aa ?_);exact⟨i+1,by omega,⟨rfl,rfl,rfl,rfl,int_eq (by omega),trivial⟩,hl6.trans hl8,hc,_,e0,e1,e2,e3,e4,e5,J',hR,X6 htx hb',hdr,rfl⟩
  ·obtain rfl:i=C.length:=by omega
   rw[XY] at hdr;rw[show HQ v' (([]:List Nm).map (·.2))=(v',0) from rfl] at hdr;rewrite [hdr];have hcn:=EM v';(refine Ac<|Av rfl rfl<|Aa<|Ah<|An rfl (by omega)<|AU<|Ac<|AE 1 rfl rfl rfl ?_);refine AQ rfl (h8 _ hv' (by omega)) (fun r d7 L7 hl7 ⟨hdd,cs',g,hr',hL,ho⟩=>?_);subst hdd;subst hL;subst hr';obtain⟨e0,e1,e2,e3,e4,e5,rfl⟩:=six ho.cells.1;refine AA 1 [e0,e1,e2,e3,e4,e5] rfl rfl rfl rfl (No rfl) ho.cells.2 rfl ?_;(refine Ab rfl<|Aa<|Aq ?_);exact F9 [.agg [e0,e1,e2,e3,e4,e5].toArray,vZ 0] ⟨A4 1 rfl rfl rfl,AZ rfl,trivial⟩ (d':=d7) (L':=[g]) (Vs.drop ((Xm _).cons_cons _)) ⟨(hl3.trans hl5).trans hl6,_,_,rfl,rfl,ho⟩
end
end Go.Gk.Val
end
section
namespace Go.Gk.Val
open Go Go.Gk Go.Gk.Utf
attribute [local irreducible] gwp gws
variable{i:Nat}{v:V}{d h:Ae}
def stepOf(k:Int)(ks:List (List UInt8))(i:Nat):St:=if k=6 then⟨0,ks.getD i [],0,0,false,false⟩ else⟨1,[],i,0,false,false⟩
mutual
def AL:V→List (List St)
 |.mk k _ _ _ l ks=>[]::BZ k ks 0 l
def BZ(k:Int)(ks:List (List UInt8)):Nat→List V→List (List St)
 |_,[]=>[]
 |i,x::l=>(AL x).map (stepOf k ks i:: ·)++BZ k ks (i+1) l
end
def DW(v:V):AL v=[]::BZ v.kind v.keys 0 v.list:=by obtain⟨k,m,e,t,l,ks⟩:=v;rfl
def Lj(k:Int)(ks:List (List UInt8)):∀(l:List V) (i:Nat) (x:V),BZ k ks i (l++[x])=BZ k ks i l++(AL x).map (stepOf k ks (i+l.length):: ·)
 |[],i,x=>by simp[BZ]
 |y::l,i,x=>by
  have e:i+1+l.length=i+(l.length+1):=by omega
  simp only[XF,BZ,Lj k ks l (i+1) x,Xv,Xf,e]
def Lp{k:Int}{ks}{l:List V}(h:i<l.length):BZ k ks 0 (l.take (i+1))=BZ k ks 0 (l.take i)++(AL l[i]).map (stepOf k ks i:: ·):=by
 rw[Xi h,Lj,Xn,YB (Nat.le_of_lt h),XZ]
def FQ(k:Int)(ks:List (List UInt8)):∀(l:List V) (i:Nat),(∀x∈l,(AL x).length≤BS x)→(BZ k ks i l).length≤B3 l
 |[],_,_=>Xw _
 |x::l,i,h=>by
  have h1:=h x (Xp ..);have h2:=FQ k ks l (i+1) (fun y hy=>h y (Xk _ hy));simp only[BZ,Xl,Ye,B3];omega
def KQ(v:V):(AL v).length≤BS v:=by
 induction v using V.ind with
 |h v ih=>
  rw[DW,Cq,Xv]
  have:=FQ v.kind v.keys v.list 0 ih
  omega
def JG:∀(l:List V) (n:Nat),B3 (l.take n)≤B3 l
 |[],_=>by simp[B3]
 |x::l,0=>by simp[B3]
 |x::l,n+1=>by have:=JG l n;simp only[Ys,B3];omega
def SN(h:i≤v.list.length):(BZ v.kind v.keys 0 (v.list.take i)).length≤B3 v.list:=by
 have h1:=FQ v.kind v.keys (v.list.take i) 0 (fun x _=>KQ x);have h2:=JG v.list i;omega
def OWs(v:Value)(ws:List (List St))(L:List Ae):Prop:=
 ∃us h0 hs,BB 1 v ws.length us h0∧hs.length=ws.length∧(∀i (hi:i<ws.length),∃u g,us[i]?=some u∧hs[i]?=some g∧AO 6 RSt emp u ws[i] g)∧L=h0::hs
def OWs.nil:OWs (.slice none 0 0) [] [emp]:=⟨[],emp,[],BB.nil 1,rfl,fun i hi=>absurd hi (XP i),rfl⟩
def Tc{v}{w:List St}(o:AO 6 RSt d v w h):[v].all (·.oneCell')=true:=by obtain⟨a,c,rfl⟩:=o.val;rfl
def Oe{v}{w:List St}(o:AO 6 RSt d v w h):v.cells= #[v]:=by obtain⟨a,c,rfl⟩:=o.val;rfl
def GB{d' v}{w:List St}(o:AO 6 RSt d v w h):AO 6 RSt d' v w h:=o
def OWs.snoc{v'}{ws:List (List St)}{us hs u}{w:List St}{h0 g}(ho:BB 1 v' (ws.length+1) (us++[u]) h0)(hul:us.length=ws.length)(hhl:hs.length=ws.length)
  (hel:∀i (hi:i<ws.length),∃u g,us[i]?=some u∧hs[i]?=some g∧AO 6 RSt emp u ws[i] g) (hg:AO 6 RSt emp u w g):OWs v' (ws++[w]) (h0::(hs++[g])):=by
 refine⟨us++[u],h0,hs++[g],by simpa using ho,by simp[hhl],fun i hi=>?_,rfl⟩
 by_cases e:i<ws.length
 ·obtain⟨u',g',e1,e2,e3⟩:=hel i e
  exact⟨u',g',by rw[Yj (by omega)];exact e1,by rw[Yj (by omega)];exact e2,by rw[List.getElem_append_left e];exact e3⟩
 ·obtain rfl:i=ws.length:=by simp at hi;omega
  refine⟨u,g,by rw[Yf (by omega),hul,YT];rfl,by rw[Yf (by omega),hhl,YT];rfl,?_⟩
  simp only[List.getElem_append_right (Xq _),YT]
  exact hg
def OT(h:BK v=true)(h6:v.kind=6):v.keys.length=v.list.length:=by
 simp only[BK,Xg,XN,decide_eq_true_eq] at h;rcases h.2 with q|q
 ·exact absurd h6 q
 ·exact q
def LZ{d' kv}{k:Int}{ks}(hk:B9 d kv ks)(hi:i≤1000000000):RSt d' (stL (stepOf k ks i)) (stepOf k ks i):=by
 refine⟨rfl,?_⟩
 unfold stepOf;split
 ·refine⟨A3,?_,A3,A3⟩
  by_cases h:i<ks.length
  ·obtain⟨a,c,b,o,_,_,_,_,_,_,_,h8⟩:=hk;obtain⟨cs,_,_,_,h9⟩:=h8 i h;simpa [h] using h9
  ·simp[List.getD,List.getElem?_eq_none (Nat.le_of_not_lt h)]
 ·exact⟨IQ,by simp,⟨by simp only;omega,by simp only;omega⟩,A3⟩
def Ns{l:List V}:∀{i:Nat}(h:i<l.length),B3 (l.take i)+BS l[i]≤B3 l:=by
 induction l with
 |nil=>intro i h;exact absurd h (XP i)
 |cons x l ih=>
  intro i h
  cases i with
  |zero=>simp[B3]
  |succ i=>have:=ih (i:=i) (by simpa using h);simp only[Ys,B3,List.getElem_cons_succ];omega
def GU{x:V}(h:x∈v.list):Bh x+1≤Bh v:=by
 have h1:=Ex v;obtain⟨n,hn⟩:∃n,Bh v=n+1:=⟨Bh v - 1,by omega⟩
 have:=D5.1 (Nat.le_of_eq hn) x h;omega
def HX{P}{Q:DO}{a:Cl}{ρ L}(M:Env→AT)(h1:gwp P a {Q with n:=M} ρ d L)(h2:∀ρ d L,M ρ d L→Q.n ρ d L):gwp P a Q ρ d L:=KJ h2 h1
def Jg(P:Program)(f:FuncId):Prop:=∀{d v}{xs:List St},RSl 6 RSt d v xs→xs.length≤1000000→AY P f [v] d [] (Ret fun r d' L'=>d'=d∧∃h,L'=[h]∧AO 6 RSt d r xs h)
def E8:A0:=⟨8,[(.tmp 2)],(sR (o1 2 (.mv nS) .done) (.seq (sR (om 3 0<|o1 4 (.eqs false 3 nS) .done) (.cond 4 (sR (o1 2 (.mv nS) .done) .ret) .skip)) (sR (o1 5 (.bsl 0 6 [(vZ 0),(Al []),(vZ 0),(vZ 0),(.bool false),(.bool false)] [])<|om 6 0<|o1 7 (.app 6 48 [(vZ 0),(Al []),(vZ 0),(vZ 0),(.bool false),(.bool false)] 5 6)<|om 2 7 .done) .ret)))⟩
def Th{P f}(hd:dec P f=some E8):Jg P f:=by
 intro d v xs hv hb;have hv':=hv;have hxl:=RSl.A2 hv;obtain⟨a,c,b,o,rfl,h2,h3,h4,h5,_⟩:=hv;refine Bf hd (No rfl) ?_;show gwp P _ _ _ _ _;cases a with
 |none=>
  have:xs=[]:=Xo (by have:=h4 rfl;omega)
  subst this
  apply Ah;apply Ax
  refine Cn d [emp] Vs.emp ?_
  (refine Ar rfl<|Aa<|Ah<|Ac<|Ar rfl<|Se rfl rfl<|Aa<|Bd rfl<|Ac<|Ar rfl<|Aa<|Aq ?_)
  exact N8 (L':=[emp]) rfl (Xy _) ⟨rfl,emp,rfl,AO.nil⟩
 |some a=>
  (refine Ac<|Ar rfl<|Aa<|Ah<|Ac<|Ar rfl<|SV rfl rfl<|Aa<|AJ rfl<|Ao<|Ac ?_)
  refine E1 (cs:=[]) (by omega) rfl (fun b8 T8=>?_)
  (apply Ar;rfl)
  refine ES 0 rfl rfl (AO.V6 (R:=RSt) (sz:=6)) rfl (RSl.src (R:=RSt) (xs:=xs) hv' Gz (by omega) _) (by omega) (by simp;omega) (by simp;omega) (fun v5 h5 hrow5=>?_)
  (refine N5<|Aa<|Aq ?_)
  exact N8 (L':=[h5]) rfl (Xy _) ⟨rfl,h5,rfl,hrow5⟩
def M0{ws:List (List St)}{w:List St}(h:i<v.list.length):
  ws++[w]++(BZ v.kind v.keys 0 (v.list.take i)).map (w++ ·)++(AL v.list[i]).map ((w++[stepOf v.kind v.keys i])++ ·)=ws++[w]++(BZ v.kind v.keys 0 (v.list.take (i+1))).map (w++ ·):=by
 rw[Lp h,List.map_append,YR,Xf]
 congr 2
 refine X1 fun y _=>?_
 simp
def MO(P:Program)(f:FuncId):Prop:=∀(v:V) {d cs wv out}{w:List St}{ws:List (List St)}{bo bw:Nat}{To Lo},Aw d cs v→Bc v=true→RSl 6 RSt d wv w→
 DCs d bw 0 [.func (.func f) #[] #[pZ bo,pZ bw]]→OWs out ws Lo→ws.length+BS v≤1000000→w.length+Bh v≤1000000→
 AY P f [wv,.agg cs.toArray,pZ bo,pZ bw] d (bx bo To [out]::Lo) (Ret fun _ d' L'=>Le d d'∧∃out' Lo',L'=bx bo To [out']::Lo'∧OWs out' (ws++(AL v).map (w++ ·)) Lo')
def MP(a0:Nat):A0:=⟨42,[],(sR (o1 5 (.box 1) .done) (.seq (.reg true (pm 10 0 (.alt ⟨(some 9),none,(.ld none 2)⟩ (oc 11 a0 [10] (o1 12 (.bsl 1 1 [(.slice none 0 0)] [(0,11)]) (o1 13 (.app 1 24 [(.slice none 0 0)] 9 12) (.bar (o0 (.st 1 2 13) .done))))) (oc 11 a0 [10] (.alt ⟨(some 9),none,(.ld none 2)⟩ (o1 12 (.bsl 1 1 [(.slice none 0 0)] [(0,11)]) (o1 13 (.app 1 24 [(.slice none 0 0)] 9 12) (.bar (o0 (.st 1 2 13) .done)))) (o1 12 (.bsl 1 1 [(.slice none 0 0)] [(0,11)]) (ol 9 2 (o1 13 (.app 1 24 [(.slice none 0 0)] 9 12) (.bar (o0 (.st 1 2 13) .done)))))))))) (sR (oj 14 4 5<|ol 15 14<|oL 16 15<|o1 17 (.mv z0) .done) (.block 0 (.loop (sR (ob 18 .lss 17 16 .done) (.seq (.cond 18 .skip (.exit 0)) (.seq (.block 1 (sR (om 19 17<|oI 20 6 15 17<|o1 21 (.ld (some 6) 20)<|o1 7 (.alo (.agg #[(vZ 0),(vZ 0),(vZ 0),(Al []),(.slice none 0 0),(.slice none 0 0)]))<|om 6 19<|o0 (.st 6 7 21) .done) (sR (om 22 6<|o1 23 (.bld [(0,1),(1,1),(2,1),(3,1),(4,1),(5,1)] [(vZ 0),(Al []),(vZ 0),(vZ 0),(.bool false),(.bool false)] [(0,z1),(2,22)])<|o1 8 (.alo (.agg #[(vZ 0),(Al []),(vZ 0),(vZ 0),(.bool false),(.bool false)]))<|o0 (.st 6 8 23) .done) (.seq (sR (oj 24 0 5<|ol 25 24<|ob 26 .eql 25 (kZ 6) .done) (.cond 26 (rG (oj 27 5 5<|ol 28 27<|om 29 6<|oI 30 1 28 29<|ol 31 30<|o1 32 (.bld [(0,1),(1,1),(2,1),(3,1),(4,1),(5,1)] [(vZ 0),(Al []),(vZ 0),(vZ 0),(.bool false),(.bool false)] [(0,z0),(1,31)])<|o0 (.st 6 8 32) .done)) .skip)) (.reg true (pl 33 3<|pm 34 0<|p1 36 (.ld (some 6) 8)<|p1 39 (.ld (some 6) 7) (.alt ⟨(some 35),none,(.call a0 [34])⟩ (o1 37 (.bsl 1 6 [(vZ 0),(Al []),(vZ 0),(vZ 0),(.bool false),(.bool false)] [(0,36)]) (o1 38 (.app 6 48 [(vZ 0),(Al []),(vZ 0),(vZ 0),(.bool false),(.bool false)] 35 37) (o1 40 (.callv 33 [38,39]) .done))) (o1 37 (.bsl 1 6 [(vZ 0),(Al []),(vZ 0),(vZ 0),(.bool false),(.bool false)] [(0,36)]) (oc 35 a0 [34] (o1 38 (.app 6 48 [(vZ 0),(Al []),(vZ 0),(vZ 0),(.bool false),(.bool false)] 35 37) (o1 40 (.callv 33 [38,39]) .done))))))))))) (rG (ob 41 .add 17 z1<|om 17 41 .done))))))))))⟩
set_option maxHeartbeats 4000000 in
def TV{P f f1}(hd:dec P f=some (MP f1))(h1:Jg P f1):MO P f:=by
 intro v;induction v using V.ind with
 |h v ih=>
 intro d cs wv out w ws bo bw To Lo hv hmay hw hbw ho hbs hbd;refine Bf hd (No rfl) ?_;have hcl:=E9 (v:=v);have hdp:=Ex v;obtain⟨wa,wc,rfl⟩:=RSl.val hw;obtain⟨lv,kv,rfl,ik,im,ie,it,hl,hks⟩:=hv.open;obtain⟨la,lc,rfl⟩:=RSl.val hl;obtain⟨ka,kc,rfl⟩:=RSl.val hks;show gwp P _ _ _ _ _;apply Ah;apply Ax;refine AR (l:=[vZ v.kind,vZ v.m,vZ v.e,Al v.text,.slice la v.list.length lc,.slice ka v.keys.length kc]) rfl (fun b5 T5=>?_);obtain⟨us,h0,hs,ho1,ho2,ho3,rfl⟩:=ho;obtain⟨oa,_,oc,rfl,_⟩:=ho1.slice;have hul:us.length=ws.length:=by have:=ho1.1;omega
 (apply Aa);refine DY (fun ρ d1 L'=>Le d d1∧DCs d1 b5 0 [vZ v.kind,vZ v.m,vZ v.e,Al v.text,.slice la v.list.length lc,.slice ka v.keys.length kc]∧∃out' Lo',Bi ρ [(0,.slice wa w.length wc),(2,pZ bo),(3,pZ bw),(5,pZ b5)]∧
  OWs out' (ws++[w]) Lo'∧L'=bx bo To [out']::Lo') ?_ ?_
 ·refine TF [] _ Vs.freeze ?_;have hg1:=Le.Ce d (bx b5 T5 [vZ v.kind,vZ v.m,vZ v.e,Al v.text,.slice la v.list.length lc,.slice ka v.keys.length kc]);have hl1:=Le.BR d (bx b5 T5 [vZ v.kind,vZ v.m,vZ v.e,Al v.text,.slice la v.list.length lc,.slice ka v.keys.length kc]);revert hg1 hl1;generalize join d (bx b5 T5 [vZ v.kind,vZ v.m,vZ v.e,Al v.text,.slice la v.list.length lc,.slice ka v.keys.length kc])=d1;intro hg1 hl1;have hw1:RSl 6 RSt d1 (.slice wa w.length wc) w:=RSl.mono (R:=RSt) Cp hw hl1;(apply Ar;rfl);refine Ee ?_ ?_
  ·(apply Ai;rfl;exact Ak 0 rfl rfl);refine AQ rfl (h1 hw1 (by omega)) (fun r d2 L2 _ ⟨hdd,g,hL,hg⟩=>?_);subst hdd;subst hL;refine Ef (v0:=r) rfl (Oe hg) (fun b12 T12=>?_);refine J1 2 rfl rfl ho1 rfl rfl (Tc hg) (by omega) (by omega) (by omega) (fun v5 h5 ho5=>?_);obtain⟨a5,_,c5,rfl,_⟩:=ho5.slice;(apply Cr);refine AA 1 [.slice a5 (ws.length+1) c5] rfl rfl rfl rfl (No rfl) rfl rfl ?_;exact H6 ⟨_,_,Vs.perm (Yr g (bx bo To [.slice a5 (ws.length+1) c5]::h5::hs)).symm,hl1,Ib hg1,_,_,⟨rfl,rfl,rfl,rfl,trivial⟩,OWs.snoc ho5 hul ho2 ho3 (GB hg),rfl⟩
  ·skip;refine AQ rfl (h1 hw1 (by omega)) (fun r d2 L2 _ ⟨hdd,g,hL,hg⟩=>?_);subst hdd;subst hL;refine Ee ?_ ?_
   ·(apply Ai;rfl;exact Ak 1 rfl rfl);refine Ef (v0:=r) rfl (Oe hg) (fun b12 T12=>?_);refine J1 2 rfl rfl ho1 rfl rfl (Tc hg) (by omega) (by omega) (by omega) (fun v5 h5 ho5=>?_);obtain⟨a5,_,c5,rfl,_⟩:=ho5.slice;(apply Cr);refine AA 1 [.slice a5 (ws.length+1) c5] rfl rfl rfl rfl (No rfl) rfl rfl ?_;exact H6 ⟨_,_,Vs.perm (Yr g (bx bo To [.slice a5 (ws.length+1) c5]::h5::hs)).symm,hl1,Ib hg1,_,_,⟨rfl,rfl,rfl,rfl,trivial⟩,OWs.snoc ho5 hul ho2 ho3 (GB hg),rfl⟩
   ·refine Ef (v0:=r) rfl (Oe hg) (fun b12 T12=>?_);(apply Ai;rfl;exact Ak 2 rfl rfl);refine J1 2 rfl rfl ho1 rfl rfl (Tc hg) (by omega) (by omega) (by omega) (fun v5 h5 ho5=>?_);obtain⟨a5,_,c5,rfl,_⟩:=ho5.slice;(apply Cr);refine AA 1 [.slice a5 (ws.length+1) c5] rfl rfl rfl rfl (No rfl) rfl rfl ?_;exact H6 ⟨_,_,Vs.perm (Yr g (bx bo To [.slice a5 (ws.length+1) c5]::h5::hs)).symm,hl1,Ib hg1,_,_,⟨rfl,rfl,rfl,rfl,trivial⟩,OWs.snoc ho5 hul ho2 ho3 (GB hg),rfl⟩
 rintro ρ d1 L' ⟨hl1,hc1,out',Lo',hsl,ho',hL⟩;subst hL;refine BQ _ hsl ?_;clear hsl;have hl':RSl 6 Aw d1 (.slice la v.list.length lc) v.list:=BY.mono hl hl1;have hone:=Cv hmay;(refine Ac<|Ag rfl<|Ai rfl (Cj (by assumption) rfl)<|Ay rfl<|Ab rfl<|Aa<|As ?_);refine A6 (α:=Nat) (fun i=>[(0,.slice wa w.length wc),(2,pZ bo),(3,pZ bw),(5,pZ b5),(15,.slice la v.list.length lc),(16,vZ v.list.length),(17,vZ i)])
  (fun i d' L'=>Le d1 d'∧i≤v.list.length∧∃out Lo J,OWs out (ws++[w]++(BZ v.kind v.keys 0 (v.list.take i)).map (w++ ·)) Lo∧L'.Perm (bx bo To [out]::(Lo++J)))
  (fun i=>v.list.length - i) 0 ⟨rfl,rfl,rfl,rfl,rfl,rfl,rfl,trivial⟩ ⟨Le.refl _,Xw _,out',Lo',[],by simpa [BZ] using ho',by simp⟩ ?_
 rintro i ρ d2 L' ⟨hl2,hi,out2,Lo2,J,ho2,hperm⟩;have hc2:=hc1.mono hl2;have hbw2:=hbw.mono (hl1.trans hl2);have hl2':RSl 6 Aw d2 (.slice la v.list.length lc) v.list:=BY.mono hl' hl2;have hks2:RSl 1 Bk d2 (.slice ka v.keys.length kc) v.keys:=B9.mono hks (hl1.trans hl2);have hw2:RSl 6 RSt d2 (.slice wa w.length wc) w:=RSl.mono (R:=RSt) Cp hw (hl1.trans hl2);have hpt:=SN (v:=v) hi;have hcv:=Cq v;by_cases hc:i<v.list.length
 ·apply Ah;apply Ax;refine Cn d2 _ (Vs.perm hperm) ?_;(refine Av rfl rfl<|Aa<|Ah<|Au rfl (by omega)<|Ao<|Ah<|As<|Ac<|Ab rfl<|AN (sz:=6) (R:=Aw) (by rfl) (by assumption) (by rfl) rfl (by omega) ?_;rintro _ _ _ _ _ _;refine B5 rfl (by assumption) (by assumption)<|AV (fun _ _=>Ab rfl ?_));rename_i q1 q2 cs7 hcs7 q5 hR b7 T7;obtain⟨c0,c1,c2,c3,c4,c5,rfl⟩:=six hR.len;refine AA 0 [c0,c1,c2,c3,c4,c5] rfl rfl rfl rfl (No rfl) (AK _ _ _ hR) rfl ?_;(refine Aa<|Ac<|Ab rfl<|Jl rfl<|AV (fun _ _=>?_));rename_i b8 T8;refine AA 0 [vZ 1,Al [],vZ i,vZ 0,.bool false,.bool false] rfl rfl rfl rfl (No rfl) rfl rfl ?_;(refine Aa<|Ah<|Ac<|Ag rfl<|Ai rfl (Cj (by assumption) rfl)<|At rfl rfl<|Aa ?_);show gwp P _ _ _ _ _;refine HX (fun ρ d3 L3=>d3=d2∧Bi ρ [(0,.slice wa w.length wc),(2,pZ bo),(3,pZ bw),(5,pZ b5),(7,pZ b7),(8,pZ b8),(15,.slice la v.list.length lc),(16,vZ v.list.length),(17,vZ i)]∧
   L3=bx b8 T8 (stL (stepOf v.kind v.keys i))::bx b7 T7 [c0,c1,c2,c3,c4,c5]::bx bo To [out2]::(Lo2++J)) ?_ ?_
  ·by_cases hk6:v.kind=6
   ·have hki:i<v.keys.length:=by rw[OT hone hk6];exact hc
    have hse:stepOf v.kind v.keys i=⟨0,v.keys[i],0,0,false,false⟩:=by simp[stepOf,hk6,hki]
    (refine Au rfl (by omega)<|Ax<|Ag rfl<|Ai rfl (Cj (by assumption) rfl)<|Ab rfl<|AN (sz:=1) (R:=Bk) (by rfl) (by assumption) (by rfl) rfl (by omega) ?_;rintro _ _ _ _ _ ⟨rfl,_⟩;refine Ai rfl (Bb (by assumption) rfl)<|Pr rfl ?_);refine AA 0 [vZ 0,Al v.keys[i],vZ 0,vZ 0,.bool false,.bool false] rfl rfl rfl rfl (No rfl) rfl rfl ?_;apply Aa;exact⟨rfl,⟨rfl,rfl,rfl,rfl,rfl,rfl,rfl,rfl,rfl,trivial⟩,by rw[hse];rfl⟩
   ·have hse:stepOf v.kind v.keys i=⟨1,[],i,0,false,false⟩:=by simp[stepOf,hk6]
    (refine An rfl (by omega)<|Ao ?_);exact⟨rfl,⟨rfl,rfl,rfl,rfl,rfl,rfl,rfl,rfl,rfl,trivial⟩,by rw[hse];rfl⟩
  rintro ρ d3 L3 ⟨hdd,hsl,hL⟩;subst hL;subst hdd;show gwp P _ _ _ _ _;refine BQ _ hsl ?_;clear hsl;have hst:∀d,RSt d (stL (stepOf v.kind v.keys i)) (stepOf v.kind v.keys i):=fun d=>LZ hks2 (by omega);have hsz:(ws++[w]++(BZ v.kind v.keys 0 (v.list.take i)).map (w++ ·)).length+BS v.list[i]≤1000000:=by
   have h9:=Ns hc;have h8:=FQ v.kind v.keys (v.list.take i) 0 (fun x _=>KQ x);simp only[Xl,Ye,XI];omega
  have hdz:(w++[stepOf v.kind v.keys i]).length+Bh v.list[i]≤1000000:=by
   have h9:=GU (Xh hc);simp only[Xl,XI];omega
  generalize hs:stepOf v.kind v.keys i=s at hst hdz⊢;refine Ek [_,_] (bx bo To [out2]::(Lo2++J)) rfl ?_;(refine Ai rfl (Bb (by assumption) rfl)<|Ar rfl<|AE 0 rfl rfl rfl<|AE 1 rfl rfl rfl ?_);refine Ee ?_ ?_
  ·refine AQ rfl (h1 hw2 (by omega)) (fun r d9 L9 _ ⟨hdd,g,hL,hg⟩=>?_);subst hdd;subst hL;refine G4 rfl (fun b37 T37=>?_);refine F1 (R:=RSt) 0 rfl rfl hg rfl (AO.Fx rfl (hst d9)) Gz (by omega) (by simp;omega) (by simp;omega) (fun v38 h38 o38=>?_);refine Bt (fun d4 hl4 hg4=>?_);have hw4:=o38.rsl (R:=RSt) Cp (by omega) hl4 hg4;refine KW (A:=bx bo To [out2]::Lo2) (B:=J) (Ym _) rfl rfl (ih _ (Xh hc) (hR.mono hl4) (Ci hmay (Xh hc)) hw4 (hbw2.mono hl4) ho2 hsz hdz) (fun r d5 L5 hl5 ⟨_,out3,Lo3,hL,ho3⟩=>?_);subst hL;(apply Bo);(refine Ax<|AI rfl rfl (by omega) (by omega)<|Ab rfl<|Aa ?_);rw[←hs,M0 hc] at ho3;exact⟨i+1,by omega,⟨rfl,rfl,rfl,rfl,rfl,rfl,int_eq (by omega),trivial⟩,(hl2.trans hl4).trans hl5,hc,out3,Lo3,J++[_,_],ho3,by simpa [Xf] using XR (l₁:=[bx b8 T8 (stL s),bx b7 T7 [c0,c1,c2,c3,c4,c5]]) (l₂:=(bx bo To [out3]::Lo3)++J)⟩
  ·refine G4 rfl (fun b37 T37=>?_);refine AQ rfl (h1 hw2 (by omega)) (fun r d9 L9 _ ⟨hdd,g,hL,hg⟩=>?_);subst hdd;subst hL;refine Cn d9 (bx b37 T37 (stL s)::g::bx bo To [out2]::(Lo2++J)) (Vs.perm (XM _ _ _)) ?_;refine F1 (R:=RSt) 0 rfl rfl hg rfl (AO.Fx rfl (hst d9)) Gz (by omega) (by simp;omega) (by simp;omega) (fun v38 h38 o38=>?_);refine Bt (fun d4 hl4 hg4=>?_);have hw4:=o38.rsl (R:=RSt) Cp (by omega) hl4 hg4;refine KW (A:=bx bo To [out2]::Lo2) (B:=J) (Ym _) rfl rfl (ih _ (Xh hc) (hR.mono hl4) (Ci hmay (Xh hc)) hw4 (hbw2.mono hl4) ho2 hsz hdz) (fun r d5 L5 hl5 ⟨_,out3,Lo3,hL,ho3⟩=>?_);subst hL;(apply Bo);(refine Ax<|AI rfl rfl (by omega) (by omega)<|Ab rfl<|Aa ?_);rw[←hs,M0 hc] at ho3;exact⟨i+1,by omega,⟨rfl,rfl,rfl,rfl,rfl,rfl,int_eq (by omega),trivial⟩,(hl2.trans hl4).trans hl5,hc,out3,Lo3,J++[_,_],ho3,by simpa [Xf] using XR (l₁:=[bx b8 T8 (stL s),bx b7 T7 [c0,c1,c2,c3,c4,c5]]) (l₂:=(bx bo To [out3]::Lo3)++J)⟩
 ·obtain rfl:i=v.list.length:=by omega
  apply Ah;apply Ax;refine Cn d2 _ (Vs.perm hperm) ?_;(refine Av rfl rfl<|Aa<|Ah<|An rfl (by omega)<|AU ?_);refine F9 [] trivial (d':=d2) (L':=bx bo To [out2]::Lo2) (Vs.drop (.cons_cons _ (YH _ _))) ⟨hl1.trans hl2,out2,Lo2,rfl,?_⟩;rw[DW];rw[Xz] at ho2;simpa using ho2
def DX(v:V):List (List St):=if AP v≠0 then [] else AL v
def H4(T:Ae→Prop)(P:Program)(f:FuncId):Prop:=∀{d cs}{v:V},T d→Aw d cs v→BS v≤900000→
 AY P f [.agg cs.toArray] d [] (Ret fun r d' L'=>Le d d'∧∃out,r=.tuple #[out,vZ (AP v)]∧OWs out (DX v) L')
def O1(a0 a1:Nat):A0:=⟨17,[(.tmp 2),(.tmp 3)],(sR (o1 1 (.box 0)<|o1 2 (.mv nS)<|o1 3 (.mv z0) .done) (.seq (sR (o1 7 (.ld (some 6) 1)<|oc 8 a0 [7]<|om 4 8 .done) (sR (om 9 4<|ob 10 .neq 9 z0 .done) (.cond 10 (sR (om 11 4<|o1 2 (.mv nS)<|om 3 11 .done) .ret) .skip))) (sR (o1 5 (.alo (.slice none 0 0)) .done) (sR (o1 6 (.alo .nilFunc) .done) (sR (o1 12 (.mkf (.func a1) [] [5,6])<|o0 (.st 1 6 12) .done) (sR (ol 13 6<|o1 14 (.ld (some 6) 1)<|o1 15 (.callv 13 [nS,14]) .done) (sR (ol 16 5<|om 2 16<|o1 3 (.mv z0) .done) .ret)))))))⟩
set_option maxHeartbeats 2000000 in
def UW{T:Ae→Prop}{P f f1 f2}(hd:dec P f=some (O1 f1 f2))(h1:Ez T P f1)(h2:MO P f2):H4 T P f:=by
 intro d cs v ht hv hb;refine Bf hd (No rfl) ?_;obtain⟨c0,c1,c2,c3,c4,c5,rfl⟩:=six hv.len;show gwp P _ _ _ _ _;apply Ah;apply Ax;refine Cn d [emp] Vs.emp ?_;refine AR (l:=[c0,c1,c2,c3,c4,c5]) rfl (fun b1 T1=>?_);(refine Ar rfl<|Ab rfl<|Aa<|Ah<|Ac<|AE 0 rfl rfl rfl ?_);refine AD rfl (h1 ht hv) ?_;by_cases hr:AP v≠0
 ·rw[DX,if_pos hr];(refine Ab rfl<|Aa<|Ac<|Ab rfl<|AB rfl rfl<|Aa<|Au rfl (by omega)<|Ac<|Ab rfl<|Ar rfl<|Ab rfl<|Aa<|Aq ?_);exact B8 (L':=[emp]) [.slice none 0 0,vZ (AP v)] ⟨AZ rfl,AZ rfl,trivial⟩ (.cons _ (Xy _)) ⟨Le.refl _,_,rfl,OWs.nil⟩
 rw[DX,if_neg hr];have hr0:AP v=0:=Decidable.not_not.1 hr;rw[hr0];have hmay:Bc v=true:=(BU.1 hr0).1;have hdep:Bh v≤48:=(BU.1 hr0).2;(refine Ab rfl<|Aa<|Ac<|Ab rfl<|AB rfl rfl<|Aa<|An rfl (by omega)<|Ao<|Ac<|AV (fun _ _=>Aa<|Ac<|AV (fun _ _=>Aa<|Ac<|UH ?_)));rename_i b5 T5 b6 T6;refine AA 0 [.func (.func f2) #[] #[pZ b5,pZ b6]] rfl rfl rfl rfl (No rfl) rfl rfl ?_;(refine Aa<|Ac<|Ai rfl (Ak 0 rfl rfl)<|AE 2 rfl rfl rfl ?_);refine Bt (fun d2 hl2 hg2=>?_);refine KW (A:=[bx b5 T5 [.slice none 0 0],emp]) (B:=[bx b1 T1 [c0,c1,c2,c3,c4,c5]]) (XD _ (XM _ _ _)) rfl rfl (h2 v (w:=[]) (ws:=[]) (hv.mono hl2) hmay RSl.nil (Ib hg2) OWs.nil (by simp;omega) (by simp;omega)) (fun r d3 L3 hl3 ⟨_,out,Lo,hL,ho⟩=>?_);subst hL;(refine Aa<|Ac<|Ai rfl (Ak 0 rfl rfl)<|N5<|Ab rfl<|Aa<|Aq ?_);refine F9 [out,vZ 0] ⟨AZ rfl,AZ rfl,trivial⟩ (d':=d3) (L':=Lo) (Vs.drop (.cons _ (YH _ _))) ⟨hl2.trans hl3,_,rfl,?_⟩;simpa using ho
end Go.Gk.Val
end
section
namespace Go.Gk.Val
open Go Go.Gk Go.Gk.Utf
def IK:V:=.mk 3 1 0 [] [] []
def DL:List St:=[⟨0,[97],0,0,false,false⟩,⟨1,[], -1,0,false,false⟩,⟨2,[],0,2,false,true⟩]
def Fe:V:=.mk 6 0 0 [] [.mk 5 0 0 [] [IK] []] [[97]]
def Ln:V:=.mk 5 0 0 [] [IK,V.zero,IK] []
def ixS(n:Int):St:=⟨1,[],n,0,false,false⟩
def Sg:List (List St):=[[ixS 0],[ixS 2],[ixS 0]]
def Um:Cy DL=(BC DL,0):=by rfl
def Lt:AP Fe=0∧AL Fe=[[],[⟨0,[97],0,0,false,false⟩],[⟨0,[97],0,0,false,false⟩,ixS 0]]:=by exact⟨by rfl,by rfl⟩
def Ui:IB Ln Sg=(.mk 5 0 0 [] [V.zero] [],0):=by rfl
end Go.Gk.Val
end
section
namespace Go.Gk.Val
open Go Go.Gk Go.Gk.Utf
attribute [local irreducible] gwp gws
variable{a:St}
section
section
variable {P:Program}{pan:List PanicEntry→AT}{Qn:Env→AT}{Ls L:List Ae}{ρ:Env}{d:Ae}{s:GS}{t:Nat}{tk:Bool}
def VA{x y z}{b c:St}(ex:ev ρ x=.agg (stL a).toArray)(ey:ev ρ y=.agg (stL b).toArray)(ez:ev ρ z=.agg (stL c).toArray)(h:∀q T,gws P pan Qn s Ls (upd ρ t (.slice (some ⟨q,0,none⟩) 3 3)) d (bx q T (stL a++stL b++stL c)::L)):
  gws P pan Qn (.op false ⟨some t,none,.bsl 3 6 [vZ 0,Al [],vZ 0,vZ 0,.bool false,.bool false] [(0,x),(1,y),(2,z)]⟩ s) Ls ρ d L:=by
 refine E1 (by omega) ?_ h
 simp[Instr.fill,Bu,XK,List.range.loop,ex,ey,ez,Value.cells]
end
def H3{d}{s:St}(h1:I64 s.kind)(h2:s.text.length≤140737488355328)(h3:I64 s.src)(h4:I64 s.dst):RSt d (stL s) s:=⟨rfl,h1,h2,h3,h4⟩
def WY{d}{q:Nat}{T}{b c:St}(ha:RSt d (stL a) a)(hb:RSt d (stL b) b)(hc:RSt d (stL c) c)(h:Le (bx q T (stL a++stL b++stL c)) d):RSl 6 RSt d (.slice (some ⟨q,0,none⟩) 3 3) [a,b,c]:=by
 have o:=BB.lit (sz:=6) (b:=q) (T:=T) (n:=3) (l:=stL a++stL b++stL c) rfl (by omega);refine o.rsl (R:=RSt) h rfl (by omega) (fun i hi=>?_);have hi2:i<3:=hi;obtain rfl|rfl|rfl:i=0∨i=1∨i=2:=by omega
 ·exact ha
 ·exact hb
 ·exact hc
def Rp{d}{q:Nat}{T}(ha:RSt d (stL a) a)(h:Le (bx q T (stL a)) d):RSl 6 RSt d (.slice (some ⟨q,0,none⟩) 1 1) [a]:=by
 have o:=BB.lit (sz:=6) (b:=q) (T:=T) (n:=1) (l:=stL a) rfl (by omega);refine o.rsl (R:=RSt) h rfl (by omega) (fun i hi=>?_);have hi2:i<1:=hi;obtain rfl:i=0:=by omega
 exact ha
def WD{d}{q:Nat}{T u v w}{a b c:List St}(ha:RSl 6 RSt d u a)(hb:RSl 6 RSt d v b)(hc:RSl 6 RSt d w c)(h:Le (bx q T [u,v,w]) d):RSl 1 Bm d (.slice (some ⟨q,0,none⟩) 3 3) [a,b,c]:=by
 have o:=BB.lit (sz:=1) (b:=q) (T:=T) (n:=3) (l:=[u,v,w]) rfl (by omega);refine o.rsl (R:=Bm) h rfl (by omega) (fun i hi=>?_);have hi2:i<3:=hi;obtain rfl|rfl|rfl:i=0∨i=1∨i=2:=by omega
 ·exact⟨_,rfl,ha⟩
 ·exact⟨_,rfl,hb⟩
 ·exact⟨_,rfl,hc⟩
def H7{d}{q:Nat}{T a}{x:V}(hx:Aw d a x)(h:Le (bx q T a) d):BY d (.slice (some ⟨q,0,none⟩) 1 1) [x]:=by
 have o:=BB.lit (sz:=6) (b:=q) (T:=T) (n:=1) (l:=a) (by rw[hx.len]) (by omega);refine o.rsl (R:=Aw) h rfl (by omega) (fun i hi=>?_);have hi2:i<1:=hi;obtain rfl:i=0:=by omega
 have e:chunk a 0 6=a:=by simp only[chunk,Nat.zero_mul,List.drop_zero];rw[←hx.len,Xz]
 show Aw d (chunk a 0 6) x;rw[e];exact hx
def KA{d}:Aw d [vZ 3,vZ 1,vZ 0,Al [],.slice none 0 0,.slice none 0 0] IK:=Aw.close (v:=IK) Uv IQ A3 (by simp[IK,V.text]) RSl.nil RSl.nil
def OWs.ways{out}{ws:List (List St)}{Lo}(o:OWs out ws Lo){d}(h:∀k∈Lo,Le k d):RSl 1 Bm d out ws:=by
 obtain⟨us,h0,hs,h1,h2,h3,rfl⟩:=o;refine h1.rsl (R:=Bm) (h _ (Xp ..)) rfl (by omega) (fun i hi=>?_);obtain⟨u,g,e1,e2,e3⟩:=h3 i hi;have hul:us.length=ws.length:=by have:=h1.1;omega
 have hc:chunk us i 1=[u]:=by
  simp only[chunk,Nat.mul_one];rw[XE (by omega)];have:us[i]'(by omega)=u:=by have:=List.getElem?_eq_some_iff.1 e1;exact this.2
  simp[this]
 show Bm d (chunk us i 1) ws[i];rw[hc];exact⟨u,rfl,(GB (d':=d) e3).rsl Cp (by omega) (Le.refl d) (h g (Xk _ (List.mem_of_getElem? e2)))⟩
def IN(T:Ae→Prop)(P:Program)(f:FuncId):Prop:=∀{d},T d→AG P f [] d (.bool true)
def IJ(a0 a1 a2:Nat):A0:=⟨94,[(.tmp 0)],(sR (o1 0 (.mv (.const (.bool false))) .done) (sR (o1 8 (.bld [(0,1),(1,1)] [(vZ 0),(vZ 0)] [(0,z1)])<|o1 9 (.bld [(0,1),(1,2),(3,1),(4,1),(5,1)] [(vZ 0),(vZ 0),(vZ 0),(Al []),(.slice none 0 0),(.slice none 0 0)] [(0,(kZ 3)),(1,8)])<|o1 1 (.alo (.agg #[(vZ 0),(vZ 0),(vZ 0),(Al []),(.slice none 0 0),(.slice none 0 0)]))<|o0 (.st 6 1 9) .done) (sR (o1 11 (.bld [(0,1),(1,1),(2,1),(3,1),(4,1),(5,1)] [(vZ 0),(Al []),(vZ 0),(vZ 0),(.bool false),(.bool false)] [(0,z0),(1,(.const (Al [97])))])<|o1 12 (.bld [(0,1),(1,1),(2,1),(3,1),(4,1),(5,1)] [(vZ 0),(Al []),(vZ 0),(vZ 0),(.bool false),(.bool false)] [(0,z1),(2,(kZ (-1)))])<|o1 13 (.bld [(0,1),(1,1),(2,1),(3,1),(4,1),(5,1)] [(vZ 0),(Al []),(vZ 0),(vZ 0),(.bool false),(.bool false)] [(0,z2),(3,z2),(5,(.const (.bool true)))])<|o1 14 (.bsl 3 6 [(vZ 0),(Al []),(vZ 0),(vZ 0),(.bool false),(.bool false)] [(0,11),(1,12),(2,13)])<|oc 15 a0 [14]<|om 10 15<|oe 16 10 0<|oe 17 10 1<|o1 2 (.alo (.agg #[(vZ 0),(vZ 0),(vZ 0),(Al []),(.slice none 0 0),(.slice none 0 0)]))<|o0 (.st 6 2 16)<|om 3 17 .done) (sR (o1 19 (.bsl 1 1 [(Al [])] [(0,(.const (Al [97])))])<|o1 20 (.ld (some 6) 1)<|o1 21 (.bsl 1 6 [(vZ 0),(vZ 0),(vZ 0),(Al []),(.slice none 0 0),(.slice none 0 0)] [(0,20)])<|o1 22 (.bld [(0,1),(1,2),(3,1),(4,1),(5,1)] [(vZ 0),(vZ 0),(vZ 0),(Al []),(.slice none 0 0),(.slice none 0 0)] [(0,(kZ 5)),(3,21)])<|o1 23 (.bsl 1 6 [(vZ 0),(vZ 0),(vZ 0),(Al []),(.slice none 0 0),(.slice none 0 0)] [(0,22)])<|o1 24 (.bld [(0,1),(1,2),(3,1),(4,1),(5,1)] [(vZ 0),(vZ 0),(vZ 0),(Al []),(.slice none 0 0),(.slice none 0 0)] [(0,(kZ 6)),(4,19),(3,23)])<|oc 25 a1 [24]<|om 18 25<|oe 26 18 0<|oe 27 18 1<|om 4 26<|om 5 27 .done) (sR (o1 29 (.ld (some 6) 1)<|o1 30 (.bld [(0,1),(1,2),(3,1),(4,1),(5,1)] [(vZ 0),(vZ 0),(vZ 0),(Al []),(.slice none 0 0),(.slice none 0 0)] [])<|o1 31 (.ld (some 6) 1)<|o1 32 (.bsl 3 6 [(vZ 0),(vZ 0),(vZ 0),(Al []),(.slice none 0 0),(.slice none 0 0)] [(0,29),(1,30),(2,31)])<|o1 33 (.bld [(0,1),(1,2),(3,1),(4,1),(5,1)] [(vZ 0),(vZ 0),(vZ 0),(Al []),(.slice none 0 0),(.slice none 0 0)] [(0,(kZ 5)),(3,32)])<|o1 34 (.bld [(0,1),(1,1),(2,1),(3,1),(4,1),(5,1)] [(vZ 0),(Al []),(vZ 0),(vZ 0),(.bool false),(.bool false)] [(0,z1)])<|o1 35 (.bsl 1 6 [(vZ 0),(Al []),(vZ 0),(vZ 0),(.bool false),(.bool false)] [(0,34)])<|o1 36 (.bld [(0,1),(1,1),(2,1),(3,1),(4,1),(5,1)] [(vZ 0),(Al []),(vZ 0),(vZ 0),(.bool false),(.bool false)] [(0,z1),(2,z2)])<|o1 37 (.bsl 1 6 [(vZ 0),(Al []),(vZ 0),(vZ 0),(.bool false),(.bool false)] [(0,36)])<|o1 38 (.bld [(0,1),(1,1),(2,1),(3,1),(4,1),(5,1)] [(vZ 0),(Al []),(vZ 0),(vZ 0),(.bool false),(.bool false)] [(0,z1)])<|o1 39 (.bsl 1 6 [(vZ 0),(Al []),(vZ 0),(vZ 0),(.bool false),(.bool false)] [(0,38)])<|o1 40 (.bsl 3 1 [(.slice none 0 0)] [(0,35),(1,37),(2,39)])<|oc 41 a2 [33,40]<|om 28 41<|oe 42 28 0<|oe 43 28 1<|o1 6 (.alo (.agg #[(vZ 0),(vZ 0),(vZ 0),(Al []),(.slice none 0 0),(.slice none 0 0)]))<|o0 (.st 6 6 42)<|om 7 43 .done) (sR (om 44 3<|ob 45 .eql 44 z0<|om 46 45<|oT 47 46 (.fld 4 2)<|oT 48 46 (.ld none 47)<|oT 49 46 (.len 48)<|oT 50 46 (.bin .eql 49 (kZ 3))<|gP 51 46 50<|om 52 51<|oT 53 52 (.fld 4 2)<|oT 54 52 (.ld none 53)<|oT 55 52 (.idx 6 54 z2)<|oT 56 52 (.fld 0 55)<|oT 57 52 (.ld none 56)<|oT 58 52 (.bin .eql 57 (kZ 6))<|gP 59 52 58<|om 60 59<|gT 61 60 5<|oT 62 60 (.bin .eql 61 z0)<|gP 63 60 62<|om 64 63<|gT 65 64 4<|oT 66 64 (.len 65)<|oT 67 64 (.bin .eql 66 (kZ 3))<|gP 68 64 67<|om 69 68<|gT 70 69 4<|oT 71 69 (.idx 1 70 z2)<|oT 72 69 (.ld none 71)<|oT 73 69 (.len 72)<|oT 74 69 (.bin .eql 73 z2)<|gP 75 69 74<|om 76 75<|gT 77 76 7<|oT 78 76 (.bin .eql 77 z0)<|gP 79 76 78<|om 80 79<|oT 81 80 (.fld 4 6)<|oT 82 80 (.ld none 81)<|oT 83 80 (.len 82)<|oT 84 80 (.bin .eql 83 z1)<|gP 85 80 84<|om 86 85<|oT 87 86 (.fld 4 6)<|oT 88 86 (.ld none 87)<|oT 89 86 (.idx 6 88 z0)<|oT 90 86 (.fld 0 89)<|oT 91 86 (.ld none 90)<|oT 92 86 (.bin .eql 91 z0)<|gP 93 86 92<|om 0 93 .done) .ret))))))⟩
set_option maxHeartbeats 4000000 in
def Rk{T:Ae→Prop}(hTm:∀{d d'},Le d d'→T d→T d'){P f f1 f2 f3}(hd:dec P f=some (IJ f1 f2 f3))(h1:GY T P f1)(h2:H4 T P f2)(h3:JM T P f3):IN T P f:=by
 intro d ht;refine AG.of' hd (No rfl) ?_;show gwp P _ _ _ _ _;(refine Ac<|Ad rfl<|Aa<|Ac<|Wl rfl<|Qy rfl rfl<|AV (fun _ _=>?_));rename_i b1 T1;refine AA 0 [vZ 3,vZ 1,vZ 0,Al [],.slice none 0 0,.slice none 0 0] rfl rfl rfl rfl (No rfl) rfl rfl ?_;(refine Aa<|Ac<|Pr rfl<|Jl rfl<|BF rfl ?_);refine VA (a:=⟨0,[97],0,0,false,false⟩) (b:=⟨1,[], -1,0,false,false⟩) (c:=⟨2,[],0,2,false,true⟩) rfl rfl rfl (fun b14 T14=>?_);refine Bt (fun d1 hl1 hg1=>?_);have hw1:=WY (d:=d1) (H3 A3 (by decide) A3 A3) (H3 IQ (by decide) ⟨by decide,by decide⟩ A3) (H3 NT (by decide) A3 NT) hg1;have hv1:=h1 (hTm hl1 ht) hw1 (by decide);rw[show [(⟨0,[97],0,0,false,false⟩:St),⟨1,[], -1,0,false,false⟩,⟨2,[],0,2,false,true⟩]=DL from rfl,Um] at hv1;refine AQ rfl hv1 (fun r d2 L2 hl2 ⟨hL,cs',hr,hR⟩=>?_);subst hL;subst hr;obtain⟨lv2,kv2,hcs, -, -, -, -,hll2, -⟩:=hR.open;obtain⟨la2,lc2,rfl⟩:=RSl.val hll2;subst hcs;have hRc:=AK _ _ _ hR;(refine A9 rfl<|AH rfl rfl<|AH rfl rfl<|AV (fun _ _=>?_));rename_i b2 T2;refine AA 0 [vZ (BC DL).kind,vZ (BC DL).m,vZ (BC DL).e,Al (BC DL).text,.slice la2 (BC DL).list.length lc2,kv2] rfl rfl rfl rfl (No rfl) hRc rfl ?_;(refine Ab rfl<|Aa<|Ac ?_);refine Ef (v0:=Al [97]) rfl rfl (fun b19 T19=>?_);(apply AE 2;rfl;rfl;rfl);refine Ed rfl rfl (fun b21 T21=>?_);(apply Ep;rfl;rfl);refine Ed rfl rfl (fun b23 T23=>?_);refine Bt (fun d3 hl3 hg3=>?_);refine Bt (fun d4 hl4 hg4=>?_);refine Bt (fun d5 hl5 hg5=>?_);have hk5:B9 d5 (.slice (some ⟨b19,0,none⟩) 1 1) [[97]]:=Hm (ks:=[[97]]) (by decide) (by decide) hg5;have hi5:BY d5 (.slice (some ⟨b21,0,none⟩) 1 1) [IK]:=H7 KA (hg4.trans hl5);have hm5:Aw d5 [vZ 5,vZ 0,vZ 0,Al [],.slice (some ⟨b21,0,none⟩) 1 1,.slice none 0 0] (.mk 5 0 0 [] [IK] []):=Aw.close (v:=.mk 5 0 0 [] [IK] []) EZ A3 A3 (by simp[V.text]) hi5 RSl.nil;have ho5:Aw d5 [vZ 6,vZ 0,vZ 0,Al [],.slice (some ⟨b23,0,none⟩) 1 1,.slice (some ⟨b19,0,none⟩) 1 1] Fe:=Aw.close (v:=Fe) JW A3 A3 (by simp[Fe,V.text]) (H7 hm5 ((hg3.trans hl4).trans hl5)) hk5;have hl25:=((hl1.trans hl2).trans hl3).trans (hl4.trans hl5);have ha5:=h2 (hTm hl25 ht) ho5 (by decide);rw[show DX Fe=AL Fe by unfold DX;rw[Lt.1];rfl,Lt.1] at ha5;(apply II;rfl;rfl;rfl);refine AQ rfl ha5 (fun r d6 L6 hl6 ⟨_,out,hr,hO⟩=>?_);subst hr;obtain⟨d7,hv7,hl7,hh7⟩:=Vs.J6 ((bx b2 T2 ([vZ 0,vZ 0,vZ 0,Al [],.slice none 0 0,.slice none 0 0])::([]++[bx b1 T1 [vZ 0,vZ 0,vZ 0,Al [],.slice none 0 0,.slice none 0 0]].set 0 (bx b1 T1 [vZ 3,vZ 1,vZ 0,Al [],.slice none 0 0,.slice none 0 0]))).set 0 (bx b2 T2 [vZ (BC DL).kind,vZ (BC DL).m,vZ (BC DL).e,Al (BC DL).text,.slice la2 (BC DL).list.length lc2,kv2])) L6 d6;have hO7:=hO.ways hh7;obtain⟨oa,oc,rfl⟩:=RSl.val hO7;refine Cn d7 _ hv7 ?_;(refine A9 rfl<|AH rfl rfl<|AH rfl rfl<|Ar rfl<|Ab rfl<|Aa<|Ac<|AE 1 rfl rfl rfl<|Bz<|AE 1 rfl rfl rfl ?_);refine Ww (a:=[vZ 3,vZ 1,vZ 0,Al [],.slice none 0 0,.slice none 0 0]) (b:=Cm) (c:=[vZ 3,vZ 1,vZ 0,Al [],.slice none 0 0,.slice none 0 0]) rfl rfl rfl rfl rfl rfl (fun b32 T32=>?_);refine Bt (fun d8 hl8 hg8=>?_);(refine Ep rfl rfl<|BF rfl ?_);refine G4 (a0:=vZ 1) (a1:=Al []) (a2:=vZ 0) (a3:=vZ 0) (a4:=.bool false) (a5:=.bool false) rfl (fun b35 T35=>?_);refine Bt (fun d9 hl9 hg9=>?_);(apply Jl;rfl);refine G4 (a0:=vZ 1) (a1:=Al []) (a2:=vZ 2) (a3:=vZ 0) (a4:=.bool false) (a5:=.bool false) rfl (fun b37 T37=>?_);refine Bt (fun d10 hl10 hg10=>?_);(apply BF;rfl);refine G4 (a0:=vZ 1) (a1:=Al []) (a2:=vZ 0) (a3:=vZ 0) (a4:=.bool false) (a5:=.bool false) rfl (fun b39 T39=>?_);refine Bt (fun d11 hl11 hg11=>?_);refine QS (v0:=.slice (some ⟨b35,0,none⟩) 1 1) (v1:=.slice (some ⟨b37,0,none⟩) 1 1) (v2:=.slice (some ⟨b39,0,none⟩) 1 1) rfl rfl rfl rfl rfl rfl (fun b40 T40=>?_);refine Bt (fun d12 hl12 hg12=>?_);have hl912:=(hl10.trans hl11).trans hl12;have hws:RSl 1 Bm d12 (.slice (some ⟨b40,0,none⟩) 3 3) Sg:=WD (Rp (a:=ixS 0) (H3 IQ (by decide) A3 A3) (hg9.trans hl912)) (Rp (a:=ixS 2) (H3 IQ (by decide) NT A3) (hg10.trans (hl11.trans hl12))) (Rp (a:=ixS 0) (H3 IQ (by decide) A3 A3) (hg11.trans hl12)) hg12;have hxv:Aw d12 [vZ 5,vZ 0,vZ 0,Al [],.slice (some ⟨b32,0,none⟩) 3 3,.slice none 0 0] Ln:=Aw.close (v:=Ln) EZ A3 A3 (by simp[Ln,V.text]) (WA KA Aw.zero KA (Le.refl _) (hg8.trans (hl9.trans hl912))) RSl.nil;have hlD:=(((hl25.trans hl6).trans hl7).trans hl8).trans (hl9.trans hl912);have hdr:=h3 (hTm hlD ht) hxv hws (by decide) (by decide) (by decide);rw[Ui] at hdr;refine AQ rfl hdr (fun r d13 L13 hl13 ⟨_,cs6,g,hr,hL,ho⟩=>?_);subst hr;subst hL;refine Bt (fun d14 hl14 hg14=>?_);have hR6:=ho.HE hg14;have hR6c:=AK _ _ _ hR6;obtain⟨lv6,kv6,hcs6, -, -, -, -,hll6, -⟩:=hR6.open;obtain⟨la6,lc6,rfl⟩:=RSl.val hll6;subst hcs6;(refine A9 rfl<|AH rfl rfl<|AH rfl rfl<|AV (fun _ _=>?_));rename_i b6 T6;refine AA 0 [vZ (V.mk 5 0 0 [] [V.zero] []).kind,vZ (V.mk 5 0 0 [] [V.zero] []).m,vZ (V.mk 5 0 0 [] [V.zero] []).e,Al (V.mk 5 0 0 [] [V.zero] []).text,.slice la6 (V.mk 5 0 0 [] [V.zero] []).list.length lc6,kv6] rfl rfl rfl rfl (No rfl) hR6c rfl ?_;have hl14:=(((hl8.trans hl9).trans hl912).trans hl13).trans hl14;have hO14:RSl 1 Bm d14 (.slice oa (AL Fe).length oc) (AL Fe):=RSl.mono (R:=Bm) CB hO7 hl14;have hal:(AL Fe).length=3:=by rw[Lt.2];rfl
 have ha2:((AL Fe)[2]'(by omega)).length=2:=by simp[Lt.2]
 have hwl:(BC DL).list.length=3:=rfl;have hdl:(V.mk 5 0 0 [] [V.zero] []).list.length=1:=rfl;have hW14:RSl 6 Aw d14 (.slice la2 (BC DL).list.length lc2) (BC DL).list:=BY.mono hll2 ((((hl3.trans hl4).trans hl5).trans (hl6.trans hl7)).trans hl14);have hD14:RSl 6 Aw d14 (.slice la6 (V.mk 5 0 0 [] [V.zero] []).list.length lc6) (V.mk 5 0 0 [] [V.zero] []).list:=hll6;have hk2:((BC DL).list[2]'(by omega)).kind=6:=rfl;have hk0:((V.mk 5 0 0 [] [V.zero] []).list[0]'(by omega)).kind=0:=rfl;clear hR6 hll6 hO7 hll2 hR hO hdr hxv hws ha5 ho5 hm5 hi5 hk5 hv1 hw1;(refine Ab rfl<|Aa<|Ac<|Ab rfl<|At rfl rfl<|Ad rfl<|AF rfl (by omega)<|Af rfl<|Ag rfl<|Af rfl<|Ai rfl (Ak 1 rfl rfl)<|Af rfl<|Ay rfl<|Af rfl<|At rfl rfl<|Ap rfl rfl<|Ad rfl<|AF rfl (by omega)<|Af rfl<|Ag rfl<|Af rfl<|Ai rfl (Ak 1 rfl rfl)<|Af rfl<|AN (m:=2) (sz:=6) (R:=Aw) (by rfl) (by assumption) (by rfl) rfl (by omega) ?_;rintro _ _ _ _ _ _;refine Af rfl<|Ag rfl<|Af rfl ?_);rename_i q1 q2 q3 q4 q5 q6;obtain⟨lvA,kvA,hcA, -⟩:=q6.open;subst hcA;(refine Ai rfl (Cj (by assumption) rfl)<|Af rfl<|At rfl rfl<|Ap rfl rfl<|Ad rfl<|AF rfl (by omega)<|Af rfl<|Ab rfl<|Af rfl<|At rfl rfl<|Ap rfl rfl<|Ad rfl<|AF rfl (by omega)<|Af rfl<|Ar rfl<|Af rfl<|Ay rfl<|Af rfl<|At rfl rfl<|Ap rfl rfl<|Ad rfl<|AF rfl (by omega)<|Af rfl<|Ar rfl<|Af rfl ?_);refine AN (sz:=1) (R:=Bm) rfl hO14 rfl (m:=2) rfl (by omega) (fun bq oq csq hcq hDq ⟨u,hu,hwi⟩=>?_);subst hu;obtain⟨ua,uc,rfl⟩:=RSl.val hwi;(refine Af rfl<|Ai rfl (Bb (by assumption) rfl)<|Af rfl<|Ay rfl<|Af rfl<|At rfl rfl<|Ap rfl rfl<|Ad rfl<|AF rfl (by omega)<|Af rfl<|Ab rfl<|Af rfl<|At rfl rfl<|Ap rfl rfl<|Ad rfl<|AF rfl (by omega)<|Af rfl<|Ag rfl<|Af rfl<|Ai rfl (Ak 0 rfl rfl)<|Af rfl<|Ay rfl<|Af rfl<|At rfl rfl<|Ap rfl rfl<|Ad rfl<|AF rfl (by omega)<|Af rfl<|Ag rfl<|Af rfl<|Ai rfl (Ak 0 rfl rfl)<|Af rfl<|AN (m:=0) (sz:=6) (R:=Aw) (by rfl) (by assumption) (by rfl) rfl (by omega) ?_;rintro _ _ _ _ _ _;refine Af rfl<|Ag rfl<|Af rfl ?_);rename_i z1 z2 z3 z4 z5 z6;obtain⟨lvB,kvB,hcB, -⟩:=z6.open;subst hcB;(refine Ai rfl (Cj (by assumption) rfl)<|Af rfl<|At rfl rfl<|Ap rfl rfl<|Ad rfl<|Aa<|Aq ?_);exact Bs (congrArg Value.bool (by simp[hwl,hdl,hal,ha2,hk2,hk0];rfl))
end
end Go.Gk.Val
end
section
namespace Go.Gk.Val
open Go Go.Gk
end Go.Gk.Val
end
section
namespace Go.Gk.Val
open Go Go.Gk Go.Gk.Utf
attribute [local irreducible] gwp gws
section
def EY(a b:St):Bool:=decide (a.kind=b.kind)&&(decide (a.text=b.text)&&(decide (a.src=b.src)&&(decide (a.dst=b.dst)&&((a.hf==b.hf)&&(a.ht==b.ht)))))
def LX(t u:List UInt8):(({data:=t.toArray}:ByteArray)=={data:=u.toArray})=decide (t=u):=by
 show(t.toArray==u.toArray)=_;by_cases h:t=u<;>simp[h]
def eqS(a b:St):HF (stL a).toArray (stL b).toArray [(0,0),(1,1),(0,2),(0,3),(2,4),(2,5)]=some (EY a b):=by
 obtain⟨k,t,s,d,f,h⟩:=a;obtain⟨k',t',s',d',f',h'⟩:=b;simp only[stL,HF,eq1,EY,Al];by_cases h1:k=k'
 ·by_cases h2:t=t'
  ·by_cases h3:s=s'
   ·by_cases h4:d=d'
    ·cases f<;>cases f'<;>cases h<;>cases h'<;>simp[h1,h2,h3,h4,LX]
    ·simp[h1,h2,h3,h4,LX]
   ·simp[h1,h2,h3,LX]
  ·simp[h1,h2,LX]
 ·simp[h1]
def Ii(a b:St):EY a b=true↔a=b:=by
 obtain⟨k,t,s,d,f,h⟩:=a;obtain⟨k',t',s',d',f',h'⟩:=b;simp[EY]
section
variable {P:Program}{pan:List PanicEntry→AT}{Qn:Env→AT}{Ls L:List Ae}{ρ:Env}{d:Ae}{s:GS}{t:Nat}{tk:Bool}
def Wp{neg:Bool}{x y}{a b:St}(ex:ev ρ x=.agg [vZ a.kind,Al a.text,vZ a.src,vZ a.dst,.bool a.hf,.bool a.ht].toArray)(ey:ev ρ y=.agg [vZ b.kind,Al b.text,vZ b.src,vZ b.dst,.bool b.hf,.bool b.ht].toArray)
  (h:gws P pan Qn s Ls (upd ρ t (.bool (neg ^^ EY a b))) d L):gws P pan Qn (.op tk ⟨some t,none,.eqc neg [(0,0),(1,1),(0,2),(0,3),(2,4),(2,5)] x y⟩ s) Ls ρ d L:=
 UK (EY a b) ex ey (eqS a b) h
end
def D0(a b:List St):Bool:=decide (a.length=b.length)&&(XK a.length).all fun i=>EY (a.getD i stZ) (b.getD i stZ)
def F3(a b:List St):D0 a b=true↔a=b:=by
 simp only[D0,Xg,decide_eq_true_eq,Xj,List.mem_range,Ii];constructor
 ·rintro⟨h1,h2⟩;refine YK h1 fun i hi hj=>?_;have:=h2 i hi;simpa [hi,hj] using this
 ·rintro rfl;exact⟨rfl,fun _ _=>rfl⟩
def RX{a b:List St}(h:a.length≠b.length):D0 a b=false:=by simp[D0,h]
def S9{a b:List St}{i:Nat}(hi:i<a.length)(hj:i<b.length)(h:a[i]≠b[i]):D0 a b=false:=by
 cases q:D0 a b with
 |false=>rfl
 |true=>exact absurd (by have:=(F3 a b).1 q;subst this;rfl) h
def FN(P:Program)(f:FuncId):Prop:=∀{d u v}{a b:List St},RSl 6 RSt d u a→RSl 6 RSt d v b→AG P f [u,v] d (.bool (D0 a b))
def HH:A0:=⟨26,[(.tmp 4)],(sR (o1 4 (.mv (.const (.bool false))) .done) (.seq (sR (om 6 0<|oL 7 6<|om 8 1<|oL 9 8<|ob 10 .neq 7 9 .done) (.cond 10 (sR (o1 4 (.mv (.const (.bool false))) .done) .ret) .skip)) (.seq (sR (o1 5 (.mv z0) .done) (.block 0 (.loop (.seq (sR (om 11 5<|om 12 0<|oL 13 12<|ob 14 .lss 11 13 .done) (.cond 14 .skip (.exit 0))) (.seq (.block 1 (.seq (.reg true (pm 17 0<|pm 18 5<|p1 19 (.idx 6 17 18)<|p1 20 (.ld (some 6) 19)<|pm 21 1<|pm 22 5<|p1 23 (.idx 6 21 22)<|p1 24 (.ld (some 6) 23)<|p1 25 (.eqc true [(0,0),(1,1),(0,2),(0,3),(2,4),(2,5)] 20 24) .done)) (.cond 25 (sR (o1 4 (.mv (.const (.bool false))) .done) .ret) .skip))) (rG (om 15 5<|ob 16 .add 15 z1<|om 5 16 .done))))))) (sR (o1 4 (.mv (.const (.bool true))) .done) .ret))))⟩
set_option maxHeartbeats 1000000 in
def Lz{P f}(hd:dec P f=some HH):FN P f:=by
 intro d u v a b hu hv;refine AG.of' hd (No rfl) ?_;have n1:=RSl.A2 hu;have n2:=RSl.A2 hv;obtain⟨ua,uc,rfl⟩:=RSl.val hu;obtain⟨va,vc,rfl⟩:=RSl.val hv;have hu':RSl 6 RSt d (.slice ua a.length uc) a:=hu;have hv':RSl 6 RSt d (.slice va b.length vc) b:=hv;show gwp P _ _ _ _ _;by_cases hl:a.length=b.length
 ·(refine Ac<|Ad rfl<|Aa<|Ah<|Ac<|Ar rfl<|Ay rfl<|Ar rfl<|Ay rfl<|AB rfl rfl<|Aa<|An rfl (by omega)<|Ao<|Ah<|Ac<|Ab rfl<|Aa<|As ?_);refine A6 (α:=Nat) (fun i=>[(0,.slice ua a.length uc),(1,.slice va b.length vc),(5,vZ i)])
   (fun i d' L'=>d'=d∧i≤a.length∧(∀j (hj:j<a.length) (hk:j<b.length),j<i→a[j]=b[j])∧L'=[]) (fun i=>a.length - i) 0 ⟨rfl,rfl,rfl,trivial⟩ ⟨rfl,Xw _,fun j _ _ h=>absurd h (XP j),rfl⟩ ?_
  rintro i ρ d' L' ⟨hdd,hi,hall,hL⟩;subst hdd;subst hL;by_cases hc:i<a.length
  ·have hcb:i<b.length:=by omega
   (refine Ah<|Ac<|Ab rfl<|Ar rfl<|Ay rfl<|Av rfl rfl<|Aa<|Au rfl (by omega)<|Ao<|Ah<|As<|Ah<|Bp<|Ar rfl<|Ab rfl<|AN (sz:=6) (R:=RSt) (by rfl) (by assumption) (by rfl) rfl (by omega) ?_;rintro _ _ _ _ _ ⟨rfl,_,_,_,_⟩;refine B5 rfl (by assumption) rfl<|Ar rfl<|Ab rfl<|AN (sz:=6) (R:=RSt) (by rfl) (by assumption) (by rfl) rfl (by omega) ?_;rintro _ _ _ _ _ ⟨rfl,_,_,_,_⟩;apply B5;rfl;assumption;rfl);refine Wp (a:=a[i]) (b:=b[i]) rfl rfl ?_;by_cases he:a[i]=b[i]
   ·rw[show(true ^^ EY a[i] b[i])=false by rw[(Ii _ _).2 he];rfl];(refine Aa<|AJ rfl<|Ao<|Ax<|Ab rfl<|AI rfl rfl (by omega) (by omega)<|Ab rfl<|Aa ?_);refine⟨i+1,by omega,⟨rfl,rfl,int_eq (by omega),trivial⟩,rfl,hc,fun j hj hk hji=>?_,rfl⟩
    by_cases e:j<i
    ·exact hall j hj hk e
    ·obtain rfl:j=i:=by omega
     exact he
   ·rw[show(true ^^ EY a[i] b[i])=true by cases q:EY a[i] b[i] with|false=>rfl|true=>exact absurd ((Ii _ _).1 q) he,S9 hc hcb he];(refine Aa<|Bd rfl<|Ac<|Ad rfl<|Aa<|Aq ?_);exact Bs rfl
  ·have:a=b:=YK hl fun j hj hk=>hall j hj hk (by omega);rw[(F3 a b).2 this];clear this;(refine Ah<|Ac<|Ab rfl<|Ar rfl<|Ay rfl<|Av rfl rfl<|Aa<|An rfl (by omega)<|AU<|Ac<|Ad rfl<|Aa<|Aq ?_);exact Bs rfl
 ·rw[RX hl];(refine Ac<|Ad rfl<|Aa<|Ah<|Ac<|Ar rfl<|Ay rfl<|Ar rfl<|Ay rfl<|AB rfl rfl<|Aa<|Au rfl (by omega)<|Ac<|Ad rfl<|Aa<|Aq ?_);exact Bs rfl
def GN(P:Program)(f:FuncId):Prop:=∀{d wv v}{ws:List (List St)}{l:List V},RSl 1 Bm d wv ws→BY d v l→
 AY P f [wv,v] d [] (Ret fun r d' L'=>d'=d∧L'=[]∧∃b:Bool,r=.bool b∧(b=false→ws.length≤20∧(∀w∈ws,w.length≤12)∧CV (.mk 0 0 0 [] l [])≤600))
def IE(a0:Nat):A0:=⟨24,[(.tmp 4)],(sR (o1 4 (.mv (.const (.bool false))) .done) (.seq (sR (om 7 0<|oL 8 7<|ob 9 .gtr 8 (kZ 20) .done) (.cond 9 (sR (o1 4 (.mv (.const (.bool true))) .done) .ret) .skip)) (.seq (sR (om 10 0<|oL 11 10<|o1 12 (.mv z0) .done) (.block 0 (.loop (sR (ob 13 .lss 12 11 .done) (.seq (.cond 13 .skip (.exit 0)) (.seq (.block 1 (sR (oI 14 1 10 12<|ol 15 14<|om 6 15 .done) (sR (om 16 6<|oL 17 16<|ob 18 .gtr 17 (kZ 12) .done) (.cond 18 (sR (o1 4 (.mv (.const (.bool true))) .done) .ret) .skip)))) (rG (ob 19 .add 12 z1<|om 12 19 .done)))))))) (sR (om 20 1<|o1 21 (.bld [(0,1),(1,2),(3,1),(4,1),(5,1)] [(vZ 0),(vZ 0),(vZ 0),(Al []),(.slice none 0 0),(.slice none 0 0)] [(3,20)])<|oc 22 a0 [21,(kZ 600)]<|ob 23 .gtr 22 (kZ 600)<|om 4 23 .done) .ret))))⟩
set_option maxHeartbeats 1000000 in
def Sj{P f f1}(hd:dec P f=some (IE f1))(h1:Jz P f1):GN P f:=by
 intro d wv v ws l hw hv;obtain⟨wa,wc,rfl⟩:=RSl.val hw;obtain⟨a2,c2,rfl⟩:=RSl.val hv;have n1:=RSl.A2 hw;have hw':RSl 1 Bm d (.slice wa ws.length wc) ws:=hw;refine Bf hd (No rfl) ?_;show gwp P _ _ _ _ _;have hv2:Aw d [vZ 0,vZ 0,vZ 0,Al [],.slice a2 l.length c2,.slice none 0 0] (.mk 0 0 0 [] l []):=Aw.close (v:=.mk 0 0 0 [] l []) A3 A3 A3 (by simp) hv RSl.nil;by_cases q:20<ws.length
 ·(refine Ac<|Ad rfl<|Aa<|Ah<|Ac<|Ar rfl<|Ay rfl<|AM rfl rfl<|Aa<|Au rfl (by omega)<|Ac<|Ad rfl<|Aa<|Aq ?_);exact EN rfl ⟨rfl,rfl,true,rfl,fun h=>by cases h⟩
 (refine Ac<|Ad rfl<|Aa<|Ah<|Ac<|Ar rfl<|Ay rfl<|AM rfl rfl<|Aa<|An rfl (by omega)<|Ao<|Ah<|Ac<|Ar rfl<|Ay rfl<|Ab rfl<|Aa<|As ?_);refine A6 (α:=Nat) (fun i=>[(1,.slice a2 l.length c2),(10,.slice wa ws.length wc),(11,vZ ws.length),(12,vZ i)])
  (fun i d' L'=>d'=d∧i≤ws.length∧(∀j (hj:j<ws.length),j<i→ws[j].length≤12)∧L'=[]) (fun i=>ws.length - i) 0 ⟨rfl,rfl,rfl,rfl,trivial⟩ ⟨rfl,Xw _,fun j _ h=>absurd h (XP j),rfl⟩ ?_
 rintro i ρ d' L' ⟨hdd,hi,hall,hL⟩;subst hdd;subst hL;by_cases hc:i<ws.length
 ·(refine Ac<|Av rfl rfl<|Aa<|Ah<|Au rfl (by omega)<|Ao<|Ah<|As<|Ac ?_);refine AN (sz:=1) (R:=Bm) rfl hw' rfl rfl hc (fun bq oq csq hcq hDq ⟨u,hu,hwi⟩=>?_);subst hu;have n3:=RSl.A2 hwi;obtain⟨ua,uc,rfl⟩:=RSl.val hwi;by_cases q2:12<ws[i].length
  ·(refine Ai rfl (Bb (by assumption) rfl)<|Ar rfl<|Aa<|Ac<|Ar rfl<|Ay rfl<|AM rfl rfl<|Aa<|Au rfl (by omega)<|Ac<|Ad rfl<|Aa<|Aq ?_);exact EN rfl ⟨rfl,rfl,true,rfl,fun h=>by cases h⟩
  ·(refine Ai rfl (Bb (by assumption) rfl)<|Ar rfl<|Aa<|Ac<|Ar rfl<|Ay rfl<|AM rfl rfl<|Aa<|An rfl (by omega)<|Ao<|Ax<|AI rfl rfl (by omega) (by omega)<|Ab rfl<|Aa ?_);refine⟨i+1,by omega,⟨rfl,rfl,rfl,int_eq (by omega),trivial⟩,rfl,hc,fun j hj hji=>?_,rfl⟩
   by_cases e:j<i
   ·exact hall j hj e
   ·obtain rfl:j=i:=by omega
    omega
 ·(refine Ac<|Av rfl rfl<|Aa<|Ah<|An rfl (by omega)<|AU<|Ac<|Ar rfl<|WW rfl ?_);refine AQ rfl (h1 (.mk 0 0 0 [] l []) (most:=600) hv2 (by omega)) (fun r d3 L3 _ ⟨hdd,z,hr,hz1,hz2,hz3,hL⟩=>?_);subst hdd;subst hr;subst hL;(refine AM rfl rfl<|Ad rfl<|Aa<|Aq ?_);exact EN rfl ⟨rfl,rfl,_,rfl,fun h=>⟨by omega,fun w hw=>by obtain⟨j,hj,rfl⟩:=X7 hw;exact hall j hj (by omega),by
   have:¬600<z:=by simpa using h
   have:=hz3 (by omega);omega⟩⟩
end
def KO{v:V}(h:CV (.mk 0 0 0 [] [v] [])≤600):BD v≤600∧BS v≤600∧CV v≤600:=by
 have e:CV (.mk 0 0 0 [] [v] [])=1+0+0+(CV v+0):=rfl;have:=KG v;have:=KR v;omega
def Sl{v:V}{ws bs:List (List St)}(h:∀w,w∈bs↔w∈ws):IB v bs=IB v ws:=by
 unfold IB;have ha:bs.all Ct=ws.all Ct:=by
  rw[Bool.eq_iff_iff,Xj,Xj];exact⟨fun q w hw=>q w ((h w).2 hw),fun q w hw=>q w ((h w).1 hw)⟩
 rw[ha];by_cases hr:AP v≠0
 ·rw[if_pos hr,if_pos hr]
 rw[if_neg hr,if_neg hr];by_cases hk:ws.all Ct=true
 ·rw[if_pos hk,if_pos hk];rw[SE (l:=ws.map BC) (m:=bs.map BC)]
  ·intro y hy;obtain⟨w,hw,rfl⟩:=X4.1 hy;exact MM (Xj.1 hk w hw)
  ·intro x;simp only[X4];exact⟨fun⟨w,hw,e⟩=>⟨w,(h w).1 hw,e⟩,fun⟨w,hw,e⟩=>⟨w,(h w).2 hw,e⟩⟩
 ·rw[if_neg hk,if_neg hk]
def JL{d}{b:Nat}{T u}{w:List St}(h:RSl 6 RSt d u w):AO 1 Bm d (.slice (some ⟨b,0,none⟩) 1 1) [w] (bx b T [u]):=AO.Fx (sz:=1) rfl ⟨u,rfl,h⟩
def Nd{d u}{w:List St}(h:RSl 6 RSt d u w):u.cells= #[u]:=by obtain⟨a,c,rfl⟩:=RSl.val h;rfl
def Gb(a0 a1 a2 a3:Nat):A0:=⟨72,[(.tmp 6)],(sR (o1 3 (.box 0)<|o1 6 (.mv (.const (.bool false))) .done) (.seq (sR (oc 13 a0 []<|o1 14 (.un .not 13) .done) (.cond 14 (sR (o1 6 (.mv (.const (.bool false))) .done) .ret) .skip)) (.seq (sR (om 15 1<|o1 16 (.ld (some 6) 3)<|o1 17 (.bsl 1 6 [(vZ 0),(vZ 0),(vZ 0),(Al []),(.slice none 0 0),(.slice none 0 0)] [(0,16)])<|oc 18 a1 [15,17] .done) (.cond 18 (sR (o1 6 (.mv (.const (.bool true))) .done) .ret) .skip)) (sR (o1 7 (.mv nS) .done) (.seq (sR (om 19 1<|oL 20 19<|o1 21 (.mv z0) .done) (.block 0 (.loop (sR (ob 22 .lss 21 20 .done) (.seq (.cond 22 .skip (.exit 0)) (.seq (.block 1 (sR (om 23 21<|om 8 23 .done) (rG (om 24 7<|om 25 1<|om 26 1<|oL 27 26<|ob 28 .sub 27 z1<|om 29 8<|ob 30 .sub 28 29<|oI 31 1 25 30<|ol 32 31<|o1 33 (.bsl 1 1 [(.slice none 0 0)] [(0,32)])<|o1 34 (.app 1 24 [(.slice none 0 0)] 24 33)<|om 7 34 .done)))) (rG (ob 35 .add 21 z1<|om 21 35 .done)))))))) (.seq (sR (om 36 1<|oL 37 36<|ob 38 .gtr 37 z0 .done) (.cond 38 (rG (om 39 7<|om 40 1<|om 41 2<|o1 42 (.cvi .u64 41)<|om 43 1<|oL 44 43<|o1 45 (.cvi .u64 44)<|ob 46 .rem 42 45<|o1 47 (.cvi .i64 46)<|oI 48 1 40 47<|ol 49 48<|o1 50 (.bsl 1 1 [(.slice none 0 0)] [(0,49)])<|o1 51 (.app 1 24 [(.slice none 0 0)] 39 50)<|om 7 51 .done)) .skip)) (sR (o1 53 (.ld (some 6) 3)<|om 54 1<|oc 55 a2 [53,54]<|om 52 55<|oe 56 52 0<|oe 57 52 1<|o1 9 (.alo (.agg #[(vZ 0),(vZ 0),(vZ 0),(Al []),(.slice none 0 0),(.slice none 0 0)]))<|o0 (.st 6 9 56)<|om 10 57 .done) (sR (o1 59 (.ld (some 6) 3)<|om 60 7<|oc 61 a2 [59,60]<|om 58 61<|oe 62 58 0<|oe 63 58 1<|o1 11 (.alo (.agg #[(vZ 0),(vZ 0),(vZ 0),(Al []),(.slice none 0 0),(.slice none 0 0)]))<|o0 (.st 6 11 62)<|om 12 63 .done) (sR (om 64 10<|om 65 12<|ob 66 .eql 64 65<|om 67 66<|oT 68 67 (.ld (some 6) 9)<|oT 69 67 (.ld (some 6) 11)<|oT 70 67 (.call a3 [68,69])<|gP 71 67 70<|om 6 71 .done) .ret)))))))))⟩
set_option maxHeartbeats 4000000 in
def Md{T:Ae→Prop}{P f f1 f2 f3 f4}(hTm:∀{d d'},Le d d'→T d→T d')(hd:dec P f=some (Gb f1 f2 f3 f4))(h1:IN T P f1)(h2:GN P f2)(h3:JM T P f3)(h4:EX P f4)
  {d cs wv}{v:V}{ws:List (List St)}{wh:Int}(ht:T d) (hv:Aw d cs v) (hw:RSl 1 Bm d wv ws):AG P f [.agg cs.toArray,wv,vZ wh] d (.bool true):=by
 have n1:=RSl.A2 hw
 obtain⟨wa,wc,rfl⟩:=RSl.val hw
 have hw':RSl 1 Bm d (.slice wa ws.length wc) ws:=hw
 obtain⟨c0,c1,c2,c3,c4,c5,rfl⟩:=six hv.len
 have hvc:=AK _ _ _ hv
 refine AG.of' hd (No rfl) ?_
 show gwp P _ _ _ _ _
 apply Ah;apply Ax
 refine Cn d [emp] Vs.emp ?_
 refine AR (l:=[c0,c1,c2,c3,c4,c5]) rfl (fun b3 T3=>?_)
 (refine Ad rfl<|Aa<|Ah<|Ac ?_)
 refine AD rfl (h1 ht) ?_
 (refine Be rfl<|Aa<|AJ rfl<|Ao<|Ah<|Ac<|Ar rfl<|AE 0 rfl rfl rfl ?_)
 refine Ed rfl rfl (fun b17 T17=>?_)
 refine Bt (fun d2 hl2 hg2=>?_)
 have hv2:=hv.mono hl2
 have hw2:RSl 1 Bm d2 (.slice wa ws.length wc) ws:=RSl.mono (R:=Bm) CB hw' hl2
 refine AQ rfl (h2 hw2 (H7 hv2 hg2)) (fun r d3 L3 _ ⟨hdd,hL,b,hr,hb⟩=>?_)
 subst hdd;subst hL;subst hr
 have ht3:T d3:=hTm hl2 ht
 cases b with
 |true=>
  (refine Aa<|Bd rfl<|Ac<|Ad rfl<|Aa<|Aq ?_)
  exact Bs rfl
 |false=>
 obtain⟨hn,hlen,hbv⟩:=hb rfl
 obtain⟨hbt,hbc,_⟩:=KO hbv
 clear hb
 (refine Aa<|AJ rfl<|Ao<|Ac<|Ar rfl<|Aa<|Ah<|Ac<|Ar rfl<|Ay rfl<|Ab rfl<|Aa<|As ?_)
 refine A6 (α:=Nat×Option Addr×Nat) (fun x=>[(1,.slice wa ws.length wc),(2,vZ wh),(3,pZ b3),(7,.slice x.2.1 x.1 x.2.2),(19,.slice wa ws.length wc),(20,vZ ws.length),(21,vZ x.1)])
  (fun x d' L'=>d'=d3∧x.1≤ws.length∧∃h J,AO 1 Bm d3 (.slice x.2.1 x.1 x.2.2) (ws.reverse.take x.1) h∧L'=bx b3 T3 [c0,c1,c2,c3,c4,c5]::h::J) (fun x=>ws.length - x.1) (0,none,0)
  ⟨rfl,rfl,rfl,rfl,rfl,rfl,rfl,trivial⟩ ⟨rfl,Xw _,emp,[],AO.nil,rfl⟩ ?_
 rintro⟨i,ra,rc⟩ ρ d4 L' ⟨hdd,hi,h,J,hrow,hL⟩
 simp only at hi hrow⊢
 subst hdd;subst hL
 by_cases hc:i<ws.length
 ·have hre:ws.reverse[i]'(by simpa using hc)=ws[ws.length - 1 - i]:=by simp
  have htk:ws.reverse.take i++[ws[ws.length - 1 - i]'(by omega)]=ws.reverse.take (i+1):=by rw[Xi (show i<ws.reverse.length by simpa using hc),hre]
  (refine Ac<|Av rfl rfl<|Aa<|Ah<|Au rfl (by omega)<|Ao<|Ah<|As<|Ac<|Ab rfl<|Ab rfl<|Aa<|Ax<|Ar rfl<|Ar rfl<|Ar rfl<|Ay rfl<|Bw rfl rfl (by omega) (by omega)<|Ab rfl<|Bw rfl rfl (by omega) (by omega) ?_)
  refine AN (sz:=1) (R:=Bm) rfl hw2 rfl (m:=ws.length - 1 - i) (by omega) (by omega) (fun bq oq csq hcq hDq ⟨u,hu,hwi⟩=>?_)
  subst hu
  (apply Ai;rfl;exact Bb (by assumption) rfl)
  refine Ef (v0:=u) rfl (Nd hwi) (fun b33 T33=>?_)
  refine F1 (R:=Bm) 1 rfl rfl hrow rfl (JL hwi) JF (by omega) (by simp;omega) (by simp;omega) (fun v5 h5 o5=>?_)
  rw[htk] at o5
  obtain⟨a5,c5',rfl⟩:=o5.val
  have hlt:(ws.reverse.take (i+1)).length=i+1:=by simp;omega
  rw[hlt] at o5⊢
  (refine Ar rfl<|Aa<|Ax<|AI rfl rfl (by omega) (by omega)<|Ab rfl<|Aa ?_)
  exact⟨(i+1,a5,c5'),by simp only;omega,⟨rfl,rfl,rfl,rfl,rfl,rfl,int_eq (by omega),trivial⟩,rfl,hc,h5,J,o5,rfl⟩
 obtain rfl:i=ws.length:=by omega
 have hful:ws.reverse.take ws.length=ws.reverse:=XQ (by simp)
 rw[hful] at hrow
 clear hful
 (refine Ac<|Av rfl rfl<|Aa<|Ah<|An rfl (by omega)<|AU<|Ah<|Ac<|Ar rfl<|Ay rfl<|AM rfl rfl<|Aa ?_)
 show gwp P _ _ _ _ _
 refine HX (fun ρ d5 L5=>d5=d4∧∃bv bs h J,Bi ρ [(1,.slice wa ws.length wc),(3,pZ b3),(7,bv)]∧AO 1 Bm d4 bv bs h∧(∀w,w∈bs↔w∈ws)∧bs.length≤21∧L5=bx b3 T3 [c0,c1,c2,c3,c4,c5]::h::J) ?_ ?_
 ·by_cases hz:0<ws.length
  ·obtain⟨k,hk,hkl⟩:∃k:Nat,(wh % 18446744073709551616) % ((ws.length:Int) % 18446744073709551616)=(k:Int)∧k<ws.length:=by
    have e:(ws.length:Int) % 18446744073709551616=ws.length:=by omega
    rw[e];have q1:=Int.emod_nonneg (wh % 18446744073709551616) (show(ws.length:Int)≠0 by omega);have q2:=Int.emod_lt_of_pos (wh % 18446744073709551616) (show(0:Int)<ws.length by omega);exact⟨((wh % 18446744073709551616) % (ws.length:Int)).toNat,by omega,by omega⟩
   (refine Au rfl (by omega)<|Ax<|Ar rfl<|Ar rfl<|Ab rfl<|Fg rfl<|Ar rfl<|Ay rfl<|Fg rfl<|Gi rfl rfl (by omega) (by omega)<|EI rfl (by omega) (by omega) ?_)
   refine HW (g:=47) (congrArg (Value.int .i64) hk) ?_
   refine AN (sz:=1) (R:=Bm) rfl hw2 rfl (m:=k) rfl hkl (fun bq oq csq hcq hDq ⟨u,hu,hwi⟩=>?_)
   subst hu
   (apply Ai;rfl;exact Bb (by assumption) rfl)
   refine Ef (v0:=u) rfl (Nd hwi) (fun b50 T50=>?_)
   refine F1 (R:=Bm) 1 rfl rfl hrow rfl (JL hwi) JF (by omega) (by simp;omega) (by simp;omega) (fun v5 h5 o5=>?_)
   (refine N5<|Aa ?_)
   refine⟨rfl,v5,ws.reverse++[ws[k]],h5,J,⟨rfl,rfl,rfl,trivial⟩,o5,fun w=>?_,by simp;omega,rfl⟩
   simp only[Xs,List.mem_reverse,XT]
   exact⟨fun q=>by rcases q with q|q;exact q;rw[q];exact Xh hkl,fun q=>.inl q⟩
  ·(refine An rfl (by omega)<|Ao ?_)
   exact⟨rfl,_,ws.reverse,h,J,⟨rfl,rfl,rfl,trivial⟩,hrow,fun w=>by simp,by simp;omega,rfl⟩
 rintro ρ d5 L5 ⟨hdd,bv,bs,h5,J5,hsl,hbs,hmem,hbl,hL⟩
 subst hL;subst hdd
 obtain⟨ba,bc,rfl⟩:=hbs.val
 show gwp P _ _ _ _ _
 refine BQ _ hsl ?_
 clear hsl
 have hsame:=Sl (v:=v) hmem
 have hbw:∀w∈bs,w.length≤100:=fun w hw=>by have:=hlen w ((hmem w).1 hw);omega
 apply Ah;apply Ax
 refine Cn d5 [h5,bx b3 T3 [c0,c1,c2,c3,c4,c5]] ((Vs.perm (XM _ _ _)).trans (Vs.drop (.cons_cons _ (.cons_cons _ (Xm _))))) ?_
 refine Bt (fun d6 hl6 hg6=>?_)
 have hb6:=hbs.rsl (R:=Bm) CB (by omega) hl6 hg6
 have hv6:=hv2.mono hl6
 have hw6:RSl 1 Bm d6 (.slice wa ws.length wc) ws:=RSl.mono (R:=Bm) CB hw2 hl6
 have ht6:=hTm hl6 ht3
 clear hbs
 (refine AE 0 rfl rfl rfl<|Ar rfl ?_)
 refine AQ rfl (h3 ht6 hv6 hw6 (by omega) (by omega) (fun w hw=>by have:=hlen w hw;omega)) (fun r d7 L7 hl7 ⟨_,cs7,g7,hr,hL,ho⟩=>?_)
 subst hr;subst hL
 refine Bt (fun d8 hl8 hg8=>?_)
 have hA:=ho.HE hg8
 have hAc:=AK _ _ _ hA
 obtain⟨x0,x1,x2,x3,x4,x5,rfl⟩:=six hA.len
 have hv8:=hv6.mono (hl7.trans hl8)
 have hb8:RSl 1 Bm d8 (.slice ba bs.length bc) bs:=RSl.mono (R:=Bm) CB hb6 (hl7.trans hl8)
 have ht8:=hTm (hl7.trans hl8) ht6
 (refine A9 rfl<|AH rfl rfl<|AH rfl rfl<|AV (fun _ _=>?_))
 rename_i b9 T9
 refine AA 0 [x0,x1,x2,x3,x4,x5] rfl rfl rfl rfl (No rfl) hAc rfl ?_
 have hdb:=h3 ht8 hv8 hb8 (by omega) (by omega) hbw
 rw[hsame] at hdb
 (refine Ab rfl<|Aa<|Ac<|AE 1 rfl rfl rfl<|Ar rfl ?_)
 refine AQ rfl hdb (fun r d10 L10 hl10 ⟨_,cs10,g10,hr,hL,ho10⟩=>?_)
 subst hr;subst hL
 refine Bt (fun d11 hl11 hg11=>?_)
 have hB:=ho10.HE hg11
 have hBc:=AK _ _ _ hB
 obtain⟨y0,y1,y2,y3,y4,y5,rfl⟩:=six hB.len
 have hA11:=hA.mono (hl10.trans hl11)
 generalize IB v ws=R at*
 (refine A9 rfl<|AH rfl rfl<|AH rfl rfl<|AV (fun _ _=>?_))
 rename_i b11 T11
 refine AA 0 [y0,y1,y2,y3,y4,y5] rfl rfl rfl rfl (No rfl) hBc rfl ?_
 have hsm:=h4 _ _ hA11 hB
 rw[(C2 R.1 R.1).2 rfl] at hsm
 (refine Ab rfl<|Aa<|Ac<|Ab rfl<|Ab rfl<|At rfl rfl<|Ad rfl<|AF rfl (by omega)<|Af rfl<|AE 1 rfl rfl rfl<|Af rfl<|AE 0 rfl rfl rfl<|Af rfl ?_)
 refine AD rfl hsm ?_
 (refine Ap rfl rfl<|Ad rfl<|Aa<|Aq ?_)
 exact Bs rfl
end Go.Gk.Val
end
section
namespace Go.Gk.Val
open Go Go.Gk Go.Gk.Utf
variable{v:V}
def Ge(h:Bc v=true):(v.kind=3∨v.m=0∧v.e=0)∧(v.kind=4∨v.text=[])∧(5≤v.kind∨v.list=[])∧(v.kind=6∨v.keys=[])∧Bg v.m v.e=true∧u8 v.text=true:=by
 have h1:=Cv h;simp only[BK,BL,Xg,XN,decide_eq_true_eq] at h1;obtain⟨⟨⟨⟨⟨⟨⟨⟨_,p⟩,a⟩,b⟩,c⟩,n⟩,u⟩,_⟩,_⟩:=h1;exact⟨p,a,b,c,n,u⟩
def R7(h:Bc v=true)(hk:v.kind=0):v=V.zero:=by
 obtain⟨p,a,b,c,_,_⟩:=Ge h;refine V.ext hk ?_ ?_ ?_ ?_ ?_
 ·rcases p with q|q;omega;exact q.1
 ·rcases p with q|q;omega;exact q.2
 ·rcases a with q|q;omega;exact q
 ·rcases b with q|q;omega;exact q
 ·rcases c with q|q;omega;exact q
def Ow:∀(k f:Nat) (m a:Int),k≤f→(m=0→k=0)→(m≠0→m % 10≠0)→dig f (m*10 ^ k) a=(m,a+k)
 |0,f,m,a,_,_,h=>by
  rw[Int.pow_zero,Int.mul_one,Iy (fun q=>h q.1 q.2)];simp
 |k+1,0,_,_,h,_,_=>absurd h (by omega)
 |k+1,f+1,m,a,hk,h0,h=>by
  have hm:m≠0:=fun q=>by have:=h0 q;omega
  have e:m*10 ^(k+1)=m*10 ^ k*10:=by rw[Int.pow_succ,Int.mul_assoc]
  have hp:=Nk k;have hne:m*10 ^ k≠0:=Int.mul_ne_zero hm (by omega);rw[e,Kr ⟨by omega,by omega⟩,show m*10 ^ k*10 / 10=m*10 ^ k by omega,Ow k f m (a+1) (by omega) (fun q=>absurd q hm) h];have:a+1+(k:Int)=a+((k+1:Nat):Int):=by push_cast;omega
  rw[this]
def Lb(hm:Bc v=true)(h:(AS v).2=true):v.kind=3∧Cw (AS v).1=true∧De (AS v).1=v:=by
 obtain⟨p,a,b,c,n,_⟩:=Ge hm;unfold AS at h⊢;by_cases c1:v.kind≠3∨v.e<0∨v.e>9
 ·rw[if_pos c1] at h;cases h
 rw[if_neg c1] at h⊢;by_cases c2:GC v.m=true
 ·rw[if_pos c2] at h;cases h
 rw[if_neg c2] at h⊢;have k3:v.kind=3:=Decidable.not_not.1 fun q=>c1 (.inl q);refine⟨k3,h,?_⟩
 have hme:(v.m=0→v.e.toNat=0)∧(v.m≠0→v.m % 10≠0):=by
  unfold Bg at n;constructor
  ·intro q;rw[if_pos q] at n;have:v.e=0:=by simpa using n
   omega
  ·intro q;rw[if_neg q] at n;simp only[decide_eq_true_eq] at n;exact n.2.2.1
 have hd:=Ow v.e.toNat 10 v.m 0 (by omega) hme.1 hme.2;show V.mk 3 (dig 10 (v.m*10 ^ v.e.toNat) 0).1 (dig 10 (v.m*10 ^ v.e.toNat) 0).2 [] [] []=v;rw[hd];refine V.ext k3.symm rfl ?_ ?_ ?_ ?_
 ·show 0+(v.e.toNat:Int)=v.e;omega
 ·rcases a with q|q;omega;exact q.symm
 ·rcases b with q|q;omega;exact q.symm
 ·rcases c with q|q;omega;exact q.symm
def Pa{a:V}(hm:Bc a=true)(h:(decide (a.kind=0)||(AS a).2)=true):Ds (if a.kind≠0 then(AS a).1 else 0) (decide (a.kind≠0))=true∧CM (if a.kind≠0 then(AS a).1 else 0) (decide (a.kind≠0))=a:=by
 by_cases k0:a.kind=0
 ·rw[if_neg (fun q=>q k0),decide_eq_false (fun q=>q k0)];exact⟨rfl,(R7 hm k0).symm⟩
 ·have hp:(AS a).2=true:=by simpa [k0] using h
  obtain⟨_,h2,h3⟩:=Lb hm hp;rw[if_pos k0,decide_eq_true k0];exact⟨by simpa [Ds] using h2,by rw[Ij h2];exact h3⟩
def Jy{x:V}(hm:Bc x=true)(h:(BA x).2=true):By (BA x).1=true∧BP (BA x).1=x:=by
 obtain⟨p,a,b,c,n,u⟩:=Ge hm;by_cases k4:x.kind=4
 ·rw[UJ k4];refine⟨by simpa [By] using u,?_⟩
  show V.mk 4 0 0 x.text [] []=x;refine V.ext k4.symm ?_ ?_ rfl ?_ ?_
  ·rcases p with q|q;omega;exact q.1.symm
  ·rcases p with q|q;omega;exact q.2.symm
  ·rcases b with q|q;omega;exact q.symm
  ·rcases c with q|q;omega;exact q.symm
 by_cases k3:x.kind=3
 ·rw[UO k3] at h⊢;obtain⟨_,h2,h3⟩:=Lb hm h;refine⟨by simpa [By] using h2,?_⟩
  show(if (1:Int)=0 then _ else if (1:Int)=1 then(if Cw (AS x).1=true then De (AS x).1 else V.zero) else _)=x;rw[if_neg (by decide),if_pos rfl,if_pos h2,h3]
 by_cases k6:x.kind=6
 ·by_cases hk:x.keys=[D6,CJ]
  ·obtain⟨y,z,hl⟩:=Qu hm k6 hk;rw[Ut k6 hk hl] at h⊢;rw[Xg] at h;have my:=Ci hm (x:=y) (by rw[hl];simp);have mz:=Ci hm (x:=z) (by rw[hl];simp);obtain⟨y1,y2⟩:=Pa my h.1;obtain⟨z1,z2⟩:=Pa mz h.2;constructor
   ·simp only[By,show¬(2:Int)=0 by decide,show¬(2:Int)=1 by decide,if_false,if_true];rw[y1,z1];rfl
   ·simp only[BP,show¬(2:Int)=0 by decide,show¬(2:Int)=1 by decide,if_false,if_true];rw[y2,z2];refine V.ext k6.symm ?_ ?_ ?_ hl.symm hk.symm
    ·rcases p with q|q;omega;exact q.1.symm
    ·rcases p with q|q;omega;exact q.2.symm
    ·rcases a with q|q;omega;exact q.symm
  ·rw[RZ k6 hk] at h;cases h
 ·rw[Ux k4 k3 k6] at h;cases h
def Sz{s:St}(h:By s=true):BP (Cs s)=BP s:=by
 have h1:=(F0 h).1;have:=Jy (K0 h) (by rw[h1]);rw[h1] at this;exact this.2
def RD{w:List St}(h:Ct w=true):Da (BC w)=(w.map Cs,0)∧Cy (w.map Cs)=(BC w,0):=by
 have hs:∀s∈w,By s=true:=fun s hm=>Xj.1 h s hm;constructor
 ·have hr:¬AP (BC w)≠0:=fun q=>q (Sw h);have:=Kq hr (fun q=>q rfl) (fun i hi=>by
   have hi':i<w.length:=by simpa [BC,V.list] using hi
   have e:(BC w).list[i]=BP w[i]:=by simp[BC,V.list]
   rw[e,(F0 (hs _ (Xh hi'))).1])
  rw[this,←Ot]
 ·have hk:Ct (w.map Cs)=true:=by
   rw[Ct,Xj];intro s hm;obtain⟨x,hx,rfl⟩:=X4.1 hm;exact OA (hs x hx)
  unfold Cy;rw[if_pos hk];have:(w.map Cs).map BP=w.map BP:=by
   rw[YR];exact X1 fun s hm=>Sz (hs s hm)
  unfold BC;rw[this]
def Td(h:(Da v).2=0):Cy (Da v).1=(v,0):=by
 by_cases hr:AP v≠0
 ·rw[LL hr] at h;exact absurd h hr
 have hmay:=(BU.1 (Decidable.not_not.1 hr)).1;by_cases hk:v.kind≠5
 ·rw[M8 hr hk] at h;cases h
 by_cases ha:v.list.all (fun x=>(BA x).2)=true
 ·have ha':∀x∈v.list,(BA x).2=true:=fun x hx=>Xj.1 ha x hx;rw[Kq hr hk (fun i hi=>ha' _ (Xh hi))];have hok:Ct (v.list.map fun x=>(BA x).1)=true:=by
   rw[Ct,Xj];intro s hm;obtain⟨x,hx,rfl⟩:=X4.1 hm;exact(Jy (Ci hmay hx) (ha' x hx)).1
  unfold Cy;rw[if_pos hok];have hl:(v.list.map fun x=>(BA x).1).map BP=v.list:=by
   rw[YR];conv=>rhs;rw[←List.map_id v.list]
   exact X1 fun x hx=>(Jy (Ci hmay hx) (ha' x hx)).2
  obtain⟨p,a,b,c,_,_⟩:=Ge hmay;have k5:v.kind=5:=Decidable.not_not.1 hk;unfold BC;rw[hl];have:V.mk 5 0 0 [] v.list []=v:=by
   refine V.ext k5.symm ?_ ?_ ?_ rfl ?_
   ·rcases p with q|q;omega;exact q.1.symm
   ·rcases p with q|q;omega;exact q.2.symm
   ·rcases a with q|q;omega;exact q.symm
   ·rcases c with q|q;omega;exact q.symm
  rw[this]
 ·unfold Da at h;rw[if_neg hr,if_neg hk,if_neg ha] at h;cases h
def VB(h:(Da v).2≠0):(Da v).1=[]:=by
 unfold Da at h⊢;split
 ·rfl
 split
 ·rfl
 split
 ·rename_i h1 h2 h3;rw[if_neg h1,if_neg h2,if_pos h3] at h;exact absurd rfl h
 ·rfl
end Go.Gk.Val
end
section
namespace Go.Gk.Val
open Go Go.Gk Go.Gk.Utf
attribute [local irreducible] gwp gws
def Gg(a0 a1 a2 a3 a4:Nat):A0:=⟨143,[(.tmp 4)],(sR (o1 3 (.box 1)<|o1 4 (.mv (.const (.bool false))) .done) (.seq (sR (oc 16 a0 []<|o1 17 (.un .not 16) .done) (.cond 17 (sR (o1 4 (.mv (.const (.bool false))) .done) .ret) .skip)) (.seq (sR (o1 18 (.ld (some 6) 3)<|o1 19 (.bsl 1 6 [(vZ 0),(vZ 0),(vZ 0),(Al []),(.slice none 0 0),(.slice none 0 0)] [(0,18)])<|oc 20 a1 [nS,19]<|om 21 20<|gF 22 21 0<|oF 23 21 (.len 22)<|oF 24 21 (.bin .gtr 23 (kZ 300))<|o1 25 (.pick 21 (.const (.bool true)) 24) .done) (.cond 25 (sR (o1 4 (.mv (.const (.bool true))) .done) .ret) .skip)) (.seq (sR (om 27 0<|oc 28 a2 [27]<|om 26 28<|oe 29 26 0<|oe 30 26 1<|o1 5 (.alo (.agg #[(vZ 0),(vZ 0),(vZ 0),(Al []),(.slice none 0 0),(.slice none 0 0)]))<|o0 (.st 6 5 29)<|om 6 30 .done) (sR (om 31 6<|ob 32 .eql 31 z0 .done) (.cond 32 (sR (o1 34 (.ld (some 6) 5)<|oc 35 a3 [34]<|om 33 35<|oe 36 33 0<|oe 37 33 1<|om 7 36<|om 8 37 .done) (sR (om 39 7<|oc 40 a2 [39]<|om 38 40<|oe 41 38 0<|oe 42 38 1<|o1 9 (.alo (.agg #[(vZ 0),(vZ 0),(vZ 0),(Al []),(.slice none 0 0),(.slice none 0 0)]))<|o0 (.st 6 9 41)<|om 10 42 .done) (.seq (sR (om 43 8<|ob 44 .neq 43 z0<|om 45 44<|gF 46 45 10<|oF 47 45 (.bin .neq 46 z0)<|o1 48 (.pick 45 (.const (.bool true)) 47)<|om 49 48<|gF 50 49 7<|oF 51 49 (.len 50)<|gF 52 49 0<|oF 53 49 (.len 52)<|oF 54 49 (.bin .neq 51 53)<|o1 55 (.pick 49 (.const (.bool true)) 54)<|om 56 55<|oF 57 56 (.ld (some 6) 5)<|oF 58 56 (.ld (some 6) 9)<|oF 59 56 (.call a4 [57,58])<|oF 60 56 (.un .not 59)<|o1 61 (.pick 56 (.const (.bool true)) 60) .done) (.cond 61 (sR (o1 4 (.mv (.const (.bool false))) .done) .ret) .skip)) (sR (om 62 7<|oL 63 62<|o1 64 (.mv z0) .done) (.block 0 (.loop (sR (ob 65 .lss 64 63 .done) (.seq (.cond 65 .skip (.exit 0)) (.seq (.block 1 (sR (om 66 64<|om 11 66 .done) (.seq (.reg true (pm 67 7<|pm 68 11<|p1 69 (.idx 6 67 68)<|p1 70 (.fld 0 69)<|pl 71 70<|pm 72 0<|pm 73 11<|p1 74 (.idx 6 72 73)<|p1 75 (.fld 0 74)<|pl 76 75<|p1 77 (.bin .neq 71 76)<|pm 78 77 (.op true ⟨(some 79),(some (78,false)),(.mv 7)⟩ (.op true ⟨(some 80),(some (78,false)),(.mv 11)⟩ (.op true ⟨(some 81),(some (78,false)),(.idx 6 79 80)⟩ (.op true ⟨(some 82),(some (78,false)),(.fld 0 81)⟩ (.op true ⟨(some 83),(some (78,false)),(.ld none 82)⟩ (.op true ⟨(some 84),(some (78,false)),(.bin .eql 83 z0)⟩ (.op true ⟨(some 85),(some (78,false)),(.mv 84)⟩ (.op true ⟨(some 86),(some (85,true)),(.mv 7)⟩ (.op true ⟨(some 87),(some (85,true)),(.mv 11)⟩ (.op true ⟨(some 88),(some (85,true)),(.idx 6 86 87)⟩ (.op true ⟨(some 89),(some (85,true)),(.fld 1 88)⟩ (.op true ⟨(some 90),(some (85,true)),(.ld none 89)⟩ (.op true ⟨(some 91),(some (85,true)),(.mv 0)⟩ (.op true ⟨(some 92),(some (85,true)),(.mv 11)⟩ (.op true ⟨(some 93),(some (85,true)),(.idx 6 91 92)⟩ (.op true ⟨(some 94),(some (85,true)),(.fld 1 93)⟩ (.op true ⟨(some 95),(some (85,true)),(.ld none 94)⟩ (.op true ⟨(some 96),(some (85,true)),(.bin .neq 90 95)⟩ (.op true ⟨(some 97),(some (78,false)),(.pick 85 96 (.const (.bool false)))⟩ (p1 98 (.pick 78 (.const (.bool true)) 97) (pm 99 98 (.op true ⟨(some 100),(some (99,false)),(.mv 7)⟩ (.op true ⟨(some 101),(some (99,false)),(.mv 11)⟩ (.op true ⟨(some 102),(some (99,false)),(.idx 6 100 101)⟩ (.op true ⟨(some 103),(some (99,false)),(.fld 0 102)⟩ (.op true ⟨(some 104),(some (99,false)),(.ld none 103)⟩ (.op true ⟨(some 105),(some (99,false)),(.bin .eql 104 z1)⟩ (.op true ⟨(some 106),(some (99,false)),(.mv 105)⟩ (.op true ⟨(some 107),(some (106,true)),(.mv 7)⟩ (.op true ⟨(some 108),(some (106,true)),(.mv 11)⟩ (.op true ⟨(some 109),(some (106,true)),(.idx 6 107 108)⟩ (.op true ⟨(some 110),(some (106,true)),(.fld 2 109)⟩ (.op true ⟨(some 111),(some (106,true)),(.ld none 110)⟩ (.op true ⟨(some 112),(some (106,true)),(.mv 0)⟩ (.op true ⟨(some 113),(some (106,true)),(.mv 11)⟩ (.op true ⟨(some 114),(some (106,true)),(.idx 6 112 113)⟩ (.op true ⟨(some 115),(some (106,true)),(.fld 2 114)⟩ (.op true ⟨(some 116),(some (106,true)),(.ld none 115)⟩ (.op true ⟨(some 117),(some (106,true)),(.bin .neq 111 116)⟩ (.op true ⟨(some 118),(some (99,false)),(.pick 106 117 (.const (.bool false)))⟩ (p1 119 (.pick 99 (.const (.bool true)) 118) .done))))))))))))))))))))))))))))))))))))))))))) (.cond 119 (sR (o1 4 (.mv (.const (.bool false))) .done) .ret) .skip)))) (rG (ob 120 .add 64 z1<|om 64 120 .done))))))))))) .skip))) (sR (o1 122 (.ld (some 6) 3)<|oc 123 a3 [122]<|om 121 123<|oe 124 121 0<|oe 125 121 1<|om 12 124<|om 13 125 .done) (.seq (sR (om 126 13<|ob 127 .neq 126 z0 .done) (.cond 127 (sR (om 128 12<|oL 129 128<|ob 130 .eql 129 z0<|om 4 130 .done) .ret) .skip)) (sR (om 132 12<|oc 133 a2 [132]<|om 131 133<|oe 134 131 0<|oe 135 131 1<|o1 14 (.alo (.agg #[(vZ 0),(vZ 0),(vZ 0),(Al []),(.slice none 0 0),(.slice none 0 0)]))<|o0 (.st 6 14 134)<|om 15 135 .done) (sR (om 136 15<|ob 137 .eql 136 z0<|om 138 137<|oT 139 138 (.ld (some 6) 14)<|oT 140 138 (.ld (some 6) 3)<|oT 141 138 (.call a4 [139,140])<|gP 142 138 141<|om 4 142 .done) .ret))))))))⟩
set_option maxHeartbeats 4000000 in
def NI{T:Ae→Prop}{P f f1 f2 f3 f4 f5}(hTm:∀{d d'},Le d d'→T d→T d')(hd:dec P f=some (Gg f1 f2 f3 f4 f5))(h1:IN T P f1)(h2:GN P f2)(h3:GY T P f3)(h4:NY T P f4)(h5:EX P f5)
  {d cs wv}{v:V}{w:List St}(ht:T d) (hv:Aw d cs v) (hw:RSl 6 RSt d wv w):AG P f [wv,.agg cs.toArray] d (.bool true):=by
 have n1:=RSl.A2 hw
 obtain⟨wa,wc,rfl⟩:=RSl.val hw
 have hw':RSl 6 RSt d (.slice wa w.length wc) w:=hw
 obtain⟨c0,c1,c2,c3,c4,c5,rfl⟩:=six hv.len
 have hvc:=AK _ _ _ hv
 refine AG.of' hd (No rfl) ?_
 show gwp P _ _ _ _ _
 apply Ah;apply Ax
 refine AR (l:=[c0,c1,c2,c3,c4,c5]) rfl (fun b3 T3=>?_)
 (refine Ad rfl<|Aa<|Ah<|Ac ?_)
 refine AD rfl (h1 ht) ?_
 (refine Be rfl<|Aa<|AJ rfl<|Ao<|Ah<|Ac<|AE 0 rfl rfl rfl ?_)
 refine Ed rfl rfl (fun b19 T19=>?_)
 refine Bt (fun d2 hl2 hg2=>?_)
 have hv2:=hv.mono hl2
 have hw2:RSl 6 RSt d2 (.slice wa w.length wc) w:=RSl.mono (R:=RSt) Cp hw' hl2
 refine AQ rfl (h2 (ws:=[]) RSl.nil (H7 hv2 hg2)) (fun r d3 L3 _ ⟨hdd,hL,b,hr,hb⟩=>?_)
 subst hdd;subst hL;subst hr
 have ht3:T d3:=hTm hl2 ht
 cases b with
 |true=>
  (refine Ad rfl<|Aj rfl<|Aj rfl<|Aj rfl<|Ap rfl rfl<|Aa<|Bd rfl<|Ac<|Ad rfl<|Aa<|Aq ?_)
  exact Bs rfl
 |false=>
 obtain⟨_,_,hbv⟩:=hb rfl
 obtain⟨hbt,hbc,_⟩:=KO hbv
 clear hb
 by_cases hl300:300<w.length
 ·(refine Ad rfl<|Af rfl<|Ar rfl<|Af rfl<|Ay rfl<|Af rfl<|AM rfl rfl<|Am rfl rfl<|Aa<|Au rfl (by omega)<|Ac<|Ad rfl<|Aa<|Aq ?_)
  exact Bs rfl
 (refine Ad rfl<|Af rfl<|Ar rfl<|Af rfl<|Ay rfl<|Af rfl<|AM rfl rfl<|Am rfl rfl<|Aa<|An rfl (by omega)<|Ao<|Ah<|Ac<|Ar rfl ?_)
 refine AQ rfl (h3 ht3 hw2 (by omega)) (fun r d4 L4 hl4 ⟨hL,cs4,hr,hR⟩=>?_)
 subst hL;subst hr
 have hRc:=AK _ _ _ hR
 obtain⟨x0,x1,x2,x3,x4,x5,rfl⟩:=six hR.len
 have hv4:=hv2.mono hl4
 have hw4:RSl 6 RSt d4 (.slice wa w.length wc) w:=RSl.mono (R:=RSt) Cp hw2 hl4
 have ht4:T d4:=hTm hl4 ht3
 (refine A9 rfl<|AH rfl rfl<|AH rfl rfl<|AV (fun _ _=>?_))
 rename_i b5 T5
 refine AA 0 [x0,x1,x2,x3,x4,x5] rfl rfl rfl rfl (No rfl) hRc rfl ?_
 (refine Ab rfl<|Aa<|Ac<|Ab rfl<|At rfl rfl<|Aa ?_)
 show gwp P _ _ _ _ _
 refine HX (fun ρ d5 L5=>Le d4 d5∧∃A,Bi ρ [(3,pZ b3)]∧L5=A++[bx b3 T3 [c0,c1,c2,c3,c4,c5]]) ?_ ?_
 ·have hvf:Cy w=if Ct w=true then(BC w,0) else(V.zero,2):=rfl
  by_cases hok:Ct w=true
  ·obtain⟨e1,e2⟩:=RD hok
   rw[if_pos hok] at hvf
   have hvf2:(Cy w).2=0:=by rw[hvf]
   rw[hvf] at hR
   rw[hvf2]
   simp only at hR
   clear hvf2
   have hns:∀i (hi:i<w.length),(Cs w[i]).kind=w[i].kind∧(w[i].kind=0→(Cs w[i]).text=w[i].text)∧(w[i].kind=1→(Cs w[i]).src=w[i].src):=fun i hi=>Hf (Xj.1 hok _ (Xh hi))
   clear hok hvf
   have hyl:(BC w).list.length≤1000000:=by show(w.map BP).length≤_;simp;omega
   have hwy:=h4 ht4 hR hyl
   rw[show(Da (BC w)).2=0 by rw[e1],show(Da (BC w)).1=w.map Cs by rw[e1]] at hwy
   (refine Au rfl (by omega)<|Ac<|AE 0 rfl rfl rfl ?_)
   refine AQ rfl hwy (fun r d6 L6 hl6 ⟨hL,u,hr,hu⟩=>?_)
   subst hL;subst hr
   have hul:(w.map Cs).length=w.length:=by simp
   generalize hM:w.map Cs=M at hu e2 hul⊢
   have hMi:∀i (hi:i<w.length),M[i]'(by omega)=Cs w[i]:=fun i hi=>by subst hM;simp
   clear hM
   obtain⟨ua,uc,rfl⟩:=RSl.val hu
   have ht6:=hTm hl6 ht4
   have hwz:=h3 ht6 hu (by omega)
   rw[show(Cy M).2=0 by rw[e2],show(Cy M).1=BC w by rw[e2]] at hwz
   (refine A9 rfl<|AH rfl rfl<|AH rfl rfl<|Ar rfl<|Ab rfl<|Aa<|Ac<|Ar rfl ?_)
   refine AQ rfl hwz (fun r d7 L7 hl7 ⟨hL,cs7,hr,hR7⟩=>?_)
   subst hL;subst hr
   have hR7c:=AK _ _ _ hR7
   obtain⟨y0,y1,y2,y3,y4,y5,rfl⟩:=six hR7.len
   have hsm:=h5 _ _ (hR.mono (hl6.trans hl7)) hR7
   rw[(C2 _ _).2 rfl] at hsm
   have hu7:RSl 6 RSt d7 (.slice ua M.length uc) M:=RSl.mono (R:=RSt) Cp hu hl7
   have hw7:RSl 6 RSt d7 (.slice wa w.length wc) w:=RSl.mono (R:=RSt) Cp hw4 (hl6.trans hl7)
   clear hu hwz hwy hR7 hR e1 e2
   (refine A9 rfl<|AH rfl rfl<|AH rfl rfl<|AV (fun _ _=>?_))
   rename_i b9 T9
   refine AA 0 [y0,y1,y2,y3,y4,y5] rfl rfl rfl rfl (No rfl) hR7c rfl ?_
   (refine Ab rfl<|Aa<|Ah<|Ac<|Ab rfl<|AB rfl rfl<|Ad rfl<|Az rfl (by omega)<|Af rfl<|Ab rfl<|Af rfl<|AB rfl rfl<|Am rfl rfl<|Ad rfl<|Az rfl (by omega)<|Af rfl<|Ar rfl<|Af rfl<|Ay rfl<|Af rfl<|Ar rfl<|Af rfl<|Ay rfl<|Af rfl<|AB rfl rfl<|Am rfl rfl<|Ad rfl<|Az rfl (by omega)<|Af rfl<|AE 1 rfl rfl rfl<|Af rfl<|AE 0 rfl rfl rfl<|Af rfl ?_)
   refine AD rfl hsm ?_
   clear hsm
   (refine Af rfl<|Be rfl<|Am rfl rfl<|Aa<|AJ rfl<|Ao<|Ac<|Ar rfl<|Ay rfl<|Ab rfl<|Aa<|As ?_)
   refine A6 (α:=Nat) (fun i=>[(0,.slice wa w.length wc),(3,pZ b3),(7,.slice ua M.length uc),(62,.slice ua M.length uc),(63,vZ M.length),(64,vZ i)])
    (fun i d' L'=>d'=d7∧i≤M.length∧∃A,L'=A++[bx b3 T3 [c0,c1,c2,c3,c4,c5]]) (fun i=>M.length - i) 0 ⟨rfl,rfl,rfl,rfl,rfl,rfl,trivial⟩ ⟨rfl,Xw _,[_,_],rfl⟩ ?_
   rintro i ρ d8 L' ⟨hdd,hi,A,hL⟩
   subst hdd;subst hL
   by_cases hc:i<M.length
   ·have hcw:i<w.length:=by omega
    obtain⟨m1,m2,m3⟩:=hns i hcw
    rw[←hMi i hcw] at m1 m2 m3
    by_cases k0:w[i].kind=0
    ·have hne:¬(M[i].text≠w[i].text):=fun q=>q (m2 k0)
     clear m2 m3
     (refine Ac<|Av rfl rfl<|Aa<|Ah<|Au rfl (by omega)<|Ao<|Ah<|As<|Ac<|Ab rfl<|Ab rfl<|Aa<|Ah<|Bp<|Ar rfl<|Ab rfl<|AN (sz:=6) (R:=RSt) (by rfl) (by assumption) (by rfl) rfl (by omega) ?_;rintro _ _ _ _ _ ⟨rfl,_,_,_,_⟩;refine Ag rfl<|Ai rfl (Cj (by assumption) rfl)<|Ar rfl<|Ab rfl<|AN (sz:=6) (R:=RSt) (by rfl) (by assumption) (by rfl) rfl (by omega) ?_;rintro _ _ _ _ _ ⟨rfl,_,_,_,_⟩;refine Ag rfl<|Ai rfl (Cj (by assumption) rfl)<|AB rfl rfl<|Ad rfl<|Az rfl (by omega)<|Af rfl<|Ar rfl<|Af rfl<|Ab rfl<|Af rfl<|AN (sz:=6) (R:=RSt) (by rfl) (by assumption) (by rfl) rfl (by omega) ?_;rintro _ _ _ _ _ ⟨rfl,_,_,_,_⟩;refine Af rfl<|Ag rfl<|Af rfl<|Ai rfl (Cj (by assumption) rfl)<|Af rfl<|At rfl rfl<|Af rfl<|Ad rfl<|AF rfl (by omega)<|Af rfl<|Ar rfl<|Af rfl<|Ab rfl<|Af rfl<|AN (sz:=6) (R:=RSt) (by rfl) (by assumption) (by rfl) rfl (by omega) ?_;rintro _ _ _ _ _ ⟨rfl,_,_,_,_⟩;refine Af rfl<|Ag rfl<|Af rfl<|Ai rfl (Cj (by assumption) rfl)<|Af rfl<|Ar rfl<|Af rfl<|Ab rfl<|Af rfl<|AN (sz:=6) (R:=RSt) (by rfl) (by assumption) (by rfl) rfl (by omega) ?_;rintro _ _ _ _ _ ⟨rfl,_,_,_,_⟩;refine Af rfl<|Ag rfl<|Af rfl<|Ai rfl (Cj (by assumption) rfl)<|Af rfl<|CO rfl rfl<|Af rfl<|Ap rfl rfl<|Am rfl rfl<|Ad rfl<|Az rfl (by omega)<|Af rfl<|Ar rfl<|Af rfl<|Ab rfl<|Af rfl<|AN (sz:=6) (R:=RSt) (by rfl) (by assumption) (by rfl) rfl (by omega) ?_;rintro _ _ _ _ _ ⟨rfl,_,_,_,_⟩;refine Af rfl<|Ag rfl<|Af rfl<|Ai rfl (Cj (by assumption) rfl)<|Af rfl<|At rfl rfl<|Af rfl<|Ad rfl<|Az rfl (by omega)<|Aj rfl<|Aj rfl<|Aj rfl<|Aj rfl<|Aj rfl<|Aj rfl<|Aj rfl<|Aj rfl<|Aj rfl<|Aj rfl<|Aj rfl<|Af rfl<|Am rfl rfl<|Am rfl rfl<|Bo<|AJ rfl<|Ao<|Ax<|AI rfl rfl (by omega) (by omega)<|Ab rfl<|Aa ?_)
     exact⟨i+1,by omega,⟨rfl,rfl,rfl,rfl,rfl,int_eq (by omega),trivial⟩,rfl,hc,A,XA _⟩
    by_cases k1:w[i].kind=1
    ·replace m3:=m3 k1
     clear m2
     (refine Ac<|Av rfl rfl<|Aa<|Ah<|Au rfl (by omega)<|Ao<|Ah<|As<|Ac<|Ab rfl<|Ab rfl<|Aa<|Ah<|Bp<|Ar rfl<|Ab rfl<|AN (sz:=6) (R:=RSt) (by rfl) (by assumption) (by rfl) rfl (by omega) ?_;rintro _ _ _ _ _ ⟨rfl,_,_,_,_⟩;refine Ag rfl<|Ai rfl (Cj (by assumption) rfl)<|Ar rfl<|Ab rfl<|AN (sz:=6) (R:=RSt) (by rfl) (by assumption) (by rfl) rfl (by omega) ?_;rintro _ _ _ _ _ ⟨rfl,_,_,_,_⟩;refine Ag rfl<|Ai rfl (Cj (by assumption) rfl)<|AB rfl rfl<|Ad rfl<|Az rfl (by omega)<|Af rfl<|Ar rfl<|Af rfl<|Ab rfl<|Af rfl<|AN (sz:=6) (R:=RSt) (by rfl) (by assumption) (by rfl) rfl (by omega) ?_;rintro _ _ _ _ _ ⟨rfl,_,_,_,_⟩;refine Af rfl<|Ag rfl<|Af rfl<|Ai rfl (Cj (by assumption) rfl)<|Af rfl<|At rfl rfl<|Af rfl<|Ad rfl<|Az rfl (by omega)<|Aj rfl<|Aj rfl<|Aj rfl<|Aj rfl<|Aj rfl<|Aj rfl<|Aj rfl<|Aj rfl<|Aj rfl<|Aj rfl<|Aj rfl<|Af rfl<|Am rfl rfl<|Am rfl rfl<|Ad rfl<|Af rfl<|Ar rfl<|Af rfl<|Ab rfl<|Af rfl<|AN (sz:=6) (R:=RSt) (by rfl) (by assumption) (by rfl) rfl (by omega) ?_;rintro _ _ _ _ _ ⟨rfl,_,_,_,_⟩;refine Af rfl<|Ag rfl<|Af rfl<|Ai rfl (Cj (by assumption) rfl)<|Af rfl<|At rfl rfl<|Af rfl<|Ad rfl<|AF rfl (by omega)<|Af rfl<|Ar rfl<|Af rfl<|Ab rfl<|Af rfl<|AN (sz:=6) (R:=RSt) (by rfl) (by assumption) (by rfl) rfl (by omega) ?_;rintro _ _ _ _ _ ⟨rfl,_,_,_,_⟩;refine Af rfl<|Ag rfl<|Af rfl<|Ai rfl (Cj (by assumption) rfl)<|Af rfl<|Ar rfl<|Af rfl<|Ab rfl<|Af rfl<|AN (sz:=6) (R:=RSt) (by rfl) (by assumption) (by rfl) rfl (by omega) ?_;rintro _ _ _ _ _ ⟨rfl,_,_,_,_⟩;refine Af rfl<|Ag rfl<|Af rfl<|Ai rfl (Cj (by assumption) rfl)<|Af rfl<|AB rfl rfl<|Af rfl<|Ap rfl rfl<|Am rfl rfl<|Bo<|An rfl (by omega)<|Ao<|Ax<|AI rfl rfl (by omega) (by omega)<|Ab rfl<|Aa ?_)
     exact⟨i+1,by omega,⟨rfl,rfl,rfl,rfl,rfl,int_eq (by omega),trivial⟩,rfl,hc,A,XA _⟩
    ·clear m2 m3
     (refine Ac<|Av rfl rfl<|Aa<|Ah<|Au rfl (by omega)<|Ao<|Ah<|As<|Ac<|Ab rfl<|Ab rfl<|Aa<|Ah<|Bp<|Ar rfl<|Ab rfl<|AN (sz:=6) (R:=RSt) (by rfl) (by assumption) (by rfl) rfl (by omega) ?_;rintro _ _ _ _ _ ⟨rfl,_,_,_,_⟩;refine Ag rfl<|Ai rfl (Cj (by assumption) rfl)<|Ar rfl<|Ab rfl<|AN (sz:=6) (R:=RSt) (by rfl) (by assumption) (by rfl) rfl (by omega) ?_;rintro _ _ _ _ _ ⟨rfl,_,_,_,_⟩;refine Ag rfl<|Ai rfl (Cj (by assumption) rfl)<|AB rfl rfl<|Ad rfl<|Az rfl (by omega)<|Af rfl<|Ar rfl<|Af rfl<|Ab rfl<|Af rfl<|AN (sz:=6) (R:=RSt) (by rfl) (by assumption) (by rfl) rfl (by omega) ?_;rintro _ _ _ _ _ ⟨rfl,_,_,_,_⟩;refine Af rfl<|Ag rfl<|Af rfl<|Ai rfl (Cj (by assumption) rfl)<|Af rfl<|At rfl rfl<|Af rfl<|Ad rfl<|Az rfl (by omega)<|Aj rfl<|Aj rfl<|Aj rfl<|Aj rfl<|Aj rfl<|Aj rfl<|Aj rfl<|Aj rfl<|Aj rfl<|Aj rfl<|Aj rfl<|Af rfl<|Am rfl rfl<|Am rfl rfl<|Ad rfl<|Af rfl<|Ar rfl<|Af rfl<|Ab rfl<|Af rfl<|AN (sz:=6) (R:=RSt) (by rfl) (by assumption) (by rfl) rfl (by omega) ?_;rintro _ _ _ _ _ ⟨rfl,_,_,_,_⟩;refine Af rfl<|Ag rfl<|Af rfl<|Ai rfl (Cj (by assumption) rfl)<|Af rfl<|At rfl rfl<|Af rfl<|Ad rfl<|Az rfl (by omega)<|Aj rfl<|Aj rfl<|Aj rfl<|Aj rfl<|Aj rfl<|Aj rfl<|Aj rfl<|Aj rfl<|Aj rfl<|Aj rfl<|Aj rfl<|Af rfl<|Am rfl rfl<|Am rfl rfl<|Bo<|AJ rfl<|Ao<|Ax<|AI rfl rfl (by omega) (by omega)<|Ab rfl<|Aa ?_)
     exact⟨i+1,by omega,⟨rfl,rfl,rfl,rfl,rfl,int_eq (by omega),trivial⟩,rfl,hc,A,XA _⟩
   ·obtain rfl:i=M.length:=by omega
    (refine Ac<|Av rfl rfl<|Aa<|Ah<|An rfl (by omega)<|AU ?_)
    exact⟨hl6.trans hl7,A,⟨rfl,trivial⟩,rfl⟩
  ·rw[if_neg hok] at hvf
   have hvf2:(Cy w).2=2:=by rw[hvf]
   rw[hvf2]
   clear hok hvf hvf2
   (refine An rfl (by omega)<|Ao ?_)
   exact⟨Le.refl _,[_],⟨rfl,trivial⟩,rfl⟩
 rintro ρ d5 L5 ⟨hl5,A,hsl,hL⟩
 subst hL
 show gwp P _ _ _ _ _
 refine BQ _ hsl ?_
 clear hsl hR
 have ht5:=hTm hl5 ht4
 have hv5:=hv4.mono hl5
 have hcn:=E9 (v:=v)
 apply Ah;apply Ax
 refine Cn d5 [bx b3 T3 [c0,c1,c2,c3,c4,c5]] (Vs.drop (Yi A _)) ?_
 (apply AE 0;rfl;rfl;rfl)
 refine AQ rfl (h4 ht5 hv5 (by omega)) (fun r d6 L6 hl6 ⟨hL,u,hr,hu⟩=>?_)
 subst hL;subst hr
 have hu0:=hu
 obtain⟨ua,uc,rfl⟩:=RSl.val hu
 have hul:(Da v).1.length≤v.list.length:=by
  unfold Da;split
  ·simp
  split
  ·simp
  split<;>simp
 by_cases he:(Da v).2=0
 ·have hb:=Td he
  have hwz:=h3 (hTm hl6 ht5) hu0 (by omega)
  rw[show(Cy (Da v).1).2=0 by rw[hb],show(Cy (Da v).1).1=v by rw[hb]] at hwz
  (refine A9 rfl<|AH rfl rfl<|AH rfl rfl<|Ar rfl<|Ab rfl<|Aa<|Ah<|Ac<|Ab rfl<|AB rfl rfl<|Aa<|An rfl (by omega)<|Ao<|Ac<|Ar rfl ?_)
  refine AQ rfl hwz (fun r d7 L7 hl7 ⟨hL,cs7,hr,hR7⟩=>?_)
  subst hL;subst hr
  have hR7c:=AK _ _ _ hR7
  obtain⟨y0,y1,y2,y3,y4,y5,rfl⟩:=six hR7.len
  have hsm:=h5 _ _ hR7 (hv5.mono (hl6.trans hl7))
  rw[(C2 _ _).2 rfl] at hsm
  clear hR7 hwz hb hu hu0
  (refine A9 rfl<|AH rfl rfl<|AH rfl rfl<|AV (fun _ _=>?_))
  rename_i b14 T14
  refine AA 0 [y0,y1,y2,y3,y4,y5] rfl rfl rfl rfl (No rfl) hR7c rfl ?_
  (refine Ab rfl<|Aa<|Ac<|Ab rfl<|At rfl rfl<|Ad rfl<|AF rfl (by omega)<|Af rfl<|AE 0 rfl rfl rfl<|Af rfl<|AE 1 rfl rfl rfl<|Af rfl ?_)
  refine AD rfl hsm ?_
  clear hsm
  (refine Ap rfl rfl<|Ad rfl<|Aa<|Aq ?_)
  exact Bs rfl
 ·have hz:=VB he
  have hz2:(Da v).1.length=0:=by rw[hz];rfl
  clear hz hu hu0
  (refine A9 rfl<|AH rfl rfl<|AH rfl rfl<|Ar rfl<|Ab rfl<|Aa<|Ah<|Ac<|Ab rfl<|AB rfl rfl<|Aa<|Au rfl (by omega)<|Ac<|Ar rfl<|Ay rfl<|At rfl rfl<|Ad rfl<|Aa<|Aq ?_)
  exact Bs (congrArg Value.bool (by simp[hz2]))
end Go.Gk.Val
end
section
namespace Go.Gk.Val
open Go Go.Gk Go.Gk.Utf
variable{i:Nat}{v:V}
def J3{ks}(h:rising ks=true)(hi:i<ks.length):Bq ks ks[i]=i:=by
 rcases Nat.lt_trichotomy (Bq ks ks[i]) i with q|q|q
 ·exfalso;have h1:=Pd (ks:=ks) (k:=ks[i]) (by omega);have h2:=Gx h hi q;rw[h1] at h2;cases h2
 ·exact q
 ·exfalso;have:=OK (ks:=ks) (k:=ks[i]) (j:=i) q hi;rw[FW] at this;cases this
def F2(hm:Bc v=true)(h:0<v.list.length):v.kind=5∨v.kind=6:=by
 have h1:=Cv hm;simp only[BK,BL,Xg,XN,decide_eq_true_eq] at h1;obtain⟨⟨⟨⟨⟨⟨⟨⟨k,_⟩,_⟩,b⟩,_⟩,_⟩,_⟩,_⟩,_⟩:=h1;rcases b with q|q
 ·omega
 ·rw[q] at h;cases h
def Hc(hm:Bc v=true)(hi:i<v.list.length):AW v (stepOf v.kind v.keys i)=(v.list[i],0):=by
 have hone:=Cv hm;rcases F2 hm (by omega) with k|k
 ·unfold stepOf AW;rw[if_neg (show¬v.kind=6 by omega),if_neg (show¬v.kind=0 by omega),if_neg (by simp),if_pos ⟨rfl,k⟩];simp only[BG,JH];rw[if_neg (show¬(i:Int)<0 by omega),if_pos ⟨by omega,by omega⟩];simp[hi]
 ·have hkl:=CT hone k;have hik:i<v.keys.length:=by omega
  unfold stepOf AW;rw[if_pos k,if_neg (show¬v.kind=0 by omega)];have e:v.keys.getD i []=v.keys[i]:=by simp[hik]
  simp only[e];rw[if_pos ⟨trivial,k⟩,if_pos (Xh hik),J3 (CK hone) hik];simp[hi]
def Ha(k:Int)(ks:List (List UInt8))(w:List St):∀(l:List V) (i:Nat),w∈BZ k ks i l↔∃j,∃h:j<l.length,∃u∈AL l[j],w=stepOf k ks (i+j)::u
 |[],i=>by simp[BZ]
 |x::l,i=>by
  rw[BZ,Xs,Ha k ks w l (i+1)];constructor
  ·rintro(h|⟨j,hj,u,hu,e⟩)
   ·obtain⟨u,hu,rfl⟩:=X4.1 h;exact⟨0,by simp,u,hu,rfl⟩
   ·exact⟨j+1,by simpa using hj,u,by simpa using hu,by rw[e,show i+1+j=i+(j+1) by omega]⟩
  ·rintro⟨j,hj,u,hu,e⟩;cases j with
   |zero=>exact .inl (X4.2 ⟨u,hu,e.symm⟩)
   |succ j=>exact .inr ⟨j,by simpa using hj,u,by simpa using hu,by rw[e,show i+1+j=i+(j+1) by omega]⟩
def E7{w:List St}:w∈AL v↔w=[]∨∃j,∃h:j<v.list.length,∃u∈AL v.list[j],w=stepOf v.kind v.keys j::u:=by
 rw[DW,Xu,Ha];simp only[XZ]
def Np:Bc v=true→∀w∈AL v,(B0 v w).2=0:=by
 induction v using V.ind with
 |h v ih=>
  intro hm w hw
  rcases E7.1 hw with rfl|⟨j,hj,u,hu,rfl⟩
  ·rfl
  ·rw[B0,Hc hm hj]
   exact ih _ (Xh hj) (Ci hm (Xh hj)) u hu
def OL:Bc v=true→∃w∈AL v,(B0 v w).1.list=[]:=by
 induction v using V.ind with
 |h v ih=>
  intro hm
  by_cases h:v.list=[]
  ·exact⟨[],E7.2 (.inl rfl),h⟩
  ·have hj:0<v.list.length:=XV.2 h
   obtain⟨u,hu,e⟩:=ih _ (Xh hj) (Ci hm (Xh hj))
   refine⟨_,E7.2 (.inr ⟨0,hj,u,hu,rfl⟩),?_⟩
   rw[B0,Hc hm hj]
   exact e
def K6:Bc v=true→∀w∈AL v,w.all CG=true:=by
 induction v using V.ind with
 |h v ih=>
  intro hm w hw
  rcases E7.1 hw with rfl|⟨j,hj,u,hu,rfl⟩
  ·rfl
  ·rw[List.all_cons,ih _ (Xh hj) (Ci hm (Xh hj)) u hu,Bool.and_true]
   have hone:=Cv hm
   unfold stepOf
   split
   ·rename_i k
    have hkl:=CT hone k
    have hik:j<v.keys.length:=by omega
    have hu:=(LP.1 (CK hone)).1 _ (Xh hik)
    simp[CG,hik,hu]
   ·simp[CG]
def OM(hr:AP v=0){w:List St}(hw:w∈AL v):Ju v w=B0 v w:=by
 have hm:=(BU.1 hr).1;have e:Cx v w=0:=by unfold Cx;rw[if_neg (fun q=>q hr),if_pos (K6 hm w hw)]
 unfold Ju;rw[if_neg (fun q=>q e)]
def SD(v:V):(AL v).length=Fi v:=by
 have key:∀(k:Int) (ks:List (List UInt8)) (l:List V) (i:Nat),(∀x∈l,(AL x).length=Fi x)→(BZ k ks i l).length=CZ l:=by
  intro k ks l;induction l with
  |nil=>intro i _;rfl
  |cons x l ih=>
   intro i h
   rw[BZ,Xl,Ye,ih (i+1) (fun y hy=>h y (Xk _ hy)),h x (Xp ..)]
   rfl
 induction v using V.ind with
 |h v ih=>rw[DW,Pb,Xv,key _ _ _ _ ih]
def Rc(hm:Bc v=true){j:Nat}(hi:i<v.list.length)(hj:j<v.list.length)(h:stepOf v.kind v.keys i=stepOf v.kind v.keys j):i=j:=by
 have hone:=Cv hm;unfold stepOf at h;by_cases k:v.kind=6
 ·rw[if_pos k,if_pos k] at h;have hkl:=CT hone k;have hik:i<v.keys.length:=by omega
  have hjk:j<v.keys.length:=by omega
  have e:v.keys[i]=v.keys[j]:=by have:=congrArg St.text h;simpa [hik,hjk] using this
  have:=congrArg (Bq v.keys) e;rwa [J3 (CK hone) hik,J3 (CK hone) hjk] at this
 ·rw[if_neg k,if_neg k] at h;have:=congrArg St.src h;simp only at this;omega
def Kh{k:Int}{ks}:∀(l:List V) (i:Nat),(∀x∈l,(AL x).Nodup)→(∀a b,i≤a→a<i+l.length→i≤b→b<i+l.length→stepOf k ks a=stepOf k ks b→a=b)→(BZ k ks i l).Nodup
 |[],_,_,_=>List.nodup_nil
 |x::l,i,h,hj=>by
  rw[BZ,List.nodup_append];refine⟨?_,Kh l (i+1) (fun y hy=>h y (Xk _ hy)) (fun a b h1 h2 h3 h4=>hj a b (by omega) (by rw[Xv];omega) (by omega) (by rw[Xv];omega)),?_⟩
  ·refine List.pairwise_map.2 ((h x (Xp ..)).imp fun{a b} hab e=>hab ?_);exact(List.cons.inj e).2
  ·intro a ha b hb e;subst e;obtain⟨u,hu,rfl⟩:=X4.1 ha;obtain⟨m,hm,u',hu',e⟩:=(Ha k ks _ l (i+1)).1 hb;have:=hj i (i+1+m) (by omega) (by rw[Xv];omega) (by omega) (by rw[Xv];omega) (List.cons.inj e).1;omega
def QO:Bc v=true→(AL v).Nodup:=by
 induction v using V.ind with
 |h v ih=>
  intro hm
  rw[DW,List.nodup_cons]
  refine⟨fun q=>?_,Kh _ _ (fun x hx=>ih x hx (Ci hm hx)) (fun a b _ h2 _ h4 e=>Rc hm (by omega) (by omega) e)⟩
  obtain⟨_,_,_,_,e⟩:=(Ha _ _ _ _ _).1 q
  cases e
def PH:∀pre w suf,AL v=pre++w::suf→w≠[]→w.dropLast∈pre:=by
 have key:∀(k:Int) (ks:List (List UInt8)) (l:List V),(∀x∈l,∀pre w suf,AL x=pre++w::suf→w≠[]→w.dropLast∈pre)→∀i pre w suf,BZ k ks i l=pre++w::suf→w.dropLast=[]∨w.dropLast∈pre:=by
  intro k ks l;induction l with
  |nil=>intro _ i pre w suf e;rw[BZ] at e;simp at e
  |cons x l ih=>
   intro h i pre w suf e
   rw[BZ] at e
   rcases List.append_eq_append_iff.1 e with ⟨c,e1,e2⟩|⟨c,e1,e2⟩
   ·
    rcases ih (fun y hy=>h y (Xk _ hy)) (i+1) c w suf e2 with q|q
    ·exact .inl q
    ·exact .inr (by rw[e1];exact List.mem_append_right _ q)
   ·cases c with
    |nil=>
     simp only[XL] at e2
     rcases ih (fun y hy=>h y (Xk _ hy)) (i+1) [] w suf e2.symm with q|q
     ·exact .inl q
     ·cases q
    |cons c0 c=>
     obtain⟨rfl,rfl⟩:=List.cons.inj e2
     obtain⟨p0,q0,e3,e4,e5⟩:=List.map_eq_append_iff.1 e1
     obtain⟨w0,s0,e6,e7,e8⟩:=List.map_eq_cons_iff.1 e5
     subst e7
     by_cases hw0:w0=[]
     ·subst hw0;exact .inl rfl
     ·have:=h x (Xp ..) p0 w0 s0 (by rw[e3,e6]) hw0
      refine .inr ?_
      rw[←e4,List.dropLast_cons_of_ne_nil hw0]
      exact X4.2 ⟨_,this,rfl⟩
 induction v using V.ind with
 |h v ih=>
  intro pre w suf e hw
  rw[DW] at e
  cases pre with
  |nil=>simp only[XL,List.cons.injEq] at e;exact absurd e.1.symm hw
  |cons p pre=>
   simp only[XF,List.cons.injEq] at e
   obtain⟨rfl,e⟩:=e
   rcases key _ _ _ ih 0 pre w suf e with q|q
   ·rw[q];exact Xp ..
   ·exact Xk _ q
def PS(hi:i<(AL v).length)(h:(AL v)[i]≠[]):∃k,∃hk:k<i,(AL v)[k]'(by omega)=(AL v)[i].dropLast:=by
 have e:AL v=(AL v).take i++(AL v)[i]::(AL v).drop (i+1):=by rw[Yg,Xr]
 have:=PH _ _ _ e h;obtain⟨k,hk,e2⟩:=X7 this;rw[Xn] at hk;refine⟨k,by omega,?_⟩
 rw[YJ] at e2;exact e2
end Go.Gk.Val
end
section
namespace Go.Gk.Val
open Go Go.Gk Go.Gk.Utf
attribute [local irreducible] gwp gws
variable{v:V}
def FH(v:V)(i:Nat):Nat:=((AL v).take i).countP fun w=>(B0 v w).1.list.length==0
def Sq{i:Nat}(h:i<(AL v).length):FH v (i+1)=FH v i+if (B0 v (AL v)[i]).1.list.length=0 then 1 else 0:=by
 unfold FH;rw[Xi h,List.countP_append];congr 1;rw[List.countP_singleton];by_cases q:(B0 v (AL v)[i]).1.list.length=0<;>simp[q]
def Uf(hm:Bc v=true):0<FH v (AL v).length:=by
 unfold FH;rw[Xz,List.countP_pos_iff];obtain⟨w,hw,e⟩:=OL hm;exact⟨w,hw,by simp[e]⟩
def VL(v:V)(i:Nat):FH v i≤i:=X6 List.countP_le_length (by rw[Xn];exact Nat.min_le_left ..)
def Ic(l:List (List St))(w:List St)(k:Nat):Bool:=(l.take k).any fun u=>D0 u w
def Sy{l:List (List St)}{w:List St}{k:Nat}(h:k<l.length):Ic l w (k+1)=(Ic l w k||D0 l[k] w):=by
 unfold Ic;rw[Xi h,List.any_append];simp
def S3{l:List (List St)}{w:List St}{i:Nat}(h:∃k,∃h:k<i,∃hi:i<l.length,l[k]'(by omega)=w):Ic l w i=true:=by
 obtain⟨k,hk,hi,e⟩:=h;refine List.any_eq_true.2 ⟨w,?_,(F3 _ _).2 rfl⟩;rw[←e];exact List.mem_take_iff_getElem.2 ⟨k,by omega,rfl⟩
def QD(hm:Bc v=true){i k:Nat}(hi:i<(AL v).length)(hk:k<i):D0 ((AL v)[k]'(by omega)) (AL v)[i]=false:=by
 cases q:D0 ((AL v)[k]'(by omega)) (AL v)[i] with
 |false=>rfl
 |true=>
  have:=(List.getElem_inj (QO hm)).1 ((F3 _ _).1 q)
  omega
def F8(a0 a1 a2 a3 a4 a5:Nat):A0:=⟨103,[(.tmp 2)],(sR (o1 1 (.box 0)<|o1 2 (.mv (.const (.bool false))) .done) (.seq (sR (oc 13 a0 []<|o1 14 (.un .not 13) .done) (.cond 14 (sR (o1 2 (.mv (.const (.bool false))) .done) .ret) .skip)) (.seq (sR (o1 15 (.ld (some 6) 1)<|oc 16 a1 [15,(kZ 300)]<|ob 17 .gtr 16 (kZ 300) .done) (.cond 17 (sR (o1 2 (.mv (.const (.bool true))) .done) .ret) .skip)) (sR (o1 19 (.ld (some 6) 1)<|oc 20 a2 [19]<|om 18 20<|oe 21 18 0<|oe 22 18 1<|om 3 21<|om 4 22 .done) (.seq (sR (om 23 4<|ob 24 .neq 23 z0 .done) (.cond 24 (sR (om 25 3<|oL 26 25<|ob 27 .eql 26 z0<|om 2 27 .done) .ret) .skip)) (.seq (sR (om 28 3<|oL 29 28<|ob 30 .eql 29 z0<|om 31 30<|gF 32 31 3<|oF 33 31 (.len 32)<|oF 34 31 (.ld (some 6) 1)<|oF 35 31 (.call a3 [34])<|oF 36 31 (.bin .neq 33 35)<|o1 37 (.pick 31 (.const (.bool true)) 36)<|om 38 37<|gF 39 38 3<|oF 40 38 (.idx 1 39 z0)<|oF 41 38 (.ld none 40)<|oF 42 38 (.len 41)<|oF 43 38 (.bin .neq 42 z0)<|o1 44 (.pick 38 (.const (.bool true)) 43) .done) (.cond 44 (sR (o1 2 (.mv (.const (.bool false))) .done) .ret) .skip)) (sR (o1 5 (.mv z0) .done) (.seq (sR (om 45 3<|oL 46 45<|o1 47 (.mv z0) .done) (.block 0 (.loop (sR (ob 48 .lss 47 46 .done) (.seq (.cond 48 .skip (.exit 0)) (.seq (.block 1 (sR (om 49 47<|oI 50 1 45 47<|ol 51 50<|om 6 49<|om 7 51 .done) (sR (o1 53 (.ld (some 6) 1)<|om 54 7<|oc 55 a4 [53,54]<|om 52 55<|oe 56 52 0<|oe 57 52 1<|o1 8 (.alo (.agg #[(vZ 0),(vZ 0),(vZ 0),(Al []),(.slice none 0 0),(.slice none 0 0)]))<|o0 (.st 6 8 56)<|om 9 57 .done) (.seq (sR (om 58 9<|ob 59 .neq 58 z0 .done) (.cond 59 (sR (o1 2 (.mv (.const (.bool false))) .done) .ret) .skip)) (.seq (sR (oj 60 4 8<|ol 61 60<|oL 62 61<|ob 63 .eql 62 z0 .done) (.cond 63 (rG (om 64 5<|ob 65 .add 64 z1<|om 5 65 .done)) .skip)) (.seq (sR (om 66 6<|o1 67 (.mv z0) .done) (.block 2 (.loop (sR (ob 68 .lss 67 66 .done) (.seq (.cond 68 .skip (.exit 2)) (.seq (.block 3 (sR (om 69 67<|om 10 69 .done) (sR (om 70 3<|om 71 10<|oI 72 1 70 71<|ol 73 72<|om 74 7<|oc 75 a5 [73,74] .done) (.cond 75 (sR (o1 2 (.mv (.const (.bool false))) .done) .ret) .skip)))) (rG (ob 76 .add 67 z1<|om 67 76 .done)))))))) (sR (om 77 7<|oL 78 77<|ob 79 .gtr 78 z0 .done) (.cond 79 (sR (o1 11 (.mv (.const (.bool false))) .done) (.seq (sR (om 80 6<|o1 81 (.mv z0) .done) (.block 4 (.loop (sR (ob 82 .lss 81 80 .done) (.seq (.cond 82 .skip (.exit 4)) (.seq (.block 5 (sR (om 83 81<|om 12 83 .done) (.reg true (pm 84 11<|pm 85 84 (.op true ⟨(some 86),(some (85,false)),(.mv 3)⟩ (.op true ⟨(some 87),(some (85,false)),(.mv 12)⟩ (.op true ⟨(some 88),(some (85,false)),(.idx 1 86 87)⟩ (.op true ⟨(some 89),(some (85,false)),(.ld none 88)⟩ (.op true ⟨(some 90),(some (85,false)),(.mv 7)⟩ (.op true ⟨(some 91),(some (85,false)),(.mv 7)⟩ (.op true ⟨(some 92),(some (85,false)),(.len 91)⟩ (.op true ⟨(some 93),(some (85,false)),(.bin .sub 92 z1)⟩ (.op true ⟨(some 94),(some (85,false)),(.sl 6 90 none (some 93) none)⟩ (oF 95 85 (.call a5 [89,94]) (p1 96 (.pick 85 (.const (.bool true)) 95) (.bar (pm 11 96 .done))))))))))))))))) (rG (ob 97 .add 81 z1<|om 81 97 .done)))))))) (sR (om 98 11<|o1 99 (.un .not 98) .done) (.cond 99 (sR (o1 2 (.mv (.const (.bool false))) .done) .ret) .skip)))) .skip)))))))) (rG (ob 100 .add 47 z1<|om 47 100 .done)))))))) (sR (om 101 5<|ob 102 .gtr 101 z0<|om 2 102 .done) .ret)))))))))⟩
set_option maxHeartbeats 4000000 in
def Mi{T:Ae→Prop}{P f f1 f2 f3 f4 f5 f6}(hTm:∀{d d'},Le d d'→T d→T d')(hd:dec P f=some (F8 f1 f2 f3 f4 f5 f6))(h1:IN T P f1)(h2:Jz P f2)(h3:H4 T P f3)(h4:Mb P f4)(h5:Lh T P f5)(h6:FN P f6)
  {d cs}{v:V}(ht:T d) (hv:Aw d cs v):AG P f [.agg cs.toArray] d (.bool true):=by
 obtain⟨c0,c1,c2,c3,c4,c5,rfl⟩:=six hv.len
 have hvc:=AK _ _ _ hv
 refine AG.of' hd (No rfl) ?_
 show gwp P _ _ _ _ _
 apply Ah;apply Ax
 refine AR (l:=[c0,c1,c2,c3,c4,c5]) rfl (fun b1 T1=>?_)
 (refine Ad rfl<|Aa<|Ah<|Ac ?_)
 refine AD rfl (h1 ht) ?_
 (refine Be rfl<|Aa<|AJ rfl<|Ao<|Ah<|Ac<|AE 0 rfl rfl rfl ?_)
 refine AQ rfl (h2 v (most:=300) hv (by omega)) (fun r d2 L2 _ ⟨hdd,z,hr,hz0,hz1,hz2,hL⟩=>?_)
 subst hdd;subst hL;subst hr
 by_cases hz:300<z
 ·(refine AM rfl rfl<|Aa<|Au rfl (by omega)<|Ac<|Ad rfl<|Aa<|Aq ?_)
  exact Bs rfl
 have hb:CV v≤300:=by have:=hz2 (by omega);omega
 have hbt:=KG v
 have hbc:=KR v
 have hbs:=Nf v
 (refine AM rfl rfl<|Aa<|An rfl (by omega)<|Ao<|Ac<|AE 0 rfl rfl rfl ?_)
 refine AQ rfl (h3 ht hv (by omega)) (fun r d3 L3 hl3 ⟨_,out,hr,ho⟩=>?_)
 subst hr
 obtain⟨d4,hV,hl4,hg4⟩:=Vs.J6 [bx b1 T1 [c0,c1,c2,c3,c4,c5]] L3 d3
 have hw4:=ho.ways hg4
 refine Cn d4 _ hV ?_
 have hv4:=hv.mono (hl3.trans hl4)
 have ht4:=hTm (hl3.trans hl4) ht
 clear hV ho hg4
 obtain⟨wa,wc,rfl⟩:=RSl.val hw4
 have hw4':RSl 1 Bm d4 (.slice wa (DX v).length wc) (DX v):=hw4
 by_cases hr:AP v=0
 ·have haf:DX v=AL v:=by unfold DX;rw[if_neg (fun q=>q hr)]
  rw[haf] at hw4 hw4'
  rw[haf,hr]
  clear haf
  have hm:=(BU.1 hr).1
  have hwl:=SD v
  have hcons:AL v=[]::BZ v.kind v.keys 0 v.list:=DW v
  have hs1:0<(AL v).length:=by rw[hcons];simp
  have h0:(AL v)[0]=[]:=by simp[hcons]
  clear hcons
  (refine A9 rfl<|AH rfl rfl<|AH rfl rfl<|Ar rfl<|Ab rfl<|Aa<|Ah<|Ac<|Ab rfl<|AB rfl rfl<|Aa<|An rfl (by omega)<|Ao<|Ah<|Ac<|Ar rfl<|Ay rfl<|At rfl rfl<|Ad rfl<|Az rfl (by omega)<|Af rfl<|Ar rfl<|Af rfl<|Ay rfl<|Af rfl<|AE 0 rfl rfl rfl<|Af rfl ?_)
  refine AD rfl (h4 v hv4 (by omega)) ?_
  (refine Af rfl<|AB rfl rfl<|Am rfl rfl<|Ad rfl<|Az rfl (by omega)<|Af rfl<|Ar rfl<|Af rfl ?_)
  refine AN (sz:=1) (R:=Bm) rfl hw4 rfl (m:=0) rfl hs1 (fun bq oq csq hcq hDq ⟨u,hu,hwi⟩=>?_)
  subst hu
  rw[h0] at hwi
  obtain⟨ua,uc,rfl⟩:∃a c,u=.slice a 0 c:=hwi.val
  (refine Af rfl<|Ai rfl (Bb (by assumption) rfl)<|Af rfl<|Ay rfl<|Af rfl<|AB rfl rfl<|Am rfl rfl<|Aa<|An rfl (by omega)<|Ao<|Ac<|Ab rfl<|Aa<|Ah<|Ac<|Ar rfl<|Ay rfl<|Ab rfl<|Aa<|As ?_)
  refine A6 (α:=Nat) (fun i=>[(1,pZ b1),(3,.slice wa (AL v).length wc),(5,vZ (FH v i)),(45,.slice wa (AL v).length wc),(46,vZ (AL v).length),(47,vZ i)])
   (fun i d' L'=>Le d4 d'∧i≤(AL v).length∧∃J,L'=bx b1 T1 [c0,c1,c2,c3,c4,c5]::J) (fun i=>(AL v).length - i) 0
   ⟨rfl,rfl,rfl,rfl,rfl,rfl,trivial⟩ ⟨Le.refl _,Xw _,[],rfl⟩ ?_
  rintro i ρ d5 L' ⟨hl5,hi,J,hL⟩
  subst hL
  have hw5:RSl 1 Bm d5 (.slice wa (AL v).length wc) (AL v):=RSl.mono (R:=Bm) CB hw4 hl5
  have hv5:=hv4.mono hl5
  have ht5:=hTm hl5 ht4
  by_cases hc:i<(AL v).length
  ·have hlb:=VL v i
   have hln:=Sq hc
   have hget:=OM hr (Xh hc)
   have hwk:=Np hm _ (Xh hc)
   have hoth:=fun k (hk:k<i)=>QD hm hc hk
   have hpre:=PS hc
   (refine Ac<|Av rfl rfl<|Aa<|Ah<|Au rfl (by omega)<|Ao<|Ah<|As<|Ac<|Ab rfl ?_)
   refine AN (sz:=1) (R:=Bm) rfl hw5 rfl (m:=i) rfl hc (fun bq oq csq hcq hDq ⟨u,hu,hwi⟩=>?_)
   subst hu
   have hwi0:=hwi
   obtain⟨ua,uc,rfl⟩:=hwi0.val
   clear hwi0
   (refine Ai rfl (Bb (by assumption) rfl)<|Ab rfl<|Ar rfl<|Aa<|Ac<|AE 0 rfl rfl rfl<|Ar rfl ?_)
   have hG:=h5 ht5 hv5 hwi (by omega)
   rw[hget,hwk] at hG
   generalize (B0 v (AL v)[i]).1=y at hG hln
   refine AQ rfl hG (fun r d6 L6 _ ⟨hdd,cs6,g6,hr6,hL,ho6⟩=>?_)
   subst hdd;subst hL;subst hr6
   refine Bt (fun d7 hl7 hg7=>?_)
   have hA:=ho6.HE hg7
   have hAc:=AK _ _ _ hA
   obtain⟨lv,kv,rfl,_,_,_,_,hyl,_⟩:=hA.open
   obtain⟨la,lc,rfl⟩:=RSl.val hyl
   have hw7:RSl 1 Bm d7 (.slice wa (AL v).length wc) (AL v):=RSl.mono (R:=Bm) CB hw5 hl7
   have hwi7:=RSl.mono (R:=RSt) Cp hwi hl7
   clear hG hwi hw5 ho6
   (refine A9 rfl<|AH rfl rfl<|AH rfl rfl<|AV (fun _ _=>?_))
   rename_i b8 T8
   refine AA 0 [vZ y.kind,vZ y.m,vZ y.e,Al y.text,.slice la y.list.length lc,kv] rfl rfl rfl rfl (No rfl) hAc rfl ?_
   clear hA hAc hyl
   (refine Ab rfl<|Aa<|Ah<|Ac<|Ab rfl<|AB rfl rfl<|Aa<|An rfl (by omega)<|Ao<|Ah<|Ac<|Ag rfl<|Ai rfl (Ak 0 rfl rfl)<|Ay rfl<|At rfl rfl<|Aa ?_)
   show gwp P _ _ _ _ _
   refine HX (fun ρ d8 L8=>d8=d7∧∃A J,Bi ρ [(1,pZ b1),(3,.slice wa (AL v).length wc),(5,vZ (FH v (i+1))),(6,vZ i),(7,.slice ua (AL v)[i].length uc),(45,.slice wa (AL v).length wc),(46,vZ (AL v).length),(47,vZ i)]∧L8=A++bx b1 T1 [c0,c1,c2,c3,c4,c5]::J) ?_ ?_
   ·by_cases hy:y.list.length=0
    ·rw[if_pos hy] at hln
     (refine Au rfl (by omega)<|Ax<|Ab rfl<|AI rfl rfl (by omega) (by omega)<|Ab rfl<|Aa ?_)
     exact⟨rfl,[_],J,⟨rfl,rfl,int_eq (by omega),rfl,rfl,rfl,rfl,rfl,trivial⟩,rfl⟩
    ·rw[if_neg hy] at hln
     (refine An rfl (by omega)<|Ao ?_)
     exact⟨rfl,[_],J,⟨rfl,rfl,int_eq (by omega),rfl,rfl,rfl,rfl,rfl,trivial⟩,rfl⟩
   rintro ρ d8 L8 ⟨hdd,A8,J8,hsl,hL⟩
   subst hL;subst hdd
   show gwp P _ _ _ _ _
   refine BQ _ hsl ?_
   apply Ah;apply Ah;apply Ax
   refine Cn d8 (bx b1 T1 [c0,c1,c2,c3,c4,c5]::J8) (Vs.drop (Yi A8 _)) ?_
   clear hsl hln
   (refine Ab rfl<|Ab rfl<|Aa<|As ?_)
   refine A6 (α:=Nat) (fun k=>[(1,pZ b1),(3,.slice wa (AL v).length wc),(5,vZ (FH v (i+1))),(6,vZ i),(7,.slice ua (AL v)[i].length uc),(45,.slice wa (AL v).length wc),(46,vZ (AL v).length),(47,vZ i),(66,vZ i),(67,vZ k)])
    (fun k d' L'=>d'=d8∧k≤i∧L'=bx b1 T1 [c0,c1,c2,c3,c4,c5]::J8) (fun k=>i - k) 0
    ⟨rfl,rfl,rfl,rfl,rfl,rfl,rfl,rfl,rfl,rfl,trivial⟩ ⟨rfl,Xw _,rfl⟩ ?_
   rintro k ρ d9 L' ⟨hdd,hk,hL⟩
   subst hdd;subst hL
   by_cases hkc:k<i
   ·have hno:=hoth k hkc
    (refine Ac<|Av rfl rfl<|Aa<|Ah<|Au rfl (by omega)<|Ao<|Ah<|As<|Ac<|Ab rfl<|Ab rfl<|Aa<|Ac<|Ar rfl<|Ab rfl ?_)
    refine AN (sz:=1) (R:=Bm) rfl hw7 rfl (m:=k) rfl (by omega) (fun bq oq csq hcq hDq ⟨u,hu,hwk7⟩=>?_)
    subst hu
    have hsm:=h6 hwk7 hwi7
    rw[hno] at hsm
    clear hno
    (refine Ai rfl (Bb (by assumption) rfl)<|Ar rfl ?_)
    refine AD rfl hsm ?_
    clear hsm
    (refine Aa<|AJ rfl<|Ao<|Ax<|AI rfl rfl (by omega) (by omega)<|Ab rfl<|Aa ?_)
    exact⟨k+1,by omega,⟨rfl,rfl,rfl,rfl,rfl,rfl,rfl,rfl,rfl,int_eq (by omega),trivial⟩,rfl,hkc,rfl⟩
   obtain rfl:k=i:=by omega
   clear hkc hk
   by_cases hw0:0<(AL v)[k].length
   ·have hsy:Ic (AL v) (AL v)[k].dropLast k=true:=by
     obtain⟨m,hm1,hm2⟩:=hpre (XV.1 hw0);exact S3 ⟨m,hm1,hc,hm2⟩
    have hsl7:(AL v)[k].take ((AL v)[k].length - 1)=(AL v)[k].dropLast:=(List.dropLast_eq_take ..).symm
    have hsn:=fun j (h:j<(AL v).length)=>Sy (w:=(AL v)[k].dropLast) h
    (refine Ac<|Av rfl rfl<|Aa<|Ah<|An rfl (by omega)<|AU<|Ac<|Ar rfl<|Ay rfl<|AM rfl rfl<|Aa<|Au rfl (by omega)<|Ac<|Ad rfl<|Aa<|Ah<|Ac<|Ab rfl<|Ab rfl<|Aa<|As ?_)
    refine A6 (α:=Nat) (fun j=>[(1,pZ b1),(3,.slice wa (AL v).length wc),(5,vZ (FH v (k+1))),(6,vZ k),(7,.slice ua (AL v)[k].length uc),(11,.bool (Ic (AL v) (AL v)[k].dropLast j)),(45,.slice wa (AL v).length wc),(46,vZ (AL v).length),(47,vZ k),(80,vZ k),(81,vZ j)])
     (fun j d' L'=>d'=d9∧j≤k∧L'=bx b1 T1 [c0,c1,c2,c3,c4,c5]::J8) (fun j=>k - j) 0
     ⟨rfl,rfl,rfl,rfl,rfl,rfl,rfl,rfl,rfl,rfl,rfl,trivial⟩ ⟨rfl,Xw _,rfl⟩ ?_
    rintro j ρ d10 L' ⟨hdd,hj,hL⟩
    subst hdd;subst hL
    by_cases hjc:j<k
    ·replace hsn:=hsn j (by omega)
     generalize Ic (AL v) (AL v)[k].dropLast j=q at*
     cases q with
     |true=>
      rw[show(true||D0 (AL v)[j] (AL v)[k].dropLast)=true from rfl] at hsn
      (refine Ac<|Av rfl rfl<|Aa<|Ah<|Au rfl (by omega)<|Ao<|Ah<|As<|Ac<|Ab rfl<|Ab rfl<|Aa<|Bp<|Ad rfl<|Ad rfl<|Aj rfl<|Aj rfl<|Aj rfl<|Aj rfl<|Aj rfl<|Aj rfl<|Aj rfl<|Aj rfl<|Aj rfl<|Aj rfl<|Ap rfl rfl<|Cr<|Ad rfl<|Aa<|Ax<|AI rfl rfl (by omega) (by omega)<|Ab rfl<|Aa ?_)
      exact⟨j+1,by omega,⟨rfl,rfl,rfl,rfl,rfl,congrArg Value.bool hsn.symm,rfl,rfl,rfl,rfl,int_eq (by omega),trivial⟩,rfl,hjc,XA _⟩
     |false=>
      rw[show(false||D0 (AL v)[j] (AL v)[k].dropLast)=D0 (AL v)[j] (AL v)[k].dropLast from rfl] at hsn
      clear hsy
      have hwn:=RSl.A2 hwi7
      (refine Ac<|Av rfl rfl<|Aa<|Ah<|Au rfl (by omega)<|Ao<|Ah<|As<|Ac<|Ab rfl<|Ab rfl<|Aa<|Bp<|Ad rfl<|Ad rfl<|Af rfl<|Ar rfl<|Af rfl<|Ab rfl<|Af rfl ?_)
      refine AN (sz:=1) (R:=Bm) rfl hw7 rfl (m:=j) rfl (by omega) (fun bq oq csq hcq hDq ⟨u,hu,hwj⟩=>?_)
      subst hu
      (refine Af rfl<|Ai rfl (Bb (by assumption) rfl)<|Af rfl<|Ar rfl<|Af rfl<|Ar rfl<|Af rfl<|Ay rfl<|Af rfl<|Bw rfl rfl (by omega) (by omega)<|Af rfl ?_)
      have hn1:((AL v)[k].length:Int) - 1=(((AL v)[k].length - 1:Nat):Int):=by omega
      have hn2:(AL v)[k].length - 1≤(AL v)[k].length:=Nat.sub_le ..
      refine LR (xs:=(AL v)[k]) (n:=(AL v)[k].length - 1) rfl hwi7 rfl hn1 hn2 (fun vq hq=>?_)
      clear hn1 hn2
      rw[hsl7] at hq
      have hsm:=h6 hwj hq
      (apply Af;rfl)
      refine AD rfl hsm ?_
      (refine Am rfl rfl<|Cr<|Ad rfl<|Aa<|Ax<|AI rfl rfl (by omega) (by omega)<|Ab rfl<|Aa ?_)
      exact⟨j+1,by omega,⟨rfl,rfl,rfl,rfl,rfl,congrArg Value.bool hsn.symm,rfl,rfl,rfl,rfl,int_eq (by omega),trivial⟩,rfl,hjc,XA _⟩
    obtain rfl:j=k:=by omega
    rw[hsy]
    clear hsy
    (refine Ac<|Av rfl rfl<|Aa<|Ah<|An rfl (by omega)<|AU<|Ac<|Ad rfl<|Be rfl<|Aa<|AJ rfl<|Ao<|Ax<|AI rfl rfl (by omega) (by omega)<|Ab rfl<|Aa ?_)
    exact⟨j+1,by omega,⟨rfl,rfl,rfl,rfl,rfl,int_eq (by omega),trivial⟩,hl5.trans hl7,by omega,J8,rfl⟩
   (refine Ac<|Av rfl rfl<|Aa<|Ah<|An rfl (by omega)<|AU<|Ac<|Ar rfl<|Ay rfl<|AM rfl rfl<|Aa<|An rfl (by omega)<|Ao<|Ax<|AI rfl rfl (by omega) (by omega)<|Ab rfl<|Aa ?_)
   exact⟨k+1,by omega,⟨rfl,rfl,rfl,rfl,rfl,int_eq (by omega),trivial⟩,hl5.trans hl7,by omega,J8,rfl⟩
  ·obtain rfl:i=(AL v).length:=by omega
   have hlp:=Uf hm
   (refine Ac<|Av rfl rfl<|Aa<|Ah<|An rfl (by omega)<|AU<|Ac<|Ab rfl<|AM rfl rfl<|Ad rfl<|Aa<|Aq ?_)
   exact Bs (congrArg Value.bool (decide_eq_true (by omega)))
 ·have haf:DX v=[]:=by unfold DX;rw[if_pos hr]
  rw[haf] at hw4 hw4'
  rw[haf]
  (refine A9 rfl<|AH rfl rfl<|AH rfl rfl<|Ar rfl<|Ab rfl<|Aa<|Ah<|Ac<|Ab rfl<|AB rfl rfl<|Aa<|Au rfl (by omega)<|Ac<|Ar rfl<|Ay rfl<|At rfl rfl<|Ad rfl<|Aa<|Aq ?_)
  exact Bs rfl
def SC:∀w∈AL v,w.length≤Bh v:=by
 induction v using V.ind with
 |h v ih=>
  intro w hw
  rcases E7.1 hw with rfl|⟨j,hj,u,hu,rfl⟩
  ·exact Xw _
  ·have h1:=ih _ (Xh hj) u hu
   have h2:=GU (Xh hj)
   rw[Xv];omega
def NM{α β}{f:α→β}{l:List α}{k:Nat}(h:k<l.length):(l.take k).map f++[f l[k]]=(l.take (k+1)).map f:=by
 rw[Xi h,List.map_append,List.map_singleton]
def MQ(P:Program)(f:FuncId):Prop:=∀(v:V) {d cs},Aw d cs v→Bc v=true→BS v≤900000→Bh v≤900000→
 AY P f [.agg cs.toArray] d [] (Ret fun r d' L'=>L'=[]∧RSl 1 Bm d' r (AL v))
def I4(a0:Nat):A0:=⟨50,[(.tmp 2)],(sR (o1 1 (.box 0)<|o1 2 (.mv nS) .done) (sR (o1 8 (.bsl 1 1 [(.slice none 0 0)] [(0,nS)])<|om 3 8 .done) (.seq (sR (o1 4 (.mv z0) .done) (.block 0 (.loop (.seq (sR (om 9 4<|oj 10 4 1<|ol 11 10<|oL 12 11<|ob 13 .lss 9 12 .done) (.cond 13 .skip (.exit 0))) (.seq (.block 1 (sR (om 16 4<|o1 17 (.bld [(0,1),(1,1),(2,1),(3,1),(4,1),(5,1)] [(vZ 0),(Al []),(vZ 0),(vZ 0),(.bool false),(.bool false)] [(0,z1),(2,16)])<|o1 5 (.alo (.agg #[(vZ 0),(Al []),(vZ 0),(vZ 0),(.bool false),(.bool false)]))<|o0 (.st 6 5 17) .done) (.seq (sR (oj 18 0 1<|ol 19 18<|ob 20 .eql 19 (kZ 6) .done) (.cond 20 (rG (oj 21 5 1<|ol 22 21<|om 23 4<|oI 24 1 22 23<|ol 25 24<|o1 26 (.bld [(0,1),(1,1),(2,1),(3,1),(4,1),(5,1)] [(vZ 0),(Al []),(vZ 0),(vZ 0),(.bool false),(.bool false)] [(1,25)])<|o0 (.st 6 5 26) .done)) .skip)) (sR (oj 27 4 1<|ol 28 27<|om 29 4<|oI 30 6 28 29<|o1 31 (.ld (some 6) 30)<|oc 32 a0 [31]<|om 6 32 .done) (sR (o1 7 (.mv z0) .done) (.block 2 (.loop (.seq (sR (om 33 7<|om 34 6<|oL 35 34<|ob 36 .lss 33 35 .done) (.cond 36 .skip (.exit 2))) (.seq (.block 3 (.reg true (pm 39 3<|p1 40 (.ld (some 6) 5)<|pm 42 6<|pm 43 7<|p1 44 (.idx 1 42 43)<|pl 45 44<|o1 41 (.bsl 1 6 [(vZ 0),(Al []),(vZ 0),(vZ 0),(.bool false),(.bool false)] [(0,40)])<|o1 46 (.app 6 48 [(vZ 0),(Al []),(vZ 0),(vZ 0),(.bool false),(.bool false)] 41 45)<|o1 47 (.bsl 1 1 [(.slice none 0 0)] [(0,46)])<|o1 48 (.app 1 24 [(.slice none 0 0)] 39 47) (.bar (pm 3 48 .done))))) (rG (om 37 7<|ob 38 .add 37 z1<|om 7 38 .done))))))))))) (rG (om 14 4<|ob 15 .add 14 z1<|om 4 15 .done))))))) (sR (om 49 3<|om 2 49 .done) .ret))))⟩
set_option maxHeartbeats 4000000 in
def TS{P f}(hd:dec P f=some (I4 f)):MQ P f:=by
 intro v;induction v using V.ind with
 |h v ih=>
 intro d cs hv hmay hb hdp;refine Bf hd (No rfl) ?_;have hcl:=E9 (v:=v);have hd1:=Ex v;have hone:=Cv hmay;obtain⟨lv,kv,rfl,ik,im,ie,it,hl,hks⟩:=hv.open;obtain⟨la,lc,rfl⟩:=RSl.val hl;obtain⟨ka,kc,rfl⟩:=RSl.val hks;show gwp P _ _ _ _ _;apply Ah;apply Ax;refine AR (l:=[vZ v.kind,vZ v.m,vZ v.e,Al v.text,.slice la v.list.length lc,.slice ka v.keys.length kc]) rfl (fun b1 T1=>?_);(refine Ar rfl<|Aa<|Ac ?_);refine Ef (v0:=.slice none 0 0) rfl rfl (fun b8 T8=>?_);have hL0:AO 1 Bm d (.slice (some ⟨b8,0,none⟩) 1 1) [[]] (bx b8 T8 [.slice none 0 0]):=JL (w:=[]) RSl.nil;(refine Ar rfl<|Aa<|Ah<|Ac<|Ab rfl<|Aa<|As ?_);have hwl:∀n,([]::BZ v.kind v.keys 0 (v.list.take n)).length≤BS v:=fun n=>by
  have h2:=FQ v.kind v.keys (v.list.take n) 0 (fun x _=>KQ x);have h3:=JG v.list n;rw[Cq,Xv];omega
 refine A6 (α:=Nat×Option Addr×Nat) (fun x=>[(1,pZ b1),(3,.slice x.2.1 ([]::BZ v.kind v.keys 0 (v.list.take x.1)).length x.2.2),(4,vZ x.1)])
  (fun x d' L'=>Le d d'∧x.1≤v.list.length∧∃h J,AO 1 Bm d' (.slice x.2.1 ([]::BZ v.kind v.keys 0 (v.list.take x.1)).length x.2.2) ([]::BZ v.kind v.keys 0 (v.list.take x.1)) h∧L'=h::bx b1 T1 [vZ v.kind,vZ v.m,vZ v.e,Al v.text,.slice la v.list.length lc,.slice ka v.keys.length kc]::J) (fun x=>v.list.length - x.1) (0,some ⟨b8,0,none⟩,1)
  ⟨rfl,rfl,rfl,trivial⟩ ⟨Le.refl _,Xw _,_,[],hL0,rfl⟩ ?_
 rintro⟨i,oa,oc⟩ ρ d2 L' ⟨hl2,hi,h,J,hrow,hL⟩;simp only at hi hrow⊢;subst hL;have hl2':RSl 6 Aw d2 (.slice la v.list.length lc) v.list:=BY.mono hl hl2;have hks2:RSl 1 Bk d2 (.slice ka v.keys.length kc) v.keys:=B9.mono hks hl2;by_cases hc:i<v.list.length
 ·have hk1:=hwl i;have hk2:=hwl (i+1);have hwt:=Lp (k:=v.kind) (ks:=v.keys) hc;(refine Ah<|Ac<|Ab rfl<|Ag rfl<|Ai rfl (Ak 1 rfl rfl)<|Ay rfl<|Av rfl rfl<|Aa<|Au rfl (by omega)<|Ao<|Ah<|As<|Ac<|Ab rfl<|Jl rfl<|AV (fun _ _=>?_));rename_i b5 T5;refine AA 0 [vZ 1,Al [],vZ i,vZ 0,.bool false,.bool false] rfl rfl rfl rfl (No rfl) rfl rfl ?_;(refine Aa<|Ah<|Ac<|Ag rfl<|Ai rfl (Ak 2 rfl rfl)<|At rfl rfl<|Aa ?_);show gwp P _ _ _ _ _;refine HX (fun ρ d3 L3=>d3=d2∧Bi ρ [(1,pZ b1),(3,.slice oa ([]::BZ v.kind v.keys 0 (v.list.take i)).length oc),(4,vZ i),(5,pZ b5)]∧
   L3=bx b5 T5 (stL (stepOf v.kind v.keys i))::h::bx b1 T1 [vZ v.kind,vZ v.m,vZ v.e,Al v.text,.slice la v.list.length lc,.slice ka v.keys.length kc]::J) ?_ ?_
  ·by_cases hk6:v.kind=6
   ·have hki:i<v.keys.length:=by rw[OT hone hk6];exact hc
    have hse:stepOf v.kind v.keys i=⟨0,v.keys[i],0,0,false,false⟩:=by simp[stepOf,hk6,hki]
    (refine Au rfl (by omega)<|Ax<|Ag rfl<|Ai rfl (Ak 2 rfl rfl)<|Ab rfl<|AN (sz:=1) (R:=Bk) (by rfl) (by assumption) (by rfl) rfl (by omega) ?_;rintro _ _ _ _ _ ⟨rfl,_⟩;refine Ai rfl (Bb (by assumption) rfl)<|BF rfl ?_);refine AA 0 [vZ 0,Al v.keys[i],vZ 0,vZ 0,.bool false,.bool false] rfl rfl rfl rfl (No rfl) rfl rfl ?_;apply Aa;exact⟨rfl,⟨rfl,rfl,rfl,rfl,trivial⟩,by rw[hse];rfl⟩
   ·have hse:stepOf v.kind v.keys i=⟨1,[],i,0,false,false⟩:=by simp[stepOf,hk6]
    (refine An rfl (by omega)<|Ao ?_);exact⟨rfl,⟨rfl,rfl,rfl,rfl,trivial⟩,by rw[hse];rfl⟩
  rintro ρ d3 L3 ⟨hdd,hsl,hL⟩;subst hL;subst hdd;show gwp P _ _ _ _ _;refine BQ _ hsl ?_;clear hsl;have hst:∀d,RSt d (stL (stepOf v.kind v.keys i)) (stepOf v.kind v.keys i):=fun d=>LZ hks2 (by omega);generalize hs:stepOf v.kind v.keys i=s at hst hwt⊢;(refine Ac<|Ag rfl<|Ai rfl (Ak 2 rfl rfl)<|Ab rfl<|AN (sz:=6) (R:=Aw) (by rfl) (by assumption) (by rfl) rfl (by omega) ?_;rintro _ _ _ _ _ _;apply B5;rfl;assumption;assumption);rename_i q1 q2 cs31 hcs31 q5 hR;have hcn:BS v.list[i]≤900000:=by have:=Ns hc;have:=Cq v;omega
  have hdn:=GU (Xh hc);refine AQ rfl (ih _ (Xh hc) hR (Ci hmay (Xh hc)) hcn (by omega)) (fun r d4 L4 hl4 ⟨hL,hw4⟩=>?_);subst hL;have hdx:=SC (v:=v.list[i]);generalize AL v.list[i]=ls at hw4 hwt hdx;obtain⟨ra,rc,rfl⟩:=RSl.val hw4;rw[hwt] at hk2;generalize hacc:BZ v.kind v.keys 0 (v.list.take i)=acc at hrow hk1 hk2 hwt⊢;replace hrow:=AO.mono (R:=Bm) CB hrow hl4;rw[Xv,Xl,Ye] at hk2;(refine Ar rfl<|Aa<|Ac<|Ab rfl<|Aa<|As ?_);refine A6 (α:=Nat×Option Addr×Nat) (fun x=>[(1,pZ b1),(3,.slice x.2.1 ([]::(acc++(ls.take x.1).map (s:: ·))).length x.2.2),(4,vZ i),(5,pZ b5),(6,.slice ra ls.length rc),(7,vZ x.1)])
   (fun x d' L'=>Le d4 d'∧x.1≤ls.length∧∃h J,AO 1 Bm d' (.slice x.2.1 ([]::(acc++(ls.take x.1).map (s:: ·))).length x.2.2) ([]::(acc++(ls.take x.1).map (s:: ·))) h∧L'=bx b5 T5 (stL s)::h::bx b1 T1 [vZ v.kind,vZ v.m,vZ v.e,Al v.text,.slice la v.list.length lc,.slice ka v.keys.length kc]::J) (fun x=>ls.length - x.1) (0,oa,oc)
   ⟨rfl,congrArg (fun l:List (List St)=>Value.slice oa ([]::l).length oc) (XA acc).symm,rfl,rfl,rfl,rfl,trivial⟩ ⟨Le.refl _,Xw _,h,J,by simpa using hrow,rfl⟩ ?_
  rintro⟨k,oa5,oc5⟩ ρ d5 L' ⟨hl5,hk,h5,J5,hrow5,hL⟩;simp only at hk hrow5⊢;subst hL;have hw5:RSl 1 Bm d5 (.slice ra ls.length rc) ls:=RSl.mono (R:=Bm) CB hw4 hl5;by_cases hkc:k<ls.length
  ·have hlk:=hdx _ (Xh hkc);have hnx:=NM (f:=(s:: ·)) hkc;have hn5:([]::(acc++(ls.take k).map (s:: ·))).length≤BS v:=by simp;omega
   (refine Ah<|Ac<|Ab rfl<|Ar rfl<|Ay rfl<|Av rfl rfl<|Aa<|Au rfl (by omega)<|Ao<|Ah<|As ?_);refine Ek [bx b5 T5 (stL s)] _ rfl ?_;(refine Ar rfl<|AE 0 rfl rfl rfl<|Ar rfl<|Ab rfl ?_);refine AN (sz:=1) (R:=Bm) rfl hw5 rfl (m:=k) rfl hkc (fun bq oq csq hcq hDq ⟨u,hu,hwk⟩=>?_);subst hu;(apply Ai;rfl;exact Bb (by assumption) rfl);refine G4 rfl (fun b41 T41=>?_);refine UQ (R:=RSt) (xs:=[s]) (ys:=ls[k]) Cp rfl (AO.Fx rfl (hst _)) rfl (RSl.src (R:=RSt) (xs:=ls[k]) hwk Gz (by omega) _) (by omega) (by rw[XI];omega) (by rw[XI];omega) (fun a46 c46 d6 hl6 hr6=>?_);refine Ef (v0:=.slice a46 ([s]++ls[k]).length c46) rfl rfl (fun b47 T47=>?_);refine F1 (R:=Bm) 0 rfl rfl (AO.mono (R:=Bm) CB hrow5 hl6) rfl (JL hr6) JF (by omega) (by rw[XI];omega) (by rw[XI];omega) (fun v7 h7 o7=>?_);rw[show([]::(acc++(ls.take k).map (s:: ·)))++[[s]++ls[k]]=[]::(acc++(ls.take (k+1)).map (s:: ·)) by rw[←hnx];simp] at o7;obtain⟨a7,c7,rfl⟩:=o7.val;(refine Cr<|Ar rfl<|Aa ?_);(refine Ax<|Ab rfl<|AI rfl rfl (by omega) (by omega)<|Ab rfl<|Aa ?_);exact⟨(k+1,a7,c7),by simp only;omega,⟨rfl,rfl,rfl,rfl,rfl,int_eq (by omega),trivial⟩,hl5.trans hl6,hkc,h7,J5,o7,rfl⟩
  obtain rfl:k=ls.length:=by omega
  rw[Xz,←hwt] at hrow5;rw[Xz,←hwt];apply Ah;apply Ah;apply Ax;refine Cn d5 (h5::bx b1 T1 [vZ v.kind,vZ v.m,vZ v.e,Al v.text,.slice la v.list.length lc,.slice ka v.keys.length kc]::J5) (Vs.drop (X2 _ _)) ?_;(refine Ab rfl<|Ar rfl<|Ay rfl<|Av rfl rfl<|Aa<|An rfl (by omega)<|AU<|Ax<|Ab rfl<|AI rfl rfl (by omega) (by omega)<|Ab rfl<|Aa ?_);exact⟨(i+1,oa5,oc5),by simp only;omega,⟨rfl,rfl,int_eq (by omega),trivial⟩,(hl2.trans hl4).trans hl5,hc,h5,_,hrow5,rfl⟩
 ·obtain rfl:i=v.list.length:=by omega
  rw[Xz,←DW] at hrow⊢;(refine Ah<|Ac<|Ab rfl<|Ag rfl<|Ai rfl (Ak 1 rfl rfl)<|Ay rfl<|Av rfl rfl<|Aa<|An rfl (by omega)<|AU<|Ac<|Ar rfl<|Ar rfl<|Aa<|Aq ?_);refine Rh rfl (fun d' hl' hk'=>⟨rfl,?_⟩);exact hrow.rsl (R:=Bm) CB (by omega) hl' (hk' _ (by simp))
def Mj(T:Ae→Prop)(P:Program)(f:FuncId):Prop:=∀{d cs}{v:V},T d→Aw d cs v→BS v≤900000→Bh v≤1000000000→
 AY P f [.agg cs.toArray] d [] (Ret fun r d' L'=>L'=[]∧∃out,r=.tuple #[out,vZ (AP v)]∧RSl 1 Bm d' out (DX v))
def JJ(a0 a1:Nat):A0:=⟨12,[(.tmp 2),(.tmp 3)],(sR (o1 1 (.box 0)<|o1 2 (.mv nS)<|o1 3 (.mv z0) .done) (sR (o1 5 (.ld (some 6) 1)<|oc 6 a0 [5]<|om 4 6 .done) (.seq (sR (om 7 4<|ob 8 .neq 7 z0 .done) (.cond 8 (sR (om 9 4<|o1 2 (.mv nS)<|om 3 9 .done) .ret) .skip)) (sR (o1 10 (.ld (some 6) 1)<|oc 11 a1 [10]<|om 2 11<|o1 3 (.mv z0) .done) .ret))))⟩
set_option maxHeartbeats 2000000 in
def Uo{T:Ae→Prop}{P f f1 f2}(hd:dec P f=some (JJ f1 f2))(h1:KZ T P f1)(h2:MQ P f2):Mj T P f:=by
 intro d cs v ht hv hb hx;refine Bf hd (No rfl) ?_;obtain⟨c0,c1,c2,c3,c4,c5,rfl⟩:=six hv.len;show gwp P _ _ _ _ _;apply Ah;apply Ax;refine AR (l:=[c0,c1,c2,c3,c4,c5]) rfl (fun b1 T1=>?_);(refine Ar rfl<|Ab rfl<|Aa<|Ac<|AE 0 rfl rfl rfl ?_);refine AD rfl (h1 ht hv hx) ?_;by_cases hr:AP v≠0
 ·rw[DX,if_pos hr];(refine Ab rfl<|Aa<|Ah<|Ac<|Ab rfl<|AB rfl rfl<|Aa<|Au rfl (by omega)<|Ac<|Ab rfl<|Ar rfl<|Ab rfl<|Aa<|Aq ?_);exact B8 (L':=[]) [.slice none 0 0,vZ (AP v)] ⟨AZ rfl,AZ rfl,trivial⟩ (Xm _) ⟨rfl,_,rfl,RSl.nil⟩
 rw[DX,if_neg hr];have hr0:AP v=0:=Decidable.not_not.1 hr;rw[hr0];have hmay:Bc v=true:=(BU.1 hr0).1;have hdep:Bh v≤48:=(BU.1 hr0).2;(refine Ab rfl<|Aa<|Ah<|Ac<|Ab rfl<|AB rfl rfl<|Aa<|An rfl (by omega)<|Ao<|Ac<|AE 0 rfl rfl rfl ?_);refine AQ rfl (h2 v hv hmay hb (by omega)) (fun r d2 L2 hl2 ⟨hL,hw⟩=>?_);subst hL;(refine N5<|Ab rfl<|Aa<|Aq ?_);exact B8 (L':=[]) [r,vZ 0] ⟨AZ rfl,AZ rfl,trivial⟩ (Xm _) ⟨rfl,_,rfl,hw⟩
def Ho(d:Ae)(cs:List Value)(u:Value):Prop:=cs=[u]
def R1:HK Ho:=fun _ h=>h
def QK{d v}{w:List St}{g}(o:AO 6 RSt d v w g)(hn:0<w.length):∃b T l c,v=.slice (some ⟨b,0,none⟩) w.length c∧g=bx b T l∧w.length*6≤l.length:=by
 obtain⟨b,T,l,c,h1,h2,h3,_⟩:=AO.NO (R:=RSt) (by omega) o (m:=w.length - 1) (by omega);exact⟨b,T,l,c,h1,h2,by omega⟩
def OWs.data{out}{ws:List (List St)}{L}(o:OWs out ws L):∃us h0 hs,L=h0::hs∧us.length=ws.length∧hs.length=ws.length∧(∀d,Le h0 d→RSl 1 Ho d out us)∧∀i (hi:i<ws.length),∃u g,us[i]?=some u∧hs[i]?=some g∧AO 6 RSt emp u ws[i] g:=by
 obtain⟨us,h0,hs,h1,h2,h3,rfl⟩:=o;have hul:us.length=ws.length:=by have:=h1.1;omega
 refine⟨us,h0,hs,rfl,hul,h2,fun d hd=>?_,h3⟩
 rw[←hul] at h1;exact h1.S8 (R:=Ho) hd rfl (fun i hi=>⟨us[i],by simp[hi],rfl⟩)
def Gl(a0 a1 a2 a3 a4:Nat):A0:=⟨66,[(.tmp 2)],(sR (o1 1 (.box 0)<|o1 2 (.mv (.const (.bool false))) .done) (.seq (sR (o1 9 (.ld (some 6) 1)<|o1 10 (.bsl 1 6 [(vZ 0),(vZ 0),(vZ 0),(Al []),(.slice none 0 0),(.slice none 0 0)] [(0,9)])<|oc 11 a0 [nS,10] .done) (.cond 11 (sR (oc 12 a1 []<|om 2 12 .done) .ret) .skip)) (sR (o1 14 (.ld (some 6) 1)<|oc 15 a2 [14]<|om 13 15<|oe 16 13 0<|oe 17 13 1<|om 3 16<|om 4 17 .done) (sR (o1 19 (.ld (some 6) 1)<|oc 20 a3 [19]<|om 18 20<|oe 21 18 0<|oe 22 18 1<|om 5 21<|om 6 22 .done) (.seq (sR (om 23 3<|oL 24 23<|om 25 5<|oL 26 25<|ob 27 .neq 24 26<|om 28 27<|gF 29 28 4<|gF 30 28 6<|oF 31 28 (.bin .neq 29 30)<|o1 32 (.pick 28 (.const (.bool true)) 31) .done) (.cond 32 (sR (o1 2 (.mv (.const (.bool false))) .done) .ret) .skip)) (.seq (sR (om 33 3<|oL 34 33<|o1 35 (.mv z0) .done) (.block 0 (.loop (sR (ob 36 .lss 35 34 .done) (.seq (.cond 36 .skip (.exit 0)) (.seq (.block 1 (sR (om 37 35<|om 7 37 .done) (.seq (.seq (.reg true (pm 38 3<|pm 39 7<|p1 40 (.idx 1 38 39)<|pl 41 40<|pm 42 5<|pm 43 7<|p1 44 (.idx 1 42 43)<|pl 45 44<|oc 46 a4 [41,45]<|p1 47 (.un .not 46) .done)) (.cond 47 (sR (o1 2 (.mv (.const (.bool false))) .done) .ret) .skip)) (sR (om 48 3<|om 49 7<|oI 50 1 48 49<|ol 51 50<|oL 52 51<|o1 53 (.mv z0) .done) (.block 2 (.loop (sR (ob 54 .lss 53 52 .done) (.seq (.cond 54 .skip (.exit 2)) (.seq (.block 3 (sR (om 55 53<|om 8 55 .done) (rG (om 56 3<|om 57 7<|oI 58 1 56 57<|ol 59 58<|om 60 8<|oI 61 6 59 60<|oj 62 0 61<|o0 (.st 1 62 (kZ (-1))) .done)))) (rG (ob 63 .add 53 z1<|om 53 63 .done))))))))))) (rG (ob 64 .add 35 z1<|om 35 64 .done)))))))) (sR (oc 65 a1 []<|om 2 65 .done) .ret)))))))⟩
set_option maxHeartbeats 4000000 in
def NL{T:Ae→Prop}{P f f1 f2 f3 f4 f5}(hTm:∀{d d'},Le d d'→T d→T d')(hd:dec P f=some (Gl f1 f2 f3 f4 f5))(h1:GN P f1)(h2:IN T P f2)(h3:H4 T P f3)(h4:Mj T P f4)(h5:FN P f5)
  {d cs}{v:V}(ht:T d) (hv:Aw d cs v):AG P f [.agg cs.toArray] d (.bool true):=by
 obtain⟨c0,c1,c2,c3,c4,c5,rfl⟩:=six hv.len
 have hvc:=AK _ _ _ hv
 refine AG.of' hd (No rfl) ?_
 show gwp P _ _ _ _ _
 apply Ah;apply Ax
 refine AR (l:=[c0,c1,c2,c3,c4,c5]) rfl (fun b1 T1=>?_)
 (refine Ad rfl<|Aa<|Ah<|Ac<|AE 0 rfl rfl rfl ?_)
 refine Ed rfl rfl (fun b10 T10=>?_)
 refine Bt (fun d2 hl2 hg2=>?_)
 have hv2:=hv.mono hl2
 refine AQ rfl (h1 (ws:=[]) RSl.nil (H7 hv2 hg2)) (fun r d3 L3 _ ⟨hdd,hL,b,hr,hb⟩=>?_)
 subst hdd;subst hL;subst hr
 have ht3:T d3:=hTm hl2 ht
 cases b with
 |true=>
  (refine Aa<|Bd rfl<|Ac ?_)
  refine AD rfl (h2 ht3) ?_
  (refine Ad rfl<|Aa<|Aq ?_)
  exact Bs rfl
 |false=>
 obtain⟨_,_,hbv⟩:=hb rfl
 obtain⟨hbt,hbc,hbb⟩:=KO hbv
 clear hb
 have hdb:=Rn v
 (refine Aa<|AJ rfl<|Ao<|Ac<|AE 0 rfl rfl rfl ?_)
 refine AQ rfl (h3 ht3 hv2 (by omega)) (fun r d4 L4 hl4 ⟨_,out,hr,ho⟩=>?_)
 subst hr
 obtain⟨us,h0,hs,hL,hul,hhl,hda,hel⟩:=ho.data
 subst hL
 clear ho
 refine Bt (fun d5 hl5 hg5=>?_)
 replace hda:=hda d5 hg5
 obtain⟨oa,oc,rfl⟩:=RSl.val hda
 refine Cn d5 (bx b1 T1 [c0,c1,c2,c3,c4,c5]::hs) (Vs.perm XR) ?_
 have ht5:=hTm (hl4.trans hl5) ht3
 have hv5:=hv2.mono (hl4.trans hl5)
 (refine A9 rfl<|AH rfl rfl<|AH rfl rfl<|Ar rfl<|Ab rfl<|Aa<|Ac<|AE 0 rfl rfl rfl ?_)
 refine AQ rfl (h4 ht5 hv5 (by omega) (by omega)) (fun r d6 L6 hl6 ⟨hL,out2,hr,hb6⟩=>?_)
 subst hL;subst hr
 obtain⟨ba,bc,rfl⟩:=RSl.val hb6
 refine Cn d6 hs (Vs.drop (X2 _ _)) ?_
 have hda6:RSl 1 Ho d6 (.slice oa us.length oc) us:=RSl.mono (R:=Ho) R1 hda hl6
 have ht6:=hTm hl6 ht5
 generalize DX v=ws at*
 rw[hul] at hda6⊢
 (refine A9 rfl<|AH rfl rfl<|AH rfl rfl<|Ar rfl<|Ab rfl<|Aa<|Ah<|Ac<|Ar rfl<|Ay rfl<|Ar rfl<|Ay rfl<|AB rfl rfl<|Ad rfl<|Az rfl (by omega)<|Af rfl<|Ab rfl<|Af rfl<|Ab rfl<|Af rfl<|AB rfl rfl<|Am rfl rfl<|Aa<|An rfl (by omega)<|Ao<|Ah<|Ac<|Ar rfl<|Ay rfl<|Ab rfl<|Aa<|As ?_)
 refine A6 (α:=Nat) (fun i=>[(3,.slice oa ws.length oc),(5,.slice ba ws.length bc),(33,.slice oa ws.length oc),(34,vZ ws.length),(35,vZ i)])
  (fun i d' L'=>d'=d6∧i≤ws.length∧L'=hs.drop i) (fun i=>ws.length - i) 0
  ⟨rfl,rfl,rfl,rfl,rfl,trivial⟩ ⟨rfl,Xw _,rfl⟩ ?_
 rintro i ρ d7 L' ⟨hdd,hi,hL⟩
 subst hdd;subst hL
 by_cases hc:i<ws.length
 ·obtain⟨u,g,hu,hg,hgw⟩:=hel i hc
  have hgi:hs[i]'(by omega)=g:=by rw[Xt (by omega)] at hg;exact Option.some.inj hg
  have hui:us[i]'(by omega)=u:=by rw[Xt (by omega)] at hu;exact Option.some.inj hu
  rw[XE (show i<hs.length by omega),hgi]
  have hug:∀d1,Le g d1→RSl 6 RSt d1 u ws[i]:=fun d1 hl=>AO.rsl (R:=RSt) (GB (d':=d1) hgw) Cp (by omega) (Le.refl _) hl
  have hsw:D0 ws[i] ws[i]=true:=(F3 _ _).2 rfl
  obtain⟨ua,uc,rfl⟩:=hgw.val
  (refine Ac<|Av rfl rfl<|Aa<|Ah<|Au rfl (by omega)<|Ao<|Ah<|As<|Ac<|Ab rfl<|Ab rfl<|Aa<|Ah<|Ah ?_)
  refine Ek [] _ rfl ?_
  (refine Ar rfl<|Ab rfl ?_)
  refine AN (sz:=1) (R:=Ho) rfl hda6 rfl (m:=i) rfl (by omega) (fun bq oq csq hcq hDq hu1=>?_)
  have hu1:csq=_:=hu1
  rw[hui] at hu1
  subst hu1
  (refine Ai rfl (Bb (by assumption) rfl)<|Ar rfl<|Ab rfl ?_)
  refine AN (sz:=1) (R:=Bm) rfl hb6 rfl (m:=i) rfl hc (fun bq2 oq2 csq2 hcq2 hDq2 ⟨u2,hu2,hw2⟩=>?_)
  subst hu2
  (apply Ai;rfl;exact Bb (by assumption) rfl)
  refine Vb rfl (fun d1 hl1 hk1=>h5 (hug d1 (hk1 _ (Xp ..))) (RSl.mono (R:=RSt) Cp hw2 hl1)) ?_
  rw[hsw]
  clear hsw
  (refine Be rfl<|Aa ?_)
  have hsh:=QK hgw
  have hnb:=AO.A2 hgw
  have hwsb:=RSl.A2 hb6
  generalize ws[i].length=n at*
  clear hug hgw hu hg
  (refine AJ rfl<|Ao<|Ac<|Ar rfl<|Ab rfl ?_)
  refine AN (sz:=1) (R:=Ho) rfl hda6 rfl (m:=i) rfl (by omega) (fun bq3 oq3 csq3 hcq3 hDq3 hu3=>?_)
  have hu3:csq3=_:=hu3
  rw[hui] at hu3
  subst hu3
  (refine Ai rfl (Bb (by assumption) rfl)<|Ay rfl<|Ab rfl<|Aa<|As ?_)
  refine A6 (α:=Nat×Ae) (fun x=>[(3,.slice oa ws.length oc),(5,.slice ba ws.length bc),(7,vZ i),(33,.slice oa ws.length oc),(34,vZ ws.length),(35,vZ i),(52,vZ n),(53,vZ x.1)])
   (fun x d' L'=>d'=d7∧x.1≤n∧L'=x.2::hs.drop (i+1)∧(0<n→∃b T l c,Value.slice ua n uc=.slice (some ⟨b,0,none⟩) n c∧x.2=bx b T l∧n*6≤l.length)) (fun x=>n - x.1) (0,g)
   ⟨rfl,rfl,rfl,rfl,rfl,rfl,rfl,rfl,trivial⟩ ⟨rfl,Xw _,rfl,hsh⟩ ?_
  rintro⟨k,g8⟩ ρ d8 L' ⟨hdd,hk,hL,hsh8⟩
  simp only at hk hL hsh8⊢
  subst hdd;subst hL
  by_cases hkc:k<n
  ·obtain⟨b,T,l,c,e1,e2,e3⟩:=hsh8 (by omega)
   subst e2
   (refine Ac<|Av rfl rfl<|Aa<|Ah<|Au rfl (by omega)<|Ao<|Ah<|As<|Ac<|Ab rfl<|Ab rfl<|Aa<|Ax<|Ar rfl<|Ab rfl ?_)
   refine AN (sz:=1) (R:=Ho) rfl hda6 rfl (m:=i) rfl (by omega) (fun bq4 oq4 csq4 hcq4 hDq4 hu4=>?_)
   have hu4:csq4=_:=hu4
   rw[hui,e1] at hu4
   subst hu4
   (refine Ai rfl (Bb (by assumption) rfl)<|Ab rfl ?_)
   refine Hd (o:=0) k rfl rfl rfl hkc (SAd.some n b 0) ?_
   (apply Ag;rfl)
   refine AA 0 (patch l (0+k*6+0) [vZ (-1)]) rfl rfl rfl rfl (by show _+1≤_;omega) rfl rfl ?_
   (refine Aa<|Ax<|AI rfl rfl (by omega) (by omega)<|Ab rfl<|Aa ?_)
   exact⟨(k+1,bx b T (patch l (0+k*6+0) [vZ (-1)])),by simp only;omega,⟨rfl,rfl,rfl,rfl,rfl,rfl,rfl,int_eq (by omega),trivial⟩,rfl,hkc,rfl,fun _=>⟨b,T,_,c,e1,rfl,by rw[DH (by simp;omega)];exact e3⟩⟩
  obtain rfl:k=n:=by omega
  apply Ah;apply Ax
  refine Cn d8 (hs.drop (i+1)) (Vs.drop (X2 _ _)) ?_
  (refine Av rfl rfl<|Aa<|Ah<|An rfl (by omega)<|AU<|Ax<|AI rfl rfl (by omega) (by omega)<|Ab rfl<|Aa ?_)
  exact⟨i+1,by omega,⟨rfl,rfl,rfl,rfl,int_eq (by omega),trivial⟩,rfl,hc,rfl⟩
 ·obtain rfl:i=ws.length:=by omega
  (refine Ac<|Av rfl rfl<|Aa<|Ah<|An rfl (by omega)<|AU<|Ac ?_)
  refine AD rfl (h2 ht6) ?_
  (refine Ad rfl<|Aa<|Aq ?_)
  exact Bs rfl
end Go.Gk.Val
end
section
namespace Go.Gk.Val
open Go Go.Gk Go.Gk.Utf
def Ik:V→List (List St)→V→V×Int
 |v,[],_=>(v,0)
 |v,w::ws,x=>if (C4 v w x).2≠0 then(V.zero,(C4 v w x).2) else Ik (C4 v w x).1 ws x
def Fv(v:V)(ws:List (List St))(x:V):V×Int:=if AP v≠0 then(V.zero,AP v) else if AP x≠0 then(V.zero,AP x) else Ik v ws x
def JP:V→List (List St)→V→Prop
 |v,[],_=>BD v≤1000000
 |v,w::ws,x=>BD v≤1000000∧JP (C4 v w x).1 ws x
def JP.txt{v x:V}:∀{ws:List (List St)},JP v ws x→BD v≤1000000
 |[],h=>h
 |_::_,h=>h.1
end Go.Gk.Val
end
section
namespace Go.Gk.Val
open Go Go.Gk Go.Gk.Utf Go.Gk.Srt
attribute [local irreducible] gwp gws
section
section
variable {P:Program}{pan:List PanicEntry→AT}{Qn:Env→AT}{Ls L:List Ae}{ρ:Env}{d:Ae}{s:GS}{t:Nat}{tk:Bool}
def SO{x i:Operand}{m len sz:Nat}{l vs:List Value}{k:IntKind}{j:Int}(n:Nat)(ex:ev ρ x=.agg l.toArray)(ei:ev ρ i=.int k j)(hj:j=(n:Int))(hn:n<len)(hv:(l.drop (n*sz)).take m=vs)
  (h:gws P pan Qn s Ls (upd ρ t (.agg vs.toArray)) d L):gws P pan Qn (.op tk ⟨some t,none,.aidx (some m) len sz x i⟩ s) Ls ρ d L:=by
 subst hj;subst hv
 refine w_q rfl ⟨l.toArray,k,n,ex,ei,by omega,by omega,?_⟩ h
 rw[XO,List.extract_toArray,List.extract_eq_take_drop,Nat.add_sub_cancel_left]
def Wr{x y a0 a1 a2 a3 a4 a5 c0 c1 c2 c3 c4 c5}(ex:ev ρ x=.agg [a0,a1,a2,a3,a4,a5].toArray)(ey:ev ρ y=.agg [c0,c1,c2,c3,c4,c5].toArray)
  (h:gws P pan Qn s Ls (upd ρ t (.agg [a0,a1,a2,a3,a4,a5,c0,c1,c2,c3,c4,c5].toArray)) d L):
  gws P pan Qn (.op tk ⟨some t,none,.bld [(0,6),(6,6)] [vZ 0,vZ 0,vZ 0,Al [],.slice none 0 0,.slice none 0 0,vZ 0,vZ 0,vZ 0,Al [],.slice none 0 0,.slice none 0 0] [(0,x),(1,y)]⟩ s) Ls ρ d L:=
 BF (cs:=[a0,a1,a2,a3,a4,a5,c0,c1,c2,c3,c4,c5]) (by simp[Instr.fill,ex,ey,Value.cells,Al]) h
end
def Pp(T:Ae→Prop)(P:Program)(f:FuncId):Prop:=∀{d cs es wv}{v x:V}{ws:List (List St)},T d→Aw d cs v→RSl 1 Bm d wv ws→Aw d es x→JP v ws x→BS x≤1000000→(∀w∈ws,w.length≤100)→
 AY P f [.agg cs.toArray,wv,.agg es.toArray] d [] (Ret fun r d' L'=>Le d d'∧∃cs' h,r=.tuple #[.agg cs'.toArray,vZ (Fv v ws x).2]∧L'=[h]∧B7 cs' (Fv v ws x).1 h)
def Pn(a0 a1 a2:Nat):A0:=⟨49,[(.cell 6 (some 6)),(.tmp 7)],(sR (o1 3 (.box 0)<|o1 5 (.box 2)<|o1 6 (.alo (.agg #[(vZ 0),(vZ 0),(vZ 0),(Al []),(.slice none 0 0),(.slice none 0 0)]))<|o1 7 (.mv z0) .done) (.seq (sR (o1 15 (.ld (some 6) 3)<|o1 16 (.ld (some 6) 5)<|o1 17 (.bld [(0,6),(6,6)] [(vZ 0),(vZ 0),(vZ 0),(Al []),(.slice none 0 0),(.slice none 0 0),(vZ 0),(vZ 0),(vZ 0),(Al []),(.slice none 0 0),(.slice none 0 0)] [(0,15),(1,16)])<|o1 18 (.mv z0) .done) (.block 0 (.loop (sR (ob 19 .lss 18 z2 .done) (.seq (.cond 19 .skip (.exit 0)) (.seq (.block 1 (sR (o1 20 (.aidx (some 6) 2 6 17 18)<|o1 9 (.alo (.agg #[(vZ 0),(vZ 0),(vZ 0),(Al []),(.slice none 0 0),(.slice none 0 0)]))<|o0 (.st 6 9 20) .done) (sR (o1 21 (.ld (some 6) 9)<|oc 22 a0 [21]<|om 10 22 .done) (sR (om 23 10<|ob 24 .neq 23 z0 .done) (.cond 24 (sR (o1 25 (.bld [(0,1),(1,2),(3,1),(4,1),(5,1)] [(vZ 0),(vZ 0),(vZ 0),(Al []),(.slice none 0 0),(.slice none 0 0)] [])<|om 26 10<|o0 (.st 6 6 25)<|om 7 26 .done) .ret) .skip))))) (rG (ob 27 .add 18 z1<|om 18 27 .done)))))))) (.seq (sR (om 28 1<|oL 29 28<|o1 30 (.mv z0) .done) (.block 2 (.loop (sR (ob 31 .lss 30 29 .done) (.seq (.cond 31 .skip (.exit 2)) (.seq (.block 3 (sR (oI 32 1 28 30<|ol 33 32<|om 12 33 .done) (sR (o1 35 (.ld (some 6) 3)<|om 36 12<|o1 37 (.ld (some 6) 5)<|oc 38 a1 [35,36,37]<|om 34 38<|oe 39 34 0<|oe 40 34 1<|o1 13 (.alo (.agg #[(vZ 0),(vZ 0),(vZ 0),(Al []),(.slice none 0 0),(.slice none 0 0)]))<|o0 (.st 6 13 39)<|om 14 40 .done) (.seq (sR (om 41 14<|ob 42 .neq 41 z0 .done) (.cond 42 (sR (o1 43 (.bld [(0,1),(1,2),(3,1),(4,1),(5,1)] [(vZ 0),(vZ 0),(vZ 0),(Al []),(.slice none 0 0),(.slice none 0 0)] [])<|om 44 14<|o0 (.st 6 6 43)<|om 7 44 .done) .ret) .skip)) (rG (o1 45 (.ld (some 6) 13)<|o0 (.st 6 3 45) .done)))))) (rG (ob 46 .add 30 z1<|om 30 46 .done)))))))) (sR (o1 47 (.ld (some 6) 3)<|oc 48 a2 [47]<|o0 (.st 6 6 48)<|o1 7 (.mv z0) .done) .ret))))⟩
set_option maxHeartbeats 4000000 in
def VW{T:Ae→Prop}{P:Program}{f f1 f2 f3:FuncId}(hTm:∀{d d':Ae},Le d d'→T d→T d')(hd:dec P f=some (Pn f1 f2 f3))(h1:Ez T P f1)(h2:Rg T P f2)(h3:Fy P f3):Pp T P f:=by
 intro d cs es wv v x ws ht hv hws hx hB hcx hwb;refine Bf hd (No rfl) ?_;have hvc:=AK _ _ _ hv;have hxc:=AK _ _ _ hx;obtain⟨c0,c1,c2,c3,c4,c5,rfl⟩:=six hv.len;obtain⟨e0,e1,e2,e3,e4,e5,rfl⟩:=six hx.len;have n1:=RSl.A2 hws;obtain⟨wa,wc,rfl⟩:=RSl.val hws;have hws0:RSl 1 Bm d (.slice wa ws.length wc) ws:=hws;show gwp P _ _ _ _ _;apply Ah;apply Ax;refine Cn d [emp] Vs.emp ?_;refine AR (l:=[c0,c1,c2,c3,c4,c5]) rfl (fun b3 T3=>?_);refine AR (l:=[e0,e1,e2,e3,e4,e5]) rfl (fun b5 T5=>?_);(refine AV (fun _ _=>Ab rfl<|Aa<|Ah<|Ac<|AE 2 rfl rfl rfl<|AE 1 rfl rfl rfl<|Wr rfl rfl<|Ab rfl<|Aa<|As ?_));rename_i b6 T6;refine A6 (α:=Nat) (fun i=>[(1,.slice wa ws.length wc),(3,pZ b3),(5,pZ b5),(6,pZ b6),(17,.agg [c0,c1,c2,c3,c4,c5,e0,e1,e2,e3,e4,e5].toArray),(18,vZ i)])
  (fun i d' L'=>d'=d∧i≤2∧(1≤i→AP v=0)∧(2≤i→AP x=0)∧∃J,L'=bx b6 T6 Cm::bx b5 T5 [e0,e1,e2,e3,e4,e5]::bx b3 T3 [c0,c1,c2,c3,c4,c5]::J) (fun i=>2 - i) 0
  ⟨rfl,rfl,rfl,rfl,rfl,rfl,trivial⟩ ⟨rfl,by omega,fun h=>by omega,fun h=>by omega,_,rfl⟩ ?_
 rintro i ρ d1 L' ⟨hdd,hi,hr1,hr2,J,hL⟩;subst hdd;subst hL;by_cases hi0:i=0
 ·subst hi0;clear hr1 hr2;(refine Ac<|Av rfl rfl<|Aa<|Ah<|Au rfl (by omega)<|Ao<|Ah<|As<|Ac ?_);refine SO 0 rfl rfl rfl (by omega) (vs:=[c0,c1,c2,c3,c4,c5]) rfl ?_;(apply AV;intro _ _);rename_i b9 T9;refine AA 0 [c0,c1,c2,c3,c4,c5] rfl rfl rfl rfl (No rfl) hvc rfl ?_;(refine Aa<|Ac<|AE 0 rfl rfl rfl ?_);refine AD rfl (h1 ht hv) ?_;by_cases hr:AP v≠0
  ·rewrite [Fv,if_pos hr];(refine Ab rfl<|Aa<|Ac<|Ab rfl<|AB rfl rfl<|Aa<|Au rfl (by omega)<|Ac<|Bz<|Ab rfl ?_);refine AA 1 Cm rfl rfl rfl rfl (No rfl) rfl rfl ?_;(refine Ab rfl<|Aa<|Aq ?_);exact F9 [.agg Cm.toArray,vZ (AP v)] ⟨A4 1 rfl rfl rfl,AZ rfl,trivial⟩ (d':=d1) (L':=[_]) CS ⟨Le.refl _,_,_,rfl,rfl,B7.zero⟩
  ·refine Cn d1 (bx b6 T6 Cm::bx b5 T5 [e0,e1,e2,e3,e4,e5]::bx b3 T3 [c0,c1,c2,c3,c4,c5]::J) (Vs.drop (.cons _ (Xy _))) ?_;(refine Ab rfl<|Aa<|Ac<|Ab rfl<|AB rfl rfl<|Aa<|An rfl (by omega)<|Ao<|Ax<|AI rfl rfl (by omega) (by omega)<|Ab rfl<|Aa ?_);exact⟨1,by omega,⟨rfl,rfl,rfl,rfl,rfl,rfl,trivial⟩,rfl,by omega,fun _=>by omega,fun h=>by omega,_,rfl⟩
 by_cases hi1:i=1
 ·subst hi1;have hr:=hr1 (Xq _);clear hr1 hr2;(refine Ac<|Av rfl rfl<|Aa<|Ah<|Au rfl (by omega)<|Ao<|Ah<|As<|Ac ?_);refine SO 1 rfl rfl rfl (by omega) (vs:=[e0,e1,e2,e3,e4,e5]) rfl ?_;(apply AV;intro _ _);rename_i b9 T9;refine AA 0 [e0,e1,e2,e3,e4,e5] rfl rfl rfl rfl (No rfl) hxc rfl ?_;(refine Aa<|Ac<|AE 0 rfl rfl rfl ?_);refine AD rfl (h1 ht hx) ?_;by_cases hrx:AP x≠0
  ·rewrite [Fv,if_neg (fun q=>q hr),if_pos hrx];(refine Ab rfl<|Aa<|Ac<|Ab rfl<|AB rfl rfl<|Aa<|Au rfl (by omega)<|Ac<|Bz<|Ab rfl ?_);refine AA 1 Cm rfl rfl rfl rfl (No rfl) rfl rfl ?_;(refine Ab rfl<|Aa<|Aq ?_);exact F9 [.agg Cm.toArray,vZ (AP x)] ⟨A4 1 rfl rfl rfl,AZ rfl,trivial⟩ (d':=d1) (L':=[_]) CS ⟨Le.refl _,_,_,rfl,rfl,B7.zero⟩
  ·refine Cn d1 (bx b6 T6 Cm::bx b5 T5 [e0,e1,e2,e3,e4,e5]::bx b3 T3 [c0,c1,c2,c3,c4,c5]::J) (Vs.drop (.cons _ (Xy _))) ?_;(refine Ab rfl<|Aa<|Ac<|Ab rfl<|AB rfl rfl<|Aa<|An rfl (by omega)<|Ao<|Ax<|AI rfl rfl (by omega) (by omega)<|Ab rfl<|Aa ?_);exact⟨2,by omega,⟨rfl,rfl,rfl,rfl,rfl,rfl,trivial⟩,rfl,by omega,fun _=>hr,fun h=>by omega,_,rfl⟩
 obtain rfl:i=2:=by omega
 have hrv:=hr1 (by omega);have hrx:=hr2 (by omega);clear hr1 hr2 hi0 hi1;rewrite [Fv,if_neg (fun q=>q hrv),if_neg (fun q=>q hrx)];(refine Ac<|Av rfl rfl<|Aa<|Ah<|An rfl (by omega)<|AU<|Ah<|Ac<|Ar rfl<|Ay rfl<|Ab rfl<|Aa<|As ?_);refine A6 (α:=Nat) (fun i=>[(3,pZ b3),(5,pZ b5),(6,pZ b6),(28,.slice wa ws.length wc),(29,vZ ws.length),(30,vZ i)])
  (fun i d' L'=>Le d1 d'∧i≤ws.length∧∃v' a0 a1 a2 a3 a4 a5 J,Aw d' [a0,a1,a2,a3,a4,a5] v'∧JP v' (ws.drop i) x∧Ik v ws x=Ik v' (ws.drop i) x∧L'=bx b6 T6 Cm::bx b5 T5 [e0,e1,e2,e3,e4,e5]::bx b3 T3 [a0,a1,a2,a3,a4,a5]::J) (fun i=>ws.length - i) 0
  ⟨rfl,rfl,rfl,rfl,rfl,rfl,trivial⟩ ⟨Le.refl _,Xw _,v,c0,c1,c2,c3,c4,c5,J,hv,hB,rfl,rfl⟩ ?_
 rintro i ρ d2 L' ⟨hl2,hi,v',a0,a1,a2,a3,a4,a5,J',hv',hB',hpf,hL⟩;subst hL;have hws2:RSl 1 Bm d2 (.slice wa ws.length wc) ws:=RSl.mono (R:=Bm) CB hws0 hl2;have ht2:=hTm hl2 ht;have hx2:=hx.mono hl2;by_cases hc:i<ws.length
 ·rw[←Yg hc,Ik] at hpf;rw[←Yg hc] at hB';obtain⟨hb1,hB2⟩:=hB';(refine Ac<|Av rfl rfl<|Aa<|Ah<|Au rfl (by omega)<|Ao<|Ah<|As<|Ac ?_);refine AN (sz:=1) (R:=Bm) rfl hws2 rfl rfl hc (fun bq oq csq hcq hDq ⟨u,hu,hw⟩=>?_);subst hu;obtain⟨ua,uc,rfl⟩:=RSl.val hw;have hwl:=hwb _ (Xh hc);(refine Ai rfl (Bb (by assumption) rfl)<|Ar rfl<|Aa<|Ac<|AE 2 rfl rfl rfl<|Ar rfl<|AE 1 rfl rfl rfl ?_);refine AQ rfl (h2 ht2 hv' hw hx2 hb1 hcx hwl) (fun r d7 L7 hl7 ⟨hdd,cs',g,hr',hL,ho⟩=>?_);subst hdd;subst hL;subst hr';obtain⟨g0,g1,g2,g3,g4,g5,rfl⟩:=six ho.cells.1;refine Bt (fun d8 hl8 hg8=>?_);have hR:=ho.HE hg8;have hRc:=AK _ _ _ hR;clear hvc hxc ho;(refine A9 rfl<|AH rfl rfl<|AH rfl rfl<|AV (fun _ _=>?_));rename_i b13 T13;refine AA 0 [g0,g1,g2,g3,g4,g5] rfl rfl rfl rfl (No rfl) hRc rfl ?_;by_cases he:(C4 v' ws[i] x).2≠0
  ·rw[if_pos he] at hpf;rewrite [hpf];(refine Ab rfl<|Aa<|Ah<|Ac<|Ab rfl<|AB rfl rfl<|Aa<|Au rfl (by omega)<|Ac<|Bz<|Ab rfl ?_);refine AA 1 Cm rfl rfl rfl rfl (No rfl) rfl rfl ?_;(refine Ab rfl<|Aa<|Aq ?_);exact F9 [.agg Cm.toArray,vZ (C4 v' ws[i] x).2] ⟨A4 1 rfl rfl rfl,AZ rfl,trivial⟩ (d':=d8) (L':=[_]) CS ⟨hl2.trans hl8,_,_,rfl,rfl,B7.zero⟩
  ·rw[if_neg he] at hpf;(refine Ab rfl<|Aa<|Ah<|Ac<|Ab rfl<|AB rfl rfl<|Aa<|An rfl (by omega)<|Ao<|Ax<|AE 0 rfl rfl rfl ?_);refine Cn d8 (bx b6 T6 Cm::bx b5 T5 [e0,e1,e2,e3,e4,e5]::bx b3 T3 [a0,a1,a2,a3,a4,a5]::J') (Vs.drop (.cons _ (Xy _))) ?_;refine AA 2 [g0,g1,g2,g3,g4,g5] rfl rfl rfl rfl (No rfl) hRc rfl ?_;(refine Aa<|Ax<|AI rfl rfl (by omega) (by omega)<|Ab rfl<|Aa ?_);exact⟨i+1,by omega,⟨rfl,rfl,rfl,rfl,rfl,int_eq (by omega),trivial⟩,hl2.trans hl8,hc,_,g0,g1,g2,g3,g4,g5,J',hR,hB2,hpf,rfl⟩
 ·obtain rfl:i=ws.length:=by omega
  rw[XY] at hpf hB';rw[show Ik v' [] x=(v',0) from rfl] at hpf;rewrite [hpf];have hcn:=EM v';have hb1:=hB'.txt;(refine Ac<|Av rfl rfl<|Aa<|Ah<|An rfl (by omega)<|AU<|Ac<|AE 2 rfl rfl rfl ?_);refine AQ rfl (h3 _ hv' (by omega)) (fun r d7 L7 hl7 ⟨hdd,cs',g,hr',hL,ho⟩=>?_);subst hdd;subst hL;subst hr';obtain⟨g0,g1,g2,g3,g4,g5,rfl⟩:=six ho.cells.1;refine AA 1 [g0,g1,g2,g3,g4,g5] rfl rfl rfl rfl (No rfl) ho.cells.2 rfl ?_;(refine Ab rfl<|Aa<|Aq ?_);exact F9 [.agg [g0,g1,g2,g3,g4,g5].toArray,vZ 0] ⟨A4 1 rfl rfl rfl,AZ rfl,trivial⟩ (d':=d7) (L':=[g]) (Vs.drop ((Xm _).cons_cons _)) ⟨hl2,_,_,rfl,rfl,ho⟩
end
end Go.Gk.Val
end
section
namespace Go.Gk.Val
open Go Go.Gk Go.Gk.Utf
variable{i:Nat}{α:Type}
section
def B4(G:V→Prop)(f:List St→V):V→List (List St)→V→Prop
 |c,[],c'=>c=c'
 |c,w::ws,c'=>if (f w).list=[] then∃c1,Cg c w (f w)=(c1,0)∧G c1∧B4 G f c1 ws c' else B4 G f c ws c'
def B4.app{G:V→Prop}{f:List St→V}:∀{l m:List (List St)}{a b c:V},B4 G f a l b→B4 G f b m c→B4 G f a (l++m) c
 |[],m,a,b,c,h,k=>by
  have h:a=b:=h;subst h;exact k
 |w::l,m,a,b,c,h,k=>by
  simp only[B4,XF] at h⊢;split
  ·rename_i e;rw[if_pos e] at h;obtain⟨c1,h1,h2,h3⟩:=h;exact⟨c1,h1,h2,B4.app h3 k⟩
  ·rename_i e;rw[if_neg e] at h;exact B4.app h k
section
variable {G G':V→Prop}{f f':List St→V}{C:V→V}{s:St}
def B4.ctx(hf:∀w,f (s::w)=f' w)(hp:∀a w x a1,G' a→Cg a w x=(a1,0)→G' a1→Cg (C a) (s::w) x=(C a1,0))(hg:∀a,G' a→G (C a)):
  ∀{l:List (List St)}{a a':V},G' a→B4 G' f' a l a'→B4 G f (C a) (l.map (s:: ·)) (C a')
 |[],a,a',_,h=>congrArg C h
 |w::l,a,a',ha,h=>by
  simp only[B4,Yd,hf] at h⊢;split
  ·rename_i e;rw[if_pos e] at h;obtain⟨c1,h1,h2,h3⟩:=h;exact⟨C c1,hp _ _ _ _ ha h1 h2,hg _ h2,B4.ctx hf hp hg h2 h3⟩
  ·rename_i e;rw[if_neg e] at h;exact B4.ctx hf hp hg ha h
def B4.Wm{z c0:V}(hf:∀w,f (s::w)=f' w)(h0:∀w x a1,Cg z w x=(a1,0)→G' a1→Cg c0 (s::w) x=(C a1,0))(hp:∀a w x a1,G' a→Cg a w x=(a1,0)→G' a1→Cg (C a) (s::w) x=(C a1,0))(hg:∀a,G' a→G (C a)):
  ∀{l:List (List St)}{a':V},(∃w∈l,(f' w).list=[])→B4 G' f' z l a'→B4 G f c0 (l.map (s:: ·)) (C a')
 |[],a',⟨w,hw,_⟩,_=>absurd hw (List.not_mem_nil)
 |w::l,a',hex,h=>by
  simp only[B4,Yd,hf] at h⊢;by_cases e:(f' w).list=[]
  ·rw[if_pos e] at h⊢;obtain⟨c1,h1,h2,h3⟩:=h;exact⟨C c1,h0 _ _ _ h1 h2,hg _ h2,B4.ctx hf hp hg h2 h3⟩
  ·rw[if_neg e] at h⊢;refine B4.Wm hf h0 hp hg ?_ h;obtain⟨u,hu,he⟩:=hex;rcases Xu.1 hu with rfl|hu
   ·exact absurd he e
   ·exact⟨u,hu,he⟩
def B4.mono(hg:∀a,G' a→G a):∀{l:List (List St)}{a a':V},B4 G' f a l a'→B4 G f a l a'
 |[],_,_,h=>h
 |w::l,a,a',h=>by
  simp only[B4] at h⊢;split
  ·rename_i e;rw[if_pos e] at h;obtain⟨c1,h1,h2,h3⟩:=h;exact⟨c1,h1,hg _ h2,B4.mono hg h3⟩
  ·rename_i e;rw[if_neg e] at h;exact B4.mono hg h
def B4.same:∀{l:List (List St)}{a a':V},(∀w∈l,f w=f' w)→B4 G f a l a'→B4 G f' a l a'
 |[],_,_,_,h=>h
 |w::l,a,a',he,h=>by
  have e0:=he w (Xp ..);simp only[B4] at h⊢;rw[e0] at h;split
  ·rename_i e;rw[if_pos e] at h;obtain⟨c1,h1,h2,h3⟩:=h;exact⟨c1,h1,h2,B4.same (fun u hu=>he u (Xk _ hu)) h3⟩
  ·rename_i e;rw[if_neg e] at h;exact B4.same (fun u hu=>he u (Xk _ hu)) h
end
def MZ{ks}(h:rising ks=true)(n:Nat):rising (ks.take n)=true:=by
 rw[LP] at h⊢;exact⟨fun k hk=>h.1 k (Yp hk),h.2.sublist (List.take_sublist ..)⟩
def Tx{ks}(h:rising ks=true)(hi:i<ks.length):Bq (ks.take i) ks[i]=i∧ks[i]∉ks.take i:=by
 have hlen:(ks.take i).length=i:=by rw[Xn];omega
 constructor
 ·have h1:=HY (ks.take i) ks[i];rw[hlen] at h1;rcases YD (Bq (ks.take i) ks[i]) i with q|q
  ·exfalso;have h2:=Pd (ks:=ks.take i) (k:=ks[i]) (by omega);rw[YJ,Gx h hi q] at h2;cases h2
  ·omega
 ·intro hm;obtain⟨j,hj,e⟩:=X7 hm;rw[hlen] at hj;rw[YJ] at e;have:=Gx h hi hj;rw[e,FW] at this;cases this
def Sc{ks}(h:rising ks=true)(hi:i<ks.length):Bq (ks.take (i+1)) ks[i]=i∧ks[i]∈ks.take (i+1):=by
 have hlen:i<(ks.take (i+1)).length:=by rw[Xn];omega
 have e:(ks.take (i+1))[i]=ks[i]:=YJ;have:=J3 (MZ h (i+1)) hlen;rw[e] at this;exact⟨this,by rw[←e];exact Xh hlen⟩
def Eu(v:V)(i:Nat)(a:V):V:=.mk v.kind 0 0 [] (v.list.take i++[a]) (v.keys.take (i+1))
def Dx(v:V)(i:Nat):V:=if i=0 then V.zero else .mk v.kind 0 0 [] (v.list.take i) (v.keys.take i)
def Gm{v:V}(hm:Bc v=true)(h:v.kind=5∨v.kind=6):v.m=0∧v.e=0∧v.text=[]∧(v.kind=5→v.keys=[]):=by
 have h1:=Cv hm;simp only[BK,BL,Xg,XN,decide_eq_true_eq] at h1;obtain⟨⟨⟨⟨⟨⟨⟨⟨k,b⟩,t⟩,l⟩,q⟩,_⟩,_⟩,_⟩,_⟩:=h1;refine⟨?_,?_,?_,?_⟩
 ·rcases b with b|b
  ·omega
  ·exact b.1
 ·rcases b with b|b
  ·omega
  ·exact b.2
 ·rcases t with t|t
  ·omega
  ·exact t
 ·intro k5;rcases q with q|q
  ·omega
  ·exact q
def UU{v:V}(hm:Bc v=true)(h:0<v.list.length):Dx v v.list.length=v:=by
 have hk:=F2 hm h;obtain⟨h1,h2,h3,h4⟩:=Gm hm hk;unfold Dx;rw[if_neg (by omega),Xz];have hks:v.keys.take v.list.length=v.keys:=by
  rcases hk with k|k
  ·rw[h4 k];exact List.take_nil
  ·rw[←CT (Cv hm) k,Xz]
 rw[hks];obtain⟨k,m,e,t,l,ks⟩:=v;simp only[V.m,V.e,V.text] at h1 h2 h3;subst h1;subst h2;subst h3;rfl
def Vd{v:V}(hi:i<v.list.length):Eu v i v.list[i]=Dx v (i+1):=by
 unfold Eu Dx;rw[if_neg (by omega),Xi hi]
def FU{l:List α}(hi:i<l.length)(a:α):(l.take i++[a]).length=i+1:=by rw[Xl,Xn,XI];omega
def Pf{l:List α}(hi:i<l.length)(a z:α):(l.take i++[a]).getD i z=a:=by
 have:(l.take i).length=i:=by rw[Xn];omega
 rw[List.getD_eq_getElem?_getD,Yf (by omega),this,YT];rfl
def IU{l:List α}(hi:i<l.length)(a:α):(l.take i++[a]).take i=l.take i:=by
 have:(l.take i).length=i:=by rw[Xn];omega
 rw[List.take_append_of_le_length (by omega),XQ (by omega)]
def Is{l:List α}(hi:i<l.length)(a:α):(l.take i++[a]).drop (i+1)=[]:=Yc (by rw[FU hi];exact Xq _)
def Qv{v:V}(hm:Bc v=true)(k6:v.kind=6)(hi:i<v.list.length):stepOf v.kind v.keys i=⟨0,v.keys[i]'(by have:=CT (Cv hm) k6;omega),0,0,false,false⟩:=by
 have:=CT (Cv hm) k6;unfold stepOf;rw[if_pos k6];simp[show i<v.keys.length by omega]
def UR{v:V}(hm:Bc v=true)(hi:i<v.list.length)(hb:v.list.length≤4096){a x a1:V}{w:List St}(h:Cg a w x=(a1,0)):Cg (Eu v i a) (stepOf v.kind v.keys i::w) x=(Eu v i a1,0):=by
 have hone:=Cv hm;rcases F2 hm (by omega) with k|k
 ·have e:stepOf v.kind v.keys i=⟨1,[],i,0,false,false⟩:=by unfold stepOf;rw[if_neg (by omega)]
  obtain⟨-, -, -,hks⟩:=Gm hm (.inl k);have hi2:AW (Eu v i a) (stepOf v.kind v.keys i)=(a,0):=by
   rw[e];unfold AW Eu;simp only[V.kind,V.list,k];rw[if_neg (by omega),if_neg (by omega),if_pos (by simp)];simp only[BG,JH,FU hi];rw[if_neg (show¬(i:Int)<0 by omega),if_pos ⟨by omega,by omega⟩];simp only[XO,Pf hi]
  rw[Cg,hi2];simp only[h];rw[if_neg (by simp),if_neg (by simp),e];unfold CH Eu;simp only[V.kind,V.list,k];rw[if_neg (by omega),if_pos (by simp)];simp only[BG,FU hi];rw[if_neg (show¬(i:Int)<0 by omega),if_neg (by omega)];simp only[XO];have hp:CQ (v.list.take i++[a]) (i+1)=v.list.take i++[a]:=by unfold CQ;rw[FU hi,YT];simp
  rw[hp,IU hi,Is hi,XA,hks k,List.take_nil]
 ·have hkl:=CT hone k;have e:=Qv hm k hi;have hik:i<v.keys.length:=by omega
  obtain⟨hl,hmem⟩:=Sc (CK hone) hik;have hi2:AW (Eu v i a) (stepOf v.kind v.keys i)=(a,0):=by
   rw[e];unfold AW Eu;simp only[V.kind,V.list,V.keys,k];rw[if_neg (by omega),if_pos (by simp),if_pos hmem,hl,Pf hi]
  rw[Cg,hi2];simp only[h];rw[if_neg (by simp),if_neg (by simp),e];unfold CH Eu;simp only[V.kind,V.list,V.keys,k];rw[if_pos (by simp)];simp only[F4,V.list,V.keys,toK,if_pos hmem,hl,IU hi,Is hi,XA];have e1:(v.keys.take (i+1)).take i++[v.keys[i]]++(v.keys.take (i+1)).drop (i+1)=v.keys.take (i+1):=by
   rw[YX,Yc (by rw[Xn];omega),XA,YB (by omega),Xi hik]
  rw[e1]
def U7{v:V}(hm:Bc v=true)(hi:i<v.list.length)(hb:v.list.length≤4096){x a1:V}{w:List St}(h:Cg V.zero w x=(a1,0)):Cg (Dx v i) (stepOf v.kind v.keys i::w) x=(Eu v i a1,0):=by
 have hone:=Cv hm;rcases F2 hm (by omega) with k|k
 ·have e:stepOf v.kind v.keys i=⟨1,[],i,0,false,false⟩:=by unfold stepOf;rw[if_neg (by omega)]
  obtain⟨-, -, -,hks⟩:=Gm hm (.inl k);have hkv:(Dx v i).kind=0∨(Dx v i).kind=5:=by unfold Dx;split;exact .inl rfl;exact .inr k
  have hlv:(Dx v i).list=v.list.take i:=by
   unfold Dx;split
   ·rename_i e0;subst e0;rfl
   ·rfl
  have hln:(v.list.take i).length=i:=by rw[Xn];omega
  have hi2:AW (Dx v i) (stepOf v.kind v.keys i)=(V.zero,0):=by
   rw[e];unfold AW;rcases hkv with q|q
   ·rw[if_pos q]
   ·rw[if_neg (by omega),if_neg (by omega),if_pos ⟨rfl,q⟩];simp only[BG,JH,hlv,hln];rw[if_neg (show¬(i:Int)<0 by omega),if_neg (by omega)]
  rw[Cg,hi2];simp only[h];rw[if_neg (by simp),if_neg (by simp),e];unfold CH;rw[if_neg (by simp),if_pos ⟨rfl,hkv⟩];simp only[BG,hlv,hln];rw[if_neg (show¬(i:Int)<0 by omega),if_neg (by omega)];simp only[XO];have hp:CQ (v.list.take i) (i+1)=v.list.take i++[V.zero]:=by unfold CQ;rw[hln,show i+1 - i=1 by omega];rfl
  rw[hp,IU hi,Is hi,XA];unfold Eu;rw[hks k,List.take_nil,k]
 ·have hkl:=CT hone k;have e:=Qv hm k hi;have hik:i<v.keys.length:=by omega
  obtain⟨hl,hmem⟩:=Tx (CK hone) hik;have hkv:(Dx v i).kind=0∨(Dx v i).kind=6:=by unfold Dx;split;exact .inl rfl;exact .inr k
  have hlv:(Dx v i).list=v.list.take i:=by
   unfold Dx;split
   ·rename_i e0;subst e0;rfl
   ·rfl
  have hkk:(Dx v i).keys=v.keys.take i:=by
   unfold Dx;split
   ·rename_i e0;subst e0;rfl
   ·rfl
  have hi2:AW (Dx v i) (stepOf v.kind v.keys i)=(V.zero,0):=by
   rw[e];unfold AW;rcases hkv with q|q
   ·rw[if_pos q]
   ·rw[if_neg (by omega),if_pos ⟨rfl,q⟩,hkk,if_neg hmem]
  rw[Cg,hi2];simp only[h];rw[if_neg (by simp),if_neg (by simp),e];unfold CH;rw[if_pos ⟨rfl,hkv⟩];simp only[F4,hlv,hkk,toK,if_neg hmem,hl];rw[YX,Nat.min_self,YX,Nat.min_self,Yc (by rw[Xn];omega),Yc (by rw[Xn];omega),XA,XA,←Xi hik];unfold Eu;rw[k]
def Part(v c:V):Prop:=Bc c=true∧Bh c≤Bh v∧BD c≤BD v
def Uj{v:V}(hm:Bc v=true)(hi:i<v.list.length){a:V}(h:Part v.list[i] a):Part v (Eu v i a):=by
 obtain⟨h1,h2,h3⟩:=h;have hone:=Cv hm;have hmem:∀x∈v.list.take i++[a],Bc x=true:=fun x hx=>by
  rcases Xs.1 hx with hx|hx
  ·exact Ci hm (Yp hx)
  ·rw[XT] at hx;subst hx;exact h1
 refine⟨?_,?_,?_⟩
 ·unfold Eu;rcases F2 hm (by omega) with k|k
  ·obtain⟨-, -, -,hks⟩:=Gm hm (.inl k);rw[k,hks k,List.take_nil];exact OF hmem
  ·rw[k];refine Qb (MZ (CK hone) _) ?_ hmem;have:=CT hone k;rw[FU hi,Xn];omega
 ·have hd:∀x∈v.list,Bh x≤Bh v - 1:=by
   have h0:=Ex v;exact D5.1 (by omega)
  have h0:=Ex v;rw[show Bh v=(Bh v - 1)+1 by omega,D5];intro x hx;rcases Xs.1 (show x∈v.list.take i++[a] from hx) with hx|hx
  ·exact hd x (Yp hx)
  ·rw[XT] at hx;subst hx;exact X6 h2 (hd _ (Xh hi))
 ·have e1:=Ip hi;rw[BV v,BV (Eu v i a)];show 1+0+(v.keys.take (i+1)).length+BN (v.list.take i++[a])≤_;rw[CD,Xn];simp only[BN];omega
def Ni{v:V}(hm:Bc v=true)(hb:v.list.length≤4096)(ih:∀x∈v.list,B4 (Part x) (fun w=>(B0 x w).1) V.zero (AL x) x):
  ∀(m:List V) (i:Nat),v.list.drop i=m→B4 (Part v) (fun w=>(B0 v w).1) (Dx v i) (BZ v.kind v.keys i m) (Dx v (i+m.length))
 |[],i,_=>rfl
 |x::m,i,h=>by
  have hi:i<v.list.length:=by
   rcases YD i v.list.length with q|q
   ·exact q
   ·rw[Yc q] at h;cases h
  rw[←Yg hi] at h;obtain⟨rfl,hd⟩:=List.cons.inj h;rw[BZ];have hx:=ih _ (Xh hi);have hmx:=Ci hm (Xh hi);have hf:∀w,(fun w=>(B0 v w).1) (stepOf v.kind v.keys i::w)=(fun w=>(B0 v.list[i] w).1) w:=fun w=>by
   show(B0 v (stepOf v.kind v.keys i::w)).1=_;rw[B0,Hc hm hi];rfl
  have h1:=B4.Wm (G:=Part v) (f:=fun w=>(B0 v w).1) (f':=fun w=>(B0 v.list[i] w).1) (C:=Eu v i) (c0:=Dx v i) hf (fun w x a1 h _=>U7 hm hi hb h) (fun a w x a1 _ h _=>UR hm hi hb h) (fun a h=>Uj hm hi h) (OL hmx) hx;rw[Vd hi] at h1;have h2:=Ni hm hb ih m (i+1) hd;rw[show i+1+m.length=i+(m.length+1) by omega] at h2;exact B4.app h1 h2
def PU{v:V}:Bc v=true→BD v≤4000→B4 (Part v) (fun w=>(B0 v w).1) V.zero (AL v) v:=by
 induction v using V.ind with
 |h v ih=>
  intro hm hb
  rw[DW]
  by_cases hl:v.list=[]
  ·simp only[B4]
   rw[if_pos (show(B0 v []).1.list=[] from hl),hl]
   exact⟨v,rfl,⟨hm,Xq _,Xq _⟩,rfl⟩
  ·have hpos:0<v.list.length:=XV.2 hl
   have hlen:v.list.length≤BN v.list:=by
    have:∀l:List V,l.length≤BN l:=by
     intro l;induction l with
     |nil=>exact Xq _
     |cons x l ih=>have:=Gu x;simp only[BN,Xv];omega
    exact this _
   have htx:=BV v
   simp only[B4]
   rw[if_neg (show¬(B0 v []).1.list=[] from hl)]
   have:=Ni hm (by omega) (fun x hx=>ih x hx (Ci hm hx) (by have:=Fs hx;omega)) v.list 0 rfl
   rw[XZ,UU hm hpos] at this
   exact this
def Rr{v:V}:∀w∈AL v,w.length≤Bh v:=by
 induction v using V.ind with
 |h v ih=>
  intro w hw
  rcases E7.1 hw with rfl|⟨j,hj,u,hu,rfl⟩
  ·exact Xw _
  ·have h1:=ih _ (Xh hj) u hu
   have h2:=GU (Xh hj)
   rw[Xv];omega
def SQ{v:V}:Bc v=true→∀w∈AL v,Part v (B0 v w).1:=by
 induction v using V.ind with
 |h v ih=>
  intro hm w hw
  rcases E7.1 hw with rfl|⟨j,hj,u,hu,rfl⟩
  ·exact⟨hm,Xq _,Xq _⟩
  ·rw[B0,Hc hm hj]
   obtain⟨h1,h2,h3⟩:=ih _ (Xh hj) (Ci hm (Xh hj)) u hu
   have h4:=GU (Xh hj)
   have h5:=Fs (Xh hj)
   have h6:=BV v
   exact⟨h1,by show Bh (B0 v.list[j] u).1≤_;omega,by show BD (B0 v.list[j] u).1≤_;omega⟩
def Tn{v c c1 x:V}{w:List St}(hr:AP v=0)(hc:AP c=0)(hx:AP x=0)(hw:w.all CG=true)(h:Cg c w x=(c1,0))(h1:Part v c1):C4 c w x=(c1,0)∧AP c1=0:=by
 obtain⟨hm,hd⟩:=BU.1 hr;have hr1:AP c1=0:=BU.2 ⟨h1.1,X6 h1.2.1 hd⟩;have hwr:Cx c w=0:=by unfold Cx;rw[if_neg (fun q=>q hc),if_pos hw]
 refine⟨?_,hr1⟩
 unfold C4;rw[if_neg (by omega),if_neg (by omega),if_neg (by omega),h];simp only;rw[if_neg (by omega),if_neg (by omega)]
end
end Go.Gk.Val
end
section
namespace Go.Gk.Val
open Go Go.Gk Go.Gk.Utf
attribute [local irreducible] gwp gws
def Ti{d}{b:Nat}{T u}{w:List St}(h:RSl 6 RSt d u w):AO 1 Bm d (.slice (some ⟨b,0,none⟩) 1 1) [w] (bx b T [u]):=AO.Fx (sz:=1) rfl ⟨u,rfl,h⟩
def QZ{d u}{w:List St}(h:RSl 6 RSt d u w):u.cells= #[u]:=by obtain⟨a,c,rfl⟩:=RSl.val h;rfl
def Up{c c1 x:V}{w:List St}(hc:AP c=0)(hx:AP x=0)(h:C4 c w x=(c1,0)):Fv c [w] x=(c1,0):=by
 unfold Fv;rw[if_neg (fun q=>q hc),if_neg (fun q=>q hx),Ik,h];rfl
def FZ(a0 a1 a2 a3 a4 a5:Nat):A0:=⟨58,[(.tmp 2)],(sR (o1 1 (.box 0)<|o1 2 (.mv (.const (.bool false))) .done) (.seq (sR (oc 12 a0 []<|o1 13 (.un .not 12) .done) (.cond 13 (sR (o1 2 (.mv (.const (.bool false))) .done) .ret) .skip)) (.seq (sR (o1 14 (.ld (some 6) 1)<|oc 15 a1 [14,(kZ 300)]<|ob 16 .gtr 15 (kZ 300) .done) (.cond 16 (sR (o1 2 (.mv (.const (.bool true))) .done) .ret) .skip)) (sR (o1 18 (.ld (some 6) 1)<|oc 19 a2 [18]<|om 17 19<|oe 20 17 0<|oe 21 17 1<|om 3 20<|om 4 21 .done) (.seq (sR (om 22 4<|ob 23 .neq 22 z0 .done) (.cond 23 (sR (o1 2 (.mv (.const (.bool true))) .done) .ret) .skip)) (sR (o1 24 (.bld [(0,1),(1,2),(3,1),(4,1),(5,1)] [(vZ 0),(vZ 0),(vZ 0),(Al []),(.slice none 0 0),(.slice none 0 0)] [])<|o1 5 (.alo (.agg #[(vZ 0),(vZ 0),(vZ 0),(Al []),(.slice none 0 0),(.slice none 0 0)]))<|o0 (.st 6 5 24) .done) (.seq (sR (om 25 3<|oL 26 25<|o1 27 (.mv z0) .done) (.block 0 (.loop (sR (ob 28 .lss 27 26 .done) (.seq (.cond 28 .skip (.exit 0)) (.seq (.block 1 (sR (oI 29 1 25 27<|ol 30 29<|om 7 30 .done) (sR (o1 32 (.ld (some 6) 1)<|om 33 7<|oc 34 a3 [32,33]<|om 31 34<|oe 35 31 0<|oe 36 31 1<|o1 8 (.alo (.agg #[(vZ 0),(vZ 0),(vZ 0),(Al []),(.slice none 0 0),(.slice none 0 0)]))<|o0 (.st 6 8 35)<|om 9 36 .done) (.seq (sR (om 37 9<|ob 38 .neq 37 z0 .done) (.cond 38 (sR (o1 2 (.mv (.const (.bool false))) .done) .ret) .skip)) (.seq (sR (oj 39 4 8<|ol 40 39<|oL 41 40<|ob 42 .gtr 41 z0 .done) (.cond 42 (.exit 1) .skip)) (sR (o1 44 (.ld (some 6) 5)<|om 45 7<|o1 46 (.bsl 1 1 [(.slice none 0 0)] [(0,45)])<|o1 47 (.ld (some 6) 8)<|oc 48 a4 [44,46,47]<|om 43 48<|oe 49 43 0<|oe 50 43 1<|o1 10 (.alo (.agg #[(vZ 0),(vZ 0),(vZ 0),(Al []),(.slice none 0 0),(.slice none 0 0)]))<|o0 (.st 6 10 49)<|om 11 50 .done) (.seq (sR (om 51 11<|ob 52 .neq 51 z0 .done) (.cond 52 (sR (o1 2 (.mv (.const (.bool false))) .done) .ret) .skip)) (rG (o1 53 (.ld (some 6) 10)<|o0 (.st 6 5 53) .done))))))))) (rG (ob 54 .add 27 z1<|om 27 54 .done)))))))) (sR (o1 55 (.ld (some 6) 5)<|o1 56 (.ld (some 6) 1)<|oc 57 a5 [55,56]<|om 2 57 .done) .ret))))))))⟩
set_option maxHeartbeats 4000000 in
def Lu{T:Ae→Prop}{P f f1 f2 f3 f4 f5 f6}(hTm:∀{d d'},Le d d'→T d→T d')(hd:dec P f=some (FZ f1 f2 f3 f4 f5 f6))(h1:IN T P f1)(h2:Jz P f2)(h3:H4 T P f3)(h4:Lh T P f4)(h5:Pp T P f5)(h6:EX P f6)
  {d cs}{v:V}(ht:T d) (hv:Aw d cs v):AG P f [.agg cs.toArray] d (.bool true):=by
 obtain⟨c0,c1,c2,c3,c4,c5,rfl⟩:=six hv.len
 have hvc:=AK _ _ _ hv
 refine AG.of' hd (No rfl) ?_
 show gwp P _ _ _ _ _
 apply Ah;apply Ax
 refine AR (l:=[c0,c1,c2,c3,c4,c5]) rfl (fun b1 T1=>?_)
 (refine Ad rfl<|Aa<|Ah<|Ac ?_)
 refine AD rfl (h1 ht) ?_
 (refine Be rfl<|Aa<|AJ rfl<|Ao<|Ah<|Ac<|AE 0 rfl rfl rfl ?_)
 refine AQ rfl (h2 v (most:=300) hv (by omega)) (fun r d2 L2 _ ⟨hdd,z,hr,hz0,hz1,hz2,hL⟩=>?_)
 subst hdd;subst hL;subst hr
 by_cases hz:300<z
 ·(refine AM rfl rfl<|Aa<|Au rfl (by omega)<|Ac<|Ad rfl<|Aa<|Aq ?_)
  exact Bs rfl
 have hb:CV v≤300:=by have:=hz2 (by omega);omega
 have hbt:=KG v
 have hbc:=KR v
 (refine AM rfl rfl<|Aa<|An rfl (by omega)<|Ao<|Ac<|AE 0 rfl rfl rfl ?_)
 refine AQ rfl (h3 ht hv (by omega)) (fun r d3 L3 hl3 ⟨_,out,hr,ho⟩=>?_)
 subst hr
 obtain⟨d4,hV,hl4,hg4⟩:=Vs.J6 [bx b1 T1 [c0,c1,c2,c3,c4,c5]] L3 d3
 have hw4:=ho.ways hg4
 refine Cn d4 _ hV ?_
 have hv4:=hv.mono (hl3.trans hl4)
 have ht4:=hTm (hl3.trans hl4) ht
 clear hV ho hg4
 obtain⟨wa,wc,rfl⟩:=RSl.val hw4
 have n1:=RSl.A2 hw4
 have hw4':RSl 1 Bm d4 (.slice wa (DX v).length wc) (DX v):=hw4
 by_cases hr:AP v≠0
 ·(refine A9 rfl<|AH rfl rfl<|AH rfl rfl<|Ar rfl<|Ab rfl<|Aa<|Ah<|Ac<|Ab rfl<|AB rfl rfl<|Aa<|Au rfl (by omega)<|Ac<|Ad rfl<|Aa<|Aq ?_)
  exact Bs rfl
 have hr:AP v=0:=by omega
 have haf:DX v=AL v:=by unfold DX;rw[if_neg (fun q=>q hr)]
 rw[haf] at hw4 hw4' n1
 rewrite [haf,hr]
 clear haf hw4
 have hm:=(BU.1 hr).1
 have hruns:=PU hm (by omega)
 (refine A9 rfl<|AH rfl rfl<|AH rfl rfl<|Ar rfl<|Ab rfl<|Aa<|Ah<|Ac<|Ab rfl<|AB rfl rfl<|Aa<|An rfl (by omega)<|Ao<|Ac<|Bz<|AV (fun _ _=>?_))
 refine AA 0 Cm rfl rfl rfl rfl (No rfl) rfl rfl ?_
 rename_i b5 T5
 (refine Aa<|Ah<|Ac<|Ar rfl<|Ay rfl<|Ab rfl<|Aa<|As ?_)
 refine A6 (α:=Nat) (fun i=>[(1,pZ b1),(5,pZ b5),(25,.slice wa (AL v).length wc),(26,vZ (AL v).length),(27,vZ i)])
  (fun i d' L'=>Le d4 d'∧i≤(AL v).length∧∃c o0 o1 o2 o3 o4 o5 J,Aw d' [o0,o1,o2,o3,o4,o5] c∧AP c=0∧BD c≤4000∧B4 (Part v) (fun w=>(B0 v w).1) c ((AL v).drop i) v∧L'=bx b5 T5 [o0,o1,o2,o3,o4,o5]::bx b1 T1 [c0,c1,c2,c3,c4,c5]::J) (fun i=>(AL v).length - i) 0
  ⟨rfl,rfl,rfl,rfl,rfl,trivial⟩ ⟨Le.refl _,Xw _,V.zero,_,_,_,_,_,_,[],Aw.zero,by decide,by decide,hruns,rfl⟩ ?_
 rintro i ρ d5 L' ⟨hl5,hi,c,o0,o1,o2,o3,o4,o5,J,hc,hcr,hct,hrun,hL⟩
 subst hL
 have hw5:RSl 1 Bm d5 (.slice wa (AL v).length wc) (AL v):=RSl.mono (R:=Bm) CB hw4' hl5
 have hv5:=hv4.mono hl5
 have ht5:=hTm hl5 ht4
 clear hruns
 by_cases hlt:i<(AL v).length
 ·rw[←Yg hlt] at hrun
  have hmem:=Xh hlt
  have hget:=OM hr hmem
  have hwk:=Np hm _ hmem
  have hpt:=SQ hm _ hmem
  have hsb:=K6 hm _ hmem
  have hwd:=Rr _ hmem
  have hd48:=(BU.1 hr).2
  (refine Ac<|Av rfl rfl<|Aa<|Ah<|Au rfl (by omega)<|Ao<|Ah<|As<|Ac ?_)
  refine AN (sz:=1) (R:=Bm) rfl hw5 rfl (m:=i) rfl hlt (fun bq oq csq hcq hDq ⟨u,hu,hwi⟩=>?_)
  subst hu
  have hwi0:=hwi
  obtain⟨ua,uc,rfl⟩:=hwi0.val
  clear hwi0
  (refine Ai rfl (Bb (by assumption) rfl)<|Ar rfl<|Aa<|Ac<|AE 1 rfl rfl rfl<|Ar rfl ?_)
  have hG:=h4 ht5 hv5 hwi (by omega)
  rw[hget,hwk] at hG
  have hrun:if (B0 v (AL v)[i]).1.list=[] then∃c1,Cg c (AL v)[i] (B0 v (AL v)[i]).1=(c1,0)∧Part v c1∧B4 (Part v) (fun w=>(B0 v w).1) c1 ((AL v).drop (i+1)) v else B4 (Part v) (fun w=>(B0 v w).1) c ((AL v).drop (i+1)) v:=hrun
  generalize (B0 v (AL v)[i]).1=y at hG hpt hrun
  refine AQ rfl hG (fun r d6 L6 _ ⟨hdd,cs6,g6,hr6,hL,ho6⟩=>?_)
  subst hdd;subst hL;subst hr6
  refine Bt (fun d7 hl7 hg7=>?_)
  have hA:=ho6.HE hg7
  have hAc:=AK _ _ _ hA
  have hA0:=hA
  obtain⟨lv,kv,rfl,_,_,_,_,hyl,_⟩:=hA.open
  obtain⟨la,lc,rfl⟩:=RSl.val hyl
  have hwi7:=RSl.mono (R:=RSt) Cp hwi hl7
  have hc7:=hc.mono hl7
  have ht7:=hTm hl7 ht5
  have hcc:=AK _ _ _ hc
  clear hG hwi hw5 ho6 hget hwk
  have hyr:AP y=0:=BU.2 ⟨hpt.1,by have:=hpt.2.1;omega⟩
  have hyt:=hpt.2.2
  (refine A9 rfl<|AH rfl rfl<|AH rfl rfl<|AV (fun _ _=>?_))
  rename_i b8 T8
  refine AA 0 [vZ y.kind,vZ y.m,vZ y.e,Al y.text,.slice la y.list.length lc,kv] rfl rfl rfl rfl (No rfl) hAc rfl ?_
  by_cases hy:y.list=[]
  ·have hy0:y.list.length=0:=by rw[hy];rfl
   rw[if_pos hy] at hrun
   obtain⟨e1,hp1,hp2,hp3⟩:=hrun
   obtain⟨hq1,hq2⟩:=Tn hr hcr hyr hsb hp1 hp2
   have hone:=Up hcr hyr hq1
   have hyc:=EM y
   have het:=hp2.2.2
   have hPB:JP c [(AL v)[i]] y:=⟨by omega,by rw[hq1];show BD e1≤1000000;omega⟩
   rewrite [hy0]
   rw[hy0] at hA0 hAc
   (refine Ab rfl<|Aa<|Ah<|Ac<|Ab rfl<|AB rfl rfl<|Aa<|An rfl (by omega)<|Ao<|Ah<|Ac<|Ag rfl<|Ai rfl (Ak 0 rfl rfl)<|Ay rfl<|AM rfl rfl<|Aa<|An rfl (by omega)<|Ao<|Ac<|AE 1 rfl rfl rfl<|Ar rfl ?_)
   refine Ef (v0:=.slice ua (AL v)[i].length uc) rfl (QZ hwi7) (fun b46 T46=>?_)
   refine Bt (fun d8 hl8 hg8=>?_)
   have hrow:=(Ti hwi7).rsl (R:=Bm) CB (by omega) hl8 hg8
   have hput:=h5 (hTm hl8 ht7) (hc7.mono hl8) hrow (hA0.mono hl8) hPB (by omega) (fun w hw=>by rw[XT] at hw;subst hw;omega)
   rw[hone] at hput
   (apply AE 0;rfl;rfl;rfl)
   refine AQ rfl hput (fun r d9 L9 hl9 ⟨_,cs9,g9,hr9,hL,ho9⟩=>?_)
   subst hL;subst hr9
   obtain⟨p0,p1,p2,p3,p4,p5,rfl⟩:=six ho9.cells.1
   refine Bt (fun d10 hl10 hg10=>?_)
   have hR:=ho9.HE hg10
   have hRc:=AK _ _ _ hR
   clear hput ho9 hone hPB hrow
   (refine A9 rfl<|AH rfl rfl<|AH rfl rfl<|AV (fun _ _=>?_))
   rename_i b10 T10
   refine AA 0 [p0,p1,p2,p3,p4,p5] rfl rfl rfl rfl (No rfl) hRc rfl ?_
   (refine Ab rfl<|Aa<|Ah<|Ac<|Ab rfl<|AB rfl rfl<|Aa<|An rfl (by omega)<|Ao<|Ax<|AE 0 rfl rfl rfl ?_)
   refine Cn d10 (bx b5 T5 [o0,o1,o2,o3,o4,o5]::bx b1 T1 [c0,c1,c2,c3,c4,c5]::J) (Vs.drop (.cons _ (.cons _ (Xy _)))) ?_
   refine AA 0 [p0,p1,p2,p3,p4,p5] rfl rfl rfl rfl (No rfl) hRc rfl ?_
   (refine Aa<|Ax<|AI rfl rfl (by omega) (by omega)<|Ab rfl<|Aa ?_)
   exact⟨i+1,by omega,⟨rfl,rfl,rfl,rfl,int_eq (by omega),trivial⟩,(hl5.trans hl7).trans ((hl8.trans hl9).trans hl10),hlt,e1,p0,p1,p2,p3,p4,p5,J,hR,hq2,by omega,hp3,rfl⟩
  ·have hy0:0<y.list.length:=XV.2 hy
   rw[if_neg hy] at hrun
   refine Cn d7 (bx b5 T5 [o0,o1,o2,o3,o4,o5]::bx b1 T1 [c0,c1,c2,c3,c4,c5]::bx b8 T8 [vZ y.kind,vZ y.m,vZ y.e,Al y.text,.slice la y.list.length lc,kv]::J) (Vs.perm ((XM _ _ _).trans (XD _ (XM _ _ _)))) ?_
   (refine Ab rfl<|Aa<|Ah<|Ac<|Ab rfl<|AB rfl rfl<|Aa<|An rfl (by omega)<|Ao<|Ah<|Ac<|Ag rfl<|Ai rfl (Ak 2 rfl rfl)<|Ay rfl<|AM rfl rfl<|Aa<|Au rfl (by omega)<|AU<|Ax<|AI rfl rfl (by omega) (by omega)<|Ab rfl<|Aa ?_)
   exact⟨i+1,by omega,⟨rfl,rfl,rfl,rfl,int_eq (by omega),trivial⟩,hl5.trans hl7,hlt,c,o0,o1,o2,o3,o4,o5,_::J,hc7,hcr,hct,hrun,rfl⟩
 ·obtain rfl:i=(AL v).length:=by omega
  rw[XY] at hrun
  have hcv:c=v:=hrun
  subst hcv
  have hsm:=h6 _ _ hc hv5
  rw[(C2 c c).2 rfl] at hsm
  (refine Ac<|Av rfl rfl<|Aa<|Ah<|An rfl (by omega)<|AU<|Ac<|AE 0 rfl rfl rfl<|AE 1 rfl rfl rfl ?_)
  refine AD rfl hsm ?_
  (refine Ad rfl<|Aa<|Aq ?_)
  exact Bs rfl
end Go.Gk.Val
end
