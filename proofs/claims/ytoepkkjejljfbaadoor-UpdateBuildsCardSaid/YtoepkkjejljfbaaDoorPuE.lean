/-
  Our own texts, one behind the other: GkY4 GkY5 GkY6 GkN1 GkN2 GkN3 GkO0 GkO1 GkO2 GkO3 GkO4 GkO5 GkO6 GkO7 GkO8 GkO9 GkY9 GkQ0 GkQ1 GkQ2 GkQ3 GkQ4 GkQ5 GkYA GkOA Gk26 GkOB0 GkYC GkQN2 GkQN3 GkQN4.
-/
import Derived.Lib.ItoaMem
import Derived.Shelf.Strconv.Itoa0
import Derived.Shelf.Strconv.Itoa1
import Derived.Shelf.Strconv.Itoa2
import Derived.Lib.ItoaLen
import Derived.Test.YtoepkkjejljfbaaDoorPuD
set_option linter.defProp false
set_option linter.unusedVariables false
set_option linter.unusedSimpArgs false
open Nat renaming le_of_ble_eq_true→No,le_refl→Xq,zero_le→Xw,mul_le_mul_right→Xx,not_lt_zero→XP,add_mul→XW,zero_add→XZ,eq_of_beq_eq_true→Yt,one_mul→Yx,min_eq_left→YB,pow_succ→Y0
open List renaming append_assoc→Xf,getElem_mem→Xh,take_succ_eq_append_getElem→Xi,all_eq_true→Xj,mem_cons_of_mem→Xk,length_append→Xl,nil_sublist→Xm,length_take→Xn,eq_nil_of_length_eq_zero→Xo,mem_cons_self→Xp,take_append_drop→Xr,mem_append→Xs,mem_cons→Xu,length_cons→Xv,take_length→Xz,append_nil→XA,drop_eq_getElem_cons→XE,cons_append→XF,getElem?_take_of_lt→XH,nil_append→XL,take_of_length_le→XQ,pairwise_cons→XS,mem_singleton→XT,replicate→XU,length_drop→XX,drop_length→XY,length_nil→X0,getElem?_eq_none→X3,getElem_of_mem→X7,getElem?_map→X8,map_cons→Yd,length_map→Ye,not_mem_nil→Yk,length→Yw,length_set→YA,getElem_take→YJ,drop_append_of_le_length→YL,drop_zero→YN,take_take→YX
open Bool renaming and_eq_true→Xg,or_eq_true→XN
open List.Sublist renaming refl→Xy
open Option renaming bind_some→X5,map_some→Yh
open List.Perm renaming cons→XD,swap→XM,append_left→Yl,refl→Ym
open Int renaming lt_trichotomy→Yb,natCast_mul→Yu
section
namespace Go.Gk.Val
open Go Go.Gk Go.Gk.Utf
attribute [local irreducible] gwp gws
variable{P:Program}{f f1:FuncId}{v:V}
def GY(T:Ae→Prop)(P:Program)(f:FuncId):Prop:=∀{d w}{l:List St},T d→RSl 6 RSt d w l→l.length≤1000000→
 AY P f [w] d [] (Ret fun r d' L'=>L'=[]∧∃cs',r=.tuple #[.agg cs'.toArray,vZ (Cy l).2]∧Aw d' cs' (Cy l).1)
def Wn{l:List St}{i:Nat}(hi:i<l.length)(h:By l[i]=false):Cy l=(V.zero,2):=by
 unfold Cy Ct;rw[if_neg];intro q;rw[Xj] at q;have:=q _ (Xh hi);rw[h] at this;cases this
def US{l:List St}(h:∀i (hi:i<l.length),By l[i]=true):Cy l=(BC l,0):=by
 unfold Cy Ct;rw[if_pos];rw[Xj];intro s hs;obtain⟨i,hi,rfl⟩:=X7 hs;exact h i hi
def Mk(a0:Nat):A0:=⟨32,[(.cell 2 (some 6)),(.tmp 3)],(sR (o1 2 (.alo (.agg #[(vZ 0),(vZ 0),(vZ 0),(Al []),(.slice none 0 0),(.slice none 0 0)]))<|o1 3 (.mv z0) .done) (sR (o1 9 (.bld [(0,1),(1,2),(3,1),(4,1),(5,1)] [(vZ 0),(vZ 0),(vZ 0),(Al []),(.slice none 0 0),(.slice none 0 0)] [(0,(kZ 5))])<|o1 4 (.alo (.agg #[(vZ 0),(vZ 0),(vZ 0),(Al []),(.slice none 0 0),(.slice none 0 0)]))<|o0 (.st 6 4 9) .done) (.seq (sR (om 10 0<|oL 11 10<|o1 12 (.mv z0) .done) (.block 0 (.loop (sR (ob 13 .lss 12 11 .done) (.seq (.cond 13 .skip (.exit 0)) (.seq (.block 1 (sR (oI 14 6 10 12<|o1 15 (.ld (some 6) 14)<|o1 6 (.alo (.agg #[(vZ 0),(Al []),(vZ 0),(vZ 0),(.bool false),(.bool false)]))<|o0 (.st 6 6 15) .done) (sR (o1 17 (.ld (some 6) 6)<|oc 18 a0 [17]<|om 16 18<|oe 19 16 0<|oe 20 16 1<|o1 7 (.alo (.agg #[(vZ 0),(vZ 0),(vZ 0),(Al []),(.slice none 0 0),(.slice none 0 0)]))<|o0 (.st 6 7 19)<|om 8 20 .done) (.seq (sR (om 21 8<|o1 22 (.un .not 21) .done) (.cond 22 (sR (o1 23 (.bld [(0,1),(1,2),(3,1),(4,1),(5,1)] [(vZ 0),(vZ 0),(vZ 0),(Al []),(.slice none 0 0),(.slice none 0 0)] [])<|o0 (.st 6 2 23)<|o1 3 (.mv z2) .done) .ret) .skip)) (rG (oj 24 4 4<|ol 25 24<|o1 26 (.ld (some 6) 7)<|o1 27 (.bsl 1 6 [(vZ 0),(vZ 0),(vZ 0),(Al []),(.slice none 0 0),(.slice none 0 0)] [(0,26)])<|o1 28 (.app 6 88 [(vZ 0),(vZ 0),(vZ 0),(Al []),(.slice none 0 0),(.slice none 0 0)] 25 27)<|oj 29 4 4<|o0 (.st 1 29 28) .done)))))) (rG (ob 30 .add 12 z1<|om 12 30 .done)))))))) (sR (o1 31 (.ld (some 6) 4)<|o0 (.st 6 2 31)<|o1 3 (.mv z0) .done) .ret))))⟩
set_option maxHeartbeats 1000000 in
def R6{T:Ae→Prop}(hTm:∀{d d'},Le d d'→T d→T d')(hd:dec P f=some (Mk f1))(h1:ML T P f1):GY T P f:=by
 intro d w l ht hw hb;obtain⟨wa,wc,rfl⟩:=RSl.val hw;have hw0:RSl 6 RSt d (.slice wa l.length wc) l:=hw;refine Bf hd (No rfl) ?_;show gwp P _ _ _ _ _;apply Ah;apply Ax;refine Cn d [emp] Vs.emp ?_;(refine AV (fun _ _=>Ab rfl<|Aa<|Ac<|WQ rfl<|AV (fun _ _=>?_)));refine AA 0 [vZ 5,vZ 0,vZ 0,Al [],.slice none 0 0,.slice none 0 0] rfl rfl rfl rfl (No rfl) rfl rfl ?_;(refine Aa<|Ah<|Ac<|Ar rfl<|Ay rfl<|Ab rfl<|Aa<|As ?_);rename_i b2 T2 b4 T4;refine A6 (α:=Nat) (fun i=>[(2,pZ b2),(4,pZ b4),(10,.slice wa l.length wc),(11,vZ l.length),(12,vZ i)])
  (fun i d' L'=>Le d d'∧i≤l.length∧(∀j (hj:j<l.length),j<i→By l[j]=true)∧∃J ra rc h,AO 6 Aw d' (.slice ra i rc) ((l.map BP).take i) h∧L'=bx b4 T4 [vZ 5,vZ 0,vZ 0,Al [],.slice ra i rc,.slice none 0 0]::bx b2 T2 Cm::h::J)
  (fun i=>l.length - i) 0 ⟨rfl,rfl,rfl,rfl,rfl,trivial⟩ ⟨Le.refl _,Xw _,fun j _ h=>absurd h (XP j),[],none,0,emp,AO.nil,rfl⟩ ?_
 rintro i ρ d3 L' ⟨hl3,hi,hall,J,ra,rc,h,hrow,hL⟩;subst hL;have hw3:RSl 6 RSt d3 (.slice wa l.length wc) l:=RSl.mono (R:=RSt) Cp hw0 hl3;have ht3:=hTm hl3 ht;by_cases hc:i<l.length
 ·obtain⟨s,hse⟩:∃s,l[i]=s:=⟨_,rfl⟩
  (refine Ac<|Av rfl rfl<|Aa<|Ah<|Au rfl (by omega)<|Ao<|Ah<|As<|Ac<|AN (sz:=6) (R:=RSt) (by rfl) (by assumption) (by rfl) rfl (by omega) ?_;rintro _ _ _ _ _ ⟨rfl,_,_,_,_⟩;refine B5 rfl (by assumption) rfl<|AV (fun _ _=>?_));rename_i q1 q2 q3 q4 q5 b6 T6;have hs3:RSt d3 [vZ l[i].kind,Al l[i].text,vZ l[i].src,vZ l[i].dst,.bool l[i].hf,.bool l[i].ht] l[i]:=⟨rfl,by assumption,by assumption,by assumption,by assumption⟩
  refine AA 0 [vZ l[i].kind,Al l[i].text,vZ l[i].src,vZ l[i].dst,.bool l[i].hf,.bool l[i].ht] rfl rfl rfl rfl (No rfl) rfl rfl ?_;(refine Aa<|Ac<|AE 0 rfl rfl rfl ?_);refine AQ rfl (h1 ht3 hs3) (fun r d4 L4 hl4 ⟨hL,cs',hr,hR⟩=>?_);subst hL;subst hr;obtain⟨c0,c1,c2,c3,c4,c5,rfl⟩:=six hR.len;have hrow4:AO 6 Aw d4 (.slice ra i rc) ((l.map BP).take i) h:=AO.mono (R:=Aw) GO hrow hl4;(refine A9 rfl<|AH rfl rfl<|AH rfl rfl<|AV (fun _ _=>?_));rename_i b7 T7;refine AA 0 [c0,c1,c2,c3,c4,c5] rfl rfl rfl rfl (No rfl) (AK _ _ _ hR) rfl ?_;cases hok:By l[i] with
  |false=>
   rw[Wn hc hok]
   (refine Ad rfl<|Aa<|Ah<|Ac<|Ad rfl<|Be rfl<|Aa<|Bd rfl<|Ac<|Bz ?_)
   refine AA 3 Cm rfl rfl rfl rfl (No rfl) rfl rfl ?_
   (refine Ab rfl<|Aa<|Aq ?_)
   exact B8 (L':=[]) [.agg Cm.toArray,vZ 2] ⟨A4 3 rfl rfl rfl,AZ rfl,trivial⟩ (Xm _) ⟨rfl,_,rfl,Aw.zero⟩
  |true=>
   (refine Ad rfl<|Aa<|Ah<|Ac<|Ad rfl<|Be rfl<|Aa<|AJ rfl<|Ao<|Ax<|Ag rfl<|Ai rfl (Ak 2 rfl rfl)<|AE 0 rfl rfl rfl ?_)
   refine Ed rfl rfl (fun b27 T27=>?_)
   refine F1 (R:=Aw) 4 rfl rfl hrow4 rfl (AO.Fx hR.len hR) AK (by omega) (by simp;omega) (by simp;omega) (fun v5 h5 o5=>?_)
   have htk:(l.map BP).take i++[BP l[i]]=(l.map BP).take (i+1):=by rw[Xi (show i<(l.map BP).length by simpa using hc)];simp
   rw[htk] at o5
   obtain⟨a5,c5',rfl⟩:=o5.val
   have hlt:((l.map BP).take (i+1)).length=i+1:=by simp;omega
   rw[hlt] at o5⊢
   (apply Ag;rfl)
   refine Cn d4 (bx b4 T4 [vZ 5,vZ 0,vZ 0,Al [],.slice ra i rc,.slice none 0 0]::bx b2 T2 Cm::h5::J) (Vs.drop (.cons _ (.cons _ (Xy _)))) ?_
   refine AA 0 [vZ 5,vZ 0,vZ 0,Al [],.slice a5 (i+1) c5',.slice none 0 0] rfl rfl rfl rfl (No rfl) rfl rfl ?_
   (refine Aa<|Ax<|AI rfl rfl (by omega) (by omega)<|Ab rfl<|Aa ?_)
   refine⟨i+1,by omega,⟨rfl,rfl,rfl,rfl,int_eq (by omega),trivial⟩,hl3.trans hl4,hc,fun j hj hji=>?_,J,a5,c5',h5,o5,rfl⟩
   by_cases e:j<i
   ·exact hall j hj e
   ·obtain rfl:j=i:=by omega
    exact hok
 ·obtain rfl:i=l.length:=by omega
  rw[US (fun j hj=>hall j hj hj)];have hf:(l.map BP).take l.length=l.map BP:=XQ (by simp);(refine Ac<|Av rfl rfl<|Aa<|Ah<|An rfl (by omega)<|AU<|Ac<|AE 0 rfl rfl rfl ?_);refine AA 1 [vZ 5,vZ 0,vZ 0,Al [],.slice ra l.length rc,.slice none 0 0] rfl rfl rfl rfl (No rfl) rfl rfl ?_;(refine Ab rfl<|Aa<|Aq ?_);refine V8 [.agg [vZ 5,vZ 0,vZ 0,Al [],.slice ra l.length rc,.slice none 0 0].toArray,vZ 0] ⟨A4 1 rfl rfl rfl,AZ rfl,trivial⟩ (fun d' hld hk=>?_);refine⟨rfl,_,rfl,Aw.close (v:=BC l) EZ A3 A3 (by simp[BC,V.text]) ?_ RSl.nil⟩
  have hrs:=hrow.rsl (R:=Aw) GO (by omega) hld (hk h (by simp));rw[hf] at hrs;have hml:(l.map BP).length=l.length:=by simp
  exact hrs
section
abbrev stL(s:St):List Value:=[.int .i64 s.kind,Al s.text,.int .i64 s.src,.int .i64 s.dst,.bool s.hf,.bool s.ht]
def Hh(v:V):I64 (AS v).1:=by
 unfold AS;split
 ·exact A3
 split
 ·exact A3
 ·rename_i h1 h2;simp only[GC,decide_eq_true_eq] at h2;have:=Jm (m:=v.m) (by omega) (by omega) (i:=v.e.toNat) (by omega);exact⟨by omega,by omega⟩
def Mt(P:Program)(f:FuncId):Prop:=∀{d cs}{v:V},Aw d cs v→Bc v=true→AG P f [.agg cs.toArray] d (.tuple #[.agg (stL (BA v).1).toArray,.bool (BA v).2])
def UJ(h:v.kind=4):BA v=(⟨0,v.text,0,0,false,false⟩,true):=by unfold BA;rw[if_pos h]
def UO(h:v.kind=3):BA v=(⟨1,[],(AS v).1,0,false,false⟩,(AS v).2):=by unfold BA;rw[if_neg (by omega),if_pos h]
def Ut(h:v.kind=6)(hk:v.keys=[D6,CJ]){a b:V}(hl:v.list=[a,b]):
  BA v=(⟨2,[],if b.kind≠0 then(AS b).1 else 0,if a.kind≠0 then(AS a).1 else 0,decide (b.kind≠0),decide (a.kind≠0)⟩,(decide (a.kind=0)||(AS a).2)&&(decide (b.kind=0)||(AS b).2)):=by
 unfold BA;rw[if_neg (by omega),if_neg (by omega),if_pos h,if_pos hk,hl];rfl
def RZ(h:v.kind=6)(hk:v.keys≠[D6,CJ]):BA v=(stZ,false):=by unfold BA;rw[if_neg (by omega),if_neg (by omega),if_pos h,if_neg hk]
def Ux(h4:v.kind≠4)(h3:v.kind≠3)(h6:v.kind≠6):BA v=(stZ,false):=by unfold BA;rw[if_neg h4,if_neg h3,if_neg h6]
def Qu(h:Bc v=true)(h6:v.kind=6)(hk:v.keys=[D6,CJ]):∃a b,v.list=[a,b]:=by
 have h1:=Cv h;simp only[BK,Xg,XN,decide_eq_true_eq] at h1;have h2:v.keys.length=v.list.length:=by rcases h1.2 with q|q;exact absurd h6 q;exact q
 rw[hk] at h2;match hl:v.list with
 |[a,b]=>exact⟨a,b,rfl⟩
 |[]=>rw[hl] at h2;cases h2
 |[a]=>rw[hl] at h2;cases h2
 |a::b::c::l=>rw[hl] at h2;simp at h2
section
variable {P:Program}{pan:List PanicEntry→AT}{Qn:Env→AT}{Ls L:List Ae}{ρ:Env}{d:Ae}{s:GS}{t:Nat}{tk:Bool}
def Wv{x y}{a b:Bool}(ex:ev ρ x=.bool a)(ey:ev ρ y=.bool b)(h:gws P pan Qn s Ls (upd ρ t (.agg [vZ 2,Al [],vZ 0,vZ 0,.bool b,.bool a].toArray)) d L):
  gws P pan Qn (.op tk ⟨some t,none,.bld [(0,1),(1,1),(2,1),(3,1),(4,1),(5,1)] [vZ 0,Al [],vZ 0,vZ 0,.bool false,.bool false] [(0,.const (vZ 2)),(5,x),(4,y)]⟩ s) Ls ρ d L:=
 BF (cs:=[vZ 2,Al [],vZ 0,vZ 0,.bool b,.bool a]) (by have e0:ev ρ (.const (vZ 2))=vZ 2:=rfl;simp[Instr.fill,e0,ex,ey,Value.cells,Al]) h
end
def NH(a0 a1:Nat):A0:=⟨75,[(.cell 2 (some 6)),(.tmp 3)],(sR (o1 1 (.box 0)<|o1 2 (.alo (.agg #[(vZ 0),(Al []),(vZ 0),(vZ 0),(.bool false),(.bool false)]))<|o1 3 (.mv (.const (.bool false))) .done) (.seq (sR (oj 9 0 1<|ol 10 9 .done) (.block 0 (sR (ob 12 .eql 10 (kZ 4)<|om 11 12 .done) (.cond 11 (sR (oj 13 3 1<|ol 14 13<|o1 15 (.bld [(0,1),(1,1),(2,1),(3,1),(4,1),(5,1)] [(vZ 0),(Al []),(vZ 0),(vZ 0),(.bool false),(.bool false)] [(0,z0),(1,14)])<|o0 (.st 6 2 15)<|o1 3 (.mv (.const (.bool true))) .done) .ret) (sR (ob 17 .eql 10 (kZ 3)<|om 16 17 .done) (.cond 16 (sR (o1 19 (.ld (some 6) 1)<|oc 20 a0 [19]<|om 18 20<|oe 21 18 0<|oe 22 18 1<|om 4 21<|om 5 22 .done) (sR (om 23 4<|o1 24 (.bld [(0,1),(1,1),(2,1),(3,1),(4,1),(5,1)] [(vZ 0),(Al []),(vZ 0),(vZ 0),(.bool false),(.bool false)] [(0,z1),(2,23)])<|om 25 5<|o0 (.st 6 2 24)<|om 3 25 .done) .ret)) (sR (ob 27 .eql 10 (kZ 6)<|om 26 27 .done) (.cond 26 (.seq (sR (oj 28 5 1<|ol 29 28<|o1 30 (.bsl 2 1 [(Al [])] [(0,(.const (Al [101,110,100]))),(1,(.const (Al [115,116,97,114,116])))])<|oc 31 a1 [29,30]<|o1 32 (.un .not 31) .done) (.cond 32 (sR (o1 33 (.bld [(0,1),(1,1),(2,1),(3,1),(4,1),(5,1)] [(vZ 0),(Al []),(vZ 0),(vZ 0),(.bool false),(.bool false)] [])<|o0 (.st 6 2 33)<|o1 3 (.mv (.const (.bool false))) .done) .ret) .skip)) (.seq (.reg true (p1 34 (.fld 4 1)<|pl 35 34<|p1 36 (.idx 6 35 z0)<|p1 37 (.fld 0 36)<|pl 38 37<|p1 39 (.bin .neq 38 z0)<|p1 40 (.fld 4 1)<|pl 41 40<|p1 42 (.idx 6 41 z1)<|p1 43 (.fld 0 42)<|pl 44 43<|p1 45 (.bin .neq 44 z0)<|p1 46 (.bld [(0,1),(1,1),(2,1),(3,1),(4,1),(5,1)] [(vZ 0),(Al []),(vZ 0),(vZ 0),(.bool false),(.bool false)] [(0,z2),(5,39),(4,45)])<|o1 6 (.alo (.agg #[(vZ 0),(Al []),(vZ 0),(vZ 0),(.bool false),(.bool false)])) (.bar (o0 (.st 6 6 46) .done)))) (sR (o1 7 (.mv (.const (.bool true)))<|o1 8 (.mv (.const (.bool true))) .done) (.seq (sR (oj 47 5 6<|ol 48 47 .done) (.cond 48 (rG (oj 50 4 1<|ol 51 50<|o1 52 (.idx 6 51 z0)<|o1 53 (.ld (some 6) 52)<|oc 54 a0 [53]<|om 49 54<|oe 55 49 0<|oe 56 49 1<|oj 57 3 6<|o0 (.st 1 57 55)<|om 7 56 .done)) .skip)) (.seq (sR (oj 58 4 6<|ol 59 58 .done) (.cond 59 (rG (oj 61 4 1<|ol 62 61<|o1 63 (.idx 6 62 z1)<|o1 64 (.ld (some 6) 63)<|oc 65 a0 [64]<|om 60 65<|oe 66 60 0<|oe 67 60 1<|oj 68 2 6<|o0 (.st 1 68 66)<|om 8 67 .done)) .skip)) (sR (o1 69 (.ld (some 6) 6)<|om 70 7<|om 71 70<|gT 72 71 8<|gP 73 71 72<|o0 (.st 6 2 69)<|om 3 73 .done) .ret)))))) .skip)))))))) (sR (o1 74 (.bld [(0,1),(1,1),(2,1),(3,1),(4,1),(5,1)] [(vZ 0),(Al []),(vZ 0),(vZ 0),(.bool false),(.bool false)] [])<|o0 (.st 6 2 74)<|o1 3 (.mv (.const (.bool false))) .done) .ret)))⟩
set_option maxHeartbeats 2000000 in
def T0{P f2}(hd:dec P f=some (NH f1 f2))(h1:Kt P f1)(h2:IG P f2):Mt P f:=by
 intro d cs v hv hmay;refine AG.of' hd (No rfl) ?_;have hv0:=hv;obtain⟨lv,kv,rfl,ik,im,ie,it,hl,hks⟩:=hv.open;obtain⟨la,lc,rfl⟩:=RSl.val hl;obtain⟨ka,kc,rfl⟩:=RSl.val hks;show gwp P _ _ _ _ _;apply Ah;apply Ax;refine AR (l:=[vZ v.kind,vZ v.m,vZ v.e,Al v.text,.slice la v.list.length lc,.slice ka v.keys.length kc]) rfl (fun b1 T1=>?_);by_cases k4:v.kind=4
 ·rw[UJ k4];(refine AV (fun _ _=>Ad rfl<|Aa<|Ah<|Ac<|Ag rfl<|Ai rfl (Ak 1 rfl rfl)<|Aa<|As<|Ac<|At rfl rfl<|Ad rfl<|Aa<|Au rfl (by omega)<|Ac<|Ag rfl<|Ai rfl (Ak 1 rfl rfl)<|Pr rfl ?_));refine AA 0 [vZ 0,Al v.text,vZ 0,vZ 0,.bool false,.bool false] rfl rfl rfl rfl (No rfl) rfl rfl ?_;(refine Ad rfl<|Aa<|Aq ?_);exact B8 (L':=[]) [.agg [vZ 0,Al v.text,vZ 0,vZ 0,.bool false,.bool false].toArray,.bool true] ⟨A4 0 rfl rfl rfl,AZ rfl,trivial⟩ (Xm _) ⟨rfl,rfl⟩
 by_cases k3:v.kind=3
 ·rw[UO k3];(refine AV (fun _ _=>Ad rfl<|Aa<|Ah<|Ac<|Ag rfl<|Ai rfl (Ak 1 rfl rfl)<|Aa<|As<|Ac<|At rfl rfl<|Ad rfl<|Aa<|An rfl (by omega)<|Ac<|At rfl rfl<|Ad rfl<|Aa<|Au rfl (by omega)<|Ac<|AE 1 rfl rfl rfl ?_));refine AD rfl (h1 hv0) ?_;(refine A9 rfl<|AH rfl rfl<|AH rfl rfl<|Ab rfl<|Ad rfl<|Aa<|Ac<|Ab rfl<|Jl rfl<|Ad rfl ?_);refine AA 0 [vZ 1,Al [],vZ (AS v).1,vZ 0,.bool false,.bool false] rfl rfl rfl rfl (No rfl) rfl rfl ?_;(refine Ad rfl<|Aa<|Aq ?_);exact B8 (L':=[]) [.agg [vZ 1,Al [],vZ (AS v).1,vZ 0,.bool false,.bool false].toArray,.bool (AS v).2] ⟨A4 0 rfl rfl rfl,AZ rfl,trivial⟩ (Xm _) ⟨rfl,rfl⟩
 by_cases k6:v.kind=6
 ·by_cases hk:v.keys=[D6,CJ]
  ·obtain⟨a,b,hab⟩:=Qu hmay k6 hk;rw[Ut k6 hk hab];(refine AV (fun _ _=>Ad rfl<|Aa<|Ah<|Ac<|Ag rfl<|Ai rfl (Ak 1 rfl rfl)<|Aa<|As<|Ac<|At rfl rfl<|Ad rfl<|Aa<|An rfl (by omega)<|Ac<|At rfl rfl<|Ad rfl<|Aa<|An rfl (by omega)<|Ac<|At rfl rfl<|Ad rfl<|Aa<|Au rfl (by omega)<|Ah<|Ac<|Ag rfl<|Ai rfl (Ak 1 rfl rfl) ?_));rename_i b2 T2;refine Lq (v0:=Al D6) (v1:=Al CJ) rfl rfl rfl rfl (fun b30 T30=>?_);refine Bt (fun d2 hl2 hg2=>?_);have hEq:=h2 (B9.mono hks hl2) (Hm (ks:=[D6,CJ]) (by decide) (by decide) hg2);rw[decide_eq_true hk] at hEq;refine AD rfl hEq ?_;have hl2':RSl 6 Aw d2 (.slice la v.list.length lc) v.list:=BY.mono hl hl2;have hlen:v.list.length=2:=by rw[hab];rfl
   have ha:v.list[0]=a:=by simp[hab]
   have hb:v.list[1]=b:=by simp[hab]
   (refine Be rfl<|Aa<|AJ rfl<|Ao<|Ah<|Bp<|Ag rfl<|Ai rfl (Ak 1 rfl rfl)<|AN (m:=0) (sz:=6) (R:=Aw) (by rfl) (by assumption) (by rfl) rfl (by omega) ?_;rintro _ _ _ _ _ _;apply Ag;rfl);rename_i q1 q2 cs1 q3 hD1 hR1;obtain⟨lv1,kv1,rfl, -⟩:=hR1.open;(refine Ai rfl (Cj (by assumption) rfl)<|AB rfl rfl<|Ag rfl<|Ai rfl (Ak 1 rfl rfl)<|AN (m:=1) (sz:=6) (R:=Aw) (by rfl) (by assumption) (by rfl) rfl (by omega) ?_;rintro _ _ _ _ _ _;apply Ag;rfl);rename_i q1 q2 cs2 q3 hD2 hR2;obtain⟨lv2,kv2,rfl, -⟩:=hR2.open;subst ha;subst hb;(refine Ai rfl (Cj (by assumption) rfl)<|AB rfl rfl<|Wv rfl rfl<|AV (fun _ _=>Cr ?_));rename_i b6 T6;refine AA 2 [vZ 2,Al [],vZ 0,vZ 0,.bool (decide (v.list[1].kind≠0)),.bool (decide (v.list[0].kind≠0))] rfl rfl rfl rfl (No rfl) rfl rfl ?_;by_cases hA:v.list[0].kind=0
   ·rw[if_neg (show¬v.list[0].kind≠0 from fun q=>q hA),show(decide (v.list[0].kind=0)||(AS v.list[0]).2)=true by simp[hA]];by_cases hB:v.list[1].kind=0
    ·rw[if_neg (show¬v.list[1].kind≠0 from fun q=>q hB),show(decide (v.list[1].kind=0)||(AS v.list[1]).2)=true by simp[hB]];(refine Aa<|Ac<|Ad rfl<|Ad rfl<|Aa<|Ah<|Ac<|Ag rfl<|Ai rfl (Ak 2 rfl rfl)<|Aa<|An rfl (by omega)<|Ao<|Ah<|Ac<|Ag rfl<|Ai rfl (Ak 2 rfl rfl)<|Aa<|An rfl (by omega)<|Ao<|Ac<|AE 2 rfl rfl rfl<|Ad rfl<|Ad rfl<|Af rfl<|Ad rfl<|Ap rfl rfl ?_);refine AA 0 [vZ 2,Al [],vZ 0,vZ 0,.bool (decide (v.list[1].kind≠0)),.bool (decide (v.list[0].kind≠0))] rfl rfl rfl rfl (No rfl) rfl rfl ?_;(refine Ad rfl<|Aa<|Aq ?_);exact B8 (L':=[]) [.agg [vZ 2,Al [],vZ 0,vZ 0,.bool (decide (v.list[1].kind≠0)),.bool (decide (v.list[0].kind≠0))].toArray,.bool true] ⟨A4 0 rfl rfl rfl,AZ rfl,trivial⟩ (Xm _) ⟨rfl,rfl⟩
    ·rw[if_pos (show v.list[1].kind≠0 from hB),show(decide (v.list[1].kind=0)||(AS v.list[1]).2)=(AS v.list[1]).2 by simp[hB]];(refine Aa<|Ac<|Ad rfl<|Ad rfl<|Aa<|Ah<|Ac<|Ag rfl<|Ai rfl (Ak 2 rfl rfl)<|Aa<|An rfl (by omega)<|Ao<|Ah<|Ac<|Ag rfl<|Ai rfl (Ak 2 rfl rfl)<|Aa<|Au rfl (by omega)<|Ax<|Ag rfl<|Ai rfl (Ak 1 rfl rfl)<|AN (m:=1) (sz:=6) (R:=Aw) (by rfl) (by assumption) (by rfl) rfl (by omega) ?_;rintro _ _ _ _ _ _;apply B5;rfl;assumption;assumption);refine AD rfl (h1 (by assumption)) ?_;(refine A9 rfl<|AH rfl rfl<|AH rfl rfl<|Ag rfl ?_);refine AA 2 [vZ 2,Al [],vZ (AS v.list[1]).1,vZ 0,.bool (decide (v.list[1].kind≠0)),.bool (decide (v.list[0].kind≠0))] rfl rfl rfl rfl (No rfl) rfl rfl ?_;(refine Ad rfl<|Aa<|Ac<|AE 2 rfl rfl rfl<|Ad rfl<|Ad rfl<|Af rfl<|Ad rfl<|Ap rfl rfl ?_);refine AA 0 [vZ 2,Al [],vZ (AS v.list[1]).1,vZ 0,.bool (decide (v.list[1].kind≠0)),.bool (decide (v.list[0].kind≠0))] rfl rfl rfl rfl (No rfl) rfl rfl ?_;(refine Ad rfl<|Aa<|Aq ?_);exact B8 (L':=[]) [.agg [vZ 2,Al [],vZ (AS v.list[1]).1,vZ 0,.bool (decide (v.list[1].kind≠0)),.bool (decide (v.list[0].kind≠0))].toArray,.bool (AS v.list[1]).2] ⟨A4 0 rfl rfl rfl,AZ rfl,trivial⟩ (Xm _) ⟨rfl,rfl⟩
   ·rw[if_pos (show v.list[0].kind≠0 from hA),show(decide (v.list[0].kind=0)||(AS v.list[0]).2)=(AS v.list[0]).2 by simp[hA]];cases hq:(AS v.list[0]).2 with
    |false=>
     (refine Aa<|Ac<|Ad rfl<|Ad rfl<|Aa<|Ah<|Ac<|Ag rfl<|Ai rfl (Ak 2 rfl rfl)<|Aa<|Au rfl (by omega)<|Ax<|Ag rfl<|Ai rfl (Ak 1 rfl rfl)<|AN (m:=0) (sz:=6) (R:=Aw) (by rfl) (by assumption) (by rfl) rfl (by omega) ?_;rintro _ _ _ _ _ _;apply B5;rfl;assumption;assumption)
     have hpl:=h1 (d:=d2) (v:=v.list[0]) (by assumption)
     rw[hq] at hpl
     clear hq
     refine AD rfl hpl ?_
     clear hpl
     (refine A9 rfl<|AH rfl rfl<|AH rfl rfl<|Ag rfl ?_)
     refine AA 2 [vZ 2,Al [],vZ 0,vZ (AS v.list[0]).1,.bool (decide (v.list[1].kind≠0)),.bool (decide (v.list[0].kind≠0))] rfl rfl rfl rfl (No rfl) rfl rfl ?_
     by_cases hB:v.list[1].kind=0
     ·rw[if_neg (show¬v.list[1].kind≠0 from fun q=>q hB),show(decide (v.list[1].kind=0)||(AS v.list[1]).2)=true by simp[hB]]
      (refine Ad rfl<|Aa<|Ah<|Ac<|Ag rfl<|Ai rfl (Ak 2 rfl rfl)<|Aa<|An rfl (by omega)<|Ao<|Ac<|AE 2 rfl rfl rfl<|Ad rfl<|Ad rfl<|Aj rfl<|Am rfl rfl ?_)
      refine AA 0 [vZ 2,Al [],vZ 0,vZ (AS v.list[0]).1,.bool (decide (v.list[1].kind≠0)),.bool (decide (v.list[0].kind≠0))] rfl rfl rfl rfl (No rfl) rfl rfl ?_
      (refine Ad rfl<|Aa<|Aq ?_)
      exact B8 (L':=[]) [.agg [vZ 2,Al [],vZ 0,vZ (AS v.list[0]).1,.bool (decide (v.list[1].kind≠0)),.bool (decide (v.list[0].kind≠0))].toArray,.bool false] ⟨A4 0 rfl rfl rfl,AZ rfl,trivial⟩ (Xm _) ⟨rfl,rfl⟩
     ·rw[if_pos (show v.list[1].kind≠0 from hB),show(decide (v.list[1].kind=0)||(AS v.list[1]).2)=(AS v.list[1]).2 by simp[hB]]
      (refine Ad rfl<|Aa<|Ah<|Ac<|Ag rfl<|Ai rfl (Ak 2 rfl rfl)<|Aa<|Au rfl (by omega)<|Ax<|Ag rfl<|Ai rfl (Ak 1 rfl rfl)<|AN (m:=1) (sz:=6) (R:=Aw) (by rfl) (by assumption) (by rfl) rfl (by omega) ?_;rintro _ _ _ _ _ _;apply B5;rfl;assumption;assumption)
      refine AD rfl (h1 (by assumption)) ?_
      (refine A9 rfl<|AH rfl rfl<|AH rfl rfl<|Ag rfl ?_)
      refine AA 2 [vZ 2,Al [],vZ (AS v.list[1]).1,vZ (AS v.list[0]).1,.bool (decide (v.list[1].kind≠0)),.bool (decide (v.list[0].kind≠0))] rfl rfl rfl rfl (No rfl) rfl rfl ?_
      (refine Ad rfl<|Aa<|Ac<|AE 2 rfl rfl rfl<|Ad rfl<|Ad rfl<|Aj rfl<|Am rfl rfl ?_)
      refine AA 0 [vZ 2,Al [],vZ (AS v.list[1]).1,vZ (AS v.list[0]).1,.bool (decide (v.list[1].kind≠0)),.bool (decide (v.list[0].kind≠0))] rfl rfl rfl rfl (No rfl) rfl rfl ?_
      (refine Ad rfl<|Aa<|Aq ?_)
      exact B8 (L':=[]) [.agg [vZ 2,Al [],vZ (AS v.list[1]).1,vZ (AS v.list[0]).1,.bool (decide (v.list[1].kind≠0)),.bool (decide (v.list[0].kind≠0))].toArray,.bool false] ⟨A4 0 rfl rfl rfl,AZ rfl,trivial⟩ (Xm _) ⟨rfl,rfl⟩
    |true=>
     (refine Aa<|Ac<|Ad rfl<|Ad rfl<|Aa<|Ah<|Ac<|Ag rfl<|Ai rfl (Ak 2 rfl rfl)<|Aa<|Au rfl (by omega)<|Ax<|Ag rfl<|Ai rfl (Ak 1 rfl rfl)<|AN (m:=0) (sz:=6) (R:=Aw) (by rfl) (by assumption) (by rfl) rfl (by omega) ?_;rintro _ _ _ _ _ _;apply B5;rfl;assumption;assumption)
     have hpl:=h1 (d:=d2) (v:=v.list[0]) (by assumption)
     rw[hq] at hpl
     clear hq
     refine AD rfl hpl ?_
     clear hpl
     (refine A9 rfl<|AH rfl rfl<|AH rfl rfl<|Ag rfl ?_)
     refine AA 2 [vZ 2,Al [],vZ 0,vZ (AS v.list[0]).1,.bool (decide (v.list[1].kind≠0)),.bool (decide (v.list[0].kind≠0))] rfl rfl rfl rfl (No rfl) rfl rfl ?_
     by_cases hB:v.list[1].kind=0
     ·rw[if_neg (show¬v.list[1].kind≠0 from fun q=>q hB),show(decide (v.list[1].kind=0)||(AS v.list[1]).2)=true by simp[hB]]
      (refine Ad rfl<|Aa<|Ah<|Ac<|Ag rfl<|Ai rfl (Ak 2 rfl rfl)<|Aa<|An rfl (by omega)<|Ao<|Ac<|AE 2 rfl rfl rfl<|Ad rfl<|Ad rfl<|Af rfl<|Ad rfl<|Ap rfl rfl ?_)
      refine AA 0 [vZ 2,Al [],vZ 0,vZ (AS v.list[0]).1,.bool (decide (v.list[1].kind≠0)),.bool (decide (v.list[0].kind≠0))] rfl rfl rfl rfl (No rfl) rfl rfl ?_
      (refine Ad rfl<|Aa<|Aq ?_)
      exact B8 (L':=[]) [.agg [vZ 2,Al [],vZ 0,vZ (AS v.list[0]).1,.bool (decide (v.list[1].kind≠0)),.bool (decide (v.list[0].kind≠0))].toArray,.bool true] ⟨A4 0 rfl rfl rfl,AZ rfl,trivial⟩ (Xm _) ⟨rfl,rfl⟩
     ·rw[if_pos (show v.list[1].kind≠0 from hB),show(decide (v.list[1].kind=0)||(AS v.list[1]).2)=(AS v.list[1]).2 by simp[hB]]
      (refine Ad rfl<|Aa<|Ah<|Ac<|Ag rfl<|Ai rfl (Ak 2 rfl rfl)<|Aa<|Au rfl (by omega)<|Ax<|Ag rfl<|Ai rfl (Ak 1 rfl rfl)<|AN (m:=1) (sz:=6) (R:=Aw) (by rfl) (by assumption) (by rfl) rfl (by omega) ?_;rintro _ _ _ _ _ _;apply B5;rfl;assumption;assumption)
      refine AD rfl (h1 (by assumption)) ?_
      (refine A9 rfl<|AH rfl rfl<|AH rfl rfl<|Ag rfl ?_)
      refine AA 2 [vZ 2,Al [],vZ (AS v.list[1]).1,vZ (AS v.list[0]).1,.bool (decide (v.list[1].kind≠0)),.bool (decide (v.list[0].kind≠0))] rfl rfl rfl rfl (No rfl) rfl rfl ?_
      (refine Ad rfl<|Aa<|Ac<|AE 2 rfl rfl rfl<|Ad rfl<|Ad rfl<|Af rfl<|Ad rfl<|Ap rfl rfl ?_)
      refine AA 0 [vZ 2,Al [],vZ (AS v.list[1]).1,vZ (AS v.list[0]).1,.bool (decide (v.list[1].kind≠0)),.bool (decide (v.list[0].kind≠0))] rfl rfl rfl rfl (No rfl) rfl rfl ?_
      (refine Ad rfl<|Aa<|Aq ?_)
      exact B8 (L':=[]) [.agg [vZ 2,Al [],vZ (AS v.list[1]).1,vZ (AS v.list[0]).1,.bool (decide (v.list[1].kind≠0)),.bool (decide (v.list[0].kind≠0))].toArray,.bool (AS v.list[1]).2] ⟨A4 0 rfl rfl rfl,AZ rfl,trivial⟩ (Xm _) ⟨rfl,rfl⟩
  ·rw[RZ k6 hk];(refine AV (fun _ _=>Ad rfl<|Aa<|Ah<|Ac<|Ag rfl<|Ai rfl (Ak 1 rfl rfl)<|Aa<|As<|Ac<|At rfl rfl<|Ad rfl<|Aa<|An rfl (by omega)<|Ac<|At rfl rfl<|Ad rfl<|Aa<|An rfl (by omega)<|Ac<|At rfl rfl<|Ad rfl<|Aa<|Au rfl (by omega)<|Ah<|Ac<|Ag rfl<|Ai rfl (Ak 1 rfl rfl) ?_));refine Lq (v0:=Al D6) (v1:=Al CJ) rfl rfl rfl rfl (fun b30 T30=>?_);refine Bt (fun d2 hl2 hg2=>?_);have hEq:=h2 (B9.mono hks hl2) (Hm (ks:=[D6,CJ]) (by decide) (by decide) hg2);rw[decide_eq_false hk] at hEq;refine AD rfl hEq ?_;(refine Be rfl<|Aa<|Bd rfl<|Ac<|BF rfl ?_);refine AA 0 [vZ 0,Al [],vZ 0,vZ 0,.bool false,.bool false] rfl rfl rfl rfl (No rfl) rfl rfl ?_;(refine Ad rfl<|Aa<|Aq ?_);exact B8 (L':=[]) [.agg [vZ 0,Al [],vZ 0,vZ 0,.bool false,.bool false].toArray,.bool false] ⟨A4 0 rfl rfl rfl,AZ rfl,trivial⟩ (Xm _) ⟨rfl,rfl⟩
 ·rw[Ux k4 k3 k6];(refine AV (fun _ _=>Ad rfl<|Aa<|Ah<|Ac<|Ag rfl<|Ai rfl (Ak 1 rfl rfl)<|Aa<|As<|Ac<|At rfl rfl<|Ad rfl<|Aa<|An rfl (by omega)<|Ac<|At rfl rfl<|Ad rfl<|Aa<|An rfl (by omega)<|Ac<|At rfl rfl<|Ad rfl<|Aa<|An rfl (by omega)<|Ao<|Ac<|BF rfl ?_));refine AA 0 [vZ 0,Al [],vZ 0,vZ 0,.bool false,.bool false] rfl rfl rfl rfl (No rfl) rfl rfl ?_;(refine Ad rfl<|Aa<|Aq ?_);exact B8 (L':=[]) [.agg [vZ 0,Al [],vZ 0,vZ 0,.bool false,.bool false].toArray,.bool false] ⟨A4 0 rfl rfl rfl,AZ rfl,trivial⟩ (Xm _) ⟨rfl,rfl⟩
end
section
def NY(T:Ae→Prop)(P:Program)(f:FuncId):Prop:=∀{d cs}{v:V},T d→Aw d cs v→v.list.length≤1000000→
 AY P f [.agg cs.toArray] d [] (Ret fun r d' L'=>L'=[]∧∃w,r=.tuple #[w,vZ (Da v).2]∧RSl 6 RSt d' w (Da v).1)
def LL(h:AP v≠0):Da v=([],AP v):=by unfold Da;rw[if_pos h]
def M8(h:¬AP v≠0)(hk:v.kind≠5):Da v=([],80):=by unfold Da;rw[if_neg h,if_pos hk]
def Vy(h:¬AP v≠0)(hk:¬v.kind≠5){i:Nat}(hi:i<v.list.length)(hn:(BA v.list[i]).2=false):Da v=([],80):=by
 unfold Da;rw[if_neg h,if_neg hk,if_neg];intro q;rw[Xj] at q;have:=q _ (Xh hi);rw[hn] at this;cases this
def Kq(h:¬AP v≠0)(hk:¬v.kind≠5)(ha:∀i (hi:i<v.list.length),(BA v.list[i]).2=true):Da v=(v.list.map fun x=>(BA x).1,0):=by
 unfold Da;rw[if_neg h,if_neg hk,if_pos];rw[Xj];intro x hx;obtain⟨i,hi,rfl⟩:=X7 hx;exact ha i hi
def IQ:I64 1:=⟨by decide,by decide⟩
def NT:I64 2:=⟨by decide,by decide⟩
def TU{d cs}(hv:Aw d cs v):RSt d (stL (BA v).1) (BA v).1:=by
 obtain⟨lv,kv,_,ik,im,ie,it,_,_⟩:=hv.open;refine⟨rfl,?_⟩
 have hp:∀{b:Bool}{w:V},I64 (if b=true then(AS w).1 else 0):=by intro b w;split;exact Hh w;exact A3
 unfold BA;split
 ·exact⟨A3,it,A3,A3⟩
 split
 ·exact⟨IQ,by simp,Hh v,A3⟩
 split
 ·split
  ·refine⟨NT,by simp,?_,?_⟩
   ·simp only;split;exact Hh _;exact A3
   ·simp only;split;exact Hh _;exact A3
  ·exact⟨A3,by simp[stZ],A3,A3⟩
 ·exact⟨A3,by simp[stZ],A3,A3⟩
section
variable {P:Program}{pan:List PanicEntry→AT}{Qn:Env→AT}{Ls L:List Ae}{ρ:Env}{d:Ae}{s:GS}{t:Nat}{tk:Bool}
def G4{x a0 a1 a2 a3 a4 a5}(ex:ev ρ x=.agg [a0,a1,a2,a3,a4,a5].toArray)(h:∀b T,gws P pan Qn s Ls (upd ρ t (.slice (some ⟨b,0,none⟩) 1 1)) d (bx b T [a0,a1,a2,a3,a4,a5]::L)):
  gws P pan Qn (.op false ⟨some t,none,.bsl 1 6 [vZ 0,Al [],vZ 0,vZ 0,.bool false,.bool false] [(0,x)]⟩ s) Ls ρ d L:=by
 refine E1 (by omega) ?_ h
 simp[Instr.fill,Bu,List.range,List.range.loop,ex,Value.cells]
end
def Oa(a0 a1:Nat):A0:=⟨38,[(.tmp 2),(.tmp 3)],(sR (o1 1 (.box 0)<|o1 2 (.mv nS)<|o1 3 (.mv z0) .done) (.seq (sR (o1 10 (.ld (some 6) 1)<|oc 11 a0 [10]<|om 4 11 .done) (sR (om 12 4<|ob 13 .neq 12 z0 .done) (.cond 13 (sR (om 14 4<|o1 2 (.mv nS)<|om 3 14 .done) .ret) .skip))) (.seq (sR (oj 15 0 1<|ol 16 15<|ob 17 .neq 16 (kZ 5) .done) (.cond 17 (sR (o1 2 (.mv nS)<|o1 3 (.mv (kZ 80)) .done) .ret) .skip)) (sR (o1 5 (.mv nS) .done) (.seq (sR (oj 18 4 1<|ol 19 18<|oL 20 19<|o1 21 (.mv z0) .done) (.block 0 (.loop (sR (ob 22 .lss 21 20 .done) (.seq (.cond 22 .skip (.exit 0)) (.seq (.block 1 (sR (oI 23 6 19 21<|o1 24 (.ld (some 6) 23)<|o1 7 (.alo (.agg #[(vZ 0),(vZ 0),(vZ 0),(Al []),(.slice none 0 0),(.slice none 0 0)]))<|o0 (.st 6 7 24) .done) (sR (o1 26 (.ld (some 6) 7)<|oc 27 a1 [26]<|om 25 27<|oe 28 25 0<|oe 29 25 1<|o1 8 (.alo (.agg #[(vZ 0),(Al []),(vZ 0),(vZ 0),(.bool false),(.bool false)]))<|o0 (.st 6 8 28)<|om 9 29 .done) (.seq (sR (om 30 9<|o1 31 (.un .not 30) .done) (.cond 31 (sR (o1 2 (.mv nS)<|o1 3 (.mv (kZ 80)) .done) .ret) .skip)) (rG (om 32 5<|o1 33 (.ld (some 6) 8)<|o1 34 (.bsl 1 6 [(vZ 0),(Al []),(vZ 0),(vZ 0),(.bool false),(.bool false)] [(0,33)])<|o1 35 (.app 6 48 [(vZ 0),(Al []),(vZ 0),(vZ 0),(.bool false),(.bool false)] 32 34)<|om 5 35 .done)))))) (rG (ob 36 .add 21 z1<|om 21 36 .done)))))))) (sR (om 37 5<|om 2 37<|o1 3 (.mv z0) .done) .ret))))))⟩
set_option maxHeartbeats 2000000 in
def VP{T:Ae→Prop}{P f2}(hTm:∀{d d'},Le d d'→T d→T d')(hd:dec P f=some (Oa f1 f2))(h1:Ez T P f1)(h2:Mt P f2):NY T P f:=by
 intro d cs v ht hv hb;refine Bf hd (No rfl) ?_;have hv0:=hv;obtain⟨lv,kv,rfl,ik,im,ie,it,hl,hks⟩:=hv.open;obtain⟨la,lc,rfl⟩:=RSl.val hl;obtain⟨ka,kc,rfl⟩:=RSl.val hks;show gwp P _ _ _ _ _;apply Ah;apply Ax;refine Cn d [emp] Vs.emp ?_;refine AR (l:=[vZ v.kind,vZ v.m,vZ v.e,Al v.text,.slice la v.list.length lc,.slice ka v.keys.length kc]) rfl (fun b1 T1=>?_);(refine Ar rfl<|Ab rfl<|Aa<|Ah<|Ac<|AE 0 rfl rfl rfl ?_);refine AD rfl (h1 ht hv0) ?_;by_cases hr:AP v≠0
 ·rw[LL hr];(refine Ab rfl<|Aa<|Ac<|Ab rfl<|AB rfl rfl<|Aa<|Au rfl (by omega)<|Ac<|Ab rfl<|Ar rfl<|Ab rfl<|Aa<|Aq ?_);exact B8 (L':=[]) [.slice none 0 0,vZ (AP v)] ⟨AZ rfl,AZ rfl,trivial⟩ (Xm _) ⟨rfl,_,rfl,RSl.nil⟩
 by_cases hk:v.kind≠5
 ·rw[M8 hr hk];(refine Ab rfl<|Aa<|Ac<|Ab rfl<|AB rfl rfl<|Aa<|An rfl (by omega)<|Ao<|Ah<|Ac<|Ag rfl<|Ai rfl (Ak 0 rfl rfl)<|AB rfl rfl<|Aa<|Au rfl (by omega)<|Ac<|Ar rfl<|Ab rfl<|Aa<|Aq ?_);exact B8 (L':=[]) [.slice none 0 0,vZ 80] ⟨AZ rfl,AZ rfl,trivial⟩ (Xm _) ⟨rfl,_,rfl,RSl.nil⟩
 have hmay:Bc v=true:=(BU.1 (Decidable.not_not.1 hr)).1;have hl':RSl 6 Aw d (.slice la v.list.length lc) v.list:=hl;(refine Ab rfl<|Aa<|Ac<|Ab rfl<|AB rfl rfl<|Aa<|An rfl (by omega)<|Ao<|Ah<|Ac<|Ag rfl<|Ai rfl (Ak 0 rfl rfl)<|AB rfl rfl<|Aa<|An rfl (by omega)<|Ao<|Ac<|Ar rfl<|Aa<|Ah<|Ac<|Ag rfl<|Ai rfl (Ak 0 rfl rfl)<|Ay rfl<|Ab rfl<|Aa<|As ?_);refine A6 (α:=Nat×Option Addr×Nat) (fun x=>[(5,.slice x.2.1 x.1 x.2.2),(19,.slice la v.list.length lc),(20,vZ v.list.length),(21,vZ x.1)])
  (fun x d' L'=>Le d d'∧x.1≤v.list.length∧(∀j (hj:j<v.list.length),j<x.1→(BA v.list[j]).2=true)∧∃J h,AO 6 RSt d' (.slice x.2.1 x.1 x.2.2) ((v.list.map fun x=>(BA x).1).take x.1) h∧L'=bx b1 T1 [vZ v.kind,vZ v.m,vZ v.e,Al v.text,.slice la v.list.length lc,.slice ka v.keys.length kc]::h::J)
  (fun x=>v.list.length - x.1) (0,none,0) ⟨rfl,rfl,rfl,rfl,trivial⟩ ⟨Le.refl _,Xw _,fun j _ h=>absurd h (XP j),[],emp,AO.nil,rfl⟩ ?_
 rintro⟨i,ra,rc⟩ ρ d3 L' ⟨hl3,hi,hall,J,h,hrow,hL⟩;simp only at hi hall hrow⊢;subst hL;have hl3':RSl 6 Aw d3 (.slice la v.list.length lc) v.list:=BY.mono hl' hl3;by_cases hc:i<v.list.length
 ·(refine Ac<|Av rfl rfl<|Aa<|Ah<|Au rfl (by omega)<|Ao<|Ah<|As<|Ac<|AN (sz:=6) (R:=Aw) (by rfl) (by assumption) (by rfl) rfl (by omega) ?_;rintro _ _ _ _ _ _;refine B5 rfl (by assumption) (by assumption)<|AV (fun _ _=>?_));rename_i q1 q2 q3 q4 q5 hR b7 T7;have hRs:=TU hR;obtain⟨e0,e1,e2,e3,e4,e5,rfl⟩:=six hR.len;refine AA 0 [e0,e1,e2,e3,e4,e5] rfl rfl rfl rfl (No rfl) (AK _ _ _ hR) rfl ?_;cases hok:(BA v.list[i]).2 with
  |false=>
   rw[Vy hr hk hc hok]
   (refine Aa<|Ac<|AE 0 rfl rfl rfl ?_)
   have htl:=h2 hR (Ci hmay (Xh hc))
   rw[hok] at htl
   clear hok
   refine AD rfl htl ?_
   clear htl
   (refine A9 rfl<|AH rfl rfl<|AH rfl rfl<|AV (fun _ _=>?_))
   rename_i b8 T8
   refine AA 0 (stL (BA v.list[i]).1) rfl rfl rfl rfl (No rfl) rfl rfl ?_
   (refine Ad rfl<|Aa<|Ah<|Ac<|Ad rfl<|Be rfl<|Aa<|Bd rfl<|Ac<|Ar rfl<|Ab rfl<|Aa<|Aq ?_)
   exact B8 (L':=[]) [.slice none 0 0,vZ 80] ⟨AZ rfl,AZ rfl,trivial⟩ (Xm _) ⟨rfl,_,rfl,RSl.nil⟩
  |true=>
   have hall2:∀j (hj:j<v.list.length),j<i+1→(BA v.list[j]).2=true:=fun j hj hji=>by
    by_cases e:j<i
    ·exact hall j hj e
    ·obtain rfl:j=i:=by omega
     exact hok
   (refine Aa<|Ac<|AE 0 rfl rfl rfl ?_)
   have htl:=h2 hR (Ci hmay (Xh hc))
   rw[hok] at htl
   clear hok
   refine AD rfl htl ?_
   clear htl
   (refine A9 rfl<|AH rfl rfl<|AH rfl rfl<|AV (fun _ _=>?_))
   rename_i b8 T8
   refine AA 0 (stL (BA v.list[i]).1) rfl rfl rfl rfl (No rfl) rfl rfl ?_
   (refine Ad rfl<|Aa<|Ah<|Ac<|Ad rfl<|Be rfl<|Aa<|AJ rfl<|Ao<|Ax<|Ar rfl<|AE 0 rfl rfl rfl ?_)
   refine G4 rfl (fun b34 T34=>?_)
   refine F1 (R:=RSt) 3 rfl rfl hrow rfl (AO.Fx rfl hRs) Gz (by omega) (by simp;omega) (by simp;omega) (fun v5 h5 o5=>?_)
   have htk:(v.list.map fun x=>(BA x).1).take i++[(BA v.list[i]).1]=(v.list.map fun x=>(BA x).1).take (i+1):=by rw[Xi (show i<(v.list.map fun x=>(BA x).1).length by simpa using hc)];simp
   rw[htk] at o5
   obtain⟨a5,c5',rfl⟩:=o5.val
   have hlt:((v.list.map fun x=>(BA x).1).take (i+1)).length=i+1:=by simp;omega
   rw[hlt] at o5⊢
   refine Cn d3 (bx b1 T1 [vZ v.kind,vZ v.m,vZ v.e,Al v.text,.slice la v.list.length lc,.slice ka v.keys.length kc]::h5::J) (Vs.drop (.cons _ (.cons _ (Xy _)))) ?_
   (refine Ar rfl<|Aa<|Ax<|AI rfl rfl (by omega) (by omega)<|Ab rfl<|Aa ?_)
   exact⟨(i+1,a5,c5'),by simp only;omega,⟨rfl,rfl,rfl,int_eq (by omega),trivial⟩,hl3,hc,hall2,J,h5,o5,rfl⟩
 ·obtain rfl:i=v.list.length:=by omega
  rw[Kq hr hk (fun j hj=>hall j hj hj)];have hf:(v.list.map fun x=>(BA x).1).take v.list.length=v.list.map fun x=>(BA x).1:=XQ (by simp);(refine Ac<|Av rfl rfl<|Aa<|Ah<|An rfl (by omega)<|AU<|Ac<|Ar rfl<|Ar rfl<|Ab rfl<|Aa<|Aq ?_);refine V8 [.slice ra v.list.length rc,vZ 0] ⟨AZ rfl,AZ rfl,trivial⟩ (fun d' hld hkk=>?_);have hrs:=hrow.rsl (R:=RSt) Cp (by omega) hld (hkk h (by simp));rw[hf] at hrs;exact⟨rfl,_,rfl,hrs⟩
end
def B2(a b:Int):Int:=if a<b then -1 else if b<a then 1 else 0
def HR(P:Program)(f:FuncId):Prop:=∀{d}{a b:Int},AG P f [vZ a,vZ b] d (vZ (B2 a b))
def NA:A0:=⟨13,[(.tmp 4)],(sR (o1 4 (.mv z0) .done) (.seq (.block 0 (sR (om 6 0<|om 7 1<|ob 8 .lss 6 7<|om 5 8 .done) (.cond 5 (sR (o1 4 (.mv (kZ (-1))) .done) .ret) (sR (om 10 0<|om 11 1<|ob 12 .gtr 10 11<|om 9 12 .done) (.cond 9 (sR (o1 4 (.mv z1) .done) .ret) .skip))))) (sR (o1 4 (.mv z0) .done) .ret)))⟩
def Ky(hd:dec P f=some NA):HR P f:=by
 intro d a b;refine AG.of' hd (No rfl) ?_;show gwp P _ _ _ _ _;by_cases h:a<b
 ·rw[B2,if_pos h];(refine Ac<|Ab rfl<|Aa<|Ah<|As<|Ac<|Ab rfl<|Ab rfl<|Av rfl rfl<|Ad rfl<|Aa<|Au rfl (by omega)<|Ac<|Ab rfl<|Aa<|Aq ?_);exact Bs rfl
 by_cases h2:b<a
 ·rw[B2,if_neg h,if_pos h2];(refine Ac<|Ab rfl<|Aa<|Ah<|As<|Ac<|Ab rfl<|Ab rfl<|Av rfl rfl<|Ad rfl<|Aa<|An rfl (by omega)<|Ac<|Ab rfl<|Ab rfl<|AM rfl rfl<|Ad rfl<|Aa<|Au rfl (by omega)<|Ac<|Ab rfl<|Aa<|Aq ?_);exact Bs rfl
 ·rw[B2,if_neg h,if_neg h2];(refine Ac<|Ab rfl<|Aa<|Ah<|As<|Ac<|Ab rfl<|Ab rfl<|Av rfl rfl<|Ad rfl<|Aa<|An rfl (by omega)<|Ac<|Ab rfl<|Ab rfl<|AM rfl rfl<|Ad rfl<|Aa<|An rfl (by omega)<|Ao<|Ac<|Ab rfl<|Aa<|Aq ?_);exact Bs rfl
def PC(P:Program)(f:FuncId):Prop:=∀{d}{a:Int},AG P f [vZ a] d (.bool false)
def Ma:A0:=⟨6,[(.tmp 2)],(sR (o1 2 (.mv (.const (.bool false))) .done) (sR (om 3 0<|om 4 0<|ob 5 .neq 3 4<|om 2 5 .done) .ret))⟩
def U2(hd:dec P f=some Ma):PC P f:=by
 intro d a;refine AG.of' hd (No rfl) ?_;show gwp P _ _ _ _ _;(refine Ac<|Ad rfl<|Aa<|Ac<|Ab rfl<|Ab rfl<|AB rfl rfl<|Ad rfl<|Aa<|Aq ?_);apply A1;rfl;simp
def Ke(a0:Nat):A0:=⟨20,[(.tmp 4)],(sR (o1 4 (.mv z0) .done) (sR (om 7 0<|oc 8 a0 [7]<|om 5 8 .done) (sR (om 9 1<|oc 10 a0 [9]<|om 6 10 .done) (.seq (sR (om 11 5 .done) (.cond 11 (.seq (sR (om 12 6 .done) (.cond 12 (sR (o1 4 (.mv z0) .done) .ret) .skip)) (sR (o1 4 (.mv (kZ (-1))) .done) .ret)) .skip)) (.seq (sR (om 13 6 .done) (.cond 13 (sR (o1 4 (.mv z1) .done) .ret) .skip)) (.seq (sR (om 14 0<|om 15 1<|ob 16 .lss 14 15 .done) (.cond 16 (sR (o1 4 (.mv (kZ (-1))) .done) .ret) .skip)) (.seq (sR (om 17 0<|om 18 1<|ob 19 .gtr 17 18 .done) (.cond 19 (sR (o1 4 (.mv z1) .done) .ret) .skip)) (sR (o1 4 (.mv z0) .done) .ret))))))))⟩
def Sn(hd:dec P f=some (Ke f1))(h1:PC P f1):HR P f:=by
 intro d a b;refine AG.of' hd (No rfl) ?_;show gwp P _ _ _ _ _;(refine Ac<|Ab rfl<|Aa<|Ac<|Ab rfl ?_);refine AD rfl h1 ?_;(refine Ad rfl<|Aa<|Ac<|Ab rfl ?_);refine AD rfl h1 ?_;by_cases h:a<b
 ·rw[B2,if_pos h];(refine Ad rfl<|Aa<|Ah<|Ac<|Ad rfl<|Aa<|AJ rfl<|Ao<|Ah<|Ac<|Ad rfl<|Aa<|AJ rfl<|Ao<|Ah<|Ac<|Ab rfl<|Ab rfl<|Av rfl rfl<|Aa<|Au rfl (by omega)<|Ac<|Ab rfl<|Aa<|Aq ?_);exact Bs rfl
 by_cases h2:b<a
 ·rw[B2,if_neg h,if_pos h2];(refine Ad rfl<|Aa<|Ah<|Ac<|Ad rfl<|Aa<|AJ rfl<|Ao<|Ah<|Ac<|Ad rfl<|Aa<|AJ rfl<|Ao<|Ah<|Ac<|Ab rfl<|Ab rfl<|Av rfl rfl<|Aa<|An rfl (by omega)<|Ao<|Ah<|Ac<|Ab rfl<|Ab rfl<|AM rfl rfl<|Aa<|Au rfl (by omega)<|Ac<|Ab rfl<|Aa<|Aq ?_);exact Bs rfl
 ·rw[B2,if_neg h,if_neg h2];(refine Ad rfl<|Aa<|Ah<|Ac<|Ad rfl<|Aa<|AJ rfl<|Ao<|Ah<|Ac<|Ad rfl<|Aa<|AJ rfl<|Ao<|Ah<|Ac<|Ab rfl<|Ab rfl<|Av rfl rfl<|Aa<|An rfl (by omega)<|Ao<|Ah<|Ac<|Ab rfl<|Ab rfl<|AM rfl rfl<|Aa<|An rfl (by omega)<|Ao<|Ac<|Ab rfl<|Aa<|Aq ?_);exact Bs rfl
def FR(P:Program)(f:FuncId):Prop:=∀{d a b},AG P f [Al a,Al b] d (vZ (Lib.compareBytes a b))
def E6:A0:=⟨8,[(.tmp 4)],(sR (o1 4 (.mv z0) .done) (sR (om 5 0<|om 6 1<|o1 7 (.bcmp 5 6)<|om 4 7 .done) .ret))⟩
def Va(hd:dec P f=some E6):FR P f:=by
 intro d a b;refine AG.of' hd (No rfl) ?_;show gwp P _ _ _ _ _;(refine Ac<|Ab rfl<|Aa<|Ac<|Bj rfl<|Bj rfl ?_);refine U6 rfl rfl ?_;(refine Ab rfl<|Aa<|Aq ?_);exact Bs rfl
def Kb(a0:Nat):A0:=⟨8,[(.tmp 4)],(sR (o1 4 (.mv z0) .done) (sR (om 5 0<|om 6 1<|oc 7 a0 [5,6]<|om 4 7 .done) .ret))⟩
def U0(hd:dec P f=some (Kb f1))(h1:FR P f1):FR P f:=by
 intro d a b;refine AG.of' hd (No rfl) ?_;show gwp P _ _ _ _ _;(refine Ac<|Ab rfl<|Aa<|Ac<|Bj rfl<|Bj rfl ?_);refine AD rfl h1 ?_;(refine Ab rfl<|Aa<|Aq ?_);exact Bs rfl
def sgn(m:Int):Int:=if m<0 then -1 else if 0<m then 1 else 0
def O2(P:Program)(f:FuncId):Prop:=∀{d}{m e:Int},AG P f [.agg [vZ m,vZ e].toArray] d (vZ (sgn m))
def QW:A0:=⟨11,[(.tmp 2)],(sR (o1 1 (.box 0)<|o1 2 (.mv z0) .done) (.seq (.block 0 (sR (oj 4 0 1<|ol 5 4<|ob 6 .lss 5 z0<|om 3 6 .done) (.cond 3 (sR (o1 2 (.mv (kZ (-1))) .done) .ret) (sR (oj 8 0 1<|ol 9 8<|ob 10 .gtr 9 z0<|om 7 10 .done) (.cond 7 (sR (o1 2 (.mv z1) .done) .ret) .skip))))) (sR (o1 2 (.mv z0) .done) .ret)))⟩
def Vk(hd:dec P f=some QW):O2 P f:=by
 intro d m e;refine AG.of' hd (No rfl) ?_;show gwp P _ _ _ _ _;by_cases h:m<0
 ·rw[sgn,if_pos h];(refine Ac<|AR rfl (fun _ _=>Ab rfl<|Aa<|Ah<|As<|Ac<|Ag rfl<|Ai rfl (Ak 0 rfl rfl)<|Av rfl rfl<|Ad rfl<|Aa<|Au rfl (by omega)<|Ac<|Ab rfl<|Aa<|Aq ?_));exact Bs rfl
 by_cases h2:0<m
 ·rw[sgn,if_neg h,if_pos h2];(refine Ac<|AR rfl (fun _ _=>Ab rfl<|Aa<|Ah<|As<|Ac<|Ag rfl<|Ai rfl (Ak 0 rfl rfl)<|Av rfl rfl<|Ad rfl<|Aa<|An rfl (by omega)<|Ac<|Ag rfl<|Ai rfl (Ak 0 rfl rfl)<|AM rfl rfl<|Ad rfl<|Aa<|Au rfl (by omega)<|Ac<|Ab rfl<|Aa<|Aq ?_));exact Bs rfl
 ·rw[sgn,if_neg h,if_neg h2];(refine Ac<|AR rfl (fun _ _=>Ab rfl<|Aa<|Ah<|As<|Ac<|Ag rfl<|Ai rfl (Ak 0 rfl rfl)<|Av rfl rfl<|Ad rfl<|Aa<|An rfl (by omega)<|Ac<|Ag rfl<|Ai rfl (Ak 0 rfl rfl)<|AM rfl rfl<|Ad rfl<|Aa<|An rfl (by omega)<|Ao<|Ac<|Ab rfl<|Aa<|Aq ?_));exact Bs rfl
end Go.Gk.Val
end
section
namespace Go.Gk.Val
open Go Go.Gk Go.Gk.Utf Go.Proofs Go.RowKit Go.Shelf
attribute [local irreducible] gwp gws
variable{P:Program}{ρ:Ren}
def JK{f args d v}(hc:DM P f)(h:∀W,Calls P f args.toArray W fun e W'=>e=.returned v∧W'=W):AG P f args d v:=
 ⟨hc,fun F W x=>(h W).mono fun e W' ⟨he,hw⟩=>⟨d,[],by subst hw;exact x,Le.refl d,by subst hw;exact BO.refl _,by subst he;exact⟨rfl,rfl,rfl⟩⟩⟩
def Mc(P:Program)(f:FuncId):Prop:=∀{d}{u:Nat},u<18446744073709551616→AG P f [.int .u64 u] d (vZ (Lib.bitLen u:Nat))
def Tw(L:Lays.n129 P ρ)(hc:DM P (ρ.f 129)):Mc P (ρ.f 129):=fun{d u} hu=>
 JK hc fun W=>Any.bits_Len64 L u W (by omega) (by omega)
def MN(P:Program)(f:FuncId):Prop:=∀{d}{x:Nat},x≤64→AG P f [vZ x] d (vZ (Lib.l10 x:Nat))
def Tz(L:Lays.n317 P ρ)(hc:DM P (ρ.f 317)):MN P (ρ.f 317):=fun{d x} hx=>
 JK hc fun W=>Any.internal_strconv_log10Pow2 L x hx W
def Mh(P:Program)(f:FuncId):Prop:=∀{d}{i:Nat},i<100→AG P f [vZ i] d (Al (Lib.decDigits i))
def Us(L:Lays.n283 P ρ)(hc:DM P (ρ.f 283)):Mh P (ρ.f 283):=fun{d i} hi=>
 JK hc fun W=>Any.internal_strconv_small L i hi W
def QJ(P:Program)(f:FuncId):Prop:=∀{d}{b:Nat}{T l}{c u:Nat},u<18446744073709551616→l.take (Lib.nDigits u)=XU (Lib.nDigits u) (.int .u8 0)→
 AY P f [.slice (some ⟨b,0,none⟩) (Lib.nDigits u) c,.int .u64 u] d [bx b T l] (Ret fun r d' L'=>d'=d∧∃l',L'=[bx b T l']∧l'.length=l.length∧l'.take (Lib.nDigits u)=(Lib.decDigits u).map Bl)
def WR{hs W}{b:Nat}{T l}{f:Array Value→Array Value}(x:Ok (bx b T l::hs) W):Ok (bx b T (f l.toArray).toList::hs) (Sort.mapBlock W b f):=by
 have hb:=x.head b _ (Co _ _);refine x.write _ ?_;show W.heap.modify b (Sort.onCells f)=W.heap.setIfInBounds b (.cells (f l.toArray).toList.toArray T (0,0));apply Array.ext_getElem?;intro i;rw[Array.getElem?_modify,Array.getElem?_setIfInBounds];obtain⟨hg,hv⟩:=Array.getElem?_eq_some_iff.1 hb;by_cases e:b=i
 ·subst e;simp[hg,hv,Sort.onCells]
 ·simp[e]
def V4(L:Lays.n285 P ρ)(hc:DM P (ρ.f 285)):QJ P (ρ.f 285):=by
 intro d b T l c u hu hz;generalize hn:Lib.nDigits u=n at*;have hnl:n≤l.length:=by
  have:=congrArg Yw hz;rw[Xn,List.length_replicate] at this;omega
 have h20:=Lib.nDigits_le20 u hu;have hlt:=Lib.lt_pow_nDigits u;refine⟨hc,fun F W hOk=>?_⟩
 have y:Ok (bx b T l::d::F) W:=hOk.perm (XM _ _ _);have hb:=y.head b _ (Co _ _);have hH:Sort.Holds (fun(b:UInt8)=>Value.int .u8 (b.toNat:Int)) W b 0 (Array.replicate n (0:UInt8)):=fun j hj=>by
  have hj':j<n:=by simpa using hj
  refine⟨?_,by simp[World.frozen?,hb]⟩
  have:=congrArg (·[j]?) hz;simp only[List.getElem?_replicate,hj',if_true] at this;rw[XH hj'] at this;simp only[World.cell?,hb,XZ];rw[getElem!_pos _ j hj];simpa using this
 have hk:=Any.internal_strconv_formatBase10 L b 0 c u (Array.replicate n (0:UInt8)) W hH (by rw[Array.size_replicate,←hn];exact hlt) hu (by rw[Array.size_replicate];omega);rw[Array.size_replicate] at hk;refine hk.mono ?_;rintro e W' ⟨rfl,m,v',dk,rfl,hinv⟩;have hdk:dk.size=n:=hinv.size;refine⟨d,[bx b T (Sort.putCells (fun(b:UInt8)=>Value.int .u8 (b.toNat:Int)) 0 dk l.toArray).toList],?_,Le.refl d,⟨rfl,rfl,rfl,?_⟩,rfl,_,rfl,by simp[Sort.putCells],?_⟩
 ·have z:=(WR (f:=Sort.putCells (fun(b:UInt8)=>Value.int .u8 (b.toNat:Int)) 0 dk) y)
  exact(z.perm (XM _ _ _)).same rfl
 ·show W.heap.size≤(W.heap.modify b _).size;simp
 ·have hdl:=Lib.decDigits_length u;apply List.ext_getElem?;intro j;by_cases hj:j<n
  ·have hjd:j<(Lib.decDigits u).length:=by rw[hdl,hn];exact hj
   have hrow:=Lib.row_is_numeral (u:=u) (v':=v') (dk:=dk) (by rw[hn];exact hinv) j hjd;have hjl:j<l.length:=by omega
   rw[XH hj,X8,List.getElem?_eq_getElem hjd,hrow];simp[Sort.putCells,hjl,hdk,hj,Bl]
  ·rw[X3 (by rw[Xn];omega),X3 (by rw[Ye,hdl];omega)]
def MD(P:Program)(f:FuncId):Prop:=∀{d}{b:Bool},AG P f [.bool b] d (vZ (if b then 1 else 0))
def FB:A0:=⟨4,[(.tmp 2)],(sR (o1 2 (.mv z0) .done) (.seq (sR (om 3 0 .done) (.cond 3 (sR (o1 2 (.mv z1) .done) .ret) .skip)) (sR (o1 2 (.mv z0) .done) .ret)))⟩
def S7{f}(hd:dec P f=some FB):MD P f:=by
 intro d b;refine AG.of' hd (No rfl) ?_;show gwp P _ _ _ _ _;cases b with
 |true=>
  (refine Ac<|Ab rfl<|Aa<|Ah<|Ac<|Ad rfl<|Aa<|Bd rfl<|Ac<|Ab rfl<|Aa<|Aq ?_)
  exact Bs rfl
 |false=>
  (refine Ac<|Ab rfl<|Aa<|Ah<|Ac<|Ad rfl<|Aa<|AJ rfl<|Ao<|Ac<|Ab rfl<|Aa<|Aq ?_)
  exact Bs rfl
def On(T:Ae→Prop)(P:Program)(f:FuncId):Prop:=∀{d}{u:Nat},T d→1≤u→u<18446744073709551616→AG P f [.int .u64 u] d (vZ (Lib.nDigits u:Nat))
def Fz(a0 a1 a2 a3:Nat):A0:=⟨15,[(.tmp 2)],(sR (o1 2 (.mv z0) .done) (sR (om 4 0<|oc 5 a0 [4]<|oc 6 a1 [5]<|om 3 6 .done) (sR (om 7 3<|om 8 0<|om 9 3<|o1 10 (.idxa 20 1 (.global a2) 9)<|ol 11 10<|ob 12 .geq 8 11<|oc 13 a3 [12]<|ob 14 .add 7 13<|om 2 14 .done) .ret)))⟩
def Vh{T:Ae→Prop}{f f1 f2 g3 f4}(hT:∀d,T d→DCs d g3 0 Hj)(hd:dec P f=some (Fz f1 f2 g3 f4))(h1:Mc P f1)(h2:MN P f2)(h4:MD P f4):On T P f:=by
 intro d u ht hu1 hu2;obtain⟨he,hl⟩:=Lib.numDigits_eq u hu1 hu2;have hb:Lib.bitLen u≤64:=Lib.bitLen_le u 64 (Xq _) hu2;have htab:DC d g3 (Lib.l10 (Lib.bitLen u)) (.int .u64 ((10 ^ Lib.l10 (Lib.bitLen u):Nat):Int)):=by
  have:=(hT d ht).at (i:=Lib.l10 (Lib.bitLen u)) (by simp[Hj,show Lib.l10 (Lib.bitLen u)<20 by omega];rfl);rwa [XZ] at this
 refine AG.of' hd (No rfl) ?_;show gwp P _ _ _ _ _;(refine Ac<|Ab rfl<|Aa<|Ac<|Ab rfl ?_);refine AD rfl (h1 hu2) ?_;refine AD rfl (h2 hb) ?_;generalize hlg:Lib.l10 (Lib.bitLen u)=n at*;(refine Ab rfl<|Aa<|Ac<|Ab rfl<|Ab rfl<|Ab rfl ?_);refine Pc n rfl rfl rfl (by omega) ?_;refine Ai rfl (KH (by rw[Nat.mul_one,XZ];exact htab)) ?_;(apply CY;rfl;rfl);refine AD rfl h4 ?_;have hlen:(if (decide (((10 ^ n:Nat):Int)≤(u:Int))) then(1:Int) else 0)=((if 10 ^ n≤u then 1 else 0:Nat):Int):=by
  by_cases q:10 ^ n≤u
  ·have q2:((10 ^ n:Nat):Int)≤(u:Int):=by omega
   rw[if_pos q,if_pos (by simpa using q2)];rfl
  ·have q2:¬((10 ^ n:Nat):Int)≤(u:Int):=by omega
   rw[if_neg q,if_neg (by simpa using q2)];rfl
 have hnd:=Lib.nDigits_le20 u hu2;rw[hlen];clear hlen;generalize (if 10 ^ n≤u then 1 else 0:Nat)=m at*;have hm:m≤20:=by omega
 (refine AI rfl rfl (by omega) (by omega)<|Ab rfl<|Aa<|Aq ?_);apply Dt;rfl;omega
end Go.Gk.Val
end
section
namespace Go.Gk.Val
open Go Go.Gk Go.Gk.Utf
attribute [local irreducible] gwp gws
section
section
variable {P:Program}{pan:List PanicEntry→AT}{Qn:Env→AT}{Ls L:List Ae}{ρ:Env}{d:Ae}{s:GS}{t:Nat}{tk:Bool}
def Sx{len n b:Nat}{x y}(hl:0<len)(hn:n≤len)(ex:ev ρ x=pZ b)(ey:ev ρ y=vZ (n:Nat))(h:gws P pan Qn s Ls (upd ρ t (.slice (some ⟨b,0,none⟩) n len)) d L):
  gws P pan Qn (.op tk ⟨some t,none,.sla len 1 x none (some y) none⟩ s) Ls ρ d L:=by
 refine w_q rfl ⟨b,0,0,n,len,ex,?_,?_⟩ h
 ·have hb:bnd (vZ (n:Nat)) len=some n:=by
   rw[bnd,if_pos (by omega),Int.toNat_natCast]
  simp only[Yh,Option.map_none,ey]
  simp[DZ,HA,GK,Hz,hb]
 ·rw[if_neg (by omega)];simp
end
def H5(T:Ae→Prop)(P:Program)(f:FuncId):Prop:=∀{d}{u:Nat},T d→u<18446744073709551616→AG P f [.int .u64 u,vZ 10] d (Al (Lib.decDigits u))
def Fq(a0 a1 a2 a3:Nat):A0:=⟨32,[(.tmp 4)],(sR (o1 4 (.mv (.const (Al []))) .done) (.seq (sR (om 9 1<|ob 10 .eql 9 (kZ 10) .done) (.cond 10 (.seq (sR (om 11 0<|ob 12 .lss 11 (.const (.int .u64 100)) .done) (.cond 12 (sR (om 13 0<|o1 14 (.cvi .i64 13)<|oc 15 a0 [14]<|om 4 15 .done) .ret) .skip)) (sR (o1 5 (.alo (.agg #[(.int .u8 0),(.int .u8 0),(.int .u8 0),(.int .u8 0),(.int .u8 0),(.int .u8 0),(.int .u8 0),(.int .u8 0),(.int .u8 0),(.int .u8 0),(.int .u8 0),(.int .u8 0),(.int .u8 0),(.int .u8 0),(.int .u8 0),(.int .u8 0),(.int .u8 0),(.int .u8 0),(.int .u8 0),(.int .u8 0),(.int .u8 0),(.int .u8 0),(.int .u8 0),(.int .u8 0)])) .done) (sR (om 16 0<|oc 17 a1 [16]<|om 6 17 .done) (sR (om 18 6<|o1 19 (.sla 24 1 5 none (some 18) none)<|om 20 0<|oc 21 a2 [19,20] .done) (sR (om 22 6<|o1 23 (.sla 24 1 5 none (some 22) none)<|o1 24 (.b2s 23)<|om 4 24 .done) .ret))))) .skip)) (sR (om 26 0<|om 27 1<|oc 28 a3 [nS,26,27,(.const (.bool false)),(.const (.bool false))]<|om 25 28<|oe 29 25 0<|oe 30 25 1<|om 7 29<|om 8 30 .done) (sR (om 31 8<|om 4 31 .done) .ret))))⟩
def VO{T:Ae→Prop}{P f f1 f2 f3 f4}(hd:dec P f=some (Fq f1 f2 f3 f4))(h1:Mh P f1)(h2:On T P f2)(h3:QJ P f3):H5 T P f:=by
 intro d u ht hu;refine AG.of' hd (No rfl) ?_;show gwp P _ _ _ _ _;by_cases hs:(u:Int)<100
 ·(refine Ac<|Bj rfl<|Aa<|Ah<|Ac<|Ab rfl<|At rfl rfl<|Aa<|Au rfl (by omega)<|Ah<|Ac<|Ab rfl<|Av rfl rfl<|Aa<|Au rfl (by omega)<|Ac<|Ab rfl<|EI rfl (by omega) (by omega) ?_);refine AD rfl (h1 (by omega)) ?_;(refine Bj rfl<|Aa<|Aq ?_);exact Bs rfl
 have hnd:=Lib.nDigits_le20 u hu;have hdl:=Lib.decDigits_length u;(refine Ac<|Bj rfl<|Aa<|Ah<|Ac<|Ab rfl<|At rfl rfl<|Aa<|Au rfl (by omega)<|Ah<|Ac<|Ab rfl<|Av rfl rfl<|Aa<|An rfl (by omega)<|Ao<|Ac<|AV (fun _ _=>Aa<|Ac<|Ab rfl ?_));rename_i b5 T5;refine AD rfl (h2 ht (by omega) hu) ?_;(refine Ab rfl<|Aa<|Ac<|Ab rfl ?_);refine Sx (n:=Lib.nDigits u) (by omega) (by omega) rfl rfl ?_;(apply Ab;rfl);have hz:(XU 24 (Value.int .u8 0)).take (Lib.nDigits u)=XU (Lib.nDigits u) (.int .u8 0):=by rw[List.take_replicate,YB (by omega)]
 refine Cn d [bx b5 T5 (XU 24 (Value.int .u8 0))] (Vs.refl _ _) ?_;refine Vm (A:=[bx b5 T5 (XU 24 (Value.int .u8 0))]) (B:=[]) rfl rfl (h3 (d:=d) (b:=b5) (T:=T5) (c:=24) hu hz) (fun r d6 L6 _ ⟨hdd,l',hL,hll,hlt⟩=>?_);subst hdd;subst hL;(refine Aa<|Ac<|Ab rfl ?_);refine Sx (n:=Lib.nDigits u) (by omega) (by omega) rfl rfl ?_;refine Uu (b:=b5) (o:=0) (l:=Lib.decDigits u) rfl hdl.symm (SAd.some _ b5 0) (fun i w hw=>?_) ?_
 ·refine Ak 0 rfl ?_;have:=congrArg (·[i]?) hlt;have hi:i<Lib.nDigits u:=by rw[←hdl];exact(List.getElem?_eq_some_iff.1 hw).1
  simp only[X8,hw,Yh] at this;rw[XH hi] at this;rw[XZ];exact this
 (refine Bj rfl<|Aa<|Aq ?_);exact Bs rfl
def IP(a0:Nat):A0:=⟨8,[(.tmp 4)],(sR (o1 4 (.mv (.const (Al []))) .done) (sR (om 5 0<|om 6 1<|oc 7 a0 [5,6]<|om 4 7 .done) .ret))⟩
def TY{T:Ae→Prop}{P f f1}(hd:dec P f=some (IP f1))(h1:H5 T P f1):H5 T P f:=by
 intro d u ht hu;refine AG.of' hd (No rfl) ?_;show gwp P _ _ _ _ _;(refine Ac<|Bj rfl<|Aa<|Ac<|Ab rfl<|Ab rfl ?_);refine AD rfl (h1 ht hu) ?_;(refine Bj rfl<|Aa<|Aq ?_);exact Bs rfl
end
end Go.Gk.Val
end
section
namespace Go.Gk.Val
open Go Go.Gk Go.Gk.Num
variable{a b m m1 e1 m2 e2:Int}
def C9(h:a<b):B2 a b= -1:=if_pos h
def CU(h:b<a):B2 a b=1:=by rw[B2,if_neg (by omega),if_pos h]
def DE(h:a=b):B2 a b=0:=by rw[B2,if_neg (by omega),if_neg (by omega)]
def Hb(a b:Int):B2 a b= -B2 b a:=by
 rcases Yb a b with h|h|h
 ·rw[C9 h,CU h]
 ·rw[DE h,DE h.symm];rfl
 ·rw[CU h,C9 h];rfl
def DV:B2 a b=0↔a=b:=by
 rcases Yb a b with h|h|h
 ·rw[C9 h];simp;omega
 ·rw[DE h];simp[h]
 ·rw[CU h];simp;omega
def QP(a b:Int):B2 a b= -1∨B2 a b=0∨B2 a b=1:=by
 rcases Yb a b with h|h|h
 ·exact .inl (C9 h)
 ·exact .inr (.inl (DE h))
 ·exact .inr (.inr (CU h))
def JT{c d:Int}(h1:a<b↔c<d)(h2:b<a↔d<c):B2 a b=B2 c d:=by
 rcases Yb a b with h|h|h
 ·rw[C9 h,C9 (h1.1 h)]
 ·have h3:¬c<d:=fun q=>by have:=h1.2 q;omega
  have h4:¬d<c:=fun q=>by have:=h2.2 q;omega
  rw[DE h,DE (by omega)]
 ·rw[CU h,CU (h2.1 h)]
def TI(a b:Int):B2 (-a) (-b)= -B2 a b:=by
 rw[←Hb];exact JT (by omega) (by omega)
def Ul(a b:Int){n:Nat}(h:0<n):B2 (a*n) (b*n)=B2 a b:=by
 have hn:(0:Int)<n:=by omega
 have key:∀x y:Int,x*n<y*n↔x<y:=fun x y=>⟨fun q=>Int.lt_of_mul_lt_mul_right q (by omega),fun q=>Int.mul_lt_mul_of_pos_right q hn⟩
 exact JT (key _ _) (key _ _)
def C3(m1 e1 m2 e2:Int):Int:=B2 (m1*((10 ^(e1 - min e1 e2).toNat:Nat):Int)) (m2*((10 ^(e2 - min e1 e2).toNat:Nat):Int))
def ME(m1 e1 m2 e2 e:Int)(h1:e≤e1)(h2:e≤e2):B2 (m1*((10 ^(e1 - e).toNat:Nat):Int)) (m2*((10 ^(e2 - e).toNat:Nat):Int))=C3 m1 e1 m2 e2:=by
 obtain⟨k,hk⟩:∃k:Nat,min e1 e2 - e=k:=⟨(min e1 e2 - e).toNat,by omega⟩
 have f1:(e1 - e).toNat=(e1 - min e1 e2).toNat+k:=by omega
 have f2:(e2 - e).toNat=(e2 - min e1 e2).toNat+k:=by omega
 rw[f1,f2,Nat.pow_add,Nat.pow_add,Yu,Yu,←Int.mul_assoc,←Int.mul_assoc,Ul _ _ (Nat.pow_pos (by omega)),C3]
def SH(m1 e1 m2 e2:Int):C3 m1 e1 m2 e2= -C3 m2 e2 m1 e1:=by
 rw[C3,C3,Hb,Int.min_comm]
def SR(l:List Nat):∀m,l.foldl (fun m d=>m*10+d) m=m*10 ^ l.length+val l:=by
 induction l with
 |nil=>intro m;simp[val]
 |cons a l ih=>
  intro m
  simp only[List.foldl_cons,val,Xv]
  rw[ih,ih (0*10+a),Nat.zero_mul,XZ,Y0,XW,Nat.mul_assoc,Nat.mul_comm 10,Nat.add_assoc]
def Ix(a:Nat)(l:List Nat):val (a::l)=a*10 ^ l.length+val l:=by
 rw[val,List.foldl_cons,SR];simp
def VR:val []=0:=rfl
def Nr{l:List Nat}(h:∀d∈l,d<10):val l<10 ^ l.length:=by
 induction l with
 |nil=>decide
 |cons a l ih=>
  have:=ih (fun d hd=>h d (Xk _ hd))
  have ha:=h a (Xp ..)
  rw[Ix,Xv,Y0]
  have:(a+1)*10 ^ l.length≤10*10 ^ l.length:=Xx _ (by omega)
  rw[XW,Yx] at this
  omega
def Vt{l:List Nat}(h:∃d∈l,d≠0):0<val l:=by
 induction l with
 |nil=>obtain⟨d,hd,_⟩:=h;cases hd
 |cons a l ih=>
  rw[Ix]
  obtain⟨d,hd,hn⟩:=h
  rcases Xu.1 hd with rfl|hd
  ·have:=Nat.mul_pos (Nat.pos_of_ne_zero hn) (Nat.pow_pos (n:=l.length) (show 0<10 by omega));omega
  ·have:=ih ⟨d,hd,hn⟩;omega
def TK{n:Nat}(h:n≠0):10 ^((Br n).length - 1)≤n:=by
 have:=(GZ n ((Br n).length - 1))
 apply Classical.byContradiction;intro q;have h2:=this.2 (by omega);have:(Br n).length≠0:=by obtain⟨d,l,e,_⟩:=FV h;rw[e];simp
 omega
def dch(d:Nat):UInt8:=UInt8.ofNat (48+d)
def Ie:∀u,u≠0→Lib.decDigits u=(Br u).map dch:=by
 intro u;induction u using Nat.strongRecOn with
 |_ u ih=>
  intro hu
  rw[Lib.decDigits,D4 hu,List.map_append]
  by_cases h:u<10
  ·rw[dif_pos h,show u / 10=0 by omega,Et,show u % 10=u by omega];rfl
  ·rw[dif_neg h,ih (u / 10) (by omega) (by omega)];rfl
def LD{a b:Nat}(ha:a<10)(hb:b<10):dch a<dch b↔a<b:=by
 rw[UInt8.lt_iff_toNat_lt];simp only[dch,UInt8.toNat_ofNat'];omega
def MB:∀(B A:List Nat) (k:Nat),A.length=B.length+k→(∀d∈A,d<10)→(∀d∈B,d<10)→(k≠0→∃d∈A.drop B.length,d≠0)→
  Lib.compareBytes (A.map dch) (B.map dch)=B2 (val A) ((val B*10 ^ k:Nat):Int)
 |[],A,k,hl,hA,_,hz=>by
  cases A with
  |nil=>
   have:k=0:=by simpa using hl.symm
   subst this;rfl
  |cons a A=>
   have hk:k≠0:=by simp at hl;omega
   have:=Vt (hz hk)
   simp only[X0,YN] at this
   rw[CU (by rw[VR];omega)];rfl
 |b::B,[],k,hl,_,_,_=>by simp at hl;omega
 |b::B,a::A,k,hl,hA,hB,hz=>by
  have hl':A.length=B.length+k:=by simp at hl;omega
  have ha:=hA a (Xp ..);have hb:=hB b (Xp ..);have hA':∀d∈A,d<10:=fun d hd=>hA d (Xk _ hd);have hB':∀d∈B,d<10:=fun d hd=>hB d (Xk _ hd);have vA:=Nr hA';have vB:val B*10 ^ k<10 ^ A.length:=by
   rw[hl',Nat.pow_add];exact Nat.mul_lt_mul_of_pos_right (Nr hB') (Nat.pow_pos (by omega))
  have e:val (b::B)*10 ^ k=b*10 ^ A.length+val B*10 ^ k:=by rw[Ix,XW,hl',Nat.pow_add,Nat.mul_assoc]
  rw[Yd,Yd,Lib.compareBytes,Ix,e];by_cases h1:a<b
  ·rw[if_pos ((LD ha hb).2 h1),C9];have:(a+1)*10 ^ A.length≤b*10 ^ A.length:=Xx _ h1;rw[XW,Yx] at this;omega
  ·rw[if_neg (fun h=>h1 ((LD ha hb).1 h))];by_cases h2:b<a
   ·rw[if_pos ((LD hb ha).2 h2),CU];have:(b+1)*10 ^ A.length≤a*10 ^ A.length:=Xx _ h2;rw[XW,Yx] at this;omega
   ·rw[if_neg (fun h=>h2 ((LD hb ha).1 h))];obtain rfl:a=b:=by omega
    rw[MB B A k hl' hA' hB' (fun hk=>by simpa using hz hk)];exact JT (by omega) (by omega)
def Hl:∀a b:List UInt8,Lib.compareBytes a b= -Lib.compareBytes b a
 |[],[]=>rfl
 |[],_::_=>rfl
 |_::_,[]=>rfl
 |a::l,b::m=>by
  simp only[Lib.compareBytes];by_cases h1:a<b
  ·have h2:¬b<a:=fun h=>by rw[UInt8.lt_iff_toNat_lt] at h h1;omega
   rw[if_pos h1,if_neg h2,if_pos h1]
  ·by_cases h2:b<a
   ·rw[if_neg h1,if_pos h2,if_pos h2];rfl
   ·rw[if_neg h1,if_neg h2,if_neg h2,if_neg h1,Hl l m]
def Nl{n:Nat}(h:n % 10≠0){k:Nat}(hk:k<(Br n).length):∃d∈(Br n).drop k,d≠0:=by
 have hn:n≠0:=by rintro rfl;simp at h
 refine⟨n % 10,?_,h⟩
 rw[D4 hn] at hk⊢;simp at hk;rw[YL (by omega)];simp
def Qh{m1 m2 a b:Nat}(h1:m1≠0)(h2:m2≠0)(h:(Br m1).length+a<(Br m2).length+b):m1*10 ^ a<m2*10 ^ b:=by
 have hlow:=TK h2;have hhi:=(GZ m1 (Br m1).length).1 (Xq _);have hpos:(Br m2).length≠0:=by obtain⟨d,l,e,_⟩:=FV h2;rw[e];simp
 have s1:m1*10 ^ a<10 ^(Br m1).length*10 ^ a:=Nat.mul_lt_mul_of_pos_right hhi (Nat.pow_pos (by omega));have s2:10 ^((Br m2).length - 1)*10 ^ b≤m2*10 ^ b:=Xx _ hlow;have s3:10 ^(Br m1).length*10 ^ a≤10 ^((Br m2).length - 1)*10 ^ b:=by
  rw[←Nat.pow_add,←Nat.pow_add];exact Nat.pow_le_pow_right (by omega) (by omega)
 omega
def Ve{m1 m2 a b:Nat}(h1:m1 % 10≠0)(h2:m2 % 10≠0)(h:(Br m1).length+a=(Br m2).length+b)(hab:a=0∨b=0):
  Lib.compareBytes (Lib.decDigits m1) (Lib.decDigits m2)=B2 ((m1*10 ^ a:Nat):Int) ((m2*10 ^ b:Nat):Int):=by
 have n1:m1≠0:=by rintro rfl;simp at h1
 have n2:m2≠0:=by rintro rfl;simp at h2
 have p1:(Br m1).length≠0:=by obtain⟨d,l,e,_⟩:=FV n1;rw[e];simp
 have p2:(Br m2).length≠0:=by obtain⟨d,l,e,_⟩:=FV n2;rw[e];simp
 rw[Ie _ n1,Ie _ n2]
 rcases hab with rfl|rfl
 ·rw[MB (Br m2) (Br m1) b (by omega) (H2 _) (H2 _) (fun hb=>Nl h1 (by omega)),GX,GX];simp
 ·rw[Hl,MB (Br m1) (Br m2) a (by omega) (H2 _) (H2 _) (fun hb=>Nl h2 (by omega)),GX,GX,←Hb];simp
def Gq(h:m<0):sgn m= -1:=if_pos h
def Gt(h:0<m):sgn m=1:=by rw[sgn,if_neg (by omega),if_pos h]
def Pt(h:sgn m1≠sgn m2∨sgn m1=0):C3 m1 e1 m2 e2=B2 (sgn m1) (sgn m2):=by
 rw[C3];have q1:(0:Int)<((10 ^(e1 - min e1 e2).toNat:Nat):Int):=by have:=Nat.pow_pos (n:=(e1 - min e1 e2).toNat) (show 0<10 by omega);omega
 have q2:(0:Int)<((10 ^(e2 - min e1 e2).toNat:Nat):Int):=by have:=Nat.pow_pos (n:=(e2 - min e1 e2).toNat) (show 0<10 by omega);omega
 generalize ((10 ^(e1 - min e1 e2).toNat:Nat):Int)=x at*;generalize ((10 ^(e2 - min e1 e2).toNat:Nat):Int)=y at*;have key:∀(m:Int) {x:Int},0<x→(m<0∧m*x<0∧sgn m= -1)∨(m=0∧m*x=0∧sgn m=0)∨(0<m∧0<m*x∧sgn m=1):=fun m x hx=>by
  rcases Yb m 0 with h|h|h
  ·exact .inl ⟨h,Int.mul_neg_of_neg_of_pos h hx,Gq h⟩
  ·subst h;exact .inr (.inl ⟨rfl,by simp,rfl⟩)
  ·exact .inr (.inr ⟨h,Int.mul_pos h hx,Gt h⟩)
 rcases key m1 q1 with ⟨a1,a2,a3⟩|⟨a1,a2,a3⟩|⟨a1,a2,a3⟩<;>rcases key m2 q2 with ⟨b1,b2,b3⟩|⟨b1,b2,b3⟩|⟨b1,b2,b3⟩<;>rw[a3,b3] at h⊢<;>first|(exfalso;revert h;decide)|exact JT (by omega) (by omega)
def TW(h:sgn m1=sgn m2)(h0:sgn m1≠0):
  C3 m1 e1 m2 e2=sgn m1*B2 ((m1.natAbs*10 ^(e1 - min e1 e2).toNat:Nat):Int) ((m2.natAbs*10 ^(e2 - min e1 e2).toNat:Nat):Int):=by
 rw[C3]
 generalize (10 ^(e1 - min e1 e2).toNat:Nat)=x at*
 generalize (10 ^(e2 - min e1 e2).toNat:Nat)=y at*
 rw[Yu,Yu]
 rcases Yb m1 0 with q|q|q
 ·have q2:m2<0:=by
   rw[Gq q] at h;rcases Yb m2 0 with r|r|r
   ·exact r
   ·subst r;cases h
   ·rw[Gt r] at h;cases h
  rw[Gq q,show m1= -(m1.natAbs:Int) by omega,show m2= -(m2.natAbs:Int) by omega,Int.neg_mul,Int.neg_mul,TI]
  simp
 ·subst q;exact absurd rfl h0
 ·have q2:0<m2:=by
   rw[Gt q] at h;rcases Yb m2 0 with r|r|r
   ·rw[Gq r] at h;cases h
   ·subst r;cases h
   ·exact r
  rw[Gt q,show(m1.natAbs:Int)=m1 by omega,show(m2.natAbs:Int)=m2 by omega,Int.one_mul]
def Ph{e:Int}(h:Bg m e=true)(h0:m≠0): -1000000000000000000<m∧m<1000000000000000000∧m.natAbs % 10≠0∧ -64≤e∧e≤64:=by
 rw[Bg,if_neg h0,decide_eq_true_eq] at h;omega
def UD{e:Int}(h:Bg m e=true): -1000000000000000000<m∧m<1000000000000000000∧ -64≤e∧e≤64:=by
 by_cases h0:m=0
 ·subst h0;simp[Bg] at h;omega
 ·have:=Ph h h0;omega
def QA(r1:Bg m1 e1=true)(r2:Bg m2 e2=true)(h:sgn m1=sgn m2)(h0:sgn m1≠0):
  C3 m1 e1 m2 e2=sgn m1*(if ((Lib.decDigits m1.natAbs).length:Int)+e1≠(Lib.decDigits m2.natAbs).length+e2 then B2 ((Lib.decDigits m1.natAbs).length+e1) ((Lib.decDigits m2.natAbs).length+e2) else Lib.compareBytes (Lib.decDigits m1.natAbs) (Lib.decDigits m2.natAbs)):=by
 have z1:m1≠0:=by rintro rfl;exact h0 rfl
 have z2:m2≠0:=by rintro rfl;exact h0 (h.trans rfl)
 obtain⟨_,_,d1,_,_⟩:=Ph r1 z1
 obtain⟨_,_,d2,_,_⟩:=Ph r2 z2
 rw[TW h h0]
 congr 1
 have n1:m1.natAbs≠0:=by omega
 have n2:m2.natAbs≠0:=by omega
 have l1:(Lib.decDigits m1.natAbs).length=(Br m1.natAbs).length:=by rw[Ie _ n1,Ye]
 have l2:(Lib.decDigits m2.natAbs).length=(Br m2.natAbs).length:=by rw[Ie _ n2,Ye]
 rw[l1,l2]
 split
 ·rename_i hne
  rcases Int.lt_or_gt_of_ne hne with q|q
  ·rw[C9 q,C9]
   have:=Qh (a:=(e1 - min e1 e2).toNat) (b:=(e2 - min e1 e2).toNat) n1 n2 (by omega)
   omega
  ·rw[CU q,CU]
   have:=Qh (a:=(e2 - min e1 e2).toNat) (b:=(e1 - min e1 e2).toNat) n2 n1 (by omega)
   omega
 ·rename_i he
  exact(Ve d1 d2 (by omega) (by omega)).symm
def Su(r1:Bg m1 e1=true)(r2:Bg m2 e2=true)(h:C3 m1 e1 m2 e2=0):m1=m2∧e1=e2:=by
 by_cases h0:sgn m1=sgn m2∧sgn m1≠0
 ·obtain⟨h1,h2⟩:=h0;have z1:m1≠0:=by rintro rfl;exact h2 rfl
  have z2:m2≠0:=by rintro rfl;exact h2 (h1.trans rfl)
  obtain⟨_,_,d1,_,_⟩:=Ph r1 z1;obtain⟨_,_,d2,_,_⟩:=Ph r2 z2;rw[C3,DV] at h;have key:∀(a b:Int) (k:Nat),a.natAbs % 10≠0→a=b*((10 ^ k:Nat):Int)→k=0:=by
   intro a b k ha e;cases k with
   |zero=>rfl
   |succ k=>
    exfalso;apply ha
    rw[e,Int.natAbs_mul,Int.natAbs_natCast,Y0,←Nat.mul_assoc];simp
  rcases Int.le_total e1 e2 with q|q
  ·rw[show(e1 - min e1 e2).toNat=0 by omega,Nat.pow_zero,Int.natCast_one,Int.mul_one] at h;have:=key _ _ _ d1 h;rw[this] at h;exact⟨by simpa using h,by omega⟩
  ·rw[show(e2 - min e1 e2).toNat=0 by omega,Nat.pow_zero,Int.natCast_one,Int.mul_one] at h;have:=key _ _ _ d2 h.symm;rw[this] at h;exact⟨by simpa using h,by omega⟩
 ·rw[Pt (by
   by_cases q:sgn m1=sgn m2
   ·right;apply Classical.byContradiction;intro r;exact h0 ⟨q,r⟩
   ·exact .inl q),DV] at h
  have hz:sgn m1=0:=by apply Classical.byContradiction;intro r;exact h0 ⟨h,r⟩
  have z:∀m:Int,sgn m=0→m=0:=fun m hm=>by
   rcases Yb m 0 with r|r|r
   ·rw[Gq r] at hm;cases hm
   ·exact r
   ·rw[Gt r] at hm;cases hm
  have a:=z m1 hz;have b:=z m2 (h▸hz);subst a;subst b;simp[Bg] at r1 r2;omega
section
attribute [local irreducible] gwp gws
end
section
attribute [local irreducible] gwp gws
end
section
attribute [local irreducible] gwp gws
end
section
attribute [local irreducible] gwp gws
end
end Go.Gk.Val
end
section
namespace Go.Gk.Val
open Go Go.Gk Go.Gk.Num
attribute [local irreducible] gwp gws
def sg(b:Bool):Int:=if b then -1 else 1
def EL(m1 e1 m2 e2:Int):Int×Int:=if Bg m1 e1 && Bg m2 e2 then(C3 m1 e1 m2 e2,0) else(0,10)
def ID(T:Ae→Prop)(P:Program)(f:FuncId):Prop:=∀{d}{m1 e1 m2 e2:Int},T d→I64 m1→I64 e1→I64 m2→I64 e2→
 AG P f [.agg [vZ m1,vZ e1].toArray,.agg [vZ m2,vZ e2].toArray] d (.tuple #[vZ (EL m1 e1 m2 e2).1,vZ (EL m1 e1 m2 e2).2])
section
def UL(m:Int):sgn m= -1∨sgn m=0∨sgn m=1:=by
 rcases Yb m 0 with h|h|h
 ·exact .inl (Gq h)
 ·subst h;exact .inr (.inl rfl)
 ·exact .inr (.inr (Gt h))
def Rx:∀a b:List UInt8,Lib.compareBytes a b= -1∨Lib.compareBytes a b=0∨Lib.compareBytes a b=1
 |[],[]=>.inr (.inl rfl)
 |[],_::_=>.inl rfl
 |_::_,[]=>.inr (.inr rfl)
 |a::l,b::m=>by
  simp only[Lib.compareBytes];by_cases h1:a<b
  ·rw[if_pos h1];exact .inl rfl
  ·rw[if_neg h1];by_cases h2:b<a
   ·rw[if_pos h2];exact .inr (.inr rfl)
   ·rw[if_neg h2];exact Rx l m
section
variable {P:Program}{pan:List PanicEntry→AT}{Qn:Env→AT}{Ls L:List Ae}{ρ:Env}{d:Ae}{s:GS}{t:Nat}{tk:Bool}
def Sr{x y}{a b:Int}(ex:ev ρ x=vZ a)(ey:ev ρ y=vZ b)(ha:a= -1∨a=0∨a=1)(hb:b= -1∨b=0∨b=1)(h:gws P pan Qn s Ls (upd ρ t (vZ (a*b))) d L):
  gws P pan Qn (.op tk ⟨some t,none,.bin .mul x y⟩ s) Ls ρ d L:=by
 refine Dh ?_ h
 rw[ex,ey]
 simp only[CR]
 rcases ha with rfl|rfl|rfl<;>rcases hb with rfl|rfl|rfl<;>rfl
end
def RQ(a0 a1 a2 a3 a4 a5:Nat):A0:=⟨63,[(.tmp 4),(.tmp 5)],(sR (o1 2 (.box 0)<|o1 3 (.box 1)<|o1 4 (.mv z0)<|o1 5 (.mv z0) .done) (.seq (sR (o1 10 (.ld (some 2) 2)<|oc 11 a0 [10]<|o1 12 (.un .not 11)<|om 13 12<|oF 14 13 (.ld (some 2) 3)<|oF 15 13 (.call a0 [14])<|oF 16 13 (.un .not 15)<|o1 17 (.pick 13 (.const (.bool true)) 16) .done) (.cond 17 (sR (o1 4 (.mv z0)<|o1 5 (.mv (kZ 10)) .done) .ret) .skip)) (.seq (.reg true (p1 18 (.ld (some 2) 2)<|p1 20 (.ld (some 2) 3)<|oc 19 a1 [18]<|oc 21 a1 [20]<|pm 6 19<|pm 7 21 .done)) (.seq (sR (om 22 6<|om 23 7<|ob 24 .neq 22 23<|om 25 24<|gF 26 25 6<|oF 27 25 (.bin .eql 26 z0)<|o1 28 (.pick 25 (.const (.bool true)) 27) .done) (.cond 28 (sR (om 29 6<|om 30 7<|oc 31 a2 [29,30]<|om 4 31<|o1 5 (.mv z0) .done) .ret) .skip)) (.seq (.reg true (p1 32 (.ld (some 2) 2)<|p1 36 (.fld 1 2)<|pl 37 36<|p1 39 (.ld (some 2) 3)<|p1 43 (.fld 1 3)<|pl 44 43<|oc 33 a3 [32]<|oc 34 a4 [33,(kZ 10)]<|p1 35 (.lens 34)<|p1 38 (.bin .add 35 37)<|oc 40 a3 [39]<|oc 41 a4 [40,(kZ 10)]<|p1 42 (.lens 41)<|p1 45 (.bin .add 42 44)<|pm 8 38<|pm 9 45 .done)) (.seq (sR (om 46 8<|om 47 9<|ob 48 .neq 46 47 .done) (.cond 48 (sR (om 49 6<|om 50 8<|om 51 9<|oc 52 a2 [50,51]<|ob 53 .mul 49 52<|om 4 53<|o1 5 (.mv z0) .done) .ret) .skip)) (.seq (.reg true (pm 54 6<|p1 55 (.ld (some 2) 2)<|p1 58 (.ld (some 2) 3)<|oc 56 a3 [55]<|oc 57 a4 [56,(kZ 10)]<|oc 59 a3 [58]<|oc 60 a4 [59,(kZ 10)]<|oc 61 a5 [57,60]<|p1 62 (.bin .mul 54 61) (.bar (pm 4 62 (p1 5 (.mv z0) .done))))) .ret)))))))⟩
set_option maxHeartbeats 1000000 in
def Vn{T:Ae→Prop}{P f f1 f2 f3 f4 f5 f6}(hd:dec P f=some (RQ f1 f2 f3 f4 f5 f6))(h1:Io T P f1)(h2:O2 P f2)(h3:HR P f3)(h4:Lm P f4)(h5:H5 T P f5)(h6:FR P f6):ID T P f:=by
 intro d m1 e1 m2 e2 ht i1 i2 i3 i4;refine AG.of' hd (No rfl) ?_;show gwp P _ _ _ _ _;apply Ah;apply Ax;refine AR (l:=[vZ m1,vZ e1]) rfl (fun t2 T2=>?_);refine AR (l:=[vZ m2,vZ e2]) rfl (fun t3 T3=>?_);cases r1:Bg m1 e1 with
 |false=>
  rw[EL,r1]
  (refine Ab rfl<|Ab rfl<|Aa<|Ah<|Ac<|AE 1 rfl rfl rfl ?_)
  refine AD rfl (h1 ht i1 i2) ?_
  rw[r1]
  (refine Be rfl<|Ad rfl<|Aj rfl<|Aj rfl<|Aj rfl<|Ap rfl rfl<|Aa<|Bd rfl<|Ac<|Ab rfl<|Ab rfl<|Aa<|Aq ?_)
  exact Cu rfl rfl
 |true=>
  cases r2:Bg m2 e2 with
  |false=>
   rw[EL,r1,r2]
   (refine Ab rfl<|Ab rfl<|Aa<|Ah<|Ac<|AE 1 rfl rfl rfl ?_)
   refine AD rfl (h1 ht i1 i2) ?_
   rw[r1]
   (refine Be rfl<|Ad rfl<|Af rfl<|AE 0 rfl rfl rfl<|Af rfl ?_)
   refine AD rfl (h1 ht i3 i4) ?_
   rw[r2]
   (refine Af rfl<|Be rfl<|Am rfl rfl<|Aa<|Bd rfl<|Ac<|Ab rfl<|Ab rfl<|Aa<|Aq ?_)
   exact Cu rfl rfl
  |true=>
   have b1:=UD r1
   have b2:=UD r2
   have hpl:= @QA m1 e1 m2 e2 r1 r2
   have hsg:= @Pt m1 e1 m2 e2
   have u1:m1.natAbs<18446744073709551616:=by omega
   have u2:m2.natAbs<18446744073709551616:=by omega
   have l1:=Lib.decDigits_length m1.natAbs
   have l2:=Lib.decDigits_length m2.natAbs
   have k1:=Lib.nDigits_le20 m1.natAbs u1
   have k2:=Lib.nDigits_le20 m2.natAbs u2
   rw[EL,r1,r2]
   (refine Ab rfl<|Ab rfl<|Aa<|Ah<|Ac<|AE 1 rfl rfl rfl ?_)
   refine AD rfl (h1 ht i1 i2) ?_
   rw[r1]
   (refine Be rfl<|Ad rfl<|Af rfl<|AE 0 rfl rfl rfl<|Af rfl ?_)
   refine AD rfl (h1 ht i3 i4) ?_
   rw[r2]
   (refine Af rfl<|Be rfl<|Am rfl rfl<|Aa<|AJ rfl<|Ao<|Ah<|Bp<|AE 1 rfl rfl rfl<|AE 0 rfl rfl rfl ?_)
   refine AD rfl h2 ?_
   refine AD rfl h2 ?_
   have hfin:∀{x:Int},x=C3 m1 e1 m2 e2→Value.int .i64 x=vZ (if (true && true)=true then(C3 m1 e1 m2 e2,(0:Int)) else(0,10)).1:=fun h=>by rw[h];rfl
   by_cases hs:sgn m1=sgn m2
   ·by_cases h0:sgn m1=0
    ·(refine Ab rfl<|Ab rfl<|Bo<|Ah<|Ac<|Ab rfl<|Ab rfl<|AB rfl rfl<|Ad rfl<|Az rfl (by omega)<|Af rfl<|Ab rfl<|Af rfl<|At rfl rfl<|Am rfl rfl<|Aa<|Au rfl (by omega)<|Ac<|Ab rfl<|Ab rfl ?_)
     refine AD rfl h3 ?_
     (refine Ab rfl<|Ab rfl<|Aa<|Aq ?_)
     exact Cu (hfin (hsg (.inr h0)).symm) rfl
    ·have hpl:=hpl hs h0
     by_cases hp:((Lib.decDigits m1.natAbs).length:Int)+e1=(Lib.decDigits m2.natAbs).length+e2
     ·rw[if_neg (by omega)] at hpl
      have q1:=UL m1
      have q2:=Rx (Lib.decDigits m1.natAbs) (Lib.decDigits m2.natAbs)
      (refine Ab rfl<|Ab rfl<|Bo<|Ah<|Ac<|Ab rfl<|Ab rfl<|AB rfl rfl<|Ad rfl<|Az rfl (by omega)<|Af rfl<|Ab rfl<|Af rfl<|At rfl rfl<|Am rfl rfl<|Aa<|An rfl (by omega)<|Ao<|Ah<|Bp<|AE 1 rfl rfl rfl<|Ag rfl<|Ai rfl (Ak 1 rfl rfl)<|AE 0 rfl rfl rfl<|Ag rfl<|Ai rfl (Ak 0 rfl rfl) ?_)
      refine AD rfl (h4 i1) ?_
      refine AD rfl (h5 ht u1) ?_
      (refine Ev rfl<|AI rfl rfl (by omega) (by omega) ?_)
      refine AD rfl (h4 i3) ?_
      refine AD rfl (h5 ht u2) ?_
      (refine Ev rfl<|AI rfl rfl (by omega) (by omega)<|Ab rfl<|Ab rfl<|Bo<|Ah<|Ac<|Ab rfl<|Ab rfl<|AB rfl rfl<|Aa<|An rfl (by omega)<|Ao<|Ah<|Bp<|Ab rfl<|AE 1 rfl rfl rfl<|AE 0 rfl rfl rfl ?_)
      refine AD rfl (h4 i1) ?_
      refine AD rfl (h5 ht u1) ?_
      refine AD rfl (h4 i3) ?_
      refine AD rfl (h5 ht u2) ?_
      refine AD rfl h6 ?_
      refine Sr rfl rfl q1 q2 ?_
      (refine Cr<|Ab rfl<|Ab rfl<|Aa<|Aq ?_)
      exact Cu (hfin hpl.symm) rfl
     ·rw[if_pos (by omega)] at hpl
      have q1:=UL m1
      have q2:=QP ((Lib.decDigits m1.natAbs).length+e1) ((Lib.decDigits m2.natAbs).length+e2)
      (refine Ab rfl<|Ab rfl<|Bo<|Ah<|Ac<|Ab rfl<|Ab rfl<|AB rfl rfl<|Ad rfl<|Az rfl (by omega)<|Af rfl<|Ab rfl<|Af rfl<|At rfl rfl<|Am rfl rfl<|Aa<|An rfl (by omega)<|Ao<|Ah<|Bp<|AE 1 rfl rfl rfl<|Ag rfl<|Ai rfl (Ak 1 rfl rfl)<|AE 0 rfl rfl rfl<|Ag rfl<|Ai rfl (Ak 0 rfl rfl) ?_)
      refine AD rfl (h4 i1) ?_
      refine AD rfl (h5 ht u1) ?_
      (refine Ev rfl<|AI rfl rfl (by omega) (by omega) ?_)
      refine AD rfl (h4 i3) ?_
      refine AD rfl (h5 ht u2) ?_
      (refine Ev rfl<|AI rfl rfl (by omega) (by omega)<|Ab rfl<|Ab rfl<|Bo<|Ah<|Ac<|Ab rfl<|Ab rfl<|AB rfl rfl<|Aa<|Au rfl (by omega)<|Ac<|Ab rfl<|Ab rfl<|Ab rfl ?_)
      refine AD rfl h3 ?_
      refine Sr rfl rfl q1 q2 ?_
      (refine Ab rfl<|Ab rfl<|Aa<|Aq ?_)
      exact Cu (hfin hpl.symm) rfl
   ·(refine Ab rfl<|Ab rfl<|Bo<|Ah<|Ac<|Ab rfl<|Ab rfl<|AB rfl rfl<|Ad rfl<|AF rfl (by omega)<|Aj rfl<|Aj rfl<|Ap rfl rfl<|Aa<|Bd rfl<|Ac<|Ab rfl<|Ab rfl ?_)
    refine AD rfl h3 ?_
    (refine Ab rfl<|Ab rfl<|Aa<|Aq ?_)
    exact Cu (hfin (hsg (.inl hs)).symm) rfl
end
end Go.Gk.Val
end
section
namespace Go.Gk.Val
open Go Go.Gk Go.Gk.Num
section
def thn(a b:Int):Int:=if a=0 then b else a
def BW{α}(f:α→α→Int):List α→List α→Int
 |[],[]=>0
 |[],_::_=> -1
 |_::_,[]=>1
 |a::l,b::m=>thn (f a b) (BW f l m)
abbrev Dm:List UInt8→List UInt8→Int:=Lib.compareBytes
mutual
def BX:V→V→Int
 |.mk k m e t l ks,b=>thn (B2 k b.kind) (thn (if k=3 then C3 m e b.m b.e else 0) (thn (Dm t b.text) (thn (BW Dm ks b.keys) (It l b.list))))
def It:List V→List V→Int
 |[],[]=>0
 |[],_::_=> -1
 |_::_,[]=>1
 |a::l,b::m=>thn (BX a b) (It l m)
end
def N9:∀l m:List V,It l m=BW BX l m
 |[],[]=>by simp[It,BW]
 |[],_::_=>by simp[It,BW]
 |_::_,[]=>by simp[It,BW]
 |a::l,b::m=>by simp only[It,BW];rw[N9 l m]
def ED(a b:V):BX a b=thn (B2 a.kind b.kind) (thn (if a.kind=3 then C3 a.m a.e b.m b.e else 0) (thn (Dm a.text b.text) (thn (BW Dm a.keys b.keys) (BW BX a.list b.list)))):=by
 obtain⟨k,m,e,t,l,ks⟩:=a;rw[BX,N9]
def GR(b:Int):thn 0 b=b:=if_pos rfl
def Gc{a:Int}(h:a≠0)(b:Int):thn a b=a:=if_neg h
def Uy(a:Int):thn a 0=a:=by rw[thn];split<;>simp_all
def GA{a b:Int}:thn a b=0↔a=0∧b=0:=by rw[thn];split<;>simp_all
def H0(a b:Int):thn (-a) (-b)= -thn a b:=by rw[thn,thn];split<;>split<;>omega
section
variable {α:Type}{f:α→α→Int}
def TT:BW f [] []=0:=rfl
def Ig:∀(i:Nat) (l m:List α),i≤l.length→i≤m.length→(i=l.length∨i=m.length)→BW f (l.drop i) (m.drop i)=B2 l.length m.length:=by
 intro i l m h1 h2 h3;by_cases q1:i=l.length
 ·subst q1;rw[XY];by_cases q2:l.length=m.length
  ·rw[q2,XY,DE rfl];rfl
  ·rw[XE (by omega),C9 (by omega)];rfl
 ·obtain rfl:i=m.length:=by omega
  rw[XY,XE (by omega),CU (by omega)];rfl
def Nx{i:Nat}{l m:List α}(h1:i<l.length)(h2:i<m.length):BW f (l.drop i) (m.drop i)=thn (f l[i] m[i]) (BW f (l.drop (i+1)) (m.drop (i+1))):=by
 rw[XE h1,XE h2];rfl
def JD:∀l m:List α,(∀x∈l,∀y∈m,f x y= -f y x)→BW f l m= -BW f m l
 |[],[],_=>rfl
 |[],_::_,_=>rfl
 |_::_,[],_=>rfl
 |a::l,b::m,h=>by
  rw[BW,BW,h a (Xp ..) b (Xp ..),JD l m (fun x hx y hy=>h x (Xk _ hx) y (Xk _ hy)),H0]
def Hr:∀l m:List α,(∀x∈l,∀y∈m,f x y=0↔x=y)→(BW f l m=0↔l=m)
 |[],[],_=>by simp[BW]
 |[],_::_,_=>by simp[BW]
 |_::_,[],_=>by simp[BW]
 |a::l,b::m,h=>by
  rw[BW,GA,h a (Xp ..) b (Xp ..),Hr l m (fun x hx y hy=>h x (Xk _ hx) y (Xk _ hy)),List.cons.injEq]
def Dp(x z w:Int):Prop:=(x≤0→z≤0→w≤0)∧(x<0→z≤0→w<0)∧(x≤0→z<0→w<0)∧(x=0→z=0→w=0)
def FX{a1 a2 a3 b1 b2 b3:Int}(ha:Dp a1 a2 a3)(hb:a1=0→a2=0→a3=0→Dp b1 b2 b3):Dp (thn a1 b1) (thn a2 b2) (thn a3 b3):=by
 obtain⟨p1,p2,p3,p4⟩:=ha;by_cases q1:a1=0
 ·by_cases q2:a2=0
  ·have q3:=p4 q1 q2;rw[q1,q2,q3,GR,GR,GR];exact hb q1 q2 q3
  ·rw[Gc q2];refine⟨fun h1 h2=>?_,fun h1 h2=>?_,fun h1 h2=>?_,fun h1 h2=>absurd h2 q2⟩<;>
   ·have:=p3 (by omega) (by omega);rw[Gc (by omega)];omega
 ·rw[Gc q1];refine⟨fun h1 h2=>?_,fun h1 h2=>?_,fun h1 h2=>?_,fun h1 h2=>absurd h1 q1⟩<;>
  ·have h3:a2≤0:=by rw[thn] at h2;split at h2<;>omega
   have:=p2 (by omega) h3;rw[Gc (by omega)];omega
def Gp:∀l m n:List α,(∀x∈l,∀y∈m,∀z∈n,Dp (f x y) (f y z) (f x z))→Dp (BW f l m) (BW f m n) (BW f l n)
 |[],m,[],_=>by cases m<;>simp[BW,Dp]
 |[],m,c::n,_=>by cases m<;>simp[BW,Dp]
 |a::l,[],n,_=>by cases n<;>simp[BW,Dp]
 |a::l,b::m,[],_=>by simp[BW,Dp]
 |a::l,b::m,c::n,h=>by
  rw[BW,BW,BW];exact FX (h a (Xp ..) b (Xp ..) c (Xp ..)) (fun _ _ _=>Gp l m n (fun x hx y hy z hz=>h x (Xk _ hx) y (Xk _ hy) z (Xk _ hz)))
end
def Iz(a b c:Int):Dp (B2 a b) (B2 b c) (B2 a c):=by
 have key:∀x y:Int,(B2 x y≤0↔x≤y)∧(B2 x y<0↔x<y)∧(B2 x y=0↔x=y):=fun x y=>by
  rcases Yb x y with h|h|h
  ·rw[C9 h];omega
  ·rw[DE h];omega
  ·rw[CU h];omega
 obtain⟨k1,k2,k3⟩:=key a b;obtain⟨k4,k5,k6⟩:=key b c;obtain⟨k7,k8,k9⟩:=key a c;rw[Dp,k1,k2,k3,k4,k5,k6,k7,k8,k9];omega
def Q1(m1 e1 m2 e2 m3 e3:Int):Dp (C3 m1 e1 m2 e2) (C3 m2 e2 m3 e3) (C3 m1 e1 m3 e3):=by
 have h1:min e1 (min e2 e3)≤e1:=by omega
 have h2:min e1 (min e2 e3)≤e2:=by omega
 have h3:min e1 (min e2 e3)≤e3:=by omega
 rw[←ME m1 e1 m2 e2 _ h1 h2,←ME m2 e2 m3 e3 _ h2 h3,←ME m1 e1 m3 e3 _ h1 h3];exact Iz _ _ _
def GM:∀a b:List UInt8,Dm a b=BW (fun(x y:UInt8)=>B2 x.toNat y.toNat) a b
 |[],[]=>rfl
 |[],_::_=>rfl
 |_::_,[]=>rfl
 |a::l,b::m=>by
  rw[Dm,Lib.compareBytes,BW];by_cases h1:a<b
  ·rw[if_pos h1];rw[UInt8.lt_iff_toNat_lt] at h1;rw[C9 (by omega),Gc (by decide)]
  ·by_cases h2:b<a
   ·rw[if_neg h1,if_pos h2];rw[UInt8.lt_iff_toNat_lt] at h2;rw[CU (by omega),Gc (by decide)]
   ·rw[if_neg h1,if_neg h2];rw[UInt8.lt_iff_toNat_lt] at h1 h2;rw[DE (by omega),GR];exact GM l m
def M3(a b:List UInt8):Dm a b=0↔a=b:=by
 rw[GM];exact Hr _ _ (fun x _ y _=>by rw[DV];exact⟨fun h=>UInt8.toNat_inj.1 (by omega),fun h=>by rw[h]⟩)
def Ld(a b c:List UInt8):Dp (Dm a b) (Dm b c) (Dm a c):=by
 rw[GM,GM,GM];exact Gp _ _ _ (fun _ _ _ _ _ _=>Iz _ _ _)
def He(a b:V):BX a b= -BX b a:=by
 induction a using V.ind generalizing b with
 |h a ih=>
  rw[ED,ED,JD _ _ (fun x hx y _=>ih x hx y),JD a.keys b.keys (fun x _ y _=>Hl x y),show Dm a.text b.text= -Dm b.text a.text from Hl _ _,Hb]
  by_cases h:b.kind=a.kind
  ·rw[h]
   have:(if a.kind=3 then C3 a.m a.e b.m b.e else 0)= -(if a.kind=3 then C3 b.m b.e a.m a.e else 0):=by
    split
    ·exact SH ..
    ·rfl
   rw[this,H0,H0,H0,H0]
  ·have hz:B2 b.kind a.kind≠0:=fun q=>h (DV.1 q)
   rw[Gc (by omega),Gc hz]
def QQ(a b c:V):Dp (BX a b) (BX b c) (BX a c):=by
 induction a using V.ind generalizing b c with
 |h a ih=>
  rw[ED a b,ED b c,ED a c]
  refine FX (Iz _ _ _) (fun h1 h2 _=>?_)
  rw[DV] at h1 h2
  refine FX ?_ (fun _ _ _=>FX (Ld _ _ _) (fun _ _ _=>FX (Gp _ _ _ (fun _ _ _ _ _ _=>Ld _ _ _)) (fun _ _ _=>Gp _ _ _ (fun x hx y _ z _=>ih x hx y z))))
  rw[←h1]
  split
  ·exact Q1 ..
  ·simp[Dp]
def Im{v:V}(h:Bc v=true):(0≤v.kind∧v.kind≤6)∧(v.kind=3∨(v.m=0∧v.e=0))∧(v.kind=4∨v.text=[])∧(5≤v.kind∨v.list=[])∧(v.kind=6∨v.keys=[])∧Bg v.m v.e=true:=by
 have h1:=Cv h;simp only[BK,BL,Xg,XN,decide_eq_true_eq] at h1;obtain⟨⟨⟨⟨⟨⟨⟨⟨a,b⟩,c⟩,d⟩,e⟩,n⟩,_⟩,_⟩,_⟩:=h1;exact⟨a,b,c,d,e,n⟩
def Jr{a b:V}(ha:Bc a=true)(hb:Bc b=true):BX a b=0↔a=b:=by
 induction a using V.ind generalizing b with
 |h a ih=>
  obtain⟨_,a2,_,_,_,an⟩:=Im ha
  obtain⟨_,b2,_,_,_,bn⟩:=Im hb
  rw[ED,GA,GA,GA,GA,DV,M3,Hr _ _ (fun x _ y _=>M3 x y),Hr _ _ (fun x hx y hy=>ih x hx (Ci ha hx) (Ci hb hy))]
  constructor
  ·rintro⟨h1,h2,h3,h4,h5⟩
   have hn:a.m=b.m∧a.e=b.e:=by
    by_cases q:a.kind=3
    ·rw[if_pos q] at h2;exact Su an bn h2
    ·have q2:b.kind≠3:=by omega
     rcases a2 with a2|a2
     ·exact absurd a2 q
     ·rcases b2 with b2|b2
      ·exact absurd b2 q2
      ·omega
   exact V.ext h1 hn.1 hn.2 h3 h5 h4
  ·intro h
   subst h
   refine⟨rfl,?_,rfl,rfl,rfl⟩
   split
   ·rw[C3,DV]
   ·rfl
end
end Go.Gk.Val
end
section
namespace Go.Gk.Val
open Go Go.Gk Go.Gk.Num
attribute [local irreducible] gwp gws
variable{P:Program}{f f1:FuncId}
def D3(P:Program)(f:FuncId):Prop:=∀{d v w}{l m:List V}{g},BY d v l→BY d w m→(∀x∈l,∀y∈m,∀cs ds,Aw d cs x→Aw d ds y→AG P g [.agg cs.toArray,.agg ds.toArray] d (vZ (BX x y)))→
 AG P f [v,w,.func (.func g) #[] #[]] d (vZ (BW BX l m))
def CI:A0:=⟨39,[(.tmp 6)],(sR (o1 6 (.mv z0) .done) (.seq (sR (om 11 0<|oL 12 11<|o1 13 (.mv z0) .done) (.block 0 (.loop (sR (ob 14 .lss 13 12 .done) (.seq (.cond 14 .skip (.exit 0)) (.seq (.block 1 (sR (om 15 13<|oI 16 6 11 13<|o1 17 (.ld (some 6) 16)<|o1 8 (.alo (.agg #[(vZ 0),(vZ 0),(vZ 0),(Al []),(.slice none 0 0),(.slice none 0 0)]))<|om 7 15<|o0 (.st 6 8 17) .done) (.seq (sR (om 18 7<|om 19 1<|oL 20 19<|ob 21 .geq 18 20 .done) (.cond 21 (sR (o1 6 (.mv z1) .done) .ret) .skip)) (sR (om 22 1<|om 23 7<|oI 24 6 22 23<|o1 25 (.ld (some 6) 24)<|o1 9 (.alo (.agg #[(vZ 0),(vZ 0),(vZ 0),(Al []),(.slice none 0 0),(.slice none 0 0)]))<|o0 (.st 6 9 25) .done) (sR (om 26 2<|o1 27 (.ld (some 6) 8)<|o1 28 (.ld (some 6) 9)<|o1 29 (.callv 26 [27,28])<|om 10 29 .done) (sR (om 30 10<|ob 31 .neq 30 z0 .done) (.cond 31 (sR (om 32 10<|om 6 32 .done) .ret) .skip))))))) (rG (ob 33 .add 13 z1<|om 13 33 .done)))))))) (.seq (sR (om 34 0<|oL 35 34<|om 36 1<|oL 37 36<|ob 38 .lss 35 37 .done) (.cond 38 (sR (o1 6 (.mv (kZ (-1))) .done) .ret) .skip)) (sR (o1 6 (.mv z0) .done) .ret))))⟩
set_option maxHeartbeats 1000000 in
def P4(hd:dec P f=some CI):D3 P f:=by
 intro d v w a b g hv hw hg;have n1:=RSl.A2 hv;have n2:=RSl.A2 hw;obtain⟨pa,ca,rfl⟩:=RSl.val hv;obtain⟨pb,cb,rfl⟩:=RSl.val hw;have hv':RSl 6 Aw d (.slice pa a.length ca) a:=hv;have hw':RSl 6 Aw d (.slice pb b.length cb) b:=hw;refine AG.of' hd (No rfl) ?_;show gwp P _ _ _ _ _;(refine Ac<|Ab rfl<|Aa<|Ah<|Ac<|Ar rfl<|Ay rfl<|Ab rfl<|Aa<|As ?_);refine A6 (α:=Nat) (fun i=>[(0,.slice pa a.length ca),(1,.slice pb b.length cb),(2,.func (.func g) #[] #[]),(11,.slice pa a.length ca),(12,vZ a.length),(13,vZ i)]) (fun i d' L'=>d'=d∧i≤a.length∧i≤b.length∧BW BX a b=BW BX (a.drop i) (b.drop i)) (fun i=>a.length - i) 0 ⟨rfl,rfl,rfl,rfl,rfl,rfl,trivial⟩ ⟨rfl,Xw _,Xw _,rfl⟩ ?_;rintro i ρ d' L' ⟨hdd,hi,hj,heq⟩;subst hdd;have hv2:RSl 6 Aw d' (.slice pa a.length ca) a:=hv';have hw2:RSl 6 Aw d' (.slice pb b.length cb) b:=hw';by_cases hc:i<a.length
 ·by_cases hcb:i<b.length
  ·rw[Nx hc hcb] at heq;(refine Ac<|Av rfl rfl<|Aa<|Ah<|Au rfl (by omega)<|Ao<|Ah<|As<|Ac<|Ab rfl<|AN (sz:=6) (R:=Aw) (by rfl) (by assumption) (by rfl) rfl (by omega) ?_;rintro _ _ _ _ _ _;refine B5 rfl (by assumption) (by assumption)<|AV (fun _ _=>Ab rfl ?_));rename_i cs hcs hD hR b8 T8;obtain⟨c0,c1,c2,c3,c4,c5,rfl⟩:=six hcs;refine AA 0 [c0,c1,c2,c3,c4,c5] rfl rfl rfl rfl (No rfl) (AK _ _ _ hR) rfl ?_;(refine Aa<|Ah<|Ac<|Ab rfl<|Ar rfl<|Ay rfl<|CY rfl rfl<|Aa<|An rfl (by omega)<|Ao<|Ac<|Ar rfl<|Ab rfl<|AN (sz:=6) (R:=Aw) (by rfl) (by assumption) (by rfl) rfl (by omega) ?_;rintro _ _ _ _ _ _;refine B5 rfl (by assumption) (by assumption)<|AV (fun _ _=>?_));rename_i ds hds hD2 hR2 b9 T9;obtain⟨e0,e1,e2,e3,e4,e5,rfl⟩:=six hds;refine AA 0 [e0,e1,e2,e3,e4,e5] rfl rfl rfl rfl (No rfl) (AK _ _ _ hR2) rfl ?_;(refine Aa<|Ac<|Cz rfl<|AE 1 rfl rfl rfl<|AE 0 rfl rfl rfl ?_);refine DD (vs:=[.agg [c0,c1,c2,c3,c4,c5].toArray,.agg [e0,e1,e2,e3,e4,e5].toArray]) rfl rfl (hg _ (Xh hc) _ (Xh hcb) _ _ hR hR2) ?_;by_cases hz:BX a[i] b[i]=0
   ·rw[hz,GR] at heq;(refine Ab rfl<|Aa<|Ac<|Ab rfl<|AB rfl rfl<|Aa<|An rfl (by omega)<|Ao<|Ax<|AI rfl rfl (by omega) (by omega)<|Ab rfl<|Aa ?_);exact⟨i+1,by omega,⟨rfl,rfl,rfl,rfl,rfl,int_eq (by omega),trivial⟩,rfl,hc,hcb,heq⟩
   ·rw[Gc hz] at heq;(refine Ab rfl<|Aa<|Ac<|Ab rfl<|AB rfl rfl<|Aa<|Au rfl (by omega)<|Ac<|Ab rfl<|Ab rfl<|Aa<|Aq ?_);exact Bs (int_eq heq.symm)
  ·have hend:=Ig (f:=BX) i a b hi hj (.inr (by omega));rw[CU (by omega)] at hend;(refine Ac<|Av rfl rfl<|Aa<|Ah<|Au rfl (by omega)<|Ao<|Ah<|As<|Ac<|Ab rfl<|AN (sz:=6) (R:=Aw) (by rfl) (by assumption) (by rfl) rfl (by omega) ?_;rintro _ _ _ _ _ _;refine B5 rfl (by assumption) (by assumption)<|AV (fun _ _=>Ab rfl ?_));rename_i cs hcs hD hR b8 T8;obtain⟨c0,c1,c2,c3,c4,c5,rfl⟩:=six hcs;refine AA 0 [c0,c1,c2,c3,c4,c5] rfl rfl rfl rfl (No rfl) (AK _ _ _ hR) rfl ?_;(refine Aa<|Ah<|Ac<|Ab rfl<|Ar rfl<|Ay rfl<|CY rfl rfl<|Aa<|Au rfl (by omega)<|Ac<|Ab rfl<|Aa<|Aq ?_);exact Bs (int_eq (by rw[heq,hend]))
 ·have hend:=Ig (f:=BX) i a b hi hj (.inl (by omega));by_cases hcb:(a.length:Int)<b.length
  ·rw[C9 hcb] at hend;(refine Ac<|Av rfl rfl<|Aa<|Ah<|An rfl (by omega)<|AU<|Ah<|Ac<|Ar rfl<|Ay rfl<|Ar rfl<|Ay rfl<|Av rfl rfl<|Aa<|Au rfl (by omega)<|Ac<|Ab rfl<|Aa<|Aq ?_);exact Bs (int_eq (by rw[heq,hend]))
  ·rw[DE (by omega)] at hend;(refine Ac<|Av rfl rfl<|Aa<|Ah<|An rfl (by omega)<|AU<|Ah<|Ac<|Ar rfl<|Ay rfl<|Ar rfl<|Ay rfl<|Av rfl rfl<|Aa<|An rfl (by omega)<|Ao<|Ac<|Ab rfl<|Aa<|Aq ?_);exact Bs (int_eq (by rw[heq,hend]))
def EC(P:Program)(f:FuncId):Prop:=∀{d v w l m g},B9 d v l→B9 d w m→FR P g→
 AG P f [v,w,.func (.func g) #[] #[]] d (vZ (BW Dm l m))
def Dl:A0:=⟨39,[(.tmp 6)],(sR (o1 6 (.mv z0) .done) (.seq (sR (om 11 0<|oL 12 11<|o1 13 (.mv z0) .done) (.block 0 (.loop (sR (ob 14 .lss 13 12 .done) (.seq (.cond 14 .skip (.exit 0)) (.seq (.block 1 (sR (om 15 13<|oI 16 1 11 13<|ol 17 16<|om 7 15<|om 8 17 .done) (.seq (sR (om 18 7<|om 19 1<|oL 20 19<|ob 21 .geq 18 20 .done) (.cond 21 (sR (o1 6 (.mv z1) .done) .ret) .skip)) (sR (om 22 1<|om 23 7<|oI 24 1 22 23<|ol 25 24<|om 9 25 .done) (sR (om 26 2<|om 27 8<|om 28 9<|o1 29 (.callv 26 [27,28])<|om 10 29 .done) (sR (om 30 10<|ob 31 .neq 30 z0 .done) (.cond 31 (sR (om 32 10<|om 6 32 .done) .ret) .skip))))))) (rG (ob 33 .add 13 z1<|om 13 33 .done)))))))) (.seq (sR (om 34 0<|oL 35 34<|om 36 1<|oL 37 36<|ob 38 .lss 35 37 .done) (.cond 38 (sR (o1 6 (.mv (kZ (-1))) .done) .ret) .skip)) (sR (o1 6 (.mv z0) .done) .ret))))⟩
set_option maxHeartbeats 1000000 in
def PM(hd:dec P f=some Dl):EC P f:=by
 intro d v w a b g hv hw hg;have n1:=RSl.A2 hv;have n2:=RSl.A2 hw;obtain⟨pa,ca,rfl⟩:=RSl.val hv;obtain⟨pb,cb,rfl⟩:=RSl.val hw;have hv':RSl 1 Bk d (.slice pa a.length ca) a:=hv;have hw':RSl 1 Bk d (.slice pb b.length cb) b:=hw;refine AG.of' hd (No rfl) ?_;show gwp P _ _ _ _ _;(refine Ac<|Ab rfl<|Aa<|Ah<|Ac<|Ar rfl<|Ay rfl<|Ab rfl<|Aa<|As ?_);refine A6 (α:=Nat) (fun i=>[(0,.slice pa a.length ca),(1,.slice pb b.length cb),(2,.func (.func g) #[] #[]),(11,.slice pa a.length ca),(12,vZ a.length),(13,vZ i)]) (fun i d' L'=>d'=d∧i≤a.length∧i≤b.length∧BW Dm a b=BW Dm (a.drop i) (b.drop i)) (fun i=>a.length - i) 0 ⟨rfl,rfl,rfl,rfl,rfl,rfl,trivial⟩ ⟨rfl,Xw _,Xw _,rfl⟩ ?_;rintro i ρ d' L' ⟨hdd,hi,hj,heq⟩;subst hdd;have hv2:RSl 1 Bk d' (.slice pa a.length ca) a:=hv';have hw2:RSl 1 Bk d' (.slice pb b.length cb) b:=hw';by_cases hc:i<a.length
 ·by_cases hcb:i<b.length
  ·rw[Nx hc hcb] at heq;(refine Ac<|Av rfl rfl<|Aa<|Ah<|Au rfl (by omega)<|Ao<|Ah<|As<|Ac<|Ab rfl<|AN (sz:=1) (R:=Bk) (by rfl) (by assumption) (by rfl) rfl (by omega) ?_;rintro _ _ _ _ _ ⟨rfl,_⟩;refine Ai rfl (Bb (by assumption) rfl)<|Ab rfl<|Bj rfl<|Aa<|Ah<|Ac<|Ab rfl<|Ar rfl<|Ay rfl<|CY rfl rfl<|Aa<|An rfl (by omega)<|Ao<|Ac<|Ar rfl<|Ab rfl<|AN (sz:=1) (R:=Bk) (by rfl) (by assumption) (by rfl) rfl (by omega) ?_;rintro _ _ _ _ _ ⟨rfl,_⟩;refine Ai rfl (Bb (by assumption) rfl)<|Bj rfl<|Aa<|Ac<|Cz rfl<|Bj rfl<|Bj rfl ?_);refine DD (vs:=[Al a[i],Al b[i]]) rfl rfl hg ?_;by_cases hz:Dm a[i] b[i]=0
   ·rw[hz,GR] at heq;have hz':Lib.compareBytes a[i] b[i]=0:=hz;(refine Ab rfl<|Aa<|Ac<|Ab rfl<|AB rfl rfl<|Aa<|An rfl (by omega)<|Ao<|Ax<|AI rfl rfl (by omega) (by omega)<|Ab rfl<|Aa ?_);exact⟨i+1,by omega,⟨rfl,rfl,rfl,rfl,rfl,int_eq (by omega),trivial⟩,rfl,hc,hcb,heq⟩
   ·rw[Gc hz] at heq;have hz':¬Lib.compareBytes a[i] b[i]=0:=hz;(refine Ab rfl<|Aa<|Ac<|Ab rfl<|AB rfl rfl<|Aa<|Au rfl (by omega)<|Ac<|Ab rfl<|Ab rfl<|Aa<|Aq ?_);exact Bs (int_eq heq.symm)
  ·have hend:=Ig (f:=Dm) i a b hi hj (.inr (by omega));rw[CU (by omega)] at hend;(refine Ac<|Av rfl rfl<|Aa<|Ah<|Au rfl (by omega)<|Ao<|Ah<|As<|Ac<|Ab rfl<|AN (sz:=1) (R:=Bk) (by rfl) (by assumption) (by rfl) rfl (by omega) ?_;rintro _ _ _ _ _ ⟨rfl,_⟩;refine Ai rfl (Bb (by assumption) rfl)<|Ab rfl<|Bj rfl<|Aa<|Ah<|Ac<|Ab rfl<|Ar rfl<|Ay rfl<|CY rfl rfl<|Aa<|Au rfl (by omega)<|Ac<|Ab rfl<|Aa<|Aq ?_);exact Bs (int_eq (by rw[heq,hend]))
 ·have hend:=Ig (f:=Dm) i a b hi hj (.inl (by omega));by_cases hcb:(a.length:Int)<b.length
  ·rw[C9 hcb] at hend;(refine Ac<|Av rfl rfl<|Aa<|Ah<|An rfl (by omega)<|AU<|Ah<|Ac<|Ar rfl<|Ay rfl<|Ar rfl<|Ay rfl<|Av rfl rfl<|Aa<|Au rfl (by omega)<|Ac<|Ab rfl<|Aa<|Aq ?_);exact Bs (int_eq (by rw[heq,hend]))
  ·rw[DE (by omega)] at hend;(refine Ac<|Av rfl rfl<|Aa<|Ah<|An rfl (by omega)<|AU<|Ah<|Ac<|Ar rfl<|Ay rfl<|Ar rfl<|Ay rfl<|Av rfl rfl<|Aa<|An rfl (by omega)<|Ao<|Ac<|Ab rfl<|Aa<|Aq ?_);exact Bs (int_eq (by rw[heq,hend]))
def HL(a0:Nat):A0:=⟨11,[(.tmp 6)],(sR (o1 6 (.mv z0) .done) (sR (om 7 0<|om 8 1<|om 9 2<|oc 10 a0 [7,8,9]<|om 6 10 .done) .ret))⟩
def TP(hd:dec P f=some (HL f1))(h1:D3 P f1):D3 P f:=by
 intro d v w a b g hv hw hg;obtain⟨pa,ca,rfl⟩:=RSl.val hv;obtain⟨pb,cb,rfl⟩:=RSl.val hw;refine AG.of' hd (No rfl) ?_;show gwp P _ _ _ _ _;(refine Ac<|Ab rfl<|Aa<|Ac<|Ar rfl<|Ar rfl<|Cz rfl ?_);refine AD rfl (h1 hv hw hg) ?_;(refine Ab rfl<|Aa<|Aq ?_);exact Bs rfl
def I2(a0:Nat):A0:=⟨11,[(.tmp 6)],(sR (o1 6 (.mv z0) .done) (sR (om 7 0<|om 8 1<|om 9 2<|oc 10 a0 [7,8,9]<|om 6 10 .done) .ret))⟩
def TL(hd:dec P f=some (I2 f1))(h1:EC P f1):EC P f:=by
 intro d v w a b g hv hw hg;obtain⟨pa,ca,rfl⟩:=RSl.val hv;obtain⟨pb,cb,rfl⟩:=RSl.val hw;refine AG.of' hd (No rfl) ?_;show gwp P _ _ _ _ _;(refine Ac<|Ab rfl<|Aa<|Ac<|Ar rfl<|Ar rfl<|Cz rfl ?_);refine AD rfl (h1 hv hw hg) ?_;(refine Ab rfl<|Aa<|Aq ?_);exact Bs rfl
def Ox(T:Ae→Prop)(P:Program)(f:FuncId):Prop:=∀(a b:V) {d cs ds},T d→Aw d cs a→Aw d ds b→Bc a=true→Bc b=true→AG P f [.agg cs.toArray,.agg ds.toArray] d (vZ (BX a b))
def LU(a0 a1 a2 a3 a4 a5:Nat):A0:=⟨53,[(.tmp 4)],(sR (o1 2 (.box 0)<|o1 3 (.box 1)<|o1 4 (.mv z0) .done) (.seq (sR (oj 8 0 2<|ol 9 8<|oj 10 0 3<|ol 11 10<|ob 12 .neq 9 11 .done) (.cond 12 (sR (oj 13 0 2<|ol 14 13<|oj 15 0 3<|ol 16 15<|oc 17 a0 [14,16]<|om 4 17 .done) .ret) .skip)) (.seq (sR (oj 18 0 2<|ol 19 18 .done) (.block 0 (sR (ob 21 .eql 19 (kZ 3)<|om 20 21 .done) (.cond 20 (sR (oj 23 1 2<|o1 24 (.ld (some 2) 23)<|oj 25 1 3<|o1 26 (.ld (some 2) 25)<|oc 27 a1 [24,26]<|om 22 27<|oe 28 22 0<|oe 29 22 1<|om 5 28<|om 6 29 .done) (sR (om 30 5<|om 4 30 .done) .ret)) (sR (ob 32 .eql 19 (kZ 4)<|om 31 32 .done) (.cond 31 (sR (oj 33 3 2<|ol 34 33<|oj 35 3 3<|ol 36 35<|oc 37 a2 [34,36]<|om 4 37 .done) .ret) (sR (ob 39 .eql 19 (kZ 6)<|om 38 39 .done) (.cond 38 (sR (oj 40 5 2<|ol 41 40<|oj 42 5 3<|ol 43 42<|oc 44 a3 [41,43,(.func a2)]<|om 7 44 .done) (sR (om 45 7<|ob 46 .neq 45 z0 .done) (.cond 46 (sR (om 47 7<|om 4 47 .done) .ret) .skip))) .skip)))))))) (sR (oj 48 4 2<|ol 49 48<|oj 50 4 3<|ol 51 50<|oc 52 a4 [49,51,(.func a5)]<|om 4 52 .done) .ret))))⟩
set_option maxHeartbeats 1000000 in
def PW{T:Ae→Prop}{f2 f3 f4 f5}(hd:dec P f=some (LU f1 f2 f3 f4 f5 f))(h1:HR P f1)(h2:ID T P f2)(h3:FR P f3)(h4:EC P f4)(h5:D3 P f5):Ox T P f:=by
 intro a;induction a using V.ind with
 |h a ih=>
 intro b d cs ds ht ha hb ma mb;refine AG.of' hd (No rfl) ?_;obtain⟨x1,x2,x3,x4,x5,x6⟩:=Im ma;obtain⟨y1,y2,y3,y4,y5,y6⟩:=Im mb;have hE:=ED a b;obtain⟨lv,kv,rfl,ik,im,ie,it,hl,hks⟩:=ha.open;obtain⟨lv',kv',rfl,ik',im',ie',it',hl',hks'⟩:=hb.open;obtain⟨la,lc,rfl⟩:=RSl.val hl;obtain⟨ka,kc,rfl⟩:=RSl.val hks;obtain⟨la',lc',rfl⟩:=RSl.val hl';obtain⟨ka',kc',rfl⟩:=RSl.val hks';have hih:∀x∈a.list,∀y∈b.list,∀cs ds,Aw d cs x→Aw d ds y→AG P f [.agg cs.toArray,.agg ds.toArray] d (vZ (BX x y)):=fun x hx y hy cs ds hcx hcy=>ih x hx y ht hcx hcy (Ci ma hx) (Ci mb hy);show gwp P _ _ _ _ _;apply Ah;apply Ax;refine AR (l:=[vZ a.kind,vZ a.m,vZ a.e,Al a.text,.slice la a.list.length lc,.slice ka a.keys.length kc]) rfl (fun b2 T2=>?_);refine AR (l:=[vZ b.kind,vZ b.m,vZ b.e,Al b.text,.slice la' b.list.length lc',.slice ka' b.keys.length kc']) rfl (fun b3 T3=>?_);by_cases p1:a.kind=b.kind
 ·rw[p1,DE rfl,GR] at hE;by_cases p3:b.kind=3
  ·rw[if_pos p3,y3.resolve_left (by omega),x3.resolve_left (by omega),y5.resolve_left (by omega),x5.resolve_left (by omega),y4.resolve_left (by omega),x4.resolve_left (by omega)] at hE;have hE:BX a b=C3 a.m a.e b.m b.e:=by rw[hE];exact Uy _
   have hn:EL a.m a.e b.m b.e=(BX a b,0):=by rw[hE,EL,x6,y6];rfl
   (refine Ab rfl<|Aa<|Ah<|Ac<|Ag rfl<|Ai rfl (Ak 1 rfl rfl)<|Ag rfl<|Ai rfl (Ak 0 rfl rfl)<|AB rfl rfl<|Aa<|An rfl (by omega)<|Ao<|Ah<|Ac<|Ag rfl<|Ai rfl (Ak 1 rfl rfl)<|Aa<|As<|Ac<|At rfl rfl<|Ad rfl<|Aa<|Au rfl (by omega)<|Ac<|Ag rfl<|Bv 1 rfl rfl rfl<|Ag rfl<|Bv 0 rfl rfl rfl ?_);refine AD rfl (h2 ht im ie im' ie') ?_;rw[hn];(refine A9 rfl<|AH rfl rfl<|AH rfl rfl<|Ab rfl<|Ab rfl<|Aa<|Ac<|Ab rfl<|Ab rfl<|Aa<|Aq ?_);exact Bs rfl
  rw[if_neg p3,GR] at hE;by_cases p4:b.kind=4
  ·rw[y5.resolve_left (by omega),x5.resolve_left (by omega),y4.resolve_left (by omega),x4.resolve_left (by omega)] at hE;have hE:BX a b=Dm a.text b.text:=by rw[hE];exact Uy _
   (refine Ab rfl<|Aa<|Ah<|Ac<|Ag rfl<|Ai rfl (Ak 1 rfl rfl)<|Ag rfl<|Ai rfl (Ak 0 rfl rfl)<|AB rfl rfl<|Aa<|An rfl (by omega)<|Ao<|Ah<|Ac<|Ag rfl<|Ai rfl (Ak 1 rfl rfl)<|Aa<|As<|Ac<|At rfl rfl<|Ad rfl<|Aa<|An rfl (by omega)<|Ac<|At rfl rfl<|Ad rfl<|Aa<|Au rfl (by omega)<|Ac<|Ag rfl<|Ai rfl (Ak 1 rfl rfl)<|Ag rfl<|Ai rfl (Ak 0 rfl rfl) ?_);refine AD rfl h3 ?_;(refine Ab rfl<|Aa<|Aq ?_);exact Bs (int_eq hE.symm)
  rw[y3.resolve_left (by omega),x3.resolve_left (by omega),show Dm [] []=0 from rfl,GR] at hE;by_cases p6:b.kind=6
  ·(refine Ab rfl<|Aa<|Ah<|Ac<|Ag rfl<|Ai rfl (Ak 1 rfl rfl)<|Ag rfl<|Ai rfl (Ak 0 rfl rfl)<|AB rfl rfl<|Aa<|An rfl (by omega)<|Ao<|Ah<|Ac<|Ag rfl<|Ai rfl (Ak 1 rfl rfl)<|Aa<|As<|Ac<|At rfl rfl<|Ad rfl<|Aa<|An rfl (by omega)<|Ac<|At rfl rfl<|Ad rfl<|Aa<|An rfl (by omega)<|Ac<|At rfl rfl<|Ad rfl<|Aa<|Au rfl (by omega)<|Ac<|Ag rfl<|Ai rfl (Ak 1 rfl rfl)<|Ag rfl<|Ai rfl (Ak 0 rfl rfl) ?_);refine AD rfl (h4 hks hks' h3) ?_;by_cases hz:BW Dm a.keys b.keys=0
   ·rw[hz,GR] at hE;(refine Ab rfl<|Aa<|Ac<|Ab rfl<|AB rfl rfl<|Aa<|An rfl (by omega)<|Ao<|Ac<|Ag rfl<|Ai rfl (Ak 1 rfl rfl)<|Ag rfl<|Ai rfl (Ak 0 rfl rfl) ?_);refine AD rfl (h5 hl hl' hih) ?_;(refine Ab rfl<|Aa<|Aq ?_);exact Bs (int_eq hE.symm)
   ·rw[Gc hz] at hE;(refine Ab rfl<|Aa<|Ac<|Ab rfl<|AB rfl rfl<|Aa<|Au rfl (by omega)<|Ac<|Ab rfl<|Ab rfl<|Aa<|Aq ?_);exact Bs (int_eq hE.symm)
  ·rw[y5.resolve_left (by omega),x5.resolve_left (by omega),TT,GR] at hE;(refine Ab rfl<|Aa<|Ah<|Ac<|Ag rfl<|Ai rfl (Ak 1 rfl rfl)<|Ag rfl<|Ai rfl (Ak 0 rfl rfl)<|AB rfl rfl<|Aa<|An rfl (by omega)<|Ao<|Ah<|Ac<|Ag rfl<|Ai rfl (Ak 1 rfl rfl)<|Aa<|As<|Ac<|At rfl rfl<|Ad rfl<|Aa<|An rfl (by omega)<|Ac<|At rfl rfl<|Ad rfl<|Aa<|An rfl (by omega)<|Ac<|At rfl rfl<|Ad rfl<|Aa<|An rfl (by omega)<|Ao<|Ac<|Ag rfl<|Ai rfl (Ak 1 rfl rfl)<|Ag rfl<|Ai rfl (Ak 0 rfl rfl) ?_);refine AD rfl (h5 hl hl' hih) ?_;(refine Ab rfl<|Aa<|Aq ?_);exact Bs (int_eq hE.symm)
 ·have hz:B2 a.kind b.kind≠0:=fun q=>p1 (DV.1 q);rw[Gc hz] at hE;(refine Ab rfl<|Aa<|Ah<|Ac<|Ag rfl<|Ai rfl (Ak 1 rfl rfl)<|Ag rfl<|Ai rfl (Ak 0 rfl rfl)<|AB rfl rfl<|Aa<|Au rfl (by omega)<|Ac<|Ag rfl<|Ai rfl (Ak 1 rfl rfl)<|Ag rfl<|Ai rfl (Ak 0 rfl rfl) ?_);refine AD rfl h1 ?_;(refine Ab rfl<|Aa<|Aq ?_);exact Bs (int_eq hE.symm)
def G2(a b:V):Int×Int:=if AP a≠0 then(0,AP a) else if AP b≠0 then(0,AP b) else(BX a b,0)
def K1(T:Ae→Prop)(P:Program)(f:FuncId):Prop:=∀(a b:V) {d cs ds},T d→Aw d cs a→Aw d ds b→Bh a≤1000000000→Bh b≤1000000000→AG P f [.agg cs.toArray,.agg ds.toArray] d (.tuple #[vZ (G2 a b).1,vZ (G2 a b).2])
def Kf(v:V):AP v=0∨AP v=30∨AP v=31:=by rw[AP];split<;>(try split)<;>simp
def P0(a0 a1:Nat):A0:=⟨21,[(.tmp 4),(.tmp 5)],(sR (o1 2 (.box 0)<|o1 3 (.box 1)<|o1 4 (.mv z0)<|o1 5 (.mv z0) .done) (.seq (sR (o1 8 (.ld (some 6) 2)<|oc 9 a0 [8]<|om 6 9 .done) (sR (om 10 6<|ob 11 .neq 10 z0 .done) (.cond 11 (sR (om 12 6<|o1 4 (.mv z0)<|om 5 12 .done) .ret) .skip))) (.seq (sR (o1 13 (.ld (some 6) 3)<|oc 14 a0 [13]<|om 7 14 .done) (sR (om 15 7<|ob 16 .neq 15 z0 .done) (.cond 16 (sR (om 17 7<|o1 4 (.mv z0)<|om 5 17 .done) .ret) .skip))) (sR (o1 18 (.ld (some 6) 2)<|o1 19 (.ld (some 6) 3)<|oc 20 a1 [18,19]<|om 4 20<|o1 5 (.mv z0) .done) .ret))))⟩
set_option maxHeartbeats 1000000 in
def VU{T:Ae→Prop}{f2}(hd:dec P f=some (P0 f1 f2))(h1:Ez T P f1)(h2:Ox T P f2):K1 T P f:=by
 intro a b d cs ds ht ha hb _ _;refine AG.of' hd (No rfl) ?_;obtain⟨c0,c1,c2,c3,c4,c5,rfl⟩:=six ha.len;obtain⟨e0,e1,e2,e3,e4,e5,rfl⟩:=six hb.len;have qa:=Kf a;have qb:=Kf b;show gwp P _ _ _ _ _;apply Ah;apply Ax;refine AR (l:=[c0,c1,c2,c3,c4,c5]) rfl (fun b2 T2=>?_);refine AR (l:=[e0,e1,e2,e3,e4,e5]) rfl (fun b3 T3=>?_);by_cases p1:AP a=0
 ·by_cases p2:AP b=0
  ·rw[G2,if_neg (by omega),if_neg (by omega)];(refine Ab rfl<|Ab rfl<|Aa<|Ah<|Ac<|AE 1 rfl rfl rfl ?_);refine AD rfl (h1 ht ha) ?_;(refine Ab rfl<|Aa<|Ac<|Ab rfl<|AB rfl rfl<|Aa<|An rfl (by omega)<|Ao<|Ah<|Ac<|AE 0 rfl rfl rfl ?_);refine AD rfl (h1 ht hb) ?_;(refine Ab rfl<|Aa<|Ac<|Ab rfl<|AB rfl rfl<|Aa<|An rfl (by omega)<|Ao<|Ac<|AE 1 rfl rfl rfl<|AE 0 rfl rfl rfl ?_);refine AD rfl (h2 a b ht ha hb (BU.1 p1).1 (BU.1 p2).1) ?_;(refine Ab rfl<|Ab rfl<|Aa<|Aq ?_);exact Cu rfl rfl
  ·rw[G2,if_neg (by omega),if_pos p2];(refine Ab rfl<|Ab rfl<|Aa<|Ah<|Ac<|AE 1 rfl rfl rfl ?_);refine AD rfl (h1 ht ha) ?_;(refine Ab rfl<|Aa<|Ac<|Ab rfl<|AB rfl rfl<|Aa<|An rfl (by omega)<|Ao<|Ah<|Ac<|AE 0 rfl rfl rfl ?_);refine AD rfl (h1 ht hb) ?_;(refine Ab rfl<|Aa<|Ac<|Ab rfl<|AB rfl rfl<|Aa<|Au rfl (by omega)<|Ac<|Ab rfl<|Ab rfl<|Ab rfl<|Aa<|Aq ?_);exact Cu rfl rfl
 ·rw[G2,if_pos p1];(refine Ab rfl<|Ab rfl<|Aa<|Ah<|Ac<|AE 1 rfl rfl rfl ?_);refine AD rfl (h1 ht ha) ?_;(refine Ab rfl<|Aa<|Ac<|Ab rfl<|AB rfl rfl<|Aa<|Au rfl (by omega)<|Ac<|Ab rfl<|Ab rfl<|Ab rfl<|Aa<|Aq ?_);exact Cu rfl rfl
end Go.Gk.Val
end
section
namespace Go.Gk.Val
open Go Go.Gk Go.Gk.Utf Go.Gk.Num
attribute [local irreducible] gwp gws
variable{f1:FuncId}
def Gn{v:V}(h:Bc v=true)(h3:v.kind=3):v.text=[]∧v.keys=[]∧v.list=[]∧Bg v.m v.e=true:=by
 have h1:=Cv h;simp only[BK,BL,Xg,XN,decide_eq_true_eq] at h1;obtain⟨⟨⟨⟨⟨⟨⟨⟨_,_⟩,a⟩,b⟩,c⟩,n⟩,_⟩,_⟩,_⟩:=h1;exact⟨by rcases a with q|q;exact absurd q (by omega);exact q,by rcases c with q|q;exact absurd q (by omega);exact q,by rcases b with q|q;exact absurd q (by omega);exact q,n⟩
def Sp{x y:V}(hx:Bc x=true)(hy:Bc y=true)(kx:x.kind=3)(ky:y.kind=3):BX x y=C3 x.m x.e y.m y.e:=by
 obtain⟨x1,x2,x3,_⟩:=Gn hx kx;obtain⟨y1,y2,y3,_⟩:=Gn hy ky;rw[ED,x1,x2,x3,y1,y2,y3,kx,ky,if_pos rfl];have h0:B2 3 3=0:=by decide
 have h1:Dm [] []=0:=by decide
 rw[h0,h1];simp[thn,BW];exact fun h=>h.symm
def Mn(T:Ae→Prop)(P:Program)(f:FuncId):Prop:=∀{d cs ds}{x y:V},T d→Aw d cs x→Aw d ds y→AP x=0→AP y=0→AG P f [.agg cs.toArray,.agg ds.toArray] d (vZ (BX x y))
def Jq(a0 a1:Nat):A0:=⟨33,[(.tmp 4)],(sR (o1 2 (.box 0)<|o1 3 (.box 1)<|o1 4 (.mv z0) .done) (.seq (sR (oj 9 0 2<|ol 10 9<|ob 11 .eql 10 (kZ 3)<|om 12 11<|oT 13 12 (.fld 0 3)<|oT 14 12 (.ld none 13)<|oT 15 12 (.bin .eql 14 (kZ 3))<|gP 16 12 15 .done) (.cond 16 (sR (oj 18 1 2<|o1 19 (.ld (some 2) 18)<|oj 20 1 3<|o1 21 (.ld (some 2) 20)<|oc 22 a0 [19,21]<|om 17 22<|oe 23 17 0<|oe 24 17 1<|om 5 23<|om 6 24 .done) (sR (om 25 5<|om 4 25 .done) .ret)) .skip)) (sR (o1 27 (.ld (some 6) 2)<|o1 28 (.ld (some 6) 3)<|oc 29 a1 [27,28]<|om 26 29<|oe 30 26 0<|oe 31 26 1<|om 7 30<|om 8 31 .done) (sR (om 32 7<|om 4 32 .done) .ret))))⟩
set_option maxHeartbeats 1000000 in
def TB{T:Ae→Prop}{P f f2}(hd:dec P f=some (Jq f1 f2))(h1:ID T P f1)(h2:K1 T P f2):Mn T P f:=by
 intro d cs ds x y ht hx hy rx ry;refine AG.of' hd (No rfl) ?_;have mx:=(BU.1 rx).1;have my:=(BU.1 ry).1;have dx:=(BU.1 rx).2;have dy:=(BU.1 ry).2;have hx0:=hx;have hy0:=hy;have hc:=h2 x y ht hx0 hy0 (by omega) (by omega);rw[show G2 x y=(BX x y,0) by unfold G2;rw[if_neg (fun q=>q rx),if_neg (fun q=>q ry)]] at hc;obtain⟨lx,kx,rfl,_,imx,iex,_,hlx,hkx⟩:=hx.open;obtain⟨ly,ky,rfl,_,imy,iey,_,hly,hky⟩:=hy.open;obtain⟨la,lc,rfl⟩:=RSl.val hlx;obtain⟨ka,kc,rfl⟩:=RSl.val hkx;obtain⟨ma,mc,rfl⟩:=RSl.val hly;obtain⟨na,nc,rfl⟩:=RSl.val hky;show gwp P _ _ _ _ _;apply Ah;apply Ax;refine AR (l:=[vZ x.kind,vZ x.m,vZ x.e,Al x.text,.slice la x.list.length lc,.slice ka x.keys.length kc]) rfl (fun b2 T2=>?_);refine AR (l:=[vZ y.kind,vZ y.m,vZ y.e,Al y.text,.slice ma y.list.length mc,.slice na y.keys.length nc]) rfl (fun b3 T3=>?_);by_cases k1:x.kind=3
 ·by_cases k2:y.kind=3
  ·have hn:=h1 ht imx iex imy iey;rw[show EL x.m x.e y.m y.e=(BX x y,0) by unfold EL;rw[(Gn mx k1).2.2.2,(Gn my k2).2.2.2,Sp mx my k1 k2];rfl] at hn;(refine Ab rfl<|Aa<|Ah<|Ac<|Ag rfl<|Ai rfl (Ak 1 rfl rfl)<|At rfl rfl<|Ad rfl<|AF rfl (by omega)<|Af rfl<|Ag rfl<|Af rfl<|Ai rfl (Ak 0 rfl rfl)<|Af rfl<|At rfl rfl<|Ap rfl rfl<|Aa<|Au rfl (by omega)<|Ac<|Ag rfl<|Bv 1 rfl rfl rfl<|Ag rfl<|Bv 0 rfl rfl rfl ?_);refine AD rfl hn ?_;(refine A9 rfl<|AH rfl rfl<|AH rfl rfl<|Ab rfl<|Ab rfl<|Aa<|Ac<|Ab rfl<|Ab rfl<|Aa<|Aq ?_);exact Bs rfl
  ·(refine Ab rfl<|Aa<|Ah<|Ac<|Ag rfl<|Ai rfl (Ak 1 rfl rfl)<|At rfl rfl<|Ad rfl<|AF rfl (by omega)<|Af rfl<|Ag rfl<|Af rfl<|Ai rfl (Ak 0 rfl rfl)<|Af rfl<|At rfl rfl<|Ap rfl rfl<|Aa<|An rfl (by omega)<|Ao<|Ac<|AE 1 rfl rfl rfl<|AE 0 rfl rfl rfl ?_);refine AD rfl hc ?_;(refine A9 rfl<|AH rfl rfl<|AH rfl rfl<|Ab rfl<|Ab rfl<|Aa<|Ac<|Ab rfl<|Ab rfl<|Aa<|Aq ?_);exact Bs rfl
 ·(refine Ab rfl<|Aa<|Ah<|Ac<|Ag rfl<|Ai rfl (Ak 1 rfl rfl)<|At rfl rfl<|Ad rfl<|Az rfl (by omega)<|Aj rfl<|Aj rfl<|Aj rfl<|Am rfl rfl<|Aa<|AJ rfl<|Ao<|Ac<|AE 1 rfl rfl rfl<|AE 0 rfl rfl rfl ?_);refine AD rfl hc ?_;(refine A9 rfl<|AH rfl rfl<|AH rfl rfl<|Ab rfl<|Ab rfl<|Aa<|Ac<|Ab rfl<|Ab rfl<|Aa<|Aq ?_);exact Bs rfl
def PA(T:Ae→Prop)(P:Program)(f:FuncId):Prop:=∀{d cs ds}{x y:V},T d→Aw d cs x→Aw d ds y→(∀a∈x.list,AP a=0)→(∀a∈y.list,AP a=0)→AG P f [.agg cs.toArray,.agg ds.toArray] d (vZ (BW BX x.list y.list))
def Ks(a0 a1:Nat):A0:=⟨10,[(.tmp 4)],(sR (o1 2 (.box 0)<|o1 3 (.box 1)<|o1 4 (.mv z0) .done) (sR (oj 5 4 2<|ol 6 5<|oj 7 4 3<|ol 8 7<|oc 9 a0 [6,8,(.func a1)]<|om 4 9 .done) .ret))⟩
set_option maxHeartbeats 1000000 in
def U5{T:Ae→Prop}{P f f2}(hd:dec P f=some (Ks f1 f2))(h1:D3 P f1)(h2:Mn T P f2):PA T P f:=by
 intro d cs ds x y ht hx hy rx ry;refine AG.of' hd (No rfl) ?_;obtain⟨lx,kx,rfl,_,imx,iex,_,hlx,hkx⟩:=hx.open;obtain⟨ly,ky,rfl,_,imy,iey,_,hly,hky⟩:=hy.open;obtain⟨la,lc,rfl⟩:=RSl.val hlx;obtain⟨ka,kc,rfl⟩:=RSl.val hkx;obtain⟨ma,mc,rfl⟩:=RSl.val hly;obtain⟨na,nc,rfl⟩:=RSl.val hky;show gwp P _ _ _ _ _;apply Ah;apply Ax;refine AR (l:=[vZ x.kind,vZ x.m,vZ x.e,Al x.text,.slice la x.list.length lc,.slice ka x.keys.length kc]) rfl (fun b2 T2=>?_);refine AR (l:=[vZ y.kind,vZ y.m,vZ y.e,Al y.text,.slice ma y.list.length mc,.slice na y.keys.length nc]) rfl (fun b3 T3=>?_);(refine Ab rfl<|Aa<|Ac<|Ag rfl<|Ai rfl (Ak 1 rfl rfl)<|Ag rfl<|Ai rfl (Ak 0 rfl rfl) ?_);refine AD rfl (h1 hlx hly (fun a ha b hb cs ds q1 q2=>h2 ht q1 q2 (rx a ha) (ry b hb))) ?_;(refine Ab rfl<|Aa<|Aq ?_);exact Bs rfl
abbrev Nm:=List St×V
def RNm(d:Ae)(cs:List Value)(p:Nm):Prop:=∃u vs,cs=u::vs∧RSl 6 RSt d u p.1∧Aw d vs p.2
def IM:DN RNm:=fun d cs p h=>by
 obtain⟨u,vs,rfl,h1,h2⟩:=h;obtain⟨a,c,rfl⟩:=RSl.val h1;have:=AK _ _ _ h2;simpa [Value.oneCell'] using this
def Mq:HK RNm:=fun hl h=>by
 obtain⟨u,vs,rfl,h1,h2⟩:=h;exact⟨u,vs,rfl,RSl.mono (R:=RSt) Cp h1 hl,h2.mono hl⟩
def RNm.len{d cs}{p:Nm}(h:RNm d cs p):cs.length=7:=by obtain⟨u,vs,rfl,_,h2⟩:=h;simp[h2.len]
def My(T:Ae→Prop)(P:Program)(f:FuncId):Prop:=∀{d cs ds}{p q:Nm},T d→RNm d cs p→RNm d ds q→(∀a∈p.2.list,AP a=0)→(∀a∈q.2.list,AP a=0)→AG P f [.agg cs.toArray,.agg ds.toArray] d (vZ (BW BX q.2.list p.2.list))
def LY(a0:Nat):A0:=⟨10,[(.tmp 4)],(sR (o1 2 (.box 0)<|o1 3 (.box 1)<|o1 4 (.mv z0) .done) (sR (oj 5 1 3<|o1 6 (.ld (some 6) 5)<|oj 7 1 2<|o1 8 (.ld (some 6) 7)<|oc 9 a0 [6,8]<|om 4 9 .done) .ret))⟩
def RG{T:Ae→Prop}{P f}(hd:dec P f=some (LY f1))(h1:PA T P f1):My T P f:=by
 intro d cs ds p q ht hp hq rp rq;refine AG.of' hd (No rfl) ?_;obtain⟨u,vs,rfl,_,hv⟩:=hp;obtain⟨u',vs',rfl,_,hv'⟩:=hq;have hv0:=hv;have hv0':=hv';obtain⟨c0,c1,c2,c3,c4,c5,rfl⟩:=six hv.len;obtain⟨e0,e1,e2,e3,e4,e5,rfl⟩:=six hv'.len;show gwp P _ _ _ _ _;apply Ah;apply Ax;refine AR (l:=[u,c0,c1,c2,c3,c4,c5]) rfl (fun b2 T2=>?_);refine AR (l:=[u',e0,e1,e2,e3,e4,e5]) rfl (fun b3 T3=>?_);(refine Ab rfl<|Aa<|Ac<|Ag rfl<|Bv 0 rfl rfl rfl<|Ag rfl<|Bv 1 rfl rfl rfl ?_);refine AD rfl (h1 ht hv0' hv0 rq rp) ?_;(refine Ab rfl<|Aa<|Aq ?_);exact Bs rfl
def KL(P:Program)(f:FuncId):Prop:=∀{d cs ds}{p q:Nm},RNm d cs p→RNm d ds q→AG P f [.agg cs.toArray,.agg ds.toArray] d (.bool (CF p.2 q.2))
def Ll(a0:Nat):A0:=⟨10,[(.tmp 4)],(sR (o1 2 (.box 0)<|o1 3 (.box 1)<|o1 4 (.mv (.const (.bool false))) .done) (sR (oj 5 1 2<|o1 6 (.ld (some 6) 5)<|oj 7 1 3<|o1 8 (.ld (some 6) 7)<|oc 9 a0 [6,8]<|om 4 9 .done) .ret))⟩
def RM{P f}(hd:dec P f=some (Ll f1))(h1:EX P f1):KL P f:=by
 intro d cs ds p q hp hq;refine AG.of' hd (No rfl) ?_;obtain⟨u,vs,rfl,_,hv⟩:=hp;obtain⟨u',vs',rfl,_,hv'⟩:=hq;have hv0:=hv;have hv0':=hv';obtain⟨c0,c1,c2,c3,c4,c5,rfl⟩:=six hv.len;obtain⟨e0,e1,e2,e3,e4,e5,rfl⟩:=six hv'.len;show gwp P _ _ _ _ _;apply Ah;apply Ax;refine AR (l:=[u,c0,c1,c2,c3,c4,c5]) rfl (fun b2 T2=>?_);refine AR (l:=[u',e0,e1,e2,e3,e4,e5]) rfl (fun b3 T3=>?_);(refine Ad rfl<|Aa<|Ac<|Ag rfl<|Bv 1 rfl rfl rfl<|Ag rfl<|Bv 0 rfl rfl rfl ?_);refine AD rfl (h1 _ _ hv0 hv0') ?_;(refine Ad rfl<|Aa<|Aq ?_);exact Bs rfl
end Go.Gk.Val
end
section
namespace Go.Gk.Srt
open Go Go.Gk
variable{i:Nat}
section
structure Ord {α:Type}(c:α→α→Int):Prop where
 sw:∀a b,c a b= -c b a
 tr:∀a b e,c a b≤0→c b e≤0→c a e≤0
def Srt{α}(c:α→α→Int)(l:List α):Prop:=l.Pairwise fun x y=>c x y≤0
section
variable {α:Type}{c:α→α→Int}
def Ord.le_of_not_lt(o:Ord c){a b:α}(h:¬c a b<0):c b a≤0:=by have:=o.sw a b;omega
def Ord.le_of_lt(o:Ord c){a b:α}(h:c a b<0):c a b≤0:=by omega
def Srt.nil:Srt c []:=List.Pairwise.nil
def Srt.one(x:α):Srt c [x]:=by simp[Srt]
def H8{l m:List α}:Srt c (l++m)↔Srt c l∧Srt c m∧∀x∈l,∀y∈m,c x y≤0:=List.pairwise_append
def Srt.get{l:List α}(h:Srt c l){j:Nat}(hi:i<j)(hj:j<l.length):c (l[i]'(by omega)) l[j]≤0:=List.pairwise_iff_getElem.1 h i j (by omega) hj hi
def Srt.take{l:List α}(h:Srt c l)(k:Nat):Srt c (l.take k):=h.sublist (List.take_sublist k l)
def Srt.drop{l:List α}(h:Srt c l)(k:Nat):Srt c (l.drop k):=h.sublist (List.drop_sublist k l)
def Srt.cut{l:List α}(h:Srt c l)(k:Nat):∀x∈l.take k,∀y∈l.drop k,c x y≤0:=by
 have:=h;rw[←Xr k l] at this;exact(H8.1 this).2.2
def Srt.put(o:Ord c){l m:List α}{x:α}(h:Srt c (l++m))(h1:l=[]∨∃y,l.getLast?=some y∧c y x≤0)(h2:m=[]∨∃y,m.head?=some y∧c x y≤0):Srt c (l++x::m):=by
 obtain⟨a,b,e⟩:=H8.1 h;refine H8.2 ⟨a,?_,?_⟩
 ·refine XS.2 ⟨fun y hy=>?_,b⟩;rcases h2 with rfl|⟨z,hz,hx⟩
  ·cases hy
  ·cases m with
   |nil=>cases hy
   |cons w m=>
    cases hz
    rcases Xu.1 hy with rfl|hy
    ·exact hx
    ·exact o.tr _ _ _ hx ((XS.1 b).1 y hy)
 ·intro y hy z hz;rcases Xu.1 hz with rfl|hz
  ·rcases h1 with rfl|⟨w,hw,hx⟩
   ·cases hy
   ·obtain⟨l',rfl⟩:∃l',l=l'++[w]:=by
     rw[List.getLast?_eq_some_iff] at hw;exact hw
    rcases Xs.1 hy with hy|hy
    ·exact o.tr _ _ _ ((H8.1 a).2.2 y hy w (XT.2 rfl)) hx
    ·rw[XT.1 hy];exact hx
  ·exact e y hy z hz
def Sv{l1 l2 r1 r2 m1 m2:List α}(p1:m1.Perm (l1++r1))(p2:m2.Perm (l2++r2))(s1:Srt c m1)(s2:Srt c m2)
  (h1:∀x∈l1,∀y∈l2,c x y≤0) (h2:∀x∈l1,∀y∈r2,c x y≤0) (h3:∀x∈r1,∀y∈l2,c x y≤0) (h4:∀x∈r1,∀y∈r2,c x y≤0):Srt c (m1++m2):=by
 refine H8.2 ⟨s1,s2,fun x hx y hy=>?_⟩
 have hx':=Xs.1 (p1.mem_iff.1 hx)
 have hy':=Xs.1 (p2.mem_iff.1 hy)
 rcases hx' with hx'|hx'<;>rcases hy' with hy'|hy'
 ·exact h1 x hx' y hy'
 ·exact h2 x hx' y hy'
 ·exact h3 x hx' y hy'
 ·exact h4 x hx' y hy'
def LN(o:Ord c){l:List α}(h:Srt c l){x:α}{k:Nat}(hk:k<l.length)(hx:c x l[k]≤0):∀y∈l.drop k,c x y≤0:=by
 intro y hy;obtain⟨i,hi,rfl⟩:=List.mem_iff_getElem.1 hy;rw[List.getElem_drop];simp only[XX] at hi;by_cases q:i=0
 ·subst q;exact hx
 ·exact o.tr _ _ _ hx (h.get (i:=k) (j:=k+i) (by omega) (by omega))
def LW(o:Ord c){l:List α}(h:Srt c l){x:α}{k:Nat}(hk:k<l.length)(hx:c l[k] x≤0):∀y∈l.take (k+1),c y x≤0:=by
 intro y hy;obtain⟨i,hi,rfl⟩:=List.mem_iff_getElem.1 hy;rw[YJ];simp only[Xn] at hi;by_cases q:i=k
 ·subst q;exact hx
 ·exact o.tr _ _ _ (h.get (i:=i) (j:=k) (by omega) hk) hx
def WK(o:Ord c){l r:List α}(hl:Srt c l)(hr:Srt c r){s e:Nat}(hs:s≤l.length)(he:e≤r.length)
  (h1:s=0∨e=r.length∨∃(q:s - 1<l.length) (q':e<r.length),0<s∧c l[s - 1] r[e]≤0)
  (h2:e=0∨s=l.length∨∃(q:e - 1<r.length) (q':s<l.length),0<e∧c r[e - 1] l[s]≤0):
  (∀x∈l.take s,∀y∈r.drop e,c x y≤0)∧(∀x∈r.take e,∀y∈l.drop s,c x y≤0):=by
 constructor
 ·rcases h1 with rfl|rfl|⟨q,q',h0,h⟩
  ·simp
  ·simp
  ·intro x hx y hy
   have a:=LW o hl q h x (by rwa [show s - 1+1=s by omega])
   exact o.tr _ _ _ a (LN o hr q' (by have:=o.sw r[e] r[e];omega) y hy)
 ·rcases h2 with rfl|rfl|⟨q,q',h0,h⟩
  ·simp
  ·simp
  ·intro x hx y hy
   have a:=LW o hr q h x (by rwa [show e - 1+1=e by omega])
   exact o.tr _ _ _ a (LN o hl q' (by have:=o.sw l[s] l[s];omega) y hy)
def JQ{A M B:List α}{x y:α}{j:Nat}(h1:i=A.length)(h2:j=A.length+1+M.length):
  ((A++x::M++y::B).set i y).set j x=A++y::M++x::B:=by
 subst h1;subst h2
 apply List.ext_getElem
 ·simp
 ·intro k k1 k2
  simp only[List.getElem_set,List.getElem_append,List.getElem_cons,Xl,Xv]
  by_cases q1:k=A.length
  ·subst q1;simp;intro h;omega
  ·by_cases q2:k=A.length+1+M.length
   ·subst q2
    rw[if_pos rfl,dif_neg (by omega),dif_pos (by omega)]
   ·rw[if_neg (by omega),if_neg (by omega)]
    by_cases q3:k<A.length+(M.length+1)
    ·rw[dif_pos q3,dif_pos q3]
     by_cases q4:k<A.length
     ·rw[dif_pos q4,dif_pos q4]
     ·rw[dif_neg q4,dif_neg q4,dif_neg (by omega),dif_neg (by omega)]
    ·rw[dif_neg q3,dif_neg q3,dif_neg (by omega),dif_neg (by omega)]
def RJ{l:List α}(h:i<l.length):l=l.take i++l[i]::l.drop (i+1):=by rw[←XE h,Xr]
def ET{l:List α}(A B:List α){x:α}(e:l=A++x::B)(h:i=A.length)(hi:i<l.length):l[i]=x:=by subst e;subst h;simp
end
end
end Go.Gk.Srt
end
section
namespace Go.Gk
open Go
section
def AO.Li{α}{sz:Nat}{R d pa}{n c:Nat}{xs:List α}{h}(hsz:0<sz)(o:AO sz R d (.slice pa n c) xs h)(hne:0<xs.length):
  ∃b T l,pa=some ⟨b,0,none⟩∧n=xs.length∧h=bx b T l∧xs.length*sz≤l.length∧(∀m (hm:m<xs.length),R d (chunk l m sz) xs[m])∧
   ∀i j (hi:i<xs.length) (hj:j<xs.length),AO sz R d (.slice pa n c) ((xs.set i xs[j]).set j xs[i]) (bx b T (patch (patch l (i*sz) (chunk l j sz)) (j*sz) (chunk l i sz))):=by
 have o':=o
 obtain⟨cs,⟨h1,h2,⟨e,h0,rfl⟩|⟨b,T,l,c',e,rfl,h3,h4,h5,h6⟩⟩,hr⟩:=o
 ·omega
 ·injection e with e1 e2 e3
  subst e1;subst e2;subst e3
  have hcz:xs.length*sz≤c*sz:=Xx sz h3
  have hck:∀m,m<xs.length→chunk l m sz=chunk cs m sz:=by
   intro m hm;have hmz:m*sz+sz≤xs.length*sz:=by have:=Xx sz (show m+1≤xs.length from hm);rwa [XW,Yx] at this
   have hp:l=cs++l.drop cs.length:=by conv=>lhs;rw[←Xr cs.length l,h6]
   rw[hp];exact Dj h1 hm
  have hR:∀m (hm:m<xs.length),R d (chunk l m sz) xs[m]:=fun m hm=>by rw[hck m hm];exact hr m hm
  have hlen:∀m,m<xs.length→(chunk l m sz).length=sz:=fun m hm=>by rw[hck m hm];exact Nc h1 hm
  refine⟨b,T,l,rfl,rfl,rfl,by omega,hR,fun i j hi hj=>?_⟩
  obtain⟨b1,T1,l1,c1,e1,e2,_,k1⟩:=o'.NO hsz hi
  have e2:b=b1∧bx b T l=bx b T l1∧T1=T:=by
   have hb:b=b1:=by injection e1 with e1;injection e1 with e1;injection e1
   subst hb;have:=congrFun (congrFun e2 b) (.cells l.toArray T (0,0));have q:bx b T1 l1 b (.cells l.toArray T (0,0)):=this▸Co _ _;obtain⟨_,q⟩:=Fa q;injection q with q1 q2
   exact⟨rfl,by rw[e2,q2],q2.symm⟩
  obtain⟨rfl,e3,rfl⟩:=e2
  have e4:l=l1:=by
   have q:bx b T1 l1 b (.cells l.toArray T1 (0,0)):=e3▸Co _ _;obtain⟨_,q⟩:=Fa q;injection q with q1 q2
   exact(Array.toList_inj.2 q1)
  subst e4
  have o2:=k1 (chunk l j sz) xs[j] (hlen j hj) (hR j hj)
  have hj2:j<(xs.set i xs[j]).length:=by rw[YA];exact hj
  obtain⟨b2,T2,l2,c2,f1,f2,_,k2⟩:=o2.NO hsz hj2
  have e5:b=b2:=by injection f1 with f1;injection f1 with f1;injection f1
  subst e5
  have q:bx b T2 l2 b (.cells (patch l (i*sz) (chunk l j sz)).toArray T1 (0,0)):=f2▸Co _ _
  obtain⟨_,q⟩:=Fa q
  injection q with q1 q2
  subst q2
  have e6:patch l (i*sz) (chunk l j sz)=l2:=(Array.toList_inj.2 q1)
  subst e6
  exact k2 (chunk l i sz) xs[i] (hlen i hi) (hR i hi)
section
variable {P:Program}{pan:List PanicEntry→AT}{Qn:Env→AT}{Ls L:List Ae}{ρ:Env}{d:Ae}{s:GS}{t:Nat}{tk:Bool}
def BT{x i}{sz b n c:Nat}{k}{j:Int}(m:Nat)(ex:ev ρ x=.slice (some ⟨b,0,none⟩) n c)(ei:ev ρ i=.int k j)(hm:j=(m:Int))(hl:m<n)
  (h:gws P pan Qn s Ls (upd ρ t (.pointer (some ⟨b,m*sz,none⟩))) d L):gws P pan Qn (.op tk ⟨some t,none,.idx sz x i⟩ s) Ls ρ d L:=
 Hd (b:=b) (o:=0) m ex ei hm hl (SAd.some n b 0) (by rwa [XZ])
def Ck{x}{b m sz:Nat}{T l}(i:Nat)(e:ev ρ x=.pointer (some ⟨b,m*sz,none⟩))(hi:(lk tk Ls L)[i]?=some (bx b T l))(hn:m*sz+sz≤l.length)
  (h:gws P pan Qn s Ls (upd ρ t (.agg (chunk l m sz).toArray)) d L):gws P pan Qn (.op tk ⟨some t,none,.ld (some sz) x⟩ s) Ls ρ d L:=
 Bv i e hi (Nat.ble_eq_true_of_le hn) h
end
def HB{R ρ d L}(L':List Ae)(hs:L'.Sublist L)(h:R (.returned (.tuple #[])) d L'):Ch [] R ρ d L:=⟨[],trivial,d,L',Vs.drop hs,h⟩
def C5{l}{m sz:Nat}(h:m*sz+sz≤l.length):(chunk l m sz).length=sz:=by simp only[chunk,Xn,XX];omega
section
variable {P:Program}{pan:List PanicEntry→AT}{Qn:Env→AT}{Ls L:List Ae}{ρ:Env}{d:Ae}{s:GS}{t:Nat}
def Fo{x y}{b m sz:Nat}{T l cs}(i:Nat)(hi:L[i]?=some (bx b T l))(ex:ev ρ x=.pointer (some ⟨b,m*sz,none⟩))(ey:ev ρ y=.agg cs.toArray)(hn:cs.length=sz)(hl:m*sz+sz≤l.length)
  (h1:(cs.all (·.oneCell'))=true) (h:gws P pan Qn s Ls ρ d (L.set i (bx b T (patch l (m*sz) cs)))):gws P pan Qn (.op false ⟨none,none,.st sz x y⟩ s) Ls ρ d L:=
 Wk i hi ex ey (by simp[Value.cells,hn]) hl (by simpa [Value.cells] using h1) (by simpa [Value.cells] using h)
end
def Ub{ρ}{a b:Nat}(h:Nat.beq a b=false)(x y:Value):upd (upd ρ b y) a x=upd (upd ρ a x) b y:=by
 funext i;simp only[upd];cases e1:Nat.beq i a<;>cases e2:Nat.beq i b<;>simp
 have:=Yt e1;have q:=Yt e2;subst this;subst q;rw[show Nat.beq i i=true from Nat.beq_refl i] at h;cases h
def UI{P}{pan:List PanicEntry→AT}{Qn:Env→AT}{ρ d}{sz b i j n c:Nat}{T l k1 k2}{j1 j2:Int}{t1 t2 t3 t4 p1 p2 v1 v2 i1 i2:Nat}
  (ne:Nat.beq t1 t2=false) (hl1:i*sz+sz≤l.length) (hl2:j*sz+sz≤l.length) (hi:i<n) (hj:j<n) (c1:((chunk l j sz).all (·.oneCell'))=true) (c2:((chunk l i sz).all (·.oneCell'))=true)
  (e1:ρ p1=.pointer (some ⟨b,j*sz,none⟩)) (e2:ρ p2=.pointer (some ⟨b,i*sz,none⟩)) (e1':upd ρ t2 (.agg (chunk l i sz).toArray) p1=.pointer (some ⟨b,j*sz,none⟩)) (e2':upd ρ t1 (.agg (chunk l j sz).toArray) p2=.pointer (some ⟨b,i*sz,none⟩))
  (f1:upd (upd ρ t1 (.agg (chunk l j sz).toArray)) t2 (.agg (chunk l i sz).toArray) v1=.slice (some ⟨b,0,none⟩) n c) (g1:upd (upd ρ t1 (.agg (chunk l j sz).toArray)) t2 (.agg (chunk l i sz).toArray) i1=.int k1 j1) (hj1:j1=(i:Int))
  (s1:upd (upd (upd ρ t1 (.agg (chunk l j sz).toArray)) t2 (.agg (chunk l i sz).toArray)) t3 (.pointer (some ⟨b,i*sz,none⟩)) t3=.pointer (some ⟨b,i*sz,none⟩)) (s1':upd (upd (upd ρ t1 (.agg (chunk l j sz).toArray)) t2 (.agg (chunk l i sz).toArray)) t3 (.pointer (some ⟨b,i*sz,none⟩)) t1=.agg (chunk l j sz).toArray)
  (f2:upd (upd (upd ρ t1 (.agg (chunk l j sz).toArray)) t2 (.agg (chunk l i sz).toArray)) t3 (.pointer (some ⟨b,i*sz,none⟩)) v2=.slice (some ⟨b,0,none⟩) n c) (g2:upd (upd (upd ρ t1 (.agg (chunk l j sz).toArray)) t2 (.agg (chunk l i sz).toArray)) t3 (.pointer (some ⟨b,i*sz,none⟩)) i2=.int k2 j2) (hj2:j2=(j:Int))
  (s2:upd (upd (upd (upd ρ t1 (.agg (chunk l j sz).toArray)) t2 (.agg (chunk l i sz).toArray)) t3 (.pointer (some ⟨b,i*sz,none⟩))) t4 (.pointer (some ⟨b,j*sz,none⟩)) t4=.pointer (some ⟨b,j*sz,none⟩)) (s2':upd (upd (upd (upd ρ t1 (.agg (chunk l j sz).toArray)) t2 (.agg (chunk l i sz).toArray)) t3 (.pointer (some ⟨b,i*sz,none⟩))) t4 (.pointer (some ⟨b,j*sz,none⟩)) t2=.agg (chunk l i sz).toArray)
  (k:Qn (upd (upd (upd (upd ρ t1 (.agg (chunk l j sz).toArray)) t2 (.agg (chunk l i sz).toArray)) t3 (.pointer (some ⟨b,i*sz,none⟩))) t4 (.pointer (some ⟨b,j*sz,none⟩))) d [bx b T (patch (patch l (i*sz) (chunk l j sz)) (j*sz) (chunk l i sz))]):
  gws P pan Qn (.alt ⟨some t1,none,.ld (some sz) (.tmp p1)⟩
   (.op false ⟨some t2,none,.ld (some sz) (.tmp p2)⟩ (.op true ⟨some t3,none,.idx sz (.tmp v1) (.tmp i1)⟩ (.op false ⟨none,none,.st sz (.tmp t3) (.tmp t1)⟩ (.op true ⟨some t4,none,.idx sz (.tmp v2) (.tmp i2)⟩ (.op false ⟨none,none,.st sz (.tmp t4) (.tmp t2)⟩ .done)))))
   (.op false ⟨some t2,none,.ld (some sz) (.tmp p2)⟩ (.op false ⟨some t1,none,.ld (some sz) (.tmp p1)⟩ (.op true ⟨some t3,none,.idx sz (.tmp v1) (.tmp i1)⟩ (.op false ⟨none,none,.st sz (.tmp t3) (.tmp t1)⟩ (.op true ⟨some t4,none,.idx sz (.tmp v2) (.tmp i2)⟩ (.op false ⟨none,none,.st sz (.tmp t4) (.tmp t2)⟩ .done))))))) [] ρ d [bx b T l]:=by
 have tail:gws P pan Qn (.op true ⟨some t3,none,.idx sz (.tmp v1) (.tmp i1)⟩ (.op false ⟨none,none,.st sz (.tmp t3) (.tmp t1)⟩ (.op true ⟨some t4,none,.idx sz (.tmp v2) (.tmp i2)⟩ (.op false ⟨none,none,.st sz (.tmp t4) (.tmp t2)⟩ .done)))) []
   (upd (upd ρ t1 (.agg (chunk l j sz).toArray)) t2 (.agg (chunk l i sz).toArray)) d [bx b T l]:=by
  refine BT i f1 g1 hj1 hi ?_
  refine Fo 0 rfl s1 s1' (C5 hl2) hl1 c1 ?_
  refine BT j f2 g2 hj2 hj ?_
  refine Fo 0 rfl s2 s2' (C5 hl1) (by rw[DH (by rw[C5 hl2];omega)];omega) c2 ?_
  exact Aa k
 refine Ee ?_ ?_
 ·refine Ck 0 e1 rfl hl2 ?_
  exact Ck 0 e2' rfl hl1 tail
 ·refine Ck 0 e2 rfl hl1 ?_
  refine Ck 0 e1' rfl hl2 ?_
  rw[Ub ne]
  exact tail
def Ht{α}(P:Program)(R:Ae→List Value→α→Prop)(c:α→α→Int)(g:FuncId)(d:Ae)(xs:List α):Prop:=
 ∀x∈xs,∀y∈xs,∀cs ds,R d cs x→R d ds y→AG P g [.agg cs.toArray,.agg ds.toArray] d (vZ (c x y))
def Ht.perm{α P R}{c:α→α→Int}{g d}{xs ys:List α}(h:Ht P R c g d xs)(p:ys.Perm xs):Ht P R c g d ys:=
 fun x hx y hy=>h x (p.mem_iff.1 hx) y (p.mem_iff.1 hy)
open Srt
def QN(sz:Nat)(P:Program)(f:FuncId):Prop:=∀{α R}{c:α→α→Int}{d pa}{n cp:Nat}{h g}{A M B:List α}{ia ib:Int},
 Ord c→DN R→AO sz R d (.slice pa n cp) (A++M++B) h→Ht P R c g d (A++M++B)→ia=(A.length:Int)→ib=((A.length+M.length:Nat):Int)→
 AY P f [.slice pa n cp,vZ ia,vZ ib,.func (.func g) #[] #[]] d [h] (Ret fun _ d' L'=>d'=d∧∃M' h',L'=[h']∧AO sz R d (.slice pa n cp) (A++M'++B) h'∧M'.Perm M∧Srt c M')
def Pw(sz:Nat)(P:Program)(f:FuncId):Prop:=∀{α:Type}{R:Ae→List Value→α→Prop}{d:Ae}{pa:Option Addr}{n cp:Nat}{h:Ae}{g:FuncId}{A X M Y B:List α}{ia ib im:Int},
 DN R→AO sz R d (.slice pa n cp) (A++X++M++Y++B) h→X.length=Y.length→ia=(A.length:Int)→ib=((A.length+X.length+M.length:Nat):Int)→im=(X.length:Int)→
 AY P f [.slice pa n cp,vZ ia,vZ ib,vZ im,.func (.func g) #[] #[]] d [h] (Ret fun _ d' L'=>d'=d∧∃h',L'=[h']∧AO sz R d (.slice pa n cp) (A++Y++M++X++B) h')
def QI(sz:Nat)(P:Program)(f:FuncId):Prop:=∀{α:Type}{R:Ae→List Value→α→Prop}{d:Ae}{pa:Option Addr}{n cp:Nat}{h:Ae}{g:FuncId}{A X Y B:List α}{ia im ib:Int},
 DN R→AO sz R d (.slice pa n cp) (A++X++Y++B) h→X≠[]→Y≠[]→ia=(A.length:Int)→im=((A.length+X.length:Nat):Int)→ib=((A.length+X.length+Y.length:Nat):Int)→
 AY P f [.slice pa n cp,vZ ia,vZ im,vZ ib,.func (.func g) #[] #[]] d [h] (Ret fun _ d' L'=>d'=d∧∃h',L'=[h']∧AO sz R d (.slice pa n cp) (A++Y++X++B) h')
def QM(sz:Nat)(P:Program)(f:FuncId):Prop:=∀{α R}{c:α→α→Int}{d pa}{n cp:Nat}{g},Ord c→DN R→∀(N:Nat) {h}{A X Y B:List α}{ia im ib:Int},
 X.length+Y.length≤N→AO sz R d (.slice pa n cp) (A++X++Y++B) h→Ht P R c g d (A++X++Y++B)→Srt c X→Srt c Y→X≠[]→Y≠[]→ia=(A.length:Int)→im=((A.length+X.length:Nat):Int)→ib=((A.length+X.length+Y.length:Nat):Int)→
 AY P f [.slice pa n cp,vZ ia,vZ im,vZ ib,.func (.func g) #[] #[]] d [h] (Ret fun _ d' L'=>d'=d∧∃M' h',L'=[h']∧AO sz R d (.slice pa n cp) (A++M'++B) h'∧M'.Perm (X++Y)∧Srt c M')
end
end Go.Gk
end
section
namespace Go.Gk
open Go Srt
section
attribute [local irreducible] gwp gws
end
section
attribute [local irreducible] gwp gws
end
end Go.Gk
end
section
namespace Go.Gk
open Go Srt Val
section
attribute [local irreducible] gwp gws
end
end Go.Gk
end
section
namespace Go.Gk
open Go Srt
attribute [local irreducible] gwp gws
def Ku(sz:Nat)(P:Program)(f:FuncId):Prop:=∀{α R}{c:α→α→Int}{d pa}{n cp:Nat}{g h}{xs:List α},Ord c→DN R→
 AO sz R d (.slice pa n cp) xs h→Ht P R c g d xs→
 AY P f [.slice pa n cp,.func (.func g) #[] #[]] d [h] (Ret fun _ d' L'=>d'=d∧∃ys h',L'=[h']∧AO sz R d (.slice pa n cp) ys h'∧ys.Perm xs∧Srt c ys)
def KY(sz:Nat)(P:Program)(f:FuncId):Prop:=∀{α R}{c:α→α→Int}{d pa}{n cp:Nat}{g h}{xs:List α},Ord c→DN R→
 AO sz R d (.slice pa n cp) xs h→Ht P R c g d xs→
 AY P f [.slice pa n cp,vZ n,.func (.func g) #[] #[]] d [h] (Ret fun _ d' L'=>d'=d∧∃ys h',L'=[h']∧AO sz R d (.slice pa n cp) ys h'∧ys.Perm xs∧Srt c ys)
end Go.Gk
end
section
namespace Go.Gk
open Go Srt
section
section
variable {P:Program}{pan:List PanicEntry→AT}{Qn:Env→AT}{Ls L:List Ae}{ρ:Env}{d:Ae}{s:GS}{t:Nat}{tk:Bool}
def Q2{sz:Nat}{x}{b o n c l h m:Nat}{lo hi mx:Option Operand}(ex:ev ρ x=.slice (some ⟨b,o,none⟩) n c)(hc:DZ n c (lo.map (ev ρ)) (hi.map (ev ρ)) (mx.map (ev ρ))=some (l,h,m))
  (k:∀o',(m≠l→o'=o+l*sz)→gws P pan Qn s Ls (upd ρ t (.slice (some ⟨b,o',none⟩) (h - l) (m - l))) d L):gws P pan Qn (.op tk ⟨some t,none,.sl sz x lo hi mx⟩ s) Ls ρ d L:=by
 by_cases hml:m=l
 ·refine w_q rfl (v:=.slice (some ⟨b,o,none⟩) (h - l) (m - l)) ⟨some ⟨b,o,none⟩,n,c,l,h,m,ex,fun q=>absurd hml q,hc,by rw[if_pos hml]⟩ (k o (fun q=>absurd hml q))
 ·refine w_q rfl (v:=.slice (some ⟨b,o+l*sz,none⟩) (h - l) (m - l)) ⟨some ⟨b,o,none⟩,n,c,l,h,m,ex,fun _ a' ha=>by cases ha;rfl,hc,by rw[if_neg hml];simp⟩ (k (o+l*sz) (fun _=>rfl))
def Wx{sz:Nat}{z x}{t:Option Nat}{a}{n c:Nat}(ex:ev ρ x=.slice a n c) (k:(n=0∧gws P pan Qn s Ls (put ρ t (.tuple #[])) d L)∨∃i b o T l,a=some ⟨b,o,none⟩∧L[i]?=some (bx b T l)∧o+n*sz≤l.length∧
  gws P pan Qn s Ls (put ρ t (.tuple #[])) d (L.set i (bx b T (patch l o (Bu z (n*sz)))))):gws P pan Qn (.op false ⟨t,none,.mop (.clz sz z x)⟩ s) Ls ρ d L:=by
 refine⟨d,L,Vs.refl d L,?_⟩
 simp only[gop,gi,mi]
 refine⟨a,n,c,ex,?_⟩
 rcases k with ⟨h1,h2⟩|⟨i,b,o,T,l,h1,h2,h3,h4⟩
 ·exact .inl ⟨h1,_,_,Vs.refl _ _,h2⟩
 ·exact .inr ⟨i,b,o,T,l,h1,h2,h3,_,_,Vs.refl _ _,h4⟩
end
attribute [local irreducible] gwp gws
def Nv{n c:Nat}{v k}{j:Int}{i:Nat}(ev:v=.int k j)(hj:j=(i:Int))(hi:i≤n):DZ n c (some v) none none=some (i,n,c):=by
 subst ev;subst hj;simp only[DZ,HA,GK,Hz,Option.isSome_none,Bool.false_eq_true,if_false,X5,Yh,bnd];rw[if_pos (by omega)];simp
def Vf{n c:Nat}{v k}{j:Int}{i:Nat}(ev:v=.int k j)(hj:j=(i:Int))(hi:i≤c):DZ n c none (some v) none=some (0,i,c):=by
 subst ev;subst hj;simp only[DZ,HA,GK,Hz,X5,Yh,bnd];rw[if_pos (by omega)];simp
def Ql{b:Nat}{T T' l l'}(h:bx b T l=bx b T' l'):T=T'∧l=l':=by
 have h1:bx b T l b (Obj.cells l.toArray T (0,0)):=Co _ _;rw[h] at h1;have h2:=(Fa h1).2;simp only[Obj.cells.injEq] at h2;exact⟨h2.2.1,by simpa using h2.1⟩
def Jp{b o o':Nat}(h:o=o'):Value.pointer (some ⟨b,o,none⟩)=.pointer (some ⟨b,o',none⟩):=by rw[h]
def K5{l}{k m sz:Nat}(h:m<k):chunk (l.take (k*sz)) m sz=chunk l m sz:=by
 have hm:m*sz+sz≤k*sz:=by have:=Xx sz (show m+1≤k from h);rwa [XW,Yx] at this
 simp only[chunk];rw[List.drop_take,YX,YB (by omega)]
def Pq{l zs}{k m sz:Nat}(h:m<k)(hk:k*sz≤l.length):chunk (patch l (k*sz) zs) m sz=chunk l m sz:=by
 have hm:m*sz+sz≤k*sz:=by have:=Xx sz (show m+1≤k from h);rwa [XW,Yx] at this
 simp only[chunk,patch];rw[Xf,YL (by rw[Xn];omega),List.take_append_of_le_length (by rw[XX,Xn];omega),List.drop_take,YX,YB (by omega)]
def AO.Uz{α}{sz:Nat}{R d pa}{n c:Nat}{xs:List α}{h}(hsz:0<sz)(o:AO sz R d (.slice pa n c) xs h)(hne:0<xs.length):
  ∃b T l,pa=some ⟨b,0,none⟩∧n=xs.length∧n≤c∧h=bx b T l∧xs.length*sz≤l.length∧(∀m (hm:m<xs.length),R d (chunk l m sz) xs[m])∧
   (∀m x cs',m<xs.length→cs'.length=sz→R d cs' x→AO sz R d (.slice pa n c) (xs.set m x) (bx b T (patch l (m*sz) cs')))∧
   ∀k zs,k≤xs.length→zs.length=(xs.length - k)*sz→AO sz R d (.slice pa k c) (xs.take k) (bx b T (patch l (k*sz) zs)):=by
 have o':=o
 obtain⟨cs,⟨h1,h2,⟨e,h0,rfl⟩|⟨b,T,l,c',e,rfl,h3,h4,h5,h6⟩⟩,hr⟩:=o
 ·omega
 ·injection e with e1 e2 e3
  subst e1;subst e2;subst e3
  have hcz:xs.length*sz≤c*sz:=Xx sz h3
  have hch:∀m,m<xs.length→chunk cs m sz=chunk l m sz:=fun m hm=>by rw[←h6,h1,K5 hm]
  refine⟨b,T,l,rfl,rfl,h3,rfl,by omega,fun m hm=>by rw[←hch m hm];exact hr m hm,fun m x cs' hm hl hx=>?_,fun k zs hk hz=>?_⟩
  ·obtain⟨b',T',l',c'',e4,e5,_,g⟩:=AO.NO hsz o' hm
   injection e4 with e4 _ _
   injection e4 with e4
   injection e4 with e4 _ _
   subst e4
   obtain⟨rfl,rfl⟩:=Ql e5
   exact g cs' x hl hx
  ·have hkz:k*sz≤xs.length*sz:=Xx sz hk
   have hkl:(xs.length - k)*sz=xs.length*sz - k*sz:=Nat.sub_mul _ _ _
   have hpl:(patch l (k*sz) zs).length=l.length:=DH (by omega)
   have htl:((patch l (k*sz) zs).take (k*sz)).length=k*sz:=by rw[Xn,hpl];omega
   refine⟨(patch l (k*sz) zs).take (k*sz),⟨by rw[htl,Xn,YB hk],by rw[Xn];omega,.inr ⟨b,T,_,c,by rw[Xn,YB hk],rfl,by rw[Xn];omega,h4,by rw[hpl];exact h5,by rw[htl]⟩⟩,fun i hi=>?_⟩
   have hik:i<k:=by rw[Xn] at hi;omega
   rw[K5 hik,Pq hik (by omega),YJ,←hch i (by omega)]
   exact hr i (by omega)
def TN{z}{n:Nat}:(Bu z n).length=n:=by simp[Bu]
section
variable {α:Type}(e:α→α→Bool)
def C0:α→List α→List α
 |_,[]=>[]
 |p,x::l=>if e x p then C0 x l else x::C0 x l
def BJ:List α→List α
 |[]=>[]
 |x::l=>x::C0 e x l
def LB(y:α):∀(l:List α) (p z:α),(p::l).getLast?=some z→C0 e p (l++[y])=C0 e p l++(if e y z then [] else [y])
 |[],p,z,h=>by
  have:p=z:=by simpa using h
  subst this;simp only[XL,C0]
 |x::l,p,z,h=>by
  have h':(x::l).getLast?=some z:=by rw[List.getLast?_cons_cons] at h;exact h
  simp only[XF,C0,LB y l x z h'];split<;>simp
def OJ{xs:List α}{m:Nat}(hm:m+1<xs.length):BJ e (xs.take (m+2))=BJ e (xs.take (m+1))++(if e xs[m+1] xs[m] then [] else [xs[m+1]]):=by
 rw[Xi hm];cases xs with
 |nil=>simp at hm
 |cons x l=>
  simp only[List.take_succ_cons,XF,BJ]
  rw[LB e _ _ x ((x::l)[m]'(by omega))]
  rw[show x::List.take m l=(x::l).take (m+1) by simp,List.getLast?_take]
  simp
def F6{xs:List α}(h:xs.length<2):BJ e xs=xs:=by
 match xs,h with
 |[],_=>rfl
 |[x],_=>rfl
def Jh{xs:List α}{k:Nat}(hk:k<xs.length)(h1:1≤k):BJ e (xs.take (k+1))=BJ e (xs.take k)++(if e xs[k] (xs[k - 1]'(by omega)) then [] else [xs[k]]):=by
 obtain⟨m,rfl⟩:∃m,k=m+1:=⟨k - 1,by omega⟩
 exact OJ e hk
def Jk:∀(l:List α) (p:α),(C0 e p l).Sublist l
 |[],_=>Xy _
 |x::l,p=>by
  simp only[C0];split
  ·exact .cons _ (Jk l x)
  ·exact .cons_cons _ (Jk l x)
def PQ(l:List α):(BJ e l).Sublist l:=by
 cases l with
 |nil=>exact Xy _
 |cons x l=>exact .cons_cons _ (Jk e l x)
def P1(xs:List α):(BJ e xs).length≤xs.length:=by
 have h:∀(l:List α) (p:α),(C0 e p l).length≤l.length:=by
  intro l;induction l with
  |nil=>intro p;simp[C0]
  |cons x l ih=>intro p;simp only[C0];split;exact Nat.le_succ_of_le (ih x);simpa using ih x
 cases xs with
 |nil=>simp[BJ]
 |cons x l=>simpa [BJ] using h l x
end
def Ja(sz:Nat)(P:Program)(f:FuncId):Prop:=∀{α R}{e:α→α→Bool}{d pa}{n cp:Nat}{g h}{xs:List α},DN R→AO sz R d (.slice pa n cp) xs h→
 (∀x∈xs,∀y∈xs,∀cs ds,R d cs x→R d ds y→AG P g [.agg cs.toArray,.agg ds.toArray] d (.bool (e x y)))→n=xs.length→
 AY P f [.slice pa n cp,.func (.func g) #[] #[]] d [h] (Ret fun r d' L'=>d'=d∧∃h',r=.slice pa (BJ e xs).length cp∧L'=[h']∧AO sz R d (.slice pa (BJ e xs).length cp) (BJ e xs) h')
def Dw:A0:=⟨66,[(.tmp 4)],(sR (o1 4 (.mv nS) .done) (.seq (sR (om 8 0<|oL 9 8<|ob 10 .lss 9 z2 .done) (.cond 10 (sR (om 11 0<|om 4 11 .done) .ret) .skip)) (.seq (sR (o1 5 (.mv z1) .done) (.block 0 (.loop (.seq (sR (om 12 5<|om 13 0<|oL 14 13<|ob 15 .lss 12 14 .done) (.cond 15 .skip (.exit 0))) (.seq (.block 1 (.seq (.reg true (pm 18 1<|pm 19 0<|pm 20 5<|p1 21 (.idx 7 19 20)<|p1 22 (.ld (some 7) 21)<|pm 23 0<|pm 24 5<|p1 25 (.bin .sub 24 z1)<|p1 26 (.idx 7 23 25)<|p1 27 (.ld (some 7) 26)<|o1 28 (.callv 18 [22,27]) .done)) (.cond 28 (sR (om 29 0<|om 30 5<|o1 31 (.sl 7 29 (some 30) none none)<|om 6 31 .done) (.seq (sR (o1 7 (.mv z1) .done) (.block 2 (.loop (.seq (sR (om 32 7<|om 33 6<|oL 34 33<|ob 35 .lss 32 34 .done) (.cond 35 .skip (.exit 2))) (.seq (.block 3 (.seq (.reg true (pm 38 1<|pm 39 6<|pm 40 7<|p1 41 (.idx 7 39 40)<|p1 42 (.ld (some 7) 41)<|pm 43 6<|pm 44 7<|p1 45 (.bin .sub 44 z1)<|p1 46 (.idx 7 43 45)<|p1 47 (.ld (some 7) 46)<|o1 48 (.callv 38 [42,47])<|p1 49 (.un .not 48) .done)) (.cond 49 (sR (om 50 0<|om 51 5<|om 52 6<|om 53 7<|oI 54 7 52 53<|o1 55 (.ld (some 7) 54)<|oI 56 7 50 51<|o0 (.st 7 56 55) .done) (rG (om 57 5<|ob 58 .add 57 z1<|om 5 58 .done))) .skip))) (rG (om 36 7<|ob 37 .add 36 z1<|om 7 37 .done))))))) (sR (om 59 0<|om 60 5<|o1 61 (.sl 7 59 (some 60) none none)<|o0 (.mop (.clz 7 [(.slice none 0 0),(vZ 0),(vZ 0),(vZ 0),(Al []),(.slice none 0 0),(.slice none 0 0)] 61)) .done) (sR (om 62 0<|om 63 5<|o1 64 (.sl 7 62 none (some 63) none)<|om 4 64 .done) .ret)))) .skip))) (rG (om 16 5<|ob 17 .add 16 z1<|om 5 17 .done))))))) (sR (om 65 0<|om 4 65 .done) .ret))))⟩
set_option maxHeartbeats 2000000 in
def IV{P f}(hd:dec P f=some Dw):Ja 7 P f:=by
 intro α R e d pa n cp g h xs hc1 ho hg hn;subst hn;refine Bf hd (No rfl) ?_;show gwp P _ _ _ _ _;by_cases hsm:xs.length<2
 ·(refine Ac<|Ar rfl<|Aa<|Ah<|Ac<|Ar rfl<|Ay rfl<|Av rfl rfl<|Aa<|Au rfl (by omega)<|Ac<|Ar rfl<|Ar rfl<|Aa<|Aq ?_);exact B8 (L':=[h]) [.slice pa xs.length cp] ⟨AZ rfl,trivial⟩ (Xy _) ⟨rfl,h,by rw[F6 e hsm];rfl,rfl,by rw[F6 e hsm];exact ho⟩
 have ho':=ho;have hxl:=ho.A2;obtain⟨b,T,l,rfl,_,hcap,rfl,hll,hR, -, -⟩:=ho.Uz (by omega) (by omega);(refine Ac<|Ar rfl<|Aa<|Ah<|Ac<|Ar rfl<|Ay rfl<|Av rfl rfl<|Aa<|An rfl (by omega)<|Ao<|Ah<|Ac<|Ab rfl<|Aa<|As ?_);refine A6 (α:=Nat) (fun k=>[(0,.slice (some ⟨b,0,none⟩) xs.length cp),(1,.func (.func g) #[] #[]),(5,vZ k)])
  (fun k d' L'=>d'=d∧1≤k∧k≤xs.length∧BJ e (xs.take k)=xs.take k∧L'=[bx b T l]) (fun k=>xs.length - k) 1
  ⟨rfl,rfl,rfl,trivial⟩ ⟨rfl,Xq _,by omega,F6 e (by rw[Xn];omega),rfl⟩ ?_
 rintro k ρ d' L' ⟨hdd,hk1,hkn,hck,hL⟩;subst hdd;subst hL;by_cases hc:k<xs.length
 ·have hmore:=Jh e hc hk1;have hRk:=hR k hc;have hRj:=hR (k - 1) (by omega);cases heq:e xs[k] (xs[k - 1]'(by omega)) with
  |false=>
   have hgk:=hg _ (Xh hc) _ (Xh (show k - 1<xs.length by omega)) _ _ hRk hRj
   rw[heq] at hmore hgk
   clear heq
   (refine Ah<|Ac<|Ab rfl<|Ar rfl<|Ay rfl<|Av rfl rfl<|Aa<|Au rfl (by omega)<|Ao<|Ah<|As<|Ah<|Bp<|Cz rfl<|Ar rfl<|Ab rfl ?_)
   refine BT k rfl rfl rfl (by omega) ?_
   refine Ck 0 rfl rfl (by omega) ?_
   (refine Ar rfl<|Ab rfl<|Bw rfl rfl (by omega) (by omega) ?_)
   refine BT (k - 1) rfl rfl (by omega) (by omega) ?_
   refine Ck 0 rfl rfl (by omega) ?_
   refine DD rfl rfl hgk ?_
   (refine Bo<|AJ rfl<|Ao<|Ax<|Ab rfl<|AI rfl rfl (by omega) (by omega)<|Ab rfl<|Aa ?_)
   refine⟨k+1,by omega,⟨rfl,rfl,int_eq (by omega),trivial⟩,rfl,by omega,hc,?_,rfl⟩
   rw[hmore,hck,Xi hc];rfl
  |true=>
   have hgk:=hg _ (Xh hc) _ (Xh (show k - 1<xs.length by omega)) _ _ hRk hRj
   rw[heq] at hmore hgk
   clear heq
   (refine Ah<|Ac<|Ab rfl<|Ar rfl<|Ay rfl<|Av rfl rfl<|Aa<|Au rfl (by omega)<|Ao<|Ah<|As<|Ah<|Bp<|Cz rfl<|Ar rfl<|Ab rfl ?_)
   refine BT k rfl rfl rfl (by omega) ?_
   refine Ck 0 rfl rfl (by omega) ?_
   (refine Ar rfl<|Ab rfl<|Bw rfl rfl (by omega) (by omega) ?_)
   refine BT (k - 1) rfl rfl (by omega) (by omega) ?_
   refine Ck 0 rfl rfl (by omega) ?_
   refine DD rfl rfl hgk ?_
   (refine Bo<|Bd rfl<|Ac<|Ar rfl<|Ab rfl ?_)
   refine Q2 (l:=k) (h:=xs.length) (m:=cp) rfl (Nv rfl rfl (by omega)) (fun o1 ho1=>?_)
   obtain rfl:o1=0+k*7:=ho1 (by omega)
   (refine Ar rfl<|Aa<|Ah<|Ac<|Ab rfl<|Aa<|As ?_)
   have htk:xs.take k=(xs.take (k+1)).take k:=by rw[YX,YB (by omega)]
   refine A6 (α:=Nat×Nat) (fun x=>[(0,.slice (some ⟨b,0,none⟩) xs.length cp),(1,.func (.func g) #[] #[]),(5,vZ x.1),(6,.slice (some ⟨b,0+k*7,none⟩) (xs.length - k) (cp - k)),(7,vZ x.2)])
    (fun x d2 L'=>d2=d'∧1≤x.2∧x.2≤xs.length - k∧k≤x.1∧x.1+1≤k+x.2∧∃zs l',zs.length=xs.length∧zs.take x.1=BJ e (xs.take (k+x.2))∧(∀m,k+x.2 - 1≤m→zs[m]?=xs[m]?)∧(∀z∈zs,z∈xs)∧L'=[bx b T l']∧
     AO 7 R d' (.slice (some ⟨b,0,none⟩) xs.length cp) zs (bx b T l')) (fun x=>xs.length - k - x.2) (k,1)
    ⟨rfl,rfl,rfl,rfl,rfl,trivial⟩ ⟨rfl,Xq _,by simp only;omega,Xq _,Xq _,xs,l,rfl,by simp only;rw[hmore,hck];simp,fun _ _=>rfl,fun _ h=>h,rfl,ho'⟩ ?_
   rintro⟨kk,j⟩ ρ d2 L' ⟨hdd,hj1,hjn,hkk,hkj,zs,l',hzl,hzt,hzs,hzm,hL,hz⟩
   simp only at hj1 hjn hkk hkj hzt hzs⊢
   subst hdd;subst hL
   obtain⟨b1,T1,l1,q1,q2,q3,q4,hll1,hR1,hset,hcut⟩:=hz.Uz (by omega) (by omega)
   cases q1
   obtain⟨rfl,rfl⟩:=Ql q4
   clear q4 q2 q3
   by_cases hc2:j<xs.length - k
   ·have hx1:zs[k+j]'(by omega)=xs[k+j]'(by omega):=by have:=hzs (k+j) (by omega);simpa [show k+j<zs.length by omega,show k+j<xs.length by omega] using this
    have hx2:zs[k+j - 1]'(by omega)=xs[k+j - 1]'(by omega):=by have:=hzs (k+j - 1) (by omega);simpa [show k+j - 1<zs.length by omega,show k+j - 1<xs.length by omega] using this
    have hR1a:=hR1 (k+j) (by omega)
    have hR1b:=hR1 (k+j - 1) (by omega)
    rw[hx1] at hR1a
    rw[hx2] at hR1b
    have hmore2:=Jh e (show k+j<xs.length by omega) (by omega)
    have hgk:=hg _ (Xh (show k+j<xs.length by omega)) _ (Xh (show k+j - 1<xs.length by omega)) _ _ hR1a hR1b
    cases heq:e (xs[k+j]'(by omega)) (xs[k+j - 1]'(by omega)) with
    |true=>
     rw[heq] at hmore2 hgk
     clear heq
     (refine Ah<|Ac<|Ab rfl<|Ar rfl<|Ay rfl<|Av rfl rfl<|Aa<|Au rfl (by omega)<|Ao<|Ah<|As<|Ah<|Bp<|Cz rfl<|Ar rfl<|Ab rfl ?_)
     refine Hd (b:=b) (o:=0+k*7) j rfl rfl rfl (by omega) (SAd.some _ b (0+k*7)) ?_
     refine Ck 0 (m:=k+j) (Jp (by omega)) rfl (by omega) ?_
     (refine Ar rfl<|Ab rfl<|Bw rfl rfl (by omega) (by omega) ?_)
     refine Hd (b:=b) (o:=0+k*7) (j - 1) rfl rfl (by omega) (by omega) (SAd.some _ b (0+k*7)) ?_
     refine Ck 0 (m:=k+j - 1) (Jp (by omega)) rfl (by omega) ?_
     refine DD rfl rfl hgk ?_
     (refine Be rfl<|Bo<|AJ rfl<|Ao<|Ax<|Ab rfl<|AI rfl rfl (by omega) (by omega)<|Ab rfl<|Aa ?_)
     exact⟨(kk,j+1),by simp only;omega,⟨rfl,rfl,rfl,rfl,int_eq (by omega),trivial⟩,rfl,by simp only;omega,by simp only;omega,hkk,by simp only;omega,zs,l',hzl,by simp only;rw[show k+(j+1)=k+j+1 by omega,hmore2,hzt];simp,fun m hm=>hzs m (by simp only at hm;omega),hzm,rfl,hz⟩
    |false=>
     rw[heq] at hmore2 hgk
     clear heq
     (refine Ah<|Ac<|Ab rfl<|Ar rfl<|Ay rfl<|Av rfl rfl<|Aa<|Au rfl (by omega)<|Ao<|Ah<|As<|Ah<|Bp<|Cz rfl<|Ar rfl<|Ab rfl ?_)
     refine Hd (b:=b) (o:=0+k*7) j rfl rfl rfl (by omega) (SAd.some _ b (0+k*7)) ?_
     refine Ck 0 (m:=k+j) (Jp (by omega)) rfl (by omega) ?_
     (refine Ar rfl<|Ab rfl<|Bw rfl rfl (by omega) (by omega) ?_)
     refine Hd (b:=b) (o:=0+k*7) (j - 1) rfl rfl (by omega) (by omega) (SAd.some _ b (0+k*7)) ?_
     refine Ck 0 (m:=k+j - 1) (Jp (by omega)) rfl (by omega) ?_
     refine DD rfl rfl hgk ?_
     (refine Be rfl<|Bo<|Bd rfl<|Ac<|Ar rfl<|Ab rfl<|Ar rfl<|Ab rfl ?_)
     refine Hd (b:=b) (o:=0+k*7) j rfl rfl rfl (by omega) (SAd.some _ b (0+k*7)) ?_
     refine Ck 0 (m:=k+j) (Jp (by omega)) rfl (by omega) ?_
     skip
     refine BT kk rfl rfl rfl (by omega) ?_
     refine Fo 0 rfl rfl rfl (C5 (by omega)) (by omega) (hc1 _ _ _ hR1a) ?_
     have hz2:=hset kk _ _ (by omega) (C5 (by omega)) hR1a
     (refine Aa<|Ax<|Ab rfl<|AI rfl rfl (by omega) (by omega)<|Ab rfl<|Aa<|Ax<|Ab rfl<|AI rfl rfl (by omega) (by omega)<|Ab rfl<|Aa ?_)
     refine⟨(kk+1,j+1),by simp only;omega,⟨rfl,rfl,int_eq (by omega),rfl,int_eq (by omega),trivial⟩,rfl,by simp only;omega,by simp only;omega,by simp only;omega,by simp only;omega,_,_,by rw[YA];exact hzl,?_,fun m hm=>?_,fun z hz=>?_,rfl,hz2⟩
     ·simp only
      rw[show k+(j+1)=k+j+1 by omega,hmore2,←hzt,Xi (by rw[YA];omega),List.take_set_of_le (Xq _)]
      simp
     ·simp only at hm
      rw[List.getElem?_set_ne (by omega)]
      exact hzs m (by omega)
     ·rcases List.mem_or_eq_of_mem_set hz with q|q
      ·exact hzm z q
      ·rw[q];exact Xh _
   ·obtain rfl:j=xs.length - k:=by omega
    rw[show k+(xs.length - k)=xs.length by omega,Xz] at hzt
    have hkl:kk=(BJ e xs).length:=by rw[←hzt,Xn];omega
    (refine Ah<|Ac<|Ab rfl<|Ar rfl<|Ay rfl<|Av rfl rfl<|Aa<|An rfl (by omega)<|AU<|Ac<|Ar rfl<|Ab rfl ?_)
    refine Q2 (l:=kk) (h:=xs.length) (m:=cp) rfl (Nv rfl rfl (by omega)) (fun o2 ho2=>?_)
    obtain rfl:o2=0+kk*7:=ho2 (by omega)
    refine Wx rfl (.inr ⟨0,b,_,T,_,rfl,rfl,by omega,?_⟩)
    (refine Aa<|Ac<|Ar rfl<|Ab rfl ?_)
    refine Q2 (l:=0) (h:=kk) (m:=cp) rfl (Vf rfl rfl (by omega)) (fun o3 ho3=>?_)
    obtain rfl:o3=0:=by rw[ho3 (by omega)]
    have hfin:=hcut kk (Bu [.slice none 0 0,vZ 0,vZ 0,vZ 0,Al [],.slice none 0 0,.slice none 0 0] ((xs.length - kk)*7)) (by omega) (by rw[TN,hzl])
    rw[hzt] at hfin
    rw[←hkl]
    (refine Ar rfl<|Aa<|Aq ?_)
    exact B8 (L':=[_]) [.slice (some ⟨b,0,none⟩) (kk - 0) (cp - 0)] ⟨AZ rfl,trivial⟩ (Xy _) ⟨rfl,_,rfl,rfl,by rw[XZ];exact hfin⟩
 ·obtain rfl:k=xs.length:=by omega
  rw[Xz] at hck;(refine Ah<|Ac<|Ab rfl<|Ar rfl<|Ay rfl<|Av rfl rfl<|Aa<|An rfl (by omega)<|AU<|Ac<|Ar rfl<|Ar rfl<|Aa<|Aq ?_);exact B8 (L':=[bx b T l]) [.slice (some ⟨b,0,none⟩) xs.length cp] ⟨AZ rfl,trivial⟩ (Xy _) ⟨rfl,_,by rw[hck];rfl,rfl,by rw[hck];exact ho'⟩
end
end Go.Gk
end
section
namespace Go.Gk.Val
open Go Go.Gk Go.Gk.Num
section
attribute [local irreducible] gwp gws
end
end Go.Gk.Val
end
section
namespace Go.Gk
open Go
def AY.apart{P f vs d L R}(hc:DM P f)(h:L.Pairwise Dd→AY P f vs d L R):AY P f vs d L R:=
 ⟨hc,fun F W x=>(h (x.pw.sublist (List.sublist_cons_self ..))).2 F W x⟩
end Go.Gk
end
section
namespace Go.Gk.Val
open Go Go.Gk Go.Gk.Srt
def OU:Ord BX:=⟨He,fun a b e h1 h2=>(QQ a b e).1 h1 h2⟩
def MY{α}(f:α→V):Ord (fun a b=>BX (f a) (f b)):=⟨fun a b=>He _ _,fun a b e=>OU.tr _ _ _⟩
end Go.Gk.Val
end
section
namespace Go.Gk.Val
open Go Go.Gk Go.Gk.Utf Go.Gk.Srt
section
section
variable {α:Type}{c:α→α→Int}{e:α→α→Bool}
def G9(he:∀x y,e x y=true↔x=y):∀(l:List α) (p x:α),x∈p::C0 e p l↔x∈p::l
 |[],p,x=>by simp[C0]
 |y::l,p,x=>by
  simp only[C0];by_cases h:e y p=true
  ·rw[if_pos h];have:=(he y p).1 h;subst this;rw[G9 he l y x];simp
  ·rw[if_neg h];have:=G9 he l y x;rw[Xu,this,Xu (a:=x) (b:=p)]
def GW(oc:Ord c)(h0:∀x y,e x y=true↔x=y):∀(l:List α) (p:α),(∀x∈p::l,∀y∈p::l,c x y=0→x=y)→Srt c (p::l)→(p::C0 e p l).Pairwise fun x y=>c x y<0
 |[],p,_,_=>by simp[C0]
 |y::l,p,ha,hs=>by
  have hs':=XS.1 hs;simp only[C0];by_cases h:e y p=true
  ·rw[if_pos h];have:=(h0 y p).1 h;subst this;exact GW oc h0 l y (fun x hx z hz=>ha x (Xk _ hx) z (Xk _ hz)) hs'.2
  ·rw[if_neg h];have ih:=GW oc h0 l y (fun x hx z hz=>ha x (Xk _ hx) z (Xk _ hz)) hs'.2;refine XS.2 ⟨fun z hz=>?_,ih⟩;have hz':z∈y::l:=(G9 h0 l y z).1 hz;have h1:c p z≤0:=hs'.1 z hz';have hpy:c p y≠0:=fun q=>h ((h0 y p).2 (ha p (Xp ..) y (by simp) q).symm);have h2:c p y≤0:=hs'.1 y (Xp ..);rcases Int.lt_or_eq_of_le h1 with q|q
   ·exact q
   ·exfalso;have hpz:=ha p (Xp ..) z (Xk _ hz') q;subst hpz;have hyp:c y p≤0:=by
     rcases Xu.1 hz with r|r
     ·subst r;exact absurd ((h0 p p).2 rfl) h
     ·exact Int.le_of_lt ((XS.1 ih).1 p r)
    have:=oc.sw p y;omega
def MC(oc:Ord c)(h0:∀x y,e x y=true↔x=y){l:List α}(ha:∀x∈l,∀y∈l,c x y=0→x=y)(hs:Srt c l):((BJ e l).Pairwise fun x y=>c x y<0)∧∀x,x∈BJ e l↔x∈l:=by
 cases l with
 |nil=>exact⟨List.Pairwise.nil,fun x=>Iff.rfl⟩
 |cons p l=>exact⟨GW oc h0 l p ha hs,fun x=>G9 h0 l p x⟩
def Ga(oc:Ord c):∀{l m:List α},(l.Pairwise fun x y=>c x y<0)→(m.Pairwise fun x y=>c x y<0)→(∀x,x∈l↔x∈m)→l=m
 |[],[],_,_,_=>rfl
 |[],y::m,_,_,h=>absurd ((h y).2 (Xp ..)) (Yk)
 |x::l,[],_,_,h=>absurd ((h x).1 (Xp ..)) (Yk)
 |x::l,y::m,hl,hm,h=>by
  have hl':=XS.1 hl;have hm':=XS.1 hm;have hxx:∀z,¬c z z<0:=fun z q=>by have:=oc.sw z z;omega
  have hxy:x=y:=by
   rcases Xu.1 ((h x).1 (Xp ..)) with q|q
   ·exact q
   ·rcases Xu.1 ((h y).2 (Xp ..)) with r|r
    ·exact r.symm
    ·have a:=hm'.1 x q;have b:=hl'.1 y r;have:=oc.sw x y;omega
  subst hxy;congr 1;refine Ga oc hl'.2 hm'.2 fun z=>?_;constructor
  ·intro hz;rcases Xu.1 ((h z).1 (Xk _ hz)) with q|q
   ·subst q;exact absurd (hl'.1 z hz) (hxx z)
   ·exact q
  ·intro hz;rcases Xu.1 ((h z).2 (Xk _ hz)) with q|q
   ·subst q;exact absurd (hm'.1 z hz) (hxx z)
   ·exact q
end
def Ord.rev{α}{c:α→α→Int}(o:Ord c):Ord (fun a b=>c b a):=⟨fun a b=>o.sw b a,fun a b e h k=>o.tr e b a k h⟩
def Ml(v:V):V:=.mk 5 0 0 [] v.list []
def U8(a b:V):BW BX a.list b.list=BX (Ml a) (Ml b):=by
 rw[ED];have h0:B2 5 5=0:=by decide
 have h1:Dm [] []=0:=by decide
 simp[Ml,V.kind,V.text,V.keys,V.list,h0,h1,thn,BW]
def cN(p q:Nm):Int:=BX (Ml q.2) (Ml p.2)
def Wt:Ord cN:=Ord.rev (MY fun p:Nm=>Ml p.2)
def OO:Ord fun x y:V=>BX y x:=Ord.rev (MY fun x:V=>x)
def Mv(x:V):List V→List V
 |[]=>[x]
 |y::l=>if 0<BX x y then x::y::l else if BX x y=0 then y::l else y::Mv x l
def FK:List V→List V
 |[]=>[]
 |x::l=>Mv x (FK l)
def Nn{x:V}:∀{l:List V},Bc x=true→(∀y∈l,Bc y=true)→(l.Pairwise fun a b=>BX b a<0)→((Mv x l).Pairwise fun a b=>BX b a<0)∧∀z,z∈Mv x l↔z=x∨z∈l
 |[],_,_,_=>by simp[Mv]
 |y::l,hx,hl,hs=>by
  have hs':=XS.1 hs;simp only[Mv];by_cases h1:0<BX x y
  ·rw[if_pos h1];refine⟨XS.2 ⟨fun z hz=>?_,hs⟩,fun z=>by simp⟩
   have hyx:BX y x<0:=by have:=He y x;omega
   rcases Xu.1 hz with rfl|hz
   ·exact hyx
   ·have a:=hs'.1 z hz;have t:=OU.tr z y x (by omega) (by omega);rcases Int.lt_or_eq_of_le t with q|q
    ·exact q
    ·exfalso;have e:=(Jr (hl z (Xk _ hz)) hx).1 q;subst e;have:=He z y;omega
  rw[if_neg h1];by_cases h2:BX x y=0
  ·rw[if_pos h2];have e:=(Jr hx (hl y (Xp ..))).1 h2;subst e;exact⟨hs,fun z=>by simp⟩
  ·rw[if_neg h2];obtain⟨i1,i2⟩:=Nn (l:=l) hx (fun z hz=>hl z (Xk _ hz)) hs'.2;refine⟨XS.2 ⟨fun z hz=>?_,i1⟩,fun z=>by simp only[Xu,i2];constructor<;>(rintro(h|h|h)<;>simp[h])⟩
   rcases (i2 z).1 hz with rfl|hz
   ·omega
   ·exact hs'.1 z hz
def Gf:∀{l:List V},(∀y∈l,Bc y=true)→((FK l).Pairwise fun a b=>BX b a<0)∧∀z,z∈FK l↔z∈l
 |[],_=>⟨List.Pairwise.nil,fun _=>Iff.rfl⟩
 |x::l,h=>by
  obtain⟨i1,i2⟩:=Gf (l:=l) (fun z hz=>h z (Xk _ hz));obtain⟨j1,j2⟩:=Nn (x:=x) (l:=FK l) (h x (Xp ..)) (fun y hy=>h y (Xk _ ((i2 y).1 hy))) i1;exact⟨j1,fun z=>by rw[FK,j2,i2,Xu]⟩
def P6{l m:List V}(hl:∀y∈l,Bc y=true)(hp:∀x,x∈m↔x∈l)(hs:Srt (fun x y=>BX y x) m):BJ CF m=FK l:=by
 obtain⟨d1,d2⟩:=Gf hl;obtain⟨c1,c2⟩:=MC (e:=CF) OO C2 (l:=m) (fun x hx y hy h=>((Jr (hl y ((hp y).1 hy)) (hl x ((hp x).1 hx))).1 h).symm) hs;exact Ga OO c1 d1 fun x=>by rw[c2,d2,hp]
def SE{l m:List V}(hl:∀y∈l,Bc y=true)(h:∀x,x∈m↔x∈l):FK m=FK l:=by
 obtain⟨d1,d2⟩:=Gf hl;obtain⟨e1,e2⟩:=Gf (l:=m) (fun y hy=>hl y ((h y).1 hy));exact Ga OO e1 d1 fun x=>by rw[d2,e2,h]
def IB(v:V)(ws:List (List St)):V×Int:=if AP v≠0 then(V.zero,AP v) else if ws.all Ct then HQ v (FK (ws.map BC)) else(V.zero,2)
def Ny{p:Nm}:∀l:List Nm,(C0 (fun a b=>CF a.2 b.2) p l).map (·.2)=C0 CF p.2 (l.map (·.2))
 |[]=>rfl
 |x::l=>by
  have ih:=Ny (p:=x) l;simp only[C0,Yd];split
  ·exact ih
  ·rw[Yd,ih]
def PT(l:List Nm):(BJ (fun a b=>CF a.2 b.2) l).map (·.2)=BJ CF (l.map (·.2)):=by
 cases l with
 |nil=>rfl
 |cons x l=>simp only[BJ,Yd,Ny]
end
end Go.Gk.Val
end
section
namespace Go.Gk
open Go Srt
attribute [local irreducible] gwp gws
def DP:A0:=⟨53,[],(sR (om 10 1<|ob 11 .add 10 z1<|om 8 11 .done) (.block 0 (.loop (.seq (sR (om 12 8<|om 13 2<|ob 14 .lss 12 13 .done) (.cond 14 .skip (.exit 0))) (.seq (.block 1 (sR (om 17 8<|om 9 17 .done) (.block 2 (.loop (.seq (.seq (.reg true (pm 18 9<|pm 19 1<|p1 20 (.bin .gtr 18 19)<|pm 21 20 (.op true ⟨(some 22),(some (21,true)),(.mv 3)⟩ (.op true ⟨(some 23),(some (21,true)),(.mv 0)⟩ (.op true ⟨(some 24),(some (21,true)),(.mv 9)⟩ (.op true ⟨(some 25),(some (21,true)),(.idx 7 23 24)⟩ (.op true ⟨(some 26),(some (21,true)),(.ld (some 7) 25)⟩ (.op true ⟨(some 27),(some (21,true)),(.mv 0)⟩ (.op true ⟨(some 28),(some (21,true)),(.mv 9)⟩ (.op true ⟨(some 29),(some (21,true)),(.bin .sub 28 z1)⟩ (.op true ⟨(some 30),(some (21,true)),(.idx 7 27 29)⟩ (.op true ⟨(some 31),(some (21,true)),(.ld (some 7) 30)⟩ (oT 32 21 (.callv 22 [26,31]) (.op true ⟨(some 33),(some (21,true)),(.bin .lss 32 z0)⟩ (p1 34 (.pick 21 33 (.const (.bool false))) .done))))))))))))))) (.cond 34 .skip (.exit 2))) (.seq (.block 3 (.reg true (pm 37 0<|pm 38 9<|pm 39 0<|pm 40 9<|p1 41 (.bin .sub 40 z1)<|pm 42 0<|pm 43 9<|p1 44 (.bin .sub 43 z1)<|p1 45 (.idx 7 42 44)<|pm 47 0<|pm 48 9<|p1 49 (.idx 7 47 48) (.alt ⟨(some 46),none,(.ld (some 7) 45)⟩ (o1 50 (.ld (some 7) 49) (p1 51 (.idx 7 37 38) (o0 (.st 7 51 46) (p1 52 (.idx 7 39 41) (o0 (.st 7 52 50) .done))))) (o1 50 (.ld (some 7) 49) (o1 46 (.ld (some 7) 45) (p1 51 (.idx 7 37 38) (o0 (.st 7 51 46) (p1 52 (.idx 7 39 41) (o0 (.st 7 52 50) .done)))))))))) (rG (om 35 9<|ob 36 .sub 35 z1<|om 9 36 .done)))))))) (rG (om 15 8<|ob 16 .add 15 z1<|om 8 16 .done)))))))⟩
set_option maxHeartbeats 1000000 in
def KM{P f}(hd:dec P f=some DP):QN 7 P f:=by
 intro α R c d pa n cp h g A M B ia ib oc hc1 ho hg ea eb;subst ea;subst eb;have hll:=ho.A2;simp only[Xl] at hll;refine Bf hd (No rfl) ?_;show gwp P _ _ _ _ _;(refine Ac<|Ab rfl<|AI rfl rfl (by omega) (by omega)<|Ab rfl<|Aa<|As ?_);refine A6 (α:=Nat) (fun k=>[(0,.slice pa n cp),(1,vZ A.length),(2,vZ (A.length+M.length:Nat)),(3,.func (.func g) #[] #[]),(8,vZ (A.length+1+k:Nat))])
  (fun k d' L'=>d'=d∧∃S N h',S.length - 1=k∧(S++N).Perm M∧Srt c S∧(S=[]→N=[])∧L'=[h']∧AO 7 R d (.slice pa n cp) (A++(S++N)++B) h')
  (fun k=>M.length - k) 0 ⟨rfl,rfl,rfl,rfl,int_eq (by omega),trivial⟩ ⟨rfl,M.take 1,M.drop 1,h,?_,by simp only[Xr];exact Ym _,?_,?_,rfl,by simp only[Xr];exact ho⟩ ?_
 ·simp;omega
 ·cases M with
  |nil=>exact Srt.nil
  |cons m M=>exact Srt.one m
 ·cases M<;>simp
 rintro k ρ d' L' ⟨hdd,S,N,h',hk,hpm,hsrt,h0,hL,ho'⟩;subst hdd;subst hL;have hlen:=hpm.length_eq;simp only[Xl] at hlen;cases N with
 |nil=>
  simp only[X0] at hlen
  (refine Ah<|Ac<|Ab rfl<|Ab rfl<|Av rfl rfl<|Aa<|An rfl (by omega)<|AU ?_)
  refine HB _ (Xy _) ?_
  exact⟨rfl,S,h',rfl,by simpa using ho',by simpa using hpm,hsrt⟩
 |cons x N=>
  have hS:S≠[]:=fun q=>by have:=h0 q;cases this
  have hSl:S.length≠0:=fun q=>hS (Xo q)
  simp only[Xv] at hlen
  (refine Ah<|Ac<|Ab rfl<|Ab rfl<|Av rfl rfl<|Aa<|Au rfl (by omega)<|Ao<|Ah<|As<|Ac<|Ab rfl<|Ab rfl<|Aa<|As ?_)
  refine A6 (α:=Nat) (fun j=>[(0,.slice pa n cp),(1,vZ A.length),(2,vZ (A.length+M.length:Nat)),(3,.func (.func g) #[] #[]),(8,vZ (A.length+1+k:Nat)),(9,vZ (A.length+j:Nat))])
   (fun j d2 L'=>d2=d'∧∃S1 S2 h',S1.length=j∧S1++S2=S∧(S2=[]∨∃z,S2.head?=some z∧c x z≤0)∧L'=[h']∧AO 7 R d' (.slice pa n cp) (A++(S1++x::S2++N)++B) h')
   (fun j=>j) S.length ⟨rfl,rfl,rfl,rfl,rfl,int_eq (by omega),trivial⟩ ⟨rfl,S,[],h',rfl,by simp,.inl rfl,rfl,by simpa using ho'⟩ ?_
  rintro j ρ d2 L' ⟨hdd,S1,S2,h2,hj,hS12,hx2,hL,ho2⟩
  subst hdd;subst hL
  rcases List.eq_nil_or_concat S1 with rfl|⟨S1,y,rfl⟩
  ·simp only[X0] at hj
   simp only[XL] at hS12
   subst hS12
   (refine Ah<|Ah<|Bp<|Ab rfl<|Ab rfl<|AM rfl rfl<|Ad rfl<|Az rfl (by omega)<|Aj rfl<|Aj rfl<|Aj rfl<|Aj rfl<|Aj rfl<|Aj rfl<|Aj rfl<|Aj rfl<|Aj rfl<|Aj rfl<|Aj rfl<|Aj rfl<|Am rfl rfl<|Bo<|AJ rfl<|AU<|Ax<|Ab rfl<|AI rfl rfl (by omega) (by omega)<|Ab rfl<|Aa ?_)
   refine⟨k+1,by omega,⟨rfl,rfl,rfl,rfl,int_eq (by omega),trivial⟩,rfl,x::S2,N,h2,by simp;omega,?_,?_,by simp,rfl,by simpa using ho2⟩
   ·exact(List.perm_middle (l₁:=S2) (l₂:=N) (a:=x)).symm.trans hpm
   ·exact Srt.put oc (l:=[]) (by simpa using hsrt) (.inl rfl) hx2
  ·rw[List.concat_eq_append] at hS12 ho2 hj
   simp only[Xl,Xv,X0] at hj
   have e1:A++(S1++[y]++x::S2++N)++B=(A++S1)++y::([]:List α)++x::(S2++N++B):=by simp
   have hpx:(A++(S1++[y]++x::S2++N)++B).Perm (A++M++B):=by
    refine(Yl A ?_).append_right B;refine List.Perm.trans ?_ hpm;rw[←hS12];simp only[Xf,XF,XL];refine Yl S1 ?_;refine(XD y ?_)
    exact List.perm_middle.symm
   have hg2:=hg.perm hpx
   obtain⟨b,T,l,hpa,hn,hh,hll2,hRl,hsw⟩:=ho2.Li (by omega) (by simp;omega)
   have hlx:(A++(S1++[y]++x::S2++N)++B).length=A.length+M.length+B.length:=by rw[hpx.length_eq];simp;omega
   subst hpa;subst hh
   have hb:S1.length+1<M.length:=by have:=congrArg Yw hS12;simp at this;omega
   have hRy:=hRl (A.length+S1.length) (by omega)
   have hRx:=hRl (A.length+S1.length+1) (by omega)
   have g1:(A++(S1++[y]++x::S2++N)++B)[A.length+S1.length]'(by omega)=y:=ET (A++S1) (x::S2++N++B) (by simp) (by simp) _
   have g2:(A++(S1++[y]++x::S2++N)++B)[A.length+S1.length+1]'(by omega)=x:=ET (A++S1++[y]) (S2++N++B) (by simp) (by simp;omega) _
   rw[g1] at hRy;rw[g2] at hRx
   have my:y∈A++(S1++[y]++x::S2++N)++B:=by simp
   have mx:x∈A++(S1++[y]++x::S2++N)++B:=by simp
   (refine Ah<|Ah<|Bp<|Ab rfl<|Ab rfl<|AM rfl rfl<|Ad rfl<|AF rfl (by omega)<|Af rfl<|Cz rfl<|Af rfl<|Ar rfl<|Af rfl<|Ab rfl<|Af rfl ?_)
   refine BT (A.length+S1.length+1) rfl rfl (by omega) (by omega) ?_
   apply Af;rfl
   refine Ck 0 rfl rfl (by omega) ?_
   (refine Af rfl<|Ar rfl<|Af rfl<|Ab rfl<|Af rfl<|Bw rfl rfl (by omega) (by omega)<|Af rfl ?_)
   refine BT (A.length+S1.length) rfl rfl (by omega) (by omega) ?_
   apply Af;rfl
   refine Ck 0 rfl rfl (by omega) ?_
   apply Af;rfl
   refine DD rfl rfl (hg2 x mx y my _ _ hRx hRy) ?_
   by_cases hlt:c x y<0
   ·(refine Af rfl<|Av rfl rfl<|Ap rfl rfl<|Bo<|Au rfl (by omega)<|Ao<|Ah<|As ?_)
    refine GL [] [0] rfl ?_
    have hs1:=hsw (A.length+S1.length+1) (A.length+S1.length) (by omega) (by omega)
    rw[g1,g2,List.set_comm _ _ (by omega),e1,JQ (by simp) (by simp),show A++S1++x::[]++y::(S2++N++B)=A++(S1++x::(y::S2)++N)++B by simp] at hs1
    (refine Ar rfl<|Ab rfl<|Ar rfl<|Ab rfl<|Bw rfl rfl (by omega) (by omega)<|Ar rfl<|Ab rfl<|Bw rfl rfl (by omega) (by omega) ?_)
    refine BT (A.length+S1.length) rfl rfl (by omega) (by omega) ?_
    (refine Ar rfl<|Ab rfl ?_)
    refine BT (A.length+S1.length+1) rfl rfl (by omega) (by omega) ?_
    refine Ee ?_ ?_
    ·refine Ck 0 rfl rfl (by omega) ?_
     refine Ck 0 rfl rfl (by omega) ?_
     refine BT (A.length+S1.length+1) rfl rfl (by omega) (by omega) ?_
     refine Fo 0 rfl rfl rfl (C5 (by omega)) (by omega) (hc1 _ _ _ hRy) ?_
     refine BT (A.length+S1.length) rfl rfl (by omega) (by omega) ?_
     refine Fo 0 rfl rfl rfl (C5 (by omega)) (by rw[DH (by rw[C5 (by omega)];omega)];omega) (hc1 _ _ _ hRx) ?_
     (refine Aa<|Ax<|Ab rfl<|Bw rfl rfl (by omega) (by omega)<|Ab rfl<|Aa ?_)
     exact⟨j - 1,by omega,⟨rfl,rfl,rfl,rfl,rfl,int_eq (by omega),trivial⟩,rfl,S1,y::S2,_,by omega,by rw[←hS12];simp,.inr ⟨y,rfl,oc.le_of_lt hlt⟩,rfl,hs1⟩
    ·refine Ck 0 rfl rfl (by omega) ?_
     refine Ck 0 rfl rfl (by omega) ?_
     refine BT (A.length+S1.length+1) rfl rfl (by omega) (by omega) ?_
     refine Fo 0 rfl rfl rfl (C5 (by omega)) (by omega) (hc1 _ _ _ hRy) ?_
     refine BT (A.length+S1.length) rfl rfl (by omega) (by omega) ?_
     refine Fo 0 rfl rfl rfl (C5 (by omega)) (by rw[DH (by rw[C5 (by omega)];omega)];omega) (hc1 _ _ _ hRx) ?_
     (refine Aa<|Ax<|Ab rfl<|Bw rfl rfl (by omega) (by omega)<|Ab rfl<|Aa ?_)
     exact⟨j - 1,by omega,⟨rfl,rfl,rfl,rfl,rfl,int_eq (by omega),trivial⟩,rfl,S1,y::S2,_,by omega,by rw[←hS12];simp,.inr ⟨y,rfl,oc.le_of_lt hlt⟩,rfl,hs1⟩
   ·(refine Af rfl<|Av rfl rfl<|Ap rfl rfl<|Bo<|An rfl (by omega)<|AU<|Ax<|Ab rfl<|AI rfl rfl (by omega) (by omega)<|Ab rfl<|Aa ?_)
    refine⟨k+1,by omega,⟨rfl,rfl,rfl,rfl,int_eq (by omega),trivial⟩,rfl,S1++[y]++x::S2,N,bx b T l,?_,?_,?_,by simp,rfl,ho2⟩
    ·have:=congrArg Yw hS12;simp at this;simp;omega
    ·refine List.Perm.trans ?_ hpm
     rw[←hS12]
     simp only[Xf,XF,XL]
     exact(Yl S1 ((List.perm_middle.symm).cons y))
    ·exact Srt.put oc (l:=S1++[y]) (by rw[hS12];exact hsrt) (.inr ⟨y,by simp,oc.le_of_not_lt hlt⟩) hx2
def Ea:A0:=⟨38,[],(sR (o1 10 (.mv z0) .done) (.block 0 (.loop (.seq (sR (om 11 10<|om 12 3<|ob 13 .lss 11 12 .done) (.cond 13 .skip (.exit 0))) (.seq (.block 1 (.reg true (pm 16 0<|pm 17 1<|pm 18 10<|p1 19 (.bin .add 17 18)<|pm 20 0<|pm 21 2<|pm 22 10<|p1 23 (.bin .add 21 22)<|pm 24 0<|pm 25 2<|pm 26 10<|p1 27 (.bin .add 25 26)<|p1 28 (.idx 7 24 27)<|pm 30 0<|pm 31 1<|pm 32 10<|p1 33 (.bin .add 31 32)<|p1 34 (.idx 7 30 33) (.alt ⟨(some 29),none,(.ld (some 7) 28)⟩ (o1 35 (.ld (some 7) 34) (p1 36 (.idx 7 16 19) (o0 (.st 7 36 29) (p1 37 (.idx 7 20 23) (o0 (.st 7 37 35) .done))))) (o1 35 (.ld (some 7) 34) (o1 29 (.ld (some 7) 28) (p1 36 (.idx 7 16 19) (o0 (.st 7 36 29) (p1 37 (.idx 7 20 23) (o0 (.st 7 37 35) .done)))))))))) (rG (om 14 10<|ob 15 .add 14 z1<|om 10 15 .done)))))))⟩
set_option maxHeartbeats 1000000 in
def Kc{P f}(hd:dec P f=some Ea):Pw 7 P f:=by
 intro α R d pa n cp h g A X M Y B ia ib im hc1 ho hxy ea eb em;subst ea;subst eb;subst em;have hll:=ho.A2;simp only[Xl] at hll;refine Bf hd (No rfl) ?_;show gwp P _ _ _ _ _;(refine Ac<|Ab rfl<|Aa<|As ?_);refine A6 (α:=Nat) (fun i=>[(0,.slice pa n cp),(1,vZ A.length),(2,vZ (A.length+X.length+M.length:Nat)),(3,vZ X.length),(10,vZ i)])
  (fun i d' L'=>d'=d∧i≤X.length∧∃h',L'=[h']∧AO 7 R d (.slice pa n cp) (A++(Y.take i++X.drop i)++M++(X.take i++Y.drop i)++B) h')
  (fun i=>X.length - i) 0 ⟨rfl,rfl,rfl,rfl,rfl,trivial⟩ ⟨rfl,Xw _,h,rfl,by simpa using ho⟩ ?_
 rintro i ρ d' L' ⟨hdd,hi,h',hL,ho'⟩;subst hdd;subst hL;by_cases hc:i<X.length
 ·have hc2:i<Y.length:=by omega
  have e1:A++(Y.take i++X.drop i)++M++(X.take i++Y.drop i)++B=(A++Y.take i)++X[i]::(X.drop (i+1)++M++X.take i)++Y[i]::(Y.drop (i+1)++B):=by
   rw[XE hc,XE hc2];simp only[Xf,XF,XL]
  have e2:(A++Y.take i)++Y[i]::(X.drop (i+1)++M++X.take i)++X[i]::(Y.drop (i+1)++B)=A++(Y.take (i+1)++X.drop (i+1))++M++(X.take (i+1)++Y.drop (i+1))++B:=by
   rw[Xi hc,Xi hc2];simp only[Xf,XF,XL]
  rw[e1] at ho';have hlx:((A++Y.take i)++X[i]::(X.drop (i+1)++M++X.take i)++Y[i]::(Y.drop (i+1)++B)).length=A.length+X.length+M.length+Y.length+B.length:=by
   rw[←e1];simp;omega
  obtain⟨b,T,l,hpa,hn,hh,hll2,hRl,hsw⟩:=ho'.Li (by omega) (by omega);subst hpa;subst hh;have q1:(A++Y.take i).length=A.length+i:=by simp;omega
  have q2:(X.drop (i+1)++M++X.take i).length=X.length+M.length - 1:=by simp;omega
  have hRy:=hRl (A.length+X.length+M.length+i) (by omega);have hRx:=hRl (A.length+i) (by omega);have hs1:=hsw (A.length+i) (A.length+X.length+M.length+i) (by omega) (by omega);have g1:((A++Y.take i)++X[i]::(X.drop (i+1)++M++X.take i)++Y[i]::(Y.drop (i+1)++B))[A.length+i]'(by omega)=X[i]:=ET (A++Y.take i) ((X.drop (i+1)++M++X.take i)++Y[i]::(Y.drop (i+1)++B)) (by simp) (by omega) _;have g2:((A++Y.take i)++X[i]::(X.drop (i+1)++M++X.take i)++Y[i]::(Y.drop (i+1)++B))[A.length+X.length+M.length+i]'(by omega)=Y[i]:=ET ((A++Y.take i)++X[i]::(X.drop (i+1)++M++X.take i)) (Y.drop (i+1)++B) (by simp) (by rw[Xl,Xv,q1,q2];omega) _;rw[g2] at hRy;rw[g1] at hRx;rw[g1,g2,JQ (by omega) (by omega),e2] at hs1;(refine Ah<|Ac<|Ab rfl<|Ab rfl<|Av rfl rfl<|Aa<|Au rfl (by omega)<|Ao<|Ah<|As ?_);refine GL [] [0] rfl ?_;(refine Ar rfl<|Ab rfl<|Ab rfl<|AI rfl rfl (by omega) (by omega)<|Ar rfl<|Ab rfl<|Ab rfl<|AI rfl rfl (by omega) (by omega)<|Ar rfl<|Ab rfl<|Ab rfl<|AI rfl rfl (by omega) (by omega) ?_);refine BT (A.length+X.length+M.length+i) rfl rfl (by omega) (by omega) ?_;(refine Ar rfl<|Ab rfl<|Ab rfl<|AI rfl rfl (by omega) (by omega) ?_);refine BT (A.length+i) rfl rfl (by omega) (by omega) ?_;refine Ee ?_ ?_
  ·refine Ck 0 rfl rfl (by omega) ?_;refine Ck 0 rfl rfl (by omega) ?_;refine BT (A.length+i) rfl rfl (by omega) (by omega) ?_;refine Fo 0 rfl rfl rfl (C5 (by omega)) (by omega) (hc1 _ _ _ hRy) ?_;refine BT (A.length+X.length+M.length+i) rfl rfl (by omega) (by omega) ?_;refine Fo 0 rfl rfl rfl (C5 (by omega)) (by rw[DH (by rw[C5 (by omega)];omega)];omega) (hc1 _ _ _ hRx) ?_;(refine Aa<|Ax<|Ab rfl<|AI rfl rfl (by omega) (by omega)<|Ab rfl<|Aa ?_);exact⟨i+1,by omega,⟨rfl,rfl,rfl,rfl,int_eq (by omega),trivial⟩,rfl,hc,_,rfl,hs1⟩
  ·refine Ck 0 rfl rfl (by omega) ?_;refine Ck 0 rfl rfl (by omega) ?_;refine BT (A.length+i) rfl rfl (by omega) (by omega) ?_;refine Fo 0 rfl rfl rfl (C5 (by omega)) (by omega) (hc1 _ _ _ hRy) ?_;refine BT (A.length+X.length+M.length+i) rfl rfl (by omega) (by omega) ?_;refine Fo 0 rfl rfl rfl (C5 (by omega)) (by rw[DH (by rw[C5 (by omega)];omega)];omega) (hc1 _ _ _ hRx) ?_;(refine Aa<|Ax<|Ab rfl<|AI rfl rfl (by omega) (by omega)<|Ab rfl<|Aa ?_);exact⟨i+1,by omega,⟨rfl,rfl,rfl,rfl,int_eq (by omega),trivial⟩,rfl,hc,_,rfl,hs1⟩
 ·obtain rfl:i=X.length:=by omega
  rw[XQ (Nat.le_of_eq hxy.symm),XY,Xz,List.drop_of_length_le (Nat.le_of_eq hxy.symm)] at ho';(refine Ah<|Ac<|Ab rfl<|Ab rfl<|Av rfl rfl<|Aa<|An rfl (by omega)<|AU ?_);refine HB _ (Xy _) ?_;exact⟨rfl,h',rfl,by simpa using ho'⟩
def EJ(a0:Nat):A0:=⟨58,[],(sR (om 12 2<|om 13 1<|ob 14 .sub 12 13<|om 10 14 .done) (sR (om 15 3<|om 16 2<|ob 17 .sub 15 16<|om 11 17 .done) (.seq (.block 0 (.loop (.seq (sR (om 18 10<|om 19 11<|ob 20 .neq 18 19 .done) (.cond 20 .skip (.exit 0))) (.block 1 (sR (om 21 10<|om 22 11<|ob 23 .gtr 21 22 .done) (.cond 23 (sR (om 24 0<|om 25 2<|om 26 10<|ob 27 .sub 25 26<|om 28 2<|om 29 11<|om 30 4<|oc 31 a0 [24,27,28,29,30] .done) (rG (om 32 10<|om 33 11<|ob 34 .sub 32 33<|om 10 34 .done))) (sR (om 35 0<|om 36 2<|om 37 10<|ob 38 .sub 36 37<|om 39 2<|om 40 11<|ob 41 .add 39 40<|om 42 10<|ob 43 .sub 41 42<|om 44 10<|om 45 4<|oc 46 a0 [35,38,43,44,45] .done) (rG (om 47 11<|om 48 10<|ob 49 .sub 47 48<|om 11 49 .done))))))))) (rG (om 50 0<|om 51 2<|om 52 10<|ob 53 .sub 51 52<|om 54 2<|om 55 10<|om 56 4<|oc 57 a0 [50,53,54,55,56] .done)))))⟩
set_option maxHeartbeats 1000000 in
def Kp{P f f1}(hd:dec P f=some (EJ f1))(h1:Pw 7 P f1):QI 7 P f:=by
 intro α R d pa n cp h g A X Y B ia im ib hc1 ho hx hy ea em eb;subst ea;subst eb;subst em;have hll:=ho.A2;simp only[Xl] at hll;have hxl:X.length≠0:=fun q=>hx (Xo q);have hyl:Y.length≠0:=fun q=>hy (Xo q);refine Bf hd (No rfl) ?_;show gwp P _ _ _ _ _;(refine Ac<|Ab rfl<|Ab rfl<|Bw rfl rfl (by omega) (by omega)<|Ab rfl<|Aa<|Ac<|Ab rfl<|Ab rfl<|Bw rfl rfl (by omega) (by omega)<|Ab rfl<|Aa<|Ah<|As ?_);refine A6 (α:=Nat×Nat) (fun x=>[(0,.slice pa n cp),(1,vZ A.length),(2,vZ (A.length+X.length:Nat)),(3,vZ (A.length+X.length+Y.length:Nat)),(4,.func (.func g) #[] #[]),(10,vZ x.1),(11,vZ x.2)])
  (fun x d' L'=>d'=d∧∃A' X' Y' B' h',L'=[h']∧AO 7 R d (.slice pa n cp) (A'++X'++Y'++B') h'∧X'.length=x.1∧Y'.length=x.2∧A'.length+x.1=A.length+X.length∧0<x.1∧0<x.2∧A'++Y'++X'++B'=A++Y++X++B)
  (fun x=>x.1+x.2) (X.length,Y.length) ⟨rfl,rfl,rfl,rfl,rfl,int_eq (by show(_:Int)=(X.length:Int);omega),int_eq (by show(_:Int)=(Y.length:Int);omega),trivial⟩ ⟨rfl,A,X,Y,B,h,rfl,ho,rfl,rfl,rfl,by simp only;omega,by simp only;omega,rfl⟩ ?_
 rintro⟨i,j⟩ ρ d' L' ⟨hdd,A',X',Y',B',h',hL,ho',hi,hj,ha,hi0,hj0,he⟩;subst hdd;subst hL;simp only at hi hj ha hi0 hj0;have hll':=ho'.A2;simp only[Xl] at hll';by_cases hij:i=j
 ·(refine Ah<|Ac<|Ab rfl<|Ab rfl<|AB rfl rfl<|Aa<|An rfl (by omega)<|AU<|Ax<|Ar rfl<|Ab rfl<|Ab rfl<|Bw rfl rfl (by omega) (by omega)<|Ab rfl<|Ab rfl<|Cz rfl ?_);refine C7 1 rfl (h1 (A:=A') (X:=X') (M:=[]) (Y:=Y') (B:=B') hc1 (by simpa using ho') (by omega) (by omega) (by simp;omega) (by omega)) (fun r d2 L2 _ ⟨hdd,h2,hL,ho2⟩=>?_);subst hdd;subst hL;(apply Aa);refine HB [h2] (by simp) ?_;exact⟨rfl,h2,rfl,by rw[←he];simpa using ho2⟩
 ·by_cases hgt:j<i
  ·(refine Ah<|Ac<|Ab rfl<|Ab rfl<|AB rfl rfl<|Aa<|Au rfl (by omega)<|Ao<|As<|Ac<|Ab rfl<|Ab rfl<|AM rfl rfl<|Aa<|Au rfl (by omega)<|Ac<|Ar rfl<|Ab rfl<|Ab rfl<|Bw rfl rfl (by omega) (by omega)<|Ab rfl<|Ab rfl<|Cz rfl ?_);refine C7 1 rfl (h1 (A:=A') (X:=X'.take j) (M:=X'.drop j) (Y:=Y') (B:=B') hc1 (by rw[Xf A',Xr];exact ho') (by simp;omega) (by omega) (by simp;omega) (by simp;omega)) (fun r d2 L2 _ ⟨hdd,h2,hL,ho2⟩=>?_);subst hdd;subst hL;(refine Aa<|Ax<|Ab rfl<|Ab rfl<|Bw rfl rfl (by omega) (by omega)<|Ab rfl<|Aa ?_);refine⟨(i - j,j),by simp only;omega,⟨rfl,rfl,rfl,rfl,rfl,int_eq (by show(_:Int)=((i - j:Nat):Int);omega),rfl,trivial⟩,rfl,A'++Y',X'.drop j,X'.take j,B',h2,rfl,ho2,?_,?_,?_,?_,?_,?_⟩
   ·simp;omega
   ·simp;omega
   ·simp;omega
   ·simp only;omega
   ·simp only;omega
   ·rw[←he,Xf (A'++Y'),Xr]
  ·(refine Ah<|Ac<|Ab rfl<|Ab rfl<|AB rfl rfl<|Aa<|Au rfl (by omega)<|Ao<|As<|Ac<|Ab rfl<|Ab rfl<|AM rfl rfl<|Aa<|An rfl (by omega)<|Ac<|Ar rfl<|Ab rfl<|Ab rfl<|Bw rfl rfl (by omega) (by omega)<|Ab rfl<|Ab rfl<|AI rfl rfl (by omega) (by omega)<|Ab rfl<|Bw rfl rfl (by omega) (by omega)<|Ab rfl<|Cz rfl ?_);refine C7 1 rfl (h1 (A:=A') (X:=X') (M:=Y'.take (j - i)) (Y:=Y'.drop (j - i)) (B:=B') hc1 (by rw[Xf (A'++X'),Xr];exact ho') (by simp;omega) (by omega) (by simp;omega) (by omega)) (fun r d2 L2 _ ⟨hdd,h2,hL,ho2⟩=>?_);subst hdd;subst hL;(refine Aa<|Ax<|Ab rfl<|Ab rfl<|Bw rfl rfl (by omega) (by omega)<|Ab rfl<|Aa ?_);refine⟨(i,j - i),by simp only;omega,⟨rfl,rfl,rfl,rfl,rfl,rfl,int_eq (by show(_:Int)=((j - i:Nat):Int);omega),trivial⟩,rfl,A',Y'.drop (j - i),Y'.take (j - i),X'++B',h2,rfl,by simpa using ho2,?_,?_,?_,?_,?_,?_⟩
   ·simp;omega
   ·simp;omega
   ·simp only;omega
   ·simp only;omega
   ·simp only;omega
   ·rw[←he];conv=>rhs;rw[←Xr (j - i) Y']
    simp only[Xf]
end Go.Gk
end
section
namespace Go.Gk
open Go Srt Val
attribute [local irreducible] gwp gws
def Eg(a0 a1:Nat):A0:=⟨220,[],(.seq (sR (om 25 2<|om 26 1<|ob 27 .sub 25 26<|ob 28 .eql 27 z1 .done) (.cond 28 (sR (om 29 2<|om 10 29 .done) (sR (om 30 3<|om 11 30 .done) (.seq (.block 0 (.loop (.seq (sR (om 31 10<|om 32 11<|ob 33 .lss 31 32 .done) (.cond 33 .skip (.exit 0))) (.block 1 (sR (om 34 10<|om 35 11<|ob 36 .add 34 35<|o1 37 (.cvi .u64 36)<|ob 38 .shr 37 (.const (.int .u64 1))<|o1 39 (.cvi .i64 38)<|om 12 39 .done) (.seq (.reg true (pm 40 4<|pm 41 0<|pm 42 12<|p1 43 (.idx 7 41 42)<|p1 44 (.ld (some 7) 43)<|pm 45 0<|pm 46 1<|p1 47 (.idx 7 45 46)<|p1 48 (.ld (some 7) 47)<|o1 49 (.callv 40 [44,48])<|p1 50 (.bin .lss 49 z0) .done)) (.cond 50 (rG (om 51 12<|ob 52 .add 51 z1<|om 10 52 .done)) (rG (om 53 12<|om 11 53 .done))))))))) (.seq (sR (om 54 1<|om 13 54 .done) (.block 2 (.loop (.seq (sR (om 55 13<|om 56 10<|ob 57 .sub 56 z1<|ob 58 .lss 55 57 .done) (.cond 58 .skip (.exit 2))) (.seq (.block 3 (.reg true (pm 61 0<|pm 62 13<|pm 63 0<|pm 64 13<|p1 65 (.bin .add 64 z1)<|pm 66 0<|pm 67 13<|p1 68 (.bin .add 67 z1)<|p1 69 (.idx 7 66 68)<|pm 71 0<|pm 72 13<|p1 73 (.idx 7 71 72) (.alt ⟨(some 70),none,(.ld (some 7) 69)⟩ (o1 74 (.ld (some 7) 73) (p1 75 (.idx 7 61 62) (o0 (.st 7 75 70) (p1 76 (.idx 7 63 65) (o0 (.st 7 76 74) .done))))) (o1 74 (.ld (some 7) 73) (o1 70 (.ld (some 7) 69) (p1 75 (.idx 7 61 62) (o0 (.st 7 75 70) (p1 76 (.idx 7 63 65) (o0 (.st 7 76 74) .done)))))))))) (rG (om 59 13<|ob 60 .add 59 z1<|om 13 60 .done))))))) .ret)))) .skip)) (.seq (sR (om 77 3<|om 78 2<|ob 79 .sub 77 78<|ob 80 .eql 79 z1 .done) (.cond 80 (sR (om 81 1<|om 14 81 .done) (sR (om 82 2<|om 15 82 .done) (.seq (.block 4 (.loop (.seq (sR (om 83 14<|om 84 15<|ob 85 .lss 83 84 .done) (.cond 85 .skip (.exit 4))) (.block 5 (sR (om 86 14<|om 87 15<|ob 88 .add 86 87<|o1 89 (.cvi .u64 88)<|ob 90 .shr 89 (.const (.int .u64 1))<|o1 91 (.cvi .i64 90)<|om 16 91 .done) (.seq (.reg true (pm 92 4<|pm 93 0<|pm 94 2<|p1 95 (.idx 7 93 94)<|p1 96 (.ld (some 7) 95)<|pm 97 0<|pm 98 16<|p1 99 (.idx 7 97 98)<|p1 100 (.ld (some 7) 99)<|o1 101 (.callv 92 [96,100])<|p1 102 (.bin .lss 101 z0)<|p1 103 (.un .not 102) .done)) (.cond 103 (rG (om 104 16<|ob 105 .add 104 z1<|om 14 105 .done)) (rG (om 106 16<|om 15 106 .done))))))))) (.seq (sR (om 107 2<|om 17 107 .done) (.block 6 (.loop (.seq (sR (om 108 17<|om 109 14<|ob 110 .gtr 108 109 .done) (.cond 110 .skip (.exit 6))) (.seq (.block 7 (.reg true (pm 113 0<|pm 114 17<|pm 115 0<|pm 116 17<|p1 117 (.bin .sub 116 z1)<|pm 118 0<|pm 119 17<|p1 120 (.bin .sub 119 z1)<|p1 121 (.idx 7 118 120)<|pm 123 0<|pm 124 17<|p1 125 (.idx 7 123 124) (.alt ⟨(some 122),none,(.ld (some 7) 121)⟩ (o1 126 (.ld (some 7) 125) (p1 127 (.idx 7 113 114) (o0 (.st 7 127 122) (p1 128 (.idx 7 115 117) (o0 (.st 7 128 126) .done))))) (o1 126 (.ld (some 7) 125) (o1 122 (.ld (some 7) 121) (p1 127 (.idx 7 113 114) (o0 (.st 7 127 122) (p1 128 (.idx 7 115 117) (o0 (.st 7 128 126) .done)))))))))) (rG (om 111 17<|ob 112 .sub 111 z1<|om 17 112 .done))))))) .ret)))) .skip)) (sR (om 129 1<|om 130 3<|ob 131 .add 129 130<|o1 132 (.cvi .u64 131)<|ob 133 .shr 132 (.const (.int .u64 1))<|o1 134 (.cvi .i64 133)<|om 18 134 .done) (sR (om 135 18<|om 136 2<|ob 137 .add 135 136<|om 19 137 .done) (sR (o1 20 (.mv z0)<|o1 21 (.mv z0) .done) (.seq (sR (om 138 2<|om 139 18<|ob 140 .gtr 138 139 .done) (.cond 140 (sR (om 141 19<|om 142 3<|ob 143 .sub 141 142<|om 20 143 .done) (rG (om 144 18<|om 21 144 .done))) (sR (om 145 1<|om 20 145 .done) (rG (om 146 2<|om 21 146 .done))))) (sR (om 147 19<|ob 148 .sub 147 z1<|om 22 148 .done) (.seq (.block 8 (.loop (.seq (sR (om 149 20<|om 150 21<|ob 151 .lss 149 150 .done) (.cond 151 .skip (.exit 8))) (.block 9 (sR (om 152 20<|om 153 21<|ob 154 .add 152 153<|o1 155 (.cvi .u64 154)<|ob 156 .shr 155 (.const (.int .u64 1))<|o1 157 (.cvi .i64 156)<|om 23 157 .done) (.seq (.reg true (pm 158 4<|pm 159 0<|pm 160 22<|pm 161 23<|p1 162 (.bin .sub 160 161)<|p1 163 (.idx 7 159 162)<|p1 164 (.ld (some 7) 163)<|pm 165 0<|pm 166 23<|p1 167 (.idx 7 165 166)<|p1 168 (.ld (some 7) 167)<|o1 169 (.callv 158 [164,168])<|p1 170 (.bin .lss 169 z0)<|p1 171 (.un .not 170) .done)) (.cond 171 (rG (om 172 23<|ob 173 .add 172 z1<|om 20 173 .done)) (rG (om 174 23<|om 21 174 .done))))))))) (sR (om 175 19<|om 176 20<|ob 177 .sub 175 176<|om 24 177 .done) (.seq (sR (om 178 20<|om 179 2<|ob 180 .lss 178 179<|om 181 180<|gT 182 181 2<|gT 183 181 24<|oT 184 181 (.bin .lss 182 183)<|gP 185 181 184 .done) (.cond 185 (rG (om 186 0<|om 187 20<|om 188 2<|om 189 24<|om 190 4<|oc 191 a0 [186,187,188,189,190] .done)) .skip)) (.seq (sR (om 192 1<|om 193 20<|ob 194 .lss 192 193<|om 195 194<|gT 196 195 20<|gT 197 195 18<|oT 198 195 (.bin .lss 196 197)<|gP 199 195 198 .done) (.cond 199 (rG (om 200 0<|om 201 1<|om 202 20<|om 203 18<|om 204 4<|oc 205 a1 [200,201,202,203,204] .done)) .skip)) (sR (om 206 18<|om 207 24<|ob 208 .lss 206 207<|om 209 208<|gT 210 209 24<|gT 211 209 3<|oT 212 209 (.bin .lss 210 211)<|gP 213 209 212 .done) (.cond 213 (rG (om 214 0<|om 215 18<|om 216 24<|om 217 3<|om 218 4<|oc 219 a1 [214,215,216,217,218] .done)) .skip)))))))))))))⟩
set_option maxHeartbeats 4000000 in
def KN{P f f1}(hd:dec P f=some (Eg f1 f))(h1:QI 7 P f1):QM 7 P f:=by
 intro α R c d pa n cp g oc hc1 N;induction N with
 |zero=>
  intro h A X Y B ia im ib hN ho hg hsx hsy hx hy
  exact absurd (Xo (by omega)) hx
 |succ N ih=>
 intro h A X Y B ia im ib hN ho hg hsx hsy hx hy ea em eb;subst ea;subst eb;subst em;have hll:=ho.A2;simp only[Xl] at hll;have hxl:X.length≠0:=fun q=>hx (Xo q);have hyl:Y.length≠0:=fun q=>hy (Xo q);have ho0:=ho;obtain⟨b,T,l,hpa,hn,hh,hll2,hRl,_⟩:=ho0.Li (by omega) (by simp;omega);subst hpa;subst hh;have hlx:(A++X++Y++B).length=A.length+X.length+Y.length+B.length:=by simp;omega
 have hX:∀i (hi:i<X.length),R d (chunk l (A.length+i) 7) X[i]∧X[i]∈A++X++Y++B:=fun i hi=>by
  have:=hRl (A.length+i) (by omega);rw[ET (A++X.take i) (X.drop (i+1)++Y++B) (x:=X[i]) (by rw[show A++X++Y++B=A++(X.take i++X[i]::X.drop (i+1))++Y++B from congrArg (fun z=>A++z++Y++B) (RJ hi)];simp only[Xf,XF]) (by simp;omega)] at this;exact⟨this,by simp⟩
 have hY:∀i (hi:i<Y.length),R d (chunk l (A.length+X.length+i) 7) Y[i]∧Y[i]∈A++X++Y++B:=fun i hi=>by
  have:=hRl (A.length+X.length+i) (by omega);rw[ET (A++X++Y.take i) (Y.drop (i+1)++B) (x:=Y[i]) (by rw[show A++X++Y++B=A++X++(Y.take i++Y[i]::Y.drop (i+1))++B from congrArg (fun z=>A++X++z++B) (RJ hi)];simp only[Xf,XF]) (by simp;omega)] at this;exact⟨this,by simp⟩
 refine Bf hd (No rfl) ?_;show gwp P _ _ _ _ _;by_cases hx1:X.length=1
 ·obtain⟨x,rfl⟩:=List.length_eq_one_iff.1 hx1;simp only[Xv,X0] at hlx hX hY hll;have hx0:=hX 0 (by simp);simp only[List.getElem_cons_zero,Nat.add_zero] at hx0;(refine Ah<|Ac<|Ab rfl<|Ab rfl<|Bw rfl rfl (by omega) (by omega)<|At rfl rfl<|Aa<|Au rfl (by omega)<|Ac<|Ab rfl<|Ab rfl<|Aa<|Ac<|Ab rfl<|Ab rfl<|Aa<|Ah<|As ?_);refine A6 (α:=Nat×Nat) (fun k=>[(0,.slice (some ⟨b,0,none⟩) n cp),(1,vZ A.length),(2,vZ (A.length+1:Nat)),(3,vZ (A.length+1+Y.length:Nat)),(4,.func (.func g) #[] #[]),(10,vZ (A.length+1+k.1:Nat)),(11,vZ (A.length+1+k.2:Nat))])
   (fun k d' L'=>d'=d∧L'=[bx b T l]∧k.1≤k.2∧k.2≤Y.length∧(k.1=0∨∃q:k.1 - 1<Y.length,0<k.1∧c Y[k.1 - 1] x<0)∧(k.2=Y.length∨∃q:k.2<Y.length,¬c Y[k.2] x<0))
   (fun k=>k.2 - k.1) (0,Y.length) ⟨rfl,rfl,rfl,rfl,rfl,rfl,rfl,trivial⟩ ⟨rfl,rfl,Xw _,Xq _,.inl rfl,.inl rfl⟩ ?_
  rintro⟨k1,k2⟩ ρ d' L' ⟨hdd,hL,hk,hk2,hlo,hhi⟩;subst hdd;subst hL;simp only at hk hk2 hlo hhi;by_cases hkk:k1<k2
  ·have hh1:(k1+k2) / 2<k2:=by omega
   have hh2:k1≤(k1+k2) / 2:=by omega
   obtain⟨kh,hkh⟩:∃kh,kh=(k1+k2) / 2:=⟨_,rfl⟩
   rw[←hkh] at hh1 hh2;have hyk:=hY kh (by omega);(refine Ah<|Ac<|Ab rfl<|Ab rfl<|Av rfl rfl<|Aa<|Au rfl (by omega)<|Ao<|As<|Ac<|Ab rfl<|Ab rfl<|AI rfl rfl (by omega) (by omega)<|Fg rfl ?_);refine Jn rfl rfl (by omega) (by omega) ?_;(refine EI rfl (by omega) (by omega)<|Ab rfl<|Aa<|Ah<|Bp<|Cz rfl<|Ar rfl<|Ab rfl ?_);refine BT (A.length+1+kh) rfl rfl (by omega) (by omega) ?_;refine Ck 0 rfl rfl (by omega) ?_;(refine Ar rfl<|Ab rfl ?_);refine BT A.length rfl rfl (by omega) (by omega) ?_;refine Ck 0 rfl rfl (by omega) ?_;refine DD rfl rfl (hg _ hyk.2 _ hx0.2 _ _ hyk.1 hx0.1) ?_;by_cases hlt:c Y[kh] x<0
   ·(refine Av rfl rfl<|Bo<|Au rfl (by omega)<|Ax<|Ab rfl<|AI rfl rfl (by omega) (by omega)<|Ab rfl<|Aa ?_);exact⟨(kh+1,k2),by simp only;omega,⟨rfl,rfl,rfl,rfl,rfl,int_eq (by show(_:Int)=((A.length+1+(kh+1):Nat):Int);omega),rfl,trivial⟩,rfl,rfl,hh1,hk2,.inr ⟨by simp only;omega,Nat.succ_pos _,hlt⟩,hhi⟩
   ·(refine Av rfl rfl<|Bo<|An rfl (by omega)<|Ax<|Ab rfl<|Ab rfl<|Aa ?_);exact⟨(k1,kh),by simp only;omega,⟨rfl,rfl,rfl,rfl,rfl,rfl,int_eq (by show(_:Int)=((A.length+1+kh:Nat):Int);omega),trivial⟩,rfl,rfl,hh2,by simp only;omega,hlo,.inr ⟨by simp only;omega,hlt⟩⟩
  ·obtain rfl:k1=k2:=by omega
   (refine Ah<|Ac<|Ab rfl<|Ab rfl<|Av rfl rfl<|Aa<|An rfl (by omega)<|AU<|Ah<|Ac<|Ab rfl<|Ab rfl<|Aa<|As ?_);refine A6 (α:=Nat) (fun j=>[(0,.slice (some ⟨b,0,none⟩) n cp),(1,vZ A.length),(2,vZ (A.length+1:Nat)),(3,vZ (A.length+1+Y.length:Nat)),(4,.func (.func g) #[] #[]),(10,vZ (A.length+1+k1:Nat)),(13,vZ (A.length+j:Nat))])
    (fun j d2 L'=>d2=d'∧j≤k1∧∃h',L'=[h']∧AO 7 R d' (.slice (some ⟨b,0,none⟩) n cp) (A++(Y.take j++x::Y.drop j)++B) h')
    (fun j=>k1 - j) 0 ⟨rfl,rfl,rfl,rfl,rfl,rfl,rfl,trivial⟩ ⟨rfl,Xw _,_,rfl,by simpa using ho⟩ ?_
   rintro j ρ d2 L' ⟨hdd,hj,h2,hL,ho2⟩;subst hdd;subst hL;by_cases hjk:j<k1
   ·have hjy:j<Y.length:=by omega
    have e1:A++(Y.take j++x::Y.drop j)++B=(A++Y.take j)++x::([]:List α)++Y[j]::(Y.drop (j+1)++B):=by
     rw[XE hjy];simp only[Xf,XF,XL]
    have e2:(A++Y.take j)++Y[j]::([]:List α)++x::(Y.drop (j+1)++B)=A++(Y.take (j+1)++x::Y.drop (j+1))++B:=by
     rw[Xi hjy];simp only[Xf,XF,XL]
    rw[e1] at ho2;have q1:(A++Y.take j).length=A.length+j:=by simp;omega
    have hlx2:((A++Y.take j)++x::([]:List α)++Y[j]::(Y.drop (j+1)++B)).length=A.length+1+Y.length+B.length:=by rw[←e1];simp;omega
    obtain⟨b2,T2,l2,hpa,hn2,hh,hll3,hRl2,hsw⟩:=ho2.Li (by omega) (by omega);obtain rfl:b=b2:=by injection hpa with hpa;injection hpa
    subst hh;have hs1:=hsw (A.length+j) (A.length+j+1) (by omega) (by omega);have hRx:=hRl2 (A.length+j) (by omega);have hRy:=hRl2 (A.length+j+1) (by omega);have g1:((A++Y.take j)++x::([]:List α)++Y[j]::(Y.drop (j+1)++B))[A.length+j]'(by omega)=x:=ET (A++Y.take j) (Y[j]::(Y.drop (j+1)++B)) (by simp) (by omega) _;have g2:((A++Y.take j)++x::([]:List α)++Y[j]::(Y.drop (j+1)++B))[A.length+j+1]'(by omega)=Y[j]:=ET ((A++Y.take j)++[x]) (Y.drop (j+1)++B) (by simp) (by simp;omega) _;rw[g2] at hRy;rw[g1] at hRx;rw[g1,g2,JQ (by omega) (by simp;omega),e2] at hs1;(refine Ah<|Ac<|Ab rfl<|Ab rfl<|Bw rfl rfl (by omega) (by omega)<|Av rfl rfl<|Aa<|Au rfl (by omega)<|Ao<|Ah<|As ?_);refine GL [] [0] rfl ?_;(refine Ar rfl<|Ab rfl<|Ar rfl<|Ab rfl<|AI rfl rfl (by omega) (by omega)<|Ar rfl<|Ab rfl<|AI rfl rfl (by omega) (by omega) ?_);refine BT (A.length+j+1) rfl rfl (by omega) (by omega) ?_;(refine Ar rfl<|Ab rfl ?_);refine BT (A.length+j) rfl rfl (by omega) (by omega) ?_;refine UI rfl (by omega) (by omega) (by omega) (by omega) (hc1 _ _ _ hRy) (hc1 _ _ _ hRx) rfl rfl rfl rfl rfl rfl (by omega) rfl rfl rfl rfl (by omega) rfl rfl ?_;(refine Ax<|Ab rfl<|AI rfl rfl (by omega) (by omega)<|Ab rfl<|Aa ?_);exact⟨j+1,by omega,⟨rfl,rfl,rfl,rfl,rfl,rfl,int_eq (by omega),trivial⟩,rfl,hjk,_,rfl,hs1⟩
   ·obtain rfl:j=k1:=by omega
    (refine Ah<|Ac<|Ab rfl<|Ab rfl<|Bw rfl rfl (by omega) (by omega)<|Av rfl rfl<|Aa<|An rfl (by omega)<|AU<|Aq ?_);refine HB _ (Xy _) ?_;refine⟨rfl,_,h2,rfl,ho2,?_,Srt.put oc (by rw[Xr];exact hsy) ?_ ?_⟩
    ·refine List.perm_middle.trans ?_;rw[Xr];exact Ym _
    ·rcases hlo with rfl|⟨q,q0,hlt⟩
     ·exact .inl rfl
     ·exact .inr ⟨Y[j - 1],by rw[List.getLast?_take];simp[show j≠0 by omega,q],by omega⟩
    ·rcases hhi with rfl|⟨q,hlt⟩
     ·exact .inl (XY)
     ·exact .inr ⟨Y[j],by rw[List.head?_drop];simp[q],oc.le_of_not_lt hlt⟩
 ·by_cases hy1:Y.length=1
  ·obtain⟨x,rfl⟩:=List.length_eq_one_iff.1 hy1;simp only[Xv,X0] at hlx hX hY hll;have hx0:=hY 0 (by simp);simp only[List.getElem_cons_zero,Nat.add_zero] at hx0;(refine Ah<|Ac<|Ab rfl<|Ab rfl<|Bw rfl rfl (by omega) (by omega)<|At rfl rfl<|Aa<|An rfl (by omega)<|Ao<|Ah<|Ac<|Ab rfl<|Ab rfl<|Bw rfl rfl (by omega) (by omega)<|At rfl rfl<|Aa<|Au rfl (by omega)<|Ac<|Ab rfl<|Ab rfl<|Aa<|Ac<|Ab rfl<|Ab rfl<|Aa<|Ah<|As ?_);refine A6 (α:=Nat×Nat) (fun k=>[(0,.slice (some ⟨b,0,none⟩) n cp),(1,vZ A.length),(2,vZ (A.length+X.length:Nat)),(3,vZ (A.length+X.length+1:Nat)),(4,.func (.func g) #[] #[]),(14,vZ (A.length+k.1:Nat)),(15,vZ (A.length+k.2:Nat))])
    (fun k d' L'=>d'=d∧L'=[bx b T l]∧k.1≤k.2∧k.2≤X.length∧(k.1=0∨∃q:k.1 - 1<X.length,0<k.1∧¬c x X[k.1 - 1]<0)∧(k.2=X.length∨∃q:k.2<X.length,c x X[k.2]<0))
    (fun k=>k.2 - k.1) (0,X.length) ⟨rfl,rfl,rfl,rfl,rfl,rfl,rfl,trivial⟩ ⟨rfl,rfl,Xw _,Xq _,.inl rfl,.inl rfl⟩ ?_
   rintro⟨k1,k2⟩ ρ d' L' ⟨hdd,hL,hk,hk2,hlo,hhi⟩;subst hdd;subst hL;simp only at hk hk2 hlo hhi;by_cases hkk:k1<k2
   ·have hh1:(k1+k2) / 2<k2:=by omega
    have hh2:k1≤(k1+k2) / 2:=by omega
    obtain⟨kh,hkh⟩:∃kh,kh=(k1+k2) / 2:=⟨_,rfl⟩
    rw[←hkh] at hh1 hh2;have hyk:=hX kh (by omega);(refine Ah<|Ac<|Ab rfl<|Ab rfl<|Av rfl rfl<|Aa<|Au rfl (by omega)<|Ao<|As<|Ac<|Ab rfl<|Ab rfl<|AI rfl rfl (by omega) (by omega)<|Fg rfl ?_);refine Jn rfl rfl (by omega) (by omega) ?_;(refine EI rfl (by omega) (by omega)<|Ab rfl<|Aa<|Ah<|Bp<|Cz rfl<|Ar rfl<|Ab rfl ?_);refine BT (A.length+X.length) rfl rfl (by omega) (by omega) ?_;refine Ck 0 rfl rfl (by omega) ?_;(refine Ar rfl<|Ab rfl ?_);refine BT (A.length+kh) rfl rfl (by omega) (by omega) ?_;refine Ck 0 rfl rfl (by omega) ?_;refine DD rfl rfl (hg _ hx0.2 _ hyk.2 _ _ hx0.1 hyk.1) ?_;by_cases hlt:c x X[kh]<0
    ·have hlt':(!decide (c x X[kh]<0))=false:=by simp[hlt]
     (refine Av rfl rfl<|Be rfl<|Bo ?_;apply Dq;rfl;(with_reducible assumption);refine Ax<|Ab rfl<|Ab rfl<|Aa ?_);exact⟨(k1,kh),by simp only;omega,⟨rfl,rfl,rfl,rfl,rfl,rfl,int_eq (by show(_:Int)=((A.length+kh:Nat):Int);omega),trivial⟩,rfl,rfl,hh2,by simp only;omega,hlo,.inr ⟨by simp only;omega,hlt⟩⟩
    ·have hlt':(!decide (c x X[kh]<0))=true:=by simp[hlt]
     (refine Av rfl rfl<|Be rfl<|Bo ?_;apply GQ;rfl;(with_reducible assumption);refine Ax<|Ab rfl<|AI rfl rfl (by omega) (by omega)<|Ab rfl<|Aa ?_);exact⟨(kh+1,k2),by simp only;omega,⟨rfl,rfl,rfl,rfl,rfl,int_eq (by show(_:Int)=((A.length+(kh+1):Nat):Int);omega),rfl,trivial⟩,rfl,rfl,hh1,hk2,.inr ⟨by simp only;omega,Nat.succ_pos _,hlt⟩,hhi⟩
   ·obtain rfl:k1=k2:=by omega
    (refine Ah<|Ac<|Ab rfl<|Ab rfl<|Av rfl rfl<|Aa<|An rfl (by omega)<|AU<|Ah<|Ac<|Ab rfl<|Ab rfl<|Aa<|As ?_);refine A6 (α:=Nat) (fun j=>[(0,.slice (some ⟨b,0,none⟩) n cp),(1,vZ A.length),(2,vZ (A.length+X.length:Nat)),(3,vZ (A.length+X.length+1:Nat)),(4,.func (.func g) #[] #[]),(14,vZ (A.length+k1:Nat)),(17,vZ (A.length+j:Nat))])
     (fun j d2 L'=>d2=d'∧k1≤j∧j≤X.length∧∃h',L'=[h']∧AO 7 R d' (.slice (some ⟨b,0,none⟩) n cp) (A++(X.take j++x::X.drop j)++B) h')
     (fun j=>j) X.length ⟨rfl,rfl,rfl,rfl,rfl,rfl,rfl,trivial⟩ ⟨rfl,hk2,Xq _,_,rfl,by simpa using ho⟩ ?_
    rintro j ρ d2 L' ⟨hdd,hj,hjx,h2,hL,ho2⟩;subst hdd;subst hL;by_cases hjk:k1<j
    ·obtain⟨i,rfl⟩:∃i,j=i+1:=⟨j - 1,by omega⟩
     have hjy:i<X.length:=by omega
     have e2:A++(X.take i++x::X.drop i)++B=(A++X.take i)++x::([]:List α)++X[i]::(X.drop (i+1)++B):=by
      rw[XE hjy];simp only[Xf,XF,XL]
     have e1:(A++X.take i)++X[i]::([]:List α)++x::(X.drop (i+1)++B)=A++(X.take (i+1)++x::X.drop (i+1))++B:=by
      rw[Xi hjy];simp only[Xf,XF,XL]
     rw[←e1] at ho2;have q1:(A++X.take i).length=A.length+i:=by simp;omega
     have hlx2:((A++X.take i)++X[i]::([]:List α)++x::(X.drop (i+1)++B)).length=A.length+X.length+1+B.length:=by rw[e1];simp;omega
     obtain⟨b2,T2,l2,hpa,hn2,hh,hll3,hRl2,hsw⟩:=ho2.Li (by omega) (by omega);obtain rfl:b=b2:=by injection hpa with hpa;injection hpa
     subst hh;have hs1:=hsw (A.length+i+1) (A.length+i) (by omega) (by omega);have hRx:=hRl2 (A.length+i) (by omega);have hRy:=hRl2 (A.length+i+1) (by omega);have g1:((A++X.take i)++X[i]::([]:List α)++x::(X.drop (i+1)++B))[A.length+i]'(by omega)=X[i]:=ET (A++X.take i) (x::(X.drop (i+1)++B)) (by simp only[Xf,XF,XL]) (by omega) _;have g2:((A++X.take i)++X[i]::([]:List α)++x::(X.drop (i+1)++B))[A.length+i+1]'(by omega)=x:=ET ((A++X.take i)++[X[i]]) (X.drop (i+1)++B) (by simp only[Xf,XF,XL]) (by simp;omega) _;rw[g2] at hRy;rw[g1] at hRx;rw[g1,g2,List.set_comm _ _ (by omega),JQ (by omega) (by simp;omega),←e2] at hs1;(refine Ah<|Ac<|Ab rfl<|Ab rfl<|AM rfl rfl<|Aa<|Au rfl (by omega)<|Ao<|Ah<|As ?_);refine GL [] [0] rfl ?_;(refine Ar rfl<|Ab rfl<|Ar rfl<|Ab rfl<|Bw rfl rfl (by omega) (by omega)<|Ar rfl<|Ab rfl<|Bw rfl rfl (by omega) (by omega) ?_);refine BT (A.length+i) rfl rfl (by omega) (by omega) ?_;(refine Ar rfl<|Ab rfl ?_);refine BT (A.length+i+1) rfl rfl (by omega) (by omega) ?_;refine UI rfl (by omega) (by omega) (by omega) (by omega) (hc1 _ _ _ hRx) (hc1 _ _ _ hRy) rfl rfl rfl rfl rfl rfl (by omega) rfl rfl rfl rfl (by omega) rfl rfl ?_;(refine Ax<|Ab rfl<|Bw rfl rfl (by omega) (by omega)<|Ab rfl<|Aa ?_);exact⟨i,by omega,⟨rfl,rfl,rfl,rfl,rfl,rfl,int_eq (by omega),trivial⟩,rfl,by omega,by omega,_,rfl,hs1⟩
    ·obtain rfl:j=k1:=by omega
     (refine Ah<|Ac<|Ab rfl<|Ab rfl<|AM rfl rfl<|Aa<|An rfl (by omega)<|AU<|Aq ?_);refine HB _ (Xy _) ?_;refine⟨rfl,_,h2,rfl,ho2,?_,Srt.put oc (by rw[Xr];exact hsx) ?_ ?_⟩
     ·refine List.perm_middle.trans ?_;rw[Xr];exact(List.perm_append_singleton x X).symm
     ·rcases hlo with rfl|⟨q,q0,hlt⟩
      ·exact .inl rfl
      ·exact .inr ⟨X[j - 1],by rw[List.getLast?_take];simp[show j≠0 by omega,q],oc.le_of_not_lt hlt⟩
     ·rcases hhi with rfl|⟨q,hlt⟩
      ·exact .inl (XY)
      ·exact .inr ⟨X[j],by rw[List.head?_drop];simp[q],by omega⟩
  ·obtain⟨md,hmd⟩:∃md,md=(A.length+(A.length+X.length+Y.length)) / 2:=⟨_,rfl⟩
   have hm1:A.length<md:=by omega
   have hm2:md<A.length+X.length+Y.length:=by omega
   obtain⟨s0,hs0⟩:∃s0:Nat,s0=if md<A.length+X.length then md - Y.length else A.length:=⟨_,rfl⟩
   obtain⟨r0,hr0⟩:∃r0:Nat,r0=if md<A.length+X.length then md else A.length+X.length:=⟨_,rfl⟩
   (refine Ah<|Ac<|Ab rfl<|Ab rfl<|Bw rfl rfl (by omega) (by omega)<|At rfl rfl<|Aa<|An rfl (by omega)<|Ao<|Ah<|Ac<|Ab rfl<|Ab rfl<|Bw rfl rfl (by omega) (by omega)<|At rfl rfl<|Aa<|An rfl (by omega)<|Ao<|Ac<|Ab rfl<|Ab rfl<|AI rfl rfl (by omega) (by omega)<|Fg rfl ?_);refine Jn rfl rfl (by omega) (by omega) ?_;(refine EI rfl (by omega) (by omega)<|Ab rfl<|Aa ?_);apply Ah;apply Ax;(refine Ab rfl<|Ab rfl<|AI rfl rfl (by omega) (by omega)<|Ab rfl<|Aa ?_);apply Ah;apply Ax;(refine Ab rfl<|Ab rfl<|Aa ?_);refine DY (fun ρ d' L'=>d'=d∧L'=[bx b T l]∧Bi ρ [(0,.slice (some ⟨b,0,none⟩) n cp),(1,vZ A.length),(2,vZ (A.length+X.length:Nat)),(3,vZ (A.length+X.length+Y.length:Nat)),(4,.func (.func g) #[] #[]),(18,vZ md),(19,vZ (md+(A.length+X.length):Nat)),(20,vZ s0),(21,vZ r0)]) ?_ ?_
   ·by_cases hq:md<A.length+X.length
    ·rw[if_pos hq] at hs0 hr0;(refine Ac<|Ab rfl<|Ab rfl<|AM rfl rfl<|Aa<|Au rfl (by omega)<|Ac<|Ab rfl<|Ab rfl<|Bw rfl rfl (by omega) (by omega)<|Ab rfl<|Aa<|Ax<|Ab rfl<|Ab rfl<|Aa ?_);exact⟨rfl,rfl,rfl,rfl,rfl,rfl,rfl,int_eq (by omega),int_eq (by omega),int_eq (by omega),int_eq (by omega),trivial⟩
    ·rw[if_neg hq] at hs0 hr0;(refine Ac<|Ab rfl<|Ab rfl<|AM rfl rfl<|Aa<|An rfl (by omega)<|Ac<|Ab rfl<|Ab rfl<|Aa<|Ax<|Ab rfl<|Ab rfl<|Aa ?_);exact⟨rfl,rfl,rfl,rfl,rfl,rfl,rfl,int_eq (by omega),int_eq (by omega),int_eq (by omega),int_eq (by omega),trivial⟩
   rintro ρ d' L' ⟨hdd,hL,hs⟩;subst hdd;subst hL;refine BQ _ hs ?_;clear hs;have hb1:A.length≤s0:=by split at hs0<;>omega
   have hb2:s0≤r0:=by split at hs0<;>split at hr0<;>omega
   have hb3:r0≤A.length+X.length:=by split at hr0<;>omega
   have hb4:md≤s0+Y.length:=by split at hs0<;>omega
   have hb5:r0≤md:=by split at hr0<;>omega
   apply Ah;apply Ax;(refine Ab rfl<|Bw rfl rfl (by omega) (by omega)<|Ab rfl<|Aa ?_);refine DY (fun ρ d2 L'=>d2=d'∧L'=[bx b T l]∧∃s:Nat,Bi ρ [(0,.slice (some ⟨b,0,none⟩) n cp),(1,vZ A.length),(2,vZ (A.length+X.length:Nat)),(3,vZ (A.length+X.length+Y.length:Nat)),(4,.func (.func g) #[] #[]),(18,vZ md),(19,vZ (md+(A.length+X.length):Nat)),(20,vZ s)]∧s0≤s∧s≤r0∧
    (s=s0∨∃(q:s - 1 - A.length<X.length) (q':md - s<Y.length),A.length<s∧¬c Y[md - s] X[s - 1 - A.length]<0)∧(s=r0∨∃(q:s - A.length<X.length) (q':md - s - 1<Y.length),s<md∧c Y[md - s - 1] X[s - A.length]<0)) ?_ ?_
   ·(apply As);refine A6 (α:=Nat×Nat) (fun k=>[(0,.slice (some ⟨b,0,none⟩) n cp),(1,vZ A.length),(2,vZ (A.length+X.length:Nat)),(3,vZ (A.length+X.length+Y.length:Nat)),(4,.func (.func g) #[] #[]),(18,vZ md),(19,vZ (md+(A.length+X.length):Nat)),(20,vZ k.1),(21,vZ k.2),(22,vZ (md+(A.length+X.length) - 1:Nat))])
     (fun k d2 L'=>d2=d'∧L'=[bx b T l]∧s0≤k.1∧k.1≤k.2∧k.2≤r0∧
      (k.1=s0∨∃(q:k.1 - 1 - A.length<X.length) (q':md - k.1<Y.length),A.length<k.1∧¬c Y[md - k.1] X[k.1 - 1 - A.length]<0)∧(k.2=r0∨∃(q:k.2 - A.length<X.length) (q':md - k.2 - 1<Y.length),k.2<md∧c Y[md - k.2 - 1] X[k.2 - A.length]<0))
     (fun k=>k.2 - k.1) (s0,r0) ⟨rfl,rfl,rfl,rfl,rfl,rfl,rfl,rfl,rfl,int_eq (by omega),trivial⟩ ⟨rfl,rfl,Xq _,hb2,Xq _,.inl rfl,.inl rfl⟩ ?_
    rintro⟨k1,k2⟩ ρ d2 L' ⟨hdd,hL,hk0,hk,hk2,hlo,hhi⟩;subst hdd;subst hL;simp only at hk0 hk hk2 hlo hhi;by_cases hkk:k1<k2
    ·have hh1:(k1+k2) / 2<k2:=by omega
     have hh2:k1≤(k1+k2) / 2:=by omega
     obtain⟨kh,hkh⟩:∃kh,kh=(k1+k2) / 2:=⟨_,rfl⟩
     rw[←hkh] at hh1 hh2;have hxk:=hX (kh - A.length) (by omega);have hyk:=hY (md - 1 - kh) (by omega);have i1:A.length+(kh - A.length)=kh:=by omega
     rw[i1] at hxk;(refine Ah<|Ac<|Ab rfl<|Ab rfl<|Av rfl rfl<|Aa<|Au rfl (by omega)<|Ao<|As<|Ac<|Ab rfl<|Ab rfl<|AI rfl rfl (by omega) (by omega)<|Fg rfl ?_);refine Jn rfl rfl (by omega) (by omega) ?_;(refine EI rfl (by omega) (by omega)<|Ab rfl<|Aa<|Ah<|Bp<|Cz rfl<|Ar rfl<|Ab rfl<|Ab rfl<|Bw rfl rfl (by omega) (by omega) ?_);refine BT (A.length+X.length+(md - 1 - kh)) rfl rfl (by omega) (by omega) ?_;refine Ck 0 rfl rfl (by omega) ?_;(refine Ar rfl<|Ab rfl ?_);refine BT kh rfl rfl (by omega) (by omega) ?_;refine Ck 0 rfl rfl (by omega) ?_;refine DD rfl rfl (hg _ hyk.2 _ hxk.2 _ _ hyk.1 hxk.1) ?_;have j1:md - kh - 1=md - 1 - kh:=by omega
     have j2:md - (kh+1)=md - 1 - kh:=by omega
     have j3:kh+1 - 1 - A.length=kh - A.length:=by omega
     by_cases hlt:c Y[md - 1 - kh] X[kh - A.length]<0
     ·have hlt':(!decide (c Y[md - 1 - kh] X[kh - A.length]<0))=false:=by simp[hlt]
      (refine Av rfl rfl<|Be rfl<|Bo ?_;apply Dq;rfl;(with_reducible assumption);refine Ax<|Ab rfl<|Ab rfl<|Aa ?_);exact⟨(k1,kh),by simp only;omega,⟨rfl,rfl,rfl,rfl,rfl,rfl,rfl,rfl,int_eq (by show(_:Int)=(kh:Int);omega),rfl,trivial⟩,rfl,rfl,hk0,hh2,by simp only;omega,hlo,.inr ⟨by simp only;omega,by simp only;omega,by simp only;omega,by simp only[j1];exact hlt⟩⟩
     ·have hlt':(!decide (c Y[md - 1 - kh] X[kh - A.length]<0))=true:=by simp[hlt]
      (refine Av rfl rfl<|Be rfl<|Bo ?_;apply GQ;rfl;(with_reducible assumption);refine Ax<|Ab rfl<|AI rfl rfl (by omega) (by omega)<|Ab rfl<|Aa ?_);exact⟨(kh+1,k2),by simp only;omega,⟨rfl,rfl,rfl,rfl,rfl,rfl,rfl,int_eq (by show(_:Int)=((kh+1:Nat):Int);omega),rfl,rfl,trivial⟩,rfl,rfl,by simp only;omega,hh1,hk2,.inr ⟨by simp only;omega,by simp only;omega,by simp only;omega,by simp only[j2,j3];exact hlt⟩,hhi⟩
    ·obtain rfl:k1=k2:=by omega
     (refine Ah<|Ac<|Ab rfl<|Ab rfl<|Av rfl rfl<|Aa<|An rfl (by omega)<|AU ?_);exact⟨rfl,rfl,k1,⟨rfl,rfl,rfl,rfl,rfl,rfl,rfl,rfl,trivial⟩,hk0,hk2,hlo,hhi⟩
   rintro ρ d2 L' ⟨hdd,hL,s,hs,hs1,hs2,hlo,hhi⟩;subst hdd;subst hL;refine BQ _ hs ?_;clear hs;obtain⟨sx,rfl⟩:∃sx,s=A.length+sx:=⟨s - A.length,by omega⟩
   obtain⟨ey,hey⟩:∃ey,md=A.length+sx+ey:=⟨md - (A.length+sx),by omega⟩
   have hsx2:sx≤X.length:=by omega
   have hey2:ey≤Y.length:=by omega
   have hcr:=WK oc hsx hsy hsx2 hey2 (by
    rcases hlo with hlo|⟨q,q',h0,hlt⟩
    ·by_cases hq:md<A.length+X.length
     ·rw[if_pos hq] at hs0;exact .inr (.inl (by omega))
     ·rw[if_neg hq] at hs0;exact .inl (by omega)
    ·have j1:md - (A.length+sx)=ey:=by omega
     have j2:A.length+sx - 1 - A.length=sx - 1:=by omega
     simp only[j1,j2] at q q' hlt;exact .inr (.inr ⟨q,q',by omega,oc.le_of_not_lt hlt⟩)) (by
    rcases hhi with hhi|⟨q,q',h0,hlt⟩
    ·by_cases hq:md<A.length+X.length
     ·rw[if_pos hq] at hr0;exact .inl (by omega)
     ·rw[if_neg hq] at hr0;exact .inr (.inl (by omega))
    ·have j1:md - (A.length+sx) - 1=ey - 1:=by omega
     have j2:A.length+sx - A.length=sx:=by omega
     simp only[j1,j2] at q q' hlt;exact .inr (.inr ⟨q',q,by omega,by omega⟩))
   have hpm:(X.take sx++Y.take ey++(X.drop sx++Y.drop ey)).Perm (X++Y):=by
    have:(X.take sx++Y.take ey++(X.drop sx++Y.drop ey)).Perm (X.take sx++X.drop sx++(Y.take ey++Y.drop ey)):=by
     simp only[Xf];refine Yl _ ?_;rw[←Xf,←Xf];exact List.perm_append_comm.append_right _
    rwa [Xr,Xr] at this
   apply Ah;apply Ax;(refine Ab rfl<|Ab rfl<|Bw rfl rfl (by omega) (by omega)<|Ab rfl<|Aa ?_);refine DY (fun ρ d' L'=>d'=d2∧∃h',L'=[h']∧AO 7 R d2 (.slice (some ⟨b,0,none⟩) n cp) (A++(X.take sx++Y.take ey)++(X.drop sx++Y.drop ey)++B) h'∧Bi ρ [(0,.slice (some ⟨b,0,none⟩) n cp),(1,vZ A.length),(2,vZ (A.length+X.length:Nat)),(3,vZ (A.length+X.length+Y.length:Nat)),(4,.func (.func g) #[] #[]),(18,vZ md),(20,vZ (A.length+sx:Nat)),(24,vZ (A.length+X.length+ey:Nat))]) ?_ ?_
   ·by_cases hr1:sx<X.length
    ·by_cases hr2:0<ey
     ·(refine Ac<|Ab rfl<|Ab rfl<|Av rfl rfl<|Ad rfl<|AF rfl (by omega)<|Af rfl<|Ab rfl<|Af rfl<|Ab rfl<|Af rfl<|Av rfl rfl<|Ap rfl rfl<|Aa<|Au rfl (by omega)<|Ax<|Ar rfl<|Ab rfl<|Ab rfl<|Ab rfl<|Cz rfl ?_);refine C7 1 rfl (h1 (A:=A++X.take sx) (X:=X.drop sx) (Y:=Y.take ey) (B:=Y.drop ey++B) hc1 (by
       have e:A++X.take sx++X.drop sx++Y.take ey++(Y.drop ey++B)=A++X++Y++B:=by
        rw[Xf A,Xr,←Xf _ _ B,Xf (A++X),Xr]
       rw[e];exact ho) (fun q=>by have:=congrArg Yw q;simp only[Xn,XX,X0] at this;omega) (fun q=>by have:=congrArg Yw q;simp only[Xn,XX,X0] at this;omega) (by simp;omega) (by simp;omega) (by simp;omega)) (fun r d3 L3 _ ⟨hdd,h2,hL,ho2⟩=>?_)
      subst hdd;subst hL;(apply Aa);refine⟨rfl,h2,rfl,by simpa only[Xf] using ho2,rfl,rfl,rfl,rfl,rfl,rfl,rfl,int_eq (by omega),trivial⟩
     ·obtain rfl:ey=0:=by omega
      have hl2:(decide (((A.length+X.length:Nat):Int)<((md+(A.length+X.length):Nat):Int) - ((A.length+sx:Nat):Int)))=false:=by simp;omega
      (refine Ac<|Ab rfl<|Ab rfl<|Av rfl rfl<|Ad rfl<|AF rfl (by omega)<|Af rfl<|Ab rfl<|Af rfl<|Ab rfl<|Af rfl<|Av rfl rfl<|Ap rfl rfl<|Aa<|An rfl (by omega)<|Ao ?_);refine⟨rfl,_,rfl,?_,rfl,rfl,rfl,rfl,rfl,rfl,rfl,int_eq (by omega),trivial⟩
      rw[List.take_zero,YN,XA,←Xf,Xf A,Xr];exact ho
    ·obtain rfl:sx=X.length:=by omega
     (refine Ac<|Ab rfl<|Ab rfl<|Av rfl rfl<|Ad rfl<|Az rfl (by omega)<|Aj rfl<|Aj rfl<|Aj rfl<|Am rfl rfl<|Aa<|AJ rfl<|Ao ?_);refine⟨rfl,_,rfl,?_,rfl,rfl,rfl,rfl,rfl,rfl,rfl,int_eq (by omega),trivial⟩
     rw[Xz,XY,XL,←Xf,Xf (A++X),Xr];exact ho
   rintro ρ d3 L' ⟨hdd,h3,hL,ho3,hs⟩;subst hdd;subst hL;refine BQ _ hs ?_;clear hs;refine DY (fun ρ d' L'=>d'=d3∧∃M1 h',L'=[h']∧AO 7 R d3 (.slice (some ⟨b,0,none⟩) n cp) (A++M1++(X.drop sx++Y.drop ey)++B) h'∧M1.Perm (X.take sx++Y.take ey)∧Srt c M1∧Bi ρ [(0,.slice (some ⟨b,0,none⟩) n cp),(1,vZ A.length),(2,vZ (A.length+X.length:Nat)),(3,vZ (A.length+X.length+Y.length:Nat)),(4,.func (.func g) #[] #[]),(18,vZ md),(20,vZ (A.length+sx:Nat)),(24,vZ (A.length+X.length+ey:Nat))]) ?_ ?_
   ·by_cases hr1:0<sx
    ·by_cases hr2:0<ey
     ·(refine Ac<|Ab rfl<|Ab rfl<|Av rfl rfl<|Ad rfl<|AF rfl (by omega)<|Af rfl<|Ab rfl<|Af rfl<|Ab rfl<|Af rfl<|Av rfl rfl<|Ap rfl rfl<|Aa<|Au rfl (by omega)<|Ax<|Ar rfl<|Ab rfl<|Ab rfl<|Ab rfl<|Cz rfl ?_);refine C7 1 rfl (ih (A:=A) (X:=X.take sx) (Y:=Y.take ey) (B:=X.drop sx++Y.drop ey++B) (by simp;omega) (by simpa only[Xf] using ho3) (hg.perm ?_) (hsx.take _) (hsy.take _) (fun q=>by have:=congrArg Yw q;simp only[Xn,XX,X0] at this;omega) (fun q=>by have:=congrArg Yw q;simp only[Xn,XX,X0] at this;omega) rfl (by simp;omega) (by simp;omega)) (fun r d4 L4 _ ⟨hdd,M1,h2,hL,ho2,hp2,hs2⟩=>?_)
      ·have:=(hpm.append_left A).append_right B;simpa only[Xf] using this
      subst hdd;subst hL;(apply Aa);exact⟨rfl,M1,h2,rfl,by simpa only[Xf] using ho2,hp2,hs2,rfl,rfl,rfl,rfl,rfl,rfl,rfl,rfl,trivial⟩
     ·obtain rfl:ey=0:=by omega
      (refine Ac<|Ab rfl<|Ab rfl<|Av rfl rfl<|Ad rfl<|AF rfl (by omega)<|Af rfl<|Ab rfl<|Af rfl<|Ab rfl<|Af rfl<|Av rfl rfl<|Ap rfl rfl<|Aa<|An rfl (by omega)<|Ao ?_);exact⟨rfl,_,_,rfl,ho3,Ym _,by rw[List.take_zero,XA];exact hsx.take _,rfl,rfl,rfl,rfl,rfl,rfl,rfl,rfl,trivial⟩
    ·obtain rfl:sx=0:=by omega
     (refine Ac<|Ab rfl<|Ab rfl<|Av rfl rfl<|Ad rfl<|Az rfl (by omega)<|Aj rfl<|Aj rfl<|Aj rfl<|Am rfl rfl<|Aa<|AJ rfl<|Ao ?_);exact⟨rfl,_,_,rfl,ho3,Ym _,by rw[List.take_zero,XL];exact hsy.take _,rfl,rfl,rfl,rfl,rfl,rfl,rfl,rfl,trivial⟩
   rintro ρ d4 L' ⟨hdd,M1,h4,hL,ho4,hp1,hs1',hs⟩;subst hdd;subst hL;refine BQ _ hs ?_;clear hs;have hM1:M1.length=sx+ey:=by have:=hp1.length_eq;simp at this;omega
   have hfin:∀M2:List α,M2.Perm (X.drop sx++Y.drop ey)→Srt c M2→(M1++M2).Perm (X++Y)∧Srt c (M1++M2):=fun M2 p2 s2=>
    ⟨(hp1.append p2).trans hpm,Sv hp1 p2 hs1' s2 (hsx.cut sx) hcr.1 hcr.2 (hsy.cut ey)⟩
   by_cases hr1:sx<X.length
   ·by_cases hr2:ey<Y.length
    ·(refine Ac<|Ab rfl<|Ab rfl<|Av rfl rfl<|Ad rfl<|AF rfl (by omega)<|Af rfl<|Ab rfl<|Af rfl<|Ab rfl<|Af rfl<|Av rfl rfl<|Ap rfl rfl<|Aa<|Au rfl (by omega)<|Ax<|Ar rfl<|Ab rfl<|Ab rfl<|Ab rfl<|Cz rfl ?_);refine C7 1 rfl (ih (A:=A++M1) (X:=X.drop sx) (Y:=Y.drop ey) (B:=B) (by simp;omega) (by simpa only[Xf] using ho4) (hg.perm ?_) (hsx.drop _) (hsy.drop _) (fun q=>by have:=congrArg Yw q;simp only[Xn,XX,X0] at this;omega) (fun q=>by have:=congrArg Yw q;simp only[Xn,XX,X0] at this;omega) (by simp;omega) (by simp;omega) (by simp;omega)) (fun r d5 L5 _ ⟨hdd,M2,h2,hL,ho2,hp2,hs2⟩=>?_)
     ·have:=(((hp1.append_right (X.drop sx++Y.drop ey)).trans hpm).append_left A).append_right B;simpa only[Xf] using this
     subst hdd;subst hL;(apply Aa);refine HB [h2] (by simp) ?_;exact⟨rfl,M1++M2,h2,rfl,by simpa only[Xf] using ho2,hfin M2 hp2 hs2⟩
    ·obtain rfl:ey=Y.length:=by omega
     (refine Ac<|Ab rfl<|Ab rfl<|Av rfl rfl<|Ad rfl<|AF rfl (by omega)<|Af rfl<|Ab rfl<|Af rfl<|Ab rfl<|Af rfl<|Av rfl rfl<|Ap rfl rfl<|Aa<|An rfl (by omega)<|Ao ?_);refine HB _ (Xy _) ?_;exact⟨rfl,_,_,rfl,by simpa only[Xf] using ho4,hfin _ (Ym _) (by rw[XY,XA];exact hsx.drop _)⟩
   ·obtain rfl:sx=X.length:=by omega
    (refine Ac<|Ab rfl<|Ab rfl<|Av rfl rfl<|Ad rfl<|Az rfl (by omega)<|Aj rfl<|Aj rfl<|Aj rfl<|Am rfl rfl<|Aa<|AJ rfl<|Ao ?_);refine HB _ (Xy _) ?_;exact⟨rfl,_,_,rfl,by simpa only[Xf] using ho4,hfin _ (Ym _) (by rw[XY,XL];exact hsy.drop _)⟩
end Go.Gk
end
