/-
  Our own texts, one behind the other: GkX2 GkCv GkX3 GkX4 GkUB GkUC GkUD GkUE GkTZ GkUA GkUF GkWK GkWL GkUM GkXL GkXM GkXF GkXP Gk46 GkX5 GkX6 GkX7 GkX8 GkX9 GkXA GkXB GkXN GkXO GkXG GkXQ.
-/
import Derived.Test.YteekdjalpmjdhaaGreatPcG
set_option linter.defProp false
set_option linter.unusedVariables false
set_option linter.unusedSimpArgs false
open List.Sublist renaming refl→Afa,cons_cons→Ahj
open Bool renaming and_eq_true→Afb,false_eq_true→Afh,or_eq_true→Agl
open List renaming getElem?_eq_getElem→Afc,getD_eq_getElem?_getD→Afd,append_assoc→Afg,perm_append_comm→Afi,length_append→Afk,eq_nil_of_length_eq_zero→Afl,mem_cons_self→Afn,length_cons→Afq,mem_cons_of_mem→Afr,length_take→Aft,mem_cons→Afv,drop_eq_getElem_cons→Afy,mem_append_left→Aga,getElem_mem→Agb,mem_append_right→Agc,range→Agf,nil_append→Agh,perm_middle→Agi,append_nil→Agj,length_replicate→Agk,nil_sublist→Agp,sublist_append_right→Agv,cons_append→Agy,map_append→Ahk,mem_map_of_mem→Ahm,getElem?_map→Ahs,map_cons→Ahv,length_pos_iff→Aib,drop_length→Aig,mem_range→Aik,any_eq_true→Ajq,drop_eq_nil_of_le→Aju,append_cons→Akj
open Nat renaming le_refl→Afe,le_of_ble_eq_true→Aff,zero_le→Agd,succ_ne_zero→Ahi,mul_one→Aho,le_trans→Ahq,not_lt_zero→Aic
open List.Perm renaming cons→Afm,swap→Afx,refl→Agq
open Option renaming getD_some→Aif
section
namespace Go.Gk.Tre
open Go Go.Gk Go.Gk.Dev Go.Gk.Cch Go.Gk.Pgr Go.Gk.Chn Go.Gk.Node
attribute [local irreducible] gwp gws xwp
def RBp(d:Aa)(cs:List Value)(x:KV):Prop:=∃k v,cs=[k,v]∧Ay d k x.1∧Ay d v x.2
def Em:Gu RBp:=fun hl ⟨k,v,e,a,b⟩=>⟨k,v,e,RSl.mono (R:=Ax) AF a hl,RSl.mono (R:=Ax) AF b hl⟩
def ZU:F1 RBp:=fun d cs x ⟨k,v,e,a,b⟩=>by
 subst e;obtain⟨_,_,rfl⟩:=RSl.val a;obtain⟨_,_,rfl⟩:=RSl.val b;rfl
def Aew{P}{pan:List PanicEntry→AP}{Qn:Env→AP}{Ls L ρ d s}{t:Nat}{x u v}(ex:ev ρ x=.agg [u,v].toArray)(h:∀b T,gws P pan Qn s Ls (upd ρ t (.slice (some ⟨b,0,none⟩) 1 1)) d (bx b T [u,v]::L)):
  gws P pan Qn (.op false ⟨some t,none,.bsl 1 2 [nV,nV] [(0,x)]⟩ s) Ls ρ d L:=by
 refine Dq (by omega) ?_ h
 simp[Instr.fill,BD,Agf,List.range.loop,ex,Value.cells]
def Ug{P}{pan:List PanicEntry→AP}{Qn:Env→AP}{Ls L ρ d s}{t:Nat}{tk:Bool}{x y a a'}{n c n' c':Nat}(ex:ev ρ x=.slice a n c)(ey:ev ρ y=.slice a' n' c')
  (h:gws P pan Qn s Ls (upd ρ t (.agg [.slice a n c,.slice a' n' c'].toArray)) d L):gws P pan Qn (.op tk ⟨some t,none,.bld [(0,1),(1,1)] [nV,nV] [(0,x),(1,y)]⟩ s) Ls ρ d L:=
 BY (cs:=[.slice a n c,.slice a' n' c']) (by simp[Instr.fill,ex,ey,Value.cells]) h
def NN(P:Program)(f:FuncId):Prop:=∀{d s}{n:Nat}{dv pv kv cv ov L}{bp bo bm:Nat}{To ro}{most:Int}{key cell out},Pg d {s with tc:=n} dv pv L→Ay d kv key→Ay d cv cell→
 DC d bp 0 pv→DC d bm 0 (vZ most)→Ai 2 RBp d ov out ro→out.length≤1000000→
 Ao P f [kv,cv,pZ bp,pZ bo,pZ bm] d (bx bo To [ov]::ro::L) (Ret fun v d' L'=>Le d d'∧∃ov' ro' L2 tc,v=.tuple #[.bool (FY s most key cell out n).on,vZ (FY s most key cell out n).e]∧L'=bx bo To [ov']::ro'::L2∧
  Ai 2 RBp d' ov' (FY s most key cell out n).out ro'∧Pg d' {s with tc:=tc} dv pv L2∧((FY s most key cell out n).e=0→tc=(FY s most key cell out n).tc))
def Q7(a0:Nat):A9:=⟨32,[(.tmp 7),(.tmp 8)],(sR (o1 7 (.mv (.const (.bool false)))<|o1 8 (.mv z0) .done) (sR (ol 12 2<|om 13 1<|oc 14 a0 [12,13]<|om 11 14<|oe 15 11 0<|oe 16 11 1<|om 9 15<|om 10 16 .done) (.seq (sR (om 17 10<|ob 18 .eql 17 z0 .done) (.cond 18 (.reg true (pm 21 0<|pm 23 9 (.par (o1 20 (.bsl 0 1 [(.int .u8 0)] []) (o1 22 (.app 1 1 [(.int .u8 0)] 20 21) (p1 24 (.bld [(0,1),(1,1)] [nV,nV] [(0,22),(1,23)]) (o1 25 (.bsl 1 2 [nV,nV] [(0,24)]) .done)))) (ol 19 3 .done) (o1 26 (.app 2 48 [nV,nV] 19 25) (.bar (o0 (.st 1 3 26) .done)))))) .skip)) (sR (ol 27 3<|oL 28 27<|ol 29 4<|ob 30 .lss 28 29<|om 31 10<|om 7 30<|om 8 31 .done) .ret))))⟩
set_option maxRecDepth 4000 in
set_option maxHeartbeats 1000000 in
def Aa2{P f f1}(hd:Jj P f=some (Q7 f1))(h1:Pf P f1):NN P f:=by
 intro d s n dv pv kv cv ov L bp bo bm To ro most key cell out hp hk hc hbp hbm ho hol;obtain⟨pb,rfl⟩:=hp.ptr;obtain⟨ka,kc,rfl⟩:=RSl.val hk;obtain⟨ca,cc,rfl⟩:=RSl.val hc;obtain⟨oa,oc,rfl⟩:=ho.val;have hkl:=hk.BW;refine Bj hd<|Ak<|Ad Z<|A7 Z<|Ah Z (BR (by assumption))<|Ae Z<|A0 [_,_] (h1 hp hc) Z Z (fun v d2 L2 hl ⟨_,u,tc,e1,hu,hp2,htc⟩=>?_);subst e1;rw[NK] at hu htc;rw[NK];obtain⟨ua,uc,rfl⟩:=hu.val;have ho2:Ai 2 RBp d2 (.slice oa out.length oc) out ro:=Ai.mono (R:=RBp) Em ho hl;have hk2:RSl 1 Ax d2 (.slice ka key.length kc) key:=RSl.mono (R:=Ax) AF hk hl;have hbm2:=hbm.mono hl;have hp2:Pg d2 {s with tc:=tc} dv (pZ pb) L2:=hp2;have htc:(CP s cell).2=0→tc=n+Eo cell:=htc;by_cases he:(CP s cell).2=0
 ·have ht:FY s most key cell out n=⟨out++[(key,(CP s cell).1)],n+Eo cell,decide (((out++[(key,(CP s cell).1)]).length:Int)<most),0⟩:=by unfold FY;simp[he]
  have htc2:=htc he;rw[ht,he];clear ht he htc;generalize (CP s cell).1=vb at hu⊢;refine AO Z<|AW Z Z Z Z<|Ae Z<|AR Z<|Ab Z<|AI Z Z<|A5 Z<|LM (bx bo To [.slice oa out.length oc]::L2) [ro] (Vs.perm (Afm _ (Afi (l₁:=[ro]) (l₂:=L2))))<|Ae Z<|Ae Z<|Gh (α:=Value×Nat×TypeId) (β:=Unit) [(3,pZ bo),(4,pZ bm),(10,vZ 0)]
   (fun x=>[(25,.slice (some ⟨x.2.1,0,none⟩) 1 1)]) (fun x d L=>RBp d [x.1,.slice ua vb.length uc] (key,vb)∧L=[bx x.2.1 x.2.2 [x.1,.slice ua vb.length uc]]) (fun _=>[(19,.slice oa out.length oc)]) (fun _ _ L=>L=[ro]) [] [ro] Z
   (fun x d d' M hl h=>⟨Em hl h.1,h.2⟩) (fun _ _ _ _ _ h=>h) (fun _=>Z) (fun _=>Z) Z ⟨Z,Z,Z,trivial⟩ ?_ ?_ ?_
  ·refine Dq (cs:=[]) (by simp) (by simp[Instr.fill,BD]) (fun b20 T20=>?_);refine I1 (R:=Ax) (sz:=1) (xs:=[]) AF Z (Ai.J8 (R:=Ax) (sz:=1)) Z (RSl.src hk2 Fx (by omega) _) (by omega) (by simp;omega) (by simp;omega) (fun a c' d3 hl3 hu3=>?_);rewrite [Agh] at hu3⊢;refine Ug Z Z<|Aew Z (fun b25 T25=>?_);(apply A8);exact⟨_,Z,(.slice a key.length c',b25,T25),⟨Z,trivial⟩,⟨_,_,Z,hu3,RSl.mono (R:=Ax) AF hu hl3⟩,Z⟩
  ·(refine c_l Z Z Z<|A8 ?_);exact⟨_,Z,(),⟨Z,trivial⟩,Z⟩
  rintro⟨kv',b25,T25⟩ - ρ d4 M1 M2 hl4 ⟨hM0,hM1⟩ hM2;subst hM1;subst hM2;simp only at hM0⊢;refine D4 (R:=RBp) 0 Z Z (Ai.mono (R:=RBp) Em ho2 hl4) Z (Ai.EL Z hM0) ZU (by omega) (by simp;omega) (by simp;omega) (fun v5 h5 o5=>?_);obtain⟨a5,c5,rfl⟩:=o5.val;have hbm4:=hbm2.mono hl4;(apply Cw);refine Bb 0 [.slice a5 (out++[(key,vb)]).length c5] Z Z Z Z (Aff Z) Z Z<|Bo<|c_l Z Z Z<|AA Z<|Ah Z (BR (by assumption))<|Au Z Z<|Ab Z<|Ad Z<|AS Z<|A6 [.bool (decide (((out++[(key,vb)]).length:Int)<most)),vZ 0] ⟨Af Z,Af Z,trivial⟩ (d':=d4) (L':=bx bo To [.slice a5 (out++[(key,vb)]).length c5]::h5::L2) (Vs.perm (Afm _ (Afi (l₁:=L2) (l₂:=[h5]))))
   ⟨hl.trans hl4,_,h5,L2,tc,Z,Z,o5,hp2.mono hl4,fun _=>htc2⟩
 ·have ht:FY s most key cell out n=⟨out,n+Eo cell,decide ((out.length:Int)<most),(CP s cell).2⟩:=by unfold FY;simp[he]
  rw[ht];clear ht htc;refine AO Z<|AW Z Z Z Z<|Ae Z<|AR Z<|Ab Z<|AI Z Z<|AT Z<|Ak<|c_l Z Z Z<|AA Z<|Ah Z (BR (by assumption))<|Au Z Z<|Ab Z<|Ad Z<|AS Z<|A6 [.bool (decide ((out.length:Int)<most)),vZ (CP s cell).2] ⟨Af Z,Af Z,trivial⟩ (d':=d2) (L':=bx bo To [.slice oa out.length oc]::ro::L2) (Vs.refl _ _)
   ⟨hl,_,ro,L2,tc,Z,Z,ho2,hp2,fun q=>absurd q he⟩
end Go.Gk.Tre
end
section
namespace Go.Gk
open Go
section
section
variable {P:Program}{pan:List PanicEntry→AP}{Qn:Env→AP}{Ls L:List Aa}{ρ:Env}{d:Aa}{s:GS}{t:Nat}
def O3{f g}{first cap:Array Value}{args R vs A B}(hp:L.Perm (A++B))(ef:ev ρ f=.func (.func g) first cap)(ea:first.toList++args.map (ev ρ)++cap.toList=vs)
  (hc:Ao P g vs d A (Ret R)) (h:∀v d' L',Le d d'→R v d' L'→gws P pan Qn s Ls (upd ρ t v) d' (L'++B)):gws P pan Qn (.op false ⟨some t,none,.callv f args⟩ s) Ls ρ d L:=
 B1 d (A++B) (Vs.perm hp) (KC A.length ef ea (by rw[List.take_left];exact hc) (fun v d' L' hl hr=>by rw[List.drop_left];exact h v d' L' hl hr))
end
end
end Go.Gk
end
section
namespace Go.Gk.Tre
open Go Go.Gk Go.Gk.Dev Go.Gk.Cch Go.Gk.Pgr Go.Gk.Chn Go.Gk.Node
attribute [local irreducible] gwp gws xwp
variable{tc:Nat}{f1 f2 f3:FuncId}
section
def Ji{P}{Q:Co}{a:CC}{ρ d L}(M:Env→AP)(h1:gwp P a {Q with n:=M} ρ d L)(h2:∀ρ d L,M ρ d L→Q.n ρ d L):gwp P a Q ρ d L:=KW h2 h1
section
variable {s:PD}{most:Int}{fr to:List UInt8}
def R0{key c out}:out.length≤(FY s most key c out tc).out.length:=by
 unfold FY;simp only;split
 ·rw[Afk];omega
 ·exact Afe _
def Mj:∀{ks vs out}{tc:Nat},out.length≤(EF s most to ks vs out tc).out.length
 |k::ks,c::cs,out,tc=>by
  rw[EF];split
  ·exact Afe _
  ·simp only;split
   ·exact R0 (s:=s) (most:=most) (key:=k) (c:=c) (tc:=tc)
   ·exact Ahq (R0 (s:=s) (most:=most) (key:=k) (c:=c) (tc:=tc)) Mj
 |[],[],_,_=>by rw[EF];exact Afe _;simp
 |[],_::_,_,_=>by rw[EF];exact Afe _;simp
 |_::_,[],_,_=>by rw[EF];exact Afe _;simp
def Md{rec:Int→List KV→Nat→WR}(hr:∀c out tc,out.length≤(rec c out tc).out.length):∀{cs:List Int}{p:Option (List UInt8)}{ks out}{tc:Nat},out.length≤(E9 rec to p ks cs out tc).out.length
 |[],_,_,_,_=>by rw[E9];exact Afe _
 |c::cs,p,ks,out,tc=>by
  rw[E9];split
  ·exact Afe _
  ·simp only;split
   ·exact hr _ _ _
   ·exact Ahq (hr _ _ _) (Md hr)
def Yv{rec:Int→List KV→Nat→WR}(hr:∀c out tc,out.length≤(rec c out tc).out.length){c:Int}{cs:List Int}{p:Option (List UInt8)}{ks out}(hs:¬IC p to=true):
  (rec c out tc).out.length≤(E9 rec to p ks (c::cs) out tc).out.length:=by
 rw[E9,if_neg hs]
 simp only
 split
 ·exact Afe _
 ·exact Md hr
def RI:∀(h:Nat) (k:Int) (out:List KV) (tc:Nat),out.length≤(C4 s most fr to h k out tc).out.length
 |0,k,out,tc=>Afe _
 |h+1,k,out,tc=>by
  rw[C4];simp only;split
  ·exact Afe _
  split
  ·exact Mj
  ·exact Md (fun c o t=>RI h c o t)
def AaT{h:Nat}{k:Int}{out}(he:(AM s k ((h+1:Nat):Int)).2≠0):C4 s most fr to (h+1) k out tc=⟨out,tc,false,(AM s k ((h+1:Nat):Int)).2⟩:=by
 rw[C4];exact if_pos he
def Ya{k:Int}{out}{n:AB}(he:(AM s k ((0+1:Nat):Int)).2=0)(hn:(AM s k ((0+1:Nat):Int)).1=n):
  C4 s most fr to (0+1) k out tc=EF s most to (n.keys.drop (D6 n fr)) (n.vals.drop (D6 n fr)) out (tc+1):=by
 rw[C4]
 refine(if_neg (fun q=>q he)).trans ?_
 rw[hn]
 exact if_pos Z
def XB{h:Nat}{k:Int}{out}{n:AB}(he:(AM s k ((h+1+1:Nat):Int)).2=0)(hn:(AM s k ((h+1+1:Nat):Int)).1=n):
  C4 s most fr to (h+1+1) k out tc=E9 (C4 s most fr to (h+1)) to (if D6 n fr=0 then none else n.keys[D6 n fr - 1]?) (n.keys.drop (D6 n fr)) (n.kids.drop (D6 n fr)) out (tc+1):=by
 rw[C4]
 refine(if_neg (fun q=>q he)).trans ?_
 rw[hn]
 exact if_neg (Ahi _)
end
def Rt(P:Program)(f:FuncId):Prop:=∀{g},NN P g→∀(x:Nat) {d s}{n:Nat}{dv pv fv tv ov L}{bp bo bm:Nat}{To ro}{most page:Int}{fr to out},
 Pg d {s with tc:=n} dv pv L→Ay d fv fr→Ay d tv to→DC d bp 0 pv→DC d bm 0 (vZ most)→Ai 2 RBp d ov out ro→(C4 s most fr to (x+1) page out n).out.length≤1000000→x≤1000000→
 Ao P f [pv,vZ page,vZ ((x+1:Nat):Int),fv,tv,.func (.func g) #[] #[pZ bp,pZ bo,pZ bm]] d (bx bo To [ov]::ro::L)
  (Ret fun v d' L'=>Le d d'∧∃ov' ro' L2 tc,v=.tuple #[.bool (C4 s most fr to (x+1) page out n).on,vZ (C4 s most fr to (x+1) page out n).e]∧L'=bx bo To [ov']::ro'::L2∧
   Ai 2 RBp d' ov' (C4 s most fr to (x+1) page out n).out ro'∧Pg d' {s with tc:=tc} dv pv L2∧((C4 s most fr to (x+1) page out n).e=0→tc=(C4 s most fr to (x+1) page out n).tc))
def U8(a0 a1 a2 a3:Nat):A9:=⟨131,[(.tmp 12),(.tmp 13)],(sR (o1 12 (.mv (.const (.bool false)))<|o1 13 (.mv z0) .done) (sR (om 22 0<|om 23 1<|om 24 2<|oc 25 a0 [22,23,24]<|om 21 25<|oe 26 21 0<|oe 27 21 1<|o1 14 (.alo (.agg #[(.bool false),nV,nV,nV]))<|o0 (.st 4 14 26)<|om 15 27 .done) (.seq (sR (om 28 15<|ob 29 .neq 28 z0 .done) (.cond 29 (sR (om 30 15<|o1 12 (.mv (.const (.bool false)))<|om 13 30 .done) .ret) .skip)) (sR (o1 16 (.mv z0) .done) (.seq (sR (om 31 3<|oL 32 31<|ob 33 .gtr 32 z0 .done) (.cond 33 (rG (o1 35 (.ld (some 4) 14)<|om 36 3<|oc 37 a1 [35,36]<|om 34 37<|oe 38 34 0<|oe 39 34 1<|om 16 38 .done)) .skip)) (.seq (sR (oj 40 0 14<|ol 41 40 .done) (.cond 41 (.seq (.block 0 (.loop (.seq (sR (om 42 16<|oj 43 1 14<|ol 44 43<|oL 45 44<|ob 46 .lss 42 45 .done) (.cond 46 .skip (.exit 0))) (.seq (.block 1 (.seq (sR (om 49 4<|oL 50 49<|ob 51 .gtr 50 z0<|om 52 51<|oT 53 52 (.fld 1 14)<|oT 54 52 (.ld none 53)<|gT 55 52 16<|oT 56 52 (.idx 1 54 55)<|oT 57 52 (.ld none 56)<|gT 58 52 4<|oT 59 52 (.call a2 [57,58])<|oT 60 52 (.bin .geq 59 z0)<|gP 61 52 60 .done) (.cond 61 (sR (o1 12 (.mv (.const (.bool false)))<|o1 13 (.mv z0) .done) .ret) .skip)) (.seq (.reg true (pm 63 5<|p1 64 (.fld 1 14)<|pl 65 64<|pm 66 16<|p1 67 (.idx 1 65 66)<|pl 68 67<|p1 69 (.fld 2 14)<|pl 70 69<|pm 71 16<|p1 72 (.idx 1 70 71)<|pl 73 72<|o1 74 (.callv 63 [68,73])<|pm 62 74<|p1 75 (.ext 62 0)<|p1 76 (.ext 62 1)<|pm 17 75<|pm 18 76 .done)) (sR (om 77 18<|ob 78 .neq 77 z0<|om 79 78<|gF 80 79 17<|oF 81 79 (.un .not 80)<|o1 82 (.pick 79 (.const (.bool true)) 81) .done) (.cond 82 (sR (om 83 18<|o1 12 (.mv (.const (.bool false)))<|om 13 83 .done) .ret) .skip))))) (rG (om 47 16<|ob 48 .add 47 z1<|om 16 48 .done)))))) (sR (o1 12 (.mv (.const (.bool true)))<|o1 13 (.mv z0) .done) .ret)) .skip)) (.seq (.block 2 (.loop (.seq (sR (om 84 16<|oj 85 3 14<|ol 86 85<|oL 87 86<|ob 88 .lss 84 87 .done) (.cond 88 .skip (.exit 2))) (.seq (.block 3 (.seq (sR (om 91 16<|ob 92 .gtr 91 z0<|om 93 92<|gT 94 93 4<|oT 95 93 (.len 94)<|oT 96 93 (.bin .gtr 95 z0)<|gP 97 93 96<|om 98 97<|oT 99 98 (.fld 1 14)<|oT 100 98 (.ld none 99)<|gT 101 98 16<|oT 102 98 (.bin .sub 101 z1)<|oT 103 98 (.idx 1 100 102)<|oT 104 98 (.ld none 103)<|gT 105 98 4<|oT 106 98 (.call a2 [104,105])<|oT 107 98 (.bin .geq 106 z0)<|gP 108 98 107 .done) (.cond 108 (sR (o1 12 (.mv (.const (.bool false)))<|o1 13 (.mv z0) .done) .ret) .skip)) (sR (om 110 0<|oj 111 3 14<|ol 112 111<|om 113 16<|oI 114 1 112 113<|ol 115 114<|om 116 2<|ob 117 .sub 116 z1<|om 118 3<|om 119 4<|om 120 5<|oc 121 a3 [110,115,117,118,119,120]<|om 109 121<|oe 122 109 0<|oe 123 109 1<|om 19 122<|om 20 123 .done) (sR (om 124 20<|ob 125 .neq 124 z0<|om 126 125<|gF 127 126 19<|oF 128 126 (.un .not 127)<|o1 129 (.pick 126 (.const (.bool true)) 128) .done) (.cond 129 (sR (om 130 20<|o1 12 (.mv (.const (.bool false)))<|om 13 130 .done) .ret) .skip))))) (rG (om 89 16<|ob 90 .add 89 z1<|om 16 90 .done)))))) (sR (o1 12 (.mv (.const (.bool true)))<|o1 13 (.mv z0) .done) .ret))))))))⟩
set_option maxRecDepth 4000 in
set_option maxHeartbeats 4000000 in
def Aac{P f}(hd:dec P f=some (U8 f1 f2 f3 f))(h1:NU P f1)(h2:I6 P f2 findD)(h3:Gn P f3):Rt P f:=by
 intro g hg x;induction x using Nat.strongRecOn with
 |_ x ih=>
 intro d s n dv pv fv tv ov L bp bo bm To ro most page fr to out hp hf ht hbp hbm ho hlen hx;obtain⟨pb,rfl⟩:=hp.ptr;obtain⟨fa,fc,rfl⟩:=RSl.val hf;obtain⟨ta,tc0,rfl⟩:=RSl.val ht;obtain⟨oa,oc,rfl⟩:=ho.val;have hfl:=hf.BW;have htl:=ht.BW;refine Bj hd<|Ak<|Ad Z<|A7 Z<|Ag Z<|Ab Z<|Ab Z<|A0 [_,_] (h1 (k:=page) (x:=((x+1:Nat):Int)) hp) Z Z (fun v d2 L2 hl ⟨_,cs,tc,e1,hn,hp2,htc⟩=>?_);subst e1;rw[show AM {s with tc:=n} page ((x+1:Nat):Int)=AM s page ((x+1:Nat):Int) from Z] at hn htc⊢;have hp2:Pg d2 {s with tc:=tc} dv (pZ pb) L2:=hp2;have htc:(AM s page ((x+1:Nat):Int)).2=0→tc=n+1:=htc;obtain⟨xa,xc,ya,yc,za,zc,rfl⟩:=Cz.four hn;have ho2:Ai 2 RBp d2 (.slice oa out.length oc) out ro:=Ai.mono (R:=RBp) Em ho hl;(refine AO Z<|AW Z Z Z Z<|B8 (fun _ _=>?_));rename_i b14 T14;refine Bb 0 [.bool (AM s page ((x+1:Nat):Int)).1.leaf,.slice xa (AM s page ((x+1:Nat):Int)).1.keys.length xc,.slice ya (AM s page ((x+1:Nat):Int)).1.vals.length yc,.slice za (AM s page ((x+1:Nat):Int)).1.kids.length zc] Z Z Z Z (Aff Z) Z Z ?_;by_cases he:(AM s page ((x+1:Nat):Int)).2=0
 ·have htc2:=htc he;obtain⟨hr,hlf⟩:=F7 he;obtain⟨nd,hne⟩:∃nd,(AM s page ((x+1:Nat):Int)).1=nd:=⟨_,Z⟩
  rw[he];rw[hne] at hn hr hlf⊢;have hlv:nd.leaf=true→nd.vals.length=nd.keys.length:=HA hr;have hli:nd.leaf=false→nd.kids.length=nd.keys.length+1:=GB hr;have hf2:RSl 1 Ax d2 (.slice fa fr.length fc) fr:=RSl.mono (R:=Ax) AF hf hl;have ht2:RSl 1 Ax d2 (.slice ta to.length tc0) to:=RSl.mono (R:=Ax) AF ht hl;have hfc:=h2 hn hf2;have hfi:D6 nd fr≤nd.keys.length:=by
   unfold D6;split
   ·omega
   ·exact KZ
  clear hr htc;(refine AR Z<|Ab Z<|AJ Z Z<|EY Z ?_);apply AH;(refine AE Z<|BG<|Ae Z<|AA Z<|Bu Z Z<|An ?_);show gwp P _ _ _ _ _;refine Ji (fun ρ d5 L5=>d5=d2∧BN ρ [(0,pZ pb),(2,vZ ((x+1:Nat):Int)),(3,.slice fa fr.length fc),(4,.slice ta to.length tc0),(5,.func (.func g) #[] #[pZ bp,pZ bo,pZ bm]),(14,pZ b14),(16,vZ (D6 nd fr))]∧
   L5=bx b14 T14 [.bool nd.leaf,.slice xa nd.keys.length xc,.slice ya nd.vals.length yc,.slice za nd.kids.length zc]::bx bo To [.slice oa out.length oc]::ro::L2) ?_ ?_
  ·by_cases h0:0<fr.length
   ·have hfr:fr≠[]:=Aib.1 h0;refine B2 Z<|Av<|Bk 0 Z Z Z<|Ae Z<|BH Z hfc<|AO Z<|AW Z Z Z Z<|AU Z ?_;exact⟨Z,⟨Z,Z,Z,Z,Z,Z,by unfold D6;rw[if_neg hfr];rfl,trivial⟩,Z⟩
   ·have hfr:fr=[]:=List.length_eq_zero_iff.1 (by omega);(refine BM Z<|AH ?_);exact⟨Z,⟨Z,Z,Z,Z,Z,Z,by unfold D6;rw[if_pos hfr];rfl,trivial⟩,Z⟩
  clear hfc;rintro ρ d5 L5 ⟨hdd,hsl,hL⟩;subst hdd;subst hL;show gwp P _ _ _ _ _;refine CU _ hsl ?_;clear hsl;apply Aw;apply Aw;apply Av;refine HZ (fun d6 hl6 hg6=>?_);replace hg6:=Nf hg6;have hp6:=hp2.mono hl6;have hf6:RSl 1 Ax d6 (.slice fa fr.length fc) fr:=RSl.mono (R:=Ax) AF hf2 hl6;have ht6:RSl 1 Ax d6 (.slice ta to.length tc0) to:=RSl.mono (R:=Ax) AF ht2 hl6;have ho6:Ai 2 RBp d6 (.slice oa out.length oc) out ro:=Ai.mono (R:=RBp) Em ho2 hl6;have hbp6:=hbp.mono (hl.trans hl6);have hbm6:=hbm.mono (hl.trans hl6);obtain⟨kv,vv,iv,q,r1,r2,r3⟩:=hn;cases q;have r1:RSl 1 RBs d6 (.slice xa nd.keys.length xc) nd.keys:=RSl.mono (R:=RBs) CY r1 hl6;have r2:RSl 1 RBs d6 (.slice ya nd.vals.length yc) nd.vals:=RSl.mono (R:=RBs) CY r2 hl6;have r3:RSl 1 Bh d6 (.slice za nd.kids.length zc) nd.kids:=RSl.mono (R:=Bh) Ck r3 hl6;clear hf2 ht2 ho2 hp2;by_cases hx0:x=0
  ·subst hx0;have hvl:=hlv (by rw[hlf];rfl);rw[Ya he hne] at hlen⊢;clear hlv hli ih;have hleaf:nd.leaf=true:=by rw[hlf];rfl
   rewrite [hleaf] at hg6;(refine Am Z<|Ah Z (Cr (by assumption) Z)<|B7 Z<|Aw<|Aq ?_);subst htc2;obtain⟨W,hW⟩:∃W,EF s most to (nd.keys.drop (D6 nd fr)) (nd.vals.drop (D6 nd fr)) out (n+1)=W:=⟨_,Z⟩
   rw[hW] at hlen⊢;refine Cs (α:=Nat×List KV×Nat×Value) (fun p=>[(4,.slice ta to.length tc0),(5,.func (.func g) #[] #[pZ bp,pZ bo,pZ bm]),(14,pZ b14),(16,vZ p.1)])
    (fun p d' Lx=>Le d6 d'∧p.1≤nd.keys.length∧EF s most to (nd.keys.drop p.1) (nd.vals.drop p.1) p.2.1 p.2.2.1=W∧∃ro' L',Ai 2 RBp d' p.2.2.2 p.2.1 ro'∧Pg d' {s with tc:=p.2.2.1} dv (pZ pb) L'∧Lx=bx bo To [p.2.2.2]::ro'::L') (fun p=>nd.keys.length - p.1) (D6 nd fr,out,n+1,.slice oa out.length oc)
    ⟨Z,Z,Z,Z,trivial⟩ ⟨Le.refl _,hfi,hW,ro,L2,ho6,hp6,Z⟩ ?_
   rintro⟨i,o,t,ov⟩ ρ d7 Lx ⟨hl7,hi,hWi,ro7,L7,ho7,hp7,hL⟩;simp only at hi hWi ho7 hp7⊢;subst hL;have hg7:=hg6.mono hl7;have ht7:RSl 1 Ax d7 (.slice ta to.length tc0) to:=RSl.mono (R:=Ax) AF ht6 hl7;have k1:RSl 1 RBs d7 (.slice xa nd.keys.length xc) nd.keys:=RSl.mono (R:=RBs) CY r1 hl7;have k2:RSl 1 RBs d7 (.slice ya nd.vals.length yc) nd.vals:=RSl.mono (R:=RBs) CY r2 hl7;have n1:=k1.BW;by_cases hc:i<nd.keys.length
   ·have hcv:i<nd.vals.length:=by omega
    have hol:o.length≤1000000:=Ahq (by rw[←hWi];exact Mj) hlen;rw[←List.getElem_cons_drop hc,←List.getElem_cons_drop hcv,EF] at hWi;apply Aw;apply Aw;apply Av;refine Ab Z<|Am Z<|Ah Z (Cr (by assumption) Z)<|AA Z<|Au Z Z<|An<|EO Z (by omega) ?_;apply AH;apply Aw;apply Aq;apply Aw;by_cases hs:IC (some nd.keys[i]) to=true
    ·rw[if_pos hs] at hWi;obtain⟨q1,q2⟩:=G9.1 hs;have h0:0<to.length:=Aib.2 q1;have hge:¬Lib.compareBytes nd.keys[i] to<0:=fun q=>q2 ((Gl _ _).1 q);clear hs;(refine Br Z<|AA Z<|Bu Z Z<|Ad Z<|Bx Z<|Ac Z<|Am Z<|Ac Z<|Ah Z (Cr (by assumption) Z)<|Ac Z<|Ab Z<|Ac Z<|Bq (sz:=1) (R:=RBs) (by rfl) (by assumption) (by rfl) Z (by omega) ?_;rintro _ _ _ _ _ ⟨_,rfl,_⟩;refine Ac Z<|Ah Z (BO (by assumption) Z)<|Ac Z<|Ae Z<|Ac Z ?_);refine BH Z (h3 (by assumption) ht7) ?_;subst hWi;refine Ac Z<|Dk Z Z<|As Z Z<|A5 Z<|Ak<|Ad Z<|AS Z<|A6 [.bool false,vZ 0] ⟨Af Z,Af Z,trivial⟩ (d':=d7) (L':=bx bo To [ov]::ro7::L7) (Vs.refl _ _) ⟨(hl.trans hl6).trans hl7,ov,ro7,L7,t,Z,Z,ho7,hp7,fun _=>Z⟩
    rw[if_neg hs] at hWi;refine Ji (fun ρ d8 L8=>d8=d7∧BN ρ [(4,.slice ta to.length tc0),(5,.func (.func g) #[] #[pZ bp,pZ bo,pZ bm]),(14,pZ b14),(16,vZ i)]∧L8=bx bo To [ov]::ro7::L7) ?_ ?_
    ·by_cases h0:0<to.length
     ·have hlt:Lib.compareBytes nd.keys[i] to<0:=(Gl _ _).2 (Decidable.byContradiction fun q=>hs (G9.2 ⟨Aib.1 h0,q⟩));clear hs;(refine Br Z<|AA Z<|Bu Z Z<|Ad Z<|Bx Z<|Ac Z<|Am Z<|Ac Z<|Ah Z (Cr (by assumption) Z)<|Ac Z<|Ab Z<|Ac Z<|Bq (sz:=1) (R:=RBs) (by rfl) (by assumption) (by rfl) Z (by omega) ?_;rintro _ _ _ _ _ ⟨_,rfl,_⟩;refine Ac Z<|Ah Z (BO (by assumption) Z)<|Ac Z<|Ae Z<|Ac Z ?_);refine BH Z (h3 (by assumption) ht7)<|Ac Z<|Dk Z Z<|As Z Z<|AT Z ?_;exact⟨Z,⟨Z,Z,Z,Z,trivial⟩,Z⟩
     ·clear hs;(refine Br Z<|AA Z<|Bu Z Z<|Ad Z<|Bs Z<|AQ Z Z<|AQ Z Z<|AQ Z Z<|AQ Z Z<|Aj Z Z<|Be Z ?_);exact⟨Z,⟨Z,Z,Z,Z,trivial⟩,Z⟩
    clear hs;rintro ρ d8 L8 ⟨hdd,hsl,hL⟩;subst hdd;subst hL;show gwp P _ _ _ _ _;refine CU _ hsl ?_;clear hsl;apply Aw;refine LM [] (bx bo To [ov]::ro7::L7) (Vs.refl _ _) ?_;(refine FZ Z<|Am Z<|Ah Z (Cr (by assumption) Z)<|Ab Z<|Bq (sz:=1) (R:=RBs) (by rfl) (by assumption) (by rfl) Z (by omega) ?_;rintro _ _ _ _ _ ⟨_,rfl,_⟩;refine Ah Z (BO (by assumption) Z)<|Am Z<|Ah Z (Cr (by assumption) Z)<|Ab Z<|Bq (sz:=1) (R:=RBs) (by rfl) (by assumption) (by rfl) Z (by omega) ?_;rintro _ _ _ _ _ ⟨_,rfl,_⟩;apply Ah;rfl;exact BO (by assumption) Z);refine O3 (B:=[]) (List.Perm.of_eq (Agj _).symm) Z Z (hg hp7 (show Ay _ _ nd.keys[i] by assumption) (show Ay _ _ nd.vals[i] by assumption) (hbp6.mono hl7) (hbm6.mono hl7) ho7 hol) (fun v d9 L9 hl9 ⟨_,ov9,ro9,L10,tc9,e1,e2,ho9,hp9,htc9⟩=>?_);subst e1;subst e2;rewrite [Agj];dsimp only at hWi;generalize FY s most nd.keys[i] nd.vals[i] o t=r at hWi ho9 htc9⊢;obtain⟨ro',rt,ron,re⟩:=r;simp only at hWi ho9 htc9⊢;by_cases he9:re=0
    ·subst he9;have htc9:=htc9 Z;subst htc9;cases ron with
     |true=>
      rw[if_neg (by simp)] at hWi
      (refine AO Z<|AW Z Z Z Z<|Ad Z<|A7 Z<|Ab Z<|AJ Z Z<|Ad Z<|Bs Z<|Ac Z<|Ad Z<|Ac Z<|Bm Z<|Aj Z Z<|Be Z<|Av<|Ab Z<|A4 Z Z<|AU Z ?_)
      exact⟨(i+1,ro',tc9,ov9),by simp only;omega,⟨Z,Z,Z,int_eq (by simp),trivial⟩,hl7.trans hl9,hc,hWi,ro9,L10,ho9,hp9,Z⟩
     |false=>
      rw[if_pos (by simp)] at hWi
      subst hWi
      (refine AO Z<|AW Z Z Z Z<|Ad Z<|A7 Z<|Ab Z<|AJ Z Z<|Ad Z<|Bs Z<|Ac Z<|Ad Z<|Ac Z<|Bm Z<|Aj Z Z<|B7 Z<|AE Z<|Ad Z<|AS Z ?_)
      exact A6 [.bool false,vZ 0] ⟨Af Z,Af Z,trivial⟩ (d':=d9) (L':=bx bo To [ov9]::ro9::L10) (Vs.refl _ _) ⟨((hl.trans hl6).trans hl7).trans hl9,ov9,ro9,L10,tc9,Z,Z,ho9,hp9,fun _=>Z⟩
    ·rw[if_pos (.inl he9)] at hWi;subst hWi;refine AO Z<|AW Z Z Z Z<|Ad Z<|A7 Z<|Ab Z<|AJ Z Z<|Ad Z<|Bx Z<|AQ Z Z<|As Z Z<|B7 Z<|AE Z<|Ad Z<|AS Z<|A6 [.bool false,vZ re] ⟨Af Z,Af Z,trivial⟩ (d':=d9) (L':=bx bo To [ov9]::ro9::L10) (Vs.refl _ _) ⟨((hl.trans hl6).trans hl7).trans hl9,ov9,ro9,L10,tc9,Z,Z,ho9,hp9,fun q=>absurd q he9⟩
   ·obtain rfl:i=nd.keys.length:=by omega
    rw[Aig,←hvl,Aig,EF] at hWi
    ·subst hWi;refine AZ<|Ab Z<|Am Z<|Ah Z (Cr (by assumption) Z)<|AA Z<|Au Z Z<|EY Z<|Bl<|Ak<|Ad Z<|AS Z<|A6 [.bool true,vZ 0] ⟨Af Z,Af Z,trivial⟩ (d':=d7) (L':=bx bo To [ov]::ro7::L7) (Vs.refl _ _) ⟨(hl.trans hl6).trans hl7,ov,ro7,L7,t,Z,Z,ho7,hp7,fun _=>Z⟩
    ·simp
  ·obtain⟨x,rfl⟩:∃y,x=y+1:=⟨x - 1,by omega⟩
   have hil:=hli (by rw[hlf];simp;omega);rw[XB he hne] at hlen⊢;have hleaf:nd.leaf=false:=by rw[hlf];simp;omega
   rewrite [hleaf] at hg6;clear hlv hli;(refine Am Z<|Ah Z (Cr (by assumption) Z)<|Be Z<|Aw<|Aq ?_);subst htc2;obtain⟨W,hW⟩:∃W,E9 (C4 s most fr to (x+1)) to (if D6 nd fr=0 then none else nd.keys[D6 nd fr - 1]?) (nd.keys.drop (D6 nd fr)) (nd.kids.drop (D6 nd fr)) out (n+1)=W:=⟨_,Z⟩
   rw[hW] at hlen⊢;refine Cs (α:=Nat×List KV×Nat×Value) (fun p=>[(0,pZ pb),(2,vZ ((x+1+1:Nat):Int)),(3,.slice fa fr.length fc),(4,.slice ta to.length tc0),(5,.func (.func g) #[] #[pZ bp,pZ bo,pZ bm]),(14,pZ b14),(16,vZ p.1)])
    (fun p d' Lx=>Le d6 d'∧p.1≤nd.kids.length∧E9 (C4 s most fr to (x+1)) to (if p.1=0 then none else nd.keys[p.1 - 1]?) (nd.keys.drop p.1) (nd.kids.drop p.1) p.2.1 p.2.2.1=W∧∃ro' L',Ai 2 RBp d' p.2.2.2 p.2.1 ro'∧Pg d' {s with tc:=p.2.2.1} dv (pZ pb) L'∧Lx=bx bo To [p.2.2.2]::ro'::L') (fun p=>nd.kids.length - p.1) (D6 nd fr,out,n+1,.slice oa out.length oc)
    ⟨Z,Z,Z,Z,Z,Z,Z,trivial⟩ ⟨Le.refl _,by simp only;omega,hW,ro,L2,ho6,hp6,Z⟩ ?_
   rintro⟨i,o,t,ov⟩ ρ d7 Lx ⟨hl7,hi,hWi,ro7,L7,ho7,hp7,hL⟩;simp only at hi hWi ho7 hp7⊢;subst hL;have hg7:=hg6.mono hl7;have hf7:RSl 1 Ax d7 (.slice fa fr.length fc) fr:=RSl.mono (R:=Ax) AF hf6 hl7;have ht7:RSl 1 Ax d7 (.slice ta to.length tc0) to:=RSl.mono (R:=Ax) AF ht6 hl7;have k1:RSl 1 RBs d7 (.slice xa nd.keys.length xc) nd.keys:=RSl.mono (R:=RBs) CY r1 hl7;have k3:RSl 1 Bh d7 (.slice za nd.kids.length zc) nd.kids:=RSl.mono (R:=Bh) Ck r3 hl7;have n1:=k3.BW;by_cases hc:i<nd.kids.length
   ·rw[←List.getElem_cons_drop hc] at hWi;obtain⟨p,hp⟩:∃p,(if i=0 then none else nd.keys[i - 1]?)=p:=⟨_,Z⟩
    rw[hp] at hWi;apply Aw;apply Aw;apply Av;refine Ab Z<|Am Z<|Ah Z (Cr (by assumption) Z)<|AA Z<|Au Z Z<|An<|EO Z (by omega) ?_;apply AH;apply Aw;apply Aq;apply Aw;by_cases hs:IC p to=true
    ·rw[E9,if_pos hs] at hWi;obtain⟨k,rfl⟩:∃k,p=some k:=by
      cases p with
      |none=>cases hs
      |some k=>exact⟨k,Z⟩
     obtain⟨q1,q2⟩:=G9.1 hs;have h0:0<to.length:=Aib.2 q1;have hi0:0<i:=by
      rcases Nat.eq_zero_or_pos i with z|z
      ·rw[if_pos z] at hp;cases hp
      ·exact z
     rw[if_neg (by omega)] at hp;have hik:i - 1<nd.keys.length:=by omega
     rw[Afc hik,Option.some.injEq] at hp;have hge:¬Lib.compareBytes nd.keys[i - 1] to<0:=fun q=>q2 (by rw[←hp];exact(Gl _ _).1 q);clear hs;have hie:(i:Int) - 1=((i - 1:Nat):Int):=by omega
     refine AE Z<|Bu Z Z<|Ad Z<|Bx Z<|Ac Z<|Ae Z<|Ac Z<|AA Z<|Ac Z<|Bu Z Z<|As Z Z<|Ad Z<|Bx Z<|Ac Z<|Am Z<|Ac Z<|Ah Z (Cr (by assumption) Z)<|Ac Z<|Ab Z<|Ac Z<|DT Z Z<|Ac Z<|Bq (sz:=1) (R:=RBs) Z k1 Z (m:=i - 1) hie hik (fun bq oq csq hcq hDq hRq=>?_);obtain⟨uq,hu,hRu⟩:=hRq;subst hu;refine Ac Z<|Ah Z (BO (by assumption) Z)<|Ac Z<|Ae Z<|Ac Z<|BH Z (h3 hRu ht7) ?_;subst hWi;refine Ac Z<|Dk Z Z<|As Z Z<|A5 Z<|Ak<|Ad Z<|AS Z<|A6 [.bool false,vZ 0] ⟨Af Z,Af Z,trivial⟩ (d':=d7) (L':=bx bo To [ov]::ro7::L7) (Vs.refl _ _) ⟨(hl.trans hl6).trans hl7,ov,ro7,L7,t,Z,Z,ho7,hp7,fun _=>Z⟩
    have hol:(C4 s most fr to (x+1) nd.kids[i] o t).out.length≤1000000:=Ahq (by rw[←hWi];exact Yv (fun c o t=>RI _ c o t) hs) hlen;rw[E9,if_neg hs] at hWi;refine Ji (fun ρ d8 L8=>d8=d7∧BN ρ [(0,pZ pb),(2,vZ ((x+1+1:Nat):Int)),(3,.slice fa fr.length fc),(4,.slice ta to.length tc0),(5,.func (.func g) #[] #[pZ bp,pZ bo,pZ bm]),(14,pZ b14),(16,vZ i)]∧L8=bx bo To [ov]::ro7::L7) ?_ ?_
    ·by_cases hi0:0<i
     ·by_cases h0:0<to.length
      ·have hik:i - 1<nd.keys.length:=by omega
       have hlt:Lib.compareBytes nd.keys[i - 1] to<0:=(Gl _ _).2 (Decidable.byContradiction fun q=>hs (by rw[←hp,if_neg (by omega),Afc hik];exact G9.2 ⟨Aib.1 h0,q⟩));have hie:(i:Int) - 1=((i - 1:Nat):Int):=by omega
       clear hs;refine AE Z<|Bu Z Z<|Ad Z<|Bx Z<|Ac Z<|Ae Z<|Ac Z<|AA Z<|Ac Z<|Bu Z Z<|As Z Z<|Ad Z<|Bx Z<|Ac Z<|Am Z<|Ac Z<|Ah Z (Cr (by assumption) Z)<|Ac Z<|Ab Z<|Ac Z<|DT Z Z<|Ac Z<|Bq (sz:=1) (R:=RBs) Z k1 Z (m:=i - 1) hie hik (fun bq oq csq hcq hDq hRq=>?_);obtain⟨uq,hu,hRu⟩:=hRq;subst hu;refine Ac Z<|Ah Z (BO (by assumption) Z)<|Ac Z<|Ae Z<|Ac Z<|BH Z (h3 hRu ht7)<|Ac Z<|Dk Z Z<|As Z Z<|AT Z ?_;exact⟨Z,⟨Z,Z,Z,Z,Z,Z,Z,trivial⟩,Z⟩
      ·clear hs;(refine AE Z<|Bu Z Z<|Ad Z<|Bx Z<|Ac Z<|Ae Z<|Ac Z<|AA Z<|Ac Z<|Bu Z Z<|As Z Z<|Ad Z<|Bs Z<|AQ Z Z<|AQ Z Z<|AQ Z Z<|AQ Z Z<|BP Z<|Aj Z Z<|Be Z ?_);exact⟨Z,⟨Z,Z,Z,Z,Z,Z,Z,trivial⟩,Z⟩
     ·clear hs;(refine AE Z<|Bu Z Z<|Ad Z<|Bs Z<|AQ Z Z<|BP Z<|Aj Z Z<|Ad Z<|AQ Z Z<|AQ Z Z<|AQ Z Z<|AQ Z Z<|BP Z<|Aj Z Z<|Be Z ?_);exact⟨Z,⟨Z,Z,Z,Z,Z,Z,Z,trivial⟩,Z⟩
    clear hs hp;rintro ρ d8 L8 ⟨hdd,hsl,hL⟩;subst hdd;subst hL;show gwp P _ _ _ _ _;refine CU _ hsl ?_;clear hsl;apply Aw;apply Av;(refine Ag Z<|Am Z<|Ah Z (Cr (by assumption) Z)<|Ab Z<|Bq (sz:=1) (R:=Bh) (by rfl) (by assumption) (by rfl) Z (by omega) ?_;rintro _ _ _ _ _ ⟨rfl,_,_⟩;refine Ah Z (BO (by assumption) Z)<|Ab Z<|DT Z Z<|Ae Z<|Ae Z<|FZ Z ?_);refine Fj (g:=117) (congrArg (Value.int .i64) (show((x+1+1:Nat):Int) - 1=((x+1:Nat):Int) by omega)) ?_;skip;refine A0 [] (ih x (by omega) hp7 hf7 ht7 (hbp6.mono hl7) (hbm6.mono hl7) ho7 hol (by omega)) Z Z (fun v d9 L9 hl9 ⟨_,ov9,ro9,L10,tc9,e1,e2,ho9,hp9,htc9⟩=>?_);subst e1;subst e2;dsimp only at hWi;generalize C4 s most fr to (x+1) nd.kids[i] o t=r at hWi ho9 htc9⊢;obtain⟨ro',rt,ron,re⟩:=r;simp only at hWi ho9 htc9⊢;by_cases he9:re=0
    ·subst he9;have htc9:=htc9 Z;subst htc9;cases ron with
     |true=>
      rw[if_neg (by simp),List.tail_drop,List.head?_drop] at hWi
      (refine AO Z<|AW Z Z Z Z<|Ad Z<|A7 Z<|Ab Z<|AJ Z Z<|Ad Z<|Bs Z<|Ac Z<|Ad Z<|Ac Z<|Bm Z<|Aj Z Z<|Be Z<|Av<|Ab Z<|A4 Z Z<|AU Z ?_)
      exact⟨(i+1,ro',tc9,ov9),by simp only;omega,⟨Z,Z,Z,Z,Z,Z,int_eq (by simp),trivial⟩,hl7.trans hl9,hc,by rw[if_neg (by simp)];exact hWi,ro9,L10,ho9,hp9,Z⟩
     |false=>
      rw[if_pos (by simp)] at hWi
      subst hWi
      (refine AO Z<|AW Z Z Z Z<|Ad Z<|A7 Z<|Ab Z<|AJ Z Z<|Ad Z<|Bs Z<|Ac Z<|Ad Z<|Ac Z<|Bm Z<|Aj Z Z<|B7 Z<|AE Z<|Ad Z<|AS Z ?_)
      exact A6 [.bool false,vZ 0] ⟨Af Z,Af Z,trivial⟩ (d':=d9) (L':=bx bo To [ov9]::ro9::L10) (Vs.refl _ _) ⟨((hl.trans hl6).trans hl7).trans hl9,ov9,ro9,L10,tc9,Z,Z,ho9,hp9,fun _=>Z⟩
    ·rw[if_pos (.inl he9)] at hWi;subst hWi;refine AO Z<|AW Z Z Z Z<|Ad Z<|A7 Z<|Ab Z<|AJ Z Z<|Ad Z<|Bx Z<|AQ Z Z<|As Z Z<|B7 Z<|AE Z<|Ad Z<|AS Z<|A6 [.bool false,vZ re] ⟨Af Z,Af Z,trivial⟩ (d':=d9) (L':=bx bo To [ov9]::ro9::L10) (Vs.refl _ _) ⟨((hl.trans hl6).trans hl7).trans hl9,ov9,ro9,L10,tc9,Z,Z,ho9,hp9,fun q=>absurd q he9⟩
   ·obtain rfl:i=nd.kids.length:=by omega
    rw[Aig,E9] at hWi;subst hWi;refine AZ<|Ab Z<|Am Z<|Ah Z (Cr (by assumption) Z)<|AA Z<|Au Z Z<|EY Z<|Bl<|Ak<|Ad Z<|AS Z<|A6 [.bool true,vZ 0] ⟨Af Z,Af Z,trivial⟩ (d':=d7) (L':=bx bo To [ov]::ro7::L7) (Vs.refl _ _) ⟨(hl.trans hl6).trans hl7,ov,ro7,L7,t,Z,Z,ho7,hp7,fun _=>Z⟩
 ·rw[AaT he];refine AR Z<|Ab Z<|AJ Z Z<|A5 Z<|AE Z<|Ad Z<|AS Z<|A6 [.bool false,vZ (AM s page ((x+1:Nat):Int)).2] ⟨Af Z,Af Z,trivial⟩ (d':=d2) (L':=bx bo To [.slice oa out.length oc]::ro::L2) (Vs.drop (.cons _ (Afa _)))
   ⟨hl,_,ro,L2,tc,Z,Z,ho2,hp2,fun q=>absurd q he⟩
end
def QW(P:Program)(f:FuncId):Prop:=∀{d}{bt pb:Nat}{Tt}{r h c:Int}{L},Ea P f [pZ bt,nV] d (tb bt Tt (pZ pb) r h c::L) (.tuple #[nV,.bool false,vZ 2])
def Abl{P f f4}(hd:dec P f=some (JB f1 f2 f3 f4))(h1:Kc P f1):QW P f:=by
 intro d bt pb Tt r h c L;refine Bj hd<|Br Z<|Ad Z<|AR Z<|Ag Z<|Ae Z<|B9 [] (h1 (key:=[]) RSl.nil) Z Z ?_;rewrite [show Cl []=2 from Z];refine A7 Z<|Ab Z<|AJ Z Z<|A5 Z<|AE Z<|Ae Z<|Ad Z<|AS Z<|Ed [nV,.bool false,vZ 2] ⟨Af Z,Af Z,Af Z,trivial⟩ (Afa _) ⟨Z,Z,Z⟩
def KY(P:Program)(f:FuncId):Prop:=∀{d}{t:TD}{dv pv L}{bt:Nat}{Tt},Pg d t.s dv pv L→CE t.root t.height t.count=true→t.root≤1000000000→t.height≤1000000000→t.count≤1000000000→
 Ao P f [pv,pZ bt] d (tbD bt Tt pv t::L) (Ret fun v d' L'=>Le d d'∧v=vZ 0∧L'=tbD bt Tt pv t::L)
def Aab{r h c:Int}(e:CE r h c=true): -1≤r∧0≤h∧0≤c:=by
 simp only[CE,Agl,Afb,decide_eq_true_eq] at e;omega
def TZ(a0 a1 a2 a3 a4 a5:Nat):A9:=⟨39,[(.tmp 4)],(sR (o1 4 (.mv z0) .done) (.seq (sR (om 10 0<|oc 11 a0 [10]<|o1 12 (.eqp false 11 (.const (.pointer none))) .done) (.cond 12 (sR (o1 4 (.mv z1) .done) .ret) .skip)) (.seq (sR (om 14 0<|om 15 1<|oc 16 a1 [15]<|om 17 1<|oc 18 a2 [17]<|om 19 1<|oc 20 a3 [19]<|oc 21 a4 [14,16,18,20]<|om 13 21<|oe 22 13 0<|oe 23 13 1<|om 5 22<|om 6 23 .done) (sR (om 24 6<|ob 25 .neq 24 z0<|om 26 25<|gF 27 26 1<|oF 28 26 (.eqp false 27 (.const (.pointer none)))<|o1 29 (.pick 26 (.const (.bool true)) 28) .done) (.cond 29 (sR (o1 4 (.mv z1) .done) .ret) .skip))) (.seq (sR (om 31 1<|oc 32 a5 [31,nS]<|om 30 32<|oe 33 30 0<|oe 34 30 1<|oe 35 30 2<|om 7 33<|om 8 34<|om 9 35 .done) (sR (om 36 9<|ob 37 .eql 36 z1 .done) (.cond 37 (sR (om 38 9<|om 4 38 .done) .ret) .skip))) (sR (o1 4 (.mv z0) .done) .ret)))))⟩
set_option maxRecDepth 4000 in
def Yr{P f f4 f5 f6}(hd:dec P f=some (TZ f1 f2 f3 f4 f5 f6))(h1:Ij P f1)(h2:IL P f2)(h3:Gw P f3)(h4:Ha P f4)(h5:IS P f5)(h6:QW P f6):KY P f:=by
 intro d t dv pv L bt Tt hp ho hr hh hc;obtain⟨bp,rfl⟩:=hp.ptr;obtain⟨l1,l2,l3⟩:=Aab ho;obtain⟨s,root,height,count⟩:=t;simp only at hp ho hr hh hc l1 l2 l3;refine Bj hd<|AE Z<|BG<|Ag Z<|A0 [_] (h1 hp) Z Z (fun r d2 L2 hl2 ⟨e1,_,hm⟩=>?_);subst e1;obtain⟨bm,rfl⟩:∃bm,r=pZ bm:=by obtain⟨bm,_,_,_,_,_,q,_⟩:=hm;exact⟨bm,q⟩
 have hp2:=hp.mono hl2;clear hm;refine CG Z Z<|Be Z<|AZ<|Ag Z<|Ag Z<|B9 [] (h2 (L:=L2) (t:=⟨s,root,height,count⟩)) Z Z ?_;(apply Ag;rfl);refine B9 [] (h3 (L:=L2) (t:=⟨s,root,height,count⟩)) Z Z ?_;(apply Ag;rfl);refine B9 [] (h4 (L:=L2) (t:=⟨s,root,height,count⟩)) Z Z ?_;skip;refine A0 [_] (h5 (root:=root) (height:=height) (count:=count) hp2 (by omega) hr (by omega) (by omega) (by omega) (by omega)) Z Z (fun r d3 L3 hl3 ⟨_,hR⟩=>?_);rcases hR with ⟨_,bt2,Tt2,rfl,rfl⟩|⟨q,_⟩
 ·refine AO Z<|AW Z Z Z Z<|Ag Z<|A7 Z<|Ab Z<|AJ Z Z<|Ad Z<|Bs Z<|Ac Z<|Ag Z<|Ac Z<|CG Z Z<|Aj Z Z<|Be Z<|AZ<|Ag Z<|B9 [] (h6 (bt:=bt) (pb:=bp) (Tt:=Tt) (r:=root) (h:=height) (c:=count) (L:=tb bt2 Tt2 (pZ bp) root height count::L2)) Z Z<|AO Z<|AW Z Z Z Z<|Dl Z Z<|Ae Z<|Ad Z<|A7 Z<|Ab Z<|AI Z Z<|AT Z<|AE Z<|BJ<|A6 [vZ 0] ⟨Af Z,trivial⟩ (d':=d3) (L':=tbD bt Tt (pZ bp) ⟨s,root,height,count⟩::L2) (Vs.drop (.cons_cons _ (.cons _ (Afa _)))) ⟨hl2.trans hl3,Z,Z⟩
 ·rw[ho] at q;cases q
def Fm(t:TD)(most:Int)(fr to:List UInt8):List KV×Int:=
 if most<0 then([],2) else if t.height=0∨most=0 then([],0) else
  if (C4 t.s most fr to t.height t.root [] t.s.tc).e≠0 then([],(C4 t.s most fr to t.height t.root [] t.s.tc).e) else((C4 t.s most fr to t.height t.root [] t.s.tc).out,0)
def F3(t:TD)(most:Int)(fr to:List UInt8):Nat:=if most<0∨t.height=0∨most=0 then t.s.tc else(C4 t.s most fr to t.height t.root [] t.s.tc).tc
def Jd(P:Program)(f:FuncId):Prop:=∀{d}{t:TD}{dv pv fv tv L}{bt:Nat}{Tt}{most:Int}{fr to},Pg d t.s dv pv L→CE t.root t.height t.count=true→t.root≤1000000000→t.height≤1000000→t.count≤1000000000→
 Ay d fv fr→Ay d tv to→(0<most→(C4 t.s most fr to t.height t.root [] t.s.tc).out.length≤1000000)→
 Ao P f [pv,pZ bt,fv,tv,vZ most] d (tbD bt Tt pv t::L) (Ret fun v d' L'=>Le d d'∧∃rv L2 tc,v=.tuple #[rv,vZ (Fm t most fr to).2]∧RSl 2 RBp d' rv (Fm t most fr to).1∧L'=tbD bt Tt pv t::L2∧
  Pg d' {t.s with tc:=tc} dv pv L2∧((Fm t most fr to).2=0→tc=F3 t most fr to))
def SX(a0 a1 a2 a3 a4:Nat):A9:=⟨47,[(.tmp 10),(.tmp 11)],(sR (o1 5 (.box 0)<|o1 9 (.box 4)<|o1 10 (.mv nS)<|o1 11 (.mv z0) .done) (.seq (sR (ol 16 5<|om 17 1<|oc 18 a0 [16,17]<|om 12 18 .done) (sR (om 19 12<|ob 20 .neq 19 z0 .done) (.cond 20 (sR (om 21 12<|o1 10 (.mv nS)<|om 11 21 .done) .ret) .skip))) (.seq (sR (ol 22 9<|ob 23 .lss 22 z0 .done) (.cond 23 (sR (o1 10 (.mv nS)<|o1 11 (.mv z2) .done) .ret) .skip)) (sR (o1 13 (.alo nV) .done) (.seq (sR (om 24 1<|oc 25 a1 [24]<|ob 26 .eql 25 z0<|om 27 26<|oF 28 27 (.ld none 9)<|oF 29 27 (.bin .eql 28 z0)<|o1 30 (.pick 27 (.const (.bool true)) 29) .done) (.cond 30 (sR (o1 10 (.mv nS)<|o1 11 (.mv z0) .done) .ret) .skip)) (.seq (.reg true (pl 32 5<|pm 33 1<|pm 35 1<|pm 37 2<|pm 38 3<|p1 39 (.mkf (.func a2) [] [5,13,9])<|oc 34 a3 [33]<|oc 36 a1 [35]<|oc 40 a4 [32,34,36,37,38,39]<|pm 31 40<|p1 41 (.ext 31 0)<|p1 42 (.ext 31 1)<|pm 14 41<|pm 15 42 .done)) (.seq (sR (om 43 15<|ob 44 .neq 43 z0 .done) (.cond 44 (sR (om 45 15<|o1 10 (.mv nS)<|om 11 45 .done) .ret) .skip)) (sR (ol 46 13<|om 10 46<|o1 11 (.mv z0) .done) .ret))))))))⟩
set_option maxRecDepth 4000 in
set_option maxHeartbeats 1000000 in
def Yz{P f f4 f5}(hd:dec P f=some (SX f1 f2 f3 f4 f5))(h1:KY P f1)(h2:Gw P f2)(h3:NN P f3)(h4:IL P f4)(h5:Rt P f5):Jd P f:=by
 intro d t dv pv fv tv L bt Tt most fr to hp ho hr hh hc hf ht hlen;obtain⟨bp,rfl⟩:=hp.ptr;obtain⟨fa,fc,rfl⟩:=RSl.val hf;obtain⟨ta,tc0,rfl⟩:=RSl.val ht;refine Bj hd ?_;apply Aw;apply Av;refine Fv Z (fun b5 T5=>?_);refine HZ (fun d1 hl1 hg1=>?_);replace hg1:=(Nf hg1).at (i:=0) Z;refine Fv Z (fun b9 T9=>?_);refine HZ (fun d2 hl2 hg2=>?_);replace hg2:=(Nf hg2).at (i:=0) Z;have hg1:=hg1.mono hl2;have hp2:=hp.mono (hl1.trans hl2);have hf2:RSl 1 Ax d2 (.slice fa fr.length fc) fr:=RSl.mono (R:=Ax) AF hf (hl1.trans hl2);have ht2:RSl 1 Ax d2 (.slice ta to.length tc0) to:=RSl.mono (R:=Ax) AF ht (hl1.trans hl2);refine Ae Z<|AR Z<|Ah Z (BR (by assumption))<|Ag Z<|A0 [] (h1 hp2 ho hr (by omega) hc) Z Z (fun v d3 L3 hl3 ⟨_,e1,e2⟩=>?_);subst e1;subst e2;have hp3:=hp2.mono hl3;have hg3:=hg1.mono hl3;have hg4:=hg2.mono hl3;by_cases hm:most<0
 ·have hF:Fm t most fr to=([],2):=by unfold Fm;rw[if_pos hm]
  have hT:F3 t most fr to=t.s.tc:=by unfold F3;rw[if_pos (.inl hm)]
  rw[hF];refine A7 Z<|Ab Z<|AJ Z Z<|AT Z<|AZ<|Ah Z (BR (by assumption))<|Au Z Z<|A5 Z<|Br Z<|AS Z<|A6 [nV,vZ 2] ⟨Af Z,Af Z,trivial⟩ (d':=d3) (L':=tbD bt Tt (pZ bp) t::L) (Vs.refl _ _) ⟨(hl1.trans hl2).trans hl3,_,L,t.s.tc,Z,RSl.nil,Z,hp3,fun q=>absurd (show(2:Int)=0 from q) (by decide)⟩
 by_cases hz:t.height=0
 ·have hF:Fm t most fr to=([],0):=by unfold Fm;rw[if_neg hm,if_pos (.inl hz)]
  have hT:F3 t most fr to=t.s.tc:=by unfold F3;rw[if_pos (.inr (.inl hz))]
  rw[hF,hT];(refine A7 Z<|Ab Z<|AJ Z Z<|AT Z<|AZ<|Ah Z (BR (by assumption))<|Au Z Z<|AT Z<|Ak<|DD (fun _ _=>BG<|Ag Z ?_));rename_i b13 T13;refine B9 [_] (h2 (L:=L) (t:=t)) Z Z ?_;rewrite [hz];refine AI Z Z<|Ad Z<|Bx Z<|AQ Z Z<|As Z Z<|B7 Z<|Br Z<|AS Z<|A6 [nV,vZ 0] ⟨Af Z,Af Z,trivial⟩ (d':=d3) (L':=tbD bt Tt (pZ bp) t::L) (Vs.drop (.cons _ (Afa _))) ⟨(hl1.trans hl2).trans hl3,_,L,t.s.tc,Z,RSl.nil,Z,hp3,fun _=>Z⟩
 by_cases hm0:most=0
 ·have hF:Fm t most fr to=([],0):=by unfold Fm;rw[if_neg hm,if_pos (.inr hm0)]
  have hT:F3 t most fr to=t.s.tc:=by unfold F3;rw[if_pos (.inr (.inr hm0))]
  rw[hF,hT];(refine A7 Z<|Ab Z<|AJ Z Z<|AT Z<|AZ<|Ah Z (BR (by assumption))<|Au Z Z<|AT Z<|Ak<|DD (fun _ _=>BG<|Ag Z ?_));rename_i b13 T13;refine B9 [_] (h2 (L:=L) (t:=t)) Z Z<|AI Z Z<|Ad Z<|Bs Z<|Ac Z<|Ah Z (BR (by assumption))<|Ac Z<|AI Z Z<|Aj Z Z<|A5 Z<|Br Z<|AS Z<|A6 [nV,vZ 0] ⟨Af Z,Af Z,trivial⟩ (d':=d3) (L':=tbD bt Tt (pZ bp) t::L) (Vs.drop (.cons _ (Afa _))) ⟨(hl1.trans hl2).trans hl3,_,L,t.s.tc,Z,RSl.nil,Z,hp3,fun _=>Z⟩
 obtain⟨x,hx⟩:∃x,t.height=x+1:=⟨t.height - 1,by omega⟩
 obtain⟨W,hW⟩:∃W,C4 t.s most fr to (x+1) t.root [] t.s.tc=W:=⟨_,Z⟩
 have hF:Fm t most fr to=if W.e≠0 then([],W.e) else(W.out,0):=by unfold Fm;rw[if_neg hm,if_neg (by omega),hx,hW]
 have hT:F3 t most fr to=W.tc:=by unfold F3;rw[if_neg (by omega),hx,hW]
 replace hlen:=hlen (by omega);rw[hx,hW] at hlen;rw[hF,hT];clear hF hT;(refine A7 Z<|Ab Z<|AJ Z Z<|AT Z<|AZ<|Ah Z (BR (by assumption))<|Au Z Z<|AT Z<|Ak<|DD (fun _ _=>BG<|Ag Z ?_));rename_i b13 T13;refine B9 [_] (h2 (L:=L) (t:=t)) Z Z<|AI Z Z<|Ad Z<|Bs Z<|Ac Z<|Ah Z (BR (by assumption))<|Ac Z<|AI Z Z<|Aj Z Z<|AT Z<|Aw<|LM [] (tbD bt Tt (pZ bp) t::bx b13 T13 [nV]::emp::L) ((Vs.perm (Afx _ _ _)).trans ((Vs.emp (d:=d3)).trans (Vs.perm ((Afx _ _ _).trans (Afm _ (Afx _ _ _))))))<|Ah Z (BR (by assumption))<|Ag Z<|Ag Z<|Ae Z<|Ae Z<|ND<|B9 [] (h4 (t:=t) (L:=bx b13 T13 [nV]::emp::L)) Z Z ?_;skip;refine B9 [] (h2 (t:=t) (L:=bx b13 T13 [nV]::emp::L)) Z Z ?_;rewrite [hx];have hf3:RSl 1 Ax d3 (.slice fa fr.length fc) fr:=RSl.mono (R:=Ax) AF hf2 hl3;have ht3:RSl 1 Ax d3 (.slice ta to.length tc0) to:=RSl.mono (R:=Ax) AF ht2 hl3;refine A0 [_] (h5 h3 x (n:=t.s.tc) (s:=t.s) hp3 hf3 ht3 hg3 hg4 Ai.nil (by rw[hW];exact hlen) (by omega)) Z Z (fun v d4 L4 hl4 ⟨_,ov',ro',L5,tc,e1,e2,ho4,hp4,htc⟩=>?_);subst e1;subst e2;rw[hW] at ho4 htc⊢;obtain⟨oa,oc,rfl⟩:=ho4.val;by_cases he:W.e=0
 ·rw[if_neg (fun q=>q he)];have htc2:=htc he;refine AO Z<|AW Z Z Z Z<|Ad Z<|AR Z<|Ab Z<|AJ Z Z<|AT Z<|Ak<|Ah Z (AG 1 Z Z)<|Ae Z<|AS Z<|A6 [.slice oa W.out.length oc,vZ 0] ⟨Af Z,Af Z,trivial⟩ (d':=join d4 ro') (L':=tbD bt Tt (pZ bp) t::L5) ((Vs.drop (.cons_cons _ (.cons _ (Afa _)))).trans ((Vs.perm (Afx _ _ _)).trans Vs.freeze))
   ⟨(((hl1.trans hl2).trans hl3).trans hl4).trans (Le.Ar _ _),_,L5,tc,Z,Ai.rsl (R:=RBp) (sz:=2) ho4 Em (by omega) (Le.Ar _ _) (Le.Bc _ _),Z,hp4.mono (Le.Ar _ _),fun _=>htc2⟩
 ·rw[if_pos he];refine AO Z<|AW Z Z Z Z<|Ad Z<|AR Z<|Ab Z<|AJ Z Z<|A5 Z<|AE Z<|Ae Z<|AS Z<|A6 [nV,vZ W.e] ⟨Af Z,Af Z,trivial⟩ (d':=d4) (L':=tbD bt Tt (pZ bp) t::L5) (Vs.drop (.cons_cons _ (.cons _ (.cons _ (Afa _))))) ⟨((hl1.trans hl2).trans hl3).trans hl4,_,L5,tc,Z,RSl.nil,Z,hp4,fun q=>absurd q he⟩
end Go.Gk.Tre
end
section
namespace Go.Gk.Chn
open Go Go.Gk Go.Gk.Dev Go.Gk.Cch Go.Gk.Pgr Go.Gk.Node
variable{w:Value}
section
section
variable {P:Program}{pan:List PanicEntry→AP}{Qn:Env→AP}{Ls L:List Aa}{ρ:Env}{d:Aa}{s:GS}{t:Nat}{tk:Bool}
def Cov(e d:Aa)(B:List Aa):Prop:=∀x o,e x o→d x o∨∃g∈B,g x o
def AdA{e d B Lk}{b o:Nat}{v}(hc:DC e b o v)(h:Cov e d B)(hm:∀g∈B,g∈Lk):HC d Lk ⟨b,o,none⟩ v:=by
 obtain⟨c,T,fr,h1,h2⟩:=hc;rcases h _ _ h1 with h1|⟨g,hg,h1⟩
 ·exact⟨Z,d,.inl Z,c,T,fr,h1,h2⟩
 ·exact⟨Z,g,.inr (hm g hg),c,T,fr,h1,h2⟩
def Cov.mono{e d d' B}(h:Cov e d B)(hl:Le d d'):Cov e d' B:=fun x o q=>(h x o q).elim (fun q=>.inl (hl x o q)) .inr
def RB(d:Aa)(B:List Aa)(w:Value)(b:List UInt8):Prop:=∃e,Cov e d B∧Ay e w b
def RB.mono{d d' B b}(h:RB d B w b)(hl:Le d d'):RB d' B w b:=let ⟨e,h1,h2⟩:=h;⟨e,h1.mono hl,h2⟩
def RB.data{d b}(h:Ay d w b):RB d [] w b:=⟨d,fun _ _ q=>.inl q,h⟩
def RB.own{d g b}(h:Ai 1 Ax d w b g):RB d [g] w b:=
 ⟨join d g,fun _ _ q=>q.elim .inl (fun q=>.inr ⟨g,Afn ..,q⟩),Ai.rsl (R:=Ax) (sz:=1) h AF (by omega) (Le.Ar _ _) (Le.Bc _ _)⟩
def RB.val{d B b}(h:RB d B w b):∃a c,w=.slice a b.length c:=let ⟨_,_,h⟩:=h;RSl.val h
def Y7{e d B Lk a}{c:Nat}{l}(h:Cov e d B)(hm:∀g∈B,g∈Lk)(hw:Ay e (.slice a l.length c) l):(a=none→l=[])∧∀a',a=some a'→∀j u,(l.map Al)[j]?=some u→HC d Lk (a'.add j) u:=by
 obtain⟨a0,c',b',o',q,h2,h3,h4,h5,h6,h7,h8⟩:=hw;cases q;refine⟨fun e=>Afl (by have:=h4 e;omega),fun a' ha j u hu=>?_⟩
 rw[Ahs] at hu;cases q:l[j]? with
 |none=>rw[q] at hu;cases hu
 |some y=>
  rw[q] at hu
  cases hu
  obtain⟨hj,rfl⟩:=List.getElem?_eq_some_iff.1 q
  obtain⟨cs,j1,j2,j3⟩:=h8 j hj
  obtain rfl:=j3
  have ha2:=h2 (by omega)
  rw[ha] at ha2
  cases ha2
  have h9:=j2.at (i:=0) Z
  have h0:HC d Lk ⟨b',o'+j,none⟩ (Al l[j]):=AdA (by simpa using h9) h hm
  have ea:(⟨b',o',none⟩:Addr).add j=⟨b',o'+j,none⟩:=by
   unfold Addr.add;simp
  rw[ea];exact h0
def RB.src{d B Lk l}(h:RB d B w l)(hm:∀g∈B,g∈Lk):Src 1 Ax d Lk w l:=by
 obtain⟨a,c,rfl⟩:=h.val;obtain⟨e,h1,h2⟩:=h;obtain⟨k1,k2⟩:=Y7 h1 hm h2;refine⟨l.map Al,⟨a,c,Z,by simp,fun e=>by rw[k1 e];rfl,k2⟩,CZ _,fun i hi=>?_⟩
 simp only[Ax,chunk,Aho,←List.map_drop,←List.map_take];rw[Afy hi];rfl
def Zb{x y}{b o n c i:Nat}{T ls l}{t:Option Nat}{e B}(ex:ev ρ x=.slice (some ⟨b,o,none⟩) n c)(ey:ev ρ y=w)(hc:Cov e d B)(hw:Ay e w l)(hg:∀g∈B,g∈L)(hi:L[i]?=some (bx b T ls))(hn:o+n≤ls.length)
  (h:gws P pan Qn s Ls (put ρ t (vZ ((min l.length n:Nat):Int))) d (L.set i (bx b T (patch ls o ((l.take n).map Al))))):gws P pan Qn (.op false ⟨t,none,.mop (.cpy 1 x y)⟩ s) Ls ρ d L:=by
 obtain⟨a,c',rfl⟩:=RSl.val hw
 obtain⟨k1,k2⟩:=Y7 (Lk:=Ls++L++L) hc (fun g q=>Agc _ (hg g q)) hw
 refine⟨d,L,Vs.refl d L,?_⟩
 simp only[gop,gi,mi]
 refine⟨_,n,c,a,l.length,c',(l.take n).map Al,ex,ey,by simp[Nat.min_comm],CZ _,fun e=>by rw[k1 e];simp,fun a' ha j u hu=>k2 a' ha j u ?_,.inr ⟨i,b,o,T,ls,Z,hi,by simp;omega,d,_,Vs.refl d _,h⟩⟩
 rw[Ahs,List.getElem?_take] at hu
 rw[Ahs]
 split at hu
 ·exact hu
 ·cases hu
def RN{α}{sz n:Nat}{R}{xs:List α}{x y v kk d2}{j:Int}(ex:ev ρ x=v)(hr:RSl sz R d2 v xs)(ey:ev ρ y=.int kk j)(hj:j=(n:Int))(hn:n≤xs.length)(k:∀v',RSl sz R d2 v' (xs.drop n)→gws P pan Qn s Ls (upd ρ t v') d L):
  gws P pan Qn (.op tk ⟨some t,none,.sl sz x (some y) none none⟩ s) Ls ρ d L:=by
 subst hj
 have hr':=hr
 obtain⟨a,c,b,o,rfl,h2,h3,h4,h5,h6,h7,h8⟩:=hr
 have hc:EA xs.length c (some (ev ρ y)) none none=some (n,xs.length,c):=by
  simp only[EA,HH,HB,HM,Option.isSome_none,Afh,if_false,Option.bind_some,ey,bnd];rw[if_pos (by omega)];simp
 refine w_q Z ⟨a,xs.length,c,n,xs.length,c,ex,fun(h0:c≠n)=>h3 (by omega),hc,Z⟩ (k _ ?_)
 have:=hr'.cut (l:=n) (h:=xs.length) (m:=c) (by omega) (by omega) (Afe c) (Afe _)
 rwa [List.take_of_length_le (by simp)] at this
end
attribute [local irreducible] gwp gws xwp
def NT(P:Program)(f:FuncId):Prop:=∀{d s dv pv bv L b B},Pg d s dv pv L→RB d B bv b→b.length≤16384→
 Ao P f [pv,bv] d (B++L) (Ret fun r d' L'=>Le d d'∧r=.tuple #[vZ (B0 s b).2.1,vZ (B0 s b).2.2]∧∃L2,L'=B++L2∧Pg d' (B0 s b).1 dv pv L2)
set_option maxRecDepth 4000 in
set_option maxHeartbeats 1000000 in
def Aba{P f f1 f2 f3}(hd:dec P f=some (Om f1 f2 f3))(h1:F9 P f1)(h2:NO P f2)(h3:Lo P f3):NT P f:=by
 intro d s dv pv bv L b B hp hb hbl;obtain⟨va,vc,rfl⟩:=hb.val;obtain⟨eh,hcv,hb⟩:=hb;obtain⟨bp,rfl⟩:=hp.ptr;have hpn:1≤AN b.length∧AN b.length≤8192:=by unfold AN;omega
 refine Bj hd<|AE Z<|AR Z<|Ae Z<|AA Z<|Bu Z Z<|AT Z<|A3 Z<|Ae Z<|AA Z<|Bz Z (h1 (n:=b.length) (by omega)) (fun u d1 L1 _ ⟨e1,e2,e3⟩=>?_);subst e1;subst e2;subst e3;rw[Agh];refine A0 B (h2 hp hpn.2) Z Z (fun u d2 L2 hl2 ⟨_,v,e1,hv,hp2⟩=>?_);subst e1;by_cases hz:(BF s (AN b.length)).2.2=0
 ·have hF:B0 s b=(Dh (BF s (AN b.length)).1 (BF s (AN b.length)).2.1 b (BF s (AN b.length)).2.1.length,(BF s (AN b.length)).2.1.getD 0 0,0):=by unfold B0;simp only[hz,if_true]
  rw[hF,hz];have hlen:=RW hz;generalize (BF s (AN b.length)).2.1=l at hv hlen;generalize (BF s (AN b.length)).1=t at hp2;have hll:=hv.BW;refine AO Z<|AW Z Z Z Z<|AK<|AR Z<|Ab Z<|AJ Z Z<|AT Z<|AZ<|AK<|BX Z (by assumption)<|AU Z<|Aq<|Cs (α:=Nat) (fun i=>[(0,pZ bp),(1,.slice va b.length vc),(6,v),(26,v),(27,vZ l.length),(28,vZ i)])
   (fun i d' L'=>Le d2 d'∧i≤l.length∧∃L3,L'=B++L3∧Pg d' (Dh t l b i) dv (pZ bp) L3) (fun i=>l.length - i) 0 ⟨Z,Z,Z,Z,Z,Z,trivial⟩ ⟨Le.refl _,Agd _,L2,Z,hp2⟩ ?_
  rintro i ρ d' L' ⟨hle,hi,L3,rfl,hp'⟩;have hv':=RSl.mono (R:=Bh) Ck hv hle;have hcv':=hcv.mono (hl2.trans hle);by_cases e:i<l.length
  ·have him:i*254≤b.length:=Mi (by omega);by_cases en:i+1<l.length
   ·have hput:Dh t l b (i+1)=((Dh t l b i).put l[i] (Dw l[i+1] (BV b i))).1:=by
     rw[Dh,show l.getD i 0=l[i] by rw[Afd,Afc e];rfl,show l.getD (i+1) 65535=l[i+1] by rw[Afd,Afc en];rfl]
    (refine Ak<|Au Z Z<|By<|B2 Z<|AH<|Aw<|Aq<|AE Z<|Bq (sz:=1) (R:=Bh) (by rfl) (by assumption) (by rfl) Z (by omega) ?_;rintro _ _ _ _ _ ⟨rfl,_,_⟩;refine Ah Z (BO (by assumption) Z)<|Ab Z<|A7 Z<|AR Z<|Ab Z<|A4 Z Z<|AK<|BX Z (by assumption)<|Au Z Z<|A5 Z<|Av<|AK<|Ab Z<|A4 Z Z<|Bq (sz:=1) (R:=Bh) (by rfl) (by assumption) (by rfl) Z (by omega) ?_;rintro _ _ _ _ _ ⟨rfl,_,_⟩;refine Ah Z (BO (by assumption) Z)<|A7 Z<|B8 (fun _ _=>Bo<|Ab Z<|GR Z Z (by decide)<|Dt Z<|Ab Z<|Dt Z ?_));rename_i b11 T11;refine H5 0 Z Z Z (by omega)<|Bb 0 (patch Ct 0 [Al (UInt8.ofNat (l[i+1] / 256 % 256).toNat)]) Z Z Z Z (by rw[C6];decide) Z Z ?_;have hl1:(patch Ct 0 [Al (UInt8.ofNat (l[i+1] / 256 % 256).toNat)]).length=256:=by rw[BC (by rw[C6];simp)];exact C6
    refine H5 1 Z Z Z (by omega)<|Bb 0 (patch (patch Ct 0 [Al (UInt8.ofNat (l[i+1] / 256 % 256).toNat)]) 1 [Al (UInt8.ofNat (l[i+1] % 256).toNat)]) Z Z Z Z (by rw[hl1];decide) Z Z ?_;have hl2':(patch (patch Ct 0 [Al (UInt8.ofNat (l[i+1] / 256 % 256).toNat)]) 1 [Al (UInt8.ofNat (l[i+1] % 256).toNat)]).length=256:=by rw[BC (by rw[hl1];simp)];exact hl1
    refine By<|BE [] (bx b11 T11 (patch (patch Ct 0 [Al (UInt8.ofNat (l[i+1] / 256 % 256).toNat)]) 1 [Al (UInt8.ofNat (l[i+1] % 256).toNat)])::(B++L3)) Z<|JP 2 Z Z (by omega)<|Ae Z<|Ab Z<|JW Z Z (by omega) (by omega)<|RN (R:=Ax) (sz:=1) (n:=i*254) Z hb Z (by omega) him (fun w hw=>?_);refine Zb (i:=0) Z Z hcv' hw (fun g q=>Afr _ (Aga _ q)) Z (by rw[hl2'];omega) ?_;have hpp:=Ir (UInt8.ofNat (l[i+1] / 256 % 256).toNat) (UInt8.ofNat (l[i+1] % 256).toNat) (c:=BV b i) (by unfold BV;rw[Aft];omega);refine An<|Av<|Ag Z<|Ab Z<|K3 Z (by omega) ?_;have hpl:(Dw l[i+1] (BV b i)).length=256:=by
     have:(BV b i).length≤254:=by unfold BV;rw[Aft];omega
     unfold Dw;simp only[Afq,Afk,Agk];omega
    refine B1 (join d' (bx b11 T11 (patch (patch (patch Ct 0 [Al (UInt8.ofNat (l[i+1] / 256 % 256).toNat)]) 1 [Al (UInt8.ofNat (l[i+1] % 256).toNat)]) 2 ((BV b i).map Al)))) (B++L3) Vs.freeze ?_;have hlj:Le d' (join d' (bx b11 T11 (patch (patch (patch Ct 0 [Al (UInt8.ofNat (l[i+1] / 256 % 256).toNat)]) 1 [Al (UInt8.ofNat (l[i+1] % 256).toNat)]) 2 ((BV b i).map Al)))):=Le.Ar _ _;have hB:Ay (join d' (bx b11 T11 (patch (patch (patch Ct 0 [Al (UInt8.ofNat (l[i+1] / 256 % 256).toNat)]) 1 [Al (UInt8.ofNat (l[i+1] % 256).toNat)]) 2 ((BV b i).map Al)))) (.slice (some ⟨b11,0,none⟩) 256 256) (Dw l[i+1] (BV b i)):=
     Ai.rsl (R:=Ax) (sz:=1) (Ai.QE (d:=d') hpp hpl.symm (Ahq (Nat.le_of_eq hpl) (by decide))) AF (by omega) (Le.Ar _ _) (Le.Bc _ _)
    refine A0 B (h3 (k:=l[i]) (hp'.mono hlj) hB) Z Z (fun u d5 L5 hl5 ⟨q1,hp5⟩=>?_);(refine An<|Av<|A4 Z Z<|AU Z ?_);exact⟨i+1,by omega,⟨Z,Z,Z,Z,Z,Z,trivial⟩,(hle.trans hlj).trans hl5,e,L5,Z,by rw[hput];exact hp5⟩
   ·have hput:Dh t l b (i+1)=((Dh t l b i).put l[i] (Dw (65535:Int) (BV b i))).1:=by
     rw[Dh,show l.getD i 0=l[i] by rw[Afd,Afc e];rfl,show l.getD (i+1) 65535=(65535:Int) by rw[Afd,List.getElem?_eq_none (by omega)];rfl]
    (refine Ak<|Au Z Z<|By<|B2 Z<|AH<|Aw<|Aq<|AE Z<|Bq (sz:=1) (R:=Bh) (by rfl) (by assumption) (by rfl) Z (by omega) ?_;rintro _ _ _ _ _ ⟨rfl,_,_⟩;refine Ah Z (BO (by assumption) Z)<|Ab Z<|A7 Z<|AR Z<|Ab Z<|A4 Z Z<|AK<|BX Z (by assumption)<|Au Z Z<|AT Z<|Ak<|B8 (fun _ _=>Bo<|Ab Z<|GR Z Z (by decide)<|Dt Z<|Ab Z<|Dt Z ?_));rename_i b11 T11;refine H5 0 Z Z Z (by omega)<|Bb 0 (patch Ct 0 [Al (UInt8.ofNat ((65535:Int) / 256 % 256).toNat)]) Z Z Z Z (by rw[C6];decide) Z Z ?_;have hl1:(patch Ct 0 [Al (UInt8.ofNat ((65535:Int) / 256 % 256).toNat)]).length=256:=by rw[BC (by rw[C6];simp)];exact C6
    refine H5 1 Z Z Z (by omega)<|Bb 0 (patch (patch Ct 0 [Al (UInt8.ofNat ((65535:Int) / 256 % 256).toNat)]) 1 [Al (UInt8.ofNat ((65535:Int) % 256).toNat)]) Z Z Z Z (by rw[hl1];decide) Z Z ?_;have hl2':(patch (patch Ct 0 [Al (UInt8.ofNat ((65535:Int) / 256 % 256).toNat)]) 1 [Al (UInt8.ofNat ((65535:Int) % 256).toNat)]).length=256:=by rw[BC (by rw[hl1];simp)];exact hl1
    refine By<|BE [] (bx b11 T11 (patch (patch Ct 0 [Al (UInt8.ofNat ((65535:Int) / 256 % 256).toNat)]) 1 [Al (UInt8.ofNat ((65535:Int) % 256).toNat)])::(B++L3)) Z<|JP 2 Z Z (by omega)<|Ae Z<|Ab Z<|JW Z Z (by omega) (by omega)<|RN (R:=Ax) (sz:=1) (n:=i*254) Z hb Z (by omega) him (fun w hw=>?_);refine Zb (i:=0) Z Z hcv' hw (fun g q=>Afr _ (Aga _ q)) Z (by rw[hl2'];omega) ?_;have hpp:=Ir (UInt8.ofNat ((65535:Int) / 256 % 256).toNat) (UInt8.ofNat ((65535:Int) % 256).toNat) (c:=BV b i) (by unfold BV;rw[Aft];omega);refine An<|Av<|Ag Z<|Ab Z<|K3 Z (by omega) ?_;have hpl:(Dw (65535:Int) (BV b i)).length=256:=by
     have:(BV b i).length≤254:=by unfold BV;rw[Aft];omega
     unfold Dw;simp only[Afq,Afk,Agk];omega
    refine B1 (join d' (bx b11 T11 (patch (patch (patch Ct 0 [Al (UInt8.ofNat ((65535:Int) / 256 % 256).toNat)]) 1 [Al (UInt8.ofNat ((65535:Int) % 256).toNat)]) 2 ((BV b i).map Al)))) (B++L3) Vs.freeze ?_;have hlj:Le d' (join d' (bx b11 T11 (patch (patch (patch Ct 0 [Al (UInt8.ofNat ((65535:Int) / 256 % 256).toNat)]) 1 [Al (UInt8.ofNat ((65535:Int) % 256).toNat)]) 2 ((BV b i).map Al)))):=Le.Ar _ _;have hB:Ay (join d' (bx b11 T11 (patch (patch (patch Ct 0 [Al (UInt8.ofNat ((65535:Int) / 256 % 256).toNat)]) 1 [Al (UInt8.ofNat ((65535:Int) % 256).toNat)]) 2 ((BV b i).map Al)))) (.slice (some ⟨b11,0,none⟩) 256 256) (Dw (65535:Int) (BV b i)):=
     Ai.rsl (R:=Ax) (sz:=1) (Ai.QE (d:=d') hpp hpl.symm (Ahq (Nat.le_of_eq hpl) (by decide))) AF (by omega) (Le.Ar _ _) (Le.Bc _ _)
    refine A0 B (h3 (k:=l[i]) (hp'.mono hlj) hB) Z Z (fun u d5 L5 hl5 ⟨q1,hp5⟩=>?_);(refine An<|Av<|A4 Z Z<|AU Z ?_);exact⟨i+1,by omega,⟨Z,Z,Z,Z,Z,Z,trivial⟩,(hle.trans hlj).trans hl5,e,L5,Z,by rw[hput];exact hp5⟩
  ·have:i=l.length:=by omega
   subst this;have h0:0<l.length:=by omega
   have hg0:l.getD 0 0=l[0]:=by rw[Afd,Afc h0];rfl
   rw[hg0];(refine Ak<|Au Z Z<|By<|BM Z<|Bl<|Ak<|AK<|Bq (sz:=1) (R:=Bh) (by rfl) (by assumption) (by rfl) Z (by omega) ?_;rintro _ _ _ _ _ ⟨rfl,_,_⟩;refine Ah Z (BO (by assumption) Z)<|Ab Z<|AS Z ?_);exact CJ Z Z (Afa _) ⟨hl2.trans hle,Z,L3,Z,hp'⟩
 ·have hF:B0 s b=((BF s (AN b.length)).1,0,(BF s (AN b.length)).2.2):=by unfold B0;simp only[hz,if_false]
  rw[hF];refine AO Z<|AW Z Z Z Z<|AK<|AR Z<|Ab Z<|AJ Z Z<|A5 Z<|AE Z<|Ab Z<|AS Z<|CJ Z Z (Afa _) ⟨hl2,Z,L2,Z,hp2⟩
end
end Go.Gk.Chn
end
section
namespace Go.Gk.Tre
open Go Go.Gk Go.Gk.Dev Go.Gk.Cch Go.Gk.Pgr Go.Gk.Chn Go.Gk.Node
attribute [local irreducible] gwp gws xwp
variable{P:Program}{f:FuncId}{d:Aa}{dv pv:Value}{t:TD}{bt:Nat}
def AdM(h:NT P f){s w L b B}(hp:PgT d s dv pv L)(hb:RB d B w b)(hl:b.length≤16384):
  Ao P f [pv,w] d (B++L) (Ret fun r d' L'=>Le d d'∧r=.tuple #[vZ (B0 s b).2.1,vZ (B0 s b).2.2]∧∃L2,L'=B++L2∧PgT d' (B0 s b).1 dv pv L2):=by
 obtain⟨n,hp⟩:=hp
 refine Ao.Eb (h hp hb hl) (fun r d' L' _ ⟨h0,h1,L2,h2,h3⟩=>⟨d',L',Vs.refl _ _,h0,?_,L2,h2,n,?_⟩)
 ·rw[h1];rw[show B0 (wtc s n) b=(wtc (B0 s b).1 n,(B0 s b).2) from Pu]
 ·rw[show B0 (wtc s n) b=(wtc (B0 s b).1 n,(B0 s b).2) from Pu] at h3
  exact h3
def LJ(P:Program)(f:FuncId):Prop:=∀{d s dv pv w L}{bt:Nat}{Tt}{r h c:Int}{b B},PgT d s dv pv L→RB d B w b→b.length≤16384→
 Ao P f [pZ bt,w] d (tb bt Tt pv r h c::(B++L)) (Ret fun v d' L'=>Le d d'∧∃u L2,v=.tuple #[u,vZ (Cb s b).2.2]∧L'=tb bt Tt pv r h c::(B++L2)∧Ay d' u (Cb s b).2.1∧PgT d' (Cb s b).1 dv pv L2)
set_option maxRecDepth 4000 in
def Ye{f1}(hd:dec P f=some (Pl f1))(h1:NT P f1):LJ P f:=by
 intro d s dv pv w L bt Tt r h c b B hp hw hbl;obtain⟨bp,rfl⟩:=hp.ptr;obtain⟨wa,wc,rfl⟩:=hw.val;refine Bj hd ?_;by_cases h15:b.length≤15
 ·have hF:Cb s b=(s,0::b,0):=by unfold Cb;rw[if_pos h15]
  rw[hF];refine Br Z<|AR Z<|Ae Z<|AA Z<|G3 Z Z<|A5 Z<|Ak<|DN (v0:=.int .u8 0) Z Z (fun b3 T3=>?_);(apply Ae;rfl);refine I1 (R:=Ax) (sz:=1) (xs:=[0]) AF Z (Ai.EL (x:=(0:UInt8)) Z Z) Z (hw.src (fun g q=>by simp[q])) (by omega) (by simp;omega) (by simp;omega) (fun a c' d' hl hu=>?_);refine Ae Z<|AS Z<|CJ Z Z (Afa _) ⟨hl,_,L,Z,Z,hu,hp.mono hl⟩
 ·have hF:Cb s b=((B0 s b).1,Ge (B0 s b).2.1 b.length,(B0 s b).2.2):=by unfold Cb;rw[if_neg h15]
  rw[hF];refine Br Z<|AR Z<|Ae Z<|AA Z<|G3 Z Z<|AT Z<|A3 Z<|Ap Z<|Az Z Z Z<|Ae Z<|A0 [_] (AdM h1 hp hw hbl) Z Z (fun v d2 L2' hl ⟨_,e1,L2,e2,hp2⟩=>?_);subst e1;subst e2;have hrg:=S4 (b:=b) hp.Fc;refine AO Z<|AW Z Z Z Z<|Ab Z<|A7 Z<|Ae Z<|AA Z<|A7 Z<|Ab Z<|GR Z Z (by decide)<|Dt Z<|Ab Z<|Dt Z<|Ab Z<|Qr 24 ((b.length:Int) / 16777216) Z Z (by omega) (by omega) Z<|Dt Z<|Ab Z<|Qr 16 ((b.length:Int) / 65536) Z Z (by omega) (by omega) Z<|Dt Z<|Ab Z<|GR Z Z (by decide)<|Dt Z<|Ab Z<|Dt Z<|Zr (a0:=1) (a1:=bI ((B0 s b).2.1 / 256)) (a2:=bI (B0 s b).2.1) (a3:=bI ((b.length:Int) / 16777216)) (a4:=bI ((b.length:Int) / 65536)) (a5:=bI ((b.length:Int) / 256)) (a6:=bI b.length) Z Z Z Z Z Z Z (fun b9 T9=>?_);refine Ab Z<|Ae Z<|AS Z<|A6 [.slice (some ⟨b9,0,none⟩) 7 7,vZ (B0 s b).2.2] ⟨Af Z,Af Z,trivial⟩ (d':=join d2 (bx b9 T9 ((Ge (B0 s b).2.1 b.length).map Al))) (L':=tb bt Tt (pZ bp) r h c::(B++L2)) Vs.freeze
   ⟨hl.trans (Le.Ar _ _),_,L2,Z,Z,Ai.rsl (R:=Ax) (sz:=1) (d:=d2) (Ai.QE Z Z (by simp[Ge])) AF (by omega) (Le.Ar _ _) (Le.Bc _ _),hp2.mono (Le.Ar _ _)⟩
section
def PgG(B:List Aa)(d:Aa)(s:PD)(dv pv:Value)(M:List Aa):Prop:=∃L,M.Perm (B++L)∧PgT d s dv pv L
section
variable {P:Program}{f:FuncId}{B:List Aa}{d:Aa}{s:PD}{dv pv:Value}{M:List Aa}{bt:Nat}{Tt:TypeId}
def PgG.mono{d'}(h:PgG B d s dv pv M)(hl:Le d d'):PgG B d' s dv pv M:=let ⟨L,p,h⟩:=h;⟨L,p,h.mono hl⟩
def PgG.ptr(h:PgG B d s dv pv M):∃b,pv=pZ b:=let ⟨_,_,h⟩:=h;h.ptr
def PgG.Fc(h:PgG B d s dv pv M):Pgr.Good s:=let ⟨_,_,h⟩:=h;h.Fc
def WD{A L args R R'}(p:M.Perm (B++L))(h:Ao P f args d (A::L) (Ret R))(hR:∀v d' A',Le d d'→R v d' A'→∃L',(A'++B).Perm L'∧R' v d' L'):Ao P f args d (A::M) (Ret R'):=
 Ao.pre (Afm A (p.trans Afi)) (Ao.Y2 h hR)
def OV{L2}(h:PgT d s dv pv L2):PgG B d s dv pv (L2++B):=⟨L2,Afi,h⟩
def Aee(h:IH P f){r h' c k:Int}{cs}{n:AB}(hp:PgG B d s dv pv M)(hn:Cz d cs n)(hz:Bf n≤1000000000000):
  Ao P f [pZ bt,vZ k,.agg cs.toArray] d (tb bt Tt pv r h' c::M) (Ret fun v d' L'=>Le d d'∧v=.tuple #[vZ (Bg s k n).2.1,vZ (Bg s k n).2.2]∧∃L2,L'=tb bt Tt pv r h' c::L2∧PgG B d' (Bg s k n).1 dv pv L2):=by
 obtain⟨L,p,hp⟩:=hp
 exact WD p (h (Tt:=Tt) hp hn hz) (fun v d' A' _ ⟨h1,h2,L2,h3,h4⟩=>⟨tb bt Tt pv r h' c::(L2++B),by rw[h3];exact Agq _,h1,h2,_,Z,OV h4⟩)
def AeH(hf:PN P f)(x:Nat){w cv}{r h c k:Int}{key cell}(hx:x≤1000000)(hp:PgG B d s dv pv M)(hk:Ay d w key)(hc:Ay d cv cell)(h1:key.length≤1000)(h2:cell.length≤1000)(h3: -1≤k)(h4:k≤16384):
  Ao P f [pZ bt,vZ k,vZ ((x+1:Nat):Int),w,cv] d (tb bt Tt pv r h c::M) (Ret fun v d' L'=>Le d d'∧∃ua uc L2,v=.tuple #[mdV (Cu s k key cell (x+1)).2.1 ua uc,.bool (Cu s k key cell (x+1)).2.2.1,vZ (Cu s k key cell (x+1)).2.2.2]∧
   Ay d' (.slice ua (Cu s k key cell (x+1)).2.1.key.length uc) (Cu s k key cell (x+1)).2.1.key∧MOk (Cu s k key cell (x+1)).2.1∧L'=tb bt Tt pv r h c::L2∧PgG B d' (Cu s k key cell (x+1)).1 dv pv L2):=by
 obtain⟨L,p,hp⟩:=hp
 exact WD p (hf x (Tt:=Tt) hx hp hk hc h1 h2 h3 h4) (fun v d' A' _ ⟨h1,ua,uc,L2,h2,h3,h4,h5,h6⟩=>⟨tb bt Tt pv r h c::(L2++B),by rw[h5];exact Agq _,h1,ua,uc,_,h2,h3,h4,Z,OV h6⟩)
def Aep(h:Kq P f){m:MdD}{ua}{uc:Nat}(hp:PgG B d t.s dv pv M)(hk:Ay d (.slice ua m.key.length uc) m.key)(hm:MOk m)(hh:t.height≤1000000):
  Ao P f [pZ bt,mdV m ua uc] d (tbD bt Tt pv t::M) (Ret fun v d' L'=>Le d d'∧v=vZ (Dg t m).2∧∃L2,L'=tbD bt Tt pv (Dg t m).1::L2∧PgG B d' (Dg t m).1.s dv pv L2):=by
 obtain⟨L,p,hp⟩:=hp
 exact WD p (h (Tt:=Tt) hp hk hm hh) (fun v d' A' _ ⟨h1,h2,L2,h3,h4⟩=>⟨tbD bt Tt pv (Dg t m).1::(L2++B),by rw[h3];exact Agq _,h1,h2,_,Z,OV h4⟩)
def Aeu(h:LJ P f){w}{r h' c:Int}{b}(hp:PgG B d s dv pv M)(hw:RB d B w b)(hl:b.length≤16384):
  Ao P f [pZ bt,w] d (tb bt Tt pv r h' c::M) (Ret fun v d' L'=>Le d d'∧∃u L2,v=.tuple #[u,vZ (Cb s b).2.2]∧L'=tb bt Tt pv r h' c::L2∧Ay d' u (Cb s b).2.1∧PgG B d' (Cb s b).1 dv pv L2):=by
 obtain⟨L,p,hp⟩:=hp
 refine Ao.pre (Afm _ p) (Ao.Eb (h (Tt:=Tt) hp hw hl) (fun v d' L' _ ⟨h1,u,L2,h2,h3,h4,h5⟩=>⟨d',L',Vs.refl _ _,h1,u,_,h2,h3,h4,L2,Agq _,h5⟩))
end
def Pq(P:Program)(f:FuncId):Prop:=∀{d}{t:TD}{dv pv L}{bt b3 b4 b5:Nat}{Tt T3 T4 T5 ka va}{kc vc:Nat}{key value B},PgG B d t.s dv pv L→Ay d (.slice ka key.length kc) key→RB d B (.slice va value.length vc) value→key.length≤64→value.length≤16384→QS t→
 Ao P f [pZ b3,pZ b5,pZ b4] d (tbD bt Tt pv t::([bx b3 T3 [pZ bt],bx b5 T5 [.slice va value.length vc],bx b4 T4 [.slice ka key.length kc]]++L))
  (Ret fun v d' L'=>Le d d'∧v=vZ (Df t key value).2∧∃L2,L'=tbD bt Tt pv (Df t key value).1::([bx b3 T3 [pZ bt],bx b5 T5 [.slice va value.length vc],bx b4 T4 [.slice ka key.length kc]]++L2)∧PgG B d' (Df t key value).1.s dv pv L2)
set_option maxRecDepth 4000 in
set_option maxHeartbeats 4000000 in
def Y9{P f f1 f2 f3 f4 f5}(hd:Jj P f=some (N8 f1 f2 f3 f4 f5))(h1:LJ P f1)(h2:IH P f2)(h3:PN P f3)(h4:QH P f4)(h5:Kq P f5):Pq P f:=by
 intro d t dv pv L bt b3 b4 b5 Tt T3 T4 T5 ka va kc vc key value B hp hk hv hkl hvl hf;obtain⟨bp,rfl⟩:=hp.ptr;obtain⟨s,root,height,count⟩:=t;obtain⟨hr0,hr1,hh,hc⟩:=hf;simp only at hp hr0 hr1 hh hc;refine Bj hd ?_;apply Aw;apply Av;refine B1 d ([bx b3 T3 [pZ bt],bx b5 T5 [.slice va value.length vc],bx b4 T4 [.slice ka key.length kc]]++tbD bt Tt (pZ bp) ⟨s,root,height,count⟩::L) (Vs.perm List.perm_middle.symm)<|A7 Z<|c_l Z Z Z<|Ah Z (AG 1 Z Z)<|A0 [_,_,_] (Aeu h1 hp hv hvl) Z Z (fun v d2 L2 hl2 ⟨_,u,L3,e1,e2,hu,hp2⟩=>?_);subst e1;subst e2;have hcl:=Abe s value;have hP:Df ⟨s,root,height,count⟩ key value=if (Cb s value).2.2≠0 then(⟨(Cb s value).1,root,height,count⟩,(Cb s value).2.2) else if height=0 then(⟨(Bg (Cb s value).1 (-1) ⟨true,[key],[(Cb s value).2.1],[]⟩).1,(Bg (Cb s value).1 (-1) ⟨true,[key],[(Cb s value).2.1],[]⟩).2.1,1,1⟩,(Bg (Cb s value).1 (-1) ⟨true,[key],[(Cb s value).2.1],[]⟩).2.2) else
  if (Cu (Cb s value).1 root key (Cb s value).2.1 height).2.2.2≠0 then(⟨(Cu (Cb s value).1 root key (Cb s value).2.1 height).1,root,height,count⟩,(Cu (Cb s value).1 root key (Cb s value).2.1 height).2.2.2) else
  Dg ⟨(Cu (Cb s value).1 root key (Cb s value).2.1 height).1,root,height,count+(if (Cu (Cb s value).1 root key (Cb s value).2.1 height).2.2.1 then 1 else 0)⟩ (Cu (Cb s value).1 root key (Cb s value).2.1 height).2.1:=Z
 rw[hP];clear hP;obtain⟨ua,uc,rfl⟩:=hu.val;generalize Cb s value=C at hu hp2 hcl;obtain⟨s1,cell,ce⟩:=C;simp only at hu hp2 hcl⊢;have hk2:=RSl.mono (R:=Ax) AF hk hl2;by_cases hce:ce=0
 ·rw[if_neg (fun q=>q hce)];subst hce;by_cases hh0:height=0
  ·subst hh0;rw[if_pos Z];refine AO Z<|AW Z Z Z Z<|Ae Z<|AR Z<|Ab Z<|AJ Z Z<|AT Z<|AZ<|c_l Z Z Z<|Ap Z<|Am Z<|Ah Z (AG 3 Z Z)<|AI Z Z<|A5 Z<|Ak<|c_l Z Z Z<|Ah Z (AG 2 Z Z)<|DN (v0:=.slice ka key.length kc) Z Z (fun b27 T27=>?_);(apply Ae;rfl);refine DN (v0:=.slice ua cell.length uc) Z Z (fun b29 T29=>?_);(apply BY;rfl);obtain⟨d3,hl3,v3,l1,l2⟩:∃d3,Le d2 d3∧Vs d2 (bx b29 T29 [.slice ua cell.length uc]::bx b27 T27 [.slice ka key.length kc]::[]) d3 []∧Le (bx b29 T29 [.slice ua cell.length uc]) d3∧Le (bx b27 T27 [.slice ka key.length kc]) d3:=
    ⟨join (join d2 (bx b29 T29 [.slice ua cell.length uc])) (bx b27 T27 [.slice ka key.length kc]),(Le.Ar _ _).trans (Le.Ar _ _),Vs.freeze.trans Vs.freeze,(Le.Bc _ _).trans (Le.Ar _ _),Le.Bc _ _⟩
   have hn:Cz d3 [.bool true,.slice (some ⟨b27,0,none⟩) 1 1,.slice (some ⟨b29,0,none⟩) 1 1,nV] ⟨true,[key],[cell],[]⟩:=
    ⟨_,_,_,Z,Ai.rsl (R:=RBs) (sz:=1) (d:=d2) (Ai.EL (x:=key) Z ⟨_,Z,hk2⟩) CY (by omega) hl3 l2,Ai.rsl (R:=RBs) (sz:=1) (d:=d2) (Ai.EL (x:=cell) Z ⟨_,Z,hu⟩) CY (by omega) hl3 l1,RSl.nil⟩
   refine B1 _ _ (Vs.app v3 _)<|A0 [_,_,_] (Aee h2 (k:= -1) (hp2.mono hl3) hn (by simp[Bf,BK,EJ,DW,FJ];omega)) Z Z (fun v d4 L4 hl4 ⟨_,e4,L5,e5,hp5⟩=>?_);subst e4;subst e5;generalize Bg s1 (-1) ⟨true,[key],[cell],[]⟩=Q at hp5;refine AO Z<|AW Z Z Z Z<|Ab Z<|A7 Z<|c_l Z Z Z<|c_l Z Z Z<|c_l Z Z Z<|Ab Z<|Ap Z<|Am Z<|Bb 3 [pZ bp,vZ Q.2.1,vZ ((0:Nat):Int),vZ count] Z Z Z Z (Aff Z) Z Z<|Ap Z<|Am Z<|Bb 3 [pZ bp,vZ Q.2.1,vZ 1,vZ count] Z Z Z Z (Aff Z) Z Z<|Ap Z<|Am Z<|Bb 3 [pZ bp,vZ Q.2.1,vZ 1,vZ 1] Z Z Z Z (Aff Z) Z Z<|Bo<|Ab Z<|AS Z<|A6 [vZ Q.2.2] ⟨Af Z,trivial⟩ (d':=d4) (L':=tbD bt Tt (pZ bp) ⟨Q.1,Q.2.1,1,1⟩::([bx b3 T3 [pZ bt],bx b5 T5 [.slice va value.length vc],bx b4 T4 [.slice ka key.length kc]]++L5)) (Vs.perm (Agi (a:=tbD bt Tt (pZ bp) ⟨Q.1,Q.2.1,1,1⟩) (l₁:=[bx b3 T3 [pZ bt],bx b5 T5 [.slice va value.length vc],bx b4 T4 [.slice ka key.length kc]]) (l₂:=L5))) ⟨(hl2.trans hl3).trans hl4,Z,L5,Z,hp5⟩
  ·rw[if_neg hh0];obtain⟨x,rfl⟩:∃x,height=x+1:=⟨height - 1,by omega⟩
   refine AO Z<|AW Z Z Z Z<|Ae Z<|AR Z<|Ab Z<|AJ Z Z<|AT Z<|AZ<|c_l Z Z Z<|Ap Z<|Am Z<|Ah Z (AG 3 Z Z)<|AI Z Z<|AT Z<|Aw<|BE [_,_,_,_] L3 Z<|c_l Z Z Z<|c_l Z Z Z<|Ap Z<|Am Z<|Ah Z (AG 3 Z Z)<|c_l Z Z Z<|Ap Z<|Am Z<|Ah Z (AG 3 Z Z)<|Ah Z (AG 2 Z Z)<|Ae Z ?_;have hins:=AeH h3 x (r:=root) (h:=((x+1:Nat):Int)) (c:=count) (bt:=bt) (Tt:=Tt) (k:=root) (by omega) hp2 hk2 hu (by omega) (by omega) hr0 hr1;generalize Cu s1 root key cell (x+1)=U at hins⊢;refine Gh (α:=Nat×TypeId) (β:=Option Addr×Nat×List Aa) [(0,pZ b3),(1,pZ b5),(2,pZ b4)]
    (fun x=>[(8,.pointer (some ⟨x.1,0,none⟩))]) (fun x d L=>L=[bx x.1 x.2 [vZ 0,vZ 0,nV,vZ 0]])
    (fun y=>[(58,mdV U.2.1 y.1 y.2.1),(59,.bool U.2.2.1),(60,vZ U.2.2.2)]) (fun y d' M=>Ay d' (.slice y.1 U.2.1.key.length y.2.1) U.2.1.key∧MOk U.2.1∧PgG B d' U.1 dv (pZ bp) y.2.2∧M=y.2.2) [] L3 Z
    (fun x d d' M hl h=>h) (fun y d d' M hl h=>⟨RSl.mono (R:=Ax) AF h.1 hl,h.2.1,h.2.2.1.mono hl,h.2.2.2⟩) (fun x=>Z) (fun y=>Z) Z ⟨Z,Z,Z,trivial⟩ ?_ ?_ ?_
   ·refine B8 (fun b8 T8=>?_);(apply A8);exact⟨_,Z,(b8,T8),⟨Z,trivial⟩,Z⟩
   ·refine VF (B:=[_,_,_]) hins (Afi (l₁:=[_,_,_])) Z (fun v d4 L4 hl4 ⟨_,wa,wc,L5,e4,hk4,hm4,e5,hp5⟩=>⟨L5,by rw[e5];exact Afi (l₂:=[_,_,_]),?_⟩);subst e4;(refine AO Z<|AW Z Z Z Z<|Dl Z Z<|A8 ?_);exact⟨_,Z,(wa,wc,L5),⟨Z,Z,Z,trivial⟩,hk4,hm4,hp5,Z⟩
   rintro⟨b8,T8⟩ ⟨wa,wc,L5⟩ ρ2 d4 M1 M2 hl4 hM1 ⟨hk4,hm4,hp5,hM2⟩;subst hM1;subst hM2;simp only at hk4 hp5⊢;refine BA 0 Z Z Z Z (Afe _) Z ?_;clear hins;obtain⟨us,um,uw,ue⟩:=U;simp only at hk4 hm4 hp5⊢;(refine Ad Z<|Ab Z<|A8<|AZ<|Ab Z<|AJ Z Z<|An ?_);by_cases hue:ue=0
   ·rw[if_neg (fun q=>q hue)];subst hue;have hcb:count+(if uw=true then 1 else 0)≤1000000:=by split<;>omega
    refine BM Z<|AH<|Aw<|BE [_,_,_,_,_] M2 Z<|c_l Z Z Z<|Ap Z<|Am Z<|Ah Z (AG 3 Z Z)<|Ad Z<|BH Z (h4 (b:=uw)) ?_;have hcc:(count:Int)+(if uw=true then 1 else 0)=((count+(if uw=true then 1 else 0):Nat):Int):=by split<;>omega
    refine LA Z Z (by split<;>omega) (by split<;>omega)<|Ap Z<|Am Z<|Cw<|Bb 3 [pZ bp,vZ root,vZ ((x+1:Nat):Int),vZ ((count:Int)+(if uw=true then 1 else 0))] Z Z Z Z (Aff Z) Z Z ?_;rw[hcc];refine Bo<|c_l Z Z Z<|Bk 4 Z Z Z<|DO (A:=tbD bt Tt (pZ bp) ⟨us,root,x+1,count+(if uw=true then 1 else 0)⟩::M2) (B:=[_,_,_,_]) (Aep h5 (t:=⟨us,root,x+1,count+(if uw=true then 1 else 0)⟩) (m:=um) hp5 hk4 hm4 (by show x+1≤1000000;omega))
     ((Agi (l₁:=[_,_,_])).trans (Afm _ (Afi (l₁:=[_,_,_,_])))) Z (fun v d6 L6 hl6 ⟨_,e6,L7,e7,hp7⟩=>?_)
    subst e6;subst e7;refine⟨d6,_,Vs.perm (Afi (l₂:=[_,_,_,_])),?_⟩
    refine AS Z<|A6 [vZ _] ⟨Af Z,trivial⟩ (d':=d6) (L':=tbD bt Tt (pZ bp) (Dg ⟨us,root,x+1,count+(if uw=true then 1 else 0)⟩ um).1::([bx b3 T3 [pZ bt],bx b5 T5 [.slice va value.length vc],bx b4 T4 [.slice ka key.length kc]]++L7)) ((Vs.drop (L':=[bx b3 T3 [pZ bt],bx b5 T5 [.slice va value.length vc],bx b4 T4 [.slice ka key.length kc]]++(tbD bt Tt (pZ bp) (Dg ⟨us,root,x+1,count+(if uw=true then 1 else 0)⟩ um).1::L7)) (.cons_cons _ (.cons_cons _ (.cons_cons _ (.cons _ (Afa _)))))).trans (Vs.perm Agi)) ⟨(hl2.trans hl4).trans hl6,Z,L7,Z,hp7⟩
   ·rw[if_pos hue];refine B2 Z<|AE Z<|AS Z<|A6 [vZ ue] ⟨Af Z,trivial⟩ (d':=d4) (L':=tbD bt Tt (pZ bp) ⟨us,root,x+1,count⟩::([bx b3 T3 [pZ bt],bx b5 T5 [.slice va value.length vc],bx b4 T4 [.slice ka key.length kc]]++M2)) ((Vs.drop (L':=[bx b3 T3 [pZ bt],bx b5 T5 [.slice va value.length vc],bx b4 T4 [.slice ka key.length kc]]++(tbD bt Tt (pZ bp) ⟨us,root,x+1,count⟩::M2)) (.cons_cons _ (.cons_cons _ (.cons_cons _ (.cons_cons _ (.cons _ (Afa _))))))).trans (Vs.perm Agi)) ⟨hl2.trans hl4,Z,M2,Z,hp5⟩
 ·rw[if_pos hce];refine AO Z<|AW Z Z Z Z<|Ae Z<|AR Z<|Ab Z<|AJ Z Z<|A5 Z<|AE Z<|AS Z<|A6 [vZ ce] ⟨Af Z,trivial⟩ (d':=d2) (L':=tbD bt Tt (pZ bp) ⟨s1,root,height,count⟩::([bx b3 T3 [pZ bt],bx b5 T5 [.slice va value.length vc],bx b4 T4 [.slice ka key.length kc]]++L3)) (Vs.perm Agi) ⟨hl2,Z,L3,Z,hp2⟩
end
def HR(P:Program)(f:FuncId):Prop:=∀{d}{t:TD}{dv pv kv vv L}{bt:Nat}{Tt key value B},PgT d t.s dv pv L→Ay d kv key→RB d B vv value→QS t→
 Ao P f [pZ bt,kv,vv] d (tbD bt Tt pv t::(B++L)) (Ret fun v d' L'=>Le d d'∧v=vZ (Dy t key value).2∧∃L2,L'=tbD bt Tt pv (Dy t key value).1::(B++L2)∧PgT d' (Dy t key value).1.s dv pv L2)
def AeA{args}{t':TD}{e:Int}{X L Tt B}(h:Ao P f args d (tbD bt Tt pv t::(X++(B++L))) (Ret fun v d' L'=>Le d d'∧v=vZ e∧∃L2,L'=tbD bt Tt pv t'::(X++L2)∧PgG B d' t'.s dv pv L2)):
  Ao P f args d (tbD bt Tt pv t::((X++B)++L)) (Ret fun v d' L'=>Le d d'∧v=vZ e∧∃L2,L'=tbD bt Tt pv t'::((X++B)++L2)∧PgT d' t'.s dv pv L2):=by
 rw[Afg]
 refine Ao.Eb h (fun v d' L' _ ⟨h1,h2,M,h3,L2,p,h4⟩=>⟨d',tbD bt Tt pv t'::((X++B)++L2),Vs.perm ?_,h1,h2,L2,Z,h4⟩)
 rw[h3,Afg]
 exact Afm _ (List.Perm.append_left X p)
set_option maxRecDepth 4000 in
set_option maxHeartbeats 2000000 in
def Aay{f1 f2 f3}(hd:dec P f=some (PT f1 f2 f3))(h1:Kc P f1)(h2:Pq P f2)(h3:JF P f3):HR P f:=by
 intro d t dv pv kv vv L bt Tt key value B hp hk hv hf;obtain⟨bp,rfl⟩:=hp.ptr;obtain⟨ka,kc,rfl⟩:=hk.val;obtain⟨va,vc,rfl⟩:=hv.val;refine Bj hd ?_;apply Aw;apply Av;refine Fv Z (fun b3 T3=>?_);refine Fv Z (fun b4 T4=>?_);refine Fv Z (fun b5 T5=>?_);refine AR Z<|Ah Z (AG 2 Z Z)<|Ah Z (AG 1 Z Z)<|A0 [_,_,_] (h1 (L:=B++L) hk) Z Z (fun v d2 L2 _ ⟨e1,e2,e3⟩=>?_);subst e1;subst e2;subst e3;by_cases hw:Cl key=0
 ·by_cases hb:16384<value.length
  ·have hF:Dy t key value=(t,3):=by unfold Dy;rw[if_neg (fun q=>q hw),if_pos hb]
   rw[hF,hw];refine A7 Z<|Ab Z<|AJ Z Z<|AT Z<|AZ<|c_l Z Z Z<|AA Z<|Bu Z Z<|A5 Z<|AE Z<|BJ<|BZ (L':=tbD bt Tt (pZ bp) t::(B++L)) Z (.cons _ (.cons _ (.cons _ (Afa _)))) ⟨Le.refl _,Z,L,Z,hp⟩
  ·have hF:Dy t key value=(CL t (Df t key value).1 (Df t key value).2,(Df t key value).2):=by unfold Dy;rw[if_neg (fun q=>q hw),if_neg hb]
   have hkl:key.length≤64:=by unfold Cl at hw;split at hw<;>omega
   rw[hF,hw];refine A7 Z<|Ab Z<|AJ Z Z<|AT Z<|AZ<|c_l Z Z Z<|AA Z<|Bu Z Z<|AT Z<|Ak<|Ah Z (AG 2 Z Z)<|ND<|DO (A:=tbD bt Tt (pZ bp) t::(([bx b3 T3 [pZ bt],bx b5 T5 [.slice va value.length vc],bx b4 T4 [.slice ka key.length kc]]++B)++L)) (B:=[])
    (h3 (t':=(Df t key value).1) (e:=(Df t key value).2) (X':=[bx b3 T3 [pZ bt],bx b5 T5 [.slice va value.length vc],bx b4 T4 [.slice ka key.length kc]]++B) hp (XP t key value)
     (fun d1 hl1=>AeA (h2 (B:=B) ⟨L,Agq _,hp.mono hl1⟩ (RSl.mono (R:=Ax) AF hk hl1) (hv.mono hl1) hkl (by omega) hf))) ?_ Z (fun v d4 L4 hl4 ⟨_,e4,L5,e5,hp5⟩=>?_)
   ·rw[Agj];refine(Agi (l₁:=[_,_,_])).trans (Afm _ ((List.Perm.append_right (l₂:=[bx b3 T3 [pZ bt],bx b5 T5 [.slice va value.length vc],bx b4 T4 [.slice ka key.length kc]]) (B++L) ?_).trans (List.Perm.of_eq (by simp))));exact((Afi (l₁:=[_,_]) (l₂:=[_])).trans (Afm _ (Agq _)))
   ·subst e4;subst e5;refine⟨d4,_,Vs.refl _ _,?_⟩
    rw[Agj];refine AS Z<|A6 [vZ (Df t key value).2] ⟨Af Z,trivial⟩ (d':=d4) (L':=tbD bt Tt (pZ bp) (CL t (Df t key value).1 (Df t key value).2)::(B++L5)) (Vs.drop (.cons_cons _ (.cons _ (.cons _ (.cons _ (Afa _)))))) ⟨hl4,Z,L5,Z,hp5⟩
 ·have hF:Dy t key value=(t,Cl key):=by unfold Dy;rw[if_pos hw]
  rw[hF];refine A7 Z<|Ab Z<|AJ Z Z<|A5 Z<|AE Z<|AS Z<|BZ (L':=tbD bt Tt (pZ bp) t::(B++L)) Z (.cons _ (.cons _ (.cons _ (Afa _)))) ⟨Le.refl _,Z,L,Z,hp⟩
def HR.own(h:HR P f){kv vv L Tt key value g}(hp:PgT d t.s dv pv L)(hk:Ay d kv key)(hv:Ai 1 Ax d vv value g)(hf:QS t):
  Ao P f [pZ bt,kv,vv] d (tbD bt Tt pv t::g::L) (Ret fun v d' L'=>Le d d'∧v=vZ (Dy t key value).2∧∃L2,L'=tbD bt Tt pv (Dy t key value).1::g::L2∧PgT d' (Dy t key value).1.s dv pv L2):=
 h (B:=[g]) hp hk (RB.own hv) hf
def HR.data(h:HR P f){kv vv L Tt key value}(hp:PgT d t.s dv pv L)(hk:Ay d kv key)(hv:Ay d vv value)(hf:QS t):
  Ao P f [pZ bt,kv,vv] d (tbD bt Tt pv t::L) (Ret fun v d' L'=>Le d d'∧v=vZ (Dy t key value).2∧∃L2,L'=tbD bt Tt pv (Dy t key value).1::L2∧PgT d' (Dy t key value).1.s dv pv L2):=
 h (B:=[]) hp hk (RB.data hv) hf
end Go.Gk.Tre
end
section
namespace Go.Gk.Tre
open Go Go.Gk Go.Gk.Dev Go.Gk.Cch Go.Gk.Pgr Go.Gk.Chn Go.Gk.Node
end Go.Gk.Tre
end
section
namespace Go.Gk.Tre
open Go Go.Gk Go.Gk.Dev Go.Gk.Cch Go.Gk.Pgr Go.Gk.Chn Go.Gk.Node
attribute [local irreducible] gwp gws xwp
def Il{d}{b:Nat}{T}(a:UInt8):Ay (join d (bx b T [Al a])) (.slice (some ⟨b,0,none⟩) 1 1) [a]:=
 Ai.rsl (R:=Ax) (sz:=1) (xs:=[a]) (Ai.EL (R:=Ax) (d:=d) (x:=a) Z Z) AF (by omega) (Le.Ar _ _) (Le.Bc _ _)
section
section
variable {P:Program}{pan:List PanicEntry→AP}{Qn:Env→AP}{Ls L:List Aa}{ρ:Env}{d:Aa}{s:GS}{t:Nat}{tk:Bool}
def YK{x y}{b:UInt8}(ex:ev ρ x=Al b)(ey:ev ρ y=.int .u8 1)(h:gws P pan Qn s Ls (upd ρ t (Al (b+1))) d L):gws P pan Qn (.op tk ⟨some t,none,.bin .add x y⟩ s) Ls ρ d L:=
 DQ (by
  have e:IntKind.u8.wrap ((b.toNat:Int)+1)=((b+1).toNat:Int):=by
   simp[IntKind.wrap,IntKind.signed,IntKind.bits,UInt8.toNat_add]
  rw[ex,ey];simp only[Dz,Al];simp[e]) h
end
def MC{key}:Cl key=0∨Cl key=2:=by unfold Cl;split<;>simp
def RD{s}{n:Nat}:∀m,(wtc s n).writes m=s.writes m
 |0=>rfl
 |m+1=>by rw[PD.writes,PD.writes,RD m]
def ZT{s}{n:Nat}:(wtc s n).flush=wtc s.flush n:=by
 unfold PD.flush;rw[show(wtc s n).writes (wtc s n).kinds.length=s.writes s.kinds.length from RD _]
abbrev Z6:=Int×List UInt8×List UInt8
def RAc(d:Aa)(cs:List Value)(x:Z6):Prop:=∃kv vv,cs=[vZ x.1,kv,vv]∧Ay d kv x.2.1∧Ay d vv x.2.2
def VG:Gu RAc:=fun hl ⟨kv,vv,e,h1,h2⟩=>⟨kv,vv,e,RSl.mono (R:=Ax) AF h1 hl,RSl.mono (R:=Ax) AF h2 hl⟩
def Q5(P:Program)(f:FuncId):Prop:=∀{d}{t:TD}{dv pv w L}{bt:Nat}{Tt}{acts:List Z6}{most N:Nat},PgT d t.s dv pv L→Gr N 0 t [] []→RSl 3 RAc d w acts→most≤1000→
 Ao P f [pv,pZ bt,w,vZ most] d (tbD bt Tt pv t::L) (Ret fun v d' L'=>Le d d'∧∃u t' l P' L2,v=.tuple #[u,.bool true]∧RSl 2 RKv d' u l∧Gr N most t' l P'∧L'=tbD bt Tt pv t'::L2∧PgT d' t'.s dv pv L2)
def Ld(a0 a1 a2 a3 a4 a5 a6 a7 a8 a9 a10 a11 a12 a13:Nat):A9:=⟨226,[(.tmp 8),(.tmp 9)],(sR (o1 8 (.mv nS)<|o1 9 (.mv (.const (.bool false))) .done) (sR (o1 10 (.mv nS) .done) (.seq (sR (o1 11 (.mv z0) .done) (.block 0 (.loop (.seq (sR (om 29 11<|om 30 2<|oL 31 30<|ob 32 .lss 29 31<|om 33 32<|gT 34 33 11<|gT 35 33 3<|oT 36 33 (.bin .lss 34 35)<|gP 37 33 36 .done) (.cond 37 .skip (.exit 0))) (.seq (.block 1 (sR (om 40 2<|om 41 11<|oI 42 3 40 41<|o1 43 (.ld (some 3) 42)<|o1 12 (.alo (.agg #[(vZ 0),nV,nV]))<|o0 (.st 3 12 43) .done) (sR (oj 44 2 12<|ol 45 44<|oc 46 a0 [45,(kZ 700)]<|om 13 46 .done) (sR (oj 47 1 12<|ol 48 47<|oc 49 a1 [48]<|om 14 49 .done) (sR (om 50 1<|oc 51 a2 [50]<|ob 52 .mul (kZ 4) 51<|ob 53 .add 52 (kZ 3)<|om 54 13<|oL 55 54<|oc 56 a3 [55]<|ob 57 .add 53 56<|om 15 57 .done) (sR (om 58 0<|oc 59 a4 [58]<|om 16 59 .done) (.seq (sR (oj 60 0 12<|ol 61 60 .done) (.block 2 (sR (ob 109 .eql 61 z0<|om 108 109 .done) (.cond 108 (sR (o1 110 (.bsl 0 1 [(.int .u8 0)] [])<|om 111 13<|o1 112 (.app 1 1 [(.int .u8 0)] 110 111)<|om 17 112 .done) (sR (om 113 1<|oj 114 1 12<|ol 115 114<|om 116 17<|oc 117 a5 [113,115,116]<|om 18 117 .done) (.seq (sR (om 118 18<|ob 119 .eql 118 (kZ 190)<|om 120 119<|gT 121 120 14<|oT 122 120 (.bin .eql 121 z0)<|gP 123 120 122<|om 124 123<|gT 125 124 16<|gT 126 124 15<|oT 127 124 (.bin .lss 125 126)<|gP 128 124 127<|om 129 128<|gT 130 129 0<|oT 131 129 (.call a4 [130])<|gT 132 129 16<|oT 133 129 (.bin .eql 131 132)<|gP 134 129 133 .done) (.cond 134 (.exit 1) .skip)) (.seq (sR (om 135 18<|om 136 14<|ob 137 .neq 135 136 .done) (.cond 137 (sR (o1 8 (.mv nS)<|o1 9 (.mv (.const (.bool false))) .done) .ret) .skip)) (.seq (sR (om 138 18<|ob 139 .eql 138 z0 .done) (.cond 139 (rG (om 140 10<|oj 141 1 12<|ol 142 141<|o1 143 (.b2s 142)<|om 144 13<|o1 145 (.b2s 144)<|oc 146 a6 [140,143,145]<|om 10 146 .done)) .skip)) (sR (om 147 17<|oL 148 147<|o1 149 (.mv z0) .done) (.block 3 (.loop (sR (ob 150 .lss 149 148 .done) (.seq (.cond 150 .skip (.exit 3)) (.seq (.block 4 (sR (om 151 149<|om 19 151 .done) (rG (om 152 17<|om 153 19<|oI 154 1 152 153<|ol 155 154<|ob 156 .add 155 (.const (.int .u8 1))<|oI 157 1 152 153<|o0 (.st 1 157 156) .done)))) (rG (ob 158 .add 149 z1<|om 149 158 .done))))))))))))) (sR (ob 160 .eql 61 z1<|om 159 160 .done) (.cond 159 (sR (om 162 1<|oj 163 1 12<|ol 164 163<|oc 165 a7 [162,164]<|om 161 165<|oe 166 161 0<|oe 167 161 1<|om 20 166<|om 21 167 .done) (.seq (sR (om 168 21<|ob 169 .eql 168 (kZ 190)<|om 170 169<|gT 171 170 14<|oT 172 170 (.bin .eql 171 z0)<|gP 173 170 172<|om 174 173<|gT 175 174 16<|gT 176 174 15<|oT 177 174 (.bin .lss 175 176)<|gP 178 174 177<|om 179 178<|gT 180 179 0<|oT 181 179 (.call a4 [180])<|gT 182 179 16<|oT 183 179 (.bin .eql 181 182)<|gP 184 179 183<|om 185 184<|gT 186 185 20<|oT 187 185 (.un .not 186)<|gP 188 185 187 .done) (.cond 188 (.exit 1) .skip)) (.seq (sR (om 189 21<|om 190 14<|ob 191 .neq 189 190 .done) (.cond 191 (sR (o1 8 (.mv nS)<|o1 9 (.mv (.const (.bool false))) .done) .ret) .skip)) (sR (om 193 10<|oj 194 1 12<|ol 195 194<|o1 196 (.b2s 195)<|oc 197 a8 [193,196]<|om 192 197<|oe 198 192 0<|oe 199 192 1<|om 22 198<|om 23 199 .done) (.seq (sR (om 200 21<|ob 201 .eql 200 z0<|om 202 201<|gT 203 202 20<|gT 204 202 23<|oT 205 202 (.eqb true 203 204)<|gP 206 202 205 .done) (.cond 206 (sR (o1 8 (.mv nS)<|o1 9 (.mv (.const (.bool false))) .done) .ret) .skip)) (sR (om 207 21<|ob 208 .eql 207 z0 .done) (.cond 208 (rG (om 209 22<|om 10 209 .done)) .skip))))))) (sR (ob 211 .eql 61 (kZ 3)<|om 210 211 .done) (.cond 210 (sR (om 212 0<|oc 213 a9 [212]<|ob 214 .neq 213 z0<|om 215 214<|gF 216 215 0<|oF 217 215 (.call a10 [216])<|oF 218 215 (.bin .neq 217 z0)<|o1 219 (.pick 215 (.const (.bool true)) 218) .done) (.cond 219 (sR (o1 8 (.mv nS)<|o1 9 (.mv (.const (.bool false))) .done) .ret) .skip)) (sR (om 63 1<|oj 64 1 12<|ol 65 64<|oc 66 a11 [63,65]<|om 62 66<|oe 67 62 0<|oe 68 62 1<|oe 69 62 2<|om 24 67<|om 25 68<|om 26 69 .done) (sR (om 71 10<|oj 72 1 12<|ol 73 72<|o1 74 (.b2s 73)<|oc 75 a12 [71,74]<|om 70 75<|oe 76 70 0<|oe 77 70 1<|om 27 76<|om 28 77 .done) (sR (om 78 26<|om 79 14<|ob 80 .neq 78 79<|om 81 80<|gF 82 81 26<|oF 83 81 (.bin .eql 82 z0)<|gF 84 81 83<|gT 85 84 25<|gT 86 84 28<|oT 87 84 (.eqb true 85 86)<|gT 88 84 87<|gF 89 88 24<|oF 90 88 (.b2s 89)<|gF 91 88 27<|oF 92 88 (.bin .neq 90 91)<|oT 93 84 (.pick 88 (.const (.bool true)) 92)<|oF 94 81 (.pick 84 93 (.const (.bool false)))<|o1 95 (.pick 81 (.const (.bool true)) 94)<|om 96 95<|gF 97 96 26<|oF 98 96 (.bin .neq 97 z0)<|gF 99 96 98<|gT 100 99 25<|gT 101 99 100<|gF 102 101 24<|oF 103 101 (.len 102)<|oF 104 101 (.bin .neq 103 z0)<|oT 105 99 (.pick 101 (.const (.bool true)) 104)<|oF 106 96 (.pick 99 105 (.const (.bool false)))<|o1 107 (.pick 96 (.const (.bool true)) 106) .done) (.cond 107 (sR (o1 8 (.mv nS)<|o1 9 (.mv (.const (.bool false))) .done) .ret) .skip)))))))))))) (sR (om 220 1<|oc 221 a13 [220]<|om 222 10<|oL 223 222<|ob 224 .neq 221 223 .done) (.cond 224 (sR (o1 8 (.mv nS)<|o1 9 (.mv (.const (.bool false))) .done) .ret) .skip))))))))) (rG (om 38 11<|ob 39 .add 38 z1<|om 11 39 .done))))))) (sR (om 225 10<|om 8 225<|o1 9 (.mv (.const (.bool true))) .done) .ret))))⟩
set_option maxRecDepth 4000 in
set_option maxHeartbeats 4000000 in
def AaS{P f f1 f2 f3 f4 f5 f6 f7 f8 f9 f10 f11 f12 f13 f14}(hd:dec P f=some (Ld f1 f2 f3 f4 f5 f6 f7 f8 f9 f10 f11 f12 f13 f14))(h1:Q4 P f1)(h2:Ou P f2)(h3:Gw P f3)(h4:F9 P f4)(h5:Ui P f5)
  (h6:HR P f6) (h7:QX P f7) (h8:UL P f8) (h9:NA P f9) (h10:QD P f10) (h11:Up P f11) (h12:PM P f12) (h13:Rg P f13) (h14:Ha P f14):Q5 P f:=by
 intro d t dv pv w L bt Tt acts most N hp hg hw hmost
 obtain⟨bp,rfl⟩:=hp.ptr
 have hwl:=hw.BW
 obtain⟨a,cw,rfl⟩:=hw.val
 refine Bj hd ?_
 (refine Br Z<|AV Z<|Br Z<|BG<|AU Z<|Aq ?_)
 refine Cs (α:=Nat×Option Addr×Nat×List KV) (fun x=>[(0,pZ bp),(1,pZ bt),(2,.slice a acts.length cw),(3,vZ most),(10,.slice x.2.1 x.2.2.2.length x.2.2.1),(11,vZ x.1)])
  (fun x d' L'=>Le d d'∧x.1≤acts.length∧x.1≤most∧RSl 2 RKv d' (.slice x.2.1 x.2.2.2.length x.2.2.1) x.2.2.2∧∃t' P' J L2,L'=J++tbD bt Tt (pZ bp) t'::L2∧PgT d' t'.s dv (pZ bp) L2∧Gr N x.1 t' x.2.2.2 P')
  (fun x=>most - x.1) (0,none,0,[]) ⟨Z,Z,Z,Z,Z,Z,trivial⟩ ⟨Le.refl _,Agd _,Agd _,RSl.nil,t,[],[],L,Z,hp,hg⟩ ?_
 rintro⟨i,la,lc,l⟩ ρ d' L' ⟨hle,hi,him,hl,t,P',J,L2,rfl,hp2,hg2⟩
 simp only at hi him hl hg2⊢
 have hw2:=RSl.mono (R:=RAc) VG hw hle
 by_cases e:i<acts.length
 ·by_cases e2:i<most
  ·(refine AZ<|Ab Z<|Ae Z<|AA Z<|Au Z Z<|Ad Z<|Bx Z<|Ac Z<|Ab Z<|Ac Z<|Ab Z<|Ac Z<|Au Z Z<|As Z Z<|A5 Z<|AH<|Aw<|Aq<|Br Z<|Ab Z ?_)
   refine Bq (m:=i) Z hw2 Z Z e (fun b o cs hcl hdc ⟨kv,vv,q,hk,hv⟩=>?_)
   subst q
   obtain⟨ka,kc,rfl⟩:=RSl.val hk
   obtain⟨va0,vc0,rfl⟩:=RSl.val hv
   obtain⟨hkl,hth⟩:=hg2.ok.far (by have:=hg2.ln;omega)
   (refine XE Z (by assumption) Z<|B8 (fun _ _=>?_))
   rename_i b12 T12
   refine Bb 0 [vZ acts[i].1,.slice ka acts[i].2.1.length kc,.slice va0 acts[i].2.2.length vc0] Z Z Z Z (Afe _) Z Z ?_
   generalize acts[i]=A at hk hv hcl hdc
   obtain⟨kind,key,val0⟩:=A
   simp only at hk hv hcl hdc⊢
   (refine Bo<|Az Z Z Z ?_)
   refine Bz Z (h1 hv (n:=700) (by omega)) (fun v0 d1 L1 _ ⟨z1,z2,hv1⟩=>?_)
   subst z1;subst z2
   rw[Agh]
   have hvl:(val0.take 700).length≤700:=by rw[Aft];omega
   generalize val0.take 700=val at hv1 hvl
   obtain⟨va,vc,rfl⟩:=RSl.val hv1
   (refine Ae Z<|Bo<|Az Z Z Z ?_)
   refine BH Z (h2 hk) ?_
   (refine A7 Z<|Ag Z ?_)
   refine B9 (_::J) (h3 (t:=t) (L:=L2)) Z Z ?_
   (refine JW Z Z (by omega) (by omega)<|A4 Z Z<|Ae Z<|AA Z ?_)
   refine BH Z (h4 (n:=val.length) (by omega)) ?_
   have hpn:AN val.length≤10:=by unfold AN;omega
   (refine A4 Z Z<|A7 Z<|Ag Z ?_)
   have g5:∀{d t L},PgT d t dv (pZ bp) L→Ea P f5 [pZ bp] d L (vZ ((t.free:Nat):Int)):=fun⟨n6,hp6⟩=>h5 (s:=wtc _ n6) hp6
   have hfr:t.s.free≤8192:=by have:=hg2.ok.gd.len;have:=List.countP_le_length (p:=(·==0)) (l:=t.s.kinds);unfold PD.free;omega
   refine B9 (_::J++[_]) (g5 hp2) (Akj (_::J) _ L2) Z ?_
   by_cases k0:kind=0
   ·subst k0
    (refine AR Z<|Az Z Z Z<|An<|Aq<|Ak<|AI Z Z<|AV Z<|B2 Z<|Ak ?_)
    refine Dq (cs:=[]) (by simp) (by simp[Instr.fill,BD]) (fun b110 T110=>?_)
    (apply Ae;rfl)
    refine FR (R:=Ax) (sz:=1) 0 Z Z (Ai.J8 (R:=Ax) (sz:=1)) Z (RSl.src (R:=Ax) hv1 Fx (by omega) _) (by omega) (by simp;omega) (by simp;omega) (fun v17 g17 o17=>?_)
    rw[Agh] at o17
    obtain⟨oa,oc,rfl⟩:=o17.val
    (refine Ae Z<|Bo<|Ag Z<|Am Z<|Ah Z (AG 1 Z Z)<|Ae Z ?_)
    refine DO (A:=tbD bt Tt _ t::g17::L2) (B:=_::J) (h6.own (Tt:=Tt) hp2 hk o17 hkl) ((Agi (l₁:=_::_::J)).trans (Afm _ (Afm _ Afi))) Z (fun v d4 L4 hl4 ⟨_,e4,L5,e5,hp5⟩=>?_)
    subst e4;subst e5
    have hkk:=hk.BW
    have hll:l.length≤1000:=by have:=hg2.ln;omega
    have hl4':=RSl.mono (R:=RKv) GG hl hl4
    have hk4:=RSl.mono (R:=Ax) AF hk hl4
    have hv4:=RSl.mono (R:=Ax) AF hv1 hl4
    refine⟨d4,g17::(bx b12 T12 [vZ 0,.slice ka key.length kc,.slice va0 val0.length vc0]::J++tbD bt Tt (pZ bp) (Dy t key val).1::L5),Vs.perm ((Agi (l₁:=_::_::J)).trans (Afm _ (Afm _ Afi))).symm,?_⟩
    rcases MC (key:=key) with hwk|hwk
    ·rcases hg2.put hwk hvl with ⟨q1,P2,hg3⟩|⟨q1,q2,q3,hg3⟩
     ·rw[q1,hwk]
      clear q1
      generalize (Dy t key val).1=t2 at hp5 hg3⊢
      (refine AR Z<|Ab Z<|AI Z Z<|Ad Z<|Bs Z<|AQ Z Z<|Aj Z Z<|Ad Z<|AQ Z Z<|BP Z<|Aj Z Z<|Ad Z<|AQ Z Z<|AQ Z Z<|Aj Z Z<|Be Z<|AZ<|Ab Z<|Ab Z<|AJ Z Z<|AT Z<|AZ<|Ab Z<|AI Z Z<|A5 Z<|Av<|Ae Z<|Am Z<|Ah Z (AG 1 Z Z)<|Bv Z (by assumption)<|Ae Z<|Bv Z (by assumption) ?_)
      refine Bz Z (h7 hl4' hkk (by omega) (by omega)) (fun u d5 L6 hl5 ⟨z1,_,z3⟩=>?_)
      subst z1
      obtain⟨la2,lc2,rfl⟩:=z3.val
      rw[Agh]
      have hct:=hg3.ok.ct
      (refine Ae Z<|Bo<|Ae Z<|AA Z<|AU Z<|Aq ?_)
      refine Cs (α:=Nat) (fun x=>[(0,pZ bp),(1,pZ bt),(2,.slice a acts.length cw),(3,vZ most),(10,.slice la2 (EM l key val).length lc2),(11,vZ i),(17,.slice oa val.length oc),(148,vZ val.length),(149,vZ x)])
       (fun x dd L'=>dd=d5∧x≤val.length∧∃xs g,xs.length=val.length∧Ai 1 Ax d5 (.slice oa val.length oc) xs g∧L'=g::(bx b12 T12 [vZ 0,.slice ka key.length kc,.slice va0 val0.length vc0]::J++tbD bt Tt (pZ bp) t2::L5)) (fun x=>val.length - x) 0 ⟨Z,Z,Z,Z,Z,Z,Z,Z,Z,trivial⟩ ⟨Z,Agd _,val,g17,Z,Ai.mono (R:=Ax) AF o17 (hl4.trans hl5),Z⟩ ?_
      rintro k ρ d9 L9 ⟨rfl,hk9,xs,g9,hxl,o9,rfl⟩
      by_cases e9:k<val.length
      ·obtain⟨gb,gT,gl,gc,e10,rfl,hml,hmg,hset⟩:=o9.CE (m:=k) (by omega)
       rw[hxl] at e10
       cases e10
       (refine Ak<|Au Z Z<|By<|B2 Z<|AH<|Aw<|Aq<|AE Z<|AU Z<|Av<|Ae Z<|Ab Z<|BT _ Z Z Z (by omega) ?_)
       refine Ah Z (AG 0 Z (by rw[Aho];exact hmg)) ?_
       refine YK Z Z ?_
       refine ML k Z Z Z e9 ?_
       refine Cg 0 Z Z Z Z (by first|omega|(simp[Al,Value.cells];omega)) Z ?_
       (refine An<|Av<|A4 Z Z<|AU Z ?_)
       exact⟨k+1,by omega,⟨Z,Z,Z,Z,Z,Z,Z,Z,Z,trivial⟩,Z,e9,xs.set k _,_,by simpa using hxl,hset _,Z⟩
      obtain rfl:k=val.length:=by omega
      (refine Ak<|Au Z Z<|By<|BM Z<|Bl<|A3 Z ?_)
      refine B9 (_::_::J) (h14 (t:=t2) (L:=L5)) Z Z ?_
      (refine Ae Z<|AA Z<|AJ Z Z<|AT Z<|Av<|Ab Z<|A4 Z Z<|AU Z ?_)
      exact⟨(i+1,la2,lc2,EM l key val),by simp only;omega,⟨Z,Z,Z,Z,Z,Z,trivial⟩,(hle.trans hl4).trans hl5,e,e2,z3,t2,P2,_::_::J,L5,Z,hp5.mono hl5,hg3⟩
     ·rw[q1,hwk]
      clear q1
      generalize (Dy t key val).1=t2 at hp5 hg3 q3⊢
      have g5':=g5 hp5
      rw[q3] at g5'
      (refine AR Z<|Ab Z<|AI Z Z<|Ad Z<|Bx Z<|Ac Z<|Ab Z<|Ac Z<|AI Z Z<|As Z Z<|Ad Z<|Bx Z<|Ac Z<|Ab Z<|Ac Z<|Ab Z<|Ac Z<|Au Z Z<|As Z Z<|Ad Z<|Bx Z<|Ac Z<|Ag Z<|Ac Z ?_)
      refine B9 (_::_::J++[_]) g5' (Akj (_::_::J) _ L5) Z ?_
      (refine Ac Z<|Ab Z<|Ac Z<|AI Z Z<|As Z Z<|A5 Z<|Bl<|Av<|Ab Z<|A4 Z Z<|AU Z ?_)
      exact⟨(i+1,la,lc,l),by simp only;omega,⟨Z,Z,Z,Z,Z,Z,trivial⟩,hle.trans hl4,e,e2,hl4',t2,P',_::_::J,L5,Z,hp5,hg3⟩
    ·have hF:Dy t key val=(t,2):=by unfold Dy;rw[if_pos (by rw[hwk];decide),hwk]
     rw[hF] at hp5⊢
     rw[hwk]
     simp only at hp5⊢
     have hct:=hg2.ok.ct
     (refine AR Z<|Ab Z<|AI Z Z<|Ad Z<|Bs Z<|AQ Z Z<|Aj Z Z<|Ad Z<|AQ Z Z<|BP Z<|Aj Z Z<|Ad Z<|AQ Z Z<|AQ Z Z<|Aj Z Z<|Be Z<|AZ<|Ab Z<|Ab Z<|AJ Z Z<|AT Z<|AZ<|Ab Z<|AI Z Z<|AT Z<|Br Z<|AA Z<|AU Z<|Aq ?_)
     refine Cs (α:=Nat) (fun x=>[(0,pZ bp),(1,pZ bt),(2,.slice a acts.length cw),(3,vZ most),(10,.slice la (l).length lc),(11,vZ i),(17,.slice oa val.length oc),(148,vZ val.length),(149,vZ x)])
      (fun x dd L'=>dd=d4∧x≤val.length∧∃xs g,xs.length=val.length∧Ai 1 Ax d4 (.slice oa val.length oc) xs g∧L'=g::(bx b12 T12 [vZ 0,.slice ka key.length kc,.slice va0 val0.length vc0]::J++tbD bt Tt (pZ bp) t::L5)) (fun x=>val.length - x) 0 ⟨Z,Z,Z,Z,Z,Z,Z,Z,Z,trivial⟩ ⟨Z,Agd _,val,g17,Z,Ai.mono (R:=Ax) AF o17 hl4,Z⟩ ?_
     rintro k ρ d9 L9 ⟨rfl,hk9,xs,g9,hxl,o9,rfl⟩
     by_cases e9:k<val.length
     ·obtain⟨gb,gT,gl,gc,e10,rfl,hml,hmg,hset⟩:=o9.CE (m:=k) (by omega)
      rw[hxl] at e10
      cases e10
      (refine Ak<|Au Z Z<|By<|B2 Z<|AH<|Aw<|Aq<|AE Z<|AU Z<|Av<|Ae Z<|Ab Z<|BT _ Z Z Z (by omega) ?_)
      refine Ah Z (AG 0 Z (by rw[Aho];exact hmg)) ?_
      refine YK Z Z ?_
      refine ML k Z Z Z e9 ?_
      refine Cg 0 Z Z Z Z (by first|omega|(simp[Al,Value.cells];omega)) Z ?_
      (refine An<|Av<|A4 Z Z<|AU Z ?_)
      exact⟨k+1,by omega,⟨Z,Z,Z,Z,Z,Z,Z,Z,Z,trivial⟩,Z,e9,xs.set k _,_,by simpa using hxl,hset _,Z⟩
     obtain rfl:k=val.length:=by omega
     (refine Ak<|Au Z Z<|By<|BM Z<|Bl<|A3 Z ?_)
     refine B9 (_::_::J) (h14 (t:=t) (L:=L5)) Z Z ?_
     (refine Ae Z<|AA Z<|AJ Z Z<|AT Z<|Av<|Ab Z<|A4 Z Z<|AU Z ?_)
     exact⟨(i+1,la,lc,l),by simp only;omega,⟨Z,Z,Z,Z,Z,Z,trivial⟩,hle.trans hl4,e,e2,hl4',t,P',_::_::J,L5,Z,hp5,hg2.more (by omega)⟩
   ·have hkk:=hk.BW
    have hll:l.length≤1000:=by have:=hg2.ln;omega
    by_cases k1:kind=1
    ·subst k1
     (refine AR Z<|Az Z Z Z<|An<|Aq<|Ak<|AI Z Z<|AV Z<|BM Z<|Ak<|AI Z Z<|AV Z<|B2 Z<|A3 Z<|Az Z Z Z ?_)
     refine A0 (_::J) (h8 (t:=t) (Tt:=Tt) hp2 hk (fun _=>hg2.ok.can hll key)) Z Z (fun v d4 L4 hl4 ⟨_,e4,L5,e5,hp5⟩=>?_)
     subst e4;subst e5
     have hl4':=RSl.mono (R:=RKv) GG hl hl4
     have hk4:=RSl.mono (R:=Ax) AF hk hl4
     rcases MC (key:=key) with hwk|hwk
     ·rcases hg2.del hwk with ⟨q1,q1',P2,hg3⟩|⟨q1,q1',q2,q3,hg3⟩
      ·rw[q1,q1',hwk]
       clear q1 q1'
       generalize (EK t key).1=t2 at hp5 hg3⊢
       have hct:=hg3.ok.ct
       have hdk:(CH l key).2=isK l key:=by unfold CH;cases hq:isK l key<;>simp
       generalize hbb:isK l key=bb at hdk
       cases bb with
       |true=>
        clear hbb
        (refine AO Z<|AW Z Z Z Z<|Ad Z<|AR Z<|Ab Z<|AI Z Z<|Ad Z<|Bs Z<|AQ Z Z<|Aj Z Z<|Ad Z<|AQ Z Z<|BP Z<|Aj Z Z<|Ad Z<|AQ Z Z<|AQ Z Z<|Aj Z Z<|Ad Z<|AQ Z Z<|Aj Z Z<|Be Z<|AZ<|Ab Z<|Ab Z<|AJ Z Z<|AT Z<|Br Z<|Az Z Z Z<|Bv Z (by assumption) ?_)
        refine Bz Z (h9 hl4' hkk (by omega)) (fun u d5 L6 hl5 ⟨z1,_,u2,z2,z3⟩=>?_)
        rw[hdk] at z2
        subst z1;subst z2
        obtain⟨la2,lc2,rfl⟩:=z3.val
        rw[Agh]
        clear hdk
        (refine AO Z<|AW Z Z Z Z<|Ae Z<|AV Z<|AZ<|Ab Z<|AI Z Z<|Ad Z<|Bx Z<|Ac Z<|Ad Z<|Ac Z<|Ad Z<|Ac Z<|HV Z Z<|As Z Z<|Be Z<|AE Z<|AI Z Z<|A5 Z<|Av<|Ae Z<|Ae Z<|Bo<|Ag Z ?_)
        refine B9 (_::J) (h14 (t:=t2) (L:=L5)) Z Z ?_
        (refine Ae Z<|AA Z<|AJ Z Z<|AT Z<|Av<|Ab Z<|A4 Z Z<|AU Z ?_)
        exact⟨(i+1,la2,lc2,(CH l key).1),by simp only;omega,⟨Z,Z,Z,Z,Z,Z,trivial⟩,(hle.trans hl4).trans hl5,e,e2,z3,t2,P2,_::J,L5,Z,hp5.mono hl5,hg3.more (by omega)⟩
       |false=>
        clear hbb
        (refine AO Z<|AW Z Z Z Z<|Ad Z<|AR Z<|Ab Z<|AI Z Z<|Ad Z<|Bs Z<|AQ Z Z<|Aj Z Z<|Ad Z<|AQ Z Z<|BP Z<|Aj Z Z<|Ad Z<|AQ Z Z<|AQ Z Z<|Aj Z Z<|Ad Z<|AQ Z Z<|Aj Z Z<|Be Z<|AZ<|Ab Z<|Ab Z<|AJ Z Z<|AT Z<|Br Z<|Az Z Z Z<|Bv Z (by assumption) ?_)
        refine Bz Z (h9 hl4' hkk (by omega)) (fun u d5 L6 hl5 ⟨z1,_,u2,z2,z3⟩=>?_)
        rw[hdk] at z2
        subst z1;subst z2
        obtain⟨la2,lc2,rfl⟩:=z3.val
        rw[Agh]
        clear hdk
        (refine AO Z<|AW Z Z Z Z<|Ae Z<|AV Z<|AZ<|Ab Z<|AI Z Z<|Ad Z<|Bx Z<|Ac Z<|Ad Z<|Ac Z<|Ad Z<|Ac Z<|HV Z Z<|As Z Z<|Be Z<|AE Z<|AI Z Z<|A5 Z<|Av<|Ae Z<|Ae Z<|Bo<|Ag Z ?_)
        refine B9 (_::J) (h14 (t:=t2) (L:=L5)) Z Z ?_
        (refine Ae Z<|AA Z<|AJ Z Z<|AT Z<|Av<|Ab Z<|A4 Z Z<|AU Z ?_)
        exact⟨(i+1,la2,lc2,(CH l key).1),by simp only;omega,⟨Z,Z,Z,Z,Z,Z,trivial⟩,(hle.trans hl4).trans hl5,e,e2,z3,t2,P2,_::J,L5,Z,hp5.mono hl5,hg3.more (by omega)⟩
      ·rw[q1,q1',hwk]
       clear q1 q1'
       generalize (EK t key).1=t2 at hp5 hg3 q3⊢
       have g5':=g5 hp5
       rw[q3] at g5'
       (refine AO Z<|AW Z Z Z Z<|Ad Z<|AR Z<|Ab Z<|AI Z Z<|Ad Z<|Bx Z<|Ac Z<|Ab Z<|Ac Z<|AI Z Z<|As Z Z<|Ad Z<|Bx Z<|Ac Z<|Ab Z<|Ac Z<|Ab Z<|Ac Z<|Au Z Z<|As Z Z<|Ad Z<|Bx Z<|Ac Z<|Ag Z<|Ac Z ?_)
       refine B9 (_::J++[_]) g5' (Akj (_::J) _ L5) Z ?_
       (refine Ac Z<|Ab Z<|Ac Z<|AI Z Z<|As Z Z<|Ad Z<|Bx Z<|Ac Z<|Ad Z<|Ac Z<|Bm Z<|As Z Z<|B7 Z<|Bl<|Av<|Ab Z<|A4 Z Z<|AU Z ?_)
       exact⟨(i+1,la,lc,l),by simp only;omega,⟨Z,Z,Z,Z,Z,Z,trivial⟩,hle.trans hl4,e,e2,hl4',t2,P',_::J,L5,Z,hp5,hg3.more (by omega)⟩
     ·have hF:EK t key=(t,false,2):=by unfold EK;rw[if_pos (by rw[hwk];decide),hwk]
      rw[hF] at hp5⊢
      rw[hwk]
      simp only at hp5⊢
      have hct:=hg2.ok.ct
      (refine AO Z<|AW Z Z Z Z<|Ad Z<|AR Z<|Ab Z<|AI Z Z<|Ad Z<|Bs Z<|AQ Z Z<|Aj Z Z<|Ad Z<|AQ Z Z<|BP Z<|Aj Z Z<|Ad Z<|AQ Z Z<|AQ Z Z<|Aj Z Z<|Ad Z<|AQ Z Z<|Aj Z Z<|Be Z<|AZ<|Ab Z<|Ab Z<|AJ Z Z<|AT Z<|Br Z<|Az Z Z Z<|Bv Z (by assumption) ?_)
      refine Bz Z (h9 hl4' hkk (by omega)) (fun u d5 L6 hl5 ⟨z1,_,u2,z2,z3⟩=>?_)
      subst z1;subst z2
      obtain⟨la2,lc2,rfl⟩:=z3.val
      rw[Agh]
      (refine AO Z<|AW Z Z Z Z<|Ae Z<|AV Z<|AZ<|Ab Z<|AI Z Z<|Ad Z<|Bs Z<|AQ Z Z<|BP Z<|Aj Z Z<|Be Z<|AE Z<|AI Z Z<|AT Z<|A3 Z ?_)
      refine B9 (_::J) (h14 (t:=t) (L:=L5)) Z Z ?_
      (refine Ae Z<|AA Z<|AJ Z Z<|AT Z<|Av<|Ab Z<|A4 Z Z<|AU Z ?_)
      exact⟨(i+1,la,lc,l),by simp only;omega,⟨Z,Z,Z,Z,Z,Z,trivial⟩,(hle.trans hl4).trans hl5,e,e2,RSl.mono (R:=RKv) GG hl4' hl5,t,P',_::J,L5,Z,hp5.mono hl5,hg2.more (by omega)⟩
    ·by_cases k3:kind=3
     ·subst k3
      have g10:∀{d t L},PgT d t dv (pZ bp) L→Ao P f10 [pZ bp] d L (Ret fun r d' L'=>r=vZ 0∧d'=d∧PgT d' t.flush dv (pZ bp) L'):=fun⟨n6,hp6⟩=>Ao.Eb (h10 (s:=wtc _ n6) hp6) (fun r d' L' _ ⟨z1,z2,z3⟩=>⟨d',L',Vs.refl _ _,z1,z2,n6,by rw[ZT] at z3;exact z3⟩)
      have g11:∀{d t L},PgT d t dv (pZ bp) L→Ao P f11 [pZ bp] d L (Ret fun r d' L'=>r=vZ 0∧d'=d∧PgT d' t.done dv (pZ bp) L'):=fun⟨n6,hp6⟩=>Ao.Eb (h11 (s:=wtc _ n6) hp6) (fun r d' L' _ ⟨z1,z2,z3⟩=>⟨d',L',Vs.refl _ _,z1,z2,n6,z3⟩)
      have hct:=hg2.ok.ct
      (refine AR Z<|Az Z Z Z<|An<|Aq<|Ak<|AI Z Z<|AV Z<|BM Z<|Ak<|AI Z Z<|AV Z<|BM Z<|Ak<|AI Z Z<|AV Z<|B2 Z<|A3 Z ?_)
      refine A0 (_::J++[_]) (g10 hp2) (Akj (_::J) _ L2) Z (fun v d4 L4 hl4 ⟨e4,e5,hp5⟩=>?_)
      subst e4;subst e5
      (refine AJ Z Z<|Ad Z<|Bs Z<|Ac Z<|Ag Z<|Ac Z ?_)
      refine A0 (_::J++[_]) (g11 hp5) Z Z (fun v d5 L5 hl5 ⟨e6,e7,hp6⟩=>?_)
      subst e6;subst e7
      rw[show _::J++[tb bt Tt (pZ bp) t.root t.height t.count]++L5=_::(J++tbD bt Tt (pZ bp) t::L5) from(Akj (_::J) _ L5).symm]
      (refine Ac Z<|AJ Z Z<|Aj Z Z<|AT Z<|A3 Z ?_)
      refine B9 (_::J) (h14 (t:=t) (L:=L5)) Z Z ?_
      (refine Ae Z<|AA Z<|AJ Z Z<|AT Z<|Av<|Ab Z<|A4 Z Z<|AU Z ?_)
      exact⟨(i+1,la,lc,l),by simp only;omega,⟨Z,Z,Z,Z,Z,Z,trivial⟩,hle,e,e2,hl,{t with s:=t.s.fin},P',_::J,L5,Z,hp6,hg2.fin.more (by omega)⟩
     ·(refine AR Z<|Az Z Z Z<|An<|Aq<|Ak<|AI Z Z<|AV Z<|BM Z<|Ak<|AI Z Z<|AV Z<|BM Z<|Ak<|AI Z Z<|AV Z<|BM Z<|A3 Z<|Az Z Z Z ?_)
      refine A0 (_::J) (Aef (s:=t.s) (root:=t.root) (h:=t.height) (c:=t.count) (bt:=bt) (Tt:=Tt) h12 hp2 hk (by omega)) Z Z (fun v d4 L4 hl4 ⟨_,u,L5,e1,hu,e3,hp5⟩=>?_)
      subst e1;subst e3
      have hl4':=RSl.mono (R:=RKv) GG hl hl4
      have hk4:=RSl.mono (R:=Ax) AF hk hl4
      have hct:=hg2.ok.ct
      rcases MC (key:=key) with hwk|hwk
      ·have hF:EW ⟨t.s,t.root,t.height,t.count⟩ key=((EN l key).1,(EN l key).2,0):=hg2.ok.FD hwk
       rw[hF] at hu⊢
       rw[hwk]
       simp only at hu⊢
       have hrk:=h13 hl4' hkk
       generalize EN l key=G at hu hrk⊢
       obtain⟨gv,gb⟩:=G
       simp only at hu hrk⊢
       obtain⟨ua,uc,rfl⟩:=hu.val
       (refine AO Z<|AW Z Z Z Z<|Dl Z Z<|Ae Z<|Ad Z<|A7 Z<|Ae Z<|Az Z Z Z<|Bv Z (by assumption) ?_)
       refine BH Z hrk ?_
       cases gb with
       |true=>
        (refine AO Z<|AW Z Z Z Z<|EG Z<|AV Z<|AE Z<|Ab Z<|AJ Z Z<|Ad Z<|Bs Z<|Ac Z<|Ab Z<|Ac Z<|AI Z Z<|Ac Z<|Ad Z<|Bx Z<|Ac Z<|Ad Z<|Ac Z<|Ad Z<|Ac Z<|HV Z Z<|Ac Z<|Ad Z<|Ac Z<|Ae Z<|Ac Z<|Bv Z (by assumption)<|Ac Z<|EG Z<|Ac Z<|SH Z Z<|Ac Z<|Aj Z Z<|Ac Z<|As Z Z<|Aj Z Z<|Ad Z ?_)
        first|refine SL rfl (fun hq=>?_) (fun hq=>?_)|refine UD rfl (fun hq=>?_) (fun hq=>?_)
        ·exact absurd Z hq
        ·clear hq
         (refine Ac Z<|Ab Z<|Ac Z<|AJ Z Z<|Ac Z<|Ad Z<|Bs Z<|AQ Z Z<|Cp Z<|Cp Z<|Cp Z<|BP Z<|Ac Z<|Aj Z Z<|Aj Z Z<|Be Z<|A3 Z ?_)
         refine B9 (_::J) (h14 (t:=t) (L:=L5)) Z Z ?_
         (refine Ae Z<|AA Z<|AJ Z Z<|AT Z<|Av<|Ab Z<|A4 Z Z<|AU Z ?_)
         exact⟨(i+1,la,lc,l),by simp only;omega,⟨Z,Z,Z,Z,Z,Z,trivial⟩,hle.trans hl4,e,e2,hl4',t,P',_::J,L5,Z,hp5,hg2.more (by omega)⟩
       |false=>
        (refine AO Z<|AW Z Z Z Z<|EG Z<|AV Z<|AE Z<|Ab Z<|AJ Z Z<|Ad Z<|Bs Z<|Ac Z<|Ab Z<|Ac Z<|AI Z Z<|Ac Z<|Ad Z<|Bx Z<|Ac Z<|Ad Z<|Ac Z<|Ad Z<|Ac Z<|HV Z Z<|Ac Z<|Ad Z<|Ac Z<|Ae Z<|Ac Z<|Bv Z (by assumption)<|Ac Z<|EG Z<|Ac Z<|SH Z Z<|Ac Z<|Aj Z Z<|Ac Z<|As Z Z<|Aj Z Z<|Ad Z ?_)
        first|refine SL rfl (fun hq=>?_) (fun hq=>?_)|refine UD rfl (fun hq=>?_) (fun hq=>?_)
        ·exact absurd Z hq
        ·clear hq
         (refine Ac Z<|Ab Z<|Ac Z<|AJ Z Z<|Ac Z<|Ad Z<|Bs Z<|AQ Z Z<|Cp Z<|Cp Z<|Cp Z<|BP Z<|Ac Z<|Aj Z Z<|Aj Z Z<|Be Z<|A3 Z ?_)
         refine B9 (_::J) (h14 (t:=t) (L:=L5)) Z Z ?_
         (refine Ae Z<|AA Z<|AJ Z Z<|AT Z<|Av<|Ab Z<|A4 Z Z<|AU Z ?_)
         exact⟨(i+1,la,lc,l),by simp only;omega,⟨Z,Z,Z,Z,Z,Z,trivial⟩,hle.trans hl4,e,e2,hl4',t,P',_::J,L5,Z,hp5,hg2.more (by omega)⟩
      ·have hF:EW ⟨t.s,t.root,t.height,t.count⟩ key=([],false,2):=by unfold EW;rw[if_pos (by rw[hwk];decide),hwk]
       rw[hF] at hu⊢
       rw[hwk]
       simp only at hu⊢
       have hrk:=h13 hl4' hkk
       generalize EN l key=G at hrk
       obtain⟨gv,gb⟩:=G
       simp only at hrk
       obtain⟨ua,uc,rfl⟩:∃ua uc,u=.slice ua 0 uc:=hu.val
       (refine AO Z<|AW Z Z Z Z<|Dl Z Z<|Ae Z<|Ad Z<|A7 Z<|Ae Z<|Az Z Z Z<|Bv Z (by assumption) ?_)
       refine BH Z hrk ?_
       (refine AO Z<|AW Z Z Z Z<|EG Z<|AV Z<|AE Z<|Ab Z<|AJ Z Z<|Ad Z<|Bs Z<|Ac Z<|Ab Z<|Ac Z<|AI Z Z<|Ac Z<|Ad Z<|Bs Z<|AQ Z Z<|AQ Z Z<|Cp Z<|Cp Z<|Cp Z<|Cp Z<|BP Z<|Ac Z<|Aj Z Z<|Aj Z Z<|Ad Z<|Ac Z<|Ab Z<|Ac Z<|AJ Z Z<|Ac Z<|Ad Z<|Bx Z<|Ac Z<|Ad Z<|Ac Z<|Ad Z<|Ac Z<|Ae Z<|Ac Z<|AA Z<|Ac Z<|AJ Z Z<|Ac Z<|Aj Z Z<|Ac Z<|As Z Z<|Aj Z Z<|AT Z<|A3 Z ?_)
       refine B9 (_::J) (h14 (t:=t) (L:=L5)) Z Z ?_
       (refine Ae Z<|AA Z<|AJ Z Z<|AT Z<|Av<|Ab Z<|A4 Z Z<|AU Z ?_)
       exact⟨(i+1,la,lc,l),by simp only;omega,⟨Z,Z,Z,Z,Z,Z,trivial⟩,hle.trans hl4,e,e2,hl4',t,P',_::J,L5,Z,hp5,hg2.more (by omega)⟩
  ·(refine AZ<|Ab Z<|Ae Z<|AA Z<|Au Z Z<|Ad Z<|Bx Z<|Ac Z<|Ab Z<|Ac Z<|Ab Z<|Ac Z<|Au Z Z<|As Z Z<|EY Z<|Bl<|Br Z<|Ae Z<|Cc Z ?_)
   exact A6 [.slice la l.length lc,.bool true] ⟨Af Z,Af Z,trivial⟩ (d':=d') (L':=tbD bt Tt (pZ bp) t::L2) (Vs.drop (Agv J _)) ⟨hle,_,t,l,P',L2,Z,hl,hg2.more (by omega),Z,hp2⟩
 ·(refine AZ<|Ab Z<|Ae Z<|AA Z<|Au Z Z<|Ad Z<|Bs Z<|AQ Z Z<|BP Z<|Aj Z Z<|Jq Z<|Bl<|Br Z<|Ae Z<|Cc Z ?_)
  exact A6 [.slice la l.length lc,.bool true] ⟨Af Z,Af Z,trivial⟩ (d':=d') (L':=tbD bt Tt (pZ bp) t::L2) (Vs.drop (Agv J _)) ⟨hle,_,t,l,P',L2,Z,hl,hg2.more (by omega),Z,hp2⟩
end
end Go.Gk.Tre
end
section
namespace Go.Gk.Tre
open Go Go.Gk Go.Gk.Dev Go.Gk.Cch Go.Gk.Pgr Go.Gk.Chn Go.Gk.Node
def Ab2(a:Int)(m:Nat)(h:0<m):∃k:Nat,(a % 18446744073709551616) % (m:Int)=(k:Int)∧k<m:=by
 have h1:=Int.emod_nonneg (a % 18446744073709551616) (show(m:Int)≠0 by omega);have h2:=Int.emod_lt_of_pos (a % 18446744073709551616) (show(0:Int)<m by omega);exact⟨((a % 18446744073709551616) % (m:Int)).toNat,by omega,by omega⟩
def Gr.empty{n:Nat}(h1:1≤n)(h2:n≤8000):Gr n 0 ⟨pdN n, -1,0,0⟩ [] []:=by
 refine⟨⟨Good.new h1 (by rw[Agk];omega) (by rw[Agk];omega),List.nodup_nil,Z,.inl ⟨Z,Z,Z,Z⟩⟩,fun k=>⟨fun q=>?_,fun q=>(by cases q)⟩,Afe _,fun x hx=>(by cases hx),Hh⟩
 have key:∀x:Int,0≤x→(pdN n).kind k=x→x=0:=fun x hx hk=>by
  obtain⟨i,i1, -,i2, -⟩:=Dm hk hx;have:(pdN n).kd i=0:=by
   show(Ei n []).getD i 0=0;rw[KI,if_neg (fun q=>by cases q.2)]
  omega
 rcases q with q|q
 ·exact absurd (key 1 (by omega) q) (by omega)
 ·exact absurd (key 2 (by omega) q) (by omega)
def P7:∀(l:List KV) (key:List UInt8),∀x∈l.take (BL l key),Lt x.1 key
 |[],key,x,h=>by simp[BL] at h
 |y::l,key,x,h=>by
  rw[BL] at h;by_cases e:Op.bytesLess y.1 key=true
  ·rw[if_pos e,List.take_succ_cons] at h;rcases Afv.1 h with rfl|h
   ·exact e
   ·exact P7 l key x h
  ·rw[if_neg e] at h;cases h
def get_put{l key v}:EN (EM l key v) key=(v,true):=by
 unfold EM;have ha:=P7 (CH l key).1 key;generalize (CH l key).1.take (BL (CH l key).1 key)=a at ha;generalize (CH l key).1.drop (BL (CH l key).1 key)=b;have hf:BL (a++((key,v)::b)) key=a.length:=by rw[H7 ha,BL,if_neg (by simp[Fp])];rfl
 have hg:(a++((key,v)::b)).getD a.length ([],[])=(key,v):=by simp[List.getD]
 rw[show a++[(key,v)]++b=a++((key,v)::b) by simp];have hi:isK (a++((key,v)::b)) key=true:=by
  unfold isK;rw[hf,hg];simp
 unfold EN;rw[if_pos hi,hf,hg]
end Go.Gk.Tre
end
section
namespace Go.Gk.Pgr
open Go Go.Gk Go.Gk.Dev Go.Gk.Cch Go.Gk.Node
attribute [local irreducible] gwp gws xwp
section
variable {P:Program}{pan:List PanicEntry→AP}{Qn:Env→AP}{Ls L:List Aa}{ρ:Env}{d:Aa}{s:GS}{t:Nat}{tk:Bool}
end
end Go.Gk.Pgr
namespace Go.Gk.Tre
open Go Go.Gk Go.Gk.Dev Go.Gk.Cch Go.Gk.Pgr Go.Gk.Chn Go.Gk.Node
attribute [local irreducible] gwp gws xwp
def Tok.tc{t:TD}{l}{P:List Int}(h:Tok t l P)(n:Nat):Tok {t with s:=wtc t.s n} l P:=
 h.same ⟨h.gd.one,h.gd.len,h.gd.inn,h.gd.syn,h.gd.kd⟩ (fun _ _=>⟨Z,Z⟩)
end Go.Gk.Tre
end
section
namespace Go.Gk.Tre
open Go Go.Gk Go.Gk.Dev Go.Gk.Cch Go.Gk.Pgr Go.Gk.Chn Go.Gk.Node
attribute [local irreducible] gwp gws xwp
abbrev ckB(bc:Nat)(Tc:TypeId)(pv:Value)(bm n:Nat):Aa:=bx bc Tc [pv,.map (some bm),.int .i64 (wr n)]
abbrev mpS(bm:Nat)(ms:List (Int×Int×Nat))(c:Nat):Aa:=mp kI kI bm ms c
def Iw(ms:List (Int×Int×Nat))(S:List Int):Prop:=∀k,DV k ms=if k∈S then some 1 else none
def LB{k k' v:Int}{c:Nat}:∀{ms:List (Int×Int×Nat)},DV k' (GO k v c ms)=if k'=k then some v else DV k' ms
 |[]=>by
  rw[GO,DV];rfl
 |p::ms=>by
  rw[GO];by_cases h:k=p.1
  ·rw[if_pos h,DV,DV];by_cases q:k'=k
   ·rw[if_pos q,if_pos (q.trans h)]
   ·rw[if_neg q,if_neg (fun e=>q (e.trans h.symm)),if_neg (fun e=>q (e.trans h.symm))]
  ·rw[if_neg h,DV,DV,LB];by_cases q:k'=k
   ·rw[if_pos q,if_neg (fun e=>h (q.symm.trans e)),if_pos q]
   ·rw[if_neg q,if_neg q]
def Qc(P:Program)(f:FuncId):Prop:=∀{d}{bc bm n c:Nat}{Tc pv}{ms:List (Int×Int×Nat)}{S:List Int}{k:Int}{L},Iw ms S→
 Ao P f [pZ bc,vZ k] d (ckB bc Tc pv bm n::mpS bm ms c::L) (Ret fun v d' L'=>d'=d∧v=.bool (decide (k∉S))∧∃ms' c',L'=ckB bc Tc pv bm n::mpS bm ms' c'::L∧(k∉S→Iw ms' (k::S)))
def Mu:A9:=⟨19,[(.tmp 4)],(sR (o1 4 (.mv (.const (.bool false))) .done) (sR (om 5 0<|o1 6 (.nilc 5)<|oj 7 1 6<|ol 8 7<|om 9 1<|o1 10 (.mop (.lk 0 (vZ 0) false 8 9))<|ob 11 .add 10 z1<|o0 (.mop (.up 0 8 9 11)) .done) (sR (om 12 0<|o1 13 (.nilc 12)<|oj 14 1 13<|ol 15 14<|om 16 1<|o1 17 (.mop (.lk 0 (vZ 0) false 15 16))<|ob 18 .eql 17 z1<|om 4 18 .done) .ret)))⟩
def Acq{P f}(hd:dec P f=some Mu):Qc P f:=by
 intro d bc bm n c Tc pv ms S k L hs;refine Bj hd ?_;have hk:=hs k;by_cases hm:k∈S
 ·rw[if_pos hm] at hk;rw[decide_eq_false (fun q=>q hm)];refine Ak<|AV Z<|A3 Z<|Ap Z<|Az Z Z Z<|Ab Z<|PB (kE:=kI) (vE:=kI) (k:=k) I9 1 Z Z Z hk ?_;(apply LA;rfl;rfl;omega;omega);refine SB (kE:=kI) (vE:=kI) (k:=k) (v:=2) I9 1 Z Z Z Z<|Bo<|Ag Z<|Ap Z<|Az Z Z Z<|Ab Z<|PB (kE:=kI) (vE:=kI) (k:=k) (v:=2) I9 1 Z Z Z (by rw[LB,if_pos Z])<|AI Z Z<|Cc Z<|BZ Z (Afa _) ⟨Z,Z,_,_,Z,fun q=>absurd hm q⟩
 ·rw[if_neg hm] at hk;rw[decide_eq_true hm];(refine Ak<|AV Z<|A3 Z<|Ap Z<|Az Z Z Z<|Ab Z ?_);refine AdK (kE:=kI) (vE:=kI) (k:=k) I9 1 Z Z Z hk ?_;(apply LA;rfl;rfl;omega;omega);refine SB (kE:=kI) (vE:=kI) (k:=k) (v:=1) I9 1 Z Z Z Z ?_;(refine Bo<|Ag Z<|Ap Z<|Az Z Z Z<|Ab Z ?_);refine PB (kE:=kI) (vE:=kI) (k:=k) (v:=1) I9 1 Z Z Z (by rw[LB,if_pos Z]) ?_;(refine AI Z Z<|Cc Z ?_);exact BZ Z (Afa _) ⟨Z,Z,_,_,Z,fun _ k'=>by
   rw[LB];by_cases q:k'=k
   ·rw[if_pos q,if_pos (by rw[q];exact Afn ..)]
   ·rw[if_neg q,hs k'];by_cases r:k'∈S
    ·rw[if_pos r,if_pos (Afr _ r)]
    ·rw[if_neg r,if_neg (fun e=>(Afv.1 e).elim q r)]⟩
def RP{s}{tc size n:Nat}:∀(m:Nat) (k:Int) (l:List Int) (out:List UInt8),Dx {s with tc:=tc} size n k l out m=Dx s size n k l out m
 |0,k,l,out=>rfl
 |m+1,k,l,out=>by
  rw[Dx,Dx];simp only[RP m];rfl
def XT{s}{n:Nat}{k size:Int}:Chn.BU (wtc s n) k size=Chn.BU s k size:=by
 unfold Chn.BU;split
 ·exact RP ..
 ·rfl
def MW(P:Program)(f:FuncId):Prop:=∀{d s}{bc bm n c:Nat}{Tc dv pv w}{ms:List (Int×Int×Nat)}{S:List Int}{b L},PgT d s dv pv L→Iw ms S→Ay d w b→
 Ao P f [pZ bc,w] d (ckB bc Tc pv bm n::mpS bm ms c::L) (Ret fun v d' L'=>Le d d'∧v=vZ (Ep s S b).2∧∃ms' c' L2,L'=ckB bc Tc pv bm n::mpS bm ms' c'::L2∧PgT d' s dv pv L2∧((Ep s S b).2=0→Iw ms' (Ep s S b).1))
def Abk{S:List Int}:GL S []=(S,true):=Z
def LX(a0 a1 a2:Nat):A9:=⟨55,[(.tmp 4)],(sR (o1 4 (.mv z0) .done) (.seq (sR (om 12 1<|oL 13 12<|ob 14 .gtr 13 z0<|om 15 14<|gT 16 15 1<|oT 17 15 (.idx 1 16 z0)<|oT 18 15 (.ld none 17)<|oT 19 15 (.bin .eql 18 (.const (.int .u8 0)))<|gP 20 15 19 .done) (.cond 20 (sR (o1 4 (.mv z0) .done) .ret) .skip)) (sR (om 22 1<|oc 23 a0 [22]<|om 21 23<|oe 24 21 0<|oe 25 21 1<|oe 26 21 2<|om 5 24<|om 6 25<|om 7 26 .done) (.seq (sR (om 27 7<|o1 28 (.un .not 27)<|om 29 28<|gF 30 29 6<|oF 31 29 (.bin .leq 30 (kZ 15))<|o1 32 (.pick 29 (.const (.bool true)) 31) .done) (.cond 32 (sR (o1 4 (.mv (kZ 200)) .done) .ret) .skip)) (sR (om 34 0<|o1 35 (.nilc 34)<|oj 36 0 35<|ol 37 36<|om 38 5<|om 39 6<|oc 40 a1 [37,38,39]<|om 33 40<|oe 41 33 0<|oe 42 33 1<|om 8 41<|om 9 42 .done) (.seq (sR (om 43 8<|oL 44 43<|o1 45 (.mv z0) .done) (.block 0 (.loop (sR (ob 46 .lss 45 44 .done) (.seq (.cond 46 .skip (.exit 0)) (.seq (.block 1 (sR (oI 47 1 43 45<|ol 48 47<|om 11 48 .done) (sR (om 49 0<|om 50 11<|oc 51 a2 [49,50]<|o1 52 (.un .not 51) .done) (.cond 52 (sR (o1 4 (.mv (kZ 200)) .done) .ret) .skip)))) (rG (ob 53 .add 45 z1<|om 45 53 .done)))))))) (sR (om 54 9<|om 4 54 .done) .ret)))))))⟩
set_option maxRecDepth 4000 in
def Xy{P f f1 f2 f3}(hd:dec P f=some (LX f1 f2 f3))(h1:JM P f1)(h2:Rl P f2)(h3:Qc P f3):MW P f:=by
 intro d s bc bm n c Tc dv pv w ms S b L hp hs hw;have hwl:=hw.BW;have hfw:=h1 hw;obtain⟨bp,rfl⟩:∃bp,pv=pZ bp:=hp.ptr;obtain⟨a,c0,rfl⟩:=RSl.val hw;refine Bj hd ?_;by_cases hi:inB b=true
 ·have h0:0<b.length:=by unfold inB at hi;simp at hi;exact hi.1
  have g0:=C5 (b:=b) (i:=0) h0;have e0:b[0]=0:=by unfold inB at hi;rw[g0] at hi;simp at hi;exact hi.2
  have hb0:=Mq (b:=b) Z h0 (n:=0) (by rw[g0,e0];rfl);have hF:Ep s S b=(S,0):=by unfold Ep;rw[if_pos hi]
  rw[hF];clear hi hF;(refine AE Z<|BG<|Ae Z<|AA Z<|Bu Z Z<|Ad Z<|Bx Z<|Ac Z<|Ae Z<|Ac Z<|Bq (sz:=1) (R:=Ax) (by rfl) (by assumption) (by rfl) Z (by omega) ?_;rintro _ _ _ _ _ rfl;refine Ac Z<|Ah Z (BO (by assumption) Z)<|Ac Z<|AI Z Z<|As Z Z<|A5 Z<|AE Z<|BJ ?_);exact BZ Z (Afa _) ⟨Le.refl _,Z,ms,c,L,Z,hp,fun _=>hs⟩
 ·have hi0:inB b=false:=by simpa using hi
  apply Aw;apply Av;apply Ab;rfl;apply An;apply Aw;refine Ji (fun ρ d5 L5=>d5=d∧BN ρ [(0,pZ bc),(1,.slice a b.length c0)]∧L5=ckB bc Tc (pZ bp) bm n::mpS bm ms c::L) ?_ ?_
  ·by_cases h0:0<b.length
   ·have g0:=C5 (b:=b) (i:=0) h0;have e0:b[0]≠0:=fun q=>by unfold inB at hi;rw[g0] at hi;simp[h0,q] at hi
    have hb0:=Mq (b:=b) Z h0 (n:=_) (congrArg UInt8.toNat g0);have hb1:b[0].toNat≠0:=fun q=>e0 (UInt8.toNat_inj.1 q);clear hi hi0;(refine Br Z<|AA Z<|Bu Z Z<|Ad Z<|Bx Z<|Ac Z<|Ae Z<|Ac Z<|Bq (sz:=1) (R:=Ax) (by rfl) (by assumption) (by rfl) Z (by omega) ?_;rintro _ _ _ _ _ rfl;refine Ac Z<|Ah Z (BO (by assumption) Z)<|Ac Z<|AI Z Z<|As Z Z<|AT Z ?_);exact⟨Z,⟨Z,Z,trivial⟩,Z⟩
   ·clear hi hi0;(refine Br Z<|AA Z<|Bu Z Z<|Ad Z<|Bs Z<|AQ Z Z<|AQ Z Z<|Aj Z Z<|Be Z ?_);exact⟨Z,⟨Z,Z,trivial⟩,Z⟩
  rintro ρ d5 L5 ⟨hdd,hsl,hL⟩;subst hdd;subst hL;show gwp P _ _ _ _ _;refine CU _ hsl ?_;clear hsl;cases hf:Fh b with
  |false=>
   have hF:Ep s S b=(S,200):=by unfold Ep;rw[if_neg hi,if_neg (fun q=>by rw[hf] at q;cases q.1)]
   rw[hF]
   rw[hf,if_neg (by decide),if_neg (by decide)] at hfw
   clear hi hi0 hf hF
   (refine Br Z ?_)
   refine BH Z hfw ?_
   (refine AO Z<|AW Z Z Z Z<|Dl Z Z<|Ab Z<|Ab Z<|AV Z<|AZ<|Ad Z<|Bm Z<|Ad Z<|AQ Z Z<|As Z Z<|B7 Z<|AE Z<|BJ ?_)
   exact BZ Z (Afa _) ⟨Le.refl _,Z,ms,c,L,Z,hp,fun q=>absurd (show(200:Int)=0 from q) (by decide)⟩
  |true=>
   rw[hf,if_pos Z,if_pos Z] at hfw
   by_cases h15:(Ec b:Int)≤15
   ·have hF:Ep s S b=(S,200):=by unfold Ep;rw[if_neg hi,if_neg (fun q=>by omega)]
    rw[hF]
    clear hi hi0 hf hF
    (refine Br Z ?_)
    refine BH Z hfw ?_
    (refine AO Z<|AW Z Z Z Z<|Dl Z Z<|Ab Z<|Ab Z<|AV Z<|AZ<|Ad Z<|Bm Z<|Ad Z<|Ac Z<|Ab Z<|Ac Z<|G3 Z Z<|Aj Z Z<|A5 Z<|AE Z<|BJ ?_)
    exact BZ Z (Afa _) ⟨Le.refl _,Z,ms,c,L,Z,hp,fun q=>absurd (show(200:Int)=0 from q) (by decide)⟩
   ·obtain⟨R,hR⟩:∃R,BU s (EX b) (Ec b)=R:=⟨_,Z⟩
    have hF:Ep s S b=((GL S R.1).1,if (GL S R.1).2=true then R.2.2 else 200):=by unfold Ep;rw[if_neg hi,if_pos ⟨hf,by omega⟩,hR]
    rw[hF]
    clear hi hi0 hf hF
    (refine Br Z ?_)
    refine BH Z hfw ?_
    (refine AO Z<|AW Z Z Z Z<|Dl Z Z<|Ab Z<|Ab Z<|AV Z<|AZ<|Ad Z<|Bm Z<|Ad Z<|Ac Z<|Ab Z<|Ac Z<|G3 Z Z<|Aj Z Z<|AT Z<|A3 Z<|Ap Z<|Az Z Z Z<|Ab Z<|Ab Z ?_)
    obtain⟨n0,hp0⟩:=hp
    refine A0 [_,_] (h2 (k:=EX b) (size:=Ec b) hp0) Z Z (fun v d2 L2 hl ⟨_,u,tc,e1,hu,hp2⟩=>?_)
    rw[XT,hR] at e1 hu
    subst e1
    obtain⟨ua,uc,rfl⟩:=RSl.val hu
    have hp2:Pg d2 (wtc s tc) dv (pZ bp) L2:=hp2
    obtain⟨l,o,e⟩:=R
    simp only at hu⊢
    have hll:=RSl.BW hu
    (refine AO Z<|AW Z Z Z Z<|Ae Z<|AR Z<|Ae Z<|AA Z<|AU Z<|Aq ?_)
    obtain⟨R,hR2⟩:∃R,GL S l=R:=⟨_,Z⟩
    rw[hR2]
    clear hR
    refine Cs (α:=Nat×List Int×List (Int×Int×Nat)×Nat) (fun x=>[(0,pZ bc),(9,vZ e),(43,.slice ua l.length uc),(44,vZ l.length),(45,vZ x.1)])
     (fun x d' L'=>d'=d2∧x.1≤l.length∧GL x.2.1 (l.drop x.1)=R∧Iw x.2.2.1 x.2.1∧L'=ckB bc Tc (pZ bp) bm n::mpS bm x.2.2.1 x.2.2.2::L2) (fun x=>l.length - x.1) (0,S,ms,c) ⟨Z,Z,Z,Z,Z,trivial⟩ ⟨Z,Agd _,hR2,hs,Z⟩ ?_
    rintro⟨i,S1,ms1,c1⟩ ρ d' L' ⟨rfl,hi,hS1,hs1,rfl⟩
    simp only at hi hS1 hs1⊢
    by_cases e1:i<l.length
    ·rw[Afy e1,GL] at hS1
     (refine Ak<|Au Z Z<|By<|B2 Z<|AH<|Aw<|Aq<|Ak<|Bq (sz:=1) (R:=Bh) (by rfl) (by assumption) (by rfl) Z (by omega) ?_;rintro _ _ _ _ _ ⟨rfl,_,_⟩;refine Ah Z (BO (by assumption) Z)<|A7 Z<|Ag Z<|Ab Z ?_)
     by_cases hm:l[i]∈S1
     ·rw[if_pos hm] at hS1
      subst hS1
      skip
      refine A0 [] (h3 (L:=L2) (k:=l[i]) (n:=n) (c:=c1) hs1) Z Z (fun v d4 L4 hl4 ⟨q1,q2,ms4,c4,q3,_⟩=>?_)
      rw[decide_eq_false (fun q=>q hm)] at q2
      subst q1;subst q2;subst q3
      rw[if_neg (by simp)]
      (refine Bm Z<|B7 Z<|AE Z<|BJ ?_)
      exact BZ Z (Afa _) ⟨hl,Z,_,_,L2,Z,⟨tc,hp2⟩,fun q=>absurd (show(200:Int)=0 from q) (by decide)⟩
     ·rw[if_neg hm] at hS1
      skip
      refine A0 [] (h3 (L:=L2) (k:=l[i]) (n:=n) (c:=c1) hs1) Z Z (fun v d4 L4 hl4 ⟨q1,q2,ms4,c4,q3,hs4⟩=>?_)
      rw[decide_eq_true hm] at q2
      subst q1;subst q2;subst q3
      (refine Bm Z<|Be Z<|Av<|A4 Z Z<|AU Z ?_)
      exact⟨(i+1,l[i]::S1,ms4,c4),by show l.length - (i+1)<l.length - i;omega,⟨Z,Z,Z,Z,Z,trivial⟩,Z,e1,hS1,hs4 hm,Z⟩
    ·rw[Aju (by omega),Abk] at hS1
     subst hS1
     rw[if_pos Z]
     (refine Ak<|Au Z Z<|By<|BM Z<|Bl<|AE Z<|AS Z ?_)
     exact BZ Z (Afa _) ⟨hl,Z,_,_,L2,Z,⟨tc,hp2⟩,fun _=>hs1⟩
section
def Gy(s:PD)(lf:Bool)(fr to:List UInt8)(ks vs:List (List UInt8))(S:List Int)(n:Nat):CR:=if lf=true then Iz s fr to ks vs S n else⟨S,n,if ks.any (Hb fr to)=true then 200 else 0⟩
def W2{s}{g:Nat}{page h:Int}{fr to}{S:List Int}{n:Nat}{nd:AB}(he:(AM s page h).2=0)(hn:(AM s page h).1=nd):
  Cy s (g+1) page h fr to S n=if page∈S∨nd.keys=[] then⟨S,n,200⟩ else
   if (Gy s nd.leaf fr to nd.keys nd.vals (page::S) n).e≠0 then Gy s nd.leaf fr to nd.keys nd.vals (page::S) n else
   GH (fun c lo hi S n=>Cy s g c (h - 1) lo hi S n) fr to nd.keys nd.kids (Gy s nd.leaf fr to nd.keys nd.vals (page::S) n).S (Gy s nd.leaf fr to nd.keys nd.vals (page::S) n).n:=by
 have hr:=(F7 he).1
 have hs:Bd (AM s page h).1=true:=by simp only[Bt,Afb] at hr;exact hr.1
 rw[Cy,if_neg (fun q=>q he)]
 rw[hn] at hs⊢
 by_cases h1:page∈S∨nd.keys=[]
 ·rw[if_pos h1,if_pos h1]
 rw[if_neg h1,if_neg h1]
 unfold Gy
 by_cases h2:nd.leaf=true
 ·rw[if_pos h2,if_pos h2]
  have hk:nd.kids=[]:=by rw[D2 hs h2]
  rw[hk,GH]
  generalize Iz s fr to nd.keys nd.vals (page::S) n=W
  by_cases h3:W.e≠0
  ·rw[if_pos h3]
  ·rw[if_neg h3]
   obtain⟨S',n',e'⟩:=W
   simp only[ne_eq,Decidable.not_not] at h3
   rw[h3]
 ·rw[if_neg h2,if_neg h2]
  by_cases h3:nd.keys.any (Hb fr to)=true
  ·rw[if_pos h3,if_pos h3];rfl
  ·rw[if_neg h3,if_neg h3];rfl
def AcV{s}{lf:Bool}{fr to}{S:List Int}{n:Nat}{vs}:Gy s lf fr to [] vs S n=⟨S,n,0⟩:=by
 unfold Gy;cases lf
 ·rfl
 ·cases vs<;>rfl
section
variable {s:PD}{nd:AB}{fr to:List UInt8}{S:List Int}{n i:Nat}
def Wl(hi:i<nd.keys.length)(hlv:nd.leaf=true→nd.vals.length=nd.keys.length)(h:Hb fr to nd.keys[i]=true):(Gy s nd.leaf fr to (nd.keys.drop i) (nd.vals.drop i) S n).e=200:=by
 rw[Afy hi];unfold Gy;by_cases hl:nd.leaf=true
 ·have hv:i<nd.vals.length:=by rw[hlv hl];exact hi
  rw[if_pos hl,Afy hv,Iz,if_pos h]
 ·rw[if_neg hl,List.any_cons,h];rfl
def Z0(hl:nd.leaf=true)(hi:i<nd.keys.length)(hv:i<nd.vals.length)(h:Hb fr to nd.keys[i]=false):Gy s nd.leaf fr to (nd.keys.drop i) (nd.vals.drop i) S n=
  if (Ep s S nd.vals[i]).2≠0 then⟨S,n,(Ep s S nd.vals[i]).2⟩ else Gy s nd.leaf fr to (nd.keys.drop (i+1)) (nd.vals.drop (i+1)) (Ep s S nd.vals[i]).1 (n+1):=by
 rw[Afy hi,Afy hv]
 unfold Gy
 rw[if_pos hl,if_pos hl,Iz,if_neg (by rw[h];decide)]
def Zq(hl:¬nd.leaf=true)(hi:i<nd.keys.length)(h:Hb fr to nd.keys[i]=false):Gy s nd.leaf fr to (nd.keys.drop i) (nd.vals.drop i) S n=Gy s nd.leaf fr to (nd.keys.drop (i+1)) (nd.vals.drop (i+1)) S n:=by
 rw[Afy hi];unfold Gy;rw[if_neg hl,if_neg hl,List.any_cons,h,Bool.false_or]
end
def RSl.some{α}{sz:Nat}{R d a}{n c:Nat}{xs:List α}(h:RSl sz R d (.slice a n c) xs)(hn:n≠0):∃b o,a=some ⟨b,o,none⟩:=by
 obtain⟨a',c',b,o,e,h1,_⟩:=h;injection e with e1 e2 e3
 subst e1;subst e2;exact⟨b,o,h1 hn⟩
def Adm{fr to k}(h:Lib.compareBytes k fr<0):Hb fr to k=true:=by
 unfold Hb;rw[(Gl _ _).1 h];rfl
def AdP{fr to k}(h0:to≠[])(h:¬Lib.compareBytes k to<0):Hb fr to k=true:=by
 unfold Hb;have h1:Op.bytesLess k to=false:=by
  cases q:Op.bytesLess k to with
  |true=>exact absurd ((Gl _ _).2 q) h
  |false=>rfl
 rw[h1];cases to with
 |nil=>exact absurd Z h0
 |cons=>simp
def YL{fr to k}(h:¬Lib.compareBytes k fr<0)(h2:to=[]∨Lib.compareBytes k to<0):Hb fr to k=false:=
 Ud (fun q=>h ((Gl _ _).2 q)) (h2.imp id (fun q=>(Gl _ _).1 q))
def loI(nd:AB)(fr to:List UInt8)(i:Nat):List UInt8:=if i=0 then fr else(nd.keys.drop (i - 1)).headD to
def Xu(P:Program)(f:FuncId):Prop:=∀(g:Nat) {d s}{bc bm n c:Nat}{Tc dv pv fv tv}{ms:List (Int×Int×Nat)}{S:List Int}{page h:Int}{fr to L},PgT d s dv pv L→Iw ms S→Ay d fv fr→Ay d tv to→(to=[]→tv=nV)→
 (Cy s g page h fr to S n).e≠99999→(g:Int) - 1000000000≤h→h≤1000000000→
 Ao P f [pZ bc,vZ page,vZ h,fv,tv] d (ckB bc Tc pv bm n::mpS bm ms c::L) (Ret fun v d' L'=>Le d d'∧v=vZ (Cy s g page h fr to S n).e∧∃ms' c' n' L2,L'=ckB bc Tc pv bm n'::mpS bm ms' c'::L2∧PgT d' s dv pv L2∧
  ((Cy s g page h fr to S n).e=0→Iw ms' (Cy s g page h fr to S n).S∧n'=(Cy s g page h fr to S n).n))
def LK(a0 a1 a2 a3 a4:Nat):A9:=⟨125,[(.tmp 10)],(sR (o1 10 (.mv z0) .done) (sR (om 22 0<|o1 23 (.nilc 22)<|oj 24 0 23<|ol 25 24<|om 26 1<|om 27 2<|oc 28 a0 [25,26,27]<|om 21 28<|oe 29 21 0<|oe 30 21 1<|o1 11 (.alo (.agg #[(.bool false),nV,nV,nV]))<|o0 (.st 4 11 29)<|om 12 30 .done) (.seq (sR (om 31 12<|ob 32 .neq 31 z0 .done) (.cond 32 (sR (om 33 12<|om 10 33 .done) .ret) .skip)) (.seq (sR (om 34 0<|om 35 1<|oc 36 a1 [34,35]<|o1 37 (.un .not 36)<|om 38 37<|oF 39 38 (.fld 1 11)<|oF 40 38 (.ld none 39)<|oF 41 38 (.len 40)<|oF 42 38 (.bin .eql 41 z0)<|o1 43 (.pick 38 (.const (.bool true)) 42) .done) (.cond 43 (sR (o1 10 (.mv (kZ 200)) .done) .ret) .skip)) (.seq (sR (oj 44 1 11<|ol 45 44<|oL 46 45<|o1 47 (.mv z0) .done) (.block 0 (.loop (sR (ob 48 .lss 47 46 .done) (.seq (.cond 48 .skip (.exit 0)) (.seq (.block 1 (sR (om 49 47<|oI 50 1 45 47<|ol 51 50<|om 13 49<|om 14 51 .done) (.seq (sR (om 52 14<|om 53 3<|oc 54 a2 [52,53]<|ob 55 .lss 54 z0<|om 56 55<|gF 57 56 4<|oF 58 56 (.eqs true 57 nS)<|gF 59 56 58<|gT 60 59 14<|gT 61 59 4<|oT 62 59 (.call a2 [60,61])<|oT 63 59 (.bin .geq 62 z0)<|oF 64 56 (.pick 59 63 (.const (.bool false)))<|o1 65 (.pick 56 (.const (.bool true)) 64) .done) (.cond 65 (sR (o1 10 (.mv (kZ 200)) .done) .ret) .skip)) (sR (oj 66 0 11<|ol 67 66 .done) (.cond 67 (sR (om 68 0<|o1 69 (.nilc 68)<|oj 70 2 69<|ol 71 70<|ob 72 .add 71 z1<|o1 73 (.nilc 68)<|oj 74 2 73<|o0 (.st 1 74 72) .done) (sR (om 75 0<|oj 76 2 11<|ol 77 76<|om 78 13<|oI 79 1 77 78<|ol 80 79<|oc 81 a3 [75,80]<|om 15 81 .done) (sR (om 82 15<|ob 83 .neq 82 z0 .done) (.cond 83 (sR (om 84 15<|om 10 84 .done) .ret) .skip)))) .skip))))) (rG (ob 85 .add 47 z1<|om 47 85 .done)))))))) (.seq (sR (oj 86 3 11<|ol 87 86<|oL 88 87<|o1 89 (.mv z0) .done) (.block 2 (.loop (sR (ob 90 .lss 89 88 .done) (.seq (.cond 90 .skip (.exit 2)) (.seq (.block 3 (sR (om 91 89<|oI 92 1 87 89<|ol 93 92<|om 16 91<|om 17 93 .done) (sR (om 94 3<|om 95 4<|om 18 94<|om 19 95 .done) (.seq (sR (om 96 16<|ob 97 .gtr 96 z0 .done) (.cond 97 (rG (oj 98 1 11<|ol 99 98<|om 100 16<|ob 101 .sub 100 z1<|oI 102 1 99 101<|ol 103 102<|om 18 103 .done)) .skip)) (.seq (sR (om 104 16<|oj 105 1 11<|ol 106 105<|oL 107 106<|ob 108 .lss 104 107 .done) (.cond 108 (rG (oj 109 1 11<|ol 110 109<|om 111 16<|oI 112 1 110 111<|ol 113 112<|om 19 113 .done)) .skip)) (sR (om 114 0<|om 115 17<|om 116 2<|ob 117 .sub 116 z1<|om 118 18<|om 119 19<|oc 120 a4 [114,115,117,118,119]<|om 20 120 .done) (sR (om 121 20<|ob 122 .neq 121 z0 .done) (.cond 122 (sR (om 123 20<|om 10 123 .done) .ret) .skip)))))))) (rG (ob 124 .add 89 z1<|om 89 124 .done)))))))) (sR (o1 10 (.mv z0) .done) .ret)))))))⟩
set_option maxRecDepth 4000 in
set_option maxHeartbeats 1000000 in
def AdW{P f f1 f2 f3 f4}(hd:dec P f=some (LK f1 f2 f3 f4 f))(h1:NU P f1)(h2:Qc P f2)(h3:Gn P f3)(h4:MW P f4):Xu P f:=by
 intro g;induction g with
 |zero=>intro d s bc bm n c Tc dv pv fv tv ms S page h fr to L _ _ _ _ _ hx;exact absurd Z hx
 |succ g ih=>
 intro d s bc bm n c Tc dv pv fv tv ms S page h fr to L hp hs hf ht htn hx hlo hhi;obtain⟨pb,rfl⟩:=hp.ptr;obtain⟨fa,fc,rfl⟩:=RSl.val hf;obtain⟨ta,tc0,rfl⟩:=RSl.val ht;have hfl:=RSl.BW hf;have htl:=RSl.BW ht;refine Bj hd<|AE Z<|Bo<|Ag Z<|Ap Z<|Az Z Z Z<|Ab Z<|Ab Z ?_;obtain⟨n0,hp⟩:=hp;refine A0 [_,_] (h1 (k:=page) (x:=h) hp) Z Z (fun v d2 L2 hl ⟨_,cs,tc,e1,hn,hp2,_⟩=>?_);subst e1;rw[show AM (wtc s n0) page h=AM s page h from Z] at hn⊢;have hp2:PgT d2 s dv (pZ pb) L2:=⟨tc,hp2⟩
 obtain⟨xa,xc,ya,yc,za,zc,rfl⟩:=Cz.four hn;(refine AO Z<|AW Z Z Z Z<|B8 (fun _ _=>?_));rename_i b11 T11;refine Bb 0 [.bool (AM s page h).1.leaf,.slice xa (AM s page h).1.keys.length xc,.slice ya (AM s page h).1.vals.length yc,.slice za (AM s page h).1.kids.length zc] Z Z Z Z (Aff Z) Z Z ?_;by_cases he:(AM s page h).2=0
 ·obtain⟨hr,hlf⟩:=F7 he;obtain⟨nd,hne⟩:∃nd,(AM s page h).1=nd:=⟨_,Z⟩
  have hF:=W2 (g:=g) (fr:=fr) (to:=to) (S:=S) (n:=n) he hne;rw[hF] at hx⊢;rw[he];rw[hne] at hn hr hlf⊢;have hlv:nd.leaf=true→nd.vals.length=nd.keys.length:=HA hr;have hkb:∀k∈nd.keys,k≠[]:=fun k hk q=>by
   have hsd:Bd nd=true:=by simp only[Bt,Afb] at hr;exact hr.1
   have hko:KO nd.keys:=by simp only[Bd,Afb] at hsd;exact MP.1 hsd.1
   have:=(hko.1 k hk).1;rw[q] at this;simp at this
  have hlk:nd.kids.length≤nd.keys.length+1:=by
   cases q:nd.leaf with
   |false=>rw[GB hr q];exact Afe _
   |true=>
    have hsd:Bd nd=true:=by simp only[Bt,Afb] at hr;exact hr.1
    rw[D2 hsd q];exact Agd _
  clear hr hF;(refine AR Z<|Ab Z<|AJ Z Z<|EY Z ?_);apply AH;refine AZ<|Ag Z<|Ab Z<|B1 d2 (bx b11 T11 [.bool nd.leaf,.slice xa nd.keys.length xc,.slice ya nd.vals.length yc,.slice za nd.kids.length zc]::ckB bc Tc (pZ pb) bm n::mpS bm ms c::L2) (Vs.refl _ _)<|HZ (fun d6 hl6 hg6=>?_);replace hg6:=Nf hg6;have hp6:=hp2.mono hl6;have hf6:RSl 1 Ax d6 (.slice fa fr.length fc) fr:=RSl.mono (R:=Ax) AF hf (hl.trans hl6);have ht6:RSl 1 Ax d6 (.slice ta to.length tc0) to:=RSl.mono (R:=Ax) AF ht (hl.trans hl6);obtain⟨kv,vv,iv,q,r1,r2,r3⟩:=hn;cases q;have r1:RSl 1 RBs d6 (.slice xa nd.keys.length xc) nd.keys:=RSl.mono (R:=RBs) CY r1 hl6;have r2:RSl 1 RBs d6 (.slice ya nd.vals.length yc) nd.vals:=RSl.mono (R:=RBs) CY r2 hl6;have r3:RSl 1 Bh d6 (.slice za nd.kids.length zc) nd.kids:=RSl.mono (R:=Bh) Ck r3 hl6;have n1:=r1.BW;have n3:=r3.BW;clear hf ht hp2;refine A0 [] (h2 (L:=L2) (k:=page) (n:=n) (c:=c) hs) Z Z (fun v d7 L7 hl7 ⟨q1,q2,ms7,c7,q3,hs7⟩=>?_);subst q1;subst q3;by_cases hm:page∈S
  ·rw[decide_eq_false (fun q=>q hm)] at q2;subst q2;rw[if_pos (.inl hm)];clear hx;refine Bm Z<|Ad Z<|AQ Z Z<|AQ Z Z<|As Z Z<|B7 Z<|AE Z<|BJ<|A6 [vZ 200] ⟨Af Z,trivial⟩ (d':=d7) (L':=ckB bc Tc (pZ pb) bm n::mpS bm ms7 c7::L2) (Vs.refl _ _) ⟨hl.trans hl6,Z,ms7,c7,n,L2,Z,hp6,fun q=>absurd (show(200:Int)=0 from q) (by decide)⟩
  rw[decide_eq_true hm] at q2;subst q2;have hs7:=hs7 hm;by_cases hk0:nd.keys.length=0
  ·rw[if_pos (.inr (Afl hk0))];clear hx;refine Bm Z<|Ad Z<|Ac Z<|Am Z<|Ac Z<|Ah Z (Cr (by assumption) Z)<|Ac Z<|AA Z<|Ac Z<|AI Z Z<|Aj Z Z<|A5 Z<|AE Z<|BJ<|A6 [vZ 200] ⟨Af Z,trivial⟩ (d':=d7) (L':=ckB bc Tc (pZ pb) bm n::mpS bm ms7 c7::L2) (Vs.refl _ _) ⟨hl.trans hl6,Z,ms7,c7,n,L2,Z,hp6,fun q=>absurd (show(200:Int)=0 from q) (by decide)⟩
  rw[if_neg (fun q=>q.elim hm (fun e=>hk0 (by rw[e];rfl)))] at hx⊢;obtain⟨W,hW⟩:∃W,Gy s nd.leaf fr to nd.keys nd.vals (page::S) n=W:=⟨_,Z⟩
  rw[hW] at hx⊢;obtain⟨R,hR⟩:∃R,(if W.e≠0 then W else GH (fun c lo hi S n=>Cy s g c (h - 1) lo hi S n) fr to nd.keys nd.kids W.S W.n)=R:=⟨_,Z⟩
  rw[hR] at hx⊢;refine Bm Z<|Ad Z<|Ac Z<|Am Z<|Ac Z<|Ah Z (Cr (by assumption) Z)<|Ac Z<|AA Z<|Ac Z<|AI Z Z<|Aj Z Z<|AT Z<|AZ<|Am Z<|Ah Z (Cr (by assumption) Z)<|AA Z<|AU Z<|Aq<|Cs (α:=Nat×List Int×Nat×List (Int×Int×Nat)×Nat) (fun x=>[(0,pZ bc),(2,vZ h),(3,.slice fa fr.length fc),(4,.slice ta to.length tc0),(11,pZ b11),(45,.slice xa nd.keys.length xc),(46,vZ nd.keys.length),(47,vZ x.1)])
   (fun x d' L'=>Le d7 d'∧x.1≤nd.keys.length∧Gy s nd.leaf fr to (nd.keys.drop x.1) (nd.vals.drop x.1) x.2.1 x.2.2.1=W∧Iw x.2.2.2.1 x.2.1∧∃L3,PgT d' s dv (pZ pb) L3∧L'=ckB bc Tc (pZ pb) bm x.2.2.1::mpS bm x.2.2.2.1 x.2.2.2.2::L3)
   (fun x=>nd.keys.length - x.1) (0,page::S,n,ms7,c7) ⟨Z,Z,Z,Z,Z,Z,Z,Z,trivial⟩ ⟨Le.refl _,Agd _,hW,hs7,L2,hp6,Z⟩ ?_
  rintro⟨i,S1,n1',ms1,c1⟩ ρ d8 Lx ⟨hl8,hi,hWi,hs1,L3,hp8,hL⟩;simp only at hi hWi hs1 hp8 hL⊢;subst hL;have hg8:=hg6.mono hl8;have k1:RSl 1 RBs d8 (.slice xa nd.keys.length xc) nd.keys:=RSl.mono (R:=RBs) CY r1 hl8;have k2:RSl 1 RBs d8 (.slice ya nd.vals.length yc) nd.vals:=RSl.mono (R:=RBs) CY r2 hl8;have hf8:RSl 1 Ax d8 (.slice fa fr.length fc) fr:=RSl.mono (R:=Ax) AF hf6 hl8;have ht8:RSl 1 Ax d8 (.slice ta to.length tc0) to:=RSl.mono (R:=Ax) AF ht6 hl8;by_cases e1:i<nd.keys.length
  ·apply Aw;apply Av;(refine Au Z Z<|An ?_);apply Aw;refine EO Z (by omega) ?_;apply AH;apply Aw;apply Aq;apply Aw;apply Av;(refine Ab Z<|Bq (sz:=1) (R:=RBs) (by rfl) (by assumption) (by rfl) Z (by omega) ?_;rintro _ _ _ _ _ ⟨_,rfl,_⟩;refine Ah Z (BO (by assumption) Z)<|Ab Z<|AK<|An ?_);show gwp P _ _ _ _ _;apply Aw;refine Ji (fun ρ d9 L9=>d9=d8∧BN ρ [(0,pZ bc),(2,vZ h),(3,.slice fa fr.length fc),(4,.slice ta to.length tc0),(11,pZ b11),(13,vZ i),(45,.slice xa nd.keys.length xc),(46,vZ nd.keys.length),(47,vZ i)]∧
    L9=ckB bc Tc (pZ pb) bm n1'::mpS bm ms1 c1::L3∧Hb fr to nd.keys[i]=false) ?_ ?_
   ·by_cases c2:Lib.compareBytes nd.keys[i] fr<0
    ·have hRe:R.e=200:=by
      have hWe:W.e=200:=by rw[←hWi];exact Wl e1 hlv (Adm c2)
      rw[←hR,if_pos (by rw[hWe];decide),hWe]
     clear hR hWi hx;refine Ak<|AK<|Ae Z<|BH Z (h3 (show Ay _ _ nd.keys[i] by assumption) hf8)<|Au Z Z<|Ad Z<|Bx Z<|AQ Z Z<|BP Z<|Cp Z<|Cp Z<|Cp Z<|Cp Z<|BP Z<|As Z Z<|B7 Z<|AE Z<|BJ<|A6 [vZ 200] ⟨Af Z,trivial⟩ (d':=d8) (L':=ckB bc Tc (pZ pb) bm n1'::mpS bm ms1 c1::L3) (Vs.refl _ _) ⟨(hl.trans hl6).trans hl8,by rw[hRe];rfl,ms1,c1,n1',L3,Z,hp8,fun q=>by rw[hRe] at q;exact absurd q (by decide)⟩
    by_cases hto:to=[]
    ·have hout:=YL (to:=to) c2 (.inl hto);have htv:=htn hto;injection htv with t1 t2 t3
     subst t1;clear hR hWi hx;refine Ak<|AK<|Ae Z<|BH Z (h3 (show Ay _ _ nd.keys[i] by assumption) hf8)<|Au Z Z<|Ad Z<|Bs Z<|Ac Z<|Ae Z<|Ac Z<|PY Z Z<|Ac Z<|Ad Z<|AQ Z Z<|AQ Z Z<|Ac Z<|Aj Z Z<|Aj Z Z<|Be Z ?_;exact⟨Z,⟨Z,Z,Z,Z,Z,Z,Z,Z,Z,trivial⟩,Z,hout⟩
    ·obtain⟨tb,tf,hta⟩:=RSl.some ht8 (fun q=>hto (Afl q));subst hta;by_cases c3:Lib.compareBytes nd.keys[i] to<0
     ·have hout:=YL (to:=to) c2 (.inr c3);clear hR hWi hx;refine Ak<|AK<|Ae Z<|BH Z (h3 (show Ay _ _ nd.keys[i] by assumption) hf8)<|Au Z Z<|Ad Z<|Bs Z<|Ac Z<|Ae Z<|Ac Z<|Nh Z Z<|Ac Z<|Ad Z<|Ac Z<|AK<|Ac Z<|Ae Z<|Ac Z<|BH Z (h3 (show Ay _ _ nd.keys[i] by assumption) ht8)<|Ac Z<|Dk Z Z<|Ac Z<|As Z Z<|Aj Z Z<|AT Z ?_;exact⟨Z,⟨Z,Z,Z,Z,Z,Z,Z,Z,Z,trivial⟩,Z,hout⟩
     ·have hRe:R.e=200:=by
       have hWe:W.e=200:=by rw[←hWi];exact Wl e1 hlv (AdP hto c3)
       rw[←hR,if_pos (by rw[hWe];decide),hWe]
      clear hR hWi hx;refine Ak<|AK<|Ae Z<|BH Z (h3 (show Ay _ _ nd.keys[i] by assumption) hf8)<|Au Z Z<|Ad Z<|Bs Z<|Ac Z<|Ae Z<|Ac Z<|Nh Z Z<|Ac Z<|Ad Z<|Ac Z<|AK<|Ac Z<|Ae Z<|Ac Z<|BH Z (h3 (show Ay _ _ nd.keys[i] by assumption) ht8)<|Ac Z<|Dk Z Z<|Ac Z<|As Z Z<|Aj Z Z<|A5 Z<|AE Z<|BJ<|A6 [vZ 200] ⟨Af Z,trivial⟩ (d':=d8) (L':=ckB bc Tc (pZ pb) bm n1'::mpS bm ms1 c1::L3) (Vs.refl _ _) ⟨(hl.trans hl6).trans hl8,by rw[hRe];rfl,ms1,c1,n1',L3,Z,hp8,fun q=>by rw[hRe] at q;exact absurd q (by decide)⟩
   rintro ρ d9 L9 ⟨hdd,hsl,hL,hout⟩;subst hdd;subst hL;show gwp P _ _ _ _ _;refine CU _ hsl ?_;clear hsl;by_cases hleaf:nd.leaf=true
   ·have hv1:i<nd.vals.length:=by rw[hlv hleaf];exact e1
    rw[Z0 hleaf e1 hv1 hout] at hWi;rewrite [hleaf] at hg8;refine Ak<|Am Z<|Ah Z (Cr (by assumption) Z)<|B7 Z<|A3 Z<|Ap Z<|Az Z Z Z<|KB (n:=n1') Z Z<|Ap Z<|Am Z<|Bb 0 [pZ pb,.map (some bm),vZ (wr (n1'+1))] Z Z Z Z (Aff Z) Z Z ?_;(refine Bo<|Ag Z<|Am Z<|Ah Z (Cr (by assumption) Z)<|Ab Z<|Bq (sz:=1) (R:=RBs) (by rfl) (by assumption) (by rfl) Z (by omega) ?_;rintro _ _ _ _ _ ⟨_,rfl,_⟩;apply Ah;rfl;exact BO (by assumption) Z);refine B1 d9 (ckB bc Tc (pZ pb) bm (n1'+1)::mpS bm ms1 c1::L3) (Vs.refl _ _)<|A0 [] (h4 (L:=L3) (n:=n1'+1) (c:=c1) hp8 hs1 (show Ay d9 _ nd.vals[i] by assumption)) Z Z (fun v d10 L10 hl10 ⟨_,q2,ms10,c10,L11,q3,hp11,hs11⟩=>?_);subst q2;subst q3;obtain⟨C,hC⟩:∃C,Ep s S1 nd.vals[i]=C:=⟨_,Z⟩
    rw[hC] at hs11 hWi⊢;by_cases hc0:C.2=0
    ·rw[if_neg (fun q=>q hc0)] at hWi;rw[hc0];(refine A7 Z<|Ab Z<|AJ Z Z<|AT Z<|Av<|A4 Z Z<|AU Z ?_);exact⟨(i+1,C.1,n1'+1,ms10,c10),by show nd.keys.length - (i+1)<nd.keys.length - i;omega,⟨Z,Z,Z,Z,Z,Z,Z,Z,trivial⟩,hl8.trans hl10,e1,hWi,hs11 hc0,L11,hp11,Z⟩
    ·rw[if_pos hc0] at hWi;have hRe:R.e=C.2:=by
      have hWe:W.e=C.2:=by rw[←hWi]
      rw[←hR,if_pos (by rw[hWe];exact hc0),hWe]
     clear hR hWi hx;refine A7 Z<|Ab Z<|AJ Z Z<|A5 Z<|AE Z<|AS Z<|A6 [vZ C.2] ⟨Af Z,trivial⟩ (d':=d10) (L':=ckB bc Tc (pZ pb) bm (n1'+1)::mpS bm ms10 c10::L11) (Vs.refl _ _) ⟨((hl.trans hl6).trans hl8).trans hl10,by rw[hRe];rfl,ms10,c10,n1'+1,L11,Z,hp11,fun q=>absurd (hRe.symm.trans q) hc0⟩
   ·rw[Zq hleaf e1 hout] at hWi;have hlf2:nd.leaf=false:=by simpa using hleaf
    rewrite [hlf2] at hg8;(refine Ak<|Am Z<|Ah Z (Cr (by assumption) Z)<|Be Z<|Av<|A4 Z Z<|AU Z ?_);exact⟨(i+1,S1,n1',ms1,c1),by show nd.keys.length - (i+1)<nd.keys.length - i;omega,⟨Z,Z,Z,Z,Z,Z,Z,Z,trivial⟩,hl8,e1,hWi,hs1,L3,hp8,Z⟩
  ·rw[Aju (by omega),AcV] at hWi;subst hWi;rw[if_neg (fun q=>q Z)] at hR;clear hlv;refine Ak<|Au Z Z<|By<|BM Z<|Bl<|AZ<|Am Z<|Ah Z (Cr (by assumption) Z)<|AA Z<|AU Z<|Aq<|Cs (α:=Nat×List Int×Nat×List (Int×Int×Nat)×Nat) (fun x=>[(0,pZ bc),(2,vZ h),(3,.slice fa fr.length fc),(4,.slice ta to.length tc0),(11,pZ b11),(87,.slice za nd.kids.length zc),(88,vZ nd.kids.length),(89,vZ x.1)])
    (fun x d' L'=>Le d7 d'∧x.1≤nd.kids.length∧GH (fun c lo hi S n=>Cy s g c (h - 1) lo hi S n) (loI nd fr to x.1) to (nd.keys.drop x.1) (nd.kids.drop x.1) x.2.1 x.2.2.1=R∧Iw x.2.2.2.1 x.2.1∧∃L3,PgT d' s dv (pZ pb) L3∧L'=ckB bc Tc (pZ pb) bm x.2.2.1::mpS bm x.2.2.2.1 x.2.2.2.2::L3)
    (fun x=>nd.kids.length - x.1) (0,S1,n1',ms1,c1) ⟨Z,Z,Z,Z,Z,Z,Z,Z,trivial⟩ ⟨hl8,Agd _,hR,hs1,L3,hp8,Z⟩ ?_
   clear hR hs1 hp8 hg8 k1 k2 hf8 ht8 hl8;rintro⟨i,S1,n1',ms1,c1⟩ ρ d8 Lx ⟨hl8,hi,hR,hs1,L3,hp8,hL⟩;simp only at hi hR hs1 hp8 hL⊢;subst hL;have hg8:=hg6.mono hl8;have k1:RSl 1 RBs d8 (.slice xa nd.keys.length xc) nd.keys:=RSl.mono (R:=RBs) CY r1 hl8;have k3:RSl 1 Bh d8 (.slice za nd.kids.length zc) nd.kids:=RSl.mono (R:=Bh) Ck r3 hl8;have hf8:RSl 1 Ax d8 (.slice fa fr.length fc) fr:=RSl.mono (R:=Ax) AF hf6 hl8;have ht8:RSl 1 Ax d8 (.slice ta to.length tc0) to:=RSl.mono (R:=Ax) AF ht6 hl8;by_cases e1:i<nd.kids.length
   ·rw[Afy e1,GH] at hR;apply Aw;apply Av;(refine Au Z Z<|An ?_);apply Aw;refine EO Z (by omega) ?_;apply AH;apply Aw;apply Aq;apply Aw;apply Av;(refine Ab Z<|Bq (sz:=1) (R:=Bh) (by rfl) (by assumption) (by rfl) Z (by omega) ?_;rintro _ _ _ _ _ ⟨rfl,_,_⟩;refine Ah Z (BO (by assumption) Z)<|Ab Z<|AU Z ?_);show gwp P _ _ _ _ _;apply Aw;apply Av;(refine Ae Z<|Ae Z<|Ae Z<|Ae Z<|An ?_);show gwp P _ _ _ _ _;apply Aw;refine Ji (fun ρ d9 L9=>d9=d8∧(∃lv,BN ρ [(0,pZ bc),(2,vZ h),(3,.slice fa fr.length fc),(4,.slice ta to.length tc0),(11,pZ b11),(16,vZ i),(17,vZ nd.kids[i]),(18,lv),(19,.slice ta to.length tc0),(87,.slice za nd.kids.length zc),(88,vZ nd.kids.length),(89,vZ i)]∧Ay d8 lv (loI nd fr to i))∧
     L9=ckB bc Tc (pZ pb) bm n1'::mpS bm ms1 c1::L3) ?_ ?_
    ·by_cases hi0:0<i
     ·have hik:i - 1<nd.keys.length:=by omega
      have hlo:loI nd fr to i=nd.keys[i - 1]:=by unfold loI;rw[if_neg (by omega),Afy hik];rfl
      have hie:(i:Int) - 1=((i - 1:Nat):Int):=by omega
      clear hR hx;refine AE Z<|Bu Z Z<|A5 Z<|Av<|Am Z<|Ah Z (Cr (by assumption) Z)<|Ab Z<|DT Z Z<|Bq (sz:=1) (R:=RBs) Z k1 Z (m:=i - 1) hie hik (fun bq oq csq hcq hDq hRq=>?_);obtain⟨uq,hu,hRu⟩:=hRq;subst hu;(refine Ah Z (BO (by assumption) Z)<|AK<|An ?_);exact⟨Z,⟨_,⟨Z,Z,Z,Z,Z,Z,Z,Z,Z,Z,Z,Z,trivial⟩,by rw[hlo];exact hRu⟩,Z⟩
     ·have hlo:loI nd fr to i=fr:=by unfold loI;rw[if_pos (by omega)]
      clear hR hx;(refine AE Z<|Bu Z Z<|AT Z ?_);exact⟨Z,⟨_,⟨Z,Z,Z,Z,Z,Z,Z,Z,Z,Z,Z,Z,trivial⟩,by rw[hlo];exact hf8⟩,Z⟩
    rintro ρ d9 L9 ⟨hdd,⟨lv,hsl,hlow⟩,hL⟩;subst hdd;subst hL;obtain⟨la,lc,rfl⟩:=RSl.val hlow;show gwp P _ _ _ _ _;refine CU _ hsl ?_;clear hsl;apply Aw;refine Ji (fun ρ d10 L10=>d10=d9∧(∃hv,BN ρ [(0,pZ bc),(2,vZ h),(3,.slice fa fr.length fc),(4,.slice ta to.length tc0),(11,pZ b11),(16,vZ i),(17,vZ nd.kids[i]),(18,.slice la (loI nd fr to i).length lc),(19,hv),(87,.slice za nd.kids.length zc),(88,vZ nd.kids.length),(89,vZ i)]∧Ay d9 hv ((nd.keys.drop i).headD to)∧((nd.keys.drop i).headD to=[]→hv=nV))∧
     L10=ckB bc Tc (pZ pb) bm n1'::mpS bm ms1 c1::L3) ?_ ?_
    ·by_cases hik:i<nd.keys.length
     ·have hhi2:(nd.keys.drop i).headD to=nd.keys[i]:=by rw[Afy hik];rfl
      have hne2:=hkb nd.keys[i] (Agb hik);rw[hhi2];clear hR hx hhi2;(refine AE Z<|Am Z<|Ah Z (Cr (by assumption) Z)<|AA Z<|Au Z Z<|A5 Z<|Av<|Am Z<|Ah Z (Cr (by assumption) Z)<|Ab Z<|Bq (sz:=1) (R:=RBs) (by rfl) (by assumption) (by rfl) Z (by omega) ?_;rintro _ _ _ _ _ ⟨_,rfl,_⟩;refine Ah Z (BO (by assumption) Z)<|AK<|An ?_);exact⟨Z,⟨_,⟨Z,Z,Z,Z,Z,Z,Z,Z,Z,Z,Z,Z,trivial⟩,by assumption,fun q=>absurd q hne2⟩,Z⟩
     ·have hhi2:(nd.keys.drop i).headD to=to:=by rw[Aju (by omega)];rfl
      rw[hhi2];clear hR hx hhi2;(refine AE Z<|Am Z<|Ah Z (Cr (by assumption) Z)<|AA Z<|Au Z Z<|AT Z ?_);exact⟨Z,⟨_,⟨Z,Z,Z,Z,Z,Z,Z,Z,Z,Z,Z,Z,trivial⟩,ht8,htn⟩,Z⟩
    rintro ρ d10 L10 ⟨hdd,⟨hv,hsl,hhigh,hnil⟩,hL⟩;subst hdd;subst hL;obtain⟨ha,hc,rfl⟩:=RSl.val hhigh;show gwp P _ _ _ _ _;refine CU _ hsl ?_;clear hsl;obtain⟨X,hX⟩:∃X,Cy s g nd.kids[i] (h - 1) (loI nd fr to i) ((nd.keys.drop i).headD to) S1 n1'=X:=⟨_,Z⟩
    rw[hX] at hR;have hXx:X.e≠99999:=fun q=>by rw[if_pos (by rw[q];decide)] at hR;subst hR;exact hx q
    have hcall:=ih (n:=n1') (c:=c1) (bc:=bc) (bm:=bm) (Tc:=Tc) hp8 hs1 hlow hhigh hnil (by rw[hX];exact hXx) (page:=nd.kids[i]) (h:=h - 1) (by omega) (by omega);rw[hX] at hcall;have hlo2:loI nd fr to (i+1)=(nd.keys.drop i).headD to:=by unfold loI;rw[if_neg (Ahi _),Nat.add_sub_cancel]
    generalize (nd.keys.drop i).headD to=hik at hcall hR hlo2 hnil hhigh⊢;refine A3 Z<|Ab Z<|Ab Z<|DT Z Z<|Ae Z<|Ae Z<|A0 [] hcall Z Z (fun v d11 L11 hl11 ⟨_,q2,ms11,c11,n11,L12,q3,hp12,hs12⟩=>?_);subst q2;subst q3;clear hcall;by_cases hx0:X.e=0
    ·obtain⟨hsA,hnA⟩:=hs12 hx0;subst hnA;rw[if_neg (fun q=>q hx0),List.tail_drop,←hlo2] at hR;rw[hx0];(refine A7 Z<|Ab Z<|AJ Z Z<|AT Z<|Av<|A4 Z Z<|AU Z ?_);exact⟨(i+1,X.S,X.n,ms11,c11),by show nd.kids.length - (i+1)<nd.kids.length - i;omega,⟨Z,Z,Z,Z,Z,Z,Z,Z,trivial⟩,hl8.trans hl11,e1,hR,hsA,L12,hp12,Z⟩
    ·rw[if_pos hx0] at hR;subst hR;refine A7 Z<|Ab Z<|AJ Z Z<|A5 Z<|AE Z<|AS Z<|A6 [vZ X.e] ⟨Af Z,trivial⟩ (d':=d11) (L':=ckB bc Tc (pZ pb) bm n11::mpS bm ms11 c11::L12) (Vs.refl _ _) ⟨((hl.trans hl6).trans hl8).trans hl11,Z,ms11,c11,n11,L12,Z,hp12,fun q=>absurd q hx0⟩
   ·rw[Aju (show nd.kids.length≤i by omega),GH] at hR;subst hR;refine Ak<|Au Z Z<|By<|BM Z<|Bl<|AE Z<|BJ<|A6 [vZ 0] ⟨Af Z,trivial⟩ (d':=d8) (L':=ckB bc Tc (pZ pb) bm n1'::mpS bm ms1 c1::L3) (Vs.refl _ _) ⟨(hl.trans hl6).trans hl8,Z,ms1,c1,n1',L3,Z,hp8,fun _=>⟨hs1,Z⟩⟩
 ·have hF:Cy s (g+1) page h fr to S n=⟨S,n,(AM s page h).2⟩:=by rw[Cy,if_pos he]
  rw[hF];clear hF hx;refine AR Z<|Ab Z<|AJ Z Z<|A5 Z<|AE Z<|AS Z<|A6 [vZ (AM s page h).2] ⟨Af Z,trivial⟩ (d':=d2) (L':=ckB bc Tc (pZ pb) bm n::mpS bm ms c::L2) (Vs.drop (.cons _ (Afa _))) ⟨hl,Z,ms,c,n,L2,Z,hp2,fun q=>absurd q he⟩
end
end Go.Gk.Tre
end
section
namespace Go.Gk.Tre
open Go Go.Gk Go.Gk.Dev Go.Gk.Cch Go.Gk.Pgr Go.Gk.Chn Go.Gk.Node
variable{t:TD}
def Tok.range{l}{P:List Int}(h:Tok t l P){fr to}{M:Nat}:
  Fm t M fr to=(B6 fr to M l,0)∧(0<M→(C4 t.s M fr to t.height t.root [] t.s.tc).out.length≤l.length)∧∃n,F3 t M fr to=t.s.tc+n+cpL (B6 fr to M l)∧n≤t.height*(2+(B6 fr to M l).length):=by
 unfold Fm F3
 rw[if_neg (by omega)]
 rcases h.tr with ⟨e1,_,rfl,_⟩|⟨x,e1,e2⟩
 ·rw[if_pos (.inl e1),if_pos (.inr (.inl e1)),V4,e1]
  exact⟨Z,fun _=>Agd _,0,by simp[cpL],Agd _⟩
 ·by_cases hM:M=0
  ·subst hM
   have e:B6 fr to 0 l=[]:=by simp[B6]
   rw[if_pos (.inr Z),if_pos (.inr (.inr Z)),e]
   exact⟨Z,fun q=>absurd q (by decide),0,by simp[cpL],Agd _⟩
  ·rw[if_neg (show¬(t.height=0∨(M:Int)=0) by omega),if_neg (show¬((M:Int)<0∨t.height=0∨(M:Int)=0) by omega),e1]
   obtain⟨w1,w2,w3,w4,n,w5,w6⟩:=Wc (fr:=fr) (to:=to) (M:=M) (x+1) (out:=[]) (tc:=t.s.tc) (f:=false) e2 (fun q=>by cases q) (by show 0<M;omega)
   rw[if_neg (by rw[w1];decide)]
   simp only[Agh,List.length_nil,Nat.sub_zero] at w2 w5 w6
   rw[w2]
   refine⟨Z,fun _=>?_,n,w5,Ahq w6 (Nat.mul_le_mul_left _ ?_)⟩
   ·unfold B6
    rw[Aft]
    exact Ahq (Nat.min_le_right ..) (List.length_filter_le ..)
   ·simp only[Afh,if_false]
    split<;>omega
def Tok.CE{l}{P:List Int}(h:Tok t l P):CE t.root t.height t.count=true:=by
 have hc:=h.ct;unfold Tre.CE;rcases h.tr with ⟨e1,e2,rfl,_⟩|⟨x,e1,e2⟩
 ·rw[e1,e2,hc];decide
 ·have hne:=FM.1 (Tr.ne e2);obtain⟨n,Q,hat,_⟩:=e2;have:=Ez h.gd hat.liv;simp only[Agl,Afb,decide_eq_true_eq];omega
def AbW{P f}(h3:Jd P f){d l}{Pp:List Int}{n:Nat}{dv pv fv tv L}{bt:Nat}{Tt fr to}{M:Nat}(hk:Tok t l Pp)(hl:l.length≤1000)(hp:Pg d (wtc t.s n) dv pv L)(hf:Ay d fv fr)(ht:Ay d tv to):
  Ao P f [pv,pZ bt,fv,tv,vZ (M:Nat)] d (tbD bt Tt pv t::L) (Ret fun v d' L'=>Le d d'∧∃rv L2 m,v=.tuple #[rv,vZ 0]∧RSl 2 RBp d' rv (B6 fr to M l)∧L'=tbD bt Tt pv t::L2∧Pg d' (wtc t.s (n+m+cpL (B6 fr to M l))) dv pv L2∧m≤t.height*(2+(B6 fr to M l).length)):=by
 obtain⟨hkl,hth⟩:=hk.far hl
 have ho:=hk.CE
 have hk2:=hk.tc n
 obtain⟨r1,r2,m,r3,r4⟩:=hk2.range (fr:=fr) (to:=to) (M:=M)
 have hc:=hk.ct
 refine Ao.Eb (h3 (t:=⟨wtc t.s n,t.root,t.height,t.count⟩) (bt:=bt) (Tt:=Tt) hp ho (by have:=hkl.r1;show t.root≤1000000000;omega) (by show t.height≤1000000;omega) (by show t.count≤1000000000;omega) hf ht (fun q=>?_)) (fun r d' L' _ ⟨h0,rv,L2,tc,h1,h2,h3,h4,h5⟩=>⟨d',L',Vs.refl _ _,?_⟩)
 ·have:=r2 (by omega)
  exact Ahq this (by omega)
 ·have r1:Fm ⟨wtc t.s n,t.root,t.height,t.count⟩ M fr to=(B6 fr to M l,0):=r1
  have r3:F3 ⟨wtc t.s n,t.root,t.height,t.count⟩ M fr to=n+m+cpL (B6 fr to M l):=r3
  rw[r1] at h1 h2 h5
  have htc:tc=n+m+cpL (B6 fr to M l):=(h5 Z).trans r3
  subst htc
  exact⟨h0,rv,L2,m,h1,h2,h3,h4,r4⟩
def VO{P f}(h3:Jd P f){d l}{Pp:List Int}{dv pv fv tv L}{bt:Nat}{Tt fr to}{M:Nat}(hk:Tok t l Pp)(hl:l.length≤1000)(hp:PgT d t.s dv pv L)(hf:Ay d fv fr)(ht:Ay d tv to):
  Ao P f [pv,pZ bt,fv,tv,vZ (M:Nat)] d (tbD bt Tt pv t::L) (Ret fun v d' L'=>Le d d'∧∃rv L2,v=.tuple #[rv,vZ 0]∧RSl 2 RBp d' rv (B6 fr to M l)∧L'=tbD bt Tt pv t::L2∧PgT d' t.s dv pv L2):=by
 obtain⟨n,hp⟩:=hp
 exact Ao.Eb (AbW h3 hk hl hp hf ht) (fun r d' L' _ ⟨h0,rv,L2,m,h1,h2,h3,h4,h5⟩=>⟨d',L',Vs.refl _ _,h0,rv,L2,h1,h2,h3,_,h4⟩)
end Go.Gk.Tre
end
section
namespace Go.Gk.Tre
open Go Go.Gk Go.Gk.Dev Go.Gk.Cch Go.Gk.Pgr Go.Gk.Chn Go.Gk.Node
attribute [local irreducible] gwp gws xwp
def Adp{P}{pan:List PanicEntry→AP}{Qn:Env→AP}{Ls L ρ d s}{t:Nat}{tk:Bool}{x y}{b bm:Nat}(ex:ev ρ x=pZ b)(ey:ev ρ y=.map (some bm))
  (h:gws P pan Qn s Ls (upd ρ t (.agg [pZ b,.map (some bm),vZ 0].toArray)) d L):gws P pan Qn (.op tk ⟨some t,none,.bld [(0,1),(1,1),(2,1)] [.pointer none,.map none,vZ 0] [(0,x),(1,y)]⟩ s) Ls ρ d L:=
 BY (cs:=[pZ b,.map (some bm),vZ 0]) (by simp[Instr.fill,ex,ey,Value.cells]) h
def Jm(P:Program)(f:FuncId):Prop:=∀(g:Nat) {d}{t:TD}{dv pv L}{bt:Nat}{Tt},PgT d t.s dv pv L→CE t.root t.height t.count=true→t.root≤1000000000→t.height≤1000000→t.count≤1000000000→g≤1000000→
 (t.height≠0→(Cy t.s g t.root t.height [] [] [] 0).e≠99999∧((Cy t.s g t.root t.height [] [] [] 0).e=0→(Cy t.s g t.root t.height [] [] [] 0).n≤1000000000))→
 Ao P f [pv,pZ bt] d (tbD bt Tt pv t::L) (Ret fun v d' L'=>Le d d'∧v=vZ (Hx g t)∧∃L2,L'=tbD bt Tt pv t::L2∧PgT d' t.s dv pv L2)
def SV(a0 a1 a2 a3 a4:Nat):A9:=⟨37,[(.tmp 4)],(sR (o1 4 (.mv z0) .done) (.seq (sR (om 8 0<|om 9 1<|oc 10 a0 [8,9]<|om 5 10 .done) (sR (om 11 5<|ob 12 .neq 11 z0 .done) (.cond 12 (sR (om 13 5<|om 4 13 .done) .ret) .skip))) (sR (om 14 0<|o1 15 (.mop .mk)<|o1 16 (.bld [(0,1),(1,1),(2,1)] [(.pointer none),(.map none),(vZ 0)] [(0,14),(1,15)])<|o1 17 (.box 16)<|om 6 17 .done) (.seq (sR (om 18 1<|oc 19 a1 [18]<|ob 20 .gtr 19 z0 .done) (.cond 20 (sR (om 21 6<|om 22 1<|oc 23 a2 [22]<|om 24 1<|oc 25 a1 [24]<|oc 26 a3 [21,23,25,nS,nS]<|om 7 26 .done) (sR (om 27 7<|ob 28 .neq 27 z0 .done) (.cond 28 (sR (om 29 7<|om 4 29 .done) .ret) .skip))) .skip)) (.seq (.seq (.reg true (pm 30 6<|p1 31 (.nilc 30)<|p1 32 (.fld 2 31)<|pl 33 32<|pm 34 1<|oc 35 a4 [34]<|p1 36 (.bin .neq 33 35) .done)) (.cond 36 (sR (o1 4 (.mv (kZ 200)) .done) .ret) .skip)) (sR (o1 4 (.mv z0) .done) .ret))))))⟩
set_option maxRecDepth 4000 in
def Zc{P f f1 f2 f3 f4 f5}(hd:dec P f=some (SV f1 f2 f3 f4 f5))(h1:KY P f1)(h2:Gw P f2)(h3:IL P f3)(h4:Xu P f4)(h5:Ha P f5):Jm P f:=by
 intro g d t dv pv L bt Tt hp ho hr hh hc hg hx0;obtain⟨pb,rfl⟩:=hp.ptr;obtain⟨n0,hp⟩:=hp;refine Bj hd<|AE Z<|BG<|Ag Z<|Ag Z<|A0 [] (h1 (t:=⟨wtc t.s n0,t.root,t.height,t.count⟩) (bt:=bt) (Tt:=Tt) hp ho hr (by show t.height≤1000000000;omega) hc) Z Z (fun v d3 L3 hl3 ⟨_,e1,e2⟩=>?_);subst e1;subst e2;have hp3:PgT d3 t.s dv (pZ pb) L:=⟨n0,hp.mono hl3⟩
 refine A7 Z<|Ab Z<|AJ Z Z<|AT Z<|A3 Z<|AbJ kI kI (fun bm=>?_);refine Adp Z Z<|Fv Z (fun bc Tc=>?_);refine Ag Z<|BG<|Ag Z<|B1 d3 (ckB bc Tc (pZ pb) bm 0::mpS bm [] 0::tbD bt Tt (pZ pb) t::L) (Vs.refl _ _)<|B9 [_,_] (h2 (t:=t) (L:=L)) Z Z ?_;by_cases hz:t.height=0
 ·have hF:Hx g t=if (0:Int)≠t.count then 200 else 0:=by unfold Hx;rw[if_pos hz]
  rw[hF];refine Bu Z Z<|AT Z<|Aw<|Aw<|BE [ckB bc Tc (pZ pb) bm 0] (mpS bm [] 0::tbD bt Tt (pZ pb) t::L) Z<|Ag Z<|Ap Z<|Az Z Z Z<|Ag Z<|B9 [_] (h5 (t:=t) (L:=L)) Z Z ?_;have hw0:wr 0=0:=Z;rw[hw0];by_cases hct:(0:Int)≠t.count
  ·rw[if_pos hct];clear hF;refine AJ Z Z<|A8<|B2 Z<|AE Z<|BJ<|A6 [vZ 200] ⟨Af Z,trivial⟩ (d':=d3) (L':=tbD bt Tt (pZ pb) t::L) (Vs.drop (.cons _ (.cons _ (Afa _)))) ⟨hl3,Z,L,Z,hp3⟩
  ·rw[if_neg hct];clear hF;refine AJ Z Z<|A8<|BM Z<|AH<|AE Z<|BJ<|A6 [vZ 0] ⟨Af Z,trivial⟩ (d':=d3) (L':=tbD bt Tt (pZ pb) t::L) (Vs.drop (.cons _ (.cons _ (Afa _)))) ⟨hl3,Z,L,Z,hp3⟩
 ·obtain⟨X,hX⟩:∃X,Cy t.s g t.root t.height [] [] [] 0=X:=⟨_,Z⟩
  have hF:Hx g t=if X.e≠0 then X.e else if (X.n:Int)≠t.count then 200 else 0:=by unfold Hx;rw[if_neg hz,hX]
  rw[hF];obtain⟨hx,hxn⟩:=hx0 hz;rw[hX] at hx hxn;have hcall:=h4 g (n:=0) (c:=0) (bc:=bc) (bm:=bm) (Tc:=Tc) (ms:=[]) (S:=[]) (fr:=[]) (to:=[]) (page:=t.root) (h:=(t.height:Nat)) hp3 (fun k=>by simp[DV]) RSl.nil RSl.nil (fun _=>Z) (by rw[hX];exact hx) (by omega) (by omega);rw[hX] at hcall;clear hF;refine Bu Z Z<|A5 Z<|A3 Z<|Ag Z<|B9 [_,_] (h3 (t:=t) (L:=L)) Z Z ?_;(apply Ag;rfl);refine B9 [_,_] (h2 (t:=t) (L:=L)) Z Z<|B1 d3 (tbD bt Tt (pZ pb) t::ckB bc Tc (pZ pb) bm 0::mpS bm [] 0::L) (Vs.perm ((Afm _ (Afx _ _ _)).trans (Afx _ _ _)))<|A0 [_] hcall Z Z (fun v d4 L4 hl4 ⟨_,q2,ms',c',n',L5,q3,hp5,hs5⟩=>?_);subst q2;subst q3;clear hcall;by_cases hx0:X.e=0
  ·have hxn:=hxn hx0;obtain⟨_,hn5⟩:=hs5 hx0;subst hn5;rw[if_neg (fun q=>q hx0),hx0];have hwr:wr X.n=(X.n:Int):=D3 (by omega) (by omega);refine A7 Z<|Ab Z<|AJ Z Z<|AT Z<|Aw<|Aw<|LM [ckB bc Tc (pZ pb) bm X.n] (mpS bm ms' c'::tbD bt Tt (pZ pb) t::L5) (Vs.perm ((Afx _ _ _).trans (Afm _ (Afx _ _ _))))<|Ag Z<|Ap Z<|Az Z Z Z<|Ag Z<|B9 [_] (h5 (t:=t) (L:=L5)) Z Z ?_;rw[hwr];by_cases hct:(X.n:Int)≠t.count
   ·rw[if_pos hct];refine AJ Z Z<|A8<|B2 Z<|AE Z<|BJ<|A6 [vZ 200] ⟨Af Z,trivial⟩ (d':=d4) (L':=tbD bt Tt (pZ pb) t::L5) (Vs.drop (.cons _ (.cons _ (Afa _)))) ⟨hl3.trans hl4,Z,L5,Z,hp5⟩
   ·rw[if_neg hct];refine AJ Z Z<|A8<|BM Z<|AH<|AE Z<|BJ<|A6 [vZ 0] ⟨Af Z,trivial⟩ (d':=d4) (L':=tbD bt Tt (pZ pb) t::L5) (Vs.drop (.cons _ (.cons _ (Afa _)))) ⟨hl3.trans hl4,Z,L5,Z,hp5⟩
  ·rw[if_pos hx0];refine A7 Z<|Ab Z<|AJ Z Z<|A5 Z<|AE Z<|AS Z<|A6 [vZ X.e] ⟨Af Z,trivial⟩ (d':=d4) (L':=tbD bt Tt (pZ pb) t::L5) (Vs.drop (.cons_cons _ (.cons _ (.cons _ (Afa _))))) ⟨hl3.trans hl4,Z,L5,Z,hp5⟩
end Go.Gk.Tre
end
section
namespace Go.Gk
open Go
section
def Vs.EM{d h h' L}{i:Nat}(hi:L[i]?=some h):Vs d (h'::L) d (h::L.set i h'):=by
 obtain⟨A,B,rfl,e2⟩:=FP hi h';rw[e2];refine Vs.perm ?_;refine(Afm h' Agi).trans ((Afx h h' _).trans (Afm h List.perm_middle.symm))
section
variable {P:Program}{pan:List PanicEntry→AP}{Qn:Env→AP}{Ls L:List Aa}{ρ:Env}{d:Aa}{s:GS}{t:Nat}
end
end
end Go.Gk
end
section
namespace Go.Gk.Tre
open Go Go.Gk Go.Gk.Dev Go.Gk.Cch Go.Gk.Pgr Go.Gk.Chn Go.Gk.Node
attribute [local irreducible] gwp gws xwp
def UH(P:Program)(f:FuncId):Prop:=∀{d s dv pv w L cs}{n:AB}{b},PgT d s dv pv L→Cz d cs n→Bf n≤1000000000000→Ay d w b→
 Ao P f [pv,.agg cs.toArray,w] d L (Ret fun v d' L'=>Le d d'∧∃q u,v=.tuple #[.agg [vZ q,u].toArray,vZ (Bg s (-1) n).2.2]∧((Bg s (-1) n).2.2=0→q=(Bg s (-1) n).2.1∧u=w)∧(∃a m c,u=.slice a m c)∧PgT d' (Bg s (-1) n).1 dv pv L')
def Wv(a0 a1 a2:Nat):A9:=⟨36,[(.cell 6 (some 2)),(.tmp 7)],(sR (o1 4 (.box 1)<|o1 6 (.alo (.agg #[(vZ 0),nV]))<|o1 7 (.mv z0) .done) (sR (o1 12 (.ld (some 4) 4)<|oc 13 a0 [12]<|om 11 13<|oe 14 11 0<|oe 15 11 1<|om 8 14<|om 9 15 .done) (.seq (sR (om 16 9<|ob 17 .neq 16 z0 .done) (.cond 17 (sR (o1 18 (.bld [(0,1),(1,1)] [(vZ 0),nV] [])<|om 19 9<|o0 (.st 2 6 18)<|om 7 19 .done) .ret) .skip)) (sR (om 21 0<|oc 22 a1 [21]<|om 20 22<|oe 23 20 0<|oe 24 20 1<|om 10 23<|om 9 24 .done) (.seq (sR (om 25 9<|ob 26 .neq 25 z0 .done) (.cond 26 (sR (o1 27 (.bld [(0,1),(1,1)] [(vZ 0),nV] [])<|om 28 9<|o0 (.st 2 6 27)<|om 7 28 .done) .ret) .skip)) (sR (om 29 10<|om 30 2<|o1 31 (.bld [(0,1),(1,1)] [(vZ 0),nV] [(0,29),(1,30)])<|om 32 0<|om 33 10<|om 34 8<|oc 35 a2 [32,33,34]<|o0 (.st 2 6 31)<|om 7 35 .done) .ret))))))⟩
set_option maxRecDepth 4000 in
def Acm{P f f1 f2 f3}(hd:dec P f=some (Wv f1 f2 f3))(h1:KA P f1)(h3:Pgr.Gx P f2)(h2:Lo P f3):UH P f:=by
 intro d s dv pv w L cs n b hp hn hz hw;obtain⟨bp,rfl⟩:=hp.ptr;obtain⟨wa,wc,rfl⟩:=RSl.val hw;have hn0:=hn;obtain⟨ka,kc,va,vc,ia,ic,rfl⟩:=Cz.four hn;refine Bj hd ?_;apply Aw;apply Av;refine CF Z (fun b4 T4=>?_);(refine B8 (fun _ _=>A7 Z<|Bk 1 Z Z Z ?_));refine Bz Z (PV h1 hn0 hz) (fun v d2 L2 _ ⟨e0,u,g,e1,e2,hg⟩=>?_);subst e0;subst e1;subst e2;obtain⟨ua,uc,rfl⟩:=hg.val;cases hr:Bt n with
 |false=>
  have hF:Bg s (-1) n=(s,0,200):=by unfold Bg;rw[hr,if_neg (by decide)]
  rw[hF]
  rw[hr,if_neg (by decide)] at hg
  rw[if_neg (by decide),if_neg (by decide)]
  clear hr hF
  (refine AO Z<|AW Z Z Z Z<|Ae Z<|AR Z<|Ab Z<|AJ Z Z<|A5 Z<|Ak<|BY Z<|Ab Z ?_)
  refine Ft (cs:=[vZ 0,nV]) 1 Z Z Z Z Z Z ?_
  (refine AS Z ?_)
  exact Ed (L':=L) [.agg [vZ 0,nV].toArray,vZ 200] ⟨AY 1 Z Z Z,Af Z,trivial⟩ (.cons _ (.cons _ (.cons _ (Afa _)))) ⟨Le.refl _,0,_,Z,fun h=>absurd h (show¬(200:Int)=0 by decide),⟨_,_,_,Z⟩,hp⟩
 |true=>
  rw[hr,if_pos Z] at hg
  rw[if_pos Z,if_pos Z]
  obtain⟨d3,hle,v1,hb⟩:∃d3,Le d2 d3∧Vs d2 [g] d3 []∧Ay d3 (.slice ua (Cq n).length uc) (Cq n):=⟨join d2 g,Le.Ar _ _,Vs.freeze,Ai.rsl (R:=Ax) (sz:=1) hg AF (by omega) (Le.Ar _ _) (Le.Bc _ _)⟩
  have hp3:=hp.mono hle
  refine B1 _ _ (Vs.app v1 _) ?_
  have hP:Bg s (-1) n=if s.AX.2.2≠0 then(s.AX.1,0,s.AX.2.2)
    else((s.AX.1.put s.AX.2.1 (Cq n)).1,s.AX.2.1,(s.AX.1.put s.AX.2.1 (Cq n)).2):=by unfold Bg;rw[hr,if_pos Z,if_neg (by omega),if_neg (show¬((0:Int)≤ -1) by omega)]
  clear hr
  generalize Cq n=pg at hb hP
  (refine AO Z<|AW Z Z Z Z<|Ae Z<|AR Z<|Ab Z<|AJ Z Z<|AT Z<|A3 Z ?_)
  refine A0 [_,_] (Xd h3 hp3) Z Z (fun w d5 L5 hl5 ⟨e5,hp5⟩=>?_)
  subst e5
  have hb5:=RSl.mono (R:=Ax) AF hb hl5
  by_cases ht:s.AX.2.2=0
  ·rw[if_neg (fun q=>q ht)] at hP
   rw[ht,hP]
   (refine AO Z<|AW Z Z Z Z<|Ab Z<|AR Z<|Ab Z<|AJ Z Z<|AT Z<|AE Z<|Ae Z<|BY Z<|Ag Z<|Ab Z<|Ae Z ?_)
   refine A0 [_,_] (WW h2 hp5 (k:=s.AX.2.1) hb5) Z Z (fun w d7 L7 hl7 ⟨e7,hp7⟩=>?_)
   subst e7
   skip
   refine Ft (cs:=[vZ s.AX.2.1,.slice wa b.length wc]) 0 Z Z Z Z Z Z ?_
   (refine AS Z ?_)
   exact Ed (L':=L7) [.agg [vZ s.AX.2.1,.slice wa b.length wc].toArray,vZ (s.AX.1.put s.AX.2.1 pg).2] ⟨AY 0 Z Z Z,Af Z,trivial⟩ (.cons _ (.cons _ (Afa _))) ⟨(hle.trans hl5).trans hl7,_,_,Z,fun _=>⟨Z,Z⟩,⟨_,_,_,Z⟩,hp7⟩
  ·rw[if_pos ht] at hP
   rw[hP]
   (refine AO Z<|AW Z Z Z Z<|Ab Z<|AR Z<|Ab Z<|AJ Z Z<|A5 Z<|Ak<|BY Z<|Ab Z ?_)
   refine Ft (cs:=[vZ 0,nV]) 0 Z Z Z Z Z Z ?_
   (refine AS Z ?_)
   exact Ed (L':=L5) [.agg [vZ 0,nV].toArray,vZ s.AX.2.2] ⟨AY 0 Z Z Z,Af Z,trivial⟩ (.cons _ (.cons _ (Afa _))) ⟨hle.trans hl5,0,_,Z,fun h=>absurd h ht,⟨_,_,_,Z⟩,hp5⟩
def wrB(l:List KV)(i:Nat):Bool:=decide ((l.getD i ([],[])).1.length<1)||decide (64<(l.getD i ([],[])).1.length)||(decide (0<i)&& decide (0≤Lib.compareBytes (l.getD (i - 1) ([],[])).1 (l.getD i ([],[])).1))
def FI(l:List KV):Int:=if (Agf l.length).any (wrB l) then 2 else if l.any (fun x=>decide (16384<x.2.length)) then 3 else 0
def O7(P:Program)(f:FuncId):Prop:=∀{d w l},RSl 2 RBp d w l→Dj P f [w] d (vZ (FI l))
def Lq{l}{i:Nat}(hi:i<l.length)(h:wrB l i=true):FI l=2:=by
 unfold FI;rw[if_pos (Ajq.2 ⟨i,Aik.2 hi,h⟩)]
def PZ{l}(h:∀j,j<l.length→wrB l j=false):FI l=if l.any (fun x=>decide (16384<x.2.length)) then 3 else 0:=by
 unfold FI;rw[if_neg];intro q;obtain⟨j,q1,q2⟩:=Ajq.1 q;rw[h j (Aik.1 q1)] at q2;cases q2
def Uz{l}{i:Nat}(h:∀j,j<l.length→wrB l j=false)(hi:i<l.length)(hx:16384<l[i].2.length):FI l=3:=by
 rw[PZ h,if_pos (Ajq.2 ⟨l[i],Agb hi,by simpa using hx⟩)]
def UY{l}(h:∀j,j<l.length→wrB l j=false)(hx:∀j (hj:j<l.length),l[j].2.length≤16384):FI l=0:=by
 rw[PZ h,if_neg];intro q;obtain⟨x,q1,q2⟩:=Ajq.1 q;obtain⟨j,hj,rfl⟩:=List.getElem_of_mem q1;have:=hx j hj;simp at q2;omega
def Adu{l}{i:Nat}(hi:i<l.length):wrB l i=(decide (l[i].1.length<1)||decide (64<l[i].1.length)||(decide (0<i)&& decide (0≤Lib.compareBytes (l.getD (i - 1) ([],[])).1 l[i].1))):=by
 unfold wrB;simp only[Afd,Afc hi,Aif]
def SR(a0:Nat):A9:=⟨52,[(.tmp 2)],(sR (o1 2 (.mv z0) .done) (.seq (sR (om 7 0<|oL 8 7<|o1 9 (.mv z0) .done) (.block 0 (.loop (sR (ob 10 .lss 9 8 .done) (.seq (.cond 10 .skip (.exit 0)) (.seq (.block 1 (sR (om 11 9<|oI 12 2 7 9<|o1 13 (.ld (some 2) 12)<|o1 4 (.alo (.agg #[nV,nV]))<|om 3 11<|o0 (.st 2 4 13) .done) (.seq (.reg true (p1 14 (.fld 0 4)<|pl 15 14<|p1 16 (.len 15)<|p1 17 (.bin .lss 16 z1)<|pm 18 17 (.op true ⟨(some 19),(some (18,false)),(.fld 0 4)⟩ (.op true ⟨(some 20),(some (18,false)),(.ld none 19)⟩ (.op true ⟨(some 21),(some (18,false)),(.len 20)⟩ (.op true ⟨(some 22),(some (18,false)),(.bin .gtr 21 (kZ 64))⟩ (p1 23 (.pick 18 (.const (.bool true)) 22) (pm 24 23 (.op true ⟨(some 25),(some (24,false)),(.mv 3)⟩ (.op true ⟨(some 26),(some (24,false)),(.bin .gtr 25 z0)⟩ (.op true ⟨(some 27),(some (24,false)),(.mv 26)⟩ (.op true ⟨(some 28),(some (27,true)),(.mv 0)⟩ (.op true ⟨(some 29),(some (27,true)),(.mv 3)⟩ (.op true ⟨(some 30),(some (27,true)),(.bin .sub 29 z1)⟩ (.op true ⟨(some 31),(some (27,true)),(.idx 2 28 30)⟩ (.op true ⟨(some 32),(some (27,true)),(.fld 0 31)⟩ (.op true ⟨(some 33),(some (27,true)),(.ld none 32)⟩ (.op true ⟨(some 34),(some (27,true)),(.fld 0 4)⟩ (.op true ⟨(some 35),(some (27,true)),(.ld none 34)⟩ (oT 36 27 (.call a0 [33,35]) (.op true ⟨(some 37),(some (27,true)),(.bin .geq 36 z0)⟩ (.op true ⟨(some 38),(some (24,false)),(.pick 27 37 (.const (.bool false)))⟩ (p1 39 (.pick 24 (.const (.bool true)) 38) .done))))))))))))))))))))))) (.cond 39 (sR (o1 2 (.mv z2) .done) .ret) .skip)))) (rG (ob 40 .add 9 z1<|om 9 40 .done)))))))) (.seq (sR (om 41 0<|oL 42 41<|o1 43 (.mv z0) .done) (.block 2 (.loop (sR (ob 44 .lss 43 42 .done) (.seq (.cond 44 .skip (.exit 2)) (.seq (.block 3 (sR (oI 45 2 41 43<|o1 46 (.ld (some 2) 45)<|o1 6 (.alo (.agg #[nV,nV]))<|o0 (.st 2 6 46) .done) (sR (oj 47 1 6<|ol 48 47<|oL 49 48<|ob 50 .gtr 49 (kZ 16384) .done) (.cond 50 (sR (o1 2 (.mv (kZ 3)) .done) .ret) .skip)))) (rG (ob 51 .add 43 z1<|om 43 51 .done)))))))) (sR (o1 2 (.mv z0) .done) .ret))))⟩
set_option maxRecDepth 4000 in
def Zo{P:Program}{f f1:FuncId}(hd:dec P f=some (SR f1))(h1:Gn P f1):O7 P f:=by
 intro d w l hw;have hwl:=hw.BW;obtain⟨a,c,rfl⟩:=hw.val;refine Dp hd (Aff Z) ?_;show gwp P _ _ _ _ _;(refine Ak<|Ab Z<|An<|Aw<|Ak<|Ae Z<|AA Z<|Ab Z<|An<|Aq ?_);refine Cs (α:=Nat) (fun x=>[(0,.slice a l.length c),(7,.slice a l.length c),(8,vZ l.length),(9,vZ x)]) (fun x d' L'=>d'=d∧x≤l.length∧∀j,j<x→wrB l j=false) (fun x=>l.length - x) 0 ⟨Z,Z,Z,Z,trivial⟩ ⟨Z,Agd _,fun j h=>absurd h (Aic j)⟩ ?_;rintro i ρ d' L' ⟨rfl,hi,hf⟩;simp only at hi hf⊢;by_cases e:i<l.length
 ·have hwr:=Adu e;(refine Ak<|Au Z Z<|An<|Aw<|EO Z (by omega)<|AH<|Aw<|Aq<|Ak<|Ab Z ?_);refine Bq (m:=i) Z hw Z Z e (fun b o cs hcl hdc ⟨k,v,q,hk,hv⟩=>?_);subst q;obtain⟨ka,kc,rfl⟩:=hk.val;obtain⟨va,vc,rfl⟩:=hv.val;have hkl:=hk.BW;have hnx:wrB l i=false→∀j,j<i+1→wrB l j=false:=fun q j hj=>if h:j<i then hf j h else by rw[show j=i by omega];exact q
  (refine XE Z (by assumption) Z<|B8 (fun _ _=>Ab Z ?_));refine Ft (cs:=[.slice ka l[i].1.length kc,.slice va l[i].2.length vc]) 0 Z Z Z Z Z Z ?_;by_cases c1:l[i].1.length<1
  ·rw[Lq e (by rw[hwr];simp[c1])];clear hwr hnx hf;(refine An<|Aw<|BI<|Am Z<|Ah Z (AG 0 Z Z)<|AA Z<|Au Z Z<|Ad Z<|Nv Z (by omega)<|BP Z<|BP Z<|BP Z<|BP Z<|As Z Z<|Ad Z<|BP Z<|BP Z<|BP Z<|Cp Z<|Cp Z<|Cp Z<|Cp Z<|Cp Z<|Cp Z<|Cp Z<|Cp Z<|Cp Z<|Cp Z<|BP Z<|As Z Z<|A8<|Er Z<|Ak<|Ab Z<|An<|DE ?_);exact Ed [vZ 2] ⟨Af Z,trivial⟩ (Agp _) ⟨Z,Z,Z⟩
  ·by_cases c2:l[i].1.length>64
   ·rw[Lq e (by rw[hwr];simp[c2])];clear hwr hnx hf;(refine An<|Aw<|BI<|Am Z<|Ah Z (AG 0 Z Z)<|AA Z<|Au Z Z<|Ad Z<|Is Z (by omega)<|Ac Z<|Am Z<|Ac Z<|Ah Z (AG 0 Z Z)<|Ac Z<|AA Z<|Ac Z<|Bu Z Z<|Aj Z Z<|Ad Z<|Nv Z (by omega)<|BP Z<|BP Z<|BP Z<|Cp Z<|Cp Z<|Cp Z<|Cp Z<|Cp Z<|Cp Z<|Cp Z<|Cp Z<|Cp Z<|Cp Z<|BP Z<|As Z Z<|A8<|Er Z<|Ak<|Ab Z<|An<|DE ?_);exact Ed [vZ 2] ⟨Af Z,trivial⟩ (Agp _) ⟨Z,Z,Z⟩
   ·by_cases c3:i>0
    ·(refine An<|Aw<|BI<|Am Z<|Ah Z (AG 0 Z Z)<|AA Z<|Au Z Z<|Ad Z<|Is Z (by omega)<|Ac Z<|Am Z<|Ac Z<|Ah Z (AG 0 Z Z)<|Ac Z<|AA Z<|Ac Z<|Bu Z Z<|Aj Z Z<|Ad Z<|Is Z (by omega)<|Ac Z<|Ab Z<|Ac Z<|Bu Z Z<|Ac Z<|Ad Z<|Nv Z (by omega)<|Ac Z<|Ae Z<|Ac Z<|Ab Z<|Ac Z<|XH Z Z (by omega) (by omega)<|Ac Z ?_);refine Bq (m:=i - 1) Z hw Z (by omega) (by omega) (fun b2 o2 cs2 hcl2 hdc2 ⟨k2,v2,q2,hk2,hv2⟩=>?_);subst q2;obtain⟨k2a,k2c,rfl⟩:=hk2.val;obtain⟨v2a,v2c,rfl⟩:=hv2.val;have hg:l.getD (i - 1) ([],[])=l[i - 1]'(by omega):=by simp only[Afd,Afc (show i - 1<l.length by omega),Aif]
     rw[hg] at hwr;(refine Ac Z<|Am Z<|Ac Z<|Ah Z (Cr (by assumption) Z)<|Ac Z<|Am Z<|Ac Z<|Ah Z (AG 0 Z Z)<|Ac Z ?_);refine BH Z (h1 hk2 hk) ?_;by_cases c4:Lib.compareBytes (l[i - 1]'(by omega)).1 l[i].1≥0
     ·rw[Lq e (by rw[hwr];simp[c3];exact .inr c4)];clear hwr hnx hf;(refine Ac Z<|Dk Z Z<|Ac Z<|As Z Z<|Aj Z Z<|A8<|EO Z (by omega)<|Ak<|Ab Z<|An<|DE ?_);exact Ed [vZ 2] ⟨Af Z,trivial⟩ (Agp _) ⟨Z,Z,Z⟩
     ·have hn:=hnx (by rw[hwr];simp[c1,c2,c3];omega);clear hwr hnx hf;(refine Ac Z<|Dk Z Z<|Ac Z<|As Z Z<|Aj Z Z<|A8<|Fs Z (by omega)<|AH<|Av<|LA Z Z (by omega) (by omega)<|Ab Z<|An ?_);exact⟨i+1,by omega,⟨Z,Z,Z,Z,trivial⟩,Z,by omega,hn⟩
    ·have hn:=hnx (by rw[hwr];simp[c1,c2,c3]<;>omega);clear hwr hnx hf;(refine An<|Aw<|BI<|Am Z<|Ah Z (AG 0 Z Z)<|AA Z<|Au Z Z<|Ad Z<|Is Z (by omega)<|Ac Z<|Am Z<|Ac Z<|Ah Z (AG 0 Z Z)<|Ac Z<|AA Z<|Ac Z<|Bu Z Z<|Aj Z Z<|Ad Z<|Is Z (by omega)<|Ac Z<|Ab Z<|Ac Z<|Bu Z Z<|Ac Z<|Ad Z<|Is Z (by omega)<|BP Z<|BP Z<|BP Z<|BP Z<|BP Z<|BP Z<|BP Z<|BP Z<|BP Z<|BP Z<|Ac Z<|Aj Z Z<|Aj Z Z<|A8<|Cn Z<|AH<|Av<|LA Z Z (by omega) (by omega)<|Ab Z<|An ?_);exact⟨i+1,by omega,⟨Z,Z,Z,Z,trivial⟩,Z,by omega,hn⟩
 ·have:i=l.length:=by omega
  subst this;(refine Ak<|Au Z Z<|An<|Aw<|Fs Z (by omega)<|Bl<|Aw<|Ak<|Ae Z<|AA Z<|Ab Z<|An<|Aq ?_);refine Cs (α:=Nat) (fun x=>[(41,.slice a l.length c),(42,vZ l.length),(43,vZ x)]) (fun x d'' L'=>d''=d'∧x≤l.length∧∀j (hj:j<l.length),j<x→l[j].2.length≤16384) (fun x=>l.length - x) 0 ⟨Z,Z,Z,trivial⟩ ⟨Z,Agd _,fun j _ h=>absurd h (Aic j)⟩ ?_;rintro i ρ d'' L'' ⟨rfl,hi,hf2⟩;simp only at hi hf2⊢;by_cases e:i<l.length
  ·(refine Ak<|Au Z Z<|An<|Aw<|EO Z (by omega)<|AH<|Aw<|Aq<|Ak ?_);refine Bq (m:=i) Z hw Z Z e (fun b o cs hcl hdc ⟨k,v,q,hk,hv⟩=>?_);subst q;obtain⟨ka,kc,rfl⟩:=hk.val;obtain⟨va,vc,rfl⟩:=hv.val;have hvl:=hv.BW;(refine XE Z (by assumption) Z<|B8 (fun _ _=>?_));refine Ft (cs:=[.slice ka l[i].1.length kc,.slice va l[i].2.length vc]) 0 Z Z Z Z Z Z ?_;by_cases c1:l[i].2.length>16384
   ·rw[Uz hf e c1];clear hf hf2;(refine An<|Ak<|Am Z<|Ah Z (AG 0 Z Z)<|AA Z<|Bu Z Z<|An<|EO Z (by omega)<|Ak<|Ab Z<|An<|DE ?_);exact Ed [vZ 3] ⟨Af Z,trivial⟩ (Agp _) ⟨Z,Z,Z⟩
   ·have hn:∀j (hj:j<l.length),j<i+1→l[j].2.length≤16384:=by
     intro j hj h;by_cases q:j<i
     ·exact hf2 j hj q
     ·obtain rfl:j=i:=by omega
      exact Nat.le_of_not_lt c1
    clear hf hf2;(refine An<|Ak<|Am Z<|Ah Z (AG 0 Z Z)<|AA Z<|Bu Z Z<|An<|Fs Z (by omega)<|AH<|Av<|LA Z Z (by omega) (by omega)<|Ab Z<|An ?_);exact⟨i+1,by omega,⟨Z,Z,Z,trivial⟩,Z,by omega,hn⟩
  ·rw[UY hf (fun j hj=>hf2 j hj (by omega))];clear hf hf2;(refine Ak<|Au Z Z<|An<|Aw<|Fs Z (by omega)<|Bl<|Ak<|Ab Z<|An<|DE ?_);exact Ed [vZ 0] ⟨Af Z,trivial⟩ (Agp _) ⟨Z,Z,Z⟩
end Go.Gk.Tre
end
section
namespace Go.Gk.Tre
open Go Go.Gk Go.Gk.Dev Go.Gk.Cch Go.Gk.Pgr Go.Gk.Chn Go.Gk.Node
abbrev LD:=Int×List UInt8
def RLd(d:Aa)(cs:List Value)(x:LD):Prop:=∃u,cs=[vZ x.1,u]∧Ay d u x.2
def Acj:Gu RLd:=fun hl ⟨u,e,a⟩=>⟨u,e,RSl.mono (R:=Ax) AF a hl⟩
def Aav:F1 RLd:=fun d cs x ⟨u,e,a⟩=>by
 subst e;obtain⟨u1,u2,rfl⟩:=RSl.val a;rfl
def Aec{P}{pan:List PanicEntry→AP}{Qn:Env→AP}{Ls L ρ d s}{t:Nat}{x u v}(ex:ev ρ x=.agg [u,v].toArray)(h:∀b T,gws P pan Qn s Ls (upd ρ t (.slice (some ⟨b,0,none⟩) 1 1)) d (bx b T [u,v]::L)):
  gws P pan Qn (.op false ⟨some t,none,.bsl 1 2 [vZ 0,nV] [(0,x)]⟩ s) Ls ρ d L:=by
 refine Dq (by omega) ?_ h
 simp[Instr.fill,BD,Agf,List.range.loop,ex,Value.cells]
end Go.Gk.Tre
end
section
namespace Go.Gk.Tre
open Go Go.Gk Go.Gk.Dev Go.Gk.Cch Go.Gk.Pgr Go.Gk.Chn Go.Gk.Node
attribute [local irreducible] gwp gws xwp
def Sr(a0 a1 a2:Nat):A9:=⟨97,[(.tmp 4),(.tmp 5)],(sR (o1 4 (.mv nS)<|o1 5 (.mv z0) .done) (sR (o1 6 (.mv nS) .done) (sR (o1 15 (.bld [(0,1),(1,1),(2,1),(3,1)] [(.bool false),nV,nV,nV] [(0,(.const (.bool true)))])<|o1 7 (.alo (.agg #[(.bool false),nV,nV,nV]))<|o0 (.st 4 7 15) .done) (.seq (sR (o1 8 (.mv z0) .done) (.block 0 (.loop (.seq (sR (om 16 8<|om 17 1<|oL 18 17<|ob 19 .leq 16 18 .done) (.cond 19 .skip (.exit 0))) (.seq (.block 1 (sR (o1 22 (.ld (some 4) 7)<|o1 9 (.alo (.agg #[(.bool false),nV,nV,nV]))<|o0 (.st 4 9 22) .done) (.seq (sR (om 23 8<|om 24 1<|oL 25 24<|ob 26 .lss 23 25 .done) (.cond 26 (sR (om 28 0<|om 29 1<|om 30 8<|oI 31 2 29 30<|oj 32 1 31<|ol 33 32<|oc 34 a0 [28,33]<|om 27 34<|oe 35 27 0<|oe 36 27 1<|om 10 35<|om 11 36 .done) (.seq (sR (om 37 11<|ob 38 .neq 37 z0 .done) (.cond 38 (sR (om 39 11<|o1 4 (.mv nS)<|om 5 39 .done) .ret) .skip)) (.seq (.reg true (p1 40 (.fld 1 7)<|pl 41 40<|pm 42 1<|pm 43 8<|p1 44 (.idx 2 42 43)<|p1 45 (.fld 0 44)<|pl 46 45<|p1 49 (.fld 2 7)<|pl 50 49<|pm 51 10 (.par (o1 52 (.bsl 1 1 [nV] [(0,51)]) .done) (o1 47 (.bsl 1 1 [nV] [(0,46)]) (o1 48 (.app 1 24 [nV] 41 47) (p1 54 (.fld 1 9) .done))) (o1 53 (.app 1 24 [nV] 50 52) (.bar (o0 (.st 1 54 48) (p1 55 (.fld 2 9) (o0 (.st 1 55 53) .done)))))))) (sR (o1 56 (.ld (some 4) 9)<|oc 57 a1 [56] .done) (.cond 57 (sR (o1 58 (.ld (some 4) 9)<|o0 (.st 4 7 58) .done) (.exit 1)) .skip))))) .skip)) (.seq (.reg true (pm 60 0<|p1 61 (.ld (some 4) 7)<|p1 62 (.fld 1 7)<|pl 63 62<|p1 64 (.idx 1 63 z0)<|pl 65 64 (.par (o1 12 (.alo (.agg #[(vZ 0),nV])) .done) (oc 66 a2 [60,61,65] (pm 59 66 (p1 67 (.ext 59 0) (p1 68 (.ext 59 1) .done)))) (o0 (.st 2 12 67) (pm 13 68 .done))))) (.seq (sR (om 69 13<|ob 70 .neq 69 z0 .done) (.cond 70 (sR (om 71 13<|o1 4 (.mv nS)<|om 5 71 .done) .ret) .skip)) (sR (om 72 6<|o1 73 (.ld (some 2) 12)<|o1 74 (.bsl 1 2 [(vZ 0),nV] [(0,73)])<|o1 75 (.app 2 32 [(vZ 0),nV] 72 74)<|om 6 75 .done) (sR (oj 76 1 7<|ol 77 76<|oL 78 77<|om 14 78 .done) (sR (om 79 8<|om 80 1<|oL 81 80<|ob 82 .lss 79 81 .done) (.cond 82 (.reg true (p1 83 (.fld 1 9)<|pl 84 83<|pm 85 14<|p1 86 (.idx 1 84 85)<|pl 87 86<|p1 89 (.fld 2 9)<|pl 90 89<|pm 91 14<|p1 92 (.idx 1 90 91)<|pl 93 92 (.par (o1 94 (.bsl 1 1 [nV] [(0,93)]) .done) (o1 88 (.bsl 1 1 [nV] [(0,87)]) .done) (p1 95 (.bld [(0,1),(1,1),(2,1),(3,1)] [(.bool false),nV,nV,nV] [(0,(.const (.bool true))),(1,88),(2,94)]) (.bar (o0 (.st 4 7 95) .done)))))) .skip))))))))) (rG (om 20 8<|ob 21 .add 20 z1<|om 8 21 .done))))))) (sR (om 96 6<|om 4 96<|o1 5 (.mv z0) .done) .ret)))))⟩
def Ad8(l:List LD):Prop:=∀x∈l,0≤x.1∧x.1≤8191∧1≤x.2.length∧x.2.length≤64
end Go.Gk.Tre
end
section
namespace Go.Gk.Tre
open Go Go.Gk Go.Gk.Dev Go.Gk.Cch Go.Gk.Pgr Go.Gk.Chn Go.Gk.Node
def KO.sub{a b}(h:a.Sublist b)(k:KO b):KO a:=⟨fun x hx=>k.1 x (h.subset hx),k.2.sublist h⟩
def Z8(l:List LD):Prop:=(∀x∈l,0≤x.1∧x.1≤8191)∧KO (l.map (·.2))
def Z8.ok{l:List LD}(h:Z8 l):Ad8 l:=fun x hx=>by
 have:=h.1 x hx;have:=h.2.1 x.2 (List.mem_map.2 ⟨x,hx,Z⟩);omega
def XW{s}(hG:Pgr.Good s){n:AB}(h:(Bg s (-1) n).2.2=0):0≤(Bg s (-1) n).2.1∧(Bg s (-1) n).2.1≤8191:=by
 unfold Bg at h⊢;split
 ·rename_i hr;rw[if_pos hr] at h;rw[if_neg (by omega)] at h⊢;split
  ·rename_i he;rw[if_pos he] at h;exact absurd h he
  ·rename_i he;rw[if_neg (show¬((0:Int)≤ -1) by omega)];rcases QQ hG with ⟨q1,q2,q3⟩|⟨q1,_⟩
   ·exact Ez (FT hG) (.inl q3)
   ·exact absurd (by rw[q1];decide) he
 ·simp
end Go.Gk.Tre
end
section
namespace Go.Gk.Tre
open Go Go.Gk Go.Gk.Dev Go.Gk.Cch Go.Gk.Pgr Go.Gk.Chn Go.Gk.Node
attribute [local irreducible] gwp gws xwp
def Vu(a0 a1 a2 a3 a4 a5 a6:Nat):A9:=⟨65,[(.tmp 4),(.tmp 5)],(sR (o1 4 (.mv (.const (.pointer none)))<|o1 5 (.mv z0) .done) (sR (om 11 0<|oc 12 a0 [11]<|om 6 12 .done) (.seq (sR (om 13 6<|o1 14 (.eqp false 13 (.const (.pointer none))) .done) (.cond 14 (sR (o1 4 (.mv (.const (.pointer none)))<|o1 5 (.mv z1) .done) .ret) .skip)) (.seq (sR (om 15 1<|oc 16 a1 [15]<|om 7 16 .done) (sR (om 17 7<|ob 18 .neq 17 z0 .done) (.cond 18 (sR (om 19 7<|o1 4 (.mv (.const (.pointer none)))<|om 5 19 .done) .ret) .skip))) (.seq (sR (om 20 1<|oL 21 20<|ob 22 .eql 21 z0 .done) (.cond 22 (sR (om 23 0<|oc 24 a2 [23]<|oe 25 24 0<|oe 26 24 1<|om 4 25<|om 5 26 .done) .ret) .skip)) (sR (om 28 0<|om 29 1<|oc 30 a3 [28,29]<|om 27 30<|oe 31 27 0<|oe 32 27 1<|om 8 31<|om 9 32 .done) (sR (o1 10 (.mv z1) .done) (.seq (.block 0 (.loop (.seq (sR (om 33 9<|ob 34 .eql 33 z0<|om 35 34<|gT 36 35 8<|oT 37 35 (.len 36)<|oT 38 35 (.bin .gtr 37 z1)<|gP 39 35 38 .done) (.cond 39 .skip (.exit 0))) (.block 1 (sR (om 41 0<|om 42 8<|oc 43 a4 [41,42]<|om 40 43<|oe 44 40 0<|oe 45 40 1<|om 8 44<|om 9 45 .done) (rG (om 46 10<|ob 47 .add 46 z1<|om 10 47 .done))))))) (.seq (sR (om 48 9<|ob 49 .neq 48 z0 .done) (.cond 49 (sR (om 50 0<|om 51 6<|oc 52 a5 [50,51] .done) (sR (om 53 9<|o1 4 (.mv (.const (.pointer none)))<|om 5 53 .done) .ret)) .skip)) (sR (om 54 0<|om 55 8<|o1 56 (.idx 2 55 z0)<|oj 57 0 56<|ol 58 57<|om 59 10<|om 60 1<|oL 61 60<|oc 62 a6 [54,58,59,61]<|oe 63 62 0<|oe 64 62 1<|om 4 63<|om 5 64 .done) .ret))))))))))⟩
end Go.Gk.Tre
end
section
namespace Go.Gk.Tre
open Go Go.Gk Go.Gk.Dev Go.Gk.Cch Go.Gk.Pgr Go.Gk.Chn Go.Gk.Node
section
def Fo(s:PD)(h:Nat):List LD→List KV→List Int→Prop
 |[],l,P=>l=[]∧P=[]
 |x::r,l,P=>∃v l1 l2 P1 P2,l=((x.2,v)::l1)++l2∧P=P1++P2∧Tr s h x.1 ((x.2,v)::l1) P1∧Fo s h r l2 P2
section
variable {s t:PD}{h:Nat}
def Fo.app:∀{r r':List LD}{l l'}{P P':List Int},Fo s h r l P→Fo s h r' l' P'→Fo s h (r++r') (l++l') (P++P')
 |[],r',l,l',P,P',⟨e1,e2⟩,h'=>by subst e1;subst e2;exact h'
 |x::r,r',l,l',P,P',⟨v,l1,l2,P1,P2,e1,e2,h1,h2⟩,h'=>by
  subst e1;subst e2;exact⟨v,l1,l2++l',P1,P2++P',by simp,by simp,h1,h2.app h'⟩
def Fo.split:∀{r r':List LD}{l}{P:List Int},Fo s h (r++r') l P→∃l1 l2 P1 P2,l=l1++l2∧P=P1++P2∧Fo s h r l1 P1∧Fo s h r' l2 P2
 |[],r',l,P,hh=>⟨[],l,[],P,Z,Z,⟨Z,Z⟩,hh⟩
 |x::r,r',l,P,⟨v,l1,l2,P1,P2,e1,e2,h1,h2⟩=>by
  subst e1;subst e2;obtain⟨a,b,A,B,rfl,rfl,q1,q2⟩:=h2.split;exact⟨((x.2,v)::l1)++a,b,P1++A,B,by simp,by simp,⟨v,l1,a,P1,A,Z,Z,h1,q1⟩,q2⟩
def Fo.stay:∀{r:List LD}{l}{P:List Int},Fo s h r l P→Gd s t P→Fo t h r l P
 |[],l,P,hh,_=>hh
 |x::r,l,P,⟨v,l1,l2,P1,P2,e1,e2,h1,h2⟩,hs=>by
  subst e1;subst e2;exact⟨v,l1,l2,P1,P2,Z,Z,h1.stay (fun p hp=>hs p (Aga _ hp)),h2.stay (fun p hp=>hs p (Agc _ hp))⟩
def Fo.live:∀{r:List LD}{l}{P:List Int},Fo s h r l P→∀p∈P,BB s p
 |[],l,P,⟨_,e⟩=>by subst e;exact fun p hp=>by cases hp
 |x::r,l,P,⟨v,l1,l2,P1,P2,e1,e2,h1,h2⟩=>by
  subst e2;exact fun p hp=>(List.mem_append.1 hp).elim (h1.live p) (h2.live p)
def Fo.SO(hG:Pgr.Good s):∀{r:List LD}{l}{P:List Int},Fo s h r l P→∀x∈r,0≤x.1∧x.1≤8191
 |[],l,P,_=>fun x hx=>by cases hx
 |x::r,l,P,⟨v,l1,l2,P1,P2,e1,e2,h1,h2⟩=>by
  intro y hy;rcases Afv.1 hy with rfl|hy
  ·cases h with
   |zero=>exact h1.elim
   |succ h=>
    obtain⟨n,Q,hat,_⟩:=h1
    exact Ez hG hat.liv
  ·exact h2.SO hG y hy
def Fo.Zm:∀{r:List LD}{l}{P:List Int},Fo s h r l P→(r.map (·.2)).Sublist (l.map Prod.fst)
 |[],l,P,⟨e,_⟩=>by subst e;exact Afa _
 |x::r,l,P,⟨v,l1,l2,P1,P2,e1,e2,h1,h2⟩=>by
  subst e1;rw[Ahv,Agy,Ahv,Ahk];exact Ahj _ (h2.Zm.trans (Agv _ _))
def Fo.row(hG:Pgr.Good s){r:List LD}{l}{P:List Int}(hh:Fo s h r l P)(hk:KO (l.map Prod.fst)):Z8 r:=⟨hh.SO hG,KO.sub hh.Zm hk⟩
def Fo.kids:∀{x:LD}{r:List LD}{l}{P:List Int},Fo s h (x::r) l P→KO (l.map Prod.fst)→Kd (Tr s h) (r.map (·.2)) (x.1::r.map (·.1)) l P
 |x,[],l,P,⟨v,l1,l2,P1,P2,e1,e2,h1,q1,q2⟩,_=>by
  subst e1;subst e2;subst q1;subst q2;exact Kd.one.2 (by simpa using h1)
 |x,y::r,l,P,⟨v,l1,l2,P1,P2,e1,e2,h1,h2⟩,hk=>by
  subst e1;subst e2;rw[Ahk] at hk;obtain⟨k1,k2,k3⟩:=KO.app.1 hk;have ih:=h2.kids k2;obtain⟨w,m1,m2,Q1,Q2,rfl,rfl,_,_⟩:=h2;refine Kd.cons.2 ⟨_,_,P1,_,Z,Z,h1,fun z hz=>k3 z.1 (Ahm hz) y.2 (by simp),fun z hz=>?_,ih⟩;rw[Agy] at hz;rcases Afv.1 hz with rfl|hz
  ·exact Jp
  ·rw[Agy,Ahv,KO.cons] at k2;exact K4 (k2.2.2 z.1 (Ahm hz))
end
def czV(x:KV):Nat:=2+x.1.length+(if x.2.length≤15 then 1+x.2.length else 7)
def czL(l:List KV):Nat:=(l.map czV).sum
def Ce.cz{s c v k}{P:List Int}(h:Ce s c v P):2+k.length+c.length=czV (k,v):=by
 unfold czV;rcases h with ⟨h1,rfl,_⟩|⟨h1,_,_,rfl⟩
 ·simp only;rw[if_pos h1,Afq];omega
 ·simp only;rw[if_neg (by omega)];rfl
def Lf.cz{s}:∀{ks vs l}{P:List Int},Lf s ks vs l P→2*ks.length+Ds ks+Ds vs=czL l
 |[],[],l,P,h=>by rw[Lf] at h;rw[h.1];rfl
 |[],_::_,l,P,h=>by rw[Lf] at h<;>simp_all
 |_::_,[],l,P,h=>by rw[Lf] at h<;>simp_all
 |k::ks,c::cs,l,P,h=>by
  rw[Lf] at h;obtain⟨v,l',P1,P2,rfl,rfl,h1,h2⟩:=h;have e1:=h1.cz (k:=k);have e2:=h2.cz;have e3:czL ((k,v)::l')=czV (k,v)+czL l':=by simp[czL]
  simp only[Afq,Ds];omega
def Lf.leaf{s ks vs l}{P:List Int}(h:Lf s ks vs l P)(hk:KO (l.map Prod.fst))(hc:∀v∈vs,v.length≤16):Bt ⟨true,ks,vs,[]⟩=true↔2+czL l≤256:=by
 have e:=h.cz;have hs:Bd ⟨true,ks,vs,[]⟩=true:=C2.2 ⟨by rw[h.keys];exact hk,h.len.1,hc⟩;simp only[Bt,hs,Bool.true_and,decide_eq_true_eq];rw[size_leaf h.len.1];omega
def Lf.cells{s}:∀{ks vs l}{P:List Int},Lf s ks vs l P→∀v∈vs,v.length≤16
 |[],[],l,P,h=>fun v hv=>by cases hv
 |[],_::_,l,P,h=>by rw[Lf] at h<;>simp_all
 |_::_,[],l,P,h=>by rw[Lf] at h<;>simp_all
 |k::ks,c::cs,l,P,h=>by
  rw[Lf] at h;obtain⟨v,l',P1,P2,rfl,rfl,h1,h2⟩:=h;intro w hw;rcases Afv.1 hw with rfl|hw
  ·exact h1.len
  ·exact h2.cells w hw
section
variable {s:PD}{h:Nat}{out:List LD}{lo ln:List KV}{Po Pn:List Int}
end
end
end Go.Gk.Tre
end
section
namespace Go.Gk.Tre
open Go Go.Gk Go.Gk.Dev Go.Gk.Cch Go.Gk.Pgr Go.Gk.Chn Go.Gk.Node
end Go.Gk.Tre
end
section
namespace Go.Gk.Tre
open Go Go.Gk Go.Gk.Dev Go.Gk.Cch Go.Gk.Pgr Go.Gk.Chn Go.Gk.Node
attribute [local irreducible] gwp gws xwp
section
section
variable {P:Program}{pan:List PanicEntry→AP}{Qn:Env→AP}{Ls L:List Aa}{ρ:Env}{d:Aa}{s:GS}{t:Nat}
def YO{x y u v u' v'}(ex:ev ρ x=.agg [u,v].toArray)(ey:ev ρ y=.agg [u',v'].toArray)(h:∀b T,gws P pan Qn s Ls (upd ρ t (.slice (some ⟨b,0,none⟩) 2 2)) d (bx b T [u,v,u',v']::L)):
  gws P pan Qn (.op false ⟨some t,none,.bsl 2 2 [nV,nV] [(0,x),(1,y)]⟩ s) Ls ρ d L:=by
 refine Dq (by omega) ?_ h
 simp[Instr.fill,BD,Agf,List.range.loop,ex,ey,Value.cells]
def VQ{tk:Bool}{x a}{n c:Nat}(ex:ev ρ x=.slice a n c)
  (h:gws P pan Qn s Ls (upd ρ t (.agg [.slice a n c,nV].toArray)) d L):gws P pan Qn (.op tk ⟨some t,none,.bld [(0,1),(1,1)] [nV,nV] [(0,x)]⟩ s) Ls ρ d L:=
 BY (cs:=[.slice a n c,nV]) (by simp[Instr.fill,ex,Value.cells]) h
end
def AbO{d}{q:Nat}{T u v u' v'}{a b:KV}(h1:Ay d u a.1)(h2:Ay d v a.2)(h3:Ay d u' b.1)(h4:Ay d v' b.2)(h:Le (bx q T [u,v,u',v']) d):RSl 2 RBp d (.slice (some ⟨q,0,none⟩) 2 2) [a,b]:=by
 have g:Ai 2 RBp d (.slice (some ⟨q,0,none⟩) 2 2) [a,b] (bx q T [u,v,u',v']):=Ai.lit Z Z (by simp) (fun i hi=>by
  have:i=0∨i=1:=by simp at hi;omega
  rcases this with rfl|rfl
  ·exact⟨u,v,Z,h1,h2⟩
  ·exact⟨u',v',Z,h3,h4⟩)
 exact Ai.rsl (R:=RBp) g Em (by omega) (Le.refl _) h
def wl2:List KV:=[([1],[9]),([2],[8])]
def wl1:List KV:=[([2],[]),([1],[])]
def ZK:FI wl2=0:=by decide+kernel
def RO:FI wl1=2:=by decide+kernel
def Ady:B6 [1] [2] 5 wl2=[([1],[9])]:=by decide+kernel
def Ac8:B6 [] [] 5 wl2=wl2:=by decide+kernel
def WH(P:Program)(f:FuncId):Prop:=∀{d},Ao P f [] d [] (Ret fun r d' L'=>r=.bool true∧L'=[])
def K7(a0 a1 a2 a3:Nat):A9:=⟨96,[(.tmp 0)],(sR (o1 0 (.mv (.const (.bool false))) .done) (sR (oc 12 a0 [(kZ 9)]<|om 11 12<|oe 13 11 0<|oe 14 11 1<|om 1 13<|om 2 14 .done) (.seq (sR (om 15 2<|o1 16 (.eqp false 15 (.const (.pointer none))) .done) (.cond 16 (sR (o1 0 (.mv (.const (.bool false))) .done) .ret) .skip)) (sR (om 18 1<|o1 19 (.bsl 1 1 [(.int .u8 0)] [(0,(.const (.int .u8 1)))])<|o1 20 (.bsl 1 1 [(.int .u8 0)] [(0,(.const (.int .u8 9)))])<|o1 21 (.bld [(0,1),(1,1)] [nV,nV] [(0,19),(1,20)])<|o1 22 (.bsl 1 1 [(.int .u8 0)] [(0,(.const (.int .u8 2)))])<|o1 23 (.bsl 1 1 [(.int .u8 0)] [(0,(.const (.int .u8 8)))])<|o1 24 (.bld [(0,1),(1,1)] [nV,nV] [(0,22),(1,23)])<|o1 25 (.bsl 2 2 [nV,nV] [(0,21),(1,24)])<|oc 26 a1 [18,25]<|om 17 26<|oe 27 17 0<|oe 28 17 1<|om 3 27<|om 4 28 .done) (.seq (sR (om 29 4<|ob 30 .neq 29 z0<|om 31 30<|gF 32 31 3<|oF 33 31 (.eqp false 32 (.const (.pointer none)))<|o1 34 (.pick 31 (.const (.bool true)) 33) .done) (.cond 34 (sR (o1 0 (.mv (.const (.bool false))) .done) .ret) .skip)) (sR (om 36 1<|om 37 3<|o1 38 (.bsl 1 1 [(.int .u8 0)] [(0,(.const (.int .u8 1)))])<|o1 39 (.bsl 1 1 [(.int .u8 0)] [(0,(.const (.int .u8 2)))])<|oc 40 a2 [36,37,38,39,(kZ 5)]<|om 35 40<|oe 41 35 0<|oe 42 35 1<|om 5 41<|om 6 42 .done) (sR (om 44 1<|om 45 3<|oc 46 a2 [44,45,nS,nS,(kZ 5)]<|om 43 46<|oe 47 43 0<|oe 48 43 1<|om 7 47<|om 8 48 .done) (sR (om 50 1<|o1 51 (.bsl 1 1 [(.int .u8 0)] [(0,(.const (.int .u8 2)))])<|o1 52 (.bld [(0,1),(1,1)] [nV,nV] [(0,51)])<|o1 53 (.bsl 1 1 [(.int .u8 0)] [(0,(.const (.int .u8 1)))])<|o1 54 (.bld [(0,1),(1,1)] [nV,nV] [(0,53)])<|o1 55 (.bsl 2 2 [nV,nV] [(0,52),(1,54)])<|oc 56 a1 [50,55]<|om 49 56<|oe 57 49 0<|oe 58 49 1<|om 9 57<|om 10 58 .done) (sR (om 59 6<|ob 60 .eql 59 z0<|om 61 60<|gT 62 61 5<|oT 63 61 (.len 62)<|oT 64 61 (.bin .eql 63 z1)<|gP 65 61 64<|om 66 65<|gT 67 66 5<|oT 68 66 (.idx 2 67 z0)<|oT 69 66 (.fld 1 68)<|oT 70 66 (.ld none 69)<|oT 71 66 (.b2s 70)<|oT 72 66 (.bin .eql 71 (.const (BQ [9])))<|gP 73 66 72<|om 74 73<|gT 75 74 8<|oT 76 74 (.bin .eql 75 z0)<|gP 77 74 76<|om 78 77<|gT 79 78 7<|oT 80 78 (.len 79)<|oT 81 78 (.bin .eql 80 z2)<|gP 82 78 81<|om 83 82<|gT 84 83 10<|oT 85 83 (.bin .eql 84 z2)<|gP 86 83 85<|om 87 86<|gT 88 87 9<|oT 89 87 (.eqp false 88 (.const (.pointer none)))<|gP 90 87 89<|om 91 90<|gT 92 91 3<|oT 93 91 (.call a3 [92])<|oT 94 91 (.bin .eql 93 z2)<|gP 95 91 94<|om 0 95 .done) .ret)))))))))⟩
end
section
section
variable {P:Program}{f:FuncId}{d:Aa}{t:TD}{l:List KV}{Pp:List Int}{dv pv:Value}{L:List Aa}{bt:Nat}{Tt:TypeId}
def X4(h:IS P f){s}{root height count:Int}(hp:PgT d s dv pv L)(r0: -1000000000≤root)(r1:root≤1000000000)(q0: -1000000000≤height)(q1:height≤1000000000)(c0: -1000000000≤count)(c1:count≤1000000000)(hb:CE root height count=true):
  Ao P f [pv,vZ root,vZ height,vZ count] d L (Ret fun v d' L'=>Le d d'∧∃bt Tt,v=.tuple #[pZ bt,vZ 0]∧L'=tb bt Tt pv root height count::L):=by
 obtain⟨n,hp⟩:=hp
 refine Ao.Eb (h (s:=wtc s n) hp r0 r1 q0 q1 c0 c1) (fun r d' L' _ ⟨h0,h1⟩=>⟨d',L',Vs.refl _ _,h0,?_⟩)
 rcases h1 with ⟨_,bt,Tt,h2,h3⟩|⟨h1,_⟩
 ·exact⟨bt,Tt,h2,h3⟩
 ·rw[hb] at h1;cases h1
def V7(h:Jm P f)(hk:Tok t l Pp)(hl:l.length≤1000){c:Nat}(hc:c=0∨l≠[])(hcm:c≤1000)(hp:PgT d t.s dv pv L):
  Ao P f [pv,pZ bt] d (tb bt Tt pv t.root t.height (t.count+c:Nat)::L) (Ret fun v d' L'=>Le d d'∧v=vZ (if c=0 then 0 else 200)∧∃L2,L'=tb bt Tt pv t.root t.height (t.count+c:Nat)::L2∧PgT d' t.s dv pv L2):=by
 obtain⟨hkl,hth⟩:=hk.far hl
 have hct:=hk.ct
 have ho:CE t.root t.height (t.count+c:Nat)=true:=by
  rcases hc with rfl|hc
  ·exact hk.CE
  ·have h1:=hk.CE;have h2:=FM.1 hc;simp only[CE,Agl,Afb,decide_eq_true_eq] at h1⊢;omega
 have hr:=h 2000 (t:={t with count:=t.count+c}) (bt:=bt) (Tt:=Tt) hp ho (by have:=hkl.r1;show t.root≤1000000000;omega) (by show t.height≤1000000;omega) (by show t.count+c≤1000000000;omega) (by omega) (fun hz=>by
  rcases hk.tr with ⟨e1,_⟩|⟨x,e1,e2⟩
  ·exact absurd e1 hz
  ·obtain⟨S',e,_⟩:=OH (s:=t.s) (x+1) 2000 (k:=t.root) (S:=[]) (fr:=[]) (to:=[]) (n:=0) (by omega) e2 (fun y _ q=>by cases hy:y.1<;>rw[hy] at q<;>simp[Lt,Op.bytesLess] at q) (.inl Z) hk.nd (fun p _ q=>by cases q);show(Cy t.s 2000 t.root t.height [] [] [] 0).e≠99999∧((Cy t.s 2000 t.root t.height [] [] [] 0).e=0→(Cy t.s 2000 t.root t.height [] [] [] 0).n≤1000000000);rw[e1,e];exact⟨by simp,fun _=>by show 0+l.length≤_;omega⟩)
 rw[hk.check (g:=2000) hth hc] at hr
 exact hr
def Ab8(h:Jm P f)(hk:Tok t l Pp)(hl:l.length≤1000)(hne:l≠[]){c:Nat}(hc:1≤c)(hcm:c≤1000)(hp:PgT d t.s dv pv L):
  Ao P f [pv,pZ bt] d (tb bt Tt pv t.root (t.height+c:Nat) t.count::L) (Ret fun v d' L'=>Le d d'∧v=vZ 200∧∃L2,L'=tb bt Tt pv t.root (t.height+c:Nat) t.count::L2∧PgT d' t.s dv pv L2):=by
 obtain⟨hkl,hth⟩:=hk.far hl
 have hct:=hk.ct
 have ho:CE t.root (t.height+c:Nat) t.count=true:=by
  have h1:=hk.CE;have h2:=FM.1 hne;simp only[CE,Agl,Afb,decide_eq_true_eq] at h1⊢;omega
 have hr:=h 4000 (t:={t with height:=t.height+c}) (bt:=bt) (Tt:=Tt) hp ho (by have:=hkl.r1;show t.root≤1000000000;omega) (by show t.height+c≤1000000;omega) (by show t.count≤1000000000;omega) (by omega) (fun hz=>by
  rcases hk.tr with ⟨_,_,e1,_⟩|⟨x,e1,e2⟩
  ·exact absurd e1 hne
  ·have e:=KP (s:=t.s) (x+1) 4000 (k:=t.root) (S:=[]) (H:=((t.height+c:Nat):Int)) (fr:=[]) (to:=[]) (n:=0) (by omega) e2 (by omega);show(Cy t.s 4000 t.root (t.height+c:Nat) [] [] [] 0).e≠99999∧((Cy t.s 4000 t.root (t.height+c:Nat) [] [] [] 0).e=0→(Cy t.s 4000 t.root (t.height+c:Nat) [] [] [] 0).n≤1000000000);rw[e];exact⟨by decide,fun q=>absurd q (by decide)⟩)
 rw[hk.Aaz hne (g:=4000) (by omega) hc] at hr
 exact hr
end
def Jn(a0 a1 a2 a3 a4 a5 a6 a7:Nat):A9:=⟨89,[(.tmp 4)],(sR (o1 4 (.mv (.const (.bool false))) .done) (.seq (sR (oc 14 a0 []<|o1 15 (.un .not 14) .done) (.cond 15 (sR (o1 4 (.mv (.const (.bool false))) .done) .ret) .skip)) (sR (oc 17 a1 [(kZ 200)]<|om 16 17<|oe 18 16 0<|oe 19 16 1<|om 5 18<|om 6 19 .done) (.seq (sR (om 20 6<|o1 21 (.eqp false 20 (.const (.pointer none))) .done) (.cond 21 (sR (o1 4 (.mv (.const (.bool false))) .done) .ret) .skip)) (.seq (sR (om 23 5<|om 24 6<|om 25 0<|oc 26 a2 [23,24,25,(kZ 60)]<|om 22 26<|oe 27 22 0<|oe 28 22 1<|om 7 27<|om 8 28 .done) (sR (om 29 8<|o1 30 (.un .not 29)<|om 31 30<|gF 32 31 5<|gF 33 31 6<|oF 34 31 (.call a3 [32,33])<|oF 35 31 (.bin .neq 34 z0)<|o1 36 (.pick 31 (.const (.bool true)) 35) .done) (.cond 36 (sR (o1 4 (.mv (.const (.bool false))) .done) .ret) .skip))) (.seq (sR (om 37 6<|oc 38 a4 [37]<|ob 39 .eql 38 z0 .done) (.cond 39 (sR (o1 4 (.mv (.const (.bool true))) .done) .ret) .skip)) (sR (om 40 1<|o1 41 (.cvi .u64 40)<|ob 42 .rem 41 (.const (.int .u64 100))<|o1 43 (.cvi .i64 42)<|ob 44 .add z1 43<|om 9 44 .done) (sR (om 46 5<|om 47 6<|oc 48 a5 [47]<|om 49 6<|oc 50 a6 [49]<|om 51 6<|oc 52 a4 [51]<|om 53 9<|ob 54 .add 52 53<|oc 55 a7 [46,48,50,54]<|om 45 55<|oe 56 45 0<|oe 57 45 1<|om 10 56<|om 11 57 .done) (sR (om 59 5<|om 60 6<|oc 61 a5 [60]<|om 62 6<|oc 63 a6 [62]<|om 64 9<|ob 65 .add 63 64<|om 66 6<|oc 67 a4 [66]<|oc 68 a7 [59,61,65,67]<|om 58 68<|oe 69 58 0<|oe 70 58 1<|om 12 69<|om 13 70 .done) (sR (om 71 11<|ob 72 .eql 71 z0<|om 73 72<|gT 74 73 13<|oT 75 73 (.bin .eql 74 z0)<|gP 76 73 75<|om 77 76<|gT 78 77 5<|gT 79 77 10<|oT 80 77 (.call a3 [78,79])<|oT 81 77 (.bin .eql 80 (kZ 200))<|gP 82 77 81<|om 83 82<|gT 84 83 5<|gT 85 83 12<|oT 86 83 (.call a3 [84,85])<|oT 87 83 (.bin .eql 86 (kZ 200))<|gP 88 83 87<|om 4 88 .done) .ret))))))))))⟩
set_option maxRecDepth 4000 in
set_option maxHeartbeats 1000000 in
def bulkSound{P f f1 f2 f3 f4 f5 f6 f7 f8}(hd:dec P f=some (Jn f1 f2 f3 f4 f5 f6 f7 f8))(h1:WH P f1)(h2:JE P f2)(h3:Q5 P f3)(h4:Jm P f4)(h5:Ha P f5)(h6:IL P f6)(h7:Gw P f7)(h8:IS P f8)
  {d w}{acts:List Z6}{more:Int}(hw:RSl 3 RAc d w acts):Ao P f [w,vZ more] d [] (Ret fun r _ _=>r=.bool true):=by
 have hwl:=hw.BW
 obtain⟨m0,hm,hm12⟩:=Ab2 more 100 (by omega)
 replace hm:more % 18446744073709551616 % 100=(m0:Int):=hm
 refine Bj hd ?_
 (refine Ak<|AV Z<|AZ ?_)
 refine Bz Z h1 (fun v d0 L0 hl0 ⟨q7,q8⟩=>?_)
 subst q7;subst q8
 (refine Bm Z<|Be Z<|Ak ?_)
 refine CX (L:=[]) (h2 (n:=200) (by omega) (by omega)) Z (fun u d1 L1 hl1 ⟨bt,Tt,bd,bp,L2,q1,q2,hp⟩=>?_)
 subst q1;subst q2
 have hw1:=RSl.mono (R:=RAc) VG hw (hl0.trans hl1)
 (refine AO Z<|AW Z Z Z Z<|Ag Z<|Ag Z<|BG<|Ag Z<|CG Z Z<|Be Z<|AZ<|Ag Z<|Ag Z<|AK ?_)
 refine A0 [] (h3 (t:=⟨pdN 200, -1,0,0⟩) (Tt:=Tt) (most:=60) (N:=200) (PgT.of hp) (Gr.empty (by omega) (by omega)) hw1 (by omega)) Z Z (fun v d2 L3 hl2 ⟨_,u,t,l,P',L4,q3,hl,hg,q4,hp4⟩=>?_)
 subst q3;subst q4
 obtain⟨lx,ly,rfl⟩:=hl.val
 have hln:=hg.ln
 obtain⟨hkl,hth⟩:=hg.ok.far (by omega)
 have hct:=hg.ok.ct
 clear hl hw1 hp
 (refine AO Z<|AW Z Z Z Z<|Ae Z<|AV Z<|Ak<|Ad Z<|Bm Z<|Ad Z<|Ac Z<|Ag Z<|Ac Z<|Ag Z<|Ac Z ?_)
 refine A0 [] (V7 (c:=0) h4 hg.ok (by omega) (.inl Z) (by omega) hp4) Z Z (fun v d3 L5 hl3 ⟨_,e1,L6,e2,hp6⟩=>?_)
 rw[if_pos Z] at e1
 subst e1;subst e2
 refine B1 d3 (tbD bt Tt (pZ bp) t::L6) (Vs.refl _ _) ?_
 (refine Ac Z<|AJ Z Z<|Aj Z Z<|AT Z<|AZ<|Ag Z ?_)
 refine B9 [] (h5 (t:=t) (L:=L6)) Z Z ?_
 by_cases hc0:t.count=0
 ·rw[hc0]
  clear hg hkl hth hct
  (refine AI Z Z<|A5 Z<|Ak<|Cc Z ?_)
  exact BZ Z (Agp _) Z
 have hne:l≠[]:=fun q=>hc0 (by rw[hct,q];rfl)
 have hr0:=hkl.r0
 have hr1:=hkl.r1
 have hck:∀c:Nat,c≤1000→CE t.root t.height (t.count+c:Nat)=true:=fun c hc=>by
  have h1:=hg.ok.CE;simp only[CE,Agl,Afb,decide_eq_true_eq] at h1⊢;omega
 have hch:∀c:Nat,c≤1000→CE t.root (t.height+c:Nat) t.count=true:=fun c hc=>by
  have h1:=hg.ok.CE;simp only[CE,Agl,Afb,decide_eq_true_eq] at h1⊢;omega
 (refine AI Z Z<|AT Z<|AE Z<|AdD Z<|WY Z Z (by omega) (by omega)<|EP Z (by omega) (by omega)<|A4 Z Z<|A7 Z<|Ag Z<|Ag Z ?_)
 refine B9 [] (h6 (t:=t) (L:=L6)) Z Z ?_
 (apply Ag;rfl)
 refine B9 [] (h7 (t:=t) (L:=L6)) Z Z ?_
 (apply Ag;rfl)
 refine B9 [] (h5 (t:=t) (L:=L6)) Z Z ?_
 rw[hm]
 have ha1:(t.count:Int)+(1+(m0:Int))=((t.count+(1+m0):Nat):Int):=by omega
 have ha2:(t.height:Int)+(1+(m0:Int))=((t.height+(1+m0):Nat):Int):=by omega
 (refine Ab Z<|A4 Z Z ?_)
 rw[ha1]
 refine A0 [_] (X4 h8 (root:=t.root) (height:=(t.height:Nat)) (count:=(t.count+(1+m0):Nat)) hp6 (by omega) (by omega) (by omega) (by omega) (by omega) (by omega) (hck _ (by omega))) Z Z (fun v d4 L7 hl4 ⟨_,bt2,Tt2,e1,e2⟩=>?_)
 subst e1;subst e2
 have hp7:=hp6.mono hl4
 refine B1 d4 (tbD bt Tt (pZ bp) t::tb bt2 Tt2 (pZ bp) t.root t.height (t.count+(1+m0):Nat)::L6) (Vs.refl _ _) ?_
 (refine AO Z<|AW Z Z Z Z<|Ag Z<|A7 Z<|Ag Z<|Ag Z ?_)
 refine B9 [] (h6 (t:=t) (L:=tb bt2 Tt2 (pZ bp) t.root t.height (t.count+(1+m0):Nat)::L6)) Z Z ?_
 (apply Ag;rfl)
 refine B9 [] (h7 (t:=t) (L:=tb bt2 Tt2 (pZ bp) t.root t.height (t.count+(1+m0):Nat)::L6)) Z Z ?_
 (refine Ab Z<|A4 Z Z<|Ag Z ?_)
 rw[ha2]
 refine B9 [] (h5 (t:=t) (L:=tb bt2 Tt2 (pZ bp) t.root t.height (t.count+(1+m0):Nat)::L6)) Z Z ?_
 refine A0 [_,_] (X4 h8 (root:=t.root) (height:=(t.height+(1+m0):Nat)) (count:=(t.count:Nat)) hp7 (by omega) (by omega) (by omega) (by omega) (by omega) (by omega) (hch _ (by omega))) Z Z (fun v d5 L8 hl5 ⟨_,bt3,Tt3,e1,e2⟩=>?_)
 subst e1;subst e2
 have hp8:=hp7.mono hl5
 have hgo:=hg.ok
 clear hg hck hch hp6 hp7 hp4
 refine B1 d5 ([tbD bt Tt (pZ bp) t,tb bt3 Tt3 (pZ bp) t.root (t.height+(1+m0):Nat) t.count]++tb bt2 Tt2 (pZ bp) t.root t.height (t.count+(1+m0):Nat)::L6) (Vs.perm (Afm _ (Afx _ _ _))) ?_
 (refine AO Z<|AW Z Z Z Z<|Ag Z<|A7 Z<|Ab Z<|AI Z Z<|Ad Z<|Bx Z<|Ac Z<|Ab Z<|Ac Z<|AI Z Z<|As Z Z<|Ad Z<|Bx Z<|Ac Z<|Ag Z<|Ac Z<|Ag Z<|Ac Z ?_)
 refine A0 [_,_] (V7 (c:=1+m0) h4 hgo (by omega) (.inr hne) (by omega) hp8) Z Z (fun v d6 L9 hl6 ⟨_,e1,L10,e2,hp10⟩=>?_)
 rw[if_neg (by omega)] at e1
 subst e1;subst e2
 refine B1 d6 ([tbD bt Tt (pZ bp) t,tb bt2 Tt2 (pZ bp) t.root t.height (t.count+(1+m0):Nat)]++tb bt3 Tt3 (pZ bp) t.root (t.height+(1+m0):Nat) t.count::L10) (Vs.perm (Afm _ (Afx _ _ _))) ?_
 (refine Ac Z<|AI Z Z<|As Z Z<|Ad Z<|Bx Z<|Ac Z<|Ag Z<|Ac Z<|Ag Z<|Ac Z ?_)
 refine A0 [_,_] (Ab8 (c:=1+m0) h4 hgo (by omega) hne (by omega) (by omega) hp10) Z Z (fun v d7 L11 hl7 ⟨_,e1,L12,e2,hp12⟩=>?_)
 subst e1;subst e2
 (refine Ac Z<|AI Z Z<|As Z Z<|Cc Z ?_)
 exact BZ Z (Agp _) Z
end
end Go.Gk.Tre
end
