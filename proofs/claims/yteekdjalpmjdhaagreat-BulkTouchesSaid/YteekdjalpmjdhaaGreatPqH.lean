/-
  Our own texts, one behind the other: GkX9 GkXA GkCv GkX3 GkX4 GkXB GkXC GkXD GkUB GkUC GkUD GkUE GkTZ GkUA GkUF GkWK GkWL GkUM GkXF GkXE GkXN GkXO GkXG GkXH GkXS GkXT GkTrArg GkXJ GkXI.
-/
import Derived.Test.YteekdjalpmjdhaaGreatPqG
set_option linter.defProp false
set_option linter.unusedVariables false
set_option linter.unusedSimpArgs false
open Nat renaming le_of_ble_eq_true→Aea,le_refl→Aef,zero_le→Aez,mul_one→Agn,le_trans→Agp,le_succ_of_le→Aio
open List.Sublist renaming refl→Aeb,cons_cons→Agi
open Bool renaming and_eq_true→Aec,false_eq_true→Aeh,or_eq_true→Afp
open List renaming getElem?_eq_getElem→Aed,getD_eq_getElem?_getD→Aee,append_assoc→Aeg,perm_append_comm→Aei,length_append→Aek,eq_nil_of_length_eq_zero→Ael,mem_cons_self→Aeo,length_cons→Aep,length_take→Aer,take_succ_eq_append_getElem→Aes,mem_cons_of_mem→Aev,mem_cons→Aex,getElem_mem→Aey,range→Afb,mem_append_left→Afc,mem_append_right→Afe,nil_sublist→Afg,append_nil→Afh,nil_append→Afi,perm_middle→Afj,length_replicate→Afk,drop_eq_getElem_cons→Afl,take_length→Afq,sublist_append_right→Afw,cons_append→Afz,map_append→Agj,mem_map_of_mem→Agl,getElem?_map→Ags,map_cons→Agw,length_pos_iff→Ahb,drop_length→Ahg,mem_of_mem_take→Ahy,append_cons→Ajj
open List.Perm renaming cons→Aem,swap→Afa,refl→Afr,append_right→Agz
open Int renaming natCast_add→Ajt
section
namespace Go.Gk.Tre
open Go Go.Gk Go.Gk.Dev Go.Gk.Cch Go.Gk.Pgr Go.Gk.Chn Go.Gk.Node
attribute [local irreducible] gwp gws xwp
def Adz(l:List LD):Prop:=∀x∈l,0≤x.1∧x.1≤8191∧1≤x.2.length∧x.2.length≤64
end Go.Gk.Tre
end
section
namespace Go.Gk.Tre
open Go Go.Gk Go.Gk.Dev Go.Gk.Cch Go.Gk.Pgr Go.Gk.Chn Go.Gk.Node
def KO.sub{a b}(h:a.Sublist b)(k:KO b):KO a:=⟨fun x hx=>k.1 x (h.subset hx),k.2.sublist h⟩
def AaA(l:List LD):Prop:=(∀x∈l,0≤x.1∧x.1≤8191)∧KO (l.map (·.2))
def AaA.ok{l:List LD}(h:AaA l):Adz l:=fun x hx=>by
 have:=h.1 x hx;have:=h.2.1 x.2 (List.mem_map.2 ⟨x,hx,Z⟩);omega
def YV{s}(hG:Pgr.Good s){n:AK}(h:(Bb s (-1) n).2.2=0):0≤(Bb s (-1) n).2.1∧(Bb s (-1) n).2.1≤8191:=by
 unfold Bb at h⊢;split
 ·rename_i hr;rw[if_pos hr] at h;rw[if_neg (by omega)] at h⊢;split
  ·rename_i he;rw[if_pos he] at h;exact absurd h he
  ·rename_i he;rw[if_neg (show¬((0:Int)≤ -1) by omega)];rcases QN hG with ⟨q1,q2,q3⟩|⟨q1,_⟩
   ·exact D9 (Fw hG) (.inl q3)
   ·exact absurd (by rw[q1];decide) he
 ·simp
end Go.Gk.Tre
end
section
namespace Go.Gk
open Go
section
section
variable {P:Program}{pan:List PanicEntry→AU}{Qn:Env→AU}{Ls L:List Ac}{ρ:Env}{d:Ac}{s:GS}{t:Nat}
def Pr{f g}{first cap:Array Value}{args R vs A B}(hp:L.Perm (A++B))(ef:ev ρ f=.func (.func g) first cap)(ea:first.toList++args.map (ev ρ)++cap.toList=vs)
  (hc:AA P g vs d A (Ret R)) (h:∀v d' L',Le d d'→R v d' L'→gws P pan Qn s Ls (upd ρ t v) d' (L'++B)):gws P pan Qn (.op false ⟨some t,none,.callv f args⟩ s) Ls ρ d L:=
 BS d (A++B) (Vs.perm hp) (KA A.length ef ea (by rw[List.take_left];exact hc) (fun v d' L' hl hr=>by rw[List.drop_left];exact h v d' L' hl hr))
end
end
end Go.Gk
end
section
namespace Go.Gk.Tre
open Go Go.Gk Go.Gk.Dev Go.Gk.Cch Go.Gk.Pgr Go.Gk.Chn Go.Gk.Node
attribute [local irreducible] gwp gws xwp
variable{P:Program}{tc:Nat}{f f1 f2 f3:FuncId}
section
def UE{Q:B5}{a:Cm}{ρ d L}(M:Env→AU)(h1:gwp P a {Q with n:=M} ρ d L)(h2:∀ρ d L,M ρ d L→Q.n ρ d L):gwp P a Q ρ d L:=K2 h2 h1
section
variable {s:PD}{most:Int}{fr to:List UInt8}
def RS{key c out}:out.length≤(FA s most key c out tc).out.length:=by
 unfold FA;simp only;split
 ·rw[Aek];omega
 ·exact Aef _
def Mg:∀{ks vs out}{tc:Nat},out.length≤(Ek s most to ks vs out tc).out.length
 |k::ks,c::cs,out,tc=>by
  rw[Ek];split
  ·exact Aef _
  ·simp only;split
   ·exact RS (s:=s) (most:=most) (key:=k) (c:=c) (tc:=tc)
   ·exact Agp (RS (s:=s) (most:=most) (key:=k) (c:=c) (tc:=tc)) Mg
 |[],[],_,_=>by rw[Ek];exact Aef _;simp
 |[],_::_,_,_=>by rw[Ek];exact Aef _;simp
 |_::_,[],_,_=>by rw[Ek];exact Aef _;simp
def Ml{rec:Int→List KV→Nat→WR}(hr:∀c out tc,out.length≤(rec c out tc).out.length):∀{cs:List Int}{p:Option (List UInt8)}{ks out}{tc:Nat},out.length≤(EI rec to p ks cs out tc).out.length
 |[],_,_,_,_=>by rw[EI];exact Aef _
 |c::cs,p,ks,out,tc=>by
  rw[EI];split
  ·exact Aef _
  ·simp only;split
   ·exact hr _ _ _
   ·exact Agp (hr _ _ _) (Ml hr)
def Zo{rec:Int→List KV→Nat→WR}(hr:∀c out tc,out.length≤(rec c out tc).out.length){c:Int}{cs:List Int}{p:Option (List UInt8)}{ks out}(hs:¬H8 p to=true):
  (rec c out tc).out.length≤(EI rec to p ks (c::cs) out tc).out.length:=by
 rw[EI,if_neg hs]
 simp only
 split
 ·exact Aef _
 ·exact Ml hr
def Sl:∀(h:Nat) (k:Int) (out:List KV) (tc:Nat),out.length≤(CF s most fr to h k out tc).out.length
 |0,k,out,tc=>Aef _
 |h+1,k,out,tc=>by
  rw[CF];simp only;split
  ·exact Aef _
  split
  ·exact Mg
  ·exact Ml (fun c o t=>Sl h c o t)
def Aaq{h:Nat}{k:Int}{out}(he:(AX s k ((h+1:Nat):Int)).2≠0):CF s most fr to (h+1) k out tc=⟨out,tc,false,(AX s k ((h+1:Nat):Int)).2⟩:=by
 rw[CF];exact if_pos he
def YN{k:Int}{out}{n:AK}(he:(AX s k ((0+1:Nat):Int)).2=0)(hn:(AX s k ((0+1:Nat):Int)).1=n):
  CF s most fr to (0+1) k out tc=Ek s most to (n.keys.drop (DN n fr)) (n.vals.drop (DN n fr)) out (tc+1):=by
 rw[CF]
 refine(if_neg (fun q=>q he)).trans ?_
 rw[hn]
 exact if_pos Z
def XY{h:Nat}{k:Int}{out}{n:AK}(he:(AX s k ((h+1+1:Nat):Int)).2=0)(hn:(AX s k ((h+1+1:Nat):Int)).1=n):
  CF s most fr to (h+1+1) k out tc=EI (CF s most fr to (h+1)) to (if DN n fr=0 then none else n.keys[DN n fr - 1]?) (n.keys.drop (DN n fr)) (n.kids.drop (DN n fr)) out (tc+1):=by
 rw[CF]
 refine(if_neg (fun q=>q he)).trans ?_
 rw[hn]
 exact if_neg (Nat.succ_ne_zero _)
end
def NP(P:Program)(f:FuncId):Prop:=∀{g},JY P g→∀(x:Nat) {d s}{n:Nat}{dv pv fv tv ov L}{bp bo bm:Nat}{To ro}{most page:Int}{fr to out},
 Pg d {s with tc:=n} dv pv L→AJ d fv fr→AJ d tv to→DC d bp 0 pv→DC d bm 0 (vZ most)→As 2 RBp d ov out ro→(CF s most fr to (x+1) page out n).out.length≤1000000→x≤1000000→
 AA P f [pv,vZ page,vZ ((x+1:Nat):Int),fv,tv,.func (.func g) #[] #[pZ bp,pZ bo,pZ bm]] d (bx bo To [ov]::ro::L)
  (Ret fun v d' L'=>Le d d'∧∃ov' ro' L2 tc,v=.tuple #[.bool (CF s most fr to (x+1) page out n).on,vZ (CF s most fr to (x+1) page out n).e]∧L'=bx bo To [ov']::ro'::L2∧
   As 2 RBp d' ov' (CF s most fr to (x+1) page out n).out ro'∧Pg d' {s with tc:=tc} dv pv L2∧((CF s most fr to (x+1) page out n).e=0→tc=(CF s most fr to (x+1) page out n).tc))
def VW(a0 a1 a2 a3:Nat):A0:=⟨131,[(.tmp 12),(.tmp 13)],(sR (o1 12 (.mv (.const (.bool false)))<|o1 13 (.mv z0) .done) (sR (om 22 0<|om 23 1<|om 24 2<|oc 25 a0 [22,23,24]<|om 21 25<|oe 26 21 0<|oe 27 21 1<|o1 14 (.alo (.agg #[(.bool false),nV,nV,nV]))<|o0 (.st 4 14 26)<|om 15 27 .done) (.seq (sR (om 28 15<|ob 29 .neq 28 z0 .done) (.cond 29 (sR (om 30 15<|o1 12 (.mv (.const (.bool false)))<|om 13 30 .done) .ret) .skip)) (sR (o1 16 (.mv z0) .done) (.seq (sR (om 31 3<|oL 32 31<|ob 33 .gtr 32 z0 .done) (.cond 33 (rG (o1 35 (.ld (some 4) 14)<|om 36 3<|oc 37 a1 [35,36]<|om 34 37<|oe 38 34 0<|oe 39 34 1<|om 16 38 .done)) .skip)) (.seq (sR (oj 40 0 14<|ol 41 40 .done) (.cond 41 (.seq (.block 0 (.loop (.seq (sR (om 42 16<|oj 43 1 14<|ol 44 43<|oL 45 44<|ob 46 .lss 42 45 .done) (.cond 46 .skip (.exit 0))) (.seq (.block 1 (.seq (sR (om 49 4<|oL 50 49<|ob 51 .gtr 50 z0<|om 52 51<|oT 53 52 (.fld 1 14)<|oT 54 52 (.ld none 53)<|gT 55 52 16<|oT 56 52 (.idx 1 54 55)<|oT 57 52 (.ld none 56)<|gT 58 52 4<|oT 59 52 (.call a2 [57,58])<|oT 60 52 (.bin .geq 59 z0)<|gP 61 52 60 .done) (.cond 61 (sR (o1 12 (.mv (.const (.bool false)))<|o1 13 (.mv z0) .done) .ret) .skip)) (.seq (.reg true (pm 63 5<|p1 64 (.fld 1 14)<|pl 65 64<|pm 66 16<|p1 67 (.idx 1 65 66)<|pl 68 67<|p1 69 (.fld 2 14)<|pl 70 69<|pm 71 16<|p1 72 (.idx 1 70 71)<|pl 73 72<|o1 74 (.callv 63 [68,73])<|pm 62 74<|p1 75 (.ext 62 0)<|p1 76 (.ext 62 1)<|pm 17 75<|pm 18 76 .done)) (sR (om 77 18<|ob 78 .neq 77 z0<|om 79 78<|gF 80 79 17<|oF 81 79 (.un .not 80)<|o1 82 (.pick 79 (.const (.bool true)) 81) .done) (.cond 82 (sR (om 83 18<|o1 12 (.mv (.const (.bool false)))<|om 13 83 .done) .ret) .skip))))) (rG (om 47 16<|ob 48 .add 47 z1<|om 16 48 .done)))))) (sR (o1 12 (.mv (.const (.bool true)))<|o1 13 (.mv z0) .done) .ret)) .skip)) (.seq (.block 2 (.loop (.seq (sR (om 84 16<|oj 85 3 14<|ol 86 85<|oL 87 86<|ob 88 .lss 84 87 .done) (.cond 88 .skip (.exit 2))) (.seq (.block 3 (.seq (sR (om 91 16<|ob 92 .gtr 91 z0<|om 93 92<|gT 94 93 4<|oT 95 93 (.len 94)<|oT 96 93 (.bin .gtr 95 z0)<|gP 97 93 96<|om 98 97<|oT 99 98 (.fld 1 14)<|oT 100 98 (.ld none 99)<|gT 101 98 16<|oT 102 98 (.bin .sub 101 z1)<|oT 103 98 (.idx 1 100 102)<|oT 104 98 (.ld none 103)<|gT 105 98 4<|oT 106 98 (.call a2 [104,105])<|oT 107 98 (.bin .geq 106 z0)<|gP 108 98 107 .done) (.cond 108 (sR (o1 12 (.mv (.const (.bool false)))<|o1 13 (.mv z0) .done) .ret) .skip)) (sR (om 110 0<|oj 111 3 14<|ol 112 111<|om 113 16<|oI 114 1 112 113<|ol 115 114<|om 116 2<|ob 117 .sub 116 z1<|om 118 3<|om 119 4<|om 120 5<|oc 121 a3 [110,115,117,118,119,120]<|om 109 121<|oe 122 109 0<|oe 123 109 1<|om 19 122<|om 20 123 .done) (sR (om 124 20<|ob 125 .neq 124 z0<|om 126 125<|gF 127 126 19<|oF 128 126 (.un .not 127)<|o1 129 (.pick 126 (.const (.bool true)) 128) .done) (.cond 129 (sR (om 130 20<|o1 12 (.mv (.const (.bool false)))<|om 13 130 .done) .ret) .skip))))) (rG (om 89 16<|ob 90 .add 89 z1<|om 16 90 .done)))))) (sR (o1 12 (.mv (.const (.bool true)))<|o1 13 (.mv z0) .done) .ret))))))))⟩
set_option maxRecDepth 4000 in
set_option maxHeartbeats 4000000 in
def UX(hd:dec P f=some (VW f1 f2 f3 f))(h1:NJ P f1)(h2:HR P f2 findD)(h3:F4 P f3):NP P f:=by
 intro g hg x;induction x using Nat.strongRecOn with
 |_ x ih=>
 intro d s n dv pv fv tv ov L bp bo bm To ro most page fr to out hp hf ht hbp hbm ho hlen hx;obtain⟨pb,rfl⟩:=hp.ptr;obtain⟨fa,fc,rfl⟩:=RSl.val hf;obtain⟨ta,tc0,rfl⟩:=RSl.val ht;obtain⟨oa,oc,rfl⟩:=ho.val;have hfl:=hf.BF;have htl:=ht.BF;refine AG hd (Aea Z) ?_;show gwp P _ _ _ _ _;refine Ad<|Ae Z<|Ab Z<|Aa<|Ad<|Am Z<|Ab Z<|Ab Z<|AY [_,_] (h1 (k:=page) (x:=((x+1:Nat):Int)) hp) Z Z (fun v d2 L2 hl ⟨_,cs,tc,e1,hn,hp2,htc⟩=>?_);subst e1;rw[show AX {s with tc:=n} page ((x+1:Nat):Int)=AX s page ((x+1:Nat):Int) from Z] at hn htc⊢;have hp2:Pg d2 {s with tc:=tc} dv (pZ pb) L2:=hp2;have htc:(AX s page ((x+1:Nat):Int)).2=0→tc=n+1:=htc;obtain⟨xa,xc,ya,yc,za,zc,rfl⟩:=Cj.four hn;have ho2:As 2 RBp d2 (.slice oa out.length oc) out ro:=As.mono (R:=RBp) DJ ho hl;(refine AT Z<|Ao Z Z<|Ao Z Z<|BP (fun _ _=>?_));rename_i b14 T14;refine A7 0 [.bool (AX s page ((x+1:Nat):Int)).1.leaf,.slice xa (AX s page ((x+1:Nat):Int)).1.keys.length xc,.slice ya (AX s page ((x+1:Nat):Int)).1.vals.length yc,.slice za (AX s page ((x+1:Nat):Int)).1.kids.length zc] Z Z Z Z (Aea Z) Z Z ?_;by_cases he:(AX s page ((x+1:Nat):Int)).2=0
 ·have htc2:=htc he;obtain⟨hr,hlf⟩:=HB he;obtain⟨nd,hne⟩:∃nd,(AX s page ((x+1:Nat):Int)).1=nd:=⟨_,Z⟩
  rw[he];rw[hne] at hn hr hlf⊢;have hlv:nd.leaf=true→nd.vals.length=nd.keys.length:=Im hr;have hli:nd.leaf=false→nd.kids.length=nd.keys.length+1:=Hc hr;have hf2:RSl 1 AH d2 (.slice fa fr.length fc) fr:=RSl.mono (R:=AH) AL hf hl;have ht2:RSl 1 AH d2 (.slice ta to.length tc0) to:=RSl.mono (R:=AH) AL ht hl;have hfc:=h2 hn hf2;have hfi:DN nd fr≤nd.keys.length:=by
   unfold DN;split
   ·omega
   ·exact KK
  clear hr htc;(refine Ab Z<|Aa<|Ag<|Ad<|Ab Z<|AO Z Z<|Aa<|Ar Z (by omega) ?_);apply Ak;(refine Ad<|Ab Z<|Aa<|Ag<|Ad<|Aj Z<|AI Z<|Bx Z Z<|Aa ?_);show gwp P _ _ _ _ _;refine UE (fun ρ d5 L5=>d5=d2∧BG ρ [(0,pZ pb),(2,vZ ((x+1:Nat):Int)),(3,.slice fa fr.length fc),(4,.slice ta to.length tc0),(5,.func (.func g) #[] #[pZ bp,pZ bo,pZ bm]),(14,pZ b14),(16,vZ (DN nd fr))]∧
   L5=bx b14 T14 [.bool nd.leaf,.slice xa nd.keys.length xc,.slice ya nd.vals.length yc,.slice za nd.kids.length zc]::bx bo To [.slice oa out.length oc]::ro::L2) ?_ ?_
  ·by_cases h0:0<fr.length
   ·have hfr:fr≠[]:=Ahb.1 h0;refine Aw Z (by omega)<|AE<|Bf 0 Z Z Z<|Aj Z<|BE Z hfc ?_;(refine AT Z<|Ao Z Z<|Ao Z Z<|Ab Z<|Aa ?_);exact⟨Z,⟨Z,Z,Z,Z,Z,Z,by unfold DN;rw[if_neg hfr];rfl,trivial⟩,Z⟩
   ·have hfr:fr=[]:=List.length_eq_zero_iff.1 (by omega);(refine Ar Z (by omega)<|Ak ?_);exact⟨Z,⟨Z,Z,Z,Z,Z,Z,by unfold DN;rw[if_pos hfr];rfl,trivial⟩,Z⟩
  clear hfc;rintro ρ d5 L5 ⟨hdd,hsl,hL⟩;subst hdd;subst hL;show gwp P _ _ _ _ _;refine C1 _ hsl ?_;clear hsl;apply Ag;apply Ag;apply AE;refine Ih (fun d6 hl6 hg6=>?_);replace hg6:=Qs hg6;have hp6:=hp2.mono hl6;have hf6:RSl 1 AH d6 (.slice fa fr.length fc) fr:=RSl.mono (R:=AH) AL hf2 hl6;have ht6:RSl 1 AH d6 (.slice ta to.length tc0) to:=RSl.mono (R:=AH) AL ht2 hl6;have ho6:As 2 RBp d6 (.slice oa out.length oc) out ro:=As.mono (R:=RBp) DJ ho2 hl6;have hbp6:=hbp.mono (hl.trans hl6);have hbm6:=hbm.mono (hl.trans hl6);obtain⟨kv,vv,iv,q,r1,r2,r3⟩:=hn;cases q;have r1:RSl 1 RBs d6 (.slice xa nd.keys.length xc) nd.keys:=RSl.mono (R:=RBs) C6 r1 hl6;have r2:RSl 1 RBs d6 (.slice ya nd.vals.length yc) nd.vals:=RSl.mono (R:=RBs) C6 r2 hl6;have r3:RSl 1 Bh d6 (.slice za nd.kids.length zc) nd.kids:=RSl.mono (R:=Bh) B6 r3 hl6;clear hf2 ht2 ho2 hp2;by_cases hx0:x=0
  ·subst hx0;have hvl:=hlv (by rw[hlf];rfl);rw[YN he hne] at hlen⊢;clear hlv hli ih;have hleaf:nd.leaf=true:=by rw[hlf];rfl
   rewrite [hleaf] at hg6;(refine Ai Z<|Ah Z (B2 (by assumption) Z)<|Aa<|Bc Z<|Ag<|Ax ?_);subst htc2;obtain⟨W,hW⟩:∃W,Ek s most to (nd.keys.drop (DN nd fr)) (nd.vals.drop (DN nd fr)) out (n+1)=W:=⟨_,Z⟩
   rw[hW] at hlen⊢;refine B8 (α:=Nat×List KV×Nat×Value) (fun p=>[(4,.slice ta to.length tc0),(5,.func (.func g) #[] #[pZ bp,pZ bo,pZ bm]),(14,pZ b14),(16,vZ p.1)])
    (fun p d' Lx=>Le d6 d'∧p.1≤nd.keys.length∧Ek s most to (nd.keys.drop p.1) (nd.vals.drop p.1) p.2.1 p.2.2.1=W∧∃ro' L',As 2 RBp d' p.2.2.2 p.2.1 ro'∧Pg d' {s with tc:=p.2.2.1} dv (pZ pb) L'∧Lx=bx bo To [p.2.2.2]::ro'::L') (fun p=>nd.keys.length - p.1) (DN nd fr,out,n+1,.slice oa out.length oc)
    ⟨Z,Z,Z,Z,trivial⟩ ⟨Le.refl _,hfi,hW,ro,L2,ho6,hp6,Z⟩ ?_
   rintro⟨i,o,t,ov⟩ ρ d7 Lx ⟨hl7,hi,hWi,ro7,L7,ho7,hp7,hL⟩;simp only at hi hWi ho7 hp7⊢;subst hL;have hg7:=hg6.mono hl7;have ht7:RSl 1 AH d7 (.slice ta to.length tc0) to:=RSl.mono (R:=AH) AL ht6 hl7;have k1:RSl 1 RBs d7 (.slice xa nd.keys.length xc) nd.keys:=RSl.mono (R:=RBs) C6 r1 hl7;have k2:RSl 1 RBs d7 (.slice ya nd.vals.length yc) nd.vals:=RSl.mono (R:=RBs) C6 r2 hl7;have n1:=k1.BF;by_cases hc:i<nd.keys.length
   ·have hcv:i<nd.vals.length:=by omega
    have hol:o.length≤1000000:=Agp (by rw[←hWi];exact Mg) hlen;rw[←List.getElem_cons_drop hc,←List.getElem_cons_drop hcv,Ek] at hWi;apply Ag;apply Ag;apply AE;refine Ab Z<|Ai Z<|Ah Z (B2 (by assumption) Z)<|AI Z<|AB Z Z<|Aa<|Aw Z (by omega) ?_;apply Ak;apply Ag;apply Ax;apply Ag;by_cases hs:H8 (some nd.keys[i]) to=true
    ·rw[if_pos hs] at hWi;obtain⟨q1,q2⟩:=GD.1 hs;have h0:0<to.length:=Ahb.2 q1;have hge:¬Lib.compareBytes nd.keys[i] to<0:=fun q=>q2 ((Ja _ _).1 q);clear hs;(refine Ad<|Aj Z<|AI Z<|Bx Z Z<|Ae Z<|A8 Z (by omega)<|Af Z<|Ai Z<|Af Z<|Ah Z (B2 (by assumption) Z)<|Af Z<|Ab Z<|Af Z<|Bg (sz:=1) (R:=RBs) (by rfl) (by assumption) (by rfl) Z (by omega) ?_;rintro _ _ _ _ _ ⟨_,rfl,_⟩;refine Af Z<|Ah Z (BQ (by assumption) Z)<|Af Z<|Aj Z<|Af Z ?_);refine BE Z (h3 (by assumption) ht7) ?_;subst hWi;(refine Af Z<|Da Z Z<|Ay Z Z<|Aa<|Aw Z (by omega)<|Ad<|Ae Z<|Ab Z<|Aa<|Ap ?_);exact A4 [.bool false,vZ 0] ⟨Aq Z,Aq Z,trivial⟩ (d':=d7) (L':=bx bo To [ov]::ro7::L7) (Vs.refl _ _) ⟨(hl.trans hl6).trans hl7,ov,ro7,L7,t,Z,Z,ho7,hp7,fun _=>Z⟩
    rw[if_neg hs] at hWi;refine UE (fun ρ d8 L8=>d8=d7∧BG ρ [(4,.slice ta to.length tc0),(5,.func (.func g) #[] #[pZ bp,pZ bo,pZ bm]),(14,pZ b14),(16,vZ i)]∧L8=bx bo To [ov]::ro7::L7) ?_ ?_
    ·by_cases h0:0<to.length
     ·have hlt:Lib.compareBytes nd.keys[i] to<0:=(Ja _ _).2 (Decidable.byContradiction fun q=>hs (GD.2 ⟨Ahb.1 h0,q⟩));clear hs;(refine Ad<|Aj Z<|AI Z<|Bx Z Z<|Ae Z<|A8 Z (by omega)<|Af Z<|Ai Z<|Af Z<|Ah Z (B2 (by assumption) Z)<|Af Z<|Ab Z<|Af Z<|Bg (sz:=1) (R:=RBs) (by rfl) (by assumption) (by rfl) Z (by omega) ?_;rintro _ _ _ _ _ ⟨_,rfl,_⟩;refine Af Z<|Ah Z (BQ (by assumption) Z)<|Af Z<|Aj Z<|Af Z ?_);refine BE Z (h3 (by assumption) ht7) ?_;(refine Af Z<|Da Z Z<|Ay Z Z<|Aa<|Ar Z (by omega)<|Ak ?_);exact⟨Z,⟨Z,Z,Z,Z,trivial⟩,Z⟩
     ·clear hs;(refine Ad<|Aj Z<|AI Z<|Bx Z Z<|Ae Z<|A3 Z (by omega)<|An Z<|An Z<|An Z<|An Z<|An Z<|An Z<|An Z<|An Z<|Au Z Z<|Aa<|AS Z<|Ak ?_);exact⟨Z,⟨Z,Z,Z,Z,trivial⟩,Z⟩
    clear hs;rintro ρ d8 L8 ⟨hdd,hsl,hL⟩;subst hdd;subst hL;show gwp P _ _ _ _ _;refine C1 _ hsl ?_;clear hsl;apply Ag;refine O4 [] (bx bo To [ov]::ro7::L7) (Vs.refl _ _) ?_;(refine FE Z<|Ai Z<|Ah Z (B2 (by assumption) Z)<|Ab Z<|Bg (sz:=1) (R:=RBs) (by rfl) (by assumption) (by rfl) Z (by omega) ?_;rintro _ _ _ _ _ ⟨_,rfl,_⟩;refine Ah Z (BQ (by assumption) Z)<|Ai Z<|Ah Z (B2 (by assumption) Z)<|Ab Z<|Bg (sz:=1) (R:=RBs) (by rfl) (by assumption) (by rfl) Z (by omega) ?_;rintro _ _ _ _ _ ⟨_,rfl,_⟩;apply Ah;rfl;exact BQ (by assumption) Z);refine Pr (B:=[]) (List.Perm.of_eq (Afh _).symm) Z Z (hg hp7 (show AJ _ _ nd.keys[i] by assumption) (show AJ _ _ nd.vals[i] by assumption) (hbp6.mono hl7) (hbm6.mono hl7) ho7 hol) (fun v d9 L9 hl9 ⟨_,ov9,ro9,L10,tc9,e1,e2,ho9,hp9,htc9⟩=>?_);subst e1;subst e2;rewrite [Afh];dsimp only at hWi;generalize FA s most nd.keys[i] nd.vals[i] o t=r at hWi ho9 htc9⊢;obtain⟨ro',rt,ron,re⟩:=r;simp only at hWi ho9 htc9⊢;by_cases he9:re=0
    ·subst he9;have htc9:=htc9 Z;subst htc9;cases ron with
     |true=>
      rw[if_neg (by simp)] at hWi
      (refine AT Z<|Ao Z Z<|Ao Z Z<|Ae Z<|Ab Z<|Aa<|Ad<|Ab Z<|AO Z Z<|Ae Z<|A3 Z (by omega)<|Af Z<|Ae Z<|Af Z<|Bn Z<|Au Z Z<|Aa<|AS Z<|Ak<|AE<|Ab Z<|AM Z Z (by omega) (by omega)<|Ab Z<|Aa ?_)
      exact⟨(i+1,ro',tc9,ov9),by simp only;omega,⟨Z,Z,Z,int_eq (by simp),trivial⟩,hl7.trans hl9,hc,hWi,ro9,L10,ho9,hp9,Z⟩
     |false=>
      rw[if_pos (by simp)] at hWi
      subst hWi
      (refine AT Z<|Ao Z Z<|Ao Z Z<|Ae Z<|Ab Z<|Aa<|Ad<|Ab Z<|AO Z Z<|Ae Z<|A3 Z (by omega)<|Af Z<|Ae Z<|Af Z<|Bn Z<|Au Z Z<|Aa<|Bc Z<|Ad<|Ab Z<|Ae Z<|Ab Z<|Aa<|Ap ?_)
      exact A4 [.bool false,vZ 0] ⟨Aq Z,Aq Z,trivial⟩ (d':=d9) (L':=bx bo To [ov9]::ro9::L10) (Vs.refl _ _) ⟨((hl.trans hl6).trans hl7).trans hl9,ov9,ro9,L10,tc9,Z,Z,ho9,hp9,fun _=>Z⟩
    ·rw[if_pos (.inl he9)] at hWi;subst hWi;(refine AT Z<|Ao Z Z<|Ao Z Z<|Ae Z<|Ab Z<|Aa<|Ad<|Ab Z<|AO Z Z<|Ae Z<|A8 Z (by omega)<|An Z<|An Z<|Ay Z Z<|Aa<|Bc Z<|Ad<|Ab Z<|Ae Z<|Ab Z<|Aa<|Ap ?_);exact A4 [.bool false,vZ re] ⟨Aq Z,Aq Z,trivial⟩ (d':=d9) (L':=bx bo To [ov9]::ro9::L10) (Vs.refl _ _) ⟨((hl.trans hl6).trans hl7).trans hl9,ov9,ro9,L10,tc9,Z,Z,ho9,hp9,fun q=>absurd q he9⟩
   ·obtain rfl:i=nd.keys.length:=by omega
    rw[Ahg,←hvl,Ahg,Ek] at hWi
    ·subst hWi;(refine Ag<|Ad<|Ab Z<|Ai Z<|Ah Z (B2 (by assumption) Z)<|AI Z<|AB Z Z<|Aa<|Ar Z (by omega)<|Bd<|Ad<|Ae Z<|Ab Z<|Aa<|Ap ?_);exact A4 [.bool true,vZ 0] ⟨Aq Z,Aq Z,trivial⟩ (d':=d7) (L':=bx bo To [ov]::ro7::L7) (Vs.refl _ _) ⟨(hl.trans hl6).trans hl7,ov,ro7,L7,t,Z,Z,ho7,hp7,fun _=>Z⟩
    ·simp
  ·obtain⟨x,rfl⟩:∃y,x=y+1:=⟨x - 1,by omega⟩
   have hil:=hli (by rw[hlf];simp;omega);rw[XY he hne] at hlen⊢;have hleaf:nd.leaf=false:=by rw[hlf];simp;omega
   rewrite [hleaf] at hg6;clear hlv hli;(refine Ai Z<|Ah Z (B2 (by assumption) Z)<|Aa<|AS Z<|Ak<|Ag<|Ax ?_);subst htc2;obtain⟨W,hW⟩:∃W,EI (CF s most fr to (x+1)) to (if DN nd fr=0 then none else nd.keys[DN nd fr - 1]?) (nd.keys.drop (DN nd fr)) (nd.kids.drop (DN nd fr)) out (n+1)=W:=⟨_,Z⟩
   rw[hW] at hlen⊢;refine B8 (α:=Nat×List KV×Nat×Value) (fun p=>[(0,pZ pb),(2,vZ ((x+1+1:Nat):Int)),(3,.slice fa fr.length fc),(4,.slice ta to.length tc0),(5,.func (.func g) #[] #[pZ bp,pZ bo,pZ bm]),(14,pZ b14),(16,vZ p.1)])
    (fun p d' Lx=>Le d6 d'∧p.1≤nd.kids.length∧EI (CF s most fr to (x+1)) to (if p.1=0 then none else nd.keys[p.1 - 1]?) (nd.keys.drop p.1) (nd.kids.drop p.1) p.2.1 p.2.2.1=W∧∃ro' L',As 2 RBp d' p.2.2.2 p.2.1 ro'∧Pg d' {s with tc:=p.2.2.1} dv (pZ pb) L'∧Lx=bx bo To [p.2.2.2]::ro'::L') (fun p=>nd.kids.length - p.1) (DN nd fr,out,n+1,.slice oa out.length oc)
    ⟨Z,Z,Z,Z,Z,Z,Z,trivial⟩ ⟨Le.refl _,by simp only;omega,hW,ro,L2,ho6,hp6,Z⟩ ?_
   rintro⟨i,o,t,ov⟩ ρ d7 Lx ⟨hl7,hi,hWi,ro7,L7,ho7,hp7,hL⟩;simp only at hi hWi ho7 hp7⊢;subst hL;have hg7:=hg6.mono hl7;have hf7:RSl 1 AH d7 (.slice fa fr.length fc) fr:=RSl.mono (R:=AH) AL hf6 hl7;have ht7:RSl 1 AH d7 (.slice ta to.length tc0) to:=RSl.mono (R:=AH) AL ht6 hl7;have k1:RSl 1 RBs d7 (.slice xa nd.keys.length xc) nd.keys:=RSl.mono (R:=RBs) C6 r1 hl7;have k3:RSl 1 Bh d7 (.slice za nd.kids.length zc) nd.kids:=RSl.mono (R:=Bh) B6 r3 hl7;have n1:=k3.BF;by_cases hc:i<nd.kids.length
   ·rw[←List.getElem_cons_drop hc] at hWi;obtain⟨p,hp⟩:∃p,(if i=0 then none else nd.keys[i - 1]?)=p:=⟨_,Z⟩
    rw[hp] at hWi;apply Ag;apply Ag;apply AE;refine Ab Z<|Ai Z<|Ah Z (B2 (by assumption) Z)<|AI Z<|AB Z Z<|Aa<|Aw Z (by omega) ?_;apply Ak;apply Ag;apply Ax;apply Ag;by_cases hs:H8 p to=true
    ·rw[EI,if_pos hs] at hWi;obtain⟨k,rfl⟩:∃k,p=some k:=by
      cases p with
      |none=>cases hs
      |some k=>exact⟨k,Z⟩
     obtain⟨q1,q2⟩:=GD.1 hs;have h0:0<to.length:=Ahb.2 q1;have hi0:0<i:=by
      rcases Nat.eq_zero_or_pos i with z|z
      ·rw[if_pos z] at hp;cases hp
      ·exact z
     rw[if_neg (by omega)] at hp;have hik:i - 1<nd.keys.length:=by omega
     rw[Aed hik,Option.some.injEq] at hp;have hge:¬Lib.compareBytes nd.keys[i - 1] to<0:=fun q=>q2 (by rw[←hp];exact(Ja _ _).1 q);clear hs;have hie:(i:Int) - 1=((i - 1:Nat):Int):=by omega
     refine Ad<|Ab Z<|Bx Z Z<|Ae Z<|A8 Z (by omega)<|Af Z<|Aj Z<|Af Z<|AI Z<|Af Z<|Bx Z Z<|Ay Z Z<|Ae Z<|A8 Z (by omega)<|Af Z<|Ai Z<|Af Z<|Ah Z (B2 (by assumption) Z)<|Af Z<|Ab Z<|Af Z<|CV Z Z (by omega) (by omega)<|Af Z<|Bg (sz:=1) (R:=RBs) Z k1 Z (m:=i - 1) hie hik (fun bq oq csq hcq hDq hRq=>?_);obtain⟨uq,hu,hRu⟩:=hRq;subst hu;refine Af Z<|Ah Z (BQ (by assumption) Z)<|Af Z<|Aj Z<|Af Z<|BE Z (h3 hRu ht7) ?_;subst hWi;(refine Af Z<|Da Z Z<|Ay Z Z<|Aa<|Aw Z (by omega)<|Ad<|Ae Z<|Ab Z<|Aa<|Ap ?_);exact A4 [.bool false,vZ 0] ⟨Aq Z,Aq Z,trivial⟩ (d':=d7) (L':=bx bo To [ov]::ro7::L7) (Vs.refl _ _) ⟨(hl.trans hl6).trans hl7,ov,ro7,L7,t,Z,Z,ho7,hp7,fun _=>Z⟩
    have hol:(CF s most fr to (x+1) nd.kids[i] o t).out.length≤1000000:=Agp (by rw[←hWi];exact Zo (fun c o t=>Sl _ c o t) hs) hlen;rw[EI,if_neg hs] at hWi;refine UE (fun ρ d8 L8=>d8=d7∧BG ρ [(0,pZ pb),(2,vZ ((x+1+1:Nat):Int)),(3,.slice fa fr.length fc),(4,.slice ta to.length tc0),(5,.func (.func g) #[] #[pZ bp,pZ bo,pZ bm]),(14,pZ b14),(16,vZ i)]∧L8=bx bo To [ov]::ro7::L7) ?_ ?_
    ·by_cases hi0:0<i
     ·by_cases h0:0<to.length
      ·have hik:i - 1<nd.keys.length:=by omega
       have hlt:Lib.compareBytes nd.keys[i - 1] to<0:=(Ja _ _).2 (Decidable.byContradiction fun q=>hs (by rw[←hp,if_neg (by omega),Aed hik];exact GD.2 ⟨Ahb.1 h0,q⟩));have hie:(i:Int) - 1=((i - 1:Nat):Int):=by omega
       clear hs;refine Ad<|Ab Z<|Bx Z Z<|Ae Z<|A8 Z (by omega)<|Af Z<|Aj Z<|Af Z<|AI Z<|Af Z<|Bx Z Z<|Ay Z Z<|Ae Z<|A8 Z (by omega)<|Af Z<|Ai Z<|Af Z<|Ah Z (B2 (by assumption) Z)<|Af Z<|Ab Z<|Af Z<|CV Z Z (by omega) (by omega)<|Af Z<|Bg (sz:=1) (R:=RBs) Z k1 Z (m:=i - 1) hie hik (fun bq oq csq hcq hDq hRq=>?_);obtain⟨uq,hu,hRu⟩:=hRq;subst hu;refine Af Z<|Ah Z (BQ (by assumption) Z)<|Af Z<|Aj Z<|Af Z<|BE Z (h3 hRu ht7) ?_;(refine Af Z<|Da Z Z<|Ay Z Z<|Aa<|Ar Z (by omega)<|Ak ?_);exact⟨Z,⟨Z,Z,Z,Z,Z,Z,Z,trivial⟩,Z⟩
      ·clear hs;(refine Ad<|Ab Z<|Bx Z Z<|Ae Z<|A8 Z (by omega)<|Af Z<|Aj Z<|Af Z<|AI Z<|Af Z<|Bx Z Z<|Ay Z Z<|Ae Z<|A3 Z (by omega)<|An Z<|An Z<|An Z<|An Z<|An Z<|An Z<|An Z<|An Z<|An Z<|Au Z Z<|Aa<|AS Z<|Ak ?_);exact⟨Z,⟨Z,Z,Z,Z,Z,Z,Z,trivial⟩,Z⟩
     ·clear hs;(refine Ad<|Ab Z<|Bx Z Z<|Ae Z<|A3 Z (by omega)<|An Z<|An Z<|An Z<|Au Z Z<|Ae Z<|An Z<|An Z<|An Z<|An Z<|An Z<|An Z<|An Z<|An Z<|An Z<|Au Z Z<|Aa<|AS Z<|Ak ?_);exact⟨Z,⟨Z,Z,Z,Z,Z,Z,Z,trivial⟩,Z⟩
    clear hs hp;rintro ρ d8 L8 ⟨hdd,hsl,hL⟩;subst hdd;subst hL;show gwp P _ _ _ _ _;refine C1 _ hsl ?_;clear hsl;apply Ag;apply AE;(refine Am Z<|Ai Z<|Ah Z (B2 (by assumption) Z)<|Ab Z<|Bg (sz:=1) (R:=Bh) (by rfl) (by assumption) (by rfl) Z (by omega) ?_;rintro _ _ _ _ _ ⟨rfl,_,_⟩;refine Ah Z (BQ (by assumption) Z)<|Ab Z<|CV Z Z (by omega) (by omega)<|Aj Z<|Aj Z<|FE Z ?_);refine EN (g:=117) (congrArg (Value.int .i64) (show((x+1+1:Nat):Int) - 1=((x+1:Nat):Int) by omega)) ?_;skip;refine AY [] (ih x (by omega) hp7 hf7 ht7 (hbp6.mono hl7) (hbm6.mono hl7) ho7 hol (by omega)) Z Z (fun v d9 L9 hl9 ⟨_,ov9,ro9,L10,tc9,e1,e2,ho9,hp9,htc9⟩=>?_);subst e1;subst e2;dsimp only at hWi;generalize CF s most fr to (x+1) nd.kids[i] o t=r at hWi ho9 htc9⊢;obtain⟨ro',rt,ron,re⟩:=r;simp only at hWi ho9 htc9⊢;by_cases he9:re=0
    ·subst he9;have htc9:=htc9 Z;subst htc9;cases ron with
     |true=>
      rw[if_neg (by simp),List.tail_drop,List.head?_drop] at hWi
      (refine AT Z<|Ao Z Z<|Ao Z Z<|Ae Z<|Ab Z<|Aa<|Ad<|Ab Z<|AO Z Z<|Ae Z<|A3 Z (by omega)<|Af Z<|Ae Z<|Af Z<|Bn Z<|Au Z Z<|Aa<|AS Z<|Ak<|AE<|Ab Z<|AM Z Z (by omega) (by omega)<|Ab Z<|Aa ?_)
      exact⟨(i+1,ro',tc9,ov9),by simp only;omega,⟨Z,Z,Z,Z,Z,Z,int_eq (by simp),trivial⟩,hl7.trans hl9,hc,by rw[if_neg (by simp)];exact hWi,ro9,L10,ho9,hp9,Z⟩
     |false=>
      rw[if_pos (by simp)] at hWi
      subst hWi
      (refine AT Z<|Ao Z Z<|Ao Z Z<|Ae Z<|Ab Z<|Aa<|Ad<|Ab Z<|AO Z Z<|Ae Z<|A3 Z (by omega)<|Af Z<|Ae Z<|Af Z<|Bn Z<|Au Z Z<|Aa<|Bc Z<|Ad<|Ab Z<|Ae Z<|Ab Z<|Aa<|Ap ?_)
      exact A4 [.bool false,vZ 0] ⟨Aq Z,Aq Z,trivial⟩ (d':=d9) (L':=bx bo To [ov9]::ro9::L10) (Vs.refl _ _) ⟨((hl.trans hl6).trans hl7).trans hl9,ov9,ro9,L10,tc9,Z,Z,ho9,hp9,fun _=>Z⟩
    ·rw[if_pos (.inl he9)] at hWi;subst hWi;(refine AT Z<|Ao Z Z<|Ao Z Z<|Ae Z<|Ab Z<|Aa<|Ad<|Ab Z<|AO Z Z<|Ae Z<|A8 Z (by omega)<|An Z<|An Z<|Ay Z Z<|Aa<|Bc Z<|Ad<|Ab Z<|Ae Z<|Ab Z<|Aa<|Ap ?_);exact A4 [.bool false,vZ re] ⟨Aq Z,Aq Z,trivial⟩ (d':=d9) (L':=bx bo To [ov9]::ro9::L10) (Vs.refl _ _) ⟨((hl.trans hl6).trans hl7).trans hl9,ov9,ro9,L10,tc9,Z,Z,ho9,hp9,fun q=>absurd q he9⟩
   ·obtain rfl:i=nd.kids.length:=by omega
    rw[Ahg,EI] at hWi;subst hWi;(refine Ag<|Ad<|Ab Z<|Ai Z<|Ah Z (B2 (by assumption) Z)<|AI Z<|AB Z Z<|Aa<|Ar Z (by omega)<|Bd<|Ad<|Ae Z<|Ab Z<|Aa<|Ap ?_);exact A4 [.bool true,vZ 0] ⟨Aq Z,Aq Z,trivial⟩ (d':=d7) (L':=bx bo To [ov]::ro7::L7) (Vs.refl _ _) ⟨(hl.trans hl6).trans hl7,ov,ro7,L7,t,Z,Z,ho7,hp7,fun _=>Z⟩
 ·rw[Aaq he];(refine Ab Z<|Aa<|Ag<|Ad<|Ab Z<|AO Z Z<|Aa<|Aw Z (by omega)<|Ad<|Ab Z<|Ae Z<|Ab Z<|Aa<|Ap ?_);exact A4 [.bool false,vZ (AX s page ((x+1:Nat):Int)).2] ⟨Aq Z,Aq Z,trivial⟩ (d':=d2) (L':=bx bo To [.slice oa out.length oc]::ro::L2) (Vs.drop (.cons _ (Aeb _)))
   ⟨hl,_,ro,L2,tc,Z,Z,ho2,hp2,fun q=>absurd q he⟩
end
def NO(P:Program)(f:FuncId):Prop:=∀{d}{bt pb:Nat}{Tt}{r h c:Int}{L},Du P f [pZ bt,nV] d (tb bt Tt (pZ pb) r h c::L) (.tuple #[nV,.bool false,vZ 2])
def UM{f4}(hd:dec P f=some (JC f1 f2 f3 f4))(h1:Jh P f1):NO P f:=by
 intro d bt pb Tt r h c L;refine AG hd (Aea Z) ?_;show gwp P _ _ _ _ _;refine Ad<|Aj Z<|Ae Z<|Ab Z<|Aa<|Ag<|Ad<|Am Z<|Aj Z<|B7 [] (h1 (key:=[]) RSl.nil) Z Z ?_;rewrite [show BZ []=2 from Z];(refine Ab Z<|Aa<|Ad<|Ab Z<|AO Z Z<|Aa<|Aw Z (by omega)<|Ad<|Ab Z<|Aj Z<|Ae Z<|Ab Z<|Aa<|Ap ?_);exact Dc [nV,.bool false,vZ 2] ⟨Aq Z,Aq Z,Aq Z,trivial⟩ (Aeb _) ⟨Z,Z,Z⟩
def K8(P:Program)(f:FuncId):Prop:=∀{d}{t:TD}{dv pv L}{bt:Nat}{Tt},Pg d t.s dv pv L→Dn t.root t.height t.count=true→t.root≤1000000000→t.height≤1000000000→t.count≤1000000000→
 AA P f [pv,pZ bt] d (tbD bt Tt pv t::L) (Ret fun v d' L'=>Le d d'∧v=vZ 0∧L'=tbD bt Tt pv t::L)
def Aa0{r h c:Int}(e:Dn r h c=true): -1≤r∧0≤h∧0≤c:=by
 simp only[Dn,Afp,Aec,decide_eq_true_eq] at e;omega
def U5(a0 a1 a2 a3 a4 a5:Nat):A0:=⟨39,[(.tmp 4)],(sR (o1 4 (.mv z0) .done) (.seq (sR (om 10 0<|oc 11 a0 [10]<|o1 12 (.eqp false 11 (.const (.pointer none))) .done) (.cond 12 (sR (o1 4 (.mv z1) .done) .ret) .skip)) (.seq (sR (om 14 0<|om 15 1<|oc 16 a1 [15]<|om 17 1<|oc 18 a2 [17]<|om 19 1<|oc 20 a3 [19]<|oc 21 a4 [14,16,18,20]<|om 13 21<|oe 22 13 0<|oe 23 13 1<|om 5 22<|om 6 23 .done) (sR (om 24 6<|ob 25 .neq 24 z0<|om 26 25<|gF 27 26 1<|oF 28 26 (.eqp false 27 (.const (.pointer none)))<|o1 29 (.pick 26 (.const (.bool true)) 28) .done) (.cond 29 (sR (o1 4 (.mv z1) .done) .ret) .skip))) (.seq (sR (om 31 1<|oc 32 a5 [31,nS]<|om 30 32<|oe 33 30 0<|oe 34 30 1<|oe 35 30 2<|om 7 33<|om 8 34<|om 9 35 .done) (sR (om 36 9<|ob 37 .eql 36 z1 .done) (.cond 37 (sR (om 38 9<|om 4 38 .done) .ret) .skip))) (sR (o1 4 (.mv z0) .done) .ret)))))⟩
set_option maxRecDepth 4000 in
def RE{f4 f5 f6}(hd:dec P f=some (U5 f1 f2 f3 f4 f5 f6))(h1:G4 P f1)(h2:Ks P f2)(h3:F2 P f3)(h4:Ht P f4)(h5:J4 P f5)(h6:NO P f6):K8 P f:=by
 intro d t dv pv L bt Tt hp ho hr hh hc;obtain⟨bp,rfl⟩:=hp.ptr;obtain⟨l1,l2,l3⟩:=Aa0 ho;obtain⟨s,root,height,count⟩:=t;simp only at hp ho hr hh hc l1 l2 l3;refine AG hd (Aea Z) ?_;show gwp P _ _ _ _ _;refine Ad<|Ab Z<|Aa<|Ag<|Ad<|Am Z<|AY [_] (h1 hp) Z Z (fun r d2 L2 hl2 ⟨e1,_,hm⟩=>?_);subst e1;obtain⟨bm,rfl⟩:∃bm,r=pZ bm:=by obtain⟨bm,_,_,_,_,_,q,_⟩:=hm;exact⟨bm,q⟩
 have hp2:=hp.mono hl2;clear hm;refine Cg Z Z<|Aa<|AS Z<|Ak<|Ag<|Ad<|Am Z<|Am Z<|B7 [] (h2 (L:=L2) (t:=⟨s,root,height,count⟩)) Z Z ?_;(apply Am;rfl);refine B7 [] (h3 (L:=L2) (t:=⟨s,root,height,count⟩)) Z Z ?_;(apply Am;rfl);refine B7 [] (h4 (L:=L2) (t:=⟨s,root,height,count⟩)) Z Z ?_;skip;refine AY [_] (h5 (root:=root) (height:=height) (count:=count) hp2 (by omega) hr (by omega) (by omega) (by omega) (by omega)) Z Z (fun r d3 L3 hl3 ⟨_,hR⟩=>?_);rcases hR with ⟨_,bt2,Tt2,rfl,rfl⟩|⟨q,_⟩
 ·refine AT Z<|Ao Z Z<|Ao Z Z<|Am Z<|Ab Z<|Aa<|Ad<|Ab Z<|AO Z Z<|Ae Z<|A3 Z (by omega)<|Af Z<|Am Z<|Af Z<|Cg Z Z<|Au Z Z<|Aa<|AS Z<|Ak<|Ag<|Ad<|Am Z<|B7 [] (h6 (bt:=bt) (pb:=bp) (Tt:=Tt) (r:=root) (h:=height) (c:=count) (L:=tb bt2 Tt2 (pZ bp) root height count::L2)) Z Z ?_;(refine AT Z<|Ao Z Z<|Ao Z Z<|Ao Z Z<|Aj Z<|Ae Z<|Ab Z<|Aa<|Ad<|Ab Z<|AN Z Z<|Aa<|Ar Z (by omega)<|Ak<|Ad<|Ab Z<|Aa<|Ap ?_);exact A4 [vZ 0] ⟨Aq Z,trivial⟩ (d':=d3) (L':=tbD bt Tt (pZ bp) ⟨s,root,height,count⟩::L2) (Vs.drop (.cons_cons _ (.cons _ (Aeb _)))) ⟨hl2.trans hl3,Z,Z⟩
 ·rw[ho] at q;cases q
def Ev(t:TD)(most:Int)(fr to:List UInt8):List KV×Int:=
 if most<0 then([],2) else if t.height=0∨most=0 then([],0) else
  if (CF t.s most fr to t.height t.root [] t.s.tc).e≠0 then([],(CF t.s most fr to t.height t.root [] t.s.tc).e) else((CF t.s most fr to t.height t.root [] t.s.tc).out,0)
def FG(t:TD)(most:Int)(fr to:List UInt8):Nat:=if most<0∨t.height=0∨most=0 then t.s.tc else(CF t.s most fr to t.height t.root [] t.s.tc).tc
def FU(P:Program)(f:FuncId):Prop:=∀{d}{t:TD}{dv pv fv tv L}{bt:Nat}{Tt}{most:Int}{fr to},Pg d t.s dv pv L→Dn t.root t.height t.count=true→t.root≤1000000000→t.height≤1000000→t.count≤1000000000→
 AJ d fv fr→AJ d tv to→(0<most→(CF t.s most fr to t.height t.root [] t.s.tc).out.length≤1000000)→
 AA P f [pv,pZ bt,fv,tv,vZ most] d (tbD bt Tt pv t::L) (Ret fun v d' L'=>Le d d'∧∃rv L2 tc,v=.tuple #[rv,vZ (Ev t most fr to).2]∧RSl 2 RBp d' rv (Ev t most fr to).1∧L'=tbD bt Tt pv t::L2∧
  Pg d' {t.s with tc:=tc} dv pv L2∧((Ev t most fr to).2=0→tc=FG t most fr to))
def Vw(a0 a1 a2 a3 a4:Nat):A0:=⟨47,[(.tmp 10),(.tmp 11)],(sR (o1 5 (.box 0)<|o1 9 (.box 4)<|o1 10 (.mv nS)<|o1 11 (.mv z0) .done) (.seq (sR (ol 16 5<|om 17 1<|oc 18 a0 [16,17]<|om 12 18 .done) (sR (om 19 12<|ob 20 .neq 19 z0 .done) (.cond 20 (sR (om 21 12<|o1 10 (.mv nS)<|om 11 21 .done) .ret) .skip))) (.seq (sR (ol 22 9<|ob 23 .lss 22 z0 .done) (.cond 23 (sR (o1 10 (.mv nS)<|o1 11 (.mv z2) .done) .ret) .skip)) (sR (o1 13 (.alo nV) .done) (.seq (sR (om 24 1<|oc 25 a1 [24]<|ob 26 .eql 25 z0<|om 27 26<|oF 28 27 (.ld none 9)<|oF 29 27 (.bin .eql 28 z0)<|o1 30 (.pick 27 (.const (.bool true)) 29) .done) (.cond 30 (sR (o1 10 (.mv nS)<|o1 11 (.mv z0) .done) .ret) .skip)) (.seq (.reg true (pl 32 5<|pm 33 1<|pm 35 1<|pm 37 2<|pm 38 3<|p1 39 (.mkf (.func a2) [] [5,13,9])<|oc 34 a3 [33]<|oc 36 a1 [35]<|oc 40 a4 [32,34,36,37,38,39]<|pm 31 40<|p1 41 (.ext 31 0)<|p1 42 (.ext 31 1)<|pm 14 41<|pm 15 42 .done)) (.seq (sR (om 43 15<|ob 44 .neq 43 z0 .done) (.cond 44 (sR (om 45 15<|o1 10 (.mv nS)<|om 11 45 .done) .ret) .skip)) (sR (ol 46 13<|om 10 46<|o1 11 (.mv z0) .done) .ret))))))))⟩
set_option maxRecDepth 4000 in
set_option maxHeartbeats 1000000 in
def RW{f4 f5}(hd:dec P f=some (Vw f1 f2 f3 f4 f5))(h1:K8 P f1)(h2:F2 P f2)(h3:JY P f3)(h4:Ks P f4)(h5:NP P f5):FU P f:=by
 intro d t dv pv fv tv L bt Tt most fr to hp ho hr hh hc hf ht hlen;obtain⟨bp,rfl⟩:=hp.ptr;obtain⟨fa,fc,rfl⟩:=RSl.val hf;obtain⟨ta,tc0,rfl⟩:=RSl.val ht;refine AG hd (Aea Z) ?_;show gwp P _ _ _ _ _;apply Ag;apply AE;refine Fb Z (fun b5 T5=>?_);refine Ih (fun d1 hl1 hg1=>?_);replace hg1:=(Qs hg1).at (i:=0) Z;refine Fb Z (fun b9 T9=>?_);refine Ih (fun d2 hl2 hg2=>?_);replace hg2:=(Qs hg2).at (i:=0) Z;have hg1:=hg1.mono hl2;have hp2:=hp.mono (hl1.trans hl2);have hf2:RSl 1 AH d2 (.slice fa fr.length fc) fr:=RSl.mono (R:=AH) AL hf (hl1.trans hl2);have ht2:RSl 1 AH d2 (.slice ta to.length tc0) to:=RSl.mono (R:=AH) AL ht (hl1.trans hl2);refine Aj Z<|Ab Z<|Aa<|Ag<|Ad<|Ah Z (BB (by assumption))<|Am Z<|AY [] (h1 hp2 ho hr (by omega) hc) Z Z (fun v d3 L3 hl3 ⟨_,e1,e2⟩=>?_);subst e1;subst e2;have hp3:=hp2.mono hl3;have hg3:=hg1.mono hl3;have hg4:=hg2.mono hl3;by_cases hm:most<0
 ·have hF:Ev t most fr to=([],2):=by unfold Ev;rw[if_pos hm]
  have hT:FG t most fr to=t.s.tc:=by unfold FG;rw[if_pos (.inl hm)]
  rw[hF];(refine Ab Z<|Aa<|Ad<|Ab Z<|AO Z Z<|Aa<|Ar Z (by omega)<|Ak<|Ag<|Ad<|Ah Z (BB (by assumption))<|AB Z Z<|Aa<|Aw Z (by omega)<|Ad<|Aj Z<|Ab Z<|Aa<|Ap ?_);exact A4 [nV,vZ 2] ⟨Aq Z,Aq Z,trivial⟩ (d':=d3) (L':=tbD bt Tt (pZ bp) t::L) (Vs.refl _ _) ⟨(hl1.trans hl2).trans hl3,_,L,t.s.tc,Z,RSl.nil,Z,hp3,fun q=>absurd (show(2:Int)=0 from q) (by decide)⟩
 by_cases hz:t.height=0
 ·have hF:Ev t most fr to=([],0):=by unfold Ev;rw[if_neg hm,if_pos (.inl hz)]
  have hT:FG t most fr to=t.s.tc:=by unfold FG;rw[if_pos (.inr (.inl hz))]
  rw[hF,hT];(refine Ab Z<|Aa<|Ad<|Ab Z<|AO Z Z<|Aa<|Ar Z (by omega)<|Ak<|Ag<|Ad<|Ah Z (BB (by assumption))<|AB Z Z<|Aa<|Ar Z (by omega)<|Ak<|Ad<|Dg (fun _ _=>Aa<|Ag<|Ad<|Am Z ?_));rename_i b13 T13;refine B7 [_] (h2 (L:=L) (t:=t)) Z Z ?_;rewrite [hz];(refine AN Z Z<|Ae Z<|A8 Z (by omega)<|An Z<|An Z<|Ay Z Z<|Aa<|Bc Z<|Ad<|Aj Z<|Ab Z<|Aa<|Ap ?_);exact A4 [nV,vZ 0] ⟨Aq Z,Aq Z,trivial⟩ (d':=d3) (L':=tbD bt Tt (pZ bp) t::L) (Vs.drop (.cons _ (Aeb _))) ⟨(hl1.trans hl2).trans hl3,_,L,t.s.tc,Z,RSl.nil,Z,hp3,fun _=>Z⟩
 by_cases hm0:most=0
 ·have hF:Ev t most fr to=([],0):=by unfold Ev;rw[if_neg hm,if_pos (.inr hm0)]
  have hT:FG t most fr to=t.s.tc:=by unfold FG;rw[if_pos (.inr (.inr hm0))]
  rw[hF,hT];(refine Ab Z<|Aa<|Ad<|Ab Z<|AO Z Z<|Aa<|Ar Z (by omega)<|Ak<|Ag<|Ad<|Ah Z (BB (by assumption))<|AB Z Z<|Aa<|Ar Z (by omega)<|Ak<|Ad<|Dg (fun _ _=>Aa<|Ag<|Ad<|Am Z ?_));rename_i b13 T13;refine B7 [_] (h2 (L:=L) (t:=t)) Z Z ?_;(refine AN Z Z<|Ae Z<|A3 Z (by omega)<|Af Z<|Ah Z (BB (by assumption))<|Af Z<|AN Z Z<|Au Z Z<|Aa<|Aw Z (by omega)<|Ad<|Aj Z<|Ab Z<|Aa<|Ap ?_);exact A4 [nV,vZ 0] ⟨Aq Z,Aq Z,trivial⟩ (d':=d3) (L':=tbD bt Tt (pZ bp) t::L) (Vs.drop (.cons _ (Aeb _))) ⟨(hl1.trans hl2).trans hl3,_,L,t.s.tc,Z,RSl.nil,Z,hp3,fun _=>Z⟩
 obtain⟨x,hx⟩:∃x,t.height=x+1:=⟨t.height - 1,by omega⟩
 obtain⟨W,hW⟩:∃W,CF t.s most fr to (x+1) t.root [] t.s.tc=W:=⟨_,Z⟩
 have hF:Ev t most fr to=if W.e≠0 then([],W.e) else(W.out,0):=by unfold Ev;rw[if_neg hm,if_neg (by omega),hx,hW]
 have hT:FG t most fr to=W.tc:=by unfold FG;rw[if_neg (by omega),hx,hW]
 replace hlen:=hlen (by omega);rw[hx,hW] at hlen;rw[hF,hT];clear hF hT;(refine Ab Z<|Aa<|Ad<|Ab Z<|AO Z Z<|Aa<|Ar Z (by omega)<|Ak<|Ag<|Ad<|Ah Z (BB (by assumption))<|AB Z Z<|Aa<|Ar Z (by omega)<|Ak<|Ad<|Dg (fun _ _=>Aa<|Ag<|Ad<|Am Z ?_));rename_i b13 T13;refine B7 [_] (h2 (L:=L) (t:=t)) Z Z ?_;refine AN Z Z<|Ae Z<|A3 Z (by omega)<|Af Z<|Ah Z (BB (by assumption))<|Af Z<|AN Z Z<|Au Z Z<|Aa<|Ar Z (by omega)<|Ak<|Ag<|O4 [] (tbD bt Tt (pZ bp) t::bx b13 T13 [nV]::emp::L) ((Vs.perm (Afa _ _ _)).trans ((Vs.emp (d:=d3)).trans (Vs.perm ((Afa _ _ _).trans (Aem _ (Afa _ _ _)))))) ?_;refine Ah Z (BB (by assumption))<|Am Z<|Am Z<|Aj Z<|Aj Z<|Nk<|B7 [] (h4 (t:=t) (L:=bx b13 T13 [nV]::emp::L)) Z Z ?_;skip;refine B7 [] (h2 (t:=t) (L:=bx b13 T13 [nV]::emp::L)) Z Z ?_;rewrite [hx];have hf3:RSl 1 AH d3 (.slice fa fr.length fc) fr:=RSl.mono (R:=AH) AL hf2 hl3;have ht3:RSl 1 AH d3 (.slice ta to.length tc0) to:=RSl.mono (R:=AH) AL ht2 hl3;refine AY [_] (h5 h3 x (n:=t.s.tc) (s:=t.s) hp3 hf3 ht3 hg3 hg4 As.nil (by rw[hW];exact hlen) (by omega)) Z Z (fun v d4 L4 hl4 ⟨_,ov',ro',L5,tc,e1,e2,ho4,hp4,htc⟩=>?_);subst e1;subst e2;rw[hW] at ho4 htc⊢;obtain⟨oa,oc,rfl⟩:=ho4.val;by_cases he:W.e=0
 ·rw[if_neg (fun q=>q he)];have htc2:=htc he;(refine AT Z<|Ao Z Z<|Ao Z Z<|Ae Z<|Ab Z<|Aa<|Ag<|Ad<|Ab Z<|AO Z Z<|Aa<|Ar Z (by omega)<|Ak<|Ad<|Ah Z (Al 1 Z Z)<|Aj Z<|Ab Z<|Aa<|Ap ?_);exact A4 [.slice oa W.out.length oc,vZ 0] ⟨Aq Z,Aq Z,trivial⟩ (d':=join d4 ro') (L':=tbD bt Tt (pZ bp) t::L5) ((Vs.drop (.cons_cons _ (.cons _ (Aeb _)))).trans ((Vs.perm (Afa _ _ _)).trans Vs.freeze))
   ⟨(((hl1.trans hl2).trans hl3).trans hl4).trans (Le.Az _ _),_,L5,tc,Z,As.rsl (R:=RBp) (sz:=2) ho4 DJ (by omega) (Le.Az _ _) (Le.A6 _ _),Z,hp4.mono (Le.Az _ _),fun _=>htc2⟩
 ·rw[if_pos he];(refine AT Z<|Ao Z Z<|Ao Z Z<|Ae Z<|Ab Z<|Aa<|Ag<|Ad<|Ab Z<|AO Z Z<|Aa<|Aw Z (by omega)<|Ad<|Ab Z<|Aj Z<|Ab Z<|Aa<|Ap ?_);exact A4 [nV,vZ W.e] ⟨Aq Z,Aq Z,trivial⟩ (d':=d4) (L':=tbD bt Tt (pZ bp) t::L5) (Vs.drop (.cons_cons _ (.cons _ (.cons _ (Aeb _))))) ⟨((hl1.trans hl2).trans hl3).trans hl4,_,L5,tc,Z,RSl.nil,Z,hp4,fun q=>absurd q he⟩
def V5(a0 a1 a2 a3 a4 a5 a6:Nat):A0:=⟨65,[(.tmp 4),(.tmp 5)],(sR (o1 4 (.mv (.const (.pointer none)))<|o1 5 (.mv z0) .done) (sR (om 11 0<|oc 12 a0 [11]<|om 6 12 .done) (.seq (sR (om 13 6<|o1 14 (.eqp false 13 (.const (.pointer none))) .done) (.cond 14 (sR (o1 4 (.mv (.const (.pointer none)))<|o1 5 (.mv z1) .done) .ret) .skip)) (.seq (sR (om 15 1<|oc 16 a1 [15]<|om 7 16 .done) (sR (om 17 7<|ob 18 .neq 17 z0 .done) (.cond 18 (sR (om 19 7<|o1 4 (.mv (.const (.pointer none)))<|om 5 19 .done) .ret) .skip))) (.seq (sR (om 20 1<|oL 21 20<|ob 22 .eql 21 z0 .done) (.cond 22 (sR (om 23 0<|oc 24 a2 [23]<|oe 25 24 0<|oe 26 24 1<|om 4 25<|om 5 26 .done) .ret) .skip)) (sR (om 28 0<|om 29 1<|oc 30 a3 [28,29]<|om 27 30<|oe 31 27 0<|oe 32 27 1<|om 8 31<|om 9 32 .done) (sR (o1 10 (.mv z1) .done) (.seq (.block 0 (.loop (.seq (sR (om 33 9<|ob 34 .eql 33 z0<|om 35 34<|gT 36 35 8<|oT 37 35 (.len 36)<|oT 38 35 (.bin .gtr 37 z1)<|gP 39 35 38 .done) (.cond 39 .skip (.exit 0))) (.block 1 (sR (om 41 0<|om 42 8<|oc 43 a4 [41,42]<|om 40 43<|oe 44 40 0<|oe 45 40 1<|om 8 44<|om 9 45 .done) (rG (om 46 10<|ob 47 .add 46 z1<|om 10 47 .done))))))) (.seq (sR (om 48 9<|ob 49 .neq 48 z0 .done) (.cond 49 (sR (om 50 0<|om 51 6<|oc 52 a5 [50,51] .done) (sR (om 53 9<|o1 4 (.mv (.const (.pointer none)))<|om 5 53 .done) .ret)) .skip)) (sR (om 54 0<|om 55 8<|o1 56 (.idx 2 55 z0)<|oj 57 0 56<|ol 58 57<|om 59 10<|om 60 1<|oL 61 60<|oc 62 a6 [54,58,59,61]<|oe 63 62 0<|oe 64 62 1<|om 4 63<|om 5 64 .done) .ret))))))))))⟩
def MC(P:Program)(f:FuncId):Prop:=∀{d w w2 l m},RSl 2 RBp d w l→RSl 2 RKv d w2 m→CP P f [w,w2] d (.bool (decide (l=m)))
def LS:A0:=⟨43,[(.tmp 4)],(sR (o1 4 (.mv (.const (.bool false))) .done) (.seq (sR (om 6 0<|oL 7 6<|om 8 1<|oL 9 8<|ob 10 .neq 7 9 .done) (.cond 10 (sR (o1 4 (.mv (.const (.bool false))) .done) .ret) .skip)) (.seq (sR (om 11 0<|oL 12 11<|o1 13 (.mv z0) .done) (.block 0 (.loop (sR (ob 14 .lss 13 12 .done) (.seq (.cond 14 .skip (.exit 0)) (.seq (.block 1 (sR (om 15 13<|om 5 15 .done) (.seq (.reg true (pm 16 0<|pm 17 5<|p1 18 (.idx 2 16 17)<|p1 19 (.fld 0 18)<|pl 20 19<|p1 21 (.b2s 20)<|pm 22 1<|pm 23 5<|p1 24 (.idx 2 22 23)<|p1 25 (.fld 0 24)<|pl 26 25<|p1 27 (.bin .neq 21 26)<|pm 28 27 (.op true ⟨(some 29),(some (28,false)),(.mv 0)⟩ (.op true ⟨(some 30),(some (28,false)),(.mv 5)⟩ (.op true ⟨(some 31),(some (28,false)),(.idx 2 29 30)⟩ (.op true ⟨(some 32),(some (28,false)),(.fld 1 31)⟩ (.op true ⟨(some 33),(some (28,false)),(.ld none 32)⟩ (.op true ⟨(some 34),(some (28,false)),(.b2s 33)⟩ (.op true ⟨(some 35),(some (28,false)),(.mv 1)⟩ (.op true ⟨(some 36),(some (28,false)),(.mv 5)⟩ (.op true ⟨(some 37),(some (28,false)),(.idx 2 35 36)⟩ (.op true ⟨(some 38),(some (28,false)),(.fld 1 37)⟩ (.op true ⟨(some 39),(some (28,false)),(.ld none 38)⟩ (.op true ⟨(some 40),(some (28,false)),(.bin .neq 34 39)⟩ (p1 41 (.pick 28 (.const (.bool true)) 40) .done))))))))))))))) (.cond 41 (sR (o1 4 (.mv (.const (.bool false))) .done) .ret) .skip)))) (rG (ob 42 .add 13 z1<|om 13 42 .done)))))))) (sR (o1 4 (.mv (.const (.bool true))) .done) .ret))))⟩
set_option maxRecDepth 4000 in
def XT(hd:dec P f=some LS):MC P f:=by
 intro d w w2 l m hw hm;have hwl:=hw.BF;have hml:=hm.BF;obtain⟨a,c,rfl⟩:=hw.val;obtain⟨b,c',rfl⟩:=hm.val;refine AG hd (Aea Z) ?_;show gwp P _ _ _ _ _;by_cases hln:l.length=m.length
 ·refine Ad<|Ae Z<|Aa<|Ag<|Ad<|Aj Z<|AI Z<|Aj Z<|AI Z<|AO Z Z<|Aa<|Ar Z (by omega)<|Ak<|Ag<|Ad<|Aj Z<|AI Z<|Ab Z<|Aa<|Ax<|B8 (α:=Nat) (fun x=>[(0,.slice a l.length c),(1,.slice b m.length c'),(12,vZ l.length),(13,vZ x)]) (fun x d' L'=>d'=d∧x≤l.length∧l.take x=m.take x) (fun x=>l.length - x) 0 ⟨Z,Z,Z,Z,trivial⟩ ⟨Z,Aez _,Z⟩ ?_;rintro i ρ d' L' ⟨rfl,hi,hf⟩;simp only at hi hf⊢;by_cases e:i<l.length
  ·have em:i<m.length:=by omega
   refine Ad<|AB Z Z<|Aa<|Ag<|Aw Z (by omega)<|Ak<|Ag<|Ax<|Ad<|Ab Z<|Ab Z<|Aa<|Ag<|Bv<|Aj Z<|Ab Z<|Bg (m:=i) Z hw Z Z e (fun b1 o1 cs1 hcl1 hdc1 ⟨k1,v1,q1,hk1,hv1⟩=>?_);subst q1;obtain⟨ka,kc,rfl⟩:=hk1.val;obtain⟨va,vc,rfl⟩:=hv1.val;refine Ai Z<|Ah Z (B2 (by assumption) Z)<|Bj Z (by assumption)<|Aj Z<|Ab Z<|Bg (m:=i) Z hm Z Z em (fun b2 o2 cs2 hcl2 hdc2 ⟨q2,q3,q4⟩=>?_);subst q2;by_cases e1:l[i].1=m[i].1
   ·have e1n:¬(l[i].1≠m[i].1):=fun h=>h e1;refine Ai Z<|Ah Z (B2 (by assumption) Z)<|JE Z Z<|Ae Z<|A3 Z (by omega)<|Af Z<|Aj Z<|Af Z<|Ab Z<|Af Z<|Bg (m:=i) Z hw Z Z e (fun b1 o1 cs1 hcl1 hdc1 ⟨k1,v1,q1,hk1,hv1⟩=>?_);subst q1;obtain⟨k1a,k1c,rfl⟩:=hk1.val;obtain⟨v1a,v1c,rfl⟩:=hv1.val;refine Af Z<|Ai Z<|Af Z<|Ah Z (B2 (by assumption) Z)<|Af Z<|Bj Z (by assumption)<|Af Z<|Aj Z<|Af Z<|Ab Z<|Af Z<|Bg (m:=i) Z hm Z Z em (fun b2 o2 cs2 hcl2 hdc2 ⟨q2,q3,q4⟩=>?_);subst q2;by_cases e2:l[i].2=m[i].2
    ·have hn:l.take (i+1)=m.take (i+1):=by rw[Aes e,Aes em,hf,show l[i]=m[i] from Prod.ext e1 e2]
     have e2n:¬(l[i].2≠m[i].2):=fun h=>h e2;(refine Af Z<|Ai Z<|Af Z<|Ah Z (B2 (by assumption) Z)<|Af Z<|JE Z Z<|Au Z Z<|AZ<|Ar Z (by omega)<|Ak<|AE<|AM Z Z (by omega) (by omega)<|Ab Z<|Aa ?_);exact⟨i+1,by omega,⟨Z,Z,Z,Z,trivial⟩,Z,e,hn⟩
    ·have hne:¬l=m:=fun q=>e2 (by subst q;rfl);rw[decide_eq_false hne];(refine Af Z<|Ai Z<|Af Z<|Ah Z (B2 (by assumption) Z)<|Af Z<|JE Z Z<|Au Z Z<|AZ<|Aw Z (by omega)<|Ad<|Ae Z<|Aa<|Ap ?_);exact Dc [.bool false] ⟨Aq Z,trivial⟩ (Afg _) ⟨Z,Z,Z⟩
   ·have hne:¬l=m:=fun q=>e1 (by subst q;rfl);rw[decide_eq_false hne];(refine Ai Z<|Ah Z (B2 (by assumption) Z)<|JE Z Z<|Ae Z<|A8 Z (by omega)<|An Z<|An Z<|An Z<|An Z<|An Z<|An Z<|An Z<|An Z<|An Z<|An Z<|An Z<|An Z<|Ay Z Z<|AZ<|Bc Z<|Ad<|Ae Z<|Aa<|Ap ?_);exact Dc [.bool false] ⟨Aq Z,trivial⟩ (Afg _) ⟨Z,Z,Z⟩
  ·have hy:l=m:=by
    have:i=l.length:=by omega
    subst this;rw[Afq,hln,Afq] at hf;exact hf
   rw[decide_eq_true hy];clear hy hf;(refine Ad<|AB Z Z<|Aa<|Ag<|Ar Z (by omega)<|Bd<|Ad<|Ae Z<|Aa<|Ap ?_);exact Dc [.bool true] ⟨Aq Z,trivial⟩ (Afg _) ⟨Z,Z,Z⟩
 ·rw[decide_eq_false (fun q=>hln (by rw[q]))];(refine Ad<|Ae Z<|Aa<|Ag<|Ad<|Aj Z<|AI Z<|Aj Z<|AI Z<|AO Z Z<|Aa<|Aw Z (by omega)<|Ad<|Ae Z<|Aa<|Ap ?_);exact Dc [.bool false] ⟨Aq Z,trivial⟩ (Afg _) ⟨Z,Z,Z⟩
def AbF{pan:List PanicEntry→AU}{Qn:Env→AU}{Ls L ρ d s}{t:Nat}{x a b}(ex:ev ρ x=.agg [Bm a,Bm b].toArray)(h:∀b' T,gws P pan Qn s Ls (upd ρ t (.slice (some ⟨b',0,none⟩) 1 1)) d (bx b' T [Bm a,Bm b]::L)):
  gws P pan Qn (.op false ⟨some t,none,.bsl 1 2 [Bm [],Bm []] [(0,x)]⟩ s) Ls ρ d L:=by
 refine CZ (by omega) ?_ h
 simp[Instr.fill,Bq,Afb,List.range.loop,ex,Value.cells]
end Go.Gk.Tre
end
section
namespace Go.Gk.Chn
open Go Go.Gk Go.Gk.Dev Go.Gk.Cch Go.Gk.Pgr Go.Gk.Node
variable{w:Value}
section
section
variable {P:Program}{pan:List PanicEntry→AU}{Qn:Env→AU}{Ls L:List Ac}{ρ:Env}{d:Ac}{s:GS}{t:Nat}{tk:Bool}
def Cov(e d:Ac)(B:List Ac):Prop:=∀x o,e x o→d x o∨∃g∈B,g x o
def AcV{e d B Lk}{b o:Nat}{v}(hc:DC e b o v)(h:Cov e d B)(hm:∀g∈B,g∈Lk):HC d Lk ⟨b,o,none⟩ v:=by
 obtain⟨c,T,fr,h1,h2⟩:=hc;rcases h _ _ h1 with h1|⟨g,hg,h1⟩
 ·exact⟨Z,d,.inl Z,c,T,fr,h1,h2⟩
 ·exact⟨Z,g,.inr (hm g hg),c,T,fr,h1,h2⟩
def Cov.mono{e d d' B}(h:Cov e d B)(hl:Le d d'):Cov e d' B:=fun x o q=>(h x o q).elim (fun q=>.inl (hl x o q)) .inr
def RB(d:Ac)(B:List Ac)(w:Value)(b:List UInt8):Prop:=∃e,Cov e d B∧AJ e w b
def RB.mono{d d' B b}(h:RB d B w b)(hl:Le d d'):RB d' B w b:=let ⟨e,h1,h2⟩:=h;⟨e,h1.mono hl,h2⟩
def RB.data{d b}(h:AJ d w b):RB d [] w b:=⟨d,fun _ _ q=>.inl q,h⟩
def RB.own{d g b}(h:As 1 AH d w b g):RB d [g] w b:=
 ⟨join d g,fun _ _ q=>q.elim .inl (fun q=>.inr ⟨g,Aeo ..,q⟩),As.rsl (R:=AH) (sz:=1) h AL (by omega) (Le.Az _ _) (Le.A6 _ _)⟩
def RB.val{d B b}(h:RB d B w b):∃a c,w=.slice a b.length c:=let ⟨_,_,h⟩:=h;RSl.val h
def Y5{e d B Lk a}{c:Nat}{l}(h:Cov e d B)(hm:∀g∈B,g∈Lk)(hw:AJ e (.slice a l.length c) l):(a=none→l=[])∧∀a',a=some a'→∀j u,(l.map Av)[j]?=some u→HC d Lk (a'.add j) u:=by
 obtain⟨a0,c',b',o',q,h2,h3,h4,h5,h6,h7,h8⟩:=hw;cases q;refine⟨fun e=>Ael (by have:=h4 e;omega),fun a' ha j u hu=>?_⟩
 rw[Ags] at hu;cases q:l[j]? with
 |none=>rw[q] at hu;cases hu
 |some y=>
  rw[q] at hu
  cases hu
  obtain⟨hj,rfl⟩:=List.getElem?_eq_some_iff.1 q
  obtain⟨cs,j1,j2,j3⟩:=h8 j hj
  obtain rfl:=j3
  have ha2:=h2 (by omega)
  rw[ha] at ha2
  cases ha2
  have h9:=j2.at (i:=0) Z
  have h0:HC d Lk ⟨b',o'+j,none⟩ (Av l[j]):=AcV (by simpa using h9) h hm
  have ea:(⟨b',o',none⟩:Addr).add j=⟨b',o'+j,none⟩:=by
   unfold Addr.add;simp
  rw[ea];exact h0
def RB.src{d B Lk l}(h:RB d B w l)(hm:∀g∈B,g∈Lk):Src 1 AH d Lk w l:=by
 obtain⟨a,c,rfl⟩:=h.val;obtain⟨e,h1,h2⟩:=h;obtain⟨k1,k2⟩:=Y5 h1 hm h2;refine⟨l.map Av,⟨a,c,Z,by simp,fun e=>by rw[k1 e];rfl,k2⟩,CB _,fun i hi=>?_⟩
 simp only[AH,chunk,Agn,←List.map_drop,←List.map_take];rw[Afl hi];rfl
def YH{x y}{b o n c i:Nat}{T ls l}{t:Option Nat}{e B}(ex:ev ρ x=.slice (some ⟨b,o,none⟩) n c)(ey:ev ρ y=w)(hc:Cov e d B)(hw:AJ e w l)(hg:∀g∈B,g∈L)(hi:L[i]?=some (bx b T ls))(hn:o+n≤ls.length)
  (h:gws P pan Qn s Ls (put ρ t (vZ ((min l.length n:Nat):Int))) d (L.set i (bx b T (patch ls o ((l.take n).map Av))))):gws P pan Qn (.op false ⟨t,none,.mop (.cpy 1 x y)⟩ s) Ls ρ d L:=by
 obtain⟨a,c',rfl⟩:=RSl.val hw
 obtain⟨k1,k2⟩:=Y5 (Lk:=Ls++L++L) hc (fun g q=>Afe _ (hg g q)) hw
 refine⟨d,L,Vs.refl d L,?_⟩
 simp only[gop,gi,mi]
 refine⟨_,n,c,a,l.length,c',(l.take n).map Av,ex,ey,by simp[Nat.min_comm],CB _,fun e=>by rw[k1 e];simp,fun a' ha j u hu=>k2 a' ha j u ?_,.inr ⟨i,b,o,T,ls,Z,hi,by simp;omega,d,_,Vs.refl d _,h⟩⟩
 rw[Ags,List.getElem?_take] at hu
 rw[Ags]
 split at hu
 ·exact hu
 ·cases hu
def RM{α}{sz n:Nat}{R}{xs:List α}{x y v kk d2}{j:Int}(ex:ev ρ x=v)(hr:RSl sz R d2 v xs)(ey:ev ρ y=.int kk j)(hj:j=(n:Int))(hn:n≤xs.length)(k:∀v',RSl sz R d2 v' (xs.drop n)→gws P pan Qn s Ls (upd ρ t v') d L):
  gws P pan Qn (.op tk ⟨some t,none,.sl sz x (some y) none none⟩ s) Ls ρ d L:=by
 subst hj
 have hr':=hr
 obtain⟨a,c,b,o,rfl,h2,h3,h4,h5,h6,h7,h8⟩:=hr
 have hc:Ea xs.length c (some (ev ρ y)) none none=some (n,xs.length,c):=by
  simp only[Ea,Hl,GX,Hr,Option.isSome_none,Aeh,if_false,Option.bind_some,ey,bnd];rw[if_pos (by omega)];simp
 refine w_q Z ⟨a,xs.length,c,n,xs.length,c,ex,fun(h0:c≠n)=>h3 (by omega),hc,Z⟩ (k _ ?_)
 have:=hr'.cut (l:=n) (h:=xs.length) (m:=c) (by omega) (by omega) (Aef c) (Aef _)
 rwa [List.take_of_length_le (by simp)] at this
end
attribute [local irreducible] gwp gws xwp
def Kz(P:Program)(f:FuncId):Prop:=∀{d s dv pv bv L b B},Pg d s dv pv L→RB d B bv b→b.length≤16384→
 AA P f [pv,bv] d (B++L) (Ret fun r d' L'=>Le d d'∧r=.tuple #[vZ (BK s b).2.1,vZ (BK s b).2.2]∧∃L2,L'=B++L2∧Pg d' (BK s b).1 dv pv L2)
set_option maxRecDepth 4000 in
set_option maxHeartbeats 1000000 in
def Ub{P f f1 f2 f3}(hd:dec P f=some (Oq f1 f2 f3))(h1:Fp P f1)(h2:Kb P f2)(h3:Jv P f3):Kz P f:=by
 intro d s dv pv bv L b B hp hb hbl;obtain⟨va,vc,rfl⟩:=hb.val;obtain⟨eh,hcv,hb⟩:=hb;obtain⟨bp,rfl⟩:=hp.ptr;have hpn:1≤AP b.length∧AP b.length≤8192:=by unfold AP;omega
 refine AG hd (Aea Z) ?_;show gwp P _ _ _ _ _;refine Ad<|Ab Z<|Ab Z<|Aa<|Ag<|Ad<|Aj Z<|AI Z<|Bx Z Z<|Aa<|Ar Z (by omega)<|Ak<|Ad<|Am Z<|Aj Z<|AI Z<|Bl Z (h1 (n:=b.length) (by omega)) (fun u d1 L1 _ ⟨e1,e2,e3⟩=>?_);subst e1;subst e2;subst e3;rw[Afi];refine AY B (h2 hp hpn.2) Z Z (fun u d2 L2 hl2 ⟨_,v,e1,hv,hp2⟩=>?_);subst e1;by_cases hz:(Bu s (AP b.length)).2.2=0
 ·have hF:BK s b=(CX (Bu s (AP b.length)).1 (Bu s (AP b.length)).2.1 b (Bu s (AP b.length)).2.1.length,(Bu s (AP b.length)).2.1.getD 0 0,0):=by unfold BK;simp only[hz,if_true]
  rw[hF,hz];have hlen:=Sc hz;generalize (Bu s (AP b.length)).2.1=l at hv hlen;generalize (Bu s (AP b.length)).1=t at hp2;have hll:=hv.BF;refine AT Z<|Ao Z Z<|Ao Z Z<|AR<|Ab Z<|Aa<|Ag<|Ad<|Ab Z<|AO Z Z<|Aa<|Ar Z (by omega)<|Ak<|Ag<|Ad<|AR<|BI Z (by assumption)<|Ab Z<|Aa<|Ax<|B8 (α:=Nat) (fun i=>[(0,pZ bp),(1,.slice va b.length vc),(6,v),(26,v),(27,vZ l.length),(28,vZ i)])
   (fun i d' L'=>Le d2 d'∧i≤l.length∧∃L3,L'=B++L3∧Pg d' (CX t l b i) dv (pZ bp) L3) (fun i=>l.length - i) 0 ⟨Z,Z,Z,Z,Z,Z,trivial⟩ ⟨Le.refl _,Aez _,L2,Z,hp2⟩ ?_
  rintro i ρ d' L' ⟨hle,hi,L3,rfl,hp'⟩;have hv':=RSl.mono (R:=Bh) B6 hv hle;have hcv':=hcv.mono (hl2.trans hle);by_cases e:i<l.length
  ·have him:i*254≤b.length:=MV (by omega);by_cases en:i+1<l.length
   ·have hput:CX t l b (i+1)=((CX t l b i).put l[i] (C7 l[i+1] (BH b i))).1:=by
     rw[CX,show l.getD i 0=l[i] by rw[Aee,Aed e];rfl,show l.getD (i+1) 65535=l[i+1] by rw[Aee,Aed en];rfl]
    (refine Ad<|AB Z Z<|Aa<|Ag<|Aw Z (by omega)<|Ak<|Ag<|Ax<|Ad<|Ab Z<|Bg (sz:=1) (R:=Bh) (by rfl) (by assumption) (by rfl) Z (by omega) ?_;rintro _ _ _ _ _ ⟨rfl,_,_⟩;refine Ah Z (BQ (by assumption) Z)<|Ab Z<|Ab Z<|Aa<|Ad<|Ab Z<|Aa<|Ag<|Ad<|Ab Z<|AM Z Z (by omega) (by omega)<|AR<|BI Z (by assumption)<|AB Z Z<|Aa<|Aw Z (by omega)<|AE<|AR<|Ab Z<|AM Z Z (by omega) (by omega)<|Bg (sz:=1) (R:=Bh) (by rfl) (by assumption) (by rfl) Z (by omega) ?_;rintro _ _ _ _ _ ⟨rfl,_,_⟩;refine Ah Z (BQ (by assumption) Z)<|Ab Z<|Aa<|Ad<|BP (fun _ _=>Aa<|Ad<|Ab Z<|Gs Z Z (by decide)<|C8 Z<|Ab Z<|C8 Z ?_));rename_i b11 T11;refine H0 0 Z Z Z (by omega) ?_;refine A7 0 (patch Cc 0 [Av (UInt8.ofNat (l[i+1] / 256 % 256).toNat)]) Z Z Z Z (by rw[CI];decide) Z Z ?_;have hl1:(patch Cc 0 [Av (UInt8.ofNat (l[i+1] / 256 % 256).toNat)]).length=256:=by rw[Bt (by rw[CI];simp)];exact CI
    refine H0 1 Z Z Z (by omega) ?_;refine A7 0 (patch (patch Cc 0 [Av (UInt8.ofNat (l[i+1] / 256 % 256).toNat)]) 1 [Av (UInt8.ofNat (l[i+1] % 256).toNat)]) Z Z Z Z (by rw[hl1];decide) Z Z ?_;have hl2':(patch (patch Cc 0 [Av (UInt8.ofNat (l[i+1] / 256 % 256).toNat)]) 1 [Av (UInt8.ofNat (l[i+1] % 256).toNat)]).length=256:=by rw[Bt (by rw[hl1];simp)];exact hl1
    refine Aa<|Ag<|Bw [] (bx b11 T11 (patch (patch Cc 0 [Av (UInt8.ofNat (l[i+1] / 256 % 256).toNat)]) 1 [Av (UInt8.ofNat (l[i+1] % 256).toNat)])::(B++L3)) Z ?_;refine Jq 2 Z Z (by omega) ?_;refine Aj Z<|Ab Z<|Il Z Z (by omega) (by omega)<|RM (R:=AH) (sz:=1) (n:=i*254) Z hb Z (by omega) him (fun w hw=>?_);refine YH (i:=0) Z Z hcv' hw (fun g q=>Aev _ (Afc _ q)) Z (by rw[hl2'];omega) ?_;have hpp:=Ir (UInt8.ofNat (l[i+1] / 256 % 256).toNat) (UInt8.ofNat (l[i+1] % 256).toNat) (c:=BH b i) (by unfold BH;rw[Aer];omega);refine Aa<|AE<|Am Z<|Ab Z<|Ln Z (by omega) ?_;have hpl:(C7 l[i+1] (BH b i)).length=256:=by
     have:(BH b i).length≤254:=by unfold BH;rw[Aer];omega
     unfold C7;simp only[Aep,Aek,Afk];omega
    refine BS (join d' (bx b11 T11 (patch (patch (patch Cc 0 [Av (UInt8.ofNat (l[i+1] / 256 % 256).toNat)]) 1 [Av (UInt8.ofNat (l[i+1] % 256).toNat)]) 2 ((BH b i).map Av)))) (B++L3) Vs.freeze ?_;have hlj:Le d' (join d' (bx b11 T11 (patch (patch (patch Cc 0 [Av (UInt8.ofNat (l[i+1] / 256 % 256).toNat)]) 1 [Av (UInt8.ofNat (l[i+1] % 256).toNat)]) 2 ((BH b i).map Av)))):=Le.Az _ _;have hB:AJ (join d' (bx b11 T11 (patch (patch (patch Cc 0 [Av (UInt8.ofNat (l[i+1] / 256 % 256).toNat)]) 1 [Av (UInt8.ofNat (l[i+1] % 256).toNat)]) 2 ((BH b i).map Av)))) (.slice (some ⟨b11,0,none⟩) 256 256) (C7 l[i+1] (BH b i)):=
     As.rsl (R:=AH) (sz:=1) (As.QW (d:=d') hpp hpl.symm (Agp (Nat.le_of_eq hpl) (by decide))) AL (by omega) (Le.Az _ _) (Le.A6 _ _)
    refine AY B (h3 (k:=l[i]) (hp'.mono hlj) hB) Z Z (fun u d5 L5 hl5 ⟨q1,hp5⟩=>?_);(refine Aa<|AE<|AM Z Z (by omega) (by omega)<|Ab Z<|Aa ?_);exact⟨i+1,by omega,⟨Z,Z,Z,Z,Z,Z,trivial⟩,(hle.trans hlj).trans hl5,e,L5,Z,by rw[hput];exact hp5⟩
   ·have hput:CX t l b (i+1)=((CX t l b i).put l[i] (C7 (65535:Int) (BH b i))).1:=by
     rw[CX,show l.getD i 0=l[i] by rw[Aee,Aed e];rfl,show l.getD (i+1) 65535=(65535:Int) by rw[Aee,List.getElem?_eq_none (by omega)];rfl]
    (refine Ad<|AB Z Z<|Aa<|Ag<|Aw Z (by omega)<|Ak<|Ag<|Ax<|Ad<|Ab Z<|Bg (sz:=1) (R:=Bh) (by rfl) (by assumption) (by rfl) Z (by omega) ?_;rintro _ _ _ _ _ ⟨rfl,_,_⟩;refine Ah Z (BQ (by assumption) Z)<|Ab Z<|Ab Z<|Aa<|Ad<|Ab Z<|Aa<|Ag<|Ad<|Ab Z<|AM Z Z (by omega) (by omega)<|AR<|BI Z (by assumption)<|AB Z Z<|Aa<|Ar Z (by omega)<|Ak<|Ad<|BP (fun _ _=>Aa<|Ad<|Ab Z<|Gs Z Z (by decide)<|C8 Z<|Ab Z<|C8 Z ?_));rename_i b11 T11;refine H0 0 Z Z Z (by omega) ?_;refine A7 0 (patch Cc 0 [Av (UInt8.ofNat ((65535:Int) / 256 % 256).toNat)]) Z Z Z Z (by rw[CI];decide) Z Z ?_;have hl1:(patch Cc 0 [Av (UInt8.ofNat ((65535:Int) / 256 % 256).toNat)]).length=256:=by rw[Bt (by rw[CI];simp)];exact CI
    refine H0 1 Z Z Z (by omega) ?_;refine A7 0 (patch (patch Cc 0 [Av (UInt8.ofNat ((65535:Int) / 256 % 256).toNat)]) 1 [Av (UInt8.ofNat ((65535:Int) % 256).toNat)]) Z Z Z Z (by rw[hl1];decide) Z Z ?_;have hl2':(patch (patch Cc 0 [Av (UInt8.ofNat ((65535:Int) / 256 % 256).toNat)]) 1 [Av (UInt8.ofNat ((65535:Int) % 256).toNat)]).length=256:=by rw[Bt (by rw[hl1];simp)];exact hl1
    refine Aa<|Ag<|Bw [] (bx b11 T11 (patch (patch Cc 0 [Av (UInt8.ofNat ((65535:Int) / 256 % 256).toNat)]) 1 [Av (UInt8.ofNat ((65535:Int) % 256).toNat)])::(B++L3)) Z ?_;refine Jq 2 Z Z (by omega) ?_;refine Aj Z<|Ab Z<|Il Z Z (by omega) (by omega)<|RM (R:=AH) (sz:=1) (n:=i*254) Z hb Z (by omega) him (fun w hw=>?_);refine YH (i:=0) Z Z hcv' hw (fun g q=>Aev _ (Afc _ q)) Z (by rw[hl2'];omega) ?_;have hpp:=Ir (UInt8.ofNat ((65535:Int) / 256 % 256).toNat) (UInt8.ofNat ((65535:Int) % 256).toNat) (c:=BH b i) (by unfold BH;rw[Aer];omega);refine Aa<|AE<|Am Z<|Ab Z<|Ln Z (by omega) ?_;have hpl:(C7 (65535:Int) (BH b i)).length=256:=by
     have:(BH b i).length≤254:=by unfold BH;rw[Aer];omega
     unfold C7;simp only[Aep,Aek,Afk];omega
    refine BS (join d' (bx b11 T11 (patch (patch (patch Cc 0 [Av (UInt8.ofNat ((65535:Int) / 256 % 256).toNat)]) 1 [Av (UInt8.ofNat ((65535:Int) % 256).toNat)]) 2 ((BH b i).map Av)))) (B++L3) Vs.freeze ?_;have hlj:Le d' (join d' (bx b11 T11 (patch (patch (patch Cc 0 [Av (UInt8.ofNat ((65535:Int) / 256 % 256).toNat)]) 1 [Av (UInt8.ofNat ((65535:Int) % 256).toNat)]) 2 ((BH b i).map Av)))):=Le.Az _ _;have hB:AJ (join d' (bx b11 T11 (patch (patch (patch Cc 0 [Av (UInt8.ofNat ((65535:Int) / 256 % 256).toNat)]) 1 [Av (UInt8.ofNat ((65535:Int) % 256).toNat)]) 2 ((BH b i).map Av)))) (.slice (some ⟨b11,0,none⟩) 256 256) (C7 (65535:Int) (BH b i)):=
     As.rsl (R:=AH) (sz:=1) (As.QW (d:=d') hpp hpl.symm (Agp (Nat.le_of_eq hpl) (by decide))) AL (by omega) (Le.Az _ _) (Le.A6 _ _)
    refine AY B (h3 (k:=l[i]) (hp'.mono hlj) hB) Z Z (fun u d5 L5 hl5 ⟨q1,hp5⟩=>?_);(refine Aa<|AE<|AM Z Z (by omega) (by omega)<|Ab Z<|Aa ?_);exact⟨i+1,by omega,⟨Z,Z,Z,Z,Z,Z,trivial⟩,(hle.trans hlj).trans hl5,e,L5,Z,by rw[hput];exact hp5⟩
  ·have:i=l.length:=by omega
   subst this;have h0:0<l.length:=by omega
   have hg0:l.getD 0 0=l[0]:=by rw[Aee,Aed h0];rfl
   rw[hg0];(refine Ad<|AB Z Z<|Aa<|Ag<|Ar Z (by omega)<|Bd<|Ad<|AR<|Bg (sz:=1) (R:=Bh) (by rfl) (by assumption) (by rfl) Z (by omega) ?_;rintro _ _ _ _ _ ⟨rfl,_,_⟩;refine Ah Z (BQ (by assumption) Z)<|Ab Z<|Ab Z<|Aa<|Ap ?_);exact Cw Z Z (Aeb _) ⟨hl2.trans hle,Z,L3,Z,hp'⟩
 ·have hF:BK s b=((Bu s (AP b.length)).1,0,(Bu s (AP b.length)).2.2):=by unfold BK;simp only[hz,if_false]
  rw[hF];(refine AT Z<|Ao Z Z<|Ao Z Z<|AR<|Ab Z<|Aa<|Ag<|Ad<|Ab Z<|AO Z Z<|Aa<|Aw Z (by omega)<|Ad<|Ab Z<|Ab Z<|Ab Z<|Aa<|Ap ?_);exact Cw Z Z (Aeb _) ⟨hl2,Z,L2,Z,hp2⟩
end
end Go.Gk.Chn
end
section
namespace Go.Gk.Tre
open Go Go.Gk Go.Gk.Dev Go.Gk.Cch Go.Gk.Pgr Go.Gk.Chn Go.Gk.Node
attribute [local irreducible] gwp gws xwp
variable{P:Program}{f:FuncId}{d:Ac}{dv pv:Value}{t:TD}{bt:Nat}
def AcA(h:Kz P f){s w L b B}(hp:PgT d s dv pv L)(hb:RB d B w b)(hl:b.length≤16384):
  AA P f [pv,w] d (B++L) (Ret fun r d' L'=>Le d d'∧r=.tuple #[vZ (BK s b).2.1,vZ (BK s b).2.2]∧∃L2,L'=B++L2∧PgT d' (BK s b).1 dv pv L2):=by
 obtain⟨n,hp⟩:=hp
 refine AA.DU (h hp hb hl) (fun r d' L' _ ⟨h0,h1,L2,h2,h3⟩=>⟨d',L',Vs.refl _ _,h0,?_,L2,h2,n,?_⟩)
 ·rw[h1];rw[show BK (wtc s n) b=(wtc (BK s b).1 n,(BK s b).2) from O7]
 ·rw[show BK (wtc s n) b=(wtc (BK s b).1 n,(BK s b).2) from O7] at h3
  exact h3
def IV(P:Program)(f:FuncId):Prop:=∀{d s dv pv w L}{bt:Nat}{Tt}{r h c:Int}{b B},PgT d s dv pv L→RB d B w b→b.length≤16384→
 AA P f [pZ bt,w] d (tb bt Tt pv r h c::(B++L)) (Ret fun v d' L'=>Le d d'∧∃u L2,v=.tuple #[u,vZ (BR s b).2.2]∧L'=tb bt Tt pv r h c::(B++L2)∧AJ d' u (BR s b).2.1∧PgT d' (BR s b).1 dv pv L2)
set_option maxRecDepth 4000 in
def R9{f1}(hd:dec P f=some (O5 f1))(h1:Kz P f1):IV P f:=by
 intro d s dv pv w L bt Tt r h c b B hp hw hbl;obtain⟨bp,rfl⟩:=hp.ptr;obtain⟨wa,wc,rfl⟩:=hw.val;refine AG hd (Aea Z) ?_;show gwp P _ _ _ _ _;by_cases h15:b.length≤15
 ·have hF:BR s b=(s,0::b,0):=by unfold BR;rw[if_pos h15]
  rw[hF];refine Ad<|Aj Z<|Ab Z<|Aa<|Ag<|Ad<|Aj Z<|AI Z<|Ga Z Z<|Aa<|Aw Z (by omega)<|Ad<|Dq (v0:=.int .u8 0) Z Z (fun b3 T3=>?_);(apply Aj;rfl);refine IL (R:=AH) (sz:=1) (xs:=[0]) AL Z (As.D2 (x:=(0:UInt8)) Z Z) Z (hw.src (fun g q=>by simp[q])) (by omega) (by simp;omega) (by simp;omega) (fun a c' d' hl hu=>?_);(refine Aj Z<|Ab Z<|Aa<|Ap ?_);exact Cw Z Z (Aeb _) ⟨hl,_,L,Z,Z,hu,hp.mono hl⟩
 ·have hF:BR s b=((BK s b).1,FM (BK s b).2.1 b.length,(BK s b).2.2):=by unfold BR;rw[if_neg h15]
  rw[hF];refine Ad<|Aj Z<|Ab Z<|Aa<|Ag<|Ad<|Aj Z<|AI Z<|Ga Z Z<|Aa<|Ar Z (by omega)<|Ak<|Ad<|Am Z<|AF Z<|Ai Z<|Ah Z (Al 0 Z Z)<|Aj Z<|AY [_] (AcA h1 hp hw hbl) Z Z (fun v d2 L2' hl ⟨_,e1,L2,e2,hp2⟩=>?_);subst e1;subst e2;have hrg:=Uj (b:=b) hp.EL;refine AT Z<|Ao Z Z<|Ao Z Z<|Ab Z<|Ab Z<|Aa<|Ad<|Aj Z<|AI Z<|Ab Z<|Aa<|Ad<|Ab Z<|Gs Z Z (by decide)<|C8 Z<|Ab Z<|C8 Z<|Ab Z<|Qd 24 ((b.length:Int) / 16777216) Z Z (by omega) (by omega) Z ?_;refine C8 Z<|Ab Z<|Qd 16 ((b.length:Int) / 65536) Z Z (by omega) (by omega) Z ?_;refine C8 Z<|Ab Z<|Gs Z Z (by decide)<|C8 Z<|Ab Z<|C8 Z<|ZX (a0:=1) (a1:=bI ((BK s b).2.1 / 256)) (a2:=bI (BK s b).2.1) (a3:=bI ((b.length:Int) / 16777216)) (a4:=bI ((b.length:Int) / 65536)) (a5:=bI ((b.length:Int) / 256)) (a6:=bI b.length) Z Z Z Z Z Z Z (fun b9 T9=>?_);(refine Ab Z<|Aj Z<|Ab Z<|Aa<|Ap ?_);exact A4 [.slice (some ⟨b9,0,none⟩) 7 7,vZ (BK s b).2.2] ⟨Aq Z,Aq Z,trivial⟩ (d':=join d2 (bx b9 T9 ((FM (BK s b).2.1 b.length).map Av))) (L':=tb bt Tt (pZ bp) r h c::(B++L2)) Vs.freeze
   ⟨hl.trans (Le.Az _ _),_,L2,Z,Z,As.rsl (R:=AH) (sz:=1) (d:=d2) (As.QW Z Z (by simp[FM])) AL (by omega) (Le.Az _ _) (Le.A6 _ _),hp2.mono (Le.Az _ _)⟩
section
def PgG(B:List Ac)(d:Ac)(s:PD)(dv pv:Value)(M:List Ac):Prop:=∃L,M.Perm (B++L)∧PgT d s dv pv L
section
variable {P:Program}{f:FuncId}{B:List Ac}{d:Ac}{s:PD}{dv pv:Value}{M:List Ac}{bt:Nat}{Tt:TypeId}
def PgG.mono{d'}(h:PgG B d s dv pv M)(hl:Le d d'):PgG B d' s dv pv M:=let ⟨L,p,h⟩:=h;⟨L,p,h.mono hl⟩
def PgG.ptr(h:PgG B d s dv pv M):∃b,pv=pZ b:=let ⟨_,_,h⟩:=h;h.ptr
def PgG.EL(h:PgG B d s dv pv M):Pgr.Good s:=let ⟨_,_,h⟩:=h;h.EL
def Yb{A L args R R'}(p:M.Perm (B++L))(h:AA P f args d (A::L) (Ret R))(hR:∀v d' A',Le d d'→R v d' A'→∃L',(A'++B).Perm L'∧R' v d' L'):AA P f args d (A::M) (Ret R'):=
 AA.pre (Aem A (p.trans Aei)) (AA.Y0 h hR)
def OL{L2}(h:PgT d s dv pv L2):PgG B d s dv pv (L2++B):=⟨L2,Aei,h⟩
def AdF(h:Hy P f){r h' c k:Int}{cs}{n:AK}(hp:PgG B d s dv pv M)(hn:Cj d cs n)(hz:A9 n≤1000000000000):
  AA P f [pZ bt,vZ k,.agg cs.toArray] d (tb bt Tt pv r h' c::M) (Ret fun v d' L'=>Le d d'∧v=.tuple #[vZ (Bb s k n).2.1,vZ (Bb s k n).2.2]∧∃L2,L'=tb bt Tt pv r h' c::L2∧PgG B d' (Bb s k n).1 dv pv L2):=by
 obtain⟨L,p,hp⟩:=hp
 exact Yb p (h (Tt:=Tt) hp hn hz) (fun v d' A' _ ⟨h1,h2,L2,h3,h4⟩=>⟨tb bt Tt pv r h' c::(L2++B),by rw[h3];exact Afr _,h1,h2,_,Z,OL h4⟩)
def AdN(hf:Mj P f)(x:Nat){w cv}{r h c k:Int}{key cell}(hx:x≤1000000)(hp:PgG B d s dv pv M)(hk:AJ d w key)(hc:AJ d cv cell)(h1:key.length≤1000)(h2:cell.length≤1000)(h3: -1≤k)(h4:k≤16384):
  AA P f [pZ bt,vZ k,vZ ((x+1:Nat):Int),w,cv] d (tb bt Tt pv r h c::M) (Ret fun v d' L'=>Le d d'∧∃ua uc L2,v=.tuple #[mdV (B9 s k key cell (x+1)).2.1 ua uc,.bool (B9 s k key cell (x+1)).2.2.1,vZ (B9 s k key cell (x+1)).2.2.2]∧
   AJ d' (.slice ua (B9 s k key cell (x+1)).2.1.key.length uc) (B9 s k key cell (x+1)).2.1.key∧MOk (B9 s k key cell (x+1)).2.1∧L'=tb bt Tt pv r h c::L2∧PgG B d' (B9 s k key cell (x+1)).1 dv pv L2):=by
 obtain⟨L,p,hp⟩:=hp
 exact Yb p (hf x (Tt:=Tt) hx hp hk hc h1 h2 h3 h4) (fun v d' A' _ ⟨h1,ua,uc,L2,h2,h3,h4,h5,h6⟩=>⟨tb bt Tt pv r h c::(L2++B),by rw[h5];exact Afr _,h1,ua,uc,_,h2,h3,h4,Z,OL h6⟩)
def Adm(h:II P f){m:MdD}{ua}{uc:Nat}(hp:PgG B d t.s dv pv M)(hk:AJ d (.slice ua m.key.length uc) m.key)(hm:MOk m)(hh:t.height≤1000000):
  AA P f [pZ bt,mdV m ua uc] d (tbD bt Tt pv t::M) (Ret fun v d' L'=>Le d d'∧v=vZ (CU t m).2∧∃L2,L'=tbD bt Tt pv (CU t m).1::L2∧PgG B d' (CU t m).1.s dv pv L2):=by
 obtain⟨L,p,hp⟩:=hp
 exact Yb p (h (Tt:=Tt) hp hk hm hh) (fun v d' A' _ ⟨h1,h2,L2,h3,h4⟩=>⟨tbD bt Tt pv (CU t m).1::(L2++B),by rw[h3];exact Afr _,h1,h2,_,Z,OL h4⟩)
def Adv(h:IV P f){w}{r h' c:Int}{b}(hp:PgG B d s dv pv M)(hw:RB d B w b)(hl:b.length≤16384):
  AA P f [pZ bt,w] d (tb bt Tt pv r h' c::M) (Ret fun v d' L'=>Le d d'∧∃u L2,v=.tuple #[u,vZ (BR s b).2.2]∧L'=tb bt Tt pv r h' c::L2∧AJ d' u (BR s b).2.1∧PgG B d' (BR s b).1 dv pv L2):=by
 obtain⟨L,p,hp⟩:=hp
 refine AA.pre (Aem _ p) (AA.DU (h (Tt:=Tt) hp hw hl) (fun v d' L' _ ⟨h1,u,L2,h2,h3,h4,h5⟩=>⟨d',L',Vs.refl _ _,h1,u,_,h2,h3,h4,L2,Afr _,h5⟩))
end
def K1(P:Program)(f:FuncId):Prop:=∀{d}{t:TD}{dv pv L}{bt b3 b4 b5:Nat}{Tt T3 T4 T5 ka va}{kc vc:Nat}{key value B},PgG B d t.s dv pv L→AJ d (.slice ka key.length kc) key→RB d B (.slice va value.length vc) value→key.length≤64→value.length≤16384→QS t→
 AA P f [pZ b3,pZ b5,pZ b4] d (tbD bt Tt pv t::([bx b3 T3 [pZ bt],bx b5 T5 [.slice va value.length vc],bx b4 T4 [.slice ka key.length kc]]++L))
  (Ret fun v d' L'=>Le d d'∧v=vZ (CT t key value).2∧∃L2,L'=tbD bt Tt pv (CT t key value).1::([bx b3 T3 [pZ bt],bx b5 T5 [.slice va value.length vc],bx b4 T4 [.slice ka key.length kc]]++L2)∧PgG B d' (CT t key value).1.s dv pv L2)
set_option maxRecDepth 4000 in
set_option maxHeartbeats 4000000 in
def RL{P f f1 f2 f3 f4 f5}(hd:I4 P f=some (N6 f1 f2 f3 f4 f5))(h1:IV P f1)(h2:Hy P f2)(h3:Mj P f3)(h4:NI P f4)(h5:II P f5):K1 P f:=by
 intro d t dv pv L bt b3 b4 b5 Tt T3 T4 T5 ka va kc vc key value B hp hk hv hkl hvl hf;obtain⟨bp,rfl⟩:=hp.ptr;obtain⟨s,root,height,count⟩:=t;obtain⟨hr0,hr1,hh,hc⟩:=hf;simp only at hp hr0 hr1 hh hc;refine AG hd (Aea Z) ?_;show gwp P _ _ _ _ _;apply Ag;apply AE;refine BS d ([bx b3 T3 [pZ bt],bx b5 T5 [.slice va value.length vc],bx b4 T4 [.slice ka key.length kc]]++tbD bt Tt (pZ bp) ⟨s,root,height,count⟩::L) (Vs.perm List.perm_middle.symm) ?_;refine Ab Z<|Aa<|Ad<|Ah Z (Al 0 Z Z)<|Ah Z (Al 1 Z Z)<|AY [_,_,_] (Adv h1 hp hv hvl) Z Z (fun v d2 L2 hl2 ⟨_,u,L3,e1,e2,hu,hp2⟩=>?_);subst e1;subst e2;have hcl:=AaZ s value;have hP:CT ⟨s,root,height,count⟩ key value=if (BR s value).2.2≠0 then(⟨(BR s value).1,root,height,count⟩,(BR s value).2.2) else if height=0 then(⟨(Bb (BR s value).1 (-1) ⟨true,[key],[(BR s value).2.1],[]⟩).1,(Bb (BR s value).1 (-1) ⟨true,[key],[(BR s value).2.1],[]⟩).2.1,1,1⟩,(Bb (BR s value).1 (-1) ⟨true,[key],[(BR s value).2.1],[]⟩).2.2) else
  if (B9 (BR s value).1 root key (BR s value).2.1 height).2.2.2≠0 then(⟨(B9 (BR s value).1 root key (BR s value).2.1 height).1,root,height,count⟩,(B9 (BR s value).1 root key (BR s value).2.1 height).2.2.2) else
  CU ⟨(B9 (BR s value).1 root key (BR s value).2.1 height).1,root,height,count+(if (B9 (BR s value).1 root key (BR s value).2.1 height).2.2.1 then 1 else 0)⟩ (B9 (BR s value).1 root key (BR s value).2.1 height).2.1:=Z
 rw[hP];clear hP;obtain⟨ua,uc,rfl⟩:=hu.val;generalize BR s value=C at hu hp2 hcl;obtain⟨s1,cell,ce⟩:=C;simp only at hu hp2 hcl⊢;have hk2:=RSl.mono (R:=AH) AL hk hl2;by_cases hce:ce=0
 ·rw[if_neg (fun q=>q hce)];subst hce;by_cases hh0:height=0
  ·subst hh0;rw[if_pos Z];refine AT Z<|Ao Z Z<|Ao Z Z<|Aj Z<|Ab Z<|Aa<|Ag<|Ad<|Ab Z<|AO Z Z<|Aa<|Ar Z (by omega)<|Ak<|Ag<|Ad<|Ah Z (Al 0 Z Z)<|AF Z<|Ai Z<|Ah Z (Al 3 Z Z)<|AN Z Z<|Aa<|Aw Z (by omega)<|Ad<|Ah Z (Al 0 Z Z)<|Ah Z (Al 2 Z Z)<|Dq (v0:=.slice ka key.length kc) Z Z (fun b27 T27=>?_);(apply Aj;rfl);refine Dq (v0:=.slice ua cell.length uc) Z Z (fun b29 T29=>?_);(apply BJ;rfl);obtain⟨d3,hl3,v3,l1,l2⟩:∃d3,Le d2 d3∧Vs d2 (bx b29 T29 [.slice ua cell.length uc]::bx b27 T27 [.slice ka key.length kc]::[]) d3 []∧Le (bx b29 T29 [.slice ua cell.length uc]) d3∧Le (bx b27 T27 [.slice ka key.length kc]) d3:=
    ⟨join (join d2 (bx b29 T29 [.slice ua cell.length uc])) (bx b27 T27 [.slice ka key.length kc]),(Le.Az _ _).trans (Le.Az _ _),Vs.freeze.trans Vs.freeze,(Le.A6 _ _).trans (Le.Az _ _),Le.A6 _ _⟩
   have hn:Cj d3 [.bool true,.slice (some ⟨b27,0,none⟩) 1 1,.slice (some ⟨b29,0,none⟩) 1 1,nV] ⟨true,[key],[cell],[]⟩:=
    ⟨_,_,_,Z,As.rsl (R:=RBs) (sz:=1) (d:=d2) (As.D2 (x:=key) Z ⟨_,Z,hk2⟩) C6 (by omega) hl3 l2,As.rsl (R:=RBs) (sz:=1) (d:=d2) (As.D2 (x:=cell) Z ⟨_,Z,hu⟩) C6 (by omega) hl3 l1,RSl.nil⟩
   refine BS _ _ (Vs.app v3 _) ?_;refine AY [_,_,_] (AdF h2 (k:= -1) (hp2.mono hl3) hn (by simp[A9,By,Eh,Dz,Fs];omega)) Z Z (fun v d4 L4 hl4 ⟨_,e4,L5,e5,hp5⟩=>?_);subst e4;subst e5;generalize Bb s1 (-1) ⟨true,[key],[cell],[]⟩=Q at hp5;refine AT Z<|Ao Z Z<|Ao Z Z<|Ab Z<|Ab Z<|Aa<|Ad<|Ah Z (Al 0 Z Z)<|Ah Z (Al 0 Z Z)<|Ah Z (Al 0 Z Z)<|Ab Z<|AF Z<|Ai Z<|A7 3 [pZ bp,vZ Q.2.1,vZ ((0:Nat):Int),vZ count] Z Z Z Z (Aea Z) Z Z ?_;refine AF Z<|Ai Z<|A7 3 [pZ bp,vZ Q.2.1,vZ 1,vZ count] Z Z Z Z (Aea Z) Z Z ?_;refine AF Z<|Ai Z<|A7 3 [pZ bp,vZ Q.2.1,vZ 1,vZ 1] Z Z Z Z (Aea Z) Z Z ?_;(refine Aa<|Ad<|Ab Z<|Ab Z<|Aa<|Ap ?_);exact A4 [vZ Q.2.2] ⟨Aq Z,trivial⟩ (d':=d4) (L':=tbD bt Tt (pZ bp) ⟨Q.1,Q.2.1,1,1⟩::([bx b3 T3 [pZ bt],bx b5 T5 [.slice va value.length vc],bx b4 T4 [.slice ka key.length kc]]++L5)) (Vs.perm (Afj (a:=tbD bt Tt (pZ bp) ⟨Q.1,Q.2.1,1,1⟩) (l₁:=[bx b3 T3 [pZ bt],bx b5 T5 [.slice va value.length vc],bx b4 T4 [.slice ka key.length kc]]) (l₂:=L5))) ⟨(hl2.trans hl3).trans hl4,Z,L5,Z,hp5⟩
  ·rw[if_neg hh0];obtain⟨x,rfl⟩:∃x,height=x+1:=⟨height - 1,by omega⟩
   refine AT Z<|Ao Z Z<|Ao Z Z<|Aj Z<|Ab Z<|Aa<|Ag<|Ad<|Ab Z<|AO Z Z<|Aa<|Ar Z (by omega)<|Ak<|Ag<|Ad<|Ah Z (Al 0 Z Z)<|AF Z<|Ai Z<|Ah Z (Al 3 Z Z)<|AN Z Z<|Aa<|Ar Z (by omega)<|Ak<|Ag<|Bw [_,_,_,_] L3 Z ?_;(refine Ah Z (Al 0 Z Z)<|Ah Z (Al 0 Z Z)<|AF Z<|Ai Z<|Ah Z (Al 3 Z Z)<|Ah Z (Al 0 Z Z)<|AF Z<|Ai Z<|Ah Z (Al 3 Z Z)<|Ah Z (Al 2 Z Z)<|Aj Z ?_);have hins:=AdN h3 x (r:=root) (h:=((x+1:Nat):Int)) (c:=count) (bt:=bt) (Tt:=Tt) (k:=root) (by omega) hp2 hk2 hu (by omega) (by omega) hr0 hr1;generalize B9 s1 root key cell (x+1)=U at hins⊢;refine FQ (α:=Nat×TypeId) (β:=Option Addr×Nat×List Ac) [(0,pZ b3),(1,pZ b5),(2,pZ b4)]
    (fun x=>[(8,.pointer (some ⟨x.1,0,none⟩))]) (fun x d L=>L=[bx x.1 x.2 [vZ 0,vZ 0,nV,vZ 0]])
    (fun y=>[(58,mdV U.2.1 y.1 y.2.1),(59,.bool U.2.2.1),(60,vZ U.2.2.2)]) (fun y d' M=>AJ d' (.slice y.1 U.2.1.key.length y.2.1) U.2.1.key∧MOk U.2.1∧PgG B d' U.1 dv (pZ bp) y.2.2∧M=y.2.2) [] L3 Z
    (fun x d d' M hl h=>h) (fun y d d' M hl h=>⟨RSl.mono (R:=AH) AL h.1 hl,h.2.1,h.2.2.1.mono hl,h.2.2.2⟩) (fun x=>Z) (fun y=>Z) Z ⟨Z,Z,Z,trivial⟩ ?_ ?_ ?_
   ·refine BP (fun b8 T8=>?_);(apply AZ);exact⟨_,Z,(b8,T8),⟨Z,trivial⟩,Z⟩
   ·refine Xc (B:=[_,_,_]) hins (Aei (l₁:=[_,_,_])) Z (fun v d4 L4 hl4 ⟨_,wa,wc,L5,e4,hk4,hm4,e5,hp5⟩=>⟨L5,by rw[e5];exact Aei (l₂:=[_,_,_]),?_⟩);subst e4;(refine AT Z<|Ao Z Z<|Ao Z Z<|Ao Z Z<|AZ ?_);exact⟨_,Z,(wa,wc,L5),⟨Z,Z,Z,trivial⟩,hk4,hm4,hp5,Z⟩
   rintro⟨b8,T8⟩ ⟨wa,wc,L5⟩ ρ2 d4 M1 M2 hl4 hM1 ⟨hk4,hm4,hp5,hM2⟩;subst hM1;subst hM2;simp only at hk4 hp5⊢;refine Br 0 Z Z Z Z (Aef _) Z ?_;clear hins;obtain⟨us,um,uw,ue⟩:=U;simp only at hk4 hm4 hp5⊢;(refine Ae Z<|Ab Z<|AZ<|Ag<|Ad<|Ab Z<|AO Z Z<|Aa ?_);by_cases hue:ue=0
   ·rw[if_neg (fun q=>q hue)];subst hue;have hcb:count+(if uw=true then 1 else 0)≤1000000:=by split<;>omega
    refine Ar Z (by omega)<|Ak<|Ag<|Bw [_,_,_,_,_] M2 Z ?_;refine Ah Z (Al 0 Z Z)<|AF Z<|Ai Z<|Ah Z (Al 3 Z Z)<|Ae Z<|BE Z (h4 (b:=uw)) ?_;have hcc:(count:Int)+(if uw=true then 1 else 0)=((count+(if uw=true then 1 else 0):Nat):Int):=by split<;>omega
    refine AM Z Z (by split<;>omega) (by split<;>omega) ?_;refine AF Z<|Ai Z<|Cd<|A7 3 [pZ bp,vZ root,vZ ((x+1:Nat):Int),vZ ((count:Int)+(if uw=true then 1 else 0))] Z Z Z Z (Aea Z) Z Z ?_;rw[hcc];refine Aa<|Ad<|Ah Z (Al 0 Z Z)<|Bf 4 Z Z Z<|Ds (A:=tbD bt Tt (pZ bp) ⟨us,root,x+1,count+(if uw=true then 1 else 0)⟩::M2) (B:=[_,_,_,_]) (Adm h5 (t:=⟨us,root,x+1,count+(if uw=true then 1 else 0)⟩) (m:=um) hp5 hk4 hm4 (by show x+1≤1000000;omega))
     ((Afj (l₁:=[_,_,_])).trans (Aem _ (Aei (l₁:=[_,_,_,_])))) Z (fun v d6 L6 hl6 ⟨_,e6,L7,e7,hp7⟩=>?_)
    subst e6;subst e7;refine⟨d6,_,Vs.perm (Aei (l₂:=[_,_,_,_])),?_⟩
    (refine Ab Z<|Aa<|Ap ?_);exact A4 [vZ _] ⟨Aq Z,trivial⟩ (d':=d6) (L':=tbD bt Tt (pZ bp) (CU ⟨us,root,x+1,count+(if uw=true then 1 else 0)⟩ um).1::([bx b3 T3 [pZ bt],bx b5 T5 [.slice va value.length vc],bx b4 T4 [.slice ka key.length kc]]++L7)) ((Vs.drop (L':=[bx b3 T3 [pZ bt],bx b5 T5 [.slice va value.length vc],bx b4 T4 [.slice ka key.length kc]]++(tbD bt Tt (pZ bp) (CU ⟨us,root,x+1,count+(if uw=true then 1 else 0)⟩ um).1::L7)) (.cons_cons _ (.cons_cons _ (.cons_cons _ (.cons _ (Aeb _)))))).trans (Vs.perm Afj)) ⟨(hl2.trans hl4).trans hl6,Z,L7,Z,hp7⟩
   ·rw[if_pos hue];(refine Aw Z (by omega)<|Ad<|Ab Z<|Ab Z<|Aa<|Ap ?_);exact A4 [vZ ue] ⟨Aq Z,trivial⟩ (d':=d4) (L':=tbD bt Tt (pZ bp) ⟨us,root,x+1,count⟩::([bx b3 T3 [pZ bt],bx b5 T5 [.slice va value.length vc],bx b4 T4 [.slice ka key.length kc]]++M2)) ((Vs.drop (L':=[bx b3 T3 [pZ bt],bx b5 T5 [.slice va value.length vc],bx b4 T4 [.slice ka key.length kc]]++(tbD bt Tt (pZ bp) ⟨us,root,x+1,count⟩::M2)) (.cons_cons _ (.cons_cons _ (.cons_cons _ (.cons_cons _ (.cons _ (Aeb _))))))).trans (Vs.perm Afj)) ⟨hl2.trans hl4,Z,M2,Z,hp5⟩
 ·rw[if_pos hce];(refine AT Z<|Ao Z Z<|Ao Z Z<|Aj Z<|Ab Z<|Aa<|Ag<|Ad<|Ab Z<|AO Z Z<|Aa<|Aw Z (by omega)<|Ad<|Ab Z<|Ab Z<|Aa<|Ap ?_);exact A4 [vZ ce] ⟨Aq Z,trivial⟩ (d':=d2) (L':=tbD bt Tt (pZ bp) ⟨s1,root,height,count⟩::([bx b3 T3 [pZ bt],bx b5 T5 [.slice va value.length vc],bx b4 T4 [.slice ka key.length kc]]++L3)) (Vs.perm Afj) ⟨hl2,Z,L3,Z,hp2⟩
end
def GH(P:Program)(f:FuncId):Prop:=∀{d}{t:TD}{dv pv kv vv L}{bt:Nat}{Tt key value B},PgT d t.s dv pv L→AJ d kv key→RB d B vv value→QS t→
 AA P f [pZ bt,kv,vv] d (tbD bt Tt pv t::(B++L)) (Ret fun v d' L'=>Le d d'∧v=vZ (Df t key value).2∧∃L2,L'=tbD bt Tt pv (Df t key value).1::(B++L2)∧PgT d' (Df t key value).1.s dv pv L2)
def AdJ{args}{t':TD}{e:Int}{X L Tt B}(h:AA P f args d (tbD bt Tt pv t::(X++(B++L))) (Ret fun v d' L'=>Le d d'∧v=vZ e∧∃L2,L'=tbD bt Tt pv t'::(X++L2)∧PgG B d' t'.s dv pv L2)):
  AA P f args d (tbD bt Tt pv t::((X++B)++L)) (Ret fun v d' L'=>Le d d'∧v=vZ e∧∃L2,L'=tbD bt Tt pv t'::((X++B)++L2)∧PgT d' t'.s dv pv L2):=by
 rw[Aeg]
 refine AA.DU h (fun v d' L' _ ⟨h1,h2,M,h3,L2,p,h4⟩=>⟨d',tbD bt Tt pv t'::((X++B)++L2),Vs.perm ?_,h1,h2,L2,Z,h4⟩)
 rw[h3,Aeg]
 exact Aem _ (List.Perm.append_left X p)
set_option maxRecDepth 4000 in
set_option maxHeartbeats 2000000 in
def UZ{f1 f2 f3}(hd:dec P f=some (QG f1 f2 f3))(h1:Jh P f1)(h2:K1 P f2)(h3:HQ P f3):GH P f:=by
 intro d t dv pv kv vv L bt Tt key value B hp hk hv hf;obtain⟨bp,rfl⟩:=hp.ptr;obtain⟨ka,kc,rfl⟩:=hk.val;obtain⟨va,vc,rfl⟩:=hv.val;refine AG hd (Aea Z) ?_;show gwp P _ _ _ _ _;apply Ag;apply AE;refine Fb Z (fun b3 T3=>?_);refine Fb Z (fun b4 T4=>?_);refine Fb Z (fun b5 T5=>?_);refine Ab Z<|Aa<|Ag<|Ad<|Ah Z (Al 2 Z Z)<|Ah Z (Al 1 Z Z)<|AY [_,_,_] (h1 (L:=B++L) hk) Z Z (fun v d2 L2 _ ⟨e1,e2,e3⟩=>?_);subst e1;subst e2;subst e3;by_cases hw:BZ key=0
 ·by_cases hb:16384<value.length
  ·have hF:Df t key value=(t,3):=by unfold Df;rw[if_neg (fun q=>q hw),if_pos hb]
   rw[hF,hw];(refine Ab Z<|Aa<|Ad<|Ab Z<|AO Z Z<|Aa<|Ar Z (by omega)<|Ak<|Ag<|Ad<|Ah Z (Al 0 Z Z)<|AI Z<|Bx Z Z<|Aa<|Aw Z (by omega)<|Ad<|Ab Z<|Aa<|Ap ?_);exact BO (L':=tbD bt Tt (pZ bp) t::(B++L)) Z (.cons _ (.cons _ (.cons _ (Aeb _)))) ⟨Le.refl _,Z,L,Z,hp⟩
  ·have hF:Df t key value=(Cp t (CT t key value).1 (CT t key value).2,(CT t key value).2):=by unfold Df;rw[if_neg (fun q=>q hw),if_neg hb]
   have hkl:key.length≤64:=by unfold BZ at hw;split at hw<;>omega
   rw[hF,hw];refine Ab Z<|Aa<|Ad<|Ab Z<|AO Z Z<|Aa<|Ar Z (by omega)<|Ak<|Ag<|Ad<|Ah Z (Al 0 Z Z)<|AI Z<|Bx Z Z<|Aa<|Ar Z (by omega)<|Ak<|Ad<|Ah Z (Al 2 Z Z)<|Nk<|Ds (A:=tbD bt Tt (pZ bp) t::(([bx b3 T3 [pZ bt],bx b5 T5 [.slice va value.length vc],bx b4 T4 [.slice ka key.length kc]]++B)++L)) (B:=[])
    (h3 (t':=(CT t key value).1) (e:=(CT t key value).2) (X':=[bx b3 T3 [pZ bt],bx b5 T5 [.slice va value.length vc],bx b4 T4 [.slice ka key.length kc]]++B) hp (Y8 t key value)
     (fun d1 hl1=>AdJ (h2 (B:=B) ⟨L,Afr _,hp.mono hl1⟩ (RSl.mono (R:=AH) AL hk hl1) (hv.mono hl1) hkl (by omega) hf))) ?_ Z (fun v d4 L4 hl4 ⟨_,e4,L5,e5,hp5⟩=>?_)
   ·rw[Afh];refine(Afj (l₁:=[_,_,_])).trans (Aem _ ((Agz (l₂:=[bx b3 T3 [pZ bt],bx b5 T5 [.slice va value.length vc],bx b4 T4 [.slice ka key.length kc]]) (B++L) ?_).trans (List.Perm.of_eq (by simp))));exact((Aei (l₁:=[_,_]) (l₂:=[_])).trans (Aem _ (Afr _)))
   ·subst e4;subst e5;refine⟨d4,_,Vs.refl _ _,?_⟩
    rw[Afh];(refine Ab Z<|Aa<|Ap ?_);exact A4 [vZ (CT t key value).2] ⟨Aq Z,trivial⟩ (d':=d4) (L':=tbD bt Tt (pZ bp) (Cp t (CT t key value).1 (CT t key value).2)::(B++L5)) (Vs.drop (.cons_cons _ (.cons _ (.cons _ (.cons _ (Aeb _)))))) ⟨hl4,Z,L5,Z,hp5⟩
 ·have hF:Df t key value=(t,BZ key):=by unfold Df;rw[if_pos hw]
  rw[hF];(refine Ab Z<|Aa<|Ad<|Ab Z<|AO Z Z<|Aa<|Aw Z (by omega)<|Ad<|Ab Z<|Ab Z<|Aa<|Ap ?_);exact BO (L':=tbD bt Tt (pZ bp) t::(B++L)) Z (.cons _ (.cons _ (.cons _ (Aeb _)))) ⟨Le.refl _,Z,L,Z,hp⟩
def GH.own(h:GH P f){kv vv L Tt key value g}(hp:PgT d t.s dv pv L)(hk:AJ d kv key)(hv:As 1 AH d vv value g)(hf:QS t):
  AA P f [pZ bt,kv,vv] d (tbD bt Tt pv t::g::L) (Ret fun v d' L'=>Le d d'∧v=vZ (Df t key value).2∧∃L2,L'=tbD bt Tt pv (Df t key value).1::g::L2∧PgT d' (Df t key value).1.s dv pv L2):=
 h (B:=[g]) hp hk (RB.own hv) hf
def GH.data(h:GH P f){kv vv L Tt key value}(hp:PgT d t.s dv pv L)(hk:AJ d kv key)(hv:AJ d vv value)(hf:QS t):
  AA P f [pZ bt,kv,vv] d (tbD bt Tt pv t::L) (Ret fun v d' L'=>Le d d'∧v=vZ (Df t key value).2∧∃L2,L'=tbD bt Tt pv (Df t key value).1::L2∧PgT d' (Df t key value).1.s dv pv L2):=
 h (B:=[]) hp hk (RB.data hv) hf
end Go.Gk.Tre
end
section
namespace Go.Gk.Tre
open Go Go.Gk Go.Gk.Dev Go.Gk.Cch Go.Gk.Pgr Go.Gk.Chn Go.Gk.Node
end Go.Gk.Tre
end
section
namespace Go.Gk.Tre
open Go Go.Gk Go.Gk.Dev Go.Gk.Cch Go.Gk.Pgr Go.Gk.Chn Go.Gk.Node
attribute [local irreducible] gwp gws xwp
def HV{d}{b:Nat}{T}(a:UInt8):AJ (join d (bx b T [Av a])) (.slice (some ⟨b,0,none⟩) 1 1) [a]:=
 As.rsl (R:=AH) (sz:=1) (xs:=[a]) (As.D2 (R:=AH) (d:=d) (x:=a) Z Z) AL (by omega) (Le.Az _ _) (Le.A6 _ _)
section
section
variable {P:Program}{pan:List PanicEntry→AU}{Qn:Env→AU}{Ls L:List Ac}{ρ:Env}{d:Ac}{s:GS}{t:Nat}{tk:Bool}
def YF{x y}{b:UInt8}(ex:ev ρ x=Av b)(ey:ev ρ y=.int .u8 1)(h:gws P pan Qn s Ls (upd ρ t (Av (b+1))) d L):gws P pan Qn (.op tk ⟨some t,none,.bin .add x y⟩ s) Ls ρ d L:=
 C9 (by
  have e:IntKind.u8.wrap ((b.toNat:Int)+1)=((b+1).toNat:Int):=by
   simp[IntKind.wrap,IntKind.signed,IntKind.bits,UInt8.toNat_add]
  rw[ex,ey];simp only[C2,Av];simp[e]) h
end
def Mu{key}:BZ key=0∨BZ key=2:=by unfold BZ;split<;>simp
def RY{s}{n:Nat}:∀m,(wtc s n).writes m=s.writes m
 |0=>rfl
 |m+1=>by rw[PD.writes,PD.writes,RY m]
def AaD{s}{n:Nat}:(wtc s n).flush=wtc s.flush n:=by
 unfold PD.flush;rw[show(wtc s n).writes (wtc s n).kinds.length=s.writes s.kinds.length from RY _]
abbrev X3:=Int×List UInt8×List UInt8
def RAc(d:Ac)(cs:List Value)(x:X3):Prop:=∃kv vv,cs=[vZ x.1,kv,vv]∧AJ d kv x.2.1∧AJ d vv x.2.2
def QR:FZ RAc:=fun hl ⟨kv,vv,e,h1,h2⟩=>⟨kv,vv,e,RSl.mono (R:=AH) AL h1 hl,RSl.mono (R:=AH) AL h2 hl⟩
def Kg(P:Program)(f:FuncId):Prop:=∀{d}{t:TD}{dv pv w L}{bt:Nat}{Tt}{acts:List X3}{most N:Nat},PgT d t.s dv pv L→Gr N 0 t [] []→RSl 3 RAc d w acts→most≤1000→
 AA P f [pv,pZ bt,w,vZ most] d (tbD bt Tt pv t::L) (Ret fun v d' L'=>Le d d'∧∃u t' l P' L2,v=.tuple #[u,.bool true]∧RSl 2 RKv d' u l∧Gr N most t' l P'∧L'=tbD bt Tt pv t'::L2∧PgT d' t'.s dv pv L2)
def LF(a0 a1 a2 a3 a4 a5 a6 a7 a8 a9 a10 a11 a12 a13:Nat):A0:=⟨226,[(.tmp 8),(.tmp 9)],(sR (o1 8 (.mv nS)<|o1 9 (.mv (.const (.bool false))) .done) (sR (o1 10 (.mv nS) .done) (.seq (sR (o1 11 (.mv z0) .done) (.block 0 (.loop (.seq (sR (om 29 11<|om 30 2<|oL 31 30<|ob 32 .lss 29 31<|om 33 32<|gT 34 33 11<|gT 35 33 3<|oT 36 33 (.bin .lss 34 35)<|gP 37 33 36 .done) (.cond 37 .skip (.exit 0))) (.seq (.block 1 (sR (om 40 2<|om 41 11<|oI 42 3 40 41<|o1 43 (.ld (some 3) 42)<|o1 12 (.alo (.agg #[(vZ 0),nV,nV]))<|o0 (.st 3 12 43) .done) (sR (oj 44 2 12<|ol 45 44<|oc 46 a0 [45,(kZ 700)]<|om 13 46 .done) (sR (oj 47 1 12<|ol 48 47<|oc 49 a1 [48]<|om 14 49 .done) (sR (om 50 1<|oc 51 a2 [50]<|ob 52 .mul (kZ 4) 51<|ob 53 .add 52 (kZ 3)<|om 54 13<|oL 55 54<|oc 56 a3 [55]<|ob 57 .add 53 56<|om 15 57 .done) (sR (om 58 0<|oc 59 a4 [58]<|om 16 59 .done) (.seq (sR (oj 60 0 12<|ol 61 60 .done) (.block 2 (sR (ob 109 .eql 61 z0<|om 108 109 .done) (.cond 108 (sR (o1 110 (.bsl 0 1 [(.int .u8 0)] [])<|om 111 13<|o1 112 (.app 1 1 [(.int .u8 0)] 110 111)<|om 17 112 .done) (sR (om 113 1<|oj 114 1 12<|ol 115 114<|om 116 17<|oc 117 a5 [113,115,116]<|om 18 117 .done) (.seq (sR (om 118 18<|ob 119 .eql 118 (kZ 190)<|om 120 119<|gT 121 120 14<|oT 122 120 (.bin .eql 121 z0)<|gP 123 120 122<|om 124 123<|gT 125 124 16<|gT 126 124 15<|oT 127 124 (.bin .lss 125 126)<|gP 128 124 127<|om 129 128<|gT 130 129 0<|oT 131 129 (.call a4 [130])<|gT 132 129 16<|oT 133 129 (.bin .eql 131 132)<|gP 134 129 133 .done) (.cond 134 (.exit 1) .skip)) (.seq (sR (om 135 18<|om 136 14<|ob 137 .neq 135 136 .done) (.cond 137 (sR (o1 8 (.mv nS)<|o1 9 (.mv (.const (.bool false))) .done) .ret) .skip)) (.seq (sR (om 138 18<|ob 139 .eql 138 z0 .done) (.cond 139 (rG (om 140 10<|oj 141 1 12<|ol 142 141<|o1 143 (.b2s 142)<|om 144 13<|o1 145 (.b2s 144)<|oc 146 a6 [140,143,145]<|om 10 146 .done)) .skip)) (sR (om 147 17<|oL 148 147<|o1 149 (.mv z0) .done) (.block 3 (.loop (sR (ob 150 .lss 149 148 .done) (.seq (.cond 150 .skip (.exit 3)) (.seq (.block 4 (sR (om 151 149<|om 19 151 .done) (rG (om 152 17<|om 153 19<|oI 154 1 152 153<|ol 155 154<|ob 156 .add 155 (.const (.int .u8 1))<|oI 157 1 152 153<|o0 (.st 1 157 156) .done)))) (rG (ob 158 .add 149 z1<|om 149 158 .done))))))))))))) (sR (ob 160 .eql 61 z1<|om 159 160 .done) (.cond 159 (sR (om 162 1<|oj 163 1 12<|ol 164 163<|oc 165 a7 [162,164]<|om 161 165<|oe 166 161 0<|oe 167 161 1<|om 20 166<|om 21 167 .done) (.seq (sR (om 168 21<|ob 169 .eql 168 (kZ 190)<|om 170 169<|gT 171 170 14<|oT 172 170 (.bin .eql 171 z0)<|gP 173 170 172<|om 174 173<|gT 175 174 16<|gT 176 174 15<|oT 177 174 (.bin .lss 175 176)<|gP 178 174 177<|om 179 178<|gT 180 179 0<|oT 181 179 (.call a4 [180])<|gT 182 179 16<|oT 183 179 (.bin .eql 181 182)<|gP 184 179 183<|om 185 184<|gT 186 185 20<|oT 187 185 (.un .not 186)<|gP 188 185 187 .done) (.cond 188 (.exit 1) .skip)) (.seq (sR (om 189 21<|om 190 14<|ob 191 .neq 189 190 .done) (.cond 191 (sR (o1 8 (.mv nS)<|o1 9 (.mv (.const (.bool false))) .done) .ret) .skip)) (sR (om 193 10<|oj 194 1 12<|ol 195 194<|o1 196 (.b2s 195)<|oc 197 a8 [193,196]<|om 192 197<|oe 198 192 0<|oe 199 192 1<|om 22 198<|om 23 199 .done) (.seq (sR (om 200 21<|ob 201 .eql 200 z0<|om 202 201<|gT 203 202 20<|gT 204 202 23<|oT 205 202 (.eqb true 203 204)<|gP 206 202 205 .done) (.cond 206 (sR (o1 8 (.mv nS)<|o1 9 (.mv (.const (.bool false))) .done) .ret) .skip)) (sR (om 207 21<|ob 208 .eql 207 z0 .done) (.cond 208 (rG (om 209 22<|om 10 209 .done)) .skip))))))) (sR (ob 211 .eql 61 (kZ 3)<|om 210 211 .done) (.cond 210 (sR (om 212 0<|oc 213 a9 [212]<|ob 214 .neq 213 z0<|om 215 214<|gF 216 215 0<|oF 217 215 (.call a10 [216])<|oF 218 215 (.bin .neq 217 z0)<|o1 219 (.pick 215 (.const (.bool true)) 218) .done) (.cond 219 (sR (o1 8 (.mv nS)<|o1 9 (.mv (.const (.bool false))) .done) .ret) .skip)) (sR (om 63 1<|oj 64 1 12<|ol 65 64<|oc 66 a11 [63,65]<|om 62 66<|oe 67 62 0<|oe 68 62 1<|oe 69 62 2<|om 24 67<|om 25 68<|om 26 69 .done) (sR (om 71 10<|oj 72 1 12<|ol 73 72<|o1 74 (.b2s 73)<|oc 75 a12 [71,74]<|om 70 75<|oe 76 70 0<|oe 77 70 1<|om 27 76<|om 28 77 .done) (sR (om 78 26<|om 79 14<|ob 80 .neq 78 79<|om 81 80<|gF 82 81 26<|oF 83 81 (.bin .eql 82 z0)<|gF 84 81 83<|gT 85 84 25<|gT 86 84 28<|oT 87 84 (.eqb true 85 86)<|gT 88 84 87<|gF 89 88 24<|oF 90 88 (.b2s 89)<|gF 91 88 27<|oF 92 88 (.bin .neq 90 91)<|oT 93 84 (.pick 88 (.const (.bool true)) 92)<|oF 94 81 (.pick 84 93 (.const (.bool false)))<|o1 95 (.pick 81 (.const (.bool true)) 94)<|om 96 95<|gF 97 96 26<|oF 98 96 (.bin .neq 97 z0)<|gF 99 96 98<|gT 100 99 25<|gT 101 99 100<|gF 102 101 24<|oF 103 101 (.len 102)<|oF 104 101 (.bin .neq 103 z0)<|oT 105 99 (.pick 101 (.const (.bool true)) 104)<|oF 106 96 (.pick 99 105 (.const (.bool false)))<|o1 107 (.pick 96 (.const (.bool true)) 106) .done) (.cond 107 (sR (o1 8 (.mv nS)<|o1 9 (.mv (.const (.bool false))) .done) .ret) .skip)))))))))))) (sR (om 220 1<|oc 221 a13 [220]<|om 222 10<|oL 223 222<|ob 224 .neq 221 223 .done) (.cond 224 (sR (o1 8 (.mv nS)<|o1 9 (.mv (.const (.bool false))) .done) .ret) .skip))))))))) (rG (om 38 11<|ob 39 .add 38 z1<|om 11 39 .done))))))) (sR (om 225 10<|om 8 225<|o1 9 (.mv (.const (.bool true))) .done) .ret))))⟩
set_option maxRecDepth 4000 in
set_option maxHeartbeats 4000000 in
def TB{P f f1 f2 f3 f4 f5 f6 f7 f8 f9 f10 f11 f12 f13 f14}(hd:dec P f=some (LF f1 f2 f3 f4 f5 f6 f7 f8 f9 f10 f11 f12 f13 f14))(h1:NA P f1)(h2:LB P f2)(h3:F2 P f3)(h4:Fp P f4)(h5:Qh P f5)
  (h6:GH P f6) (h7:Ny P f7) (h8:PO P f8) (h9:KB P f9) (h10:Nw P f10) (h11:PU P f11) (h12:MX P f12) (h13:Np P f13) (h14:Ht P f14):Kg P f:=by
 intro d t dv pv w L bt Tt acts most N hp hg hw hmost
 obtain⟨bp,rfl⟩:=hp.ptr
 have hwl:=hw.BF
 obtain⟨a,cw,rfl⟩:=hw.val
 refine AG hd (Aea Z) ?_
 show gwp P _ _ _ _ _
 (refine Ad<|Aj Z<|Ae Z<|Aa<|Ad<|Aj Z<|Aa<|Ag<|Ad<|Ab Z<|Aa<|Ax ?_)
 refine B8 (α:=Nat×Option Addr×Nat×List KV) (fun x=>[(0,pZ bp),(1,pZ bt),(2,.slice a acts.length cw),(3,vZ most),(10,.slice x.2.1 x.2.2.2.length x.2.2.1),(11,vZ x.1)])
  (fun x d' L'=>Le d d'∧x.1≤acts.length∧x.1≤most∧RSl 2 RKv d' (.slice x.2.1 x.2.2.2.length x.2.2.1) x.2.2.2∧∃t' P' J L2,L'=J++tbD bt Tt (pZ bp) t'::L2∧PgT d' t'.s dv (pZ bp) L2∧Gr N x.1 t' x.2.2.2 P')
  (fun x=>most - x.1) (0,none,0,[]) ⟨Z,Z,Z,Z,Z,Z,trivial⟩ ⟨Le.refl _,Aez _,Aez _,RSl.nil,t,[],[],L,Z,hp,hg⟩ ?_
 rintro⟨i,la,lc,l⟩ ρ d' L' ⟨hle,hi,him,hl,t,P',J,L2,rfl,hp2,hg2⟩
 simp only at hi him hl hg2⊢
 have hw2:=RSl.mono (R:=RAc) QR hw hle
 by_cases e:i<acts.length
 ·by_cases e2:i<most
  ·(refine Ag<|Ad<|Ab Z<|Aj Z<|AI Z<|AB Z Z<|Ae Z<|A8 Z (by omega)<|Af Z<|Ab Z<|Af Z<|Ab Z<|Af Z<|AB Z Z<|Ay Z Z<|Aa<|Aw Z (by omega)<|Ak<|Ag<|Ax<|Ad<|Aj Z<|Ab Z ?_)
   refine Bg (m:=i) Z hw2 Z Z e (fun b o cs hcl hdc ⟨kv,vv,q,hk,hv⟩=>?_)
   subst q
   obtain⟨ka,kc,rfl⟩:=RSl.val hk
   obtain⟨va0,vc0,rfl⟩:=RSl.val hv
   obtain⟨hkl,hth⟩:=hg2.ok.far (by have:=hg2.ln;omega)
   (refine PN Z (by assumption) Z<|BP (fun _ _=>?_))
   rename_i b12 T12
   refine A7 0 [vZ acts[i].1,.slice ka acts[i].2.1.length kc,.slice va0 acts[i].2.2.length vc0] Z Z Z Z (Aef _) Z Z ?_
   generalize acts[i]=A at hk hv hcl hdc
   obtain⟨kind,key,val0⟩:=A
   simp only at hk hv hcl hdc⊢
   (refine Aa<|Ad<|Ai Z<|Ah Z (Al 0 Z Z) ?_)
   refine Bl Z (h1 hv (n:=700) (by omega)) (fun v0 d1 L1 _ ⟨z1,z2,hv1⟩=>?_)
   subst z1;subst z2
   rw[Afi]
   have hvl:(val0.take 700).length≤700:=by rw[Aer];omega
   generalize val0.take 700=val at hv1 hvl
   obtain⟨va,vc,rfl⟩:=RSl.val hv1
   (refine Aj Z<|Aa<|Ad<|Ai Z<|Ah Z (Al 0 Z Z) ?_)
   refine BE Z (h2 hk) ?_
   (refine Ab Z<|Aa<|Ad<|Am Z ?_)
   refine B7 (_::J) (h3 (t:=t) (L:=L2)) Z Z ?_
   (refine Il Z Z (by omega) (by omega)<|AM Z Z (by omega) (by omega)<|Aj Z<|AI Z ?_)
   refine BE Z (h4 (n:=val.length) (by omega)) ?_
   have hpn:AP val.length≤10:=by unfold AP;omega
   (refine AM Z Z (by omega) (by omega)<|Ab Z<|Aa<|Ad<|Am Z ?_)
   have g5:∀{d t L},PgT d t dv (pZ bp) L→Du P f5 [pZ bp] d L (vZ ((t.free:Nat):Int)):=fun⟨n6,hp6⟩=>h5 (s:=wtc _ n6) hp6
   have hfr:t.s.free≤8192:=by have:=hg2.ok.gd.len;have:=List.countP_le_length (p:=(·==0)) (l:=t.s.kinds);unfold PD.free;omega
   refine B7 (_::J++[_]) (g5 hp2) (Ajj (_::J) _ L2) Z ?_
   by_cases k0:kind=0
   ·subst k0
    (refine Ab Z<|Aa<|Ag<|Ad<|Ai Z<|Ah Z (Al 0 Z Z)<|Aa<|Ax<|Ad<|AN Z Z<|Ae Z<|Aa<|Aw Z (by omega)<|Ad ?_)
    refine CZ (cs:=[]) (by simp) (by simp[Instr.fill,Bq]) (fun b110 T110=>?_)
    (apply Aj;rfl)
    refine Fk (R:=AH) (sz:=1) 0 Z Z (As.JR (R:=AH) (sz:=1)) Z (RSl.src (R:=AH) hv1 ES (by omega) _) (by omega) (by simp;omega) (by simp;omega) (fun v17 g17 o17=>?_)
    rw[Afi] at o17
    obtain⟨oa,oc,rfl⟩:=o17.val
    (refine Aj Z<|Aa<|Ad<|Am Z<|Ai Z<|Ah Z (Al 1 Z Z)<|Aj Z ?_)
    refine Ds (A:=tbD bt Tt _ t::g17::L2) (B:=_::J) (h6.own (Tt:=Tt) hp2 hk o17 hkl) ((Afj (l₁:=_::_::J)).trans (Aem _ (Aem _ Aei))) Z (fun v d4 L4 hl4 ⟨_,e4,L5,e5,hp5⟩=>?_)
    subst e4;subst e5
    have hkk:=hk.BF
    have hll:l.length≤1000:=by have:=hg2.ln;omega
    have hl4':=RSl.mono (R:=RKv) Dr hl hl4
    have hk4:=RSl.mono (R:=AH) AL hk hl4
    have hv4:=RSl.mono (R:=AH) AL hv1 hl4
    refine⟨d4,g17::(bx b12 T12 [vZ 0,.slice ka key.length kc,.slice va0 val0.length vc0]::J++tbD bt Tt (pZ bp) (Df t key val).1::L5),Vs.perm ((Afj (l₁:=_::_::J)).trans (Aem _ (Aem _ Aei))).symm,?_⟩
    rcases Mu (key:=key) with hwk|hwk
    ·rcases hg2.put hwk hvl with ⟨q1,P2,hg3⟩|⟨q1,q2,q3,hg3⟩
     ·rw[q1,hwk]
      clear q1
      generalize (Df t key val).1=t2 at hp5 hg3⊢
      (refine Ab Z<|Aa<|Ag<|Ad<|Ab Z<|AN Z Z<|Ae Z<|A3 Z (by omega)<|An Z<|An Z<|Au Z Z<|Ae Z<|An Z<|An Z<|An Z<|Au Z Z<|Ae Z<|An Z<|An Z<|An Z<|An Z<|Au Z Z<|Aa<|AS Z<|Ak<|Ag<|Ad<|Ab Z<|Ab Z<|AO Z Z<|Aa<|Ar Z (by omega)<|Ak<|Ag<|Ad<|Ab Z<|AN Z Z<|Aa<|Aw Z (by omega)<|AE<|Aj Z<|Ai Z<|Ah Z (Al 1 Z Z)<|Bj Z (by assumption)<|Aj Z<|Bj Z (by assumption) ?_)
      refine Bl Z (h7 hl4' hkk (by omega) (by omega)) (fun u d5 L6 hl5 ⟨z1,_,z3⟩=>?_)
      subst z1
      obtain⟨la2,lc2,rfl⟩:=z3.val
      rw[Afi]
      have hct:=hg3.ok.ct
      (refine Aj Z<|Aa<|Ad<|Aj Z<|AI Z<|Ab Z<|Aa<|Ax ?_)
      refine B8 (α:=Nat) (fun x=>[(0,pZ bp),(1,pZ bt),(2,.slice a acts.length cw),(3,vZ most),(10,.slice la2 (Em l key val).length lc2),(11,vZ i),(17,.slice oa val.length oc),(148,vZ val.length),(149,vZ x)])
       (fun x dd L'=>dd=d5∧x≤val.length∧∃xs g,xs.length=val.length∧As 1 AH d5 (.slice oa val.length oc) xs g∧L'=g::(bx b12 T12 [vZ 0,.slice ka key.length kc,.slice va0 val0.length vc0]::J++tbD bt Tt (pZ bp) t2::L5)) (fun x=>val.length - x) 0 ⟨Z,Z,Z,Z,Z,Z,Z,Z,Z,trivial⟩ ⟨Z,Aez _,val,g17,Z,As.mono (R:=AH) AL o17 (hl4.trans hl5),Z⟩ ?_
      rintro k ρ d9 L9 ⟨rfl,hk9,xs,g9,hxl,o9,rfl⟩
      by_cases e9:k<val.length
      ·obtain⟨gb,gT,gl,gc,e10,rfl,hml,hmg,hset⟩:=o9.Dn (m:=k) (by omega)
       rw[hxl] at e10
       cases e10
       (refine Ad<|AB Z Z<|Aa<|Ag<|Aw Z (by omega)<|Ak<|Ag<|Ax<|Ad<|Ab Z<|Ab Z<|Aa<|AE<|Aj Z<|Ab Z<|BD _ Z Z Z (by omega) ?_)
       refine Ah Z (Al 0 Z (by rw[Agn];exact hmg)) ?_
       refine YF Z Z ?_
       refine Ms k Z Z Z e9 ?_
       refine BW 0 Z Z Z Z (by first|omega|(simp[Av,Value.cells];omega)) Z ?_
       (refine Aa<|AE<|AM Z Z (by omega) (by omega)<|Ab Z<|Aa ?_)
       exact⟨k+1,by omega,⟨Z,Z,Z,Z,Z,Z,Z,Z,Z,trivial⟩,Z,e9,xs.set k _,_,by simpa using hxl,hset _,Z⟩
      obtain rfl:k=val.length:=by omega
      (refine Ad<|AB Z Z<|Aa<|Ag<|Ar Z (by omega)<|Bd<|Ad<|Am Z ?_)
      refine B7 (_::_::J) (h14 (t:=t2) (L:=L5)) Z Z ?_
      (refine Aj Z<|AI Z<|AO Z Z<|Aa<|Ar Z (by omega)<|Ak<|AE<|Ab Z<|AM Z Z (by omega) (by omega)<|Ab Z<|Aa ?_)
      exact⟨(i+1,la2,lc2,Em l key val),by simp only;omega,⟨Z,Z,Z,Z,Z,Z,trivial⟩,(hle.trans hl4).trans hl5,e,e2,z3,t2,P2,_::_::J,L5,Z,hp5.mono hl5,hg3⟩
     ·rw[q1,hwk]
      clear q1
      generalize (Df t key val).1=t2 at hp5 hg3 q3⊢
      have g5':=g5 hp5
      rw[q3] at g5'
      (refine Ab Z<|Aa<|Ag<|Ad<|Ab Z<|AN Z Z<|Ae Z<|A8 Z (by omega)<|Af Z<|Ab Z<|Af Z<|AN Z Z<|Ay Z Z<|Ae Z<|A8 Z (by omega)<|Af Z<|Ab Z<|Af Z<|Ab Z<|Af Z<|AB Z Z<|Ay Z Z<|Ae Z<|A8 Z (by omega)<|Af Z<|Am Z<|Af Z ?_)
      refine B7 (_::_::J++[_]) g5' (Ajj (_::_::J) _ L5) Z ?_
      (refine Af Z<|Ab Z<|Af Z<|AN Z Z<|Ay Z Z<|Aa<|Aw Z (by omega)<|Bd<|AE<|Ab Z<|AM Z Z (by omega) (by omega)<|Ab Z<|Aa ?_)
      exact⟨(i+1,la,lc,l),by simp only;omega,⟨Z,Z,Z,Z,Z,Z,trivial⟩,hle.trans hl4,e,e2,hl4',t2,P',_::_::J,L5,Z,hp5,hg3⟩
    ·have hF:Df t key val=(t,2):=by unfold Df;rw[if_pos (by rw[hwk];decide),hwk]
     rw[hF] at hp5⊢
     rw[hwk]
     simp only at hp5⊢
     have hct:=hg2.ok.ct
     (refine Ab Z<|Aa<|Ag<|Ad<|Ab Z<|AN Z Z<|Ae Z<|A3 Z (by omega)<|An Z<|An Z<|Au Z Z<|Ae Z<|An Z<|An Z<|An Z<|Au Z Z<|Ae Z<|An Z<|An Z<|An Z<|An Z<|Au Z Z<|Aa<|AS Z<|Ak<|Ag<|Ad<|Ab Z<|Ab Z<|AO Z Z<|Aa<|Ar Z (by omega)<|Ak<|Ag<|Ad<|Ab Z<|AN Z Z<|Aa<|Ar Z (by omega)<|Ak<|Ad<|Aj Z<|AI Z<|Ab Z<|Aa<|Ax ?_)
     refine B8 (α:=Nat) (fun x=>[(0,pZ bp),(1,pZ bt),(2,.slice a acts.length cw),(3,vZ most),(10,.slice la (l).length lc),(11,vZ i),(17,.slice oa val.length oc),(148,vZ val.length),(149,vZ x)])
      (fun x dd L'=>dd=d4∧x≤val.length∧∃xs g,xs.length=val.length∧As 1 AH d4 (.slice oa val.length oc) xs g∧L'=g::(bx b12 T12 [vZ 0,.slice ka key.length kc,.slice va0 val0.length vc0]::J++tbD bt Tt (pZ bp) t::L5)) (fun x=>val.length - x) 0 ⟨Z,Z,Z,Z,Z,Z,Z,Z,Z,trivial⟩ ⟨Z,Aez _,val,g17,Z,As.mono (R:=AH) AL o17 hl4,Z⟩ ?_
     rintro k ρ d9 L9 ⟨rfl,hk9,xs,g9,hxl,o9,rfl⟩
     by_cases e9:k<val.length
     ·obtain⟨gb,gT,gl,gc,e10,rfl,hml,hmg,hset⟩:=o9.Dn (m:=k) (by omega)
      rw[hxl] at e10
      cases e10
      (refine Ad<|AB Z Z<|Aa<|Ag<|Aw Z (by omega)<|Ak<|Ag<|Ax<|Ad<|Ab Z<|Ab Z<|Aa<|AE<|Aj Z<|Ab Z<|BD _ Z Z Z (by omega) ?_)
      refine Ah Z (Al 0 Z (by rw[Agn];exact hmg)) ?_
      refine YF Z Z ?_
      refine Ms k Z Z Z e9 ?_
      refine BW 0 Z Z Z Z (by first|omega|(simp[Av,Value.cells];omega)) Z ?_
      (refine Aa<|AE<|AM Z Z (by omega) (by omega)<|Ab Z<|Aa ?_)
      exact⟨k+1,by omega,⟨Z,Z,Z,Z,Z,Z,Z,Z,Z,trivial⟩,Z,e9,xs.set k _,_,by simpa using hxl,hset _,Z⟩
     obtain rfl:k=val.length:=by omega
     (refine Ad<|AB Z Z<|Aa<|Ag<|Ar Z (by omega)<|Bd<|Ad<|Am Z ?_)
     refine B7 (_::_::J) (h14 (t:=t) (L:=L5)) Z Z ?_
     (refine Aj Z<|AI Z<|AO Z Z<|Aa<|Ar Z (by omega)<|Ak<|AE<|Ab Z<|AM Z Z (by omega) (by omega)<|Ab Z<|Aa ?_)
     exact⟨(i+1,la,lc,l),by simp only;omega,⟨Z,Z,Z,Z,Z,Z,trivial⟩,hle.trans hl4,e,e2,hl4',t,P',_::_::J,L5,Z,hp5,hg2.more (by omega)⟩
   ·have hkk:=hk.BF
    have hll:l.length≤1000:=by have:=hg2.ln;omega
    by_cases k1:kind=1
    ·subst k1
     (refine Ab Z<|Aa<|Ag<|Ad<|Ai Z<|Ah Z (Al 0 Z Z)<|Aa<|Ax<|Ad<|AN Z Z<|Ae Z<|Aa<|Ar Z (by omega)<|Ad<|AN Z Z<|Ae Z<|Aa<|Aw Z (by omega)<|Ad<|Am Z<|Ai Z<|Ah Z (Al 0 Z Z) ?_)
     refine AY (_::J) (h8 (t:=t) (Tt:=Tt) hp2 hk (fun _=>hg2.ok.can hll key)) Z Z (fun v d4 L4 hl4 ⟨_,e4,L5,e5,hp5⟩=>?_)
     subst e4;subst e5
     have hl4':=RSl.mono (R:=RKv) Dr hl hl4
     have hk4:=RSl.mono (R:=AH) AL hk hl4
     rcases Mu (key:=key) with hwk|hwk
     ·rcases hg2.del hwk with ⟨q1,q1',P2,hg3⟩|⟨q1,q1',q2,q3,hg3⟩
      ·rw[q1,q1',hwk]
       clear q1 q1'
       generalize (Ei t key).1=t2 at hp5 hg3⊢
       have hct:=hg3.ok.ct
       have hdk:(Cn l key).2=isK l key:=by unfold Cn;cases hq:isK l key<;>simp
       generalize hbb:isK l key=bb at hdk
       cases bb with
       |true=>
        clear hbb
        (refine AT Z<|Ao Z Z<|Ao Z Z<|Ae Z<|Ab Z<|Aa<|Ag<|Ad<|Ab Z<|AN Z Z<|Ae Z<|A3 Z (by omega)<|An Z<|An Z<|Au Z Z<|Ae Z<|An Z<|An Z<|An Z<|Au Z Z<|Ae Z<|An Z<|An Z<|An Z<|An Z<|Au Z Z<|Ae Z<|An Z<|An Z<|Au Z Z<|Aa<|AS Z<|Ak<|Ag<|Ad<|Ab Z<|Ab Z<|AO Z Z<|Aa<|Ar Z (by omega)<|Ak<|Ad<|Aj Z<|Ai Z<|Ah Z (Al 0 Z Z)<|Bj Z (by assumption) ?_)
        refine Bl Z (h9 hl4' hkk (by omega)) (fun u d5 L6 hl5 ⟨z1,_,u2,z2,z3⟩=>?_)
        rw[hdk] at z2
        subst z1;subst z2
        obtain⟨la2,lc2,rfl⟩:=z3.val
        rw[Afi]
        clear hdk
        (refine AT Z<|Ao Z Z<|Ao Z Z<|Aj Z<|Ae Z<|Aa<|Ag<|Ad<|Ab Z<|AN Z Z<|Ae Z<|A8 Z (by omega)<|Af Z<|Ae Z<|Af Z<|Ae Z<|Af Z<|HF Z Z<|Ay Z Z<|Aa<|AS Z<|Ak<|Ad<|Ab Z<|AN Z Z<|Aa<|Aw Z (by omega)<|AE<|Aj Z<|Aj Z<|Aa<|Ad<|Am Z ?_)
        refine B7 (_::J) (h14 (t:=t2) (L:=L5)) Z Z ?_
        (refine Aj Z<|AI Z<|AO Z Z<|Aa<|Ar Z (by omega)<|Ak<|AE<|Ab Z<|AM Z Z (by omega) (by omega)<|Ab Z<|Aa ?_)
        exact⟨(i+1,la2,lc2,(Cn l key).1),by simp only;omega,⟨Z,Z,Z,Z,Z,Z,trivial⟩,(hle.trans hl4).trans hl5,e,e2,z3,t2,P2,_::J,L5,Z,hp5.mono hl5,hg3.more (by omega)⟩
       |false=>
        clear hbb
        (refine AT Z<|Ao Z Z<|Ao Z Z<|Ae Z<|Ab Z<|Aa<|Ag<|Ad<|Ab Z<|AN Z Z<|Ae Z<|A3 Z (by omega)<|An Z<|An Z<|Au Z Z<|Ae Z<|An Z<|An Z<|An Z<|Au Z Z<|Ae Z<|An Z<|An Z<|An Z<|An Z<|Au Z Z<|Ae Z<|An Z<|An Z<|Au Z Z<|Aa<|AS Z<|Ak<|Ag<|Ad<|Ab Z<|Ab Z<|AO Z Z<|Aa<|Ar Z (by omega)<|Ak<|Ad<|Aj Z<|Ai Z<|Ah Z (Al 0 Z Z)<|Bj Z (by assumption) ?_)
        refine Bl Z (h9 hl4' hkk (by omega)) (fun u d5 L6 hl5 ⟨z1,_,u2,z2,z3⟩=>?_)
        rw[hdk] at z2
        subst z1;subst z2
        obtain⟨la2,lc2,rfl⟩:=z3.val
        rw[Afi]
        clear hdk
        (refine AT Z<|Ao Z Z<|Ao Z Z<|Aj Z<|Ae Z<|Aa<|Ag<|Ad<|Ab Z<|AN Z Z<|Ae Z<|A8 Z (by omega)<|Af Z<|Ae Z<|Af Z<|Ae Z<|Af Z<|HF Z Z<|Ay Z Z<|Aa<|AS Z<|Ak<|Ad<|Ab Z<|AN Z Z<|Aa<|Aw Z (by omega)<|AE<|Aj Z<|Aj Z<|Aa<|Ad<|Am Z ?_)
        refine B7 (_::J) (h14 (t:=t2) (L:=L5)) Z Z ?_
        (refine Aj Z<|AI Z<|AO Z Z<|Aa<|Ar Z (by omega)<|Ak<|AE<|Ab Z<|AM Z Z (by omega) (by omega)<|Ab Z<|Aa ?_)
        exact⟨(i+1,la2,lc2,(Cn l key).1),by simp only;omega,⟨Z,Z,Z,Z,Z,Z,trivial⟩,(hle.trans hl4).trans hl5,e,e2,z3,t2,P2,_::J,L5,Z,hp5.mono hl5,hg3.more (by omega)⟩
      ·rw[q1,q1',hwk]
       clear q1 q1'
       generalize (Ei t key).1=t2 at hp5 hg3 q3⊢
       have g5':=g5 hp5
       rw[q3] at g5'
       (refine AT Z<|Ao Z Z<|Ao Z Z<|Ae Z<|Ab Z<|Aa<|Ag<|Ad<|Ab Z<|AN Z Z<|Ae Z<|A8 Z (by omega)<|Af Z<|Ab Z<|Af Z<|AN Z Z<|Ay Z Z<|Ae Z<|A8 Z (by omega)<|Af Z<|Ab Z<|Af Z<|Ab Z<|Af Z<|AB Z Z<|Ay Z Z<|Ae Z<|A8 Z (by omega)<|Af Z<|Am Z<|Af Z ?_)
       refine B7 (_::J++[_]) g5' (Ajj (_::J) _ L5) Z ?_
       (refine Af Z<|Ab Z<|Af Z<|AN Z Z<|Ay Z Z<|Ae Z<|A8 Z (by omega)<|Af Z<|Ae Z<|Af Z<|Bn Z<|Ay Z Z<|Aa<|Bc Z<|Bd<|AE<|Ab Z<|AM Z Z (by omega) (by omega)<|Ab Z<|Aa ?_)
       exact⟨(i+1,la,lc,l),by simp only;omega,⟨Z,Z,Z,Z,Z,Z,trivial⟩,hle.trans hl4,e,e2,hl4',t2,P',_::J,L5,Z,hp5,hg3.more (by omega)⟩
     ·have hF:Ei t key=(t,false,2):=by unfold Ei;rw[if_pos (by rw[hwk];decide),hwk]
      rw[hF] at hp5⊢
      rw[hwk]
      simp only at hp5⊢
      have hct:=hg2.ok.ct
      (refine AT Z<|Ao Z Z<|Ao Z Z<|Ae Z<|Ab Z<|Aa<|Ag<|Ad<|Ab Z<|AN Z Z<|Ae Z<|A3 Z (by omega)<|An Z<|An Z<|Au Z Z<|Ae Z<|An Z<|An Z<|An Z<|Au Z Z<|Ae Z<|An Z<|An Z<|An Z<|An Z<|Au Z Z<|Ae Z<|An Z<|An Z<|Au Z Z<|Aa<|AS Z<|Ak<|Ag<|Ad<|Ab Z<|Ab Z<|AO Z Z<|Aa<|Ar Z (by omega)<|Ak<|Ad<|Aj Z<|Ai Z<|Ah Z (Al 0 Z Z)<|Bj Z (by assumption) ?_)
      refine Bl Z (h9 hl4' hkk (by omega)) (fun u d5 L6 hl5 ⟨z1,_,u2,z2,z3⟩=>?_)
      subst z1;subst z2
      obtain⟨la2,lc2,rfl⟩:=z3.val
      rw[Afi]
      (refine AT Z<|Ao Z Z<|Ao Z Z<|Aj Z<|Ae Z<|Aa<|Ag<|Ad<|Ab Z<|AN Z Z<|Ae Z<|A3 Z (by omega)<|An Z<|An Z<|An Z<|Au Z Z<|Aa<|AS Z<|Ak<|Ad<|Ab Z<|AN Z Z<|Aa<|Ar Z (by omega)<|Ak<|Ad<|Am Z ?_)
      refine B7 (_::J) (h14 (t:=t) (L:=L5)) Z Z ?_
      (refine Aj Z<|AI Z<|AO Z Z<|Aa<|Ar Z (by omega)<|Ak<|AE<|Ab Z<|AM Z Z (by omega) (by omega)<|Ab Z<|Aa ?_)
      exact⟨(i+1,la,lc,l),by simp only;omega,⟨Z,Z,Z,Z,Z,Z,trivial⟩,(hle.trans hl4).trans hl5,e,e2,RSl.mono (R:=RKv) Dr hl4' hl5,t,P',_::J,L5,Z,hp5.mono hl5,hg2.more (by omega)⟩
    ·by_cases k3:kind=3
     ·subst k3
      have g10:∀{d t L},PgT d t dv (pZ bp) L→AA P f10 [pZ bp] d L (Ret fun r d' L'=>r=vZ 0∧d'=d∧PgT d' t.flush dv (pZ bp) L'):=fun⟨n6,hp6⟩=>AA.DU (h10 (s:=wtc _ n6) hp6) (fun r d' L' _ ⟨z1,z2,z3⟩=>⟨d',L',Vs.refl _ _,z1,z2,n6,by rw[AaD] at z3;exact z3⟩)
      have g11:∀{d t L},PgT d t dv (pZ bp) L→AA P f11 [pZ bp] d L (Ret fun r d' L'=>r=vZ 0∧d'=d∧PgT d' t.done dv (pZ bp) L'):=fun⟨n6,hp6⟩=>AA.DU (h11 (s:=wtc _ n6) hp6) (fun r d' L' _ ⟨z1,z2,z3⟩=>⟨d',L',Vs.refl _ _,z1,z2,n6,z3⟩)
      have hct:=hg2.ok.ct
      (refine Ab Z<|Aa<|Ag<|Ad<|Ai Z<|Ah Z (Al 0 Z Z)<|Aa<|Ax<|Ad<|AN Z Z<|Ae Z<|Aa<|Ar Z (by omega)<|Ad<|AN Z Z<|Ae Z<|Aa<|Ar Z (by omega)<|Ad<|AN Z Z<|Ae Z<|Aa<|Aw Z (by omega)<|Ad<|Am Z ?_)
      refine AY (_::J++[_]) (g10 hp2) (Ajj (_::J) _ L2) Z (fun v d4 L4 hl4 ⟨e4,e5,hp5⟩=>?_)
      subst e4;subst e5
      (refine AO Z Z<|Ae Z<|A3 Z (by omega)<|Af Z<|Am Z<|Af Z ?_)
      refine AY (_::J++[_]) (g11 hp5) Z Z (fun v d5 L5 hl5 ⟨e6,e7,hp6⟩=>?_)
      subst e6;subst e7
      rw[show _::J++[tb bt Tt (pZ bp) t.root t.height t.count]++L5=_::(J++tbD bt Tt (pZ bp) t::L5) from(Ajj (_::J) _ L5).symm]
      (refine Af Z<|AO Z Z<|Au Z Z<|Aa<|Ar Z (by omega)<|Ak<|Ad<|Am Z ?_)
      refine B7 (_::J) (h14 (t:=t) (L:=L5)) Z Z ?_
      (refine Aj Z<|AI Z<|AO Z Z<|Aa<|Ar Z (by omega)<|Ak<|AE<|Ab Z<|AM Z Z (by omega) (by omega)<|Ab Z<|Aa ?_)
      exact⟨(i+1,la,lc,l),by simp only;omega,⟨Z,Z,Z,Z,Z,Z,trivial⟩,hle,e,e2,hl,{t with s:=t.s.fin},P',_::J,L5,Z,hp6,hg2.fin.more (by omega)⟩
     ·(refine Ab Z<|Aa<|Ag<|Ad<|Ai Z<|Ah Z (Al 0 Z Z)<|Aa<|Ax<|Ad<|AN Z Z<|Ae Z<|Aa<|Ar Z (by omega)<|Ad<|AN Z Z<|Ae Z<|Aa<|Ar Z (by omega)<|Ad<|AN Z Z<|Ae Z<|Aa<|Ar Z (by omega)<|Ad<|Am Z<|Ai Z<|Ah Z (Al 0 Z Z) ?_)
      refine AY (_::J) (Adb (s:=t.s) (root:=t.root) (h:=t.height) (c:=t.count) (bt:=bt) (Tt:=Tt) h12 hp2 hk (by omega)) Z Z (fun v d4 L4 hl4 ⟨_,u,L5,e1,hu,e3,hp5⟩=>?_)
      subst e1;subst e3
      have hl4':=RSl.mono (R:=RKv) Dr hl hl4
      have hk4:=RSl.mono (R:=AH) AL hk hl4
      have hct:=hg2.ok.ct
      rcases Mu (key:=key) with hwk|hwk
      ·have hF:Ex ⟨t.s,t.root,t.height,t.count⟩ key=((En l key).1,(En l key).2,0):=hg2.ok.E7 hwk
       rw[hF] at hu⊢
       rw[hwk]
       simp only at hu⊢
       have hrk:=h13 hl4' hkk
       generalize En l key=G at hu hrk⊢
       obtain⟨gv,gb⟩:=G
       simp only at hu hrk⊢
       obtain⟨ua,uc,rfl⟩:=hu.val
       (refine AT Z<|Ao Z Z<|Ao Z Z<|Ao Z Z<|Aj Z<|Ae Z<|Ab Z<|Aa<|Ad<|Aj Z<|Ai Z<|Ah Z (Al 0 Z Z)<|Bj Z (by assumption) ?_)
       refine BE Z hrk ?_
       cases gb with
       |true=>
        (refine AT Z<|Ao Z Z<|Ao Z Z<|CY Z<|Ae Z<|Aa<|Ad<|Ab Z<|Ab Z<|AO Z Z<|Ae Z<|A3 Z (by omega)<|Af Z<|Ab Z<|Af Z<|AN Z Z<|Af Z<|Ae Z<|A8 Z (by omega)<|Af Z<|Ae Z<|Af Z<|Ae Z<|Af Z<|HF Z Z<|Af Z<|Ae Z<|Af Z<|Aj Z<|Af Z<|Bj Z (by assumption)<|Af Z<|CY Z<|Af Z<|JE Z Z<|Af Z<|Au Z Z<|Af Z<|Ay Z Z<|Au Z Z<|Ae Z ?_)
        first|refine SF rfl (fun hq=>?_) (fun hq=>?_)|refine TQ rfl (fun hq=>?_) (fun hq=>?_)
        ·exact absurd Z hq
        ·clear hq
         (refine Af Z<|Ab Z<|Af Z<|AO Z Z<|Af Z<|Ae Z<|A3 Z (by omega)<|An Z<|An Z<|B1 Z<|B1 Z<|B1 Z<|An Z<|Af Z<|Au Z Z<|Au Z Z<|Aa<|AS Z<|Ak<|Ad<|Am Z ?_)
         refine B7 (_::J) (h14 (t:=t) (L:=L5)) Z Z ?_
         (refine Aj Z<|AI Z<|AO Z Z<|Aa<|Ar Z (by omega)<|Ak<|AE<|Ab Z<|AM Z Z (by omega) (by omega)<|Ab Z<|Aa ?_)
         exact⟨(i+1,la,lc,l),by simp only;omega,⟨Z,Z,Z,Z,Z,Z,trivial⟩,hle.trans hl4,e,e2,hl4',t,P',_::J,L5,Z,hp5,hg2.more (by omega)⟩
       |false=>
        (refine AT Z<|Ao Z Z<|Ao Z Z<|CY Z<|Ae Z<|Aa<|Ad<|Ab Z<|Ab Z<|AO Z Z<|Ae Z<|A3 Z (by omega)<|Af Z<|Ab Z<|Af Z<|AN Z Z<|Af Z<|Ae Z<|A8 Z (by omega)<|Af Z<|Ae Z<|Af Z<|Ae Z<|Af Z<|HF Z Z<|Af Z<|Ae Z<|Af Z<|Aj Z<|Af Z<|Bj Z (by assumption)<|Af Z<|CY Z<|Af Z<|JE Z Z<|Af Z<|Au Z Z<|Af Z<|Ay Z Z<|Au Z Z<|Ae Z ?_)
        first|refine SF rfl (fun hq=>?_) (fun hq=>?_)|refine TQ rfl (fun hq=>?_) (fun hq=>?_)
        ·exact absurd Z hq
        ·clear hq
         (refine Af Z<|Ab Z<|Af Z<|AO Z Z<|Af Z<|Ae Z<|A3 Z (by omega)<|An Z<|An Z<|B1 Z<|B1 Z<|B1 Z<|An Z<|Af Z<|Au Z Z<|Au Z Z<|Aa<|AS Z<|Ak<|Ad<|Am Z ?_)
         refine B7 (_::J) (h14 (t:=t) (L:=L5)) Z Z ?_
         (refine Aj Z<|AI Z<|AO Z Z<|Aa<|Ar Z (by omega)<|Ak<|AE<|Ab Z<|AM Z Z (by omega) (by omega)<|Ab Z<|Aa ?_)
         exact⟨(i+1,la,lc,l),by simp only;omega,⟨Z,Z,Z,Z,Z,Z,trivial⟩,hle.trans hl4,e,e2,hl4',t,P',_::J,L5,Z,hp5,hg2.more (by omega)⟩
      ·have hF:Ex ⟨t.s,t.root,t.height,t.count⟩ key=([],false,2):=by unfold Ex;rw[if_pos (by rw[hwk];decide),hwk]
       rw[hF] at hu⊢
       rw[hwk]
       simp only at hu⊢
       have hrk:=h13 hl4' hkk
       generalize En l key=G at hrk
       obtain⟨gv,gb⟩:=G
       simp only at hrk
       obtain⟨ua,uc,rfl⟩:∃ua uc,u=.slice ua 0 uc:=hu.val
       (refine AT Z<|Ao Z Z<|Ao Z Z<|Ao Z Z<|Aj Z<|Ae Z<|Ab Z<|Aa<|Ad<|Aj Z<|Ai Z<|Ah Z (Al 0 Z Z)<|Bj Z (by assumption) ?_)
       refine BE Z hrk ?_
       (refine AT Z<|Ao Z Z<|Ao Z Z<|CY Z<|Ae Z<|Aa<|Ad<|Ab Z<|Ab Z<|AO Z Z<|Ae Z<|A3 Z (by omega)<|Af Z<|Ab Z<|Af Z<|AN Z Z<|Af Z<|Ae Z<|A3 Z (by omega)<|An Z<|An Z<|An Z<|An Z<|B1 Z<|B1 Z<|B1 Z<|B1 Z<|An Z<|Af Z<|Au Z Z<|Au Z Z<|Ae Z<|Af Z<|Ab Z<|Af Z<|AO Z Z<|Af Z<|Ae Z<|A8 Z (by omega)<|Af Z<|Ae Z<|Af Z<|Ae Z<|Af Z<|Aj Z<|Af Z<|AI Z<|Af Z<|AO Z Z<|Af Z<|Au Z Z<|Af Z<|Ay Z Z<|Au Z Z<|Aa<|Ar Z (by omega)<|Ak<|Ad<|Am Z ?_)
       refine B7 (_::J) (h14 (t:=t) (L:=L5)) Z Z ?_
       (refine Aj Z<|AI Z<|AO Z Z<|Aa<|Ar Z (by omega)<|Ak<|AE<|Ab Z<|AM Z Z (by omega) (by omega)<|Ab Z<|Aa ?_)
       exact⟨(i+1,la,lc,l),by simp only;omega,⟨Z,Z,Z,Z,Z,Z,trivial⟩,hle.trans hl4,e,e2,hl4',t,P',_::J,L5,Z,hp5,hg2.more (by omega)⟩
  ·(refine Ag<|Ad<|Ab Z<|Aj Z<|AI Z<|AB Z Z<|Ae Z<|A8 Z (by omega)<|Af Z<|Ab Z<|Af Z<|Ab Z<|Af Z<|AB Z Z<|Ay Z Z<|Aa<|Ar Z (by omega)<|Bd<|Ad<|Aj Z<|Aj Z<|Ae Z<|Aa<|Ap ?_)
   exact A4 [.slice la l.length lc,.bool true] ⟨Aq Z,Aq Z,trivial⟩ (d':=d') (L':=tbD bt Tt (pZ bp) t::L2) (Vs.drop (Afw J _)) ⟨hle,_,t,l,P',L2,Z,hl,hg2.more (by omega),Z,hp2⟩
 ·(refine Ag<|Ad<|Ab Z<|Aj Z<|AI Z<|AB Z Z<|Ae Z<|A3 Z (by omega)<|An Z<|An Z<|An Z<|Au Z Z<|Aa<|AS Z<|Bd<|Ad<|Aj Z<|Aj Z<|Ae Z<|Aa<|Ap ?_)
  exact A4 [.slice la l.length lc,.bool true] ⟨Aq Z,Aq Z,trivial⟩ (d':=d') (L':=tbD bt Tt (pZ bp) t::L2) (Vs.drop (Afw J _)) ⟨hle,_,t,l,P',L2,Z,hl,hg2.more (by omega),Z,hp2⟩
end
end Go.Gk.Tre
end
section
namespace Go.Gk.Tre
open Go Go.Gk Go.Gk.Dev Go.Gk.Cch Go.Gk.Pgr Go.Gk.Chn Go.Gk.Node
def AbV(a:Int)(m:Nat)(h:0<m):∃k:Nat,(a % 18446744073709551616) % (m:Int)=(k:Int)∧k<m:=by
 have h1:=Int.emod_nonneg (a % 18446744073709551616) (show(m:Int)≠0 by omega);have h2:=Int.emod_lt_of_pos (a % 18446744073709551616) (show(0:Int)<m by omega);exact⟨((a % 18446744073709551616) % (m:Int)).toNat,by omega,by omega⟩
def Gr.empty{n:Nat}(h1:1≤n)(h2:n≤8000):Gr n 0 ⟨pdN n, -1,0,0⟩ [] []:=by
 refine⟨⟨Good.new h1 (by rw[Afk];omega) (by rw[Afk];omega),List.nodup_nil,Z,.inl ⟨Z,Z,Z,Z⟩⟩,fun k=>⟨fun q=>?_,fun q=>(by cases q)⟩,Aef _,fun x hx=>(by cases hx),GO⟩
 have key:∀x:Int,0≤x→(pdN n).kind k=x→x=0:=fun x hx hk=>by
  obtain⟨i,i1, -,i2, -⟩:=C0 hk hx;have:(pdN n).kd i=0:=by
   show(DV n []).getD i 0=0;rw[Ly,if_neg (fun q=>by cases q.2)]
  omega
 rcases q with q|q
 ·exact absurd (key 1 (by omega) q) (by omega)
 ·exact absurd (key 2 (by omega) q) (by omega)
def QI:∀(l:List KV) (key:List UInt8),∀x∈l.take (Bz l key),Lt x.1 key
 |[],key,x,h=>by simp[Bz] at h
 |y::l,key,x,h=>by
  rw[Bz] at h;by_cases e:Op.bytesLess y.1 key=true
  ·rw[if_pos e,List.take_succ_cons] at h;rcases Aex.1 h with rfl|h
   ·exact e
   ·exact QI l key x h
  ·rw[if_neg e] at h;cases h
def get_put{l key v}:En (Em l key v) key=(v,true):=by
 unfold Em;have ha:=QI (Cn l key).1 key;generalize (Cn l key).1.take (Bz (Cn l key).1 key)=a at ha;generalize (Cn l key).1.drop (Bz (Cn l key).1 key)=b;have hf:Bz (a++((key,v)::b)) key=a.length:=by rw[HS ha,Bz,if_neg (by simp[EO])];rfl
 have hg:(a++((key,v)::b)).getD a.length ([],[])=(key,v):=by simp[List.getD]
 rw[show a++[(key,v)]++b=a++((key,v)::b) by simp];have hi:isK (a++((key,v)::b)) key=true:=by
  unfold isK;rw[hf,hg];simp
 unfold En;rw[if_pos hi,hf,hg]
end Go.Gk.Tre
end
section
namespace Go.Gk.Pgr
open Go Go.Gk Go.Gk.Dev Go.Gk.Cch Go.Gk.Node
attribute [local irreducible] gwp gws xwp
def Ma(P:Program)(f:FuncId):Prop:=∀{d s dv pv L},Pg d s dv pv L→Du P f [pv] d L (vZ (wr s.tc))
def J8(a0:Nat):A0:=⟨9,[(.tmp 2)],(sR (o1 2 (.mv z0) .done) (.seq (sR (om 3 0<|oc 4 a0 [3] .done) (.cond 4 (sR (o1 2 (.mv z0) .done) .ret) .skip)) (sR (om 5 0<|o1 6 (.nilc 5)<|oj 7 6 6<|ol 8 7<|om 2 8 .done) .ret)))⟩
def Yn{P f f1}(hd:dec P f=some (J8 f1))(h1:EA P f1):Ma P f:=by
 intro d s dv pv L hp;obtain⟨b,T,cv,bk,cp,hk,mb,ms,clk,c,LC,LD,bd,rfl,rfl,rfl,hg,hm,hC,hD,hc,hG⟩:=hp;refine AG hd (Aea Z) ?_;show gwp P _ _ _ _ _;refine Ad<|Ab Z<|Aa<|Ag<|Ad<|Am Z<|CR (A:=[_]) (B:=_::_::(LC++LD)) Z Z h1 ?_;(refine Aa<|AS Z<|Ak<|Ad<|Am Z<|AF Z<|Ai Z<|Ah Z (Al 0 Z Z)<|Ab Z<|Aa<|Ap ?_);exact BO Z (Aeb _) ⟨Z,Z,Z⟩
def AcH(a n:Nat)(h:n≤1000000):IntKind.i64.wrap (wr (a+n) - wr a)=(n:Int):=by
 unfold wr;simp only[IntKind.wrap,IntKind.signed,IntKind.bits];simp;omega
section
variable {P:Program}{pan:List PanicEntry→AU}{Qn:Env→AU}{Ls L:List Ac}{ρ:Env}{d:Ac}{s:GS}{t:Nat}{tk:Bool}
def AcF{x y}{a n:Nat}(hn:n≤1000000)(ex:ev ρ x=vZ (wr (a+n)))(ey:ev ρ y=vZ (wr a))(h:gws P pan Qn s Ls (upd ρ t (vZ (n:Int))) d L):
  gws P pan Qn (.op tk ⟨some t,none,.bin .sub x y⟩ s) Ls ρ d L:=
 C9 (by rw[ex,ey];simp[C2,AcH a n hn]) h
end
end Go.Gk.Pgr
namespace Go.Gk.Tre
open Go Go.Gk Go.Gk.Dev Go.Gk.Cch Go.Gk.Pgr Go.Gk.Chn Go.Gk.Node
attribute [local irreducible] gwp gws xwp
def Tok.tc{t:TD}{l}{P:List Int}(h:Tok t l P)(n:Nat):Tok {t with s:=wtc t.s n} l P:=
 h.same ⟨h.gd.one,h.gd.len,h.gd.inn,h.gd.syn,h.gd.kd⟩ (fun _ _=>⟨Z,Z⟩)
end Go.Gk.Tre
end
section
namespace Go.Gk.Tre
open Go Go.Gk Go.Gk.Dev Go.Gk.Cch Go.Gk.Pgr Go.Gk.Chn Go.Gk.Node
variable{fr to:List UInt8}{M:Nat}{t:TD}
def JS(fr to:List UInt8)(most:Int):List KV→List KV→List KV
 |[],out=>out
 |x::l,out=>if (out.length:Int)<most then JS fr to most l (if¬Op.bytesLess x.1 fr=true∧(to=[]∨Op.bytesLess x.1 to=true) then out++[x] else out) else out
def WJ{x:KV}:inR fr to x=true↔(¬Op.bytesLess x.1 fr=true∧(to=[]∨Op.bytesLess x.1 to=true)):=by
 unfold inR;simp
def OG:∀(l out:List KV),out.length≤M→JS fr to M l out=out++BA fr to (M - out.length) l
 |[],out,h=>by rw[JS,QO,Afh]
 |x::l,out,h=>by
  rw[JS];by_cases e:(out.length:Int)<M
  ·rw[if_pos e];obtain⟨m,hm⟩:∃m,M - out.length=m+1:=⟨M - out.length - 1,by omega⟩
   by_cases q:inR fr to x=true
   ·rw[if_pos (WJ.1 q),OG l _ (by simp;omega),hm,Of q,show M - (out++[x]).length=m by simp;omega];simp
   ·rw[if_neg (fun p=>q (WJ.2 p)),OG l out h];congr 1;unfold BA;rw[List.filter_cons_of_neg q]
  ·rw[if_neg e,show M - out.length=0 by omega];simp[BA]
def Tw{l}:JS fr to M l []=BA fr to M l:=by
 rw[OG l [] (Aez _)];rfl
def Tok.range{l}{P:List Int}(h:Tok t l P):
  Ev t M fr to=(BA fr to M l,0)∧(0<M→(CF t.s M fr to t.height t.root [] t.s.tc).out.length≤l.length)∧∃n,FG t M fr to=t.s.tc+n+cpL (BA fr to M l)∧n≤t.height*(2+(BA fr to M l).length):=by
 unfold Ev FG
 rw[if_neg (by omega)]
 rcases h.tr with ⟨e1,_,rfl,_⟩|⟨x,e1,e2⟩
 ·rw[if_pos (.inl e1),if_pos (.inr (.inl e1)),QO,e1]
  exact⟨Z,fun _=>Aez _,0,by simp[cpL],Aez _⟩
 ·by_cases hM:M=0
  ·subst hM
   have e:BA fr to 0 l=[]:=by simp[BA]
   rw[if_pos (.inr Z),if_pos (.inr (.inr Z)),e]
   exact⟨Z,fun q=>absurd q (by decide),0,by simp[cpL],Aez _⟩
  ·rw[if_neg (show¬(t.height=0∨(M:Int)=0) by omega),if_neg (show¬((M:Int)<0∨t.height=0∨(M:Int)=0) by omega),e1]
   obtain⟨w1,w2,w3,w4,n,w5,w6⟩:=W3 (fr:=fr) (to:=to) (M:=M) (x+1) (out:=[]) (tc:=t.s.tc) (f:=false) e2 (fun q=>by cases q) (by show 0<M;omega)
   rw[if_neg (by rw[w1];decide)]
   simp only[Afi,List.length_nil,Nat.sub_zero] at w2 w5 w6
   rw[w2]
   refine⟨Z,fun _=>?_,n,w5,Agp w6 (Nat.mul_le_mul_left _ ?_)⟩
   ·unfold BA
    rw[Aer]
    exact Agp (Nat.min_le_right ..) (List.length_filter_le ..)
   ·simp only[Aeh,if_false]
    split<;>omega
def Tok.Dn{l}{P:List Int}(h:Tok t l P):Dn t.root t.height t.count=true:=by
 have hc:=h.ct;unfold Tre.Dn;rcases h.tr with ⟨e1,e2,rfl,_⟩|⟨x,e1,e2⟩
 ·rw[e1,e2,hc];decide
 ·have hne:=F0.1 (Tr.ne e2);obtain⟨n,Q,hat,_⟩:=e2;have:=D9 h.gd hat.liv;simp only[Afp,Aec,decide_eq_true_eq];omega
def Xd{P f}(h3:FU P f){d l}{Pp:List Int}{n:Nat}{dv pv fv tv L}{bt:Nat}{Tt}(hk:Tok t l Pp)(hl:l.length≤1000)(hp:Pg d (wtc t.s n) dv pv L)(hf:AJ d fv fr)(ht:AJ d tv to):
  AA P f [pv,pZ bt,fv,tv,vZ (M:Nat)] d (tbD bt Tt pv t::L) (Ret fun v d' L'=>Le d d'∧∃rv L2 m,v=.tuple #[rv,vZ 0]∧RSl 2 RBp d' rv (BA fr to M l)∧L'=tbD bt Tt pv t::L2∧Pg d' (wtc t.s (n+m+cpL (BA fr to M l))) dv pv L2∧m≤t.height*(2+(BA fr to M l).length)):=by
 obtain⟨hkl,hth⟩:=hk.far hl
 have ho:=hk.Dn
 have hk2:=hk.tc n
 obtain⟨r1,r2,m,r3,r4⟩:=hk2.range (fr:=fr) (to:=to) (M:=M)
 have hc:=hk.ct
 refine AA.DU (h3 (t:=⟨wtc t.s n,t.root,t.height,t.count⟩) (bt:=bt) (Tt:=Tt) hp ho (by have:=hkl.r1;show t.root≤1000000000;omega) (by show t.height≤1000000;omega) (by show t.count≤1000000000;omega) hf ht (fun q=>?_)) (fun r d' L' _ ⟨h0,rv,L2,tc,h1,h2,h3,h4,h5⟩=>⟨d',L',Vs.refl _ _,?_⟩)
 ·have:=r2 (by omega)
  exact Agp this (by omega)
 ·have r1:Ev ⟨wtc t.s n,t.root,t.height,t.count⟩ M fr to=(BA fr to M l,0):=r1
  have r3:FG ⟨wtc t.s n,t.root,t.height,t.count⟩ M fr to=n+m+cpL (BA fr to M l):=r3
  rw[r1] at h1 h2 h5
  have htc:tc=n+m+cpL (BA fr to M l):=(h5 Z).trans r3
  subst htc
  exact⟨h0,rv,L2,m,h1,h2,h3,h4,r4⟩
def Q5{P f}(h3:FU P f){d l}{Pp:List Int}{dv pv fv tv L}{bt:Nat}{Tt}(hk:Tok t l Pp)(hl:l.length≤1000)(hp:PgT d t.s dv pv L)(hf:AJ d fv fr)(ht:AJ d tv to):
  AA P f [pv,pZ bt,fv,tv,vZ (M:Nat)] d (tbD bt Tt pv t::L) (Ret fun v d' L'=>Le d d'∧∃rv L2,v=.tuple #[rv,vZ 0]∧RSl 2 RBp d' rv (BA fr to M l)∧L'=tbD bt Tt pv t::L2∧PgT d' t.s dv pv L2):=by
 obtain⟨n,hp⟩:=hp
 exact AA.DU (Xd h3 hk hl hp hf ht) (fun r d' L' _ ⟨h0,rv,L2,m,h1,h2,h3,h4,h5⟩=>⟨d',L',Vs.refl _ _,h0,rv,L2,h1,h2,h3,_,h4⟩)
end Go.Gk.Tre
end
section
namespace Go.Gk.Tre
open Go Go.Gk Go.Gk.Dev Go.Gk.Cch Go.Gk.Pgr Go.Gk.Chn Go.Gk.Node
attribute [local irreducible] gwp gws xwp
def G5(P:Program)(f:FuncId):Prop:=∀{d w l fr to}{most:Int},RSl 2 RKv d w l→fr.length≤140737488355328→to.length≤140737488355328→l.length≤1000000→ -9223372036854775808≤most→most≤9223372036854775807→
 AA P f [w,Bm fr,Bm to,vZ most] d [] (Ret fun v d' L'=>Le d d'∧L'=[]∧RSl 2 RKv d' v (JS fr to most l []))
structure RrS where
 i:Nat
 out:List KV
 aa:Option Addr
 ac:Nat
def KX:A0:=⟨51,[(.tmp 8)],(sR (o1 8 (.mv nS) .done) (sR (o1 9 (.mv nS) .done) (.seq (sR (o1 10 (.mv z0) .done) (.block 0 (.loop (.seq (sR (om 11 10<|om 12 0<|oL 13 12<|ob 14 .lss 11 13<|om 15 14<|gT 16 15 9<|oT 17 15 (.len 16)<|gT 18 15 3<|oT 19 15 (.bin .lss 17 18)<|gP 20 15 19 .done) (.cond 20 .skip (.exit 0))) (.seq (.block 1 (sR (om 23 0<|om 24 10<|oI 25 2 23 24<|oj 26 0 25<|ol 27 26<|om 28 1<|ob 29 .geq 27 28<|om 30 29<|gT 31 30 2<|oT 32 30 (.bin .eql 31 (.const (Bm [])))<|gT 33 30 32<|gF 34 33 0<|gF 35 33 10<|oF 36 33 (.idx 2 34 35)<|oF 37 33 (.fld 0 36)<|oF 38 33 (.ld none 37)<|gF 39 33 2<|oF 40 33 (.bin .lss 38 39)<|oT 41 30 (.pick 33 (.const (.bool true)) 40)<|gP 42 30 41 .done) (.cond 42 (rG (om 43 9<|om 44 0<|om 45 10<|oI 46 2 44 45<|o1 47 (.ld (some 2) 46)<|o1 48 (.bsl 1 2 [(Bm []),(Bm [])] [(0,47)])<|o1 49 (.app 2 32 [(Bm []),(Bm [])] 43 48)<|om 9 49 .done)) .skip))) (rG (om 21 10<|ob 22 .add 21 z1<|om 10 22 .done))))))) (sR (om 50 9<|om 8 50 .done) .ret))))⟩
set_option maxRecDepth 4000 in
def Oi{P f}(hd:dec P f=some KX):G5 P f:=by
 intro d w l fr to most hw hfl htl hll hm1 hm2;obtain⟨a,c,rfl⟩:=hw.val;generalize hR:JS fr to most l []=R;refine AG hd (Aea Z) ?_;show gwp P _ _ _ _ _;apply Ag;apply AE;refine BS d [emp] Vs.emp ?_;refine Aj Z<|Aa<|Ad<|Aj Z<|Aa<|Ag<|Ad<|Ab Z<|Aa<|Ax<|B8 (α:=RrS) (fun x=>[(0,.slice a l.length c),(1,Bm fr),(2,Bm to),(3,vZ most),(9,.slice x.aa x.out.length x.ac),(10,vZ x.i)])
  (fun x d' L'=>Le d d'∧∃ha,L'=[ha]∧x.i≤l.length∧x.out.length≤x.i∧As 2 RKv d' (.slice x.aa x.out.length x.ac) x.out ha∧R=JS fr to most (l.drop x.i) x.out)
  (fun x=>l.length - x.i) ⟨0,[],none,0⟩ ⟨Z,Z,Z,Z,Z,Z,trivial⟩ ⟨Le.refl _,emp,Z,Aez _,Aef _,As.nil,hR.symm⟩ ?_
 rintro⟨i,out,aa,ac⟩ ρ d' L' ⟨hle,ha,rfl,hi,hol,ga,hr⟩;simp only at hi hol ga hr⊢;by_cases e:i<l.length
 ·rw[Afl e,JS] at hr;by_cases e2:(out.length:Int)<most
  ·rw[if_pos e2] at hr;refine Ag<|Ad<|Ab Z<|Aj Z<|AI Z<|AB Z Z<|Ae Z<|A8 Z (by omega)<|Af Z<|Aj Z<|Af Z<|AI Z<|Af Z<|Ab Z<|Af Z<|AB Z Z<|Ay Z Z<|Aa<|Aw Z (by omega)<|Ak<|Ag<|Ax<|Ad<|Aj Z<|Ab Z<|Bg (m:=i) Z (RSl.mono (R:=RKv) Dr hw hle) Z Z e (fun b1 o1 cs1 hcl1 hdc1 ⟨q1,q2,q3⟩=>?_);subst q1;by_cases e3:Op.bytesLess l[i].1 fr=true
   ·rw[if_neg (fun q=>q.1 e3)] at hr;have e3n:(!Op.bytesLess l[i].1 fr)=false:=by rw[e3];rfl
    (refine Ai Z<|Ah Z (B2 (by assumption) Z)<|CY Z<|SX Z Z<|Ae Z ?_;apply Gb;rfl;(with_reducible assumption);refine An Z<|An Z<|An Z<|B1 Z<|B1 Z<|B1 Z<|B1 Z<|B1 Z<|B1 Z<|B1 Z<|An Z<|Au Z Z<|Aa<|AS Z<|Ak<|AE<|Ab Z<|AM Z Z (by omega) (by omega)<|Ab Z<|Aa ?_);exact⟨⟨i+1,out,aa,ac⟩,(by show l.length - (i+1)<l.length - i;omega),⟨Z,Z,Z,Z,Z,Z,trivial⟩,hle,ha,Z,e,Aio hol,ga,hr⟩
   ·have e3n:(!Op.bytesLess l[i].1 fr)=true:=by rw[Bool.not_eq_true] at e3;rw[e3];rfl
    by_cases e4:to=[]
    ·rw[if_pos ⟨e3,.inl e4⟩] at hr;(refine Ai Z<|Ah Z (B2 (by assumption) Z)<|CY Z<|SX Z Z<|Ae Z ?_;apply FD;rfl;(with_reducible assumption);refine Af Z<|CY Z<|Af Z<|Jm Z Z<|Af Z<|Ae Z<|A8 Z (by omega)<|An Z<|An Z<|An Z<|An Z<|An Z<|An Z<|An Z<|Af Z<|Ay Z Z<|Ay Z Z<|Aa<|Bc Z<|AE<|Aj Z<|Aj Z<|Ab Z ?_);refine Bg (m:=i) Z (RSl.mono (R:=RKv) Dr hw hle) Z Z e (fun b3 o3 cs3 hcl3 hdc3 ⟨q4,q5,q6⟩=>?_);subst q4;(apply PN;rfl;assumption;rfl);refine AbF (a:=l[i].1) (b:=l[i].2) Z (fun b44 T44=>?_);refine Dj (R:=RKv) (ys:=[l[i]]) 0 Z Z ga Z (As.D2 (R:=RKv) (x:=l[i]) Z ⟨Z,q5,q6⟩) Hw (by omega) (by simp;omega) (by simp;omega) (fun v45 hb' ob=>?_);obtain⟨qa,qc,rfl⟩:=ob.val;have hol2:(out++[l[i]]).length≤i+1:=by simp;omega
     (refine Aj Z<|Aa<|AE<|Ab Z<|AM Z Z (by omega) (by omega)<|Ab Z<|Aa ?_);exact⟨⟨i+1,out++[l[i]],qa,qc⟩,(by show l.length - (i+1)<l.length - i;omega),⟨Z,Z,Z,Z,Z,Z,trivial⟩,hle,hb',Z,e,hol2,ob,hr⟩
    ·by_cases e5:Op.bytesLess l[i].1 to=true
     ·rw[if_pos ⟨e3,.inr e5⟩] at hr;(refine Ai Z<|Ah Z (B2 (by assumption) Z)<|CY Z<|SX Z Z<|Ae Z ?_;apply FD;rfl;(with_reducible assumption);refine Af Z<|CY Z<|Af Z<|Jm Z Z<|Af Z<|Ae Z<|A3 Z (by omega)<|Af Z<|Aj Z<|Af Z<|Ab Z<|Af Z ?_);refine Bg (m:=i) Z (RSl.mono (R:=RKv) Dr hw hle) Z Z e (fun b2 o2 cs2 hcl2 hdc2 ⟨q2,_,_⟩=>?_);subst q2;(refine Af Z<|Ai Z<|Af Z<|Ah Z (B2 (by assumption) Z)<|Af Z<|CY Z<|Af Z<|Fc Z Z<|Af Z<|Au Z Z<|Ay Z Z<|Aa ?_;apply PR;rfl;(with_reducible assumption);refine AE<|Aj Z<|Aj Z<|Ab Z ?_);refine Bg (m:=i) Z (RSl.mono (R:=RKv) Dr hw hle) Z Z e (fun b3 o3 cs3 hcl3 hdc3 ⟨q4,q5,q6⟩=>?_);subst q4;(apply PN;rfl;assumption;rfl);refine AbF (a:=l[i].1) (b:=l[i].2) Z (fun b44 T44=>?_);refine Dj (R:=RKv) (ys:=[l[i]]) 0 Z Z ga Z (As.D2 (R:=RKv) (x:=l[i]) Z ⟨Z,q5,q6⟩) Hw (by omega) (by simp;omega) (by simp;omega) (fun v45 hb' ob=>?_);obtain⟨qa,qc,rfl⟩:=ob.val;have hol2:(out++[l[i]]).length≤i+1:=by simp;omega
      (refine Aj Z<|Aa<|AE<|Ab Z<|AM Z Z (by omega) (by omega)<|Ab Z<|Aa ?_);exact⟨⟨i+1,out++[l[i]],qa,qc⟩,(by show l.length - (i+1)<l.length - i;omega),⟨Z,Z,Z,Z,Z,Z,trivial⟩,hle,hb',Z,e,hol2,ob,hr⟩
     ·rw[if_neg (fun q=>q.2.elim e4 e5)] at hr;have e5:Op.bytesLess l[i].1 to=false:=by simpa using e5
      (refine Ai Z<|Ah Z (B2 (by assumption) Z)<|CY Z<|SX Z Z<|Ae Z ?_;apply FD;rfl;(with_reducible assumption);refine Af Z<|CY Z<|Af Z<|Jm Z Z<|Af Z<|Ae Z<|A3 Z (by omega)<|Af Z<|Aj Z<|Af Z<|Ab Z<|Af Z ?_);refine Bg (m:=i) Z (RSl.mono (R:=RKv) Dr hw hle) Z Z e (fun b2 o2 cs2 hcl2 hdc2 ⟨q2,_,_⟩=>?_);subst q2;(refine Af Z<|Ai Z<|Af Z<|Ah Z (B2 (by assumption) Z)<|Af Z<|CY Z<|Af Z<|Fc Z Z<|Af Z<|Au Z Z<|Ay Z Z<|Aa ?_;apply U7;rfl;(with_reducible assumption);refine Ak<|AE<|Ab Z<|AM Z Z (by omega) (by omega)<|Ab Z<|Aa ?_);exact⟨⟨i+1,out,aa,ac⟩,(by show l.length - (i+1)<l.length - i;omega),⟨Z,Z,Z,Z,Z,Z,trivial⟩,hle,ha,Z,e,Aio hol,ga,hr⟩
  ·rw[if_neg e2] at hr;rw[hr];clear hr;(refine Ag<|Ad<|Ab Z<|Aj Z<|AI Z<|AB Z Z<|Ae Z<|A8 Z (by omega)<|Af Z<|Aj Z<|Af Z<|AI Z<|Af Z<|Ab Z<|Af Z<|AB Z Z<|Ay Z Z<|Aa<|Ar Z (by omega)<|Bd<|Ad<|Aj Z<|Aj Z<|Aa<|Ap ?_);exact XM [.slice aa out.length ac] ⟨Aq Z,trivial⟩ (fun d4 hl4 hL4=>⟨hle.trans hl4,Z,As.rsl (R:=RKv) ga Dr (by omega) hl4 (hL4 _ (by simp))⟩)
 ·rw[List.drop_eq_nil_of_le (by omega),JS] at hr;rw[hr];clear hr;(refine Ag<|Ad<|Ab Z<|Aj Z<|AI Z<|AB Z Z<|Ae Z<|A3 Z (by omega)<|An Z<|An Z<|An Z<|An Z<|Au Z Z<|Aa<|AS Z<|Bd<|Ad<|Aj Z<|Aj Z<|Aa<|Ap ?_);exact XM [.slice aa out.length ac] ⟨Aq Z,trivial⟩ (fun d4 hl4 hL4=>⟨hle.trans hl4,Z,As.rsl (R:=RKv) ga Dr (by omega) hl4 (hL4 _ (by simp))⟩)
end Go.Gk.Tre
end
section
namespace Go.Gk.Tre
open Go Go.Gk Go.Gk.Dev Go.Gk.Cch Go.Gk.Pgr Go.Gk.Chn Go.Gk.Node
section
def Fo(s:PD)(h:Nat):List LD→List KV→List Int→Prop
 |[],l,P=>l=[]∧P=[]
 |x::r,l,P=>∃v l1 l2 P1 P2,l=((x.2,v)::l1)++l2∧P=P1++P2∧Tr s h x.1 ((x.2,v)::l1) P1∧Fo s h r l2 P2
section
variable {s t:PD}{h:Nat}
def Fo.app:∀{r r':List LD}{l l'}{P P':List Int},Fo s h r l P→Fo s h r' l' P'→Fo s h (r++r') (l++l') (P++P')
 |[],r',l,l',P,P',⟨e1,e2⟩,h'=>by subst e1;subst e2;exact h'
 |x::r,r',l,l',P,P',⟨v,l1,l2,P1,P2,e1,e2,h1,h2⟩,h'=>by
  subst e1;subst e2;exact⟨v,l1,l2++l',P1,P2++P',by simp,by simp,h1,h2.app h'⟩
def Fo.split:∀{r r':List LD}{l}{P:List Int},Fo s h (r++r') l P→∃l1 l2 P1 P2,l=l1++l2∧P=P1++P2∧Fo s h r l1 P1∧Fo s h r' l2 P2
 |[],r',l,P,hh=>⟨[],l,[],P,Z,Z,⟨Z,Z⟩,hh⟩
 |x::r,r',l,P,⟨v,l1,l2,P1,P2,e1,e2,h1,h2⟩=>by
  subst e1;subst e2;obtain⟨a,b,A,B,rfl,rfl,q1,q2⟩:=h2.split;exact⟨((x.2,v)::l1)++a,b,P1++A,B,by simp,by simp,⟨v,l1,a,P1,A,Z,Z,h1,q1⟩,q2⟩
def Fo.stay:∀{r:List LD}{l}{P:List Int},Fo s h r l P→FN s t P→Fo t h r l P
 |[],l,P,hh,_=>hh
 |x::r,l,P,⟨v,l1,l2,P1,P2,e1,e2,h1,h2⟩,hs=>by
  subst e1;subst e2;exact⟨v,l1,l2,P1,P2,Z,Z,h1.stay (fun p hp=>hs p (Afc _ hp)),h2.stay (fun p hp=>hs p (Afe _ hp))⟩
def Fo.live:∀{r:List LD}{l}{P:List Int},Fo s h r l P→∀p∈P,Bs s p
 |[],l,P,⟨_,e⟩=>by subst e;exact fun p hp=>by cases hp
 |x::r,l,P,⟨v,l1,l2,P1,P2,e1,e2,h1,h2⟩=>by
  subst e2;exact fun p hp=>(List.mem_append.1 hp).elim (h1.live p) (h2.live p)
def Fo.SS(hG:Pgr.Good s):∀{r:List LD}{l}{P:List Int},Fo s h r l P→∀x∈r,0≤x.1∧x.1≤8191
 |[],l,P,_=>fun x hx=>by cases hx
 |x::r,l,P,⟨v,l1,l2,P1,P2,e1,e2,h1,h2⟩=>by
  intro y hy;rcases Aex.1 hy with rfl|hy
  ·cases h with
   |zero=>exact h1.elim
   |succ h=>
    obtain⟨n,Q,hat,_⟩:=h1
    exact D9 hG hat.liv
  ·exact h2.SS hG y hy
def Fo.Zg:∀{r:List LD}{l}{P:List Int},Fo s h r l P→(r.map (·.2)).Sublist (l.map Prod.fst)
 |[],l,P,⟨e,_⟩=>by subst e;exact Aeb _
 |x::r,l,P,⟨v,l1,l2,P1,P2,e1,e2,h1,h2⟩=>by
  subst e1;rw[Agw,Afz,Agw,Agj];exact Agi _ (h2.Zg.trans (Afw _ _))
def Fo.row(hG:Pgr.Good s){r:List LD}{l}{P:List Int}(hh:Fo s h r l P)(hk:KO (l.map Prod.fst)):AaA r:=⟨hh.SS hG,KO.sub hh.Zg hk⟩
def Fo.kids:∀{x:LD}{r:List LD}{l}{P:List Int},Fo s h (x::r) l P→KO (l.map Prod.fst)→Kd (Tr s h) (r.map (·.2)) (x.1::r.map (·.1)) l P
 |x,[],l,P,⟨v,l1,l2,P1,P2,e1,e2,h1,q1,q2⟩,_=>by
  subst e1;subst e2;subst q1;subst q2;exact Kd.one.2 (by simpa using h1)
 |x,y::r,l,P,⟨v,l1,l2,P1,P2,e1,e2,h1,h2⟩,hk=>by
  subst e1;subst e2;rw[Agj] at hk;obtain⟨k1,k2,k3⟩:=KO.app.1 hk;have ih:=h2.kids k2;obtain⟨w,m1,m2,Q1,Q2,rfl,rfl,_,_⟩:=h2;refine Kd.cons.2 ⟨_,_,P1,_,Z,Z,h1,fun z hz=>k3 z.1 (Agl hz) y.2 (by simp),fun z hz=>?_,ih⟩;rw[Afz] at hz;rcases Aex.1 hz with rfl|hz
  ·exact I3
  ·rw[Afz,Agw,KO.cons] at k2;exact K5 (k2.2.2 z.1 (Agl hz))
end
def czV(x:KV):Nat:=2+x.1.length+(if x.2.length≤15 then 1+x.2.length else 7)
def czL(l:List KV):Nat:=(l.map czV).sum
def Ace(a b:List KV):czL (a++b)=czL a+czL b:=by simp[czL]
def cpV(x:KV):Nat:=if 15<x.2.length then AP x.2.length else 0
def S8(x:KV)(l:List KV):cpL (x::l)=cpV x+cpL l:=by simp[cpL,cpV]
def Ce.cz{s c v k}{P:List Int}(h:Ce s c v P):2+k.length+c.length=czV (k,v):=by
 unfold czV;rcases h with ⟨h1,rfl,_⟩|⟨h1,_,_,rfl⟩
 ·simp only;rw[if_pos h1,Aep];omega
 ·simp only;rw[if_neg (by omega)];rfl
def Lf.cz{s}:∀{ks vs l}{P:List Int},Lf s ks vs l P→2*ks.length+C5 ks+C5 vs=czL l
 |[],[],l,P,h=>by rw[Lf] at h;rw[h.1];rfl
 |[],_::_,l,P,h=>by rw[Lf] at h<;>simp_all
 |_::_,[],l,P,h=>by rw[Lf] at h<;>simp_all
 |k::ks,c::cs,l,P,h=>by
  rw[Lf] at h;obtain⟨v,l',P1,P2,rfl,rfl,h1,h2⟩:=h;have e1:=h1.cz (k:=k);have e2:=h2.cz;have e3:czL ((k,v)::l')=czV (k,v)+czL l':=by simp[czL]
  simp only[Aep,C5];omega
def Lf.leaf{s ks vs l}{P:List Int}(h:Lf s ks vs l P)(hk:KO (l.map Prod.fst))(hc:∀v∈vs,v.length≤16):Bp ⟨true,ks,vs,[]⟩=true↔2+czL l≤256:=by
 have e:=h.cz;have hs:Ba ⟨true,ks,vs,[]⟩=true:=CC.2 ⟨by rw[h.keys];exact hk,h.len.1,hc⟩;simp only[Bp,hs,Bool.true_and,decide_eq_true_eq];rw[size_leaf h.len.1];omega
def Lf.cells{s}:∀{ks vs l}{P:List Int},Lf s ks vs l P→∀v∈vs,v.length≤16
 |[],[],l,P,h=>fun v hv=>by cases hv
 |[],_::_,l,P,h=>by rw[Lf] at h<;>simp_all
 |_::_,[],l,P,h=>by rw[Lf] at h<;>simp_all
 |k::ks,c::cs,l,P,h=>by
  rw[Lf] at h;obtain⟨v,l',P1,P2,rfl,rfl,h1,h2⟩:=h;intro w hw;rcases Aex.1 hw with rfl|hw
  ·exact h1.len
  ·exact h2.cells w hw
section
variable {s:PD}{h:Nat}{out:List LD}{lo ln:List KV}{Po Pn:List Int}
end
end
end Go.Gk.Tre
end
section
namespace Go.Gk.Tre
open Go Go.Gk Go.Gk.Dev Go.Gk.Cch Go.Gk.Pgr Go.Gk.Chn Go.Gk.Node
end Go.Gk.Tre
end
section
namespace Go.Gk.Tre
open Go Go.Gk Go.Gk.Dev Go.Gk.Cch Go.Gk.Pgr Go.Gk.Chn Go.Gk.Node
attribute [local irreducible] gwp gws xwp
variable{f1 f2 f3:FuncId}
section
section
variable {P:Program}{pan:List PanicEntry→AU}{Qn:Env→AU}{Ls L:List Ac}{ρ:Env}{d:Ac}{s:GS}{t:Nat}
def ZB{x y u v u' v'}(ex:ev ρ x=.agg [u,v].toArray)(ey:ev ρ y=.agg [u',v'].toArray)(h:∀b T,gws P pan Qn s Ls (upd ρ t (.slice (some ⟨b,0,none⟩) 2 2)) d (bx b T [u,v,u',v']::L)):
  gws P pan Qn (.op false ⟨some t,none,.bsl 2 2 [nV,nV] [(0,x),(1,y)]⟩ s) Ls ρ d L:=by
 refine CZ (by omega) ?_ h
 simp[Instr.fill,Bq,Afb,List.range.loop,ex,ey,Value.cells]
def WC{tk:Bool}{x a}{n c:Nat}(ex:ev ρ x=.slice a n c)
  (h:gws P pan Qn s Ls (upd ρ t (.agg [.slice a n c,nV].toArray)) d L):gws P pan Qn (.op tk ⟨some t,none,.bld [(0,1),(1,1)] [nV,nV] [(0,x)]⟩ s) Ls ρ d L:=
 BJ (cs:=[.slice a n c,nV]) (by simp[Instr.fill,ex,Value.cells]) h
end
def Abo{d}{q:Nat}{T u v u' v'}{a b:KV}(h1:AJ d u a.1)(h2:AJ d v a.2)(h3:AJ d u' b.1)(h4:AJ d v' b.2)(h:Le (bx q T [u,v,u',v']) d):RSl 2 RBp d (.slice (some ⟨q,0,none⟩) 2 2) [a,b]:=by
 have g:As 2 RBp d (.slice (some ⟨q,0,none⟩) 2 2) [a,b] (bx q T [u,v,u',v']):=As.lit Z Z (by simp) (fun i hi=>by
  have:i=0∨i=1:=by simp at hi;omega
  rcases this with rfl|rfl
  ·exact⟨u,v,Z,h1,h2⟩
  ·exact⟨u',v',Z,h3,h4⟩)
 exact As.rsl (R:=RBp) g DJ (by omega) (Le.refl _) h
def wl2:List KV:=[([1],[9]),([2],[8])]
def wl1:List KV:=[([2],[]),([1],[])]
def Aao:Fj wl2=0:=by decide+kernel
def Rs:Fj wl1=2:=by decide+kernel
def AcC:BA [1] [2] 5 wl2=[([1],[9])]:=by decide+kernel
def AcQ:BA [] [] 5 wl2=wl2:=by decide+kernel
def PZ(P:Program)(f:FuncId):Prop:=∀{d},AA P f [] d [] (Ret fun r d' L'=>r=.bool true∧L'=[])
def KE(a0 a1 a2 a3:Nat):A0:=⟨96,[(.tmp 0)],(sR (o1 0 (.mv (.const (.bool false))) .done) (sR (oc 12 a0 [(kZ 9)]<|om 11 12<|oe 13 11 0<|oe 14 11 1<|om 1 13<|om 2 14 .done) (.seq (sR (om 15 2<|o1 16 (.eqp false 15 (.const (.pointer none))) .done) (.cond 16 (sR (o1 0 (.mv (.const (.bool false))) .done) .ret) .skip)) (sR (om 18 1<|o1 19 (.bsl 1 1 [(.int .u8 0)] [(0,(.const (.int .u8 1)))])<|o1 20 (.bsl 1 1 [(.int .u8 0)] [(0,(.const (.int .u8 9)))])<|o1 21 (.bld [(0,1),(1,1)] [nV,nV] [(0,19),(1,20)])<|o1 22 (.bsl 1 1 [(.int .u8 0)] [(0,(.const (.int .u8 2)))])<|o1 23 (.bsl 1 1 [(.int .u8 0)] [(0,(.const (.int .u8 8)))])<|o1 24 (.bld [(0,1),(1,1)] [nV,nV] [(0,22),(1,23)])<|o1 25 (.bsl 2 2 [nV,nV] [(0,21),(1,24)])<|oc 26 a1 [18,25]<|om 17 26<|oe 27 17 0<|oe 28 17 1<|om 3 27<|om 4 28 .done) (.seq (sR (om 29 4<|ob 30 .neq 29 z0<|om 31 30<|gF 32 31 3<|oF 33 31 (.eqp false 32 (.const (.pointer none)))<|o1 34 (.pick 31 (.const (.bool true)) 33) .done) (.cond 34 (sR (o1 0 (.mv (.const (.bool false))) .done) .ret) .skip)) (sR (om 36 1<|om 37 3<|o1 38 (.bsl 1 1 [(.int .u8 0)] [(0,(.const (.int .u8 1)))])<|o1 39 (.bsl 1 1 [(.int .u8 0)] [(0,(.const (.int .u8 2)))])<|oc 40 a2 [36,37,38,39,(kZ 5)]<|om 35 40<|oe 41 35 0<|oe 42 35 1<|om 5 41<|om 6 42 .done) (sR (om 44 1<|om 45 3<|oc 46 a2 [44,45,nS,nS,(kZ 5)]<|om 43 46<|oe 47 43 0<|oe 48 43 1<|om 7 47<|om 8 48 .done) (sR (om 50 1<|o1 51 (.bsl 1 1 [(.int .u8 0)] [(0,(.const (.int .u8 2)))])<|o1 52 (.bld [(0,1),(1,1)] [nV,nV] [(0,51)])<|o1 53 (.bsl 1 1 [(.int .u8 0)] [(0,(.const (.int .u8 1)))])<|o1 54 (.bld [(0,1),(1,1)] [nV,nV] [(0,53)])<|o1 55 (.bsl 2 2 [nV,nV] [(0,52),(1,54)])<|oc 56 a1 [50,55]<|om 49 56<|oe 57 49 0<|oe 58 49 1<|om 9 57<|om 10 58 .done) (sR (om 59 6<|ob 60 .eql 59 z0<|om 61 60<|gT 62 61 5<|oT 63 61 (.len 62)<|oT 64 61 (.bin .eql 63 z1)<|gP 65 61 64<|om 66 65<|gT 67 66 5<|oT 68 66 (.idx 2 67 z0)<|oT 69 66 (.fld 1 68)<|oT 70 66 (.ld none 69)<|oT 71 66 (.b2s 70)<|oT 72 66 (.bin .eql 71 (.const (Bm [9])))<|gP 73 66 72<|om 74 73<|gT 75 74 8<|oT 76 74 (.bin .eql 75 z0)<|gP 77 74 76<|om 78 77<|gT 79 78 7<|oT 80 78 (.len 79)<|oT 81 78 (.bin .eql 80 z2)<|gP 82 78 81<|om 83 82<|gT 84 83 10<|oT 85 83 (.bin .eql 84 z2)<|gP 86 83 85<|om 87 86<|gT 88 87 9<|oT 89 87 (.eqp false 88 (.const (.pointer none)))<|gP 90 87 89<|om 91 90<|gT 92 91 3<|oT 93 91 (.call a3 [92])<|oT 94 91 (.bin .eql 93 z2)<|gP 95 91 94<|om 0 95 .done) .ret)))))))))⟩
end
def Is(a0 a1 a2 a3 a4 a5:Nat):A0:=⟨67,[(.tmp 8)],(sR (o1 8 (.mv (.const (.bool false))) .done) (sR (oc 16 a0 [(kZ 200)]<|om 15 16<|oe 17 15 0<|oe 18 15 1<|om 9 17<|om 10 18 .done) (.seq (sR (om 19 10<|o1 20 (.eqp false 19 (.const (.pointer none))) .done) (.cond 20 (sR (o1 8 (.mv (.const (.bool false))) .done) .ret) .skip)) (sR (om 22 9<|om 23 10<|om 24 0<|oc 25 a1 [22,23,24,(kZ 60)]<|om 21 25<|oe 26 21 0<|oe 27 21 1<|om 11 26<|om 12 27 .done) (.seq (sR (om 28 12<|o1 29 (.un .not 28) .done) (.cond 29 (sR (o1 8 (.mv (.const (.bool false))) .done) .ret) .skip)) (sR (om 31 9<|om 32 10<|om 33 1<|om 34 2<|om 35 3<|oc 36 a2 [31,32,33,34,35]<|om 30 36<|oe 37 30 0<|oe 38 30 1<|om 13 37<|om 14 38 .done) (.seq (sR (om 39 3<|ob 40 .lss 39 z0 .done) (.cond 40 (sR (om 41 14<|ob 42 .eql 41 z2<|om 43 42<|gT 44 43 13<|oT 45 43 (.len 44)<|oT 46 43 (.bin .eql 45 z0)<|gP 47 43 46<|om 48 47<|oT 49 48 (.call a3 [])<|gP 50 48 49<|om 8 50 .done) .ret) .skip)) (sR (om 51 14<|ob 52 .eql 51 z0<|om 53 52<|gT 54 53 13<|gT 55 53 11<|gT 56 53 1<|oT 57 53 (.b2s 56)<|gT 58 53 2<|oT 59 53 (.b2s 58)<|gT 60 53 3<|oT 61 53 (.call a4 [55,57,59,60])<|oT 62 53 (.call a5 [54,61])<|gP 63 53 62<|om 64 63<|oT 65 64 (.call a3 [])<|gP 66 64 65<|om 8 66 .done) .ret))))))))⟩
set_option maxRecDepth 4000 in
set_option maxHeartbeats 1000000 in
def bulkRanges{P f f4 f5 f6}(hd:dec P f=some (Is f1 f2 f3 f4 f5 f6))(h1:GQ P f1)(h2:Kg P f2)(h3:FU P f3)(h4:PZ P f4)(h5:G5 P f5)(h6:MC P f6)
  {d w fv tv}{acts:List X3}{fr to}{most:Int}(hw:RSl 3 RAc d w acts) (hf:AJ d fv fr) (ht:AJ d tv to) (hm1: -9223372036854775808≤most) (hm2:most≤9223372036854775807):AA P f [w,fv,tv,vZ most] d [] (Ret fun r _ _=>r=.bool true):=by
 have hwl:=hw.BF
 have hfl:=RSl.BF hf
 have htl:=RSl.BF ht
 obtain⟨fa,fc,rfl⟩:=RSl.val hf
 obtain⟨ta,tc,rfl⟩:=RSl.val ht
 refine AG hd (Aea Z) ?_
 show gwp P _ _ _ _ _
 (refine Ad<|Ae Z<|Aa<|Ad ?_)
 refine CA (L:=[]) (h1 (n:=200) (by omega) (by omega)) Z (fun u d1 L1 hl1 ⟨bt,Tt,bd,bp,L2,q1,q2,hp⟩=>?_)
 subst q1;subst q2
 have hw1:=RSl.mono (R:=RAc) QR hw hl1
 (refine AT Z<|Ao Z Z<|Ao Z Z<|Am Z<|Am Z<|Aa<|Ag<|Ad<|Am Z<|Cg Z Z<|Aa<|AS Z<|Ak<|Ad<|Am Z<|Am Z<|AR ?_)
 refine AY [] (h2 (t:=⟨pdN 200, -1,0,0⟩) (Tt:=Tt) (most:=60) (N:=200) (PgT.of hp) (Gr.empty (by omega) (by omega)) hw1 (by omega)) Z Z (fun v d2 L3 hl2 ⟨_,u,t,l,P',L4,q3,hl,hg,q4,hp4⟩=>?_)
 subst q3;subst q4
 obtain⟨lx,ly,rfl⟩:=hl.val
 have hln:=hg.ln
 have hf2:=RSl.mono (R:=AH) AL hf (hl1.trans hl2)
 have ht2:=RSl.mono (R:=AH) AL ht (hl1.trans hl2)
 obtain⟨hkl,hth⟩:=hg.ok.far (by omega)
 have hct:=hg.ok.ct
 by_cases hm:most<0
 ·obtain⟨n4,hp4⟩:=hp4
  (refine AT Z<|Ao Z Z<|Ao Z Z<|Aj Z<|Ae Z<|Aa<|Ag<|Ad<|Ae Z<|Bn Z<|Aa<|AS Z<|Ak<|Ad<|Am Z<|Am Z<|Aj Z<|Aj Z<|Ab Z ?_)
  refine AY [] (h3 (t:=⟨wtc t.s n4,t.root,t.height,t.count⟩) (bt:=bt) (Tt:=Tt) hp4 hg.ok.Dn (by have:=hkl.r1;show t.root≤1000000000;omega) (by show t.height≤1000000;omega) (by show t.count≤1000000000;omega) hf2 ht2 (fun q=>absurd hm (by omega))) Z Z (fun v d3 L5 hl3 ⟨_,rv,L6,tc2,e1,hrv,e2,_,_⟩=>?_)
  have hF:Ev ⟨wtc t.s n4,t.root,t.height,t.count⟩ most fr to=([],2):=by unfold Ev;rw[if_pos hm]
  rw[hF] at e1 hrv
  subst e1;subst e2
  obtain⟨ra,rc,rfl⟩:∃ra rc,rv=.slice ra 0 rc:=hrv.val
  clear hF hrv hg hkl hth hct hp4 hl hln hfl htl
  (refine AT Z<|Ao Z Z<|Ao Z Z<|Aj Z<|Ab Z<|Aa<|Ag<|Ad<|Ab Z<|AB Z Z<|Aa<|Aw Z (by omega)<|Ad<|Ab Z<|AN Z Z<|Ae Z<|A8 Z (by omega)<|Af Z<|Aj Z<|Af Z<|AI Z<|Af Z<|AN Z Z<|Ay Z Z<|Ae Z<|A8 Z (by omega)<|Af Z ?_)
  refine Bl Z h4 (fun v d4 L7 hl4 ⟨q7,q8⟩=>?_)
  subst q7;subst q8
  (refine Ay Z Z<|Ae Z<|Aa<|Ap ?_)
  exact BO Z (Afg _) Z
 ·obtain⟨M,hM⟩:∃M:Nat,most=M:=⟨most.toNat,by omega⟩
  subst hM
  (refine AT Z<|Ao Z Z<|Ao Z Z<|Aj Z<|Ae Z<|Aa<|Ag<|Ad<|Ae Z<|Bn Z<|Aa<|AS Z<|Ak<|Ad<|Am Z<|Am Z<|Aj Z<|Aj Z<|Ab Z ?_)
  refine AY [] (Q5 h3 (M:=M) hg.ok (by omega) hp4 hf2 ht2) Z Z (fun v d3 L5 hl3 ⟨_,rv,L6,e1,hrv,e2,hp6⟩=>?_)
  subst e1;subst e2
  have hR:=Tw (fr:=fr) (to:=to) (M:=M) (l:=l)
  generalize BA fr to M l=R at hrv hR
  obtain⟨ra,rc,rfl⟩:=hrv.val
  have hl5:=RSl.mono (R:=RKv) Dr hl hl3
  have hf5:=RSl.mono (R:=AH) AL hf2 hl3
  have ht5:=RSl.mono (R:=AH) AL ht2 hl3
  (refine AT Z<|Ao Z Z<|Ao Z Z<|Aj Z<|Ab Z<|Aa<|Ag<|Ad<|Ab Z<|AB Z Z<|Aa<|Ar Z (by omega)<|Ak<|Ad<|Ab Z<|AN Z Z<|Ae Z<|A8 Z (by omega)<|Af Z<|Aj Z<|Af Z<|Aj Z<|Af Z<|Aj Z<|Af Z<|Bj Z (by assumption)<|Af Z<|Aj Z<|Af Z<|Bj Z (by assumption)<|Af Z<|Ab Z<|Af Z ?_)
  refine Bl Z (h5 (fr:=fr) (to:=to) (most:=M) hl5 hfl htl (by omega) (by omega) hm2) (fun v d4 L7 hl4 ⟨hle4,q7,hv⟩=>?_)
  subst q7
  rw[hR] at hv
  obtain⟨va,vc,rfl⟩:=hv.val
  have hrv:=RSl.mono (R:=RBp) DJ hrv hl4
  have hpu:=h6 hrv hv
  rw[decide_eq_true Z] at hpu
  clear hR hg hkl hth hct
  (apply Af;rfl)
  refine BE Z hpu ?_
  clear hpu
  (refine Ay Z Z<|Ae Z<|Af Z ?_)
  refine Bl Z h4 (fun v d5 L8 hl5 ⟨q7,q8⟩=>?_)
  subst q7;subst q8
  (refine Ay Z Z<|Ae Z<|Aa<|Ap ?_)
  exact BO Z (Afg _) Z
abbrev lkS(l:List KV):List (List UInt8):=l.map (·.1)
abbrev lvS(l:List KV):List (List UInt8):=l.map fun x=>0::x.2
abbrev C4(l:List KV):AK:=⟨true,lkS l,lvS l,[]⟩
def Iu(P:Program)(f:FuncId):Prop:=∀{d s dv pv w L l},PgT d s dv pv L→RSl 2 RBp d w l→l≠[]→l.length≤100→(∀x∈l,x.2.length≤15)→(∀i,i<l.length→Bp (C4 (l.take (i+1)))=true)→(Bb s (-1) (C4 l)).2.2=0→
 AA P f [pv,w] d L (Ret fun v d' L'=>Le d d'∧∃u k,v=.tuple #[u,vZ 0]∧RSl 2 RLd d' u [((Bb s (-1) (C4 l)).2.1,k)]∧PgT d' (Bb s (-1) (C4 l)).1 dv pv L')
structure LSS where
 i:Nat
 ka:Option Addr
 kc:Nat
 va:Option Addr
 vc:Nat
 oa:Option Addr
 on:Nat
 oc:Nat
set_option maxRecDepth 4000 in
set_option maxHeartbeats 2000000 in
def Oh{P f}(hd:I4 P f=some (Sz f1 f2 f3))(h1:Nu P f1)(h2:Hh P f2)(h3:P5 P f3):Iu P f:=by
 intro d s dv pv w L l hp hw hne hll hsh hrt hpz;obtain⟨bp,rfl⟩:=hp.ptr;obtain⟨a,c,rfl⟩:=hw.val;refine AG hd (Aea Z) ?_;show gwp P _ _ _ _ _;apply Ag;apply AE;refine BS d (emp::emp::L) (Vs.emp.trans Vs.emp) ?_;(refine Aj Z<|Ab Z<|Aa<|Ad<|Aj Z<|Aa<|Ad<|BJ Z<|BP (fun _ _=>?_));rename_i b7 T7;refine EV (cs:=[.bool true,nV,nV,nV]) 0 Z Z Z Z Z Z ?_;refine Aa<|Ag<|Ad<|Ab Z<|Aa<|Ax<|B8 (α:=LSS) (fun x=>[(0,pZ bp),(1,.slice a l.length c),(6,.slice x.oa x.on x.oc),(7,pZ b7),(8,vZ x.i)])
  (fun x d' L'=>Le d d'∧((x.i≤l.length∧x.oa=none∧x.on=0∧x.oc=0∧∃hk hv Lp,L'=bx b7 T7 [.bool true,.slice x.ka x.i x.kc,.slice x.va x.i x.vc,nV]::hk::hv::Lp∧PgT d' s dv (pZ bp) Lp∧
    As 1 RBs d' (.slice x.ka x.i x.kc) (lkS (l.take x.i)) hk∧As 1 RBs d' (.slice x.va x.i x.vc) (lvS (l.take x.i)) hv)∨
    (∃k x1 x2 x3 ro Lp,L'=ro::x1::x2::x3::Lp∧x.i=l.length+1∧As 2 RLd d' (.slice x.oa x.on x.oc) [((Bb s (-1) (C4 l)).2.1,k)] ro∧PgT d' (Bb s (-1) (C4 l)).1 dv (pZ bp) Lp)))
  (fun x=>l.length+1 - x.i) ⟨0,none,0,none,0,none,0,0⟩ ⟨Z,Z,Z,Z,Z,trivial⟩ ⟨Le.refl _,.inl ⟨Aez _,Z,Z,Z,emp,emp,L,Z,hp,As.nil,As.nil⟩⟩ ?_
 rintro⟨i,ka,kc,va,vc,oa,on,oc⟩ ρ d' L' ⟨hle,hst⟩;simp only at hst⊢;rcases hst with ⟨hil,rfl,rfl,rfl,hk,hv,Lp,rfl,hp,gk,gv⟩|⟨k,x1,x2,x3,ro,Lp,rfl,hil,hro,hp6⟩
 ·have hkl:(lkS (l.take i)).length=i:=by simp;omega
  have hvl:(lvS (l.take i)).length=i:=by simp;omega
  by_cases hlt:i<l.length
  ·have hx3:=hsh _ (Aey hlt);have hr:=hrt i hlt;have hks:lkS (l.take (i+1))=lkS (l.take i)++[l[i].1]:=by rw[lkS,Aes hlt,Agj];rfl
   have hvs:lvS (l.take (i+1))=lvS (l.take i)++[0::l[i].2]:=by rw[lvS,Aes hlt,Agj];rfl
   have hc:BR s l[i].2=(s,0::l[i].2,0):=by unfold BR;rw[if_pos hx3]
   have hw1:RSl 2 RBp d' (.slice a l.length c) l:=RSl.mono (R:=RBp) DJ hw hle;(refine Ag<|Ad<|Ab Z<|Aj Z<|AI Z<|Ga Z Z<|Aa<|Aw Z (by omega)<|Ak<|Ag<|Ax<|Ad<|Bf 0 Z Z Z<|BP (fun _ _=>?_));rename_i b9 T9;refine EV (cs:=[.bool true,.slice ka i kc,.slice va i vc,nV]) 0 Z Z Z Z Z Z ?_;refine Aa<|Ag<|Ad<|Ab Z<|Aj Z<|AI Z<|AB Z Z<|Aa<|Aw Z (by omega)<|Ad<|Am Z<|Aj Z<|Ab Z<|Bg (m:=i) Z hw1 Z Z hlt (fun b o cs hcl hdc ⟨kv,vv,q,hkv,hvv⟩=>?_);subst q;refine Ai Z<|Ah Z (B2 (by assumption) Z)<|AY [_,_,_,_] (h1 hp hvv (by omega)) Z Z (fun v d2 L2 hl ⟨_,u,e1,hu,hp2⟩=>?_);rw[hc] at e1 hu hp2;have e1:v=.tuple #[u,vZ 0]:=e1;subst e1;have hu:AJ d2 u (0::l[i].2):=hu;have hp2:PgT d2 s dv (pZ bp) L2:=hp2;obtain⟨ua,uc,rfl⟩:∃ua uc,u=.slice ua (l[i].2.length+1) uc:=hu.val;have gk2:=gk.DI hl;have gv2:=gv.DI hl;clear hc hrt hsh;refine AT Z<|Ao Z Z<|Ao Z Z<|Aj Z<|Ab Z<|Aa<|Ag<|Ad<|Ab Z<|AO Z Z<|Aa<|Ar Z (by omega)<|Ak<|Ag<|Bw [_,_] (hk::hv::L2) Z ?_;refine Ai Z<|Ah Z (Al 1 Z Z)<|Aj Z<|Ab Z<|Bg (m:=i) Z (RSl.mono (R:=RBp) DJ hw1 hl) Z Z hlt (fun b2 o2 cs2 hcl2 hdc2 ⟨k2,v2,q,hk2,hv2⟩=>?_);subst q;obtain⟨xa,xc,rfl⟩:=hk2.val;refine Ai Z<|Ah Z (B2 (by assumption) Z)<|Ai Z<|Ah Z (Al 1 Z Z)<|Aj Z<|FQ (α:=Nat×TypeId) (β:=Option Addr×Nat×Ac) [(0,pZ bp),(1,.slice a l.length c),(6,nV),(7,pZ b7),(8,vZ i),(9,pZ b9),(50,.slice va i vc)]
    (fun x=>[(52,.slice (some ⟨x.1,0,none⟩) 1 1)]) (fun x _ M=>M=[bx x.1 x.2 [.slice ua (l[i].2.length+1) uc]])
    (fun y=>[(48,.slice y.1 (i+1) y.2.1),(54,.pointer (some ⟨b9,1,none⟩))])
    (fun y d' M=>As 1 RBs d' (.slice y.1 (i+1) y.2.1) (lkS (l.take (i+1))) y.2.2∧M=y.2.2::hv::L2) [] _ Z
    (fun x d d' M hl h=>h) (fun y d d' M hl h=>⟨h.1.DI hl,h.2⟩) (fun x=>Z) (fun y=>Z) Z ⟨Z,Z,Z,Z,Z,Z,Z,trivial⟩ ?_ ?_ ?_
   ·refine Dq (v0:=.slice ua (l[i].2.length+1) uc) Z Z (fun b52 T52=>?_);(apply AZ);exact⟨_,Z,(b52,T52),⟨Z,trivial⟩,Z⟩
   ·refine Dq (v0:=.slice xa l[i].1.length xc) Z Z (fun b47 T47=>?_);refine Dj (R:=RBs) (ys:=[l[i].1]) 0 Z Z gk2 Z (As.D2 (R:=RBs) (x:=l[i].1) Z ⟨_,Z,hk2⟩) E6 (by omega) (by rw[hkl];simp;omega) (by rw[hkl];simp;omega) (fun v' hk' o=>?_);rw[←hks] at o;obtain⟨ga,gc,rfl⟩:∃ga gc,v'=.slice ga (i+1) gc:=by
     obtain⟨ga,gc,q⟩:=o.val;exact⟨ga,gc,by rw[q];congr 1;simp;omega⟩
    (refine Ai Z<|AZ ?_);exact⟨_,Z,(ga,gc,hk'),⟨Z,Z,trivial⟩,o,Z⟩
   ·rintro⟨b52,T52⟩ ⟨ga,gc,hk'⟩ ρ2 d3 M1 M2 hl3 hM1 ⟨hg1,hM2⟩;subst hM1;subst hM2;simp only at hg1⊢;refine Dj (R:=RBs) (ys:=[0::l[i].2]) 1 Z Z (gv2.DI hl3) Z (As.D2 (R:=RBs) (x:=0::l[i].2) Z ⟨_,Z,RSl.mono (R:=AH) AL hu hl3⟩) E6 (by omega) (by rw[hvl];simp;omega) (by rw[hvl];simp;omega) (fun v' hv' ov=>?_);rw[←hvs] at ov;obtain⟨za,zc,rfl⟩:∃za zc,v'=.slice za (i+1) zc:=by
     obtain⟨ga,gc,q⟩:=ov.val;exact⟨ga,gc,by rw[q];congr 1;simp;omega⟩
    apply Cd;refine A7 0 [.bool true,.slice ga (i+1) gc,.slice va i vc,nV] Z Z Z Z (Aea Z) Z Z ?_;(apply Ai;rfl);refine A7 0 [.bool true,.slice ga (i+1) gc,.slice za (i+1) zc,nV] Z Z Z Z (Aea Z) Z Z ?_;refine Aa<|Ad<|Bf 0 Z Z Z<|BS d3 (bx b9 T9 [.bool true,.slice ga (i+1) gc,.slice za (i+1) zc,nV]::bx b7 T7 [.bool true,.slice ka i kc,.slice va i vc,nV]::hk'::hv'::L2) (Vs.refl _ _) ?_;have hlk:(lkS (l.take (i+1))).length=i+1:=by simp;omega
    have hlv:(lvS (l.take (i+1))).length=i+1:=by simp;omega
    refine Iz (vs:=[.agg [.bool true,.slice ga (i+1) gc,.slice za (i+1) zc,nV].toArray]) (v:=.bool (Bp (C4 (l.take (i+1))))) Z (fun d4 hl4 hL4=>h2 (cs:=[.bool true,.slice ga (i+1) gc,.slice za (i+1) zc,nV]) (n:=C4 (l.take (i+1))) ⟨_,_,_,Z,As.rsl (R:=RBs) hg1 C6 (by omega) hl4 (hL4 _ (by simp)),As.rsl (R:=RBs) ov C6 (by omega) hl4 (hL4 _ (by simp)),RSl.nil⟩ ((HP hr).1.small (by omega)).1) ?_;rw[hr];clear hlk hlv hr;refine Aa<|Bc Z<|Ad<|Bf 0 Z Z Z<|BS d3 (bx b7 T7 [.bool true,.slice ka i kc,.slice va i vc,nV]::hk'::hv'::L2) (Vs.drop (.cons _ (Aeb _))) ?_;refine EV (cs:=[.bool true,.slice ga (i+1) gc,.slice za (i+1) zc,nV]) 0 Z Z Z Z Z Z ?_;(refine Aa<|Bd<|AE<|Ab Z<|AM Z Z (by omega) (by omega)<|Ab Z<|Aa ?_);exact⟨⟨i+1,ga,gc,za,zc,none,0,0⟩,(by show l.length+1 - (i+1)<l.length+1 - i;omega),⟨Z,Z,Z,Z,Z,trivial⟩,(hle.trans hl).trans hl3,.inl ⟨hlt,Z,Z,Z,hk',hv',L2,Z,hp2.mono hl3,hg1,ov⟩⟩
  ·have:i=l.length:=by omega
   subst this;rw[Afq] at gk gv hkl hvl;obtain⟨j,hj⟩:∃j,l.length=j+1:=⟨l.length - 1,by have:=Ahb.2 hne;omega⟩
   have hr:Bp (C4 l)=true:=by have:=hrt j (by omega);rwa [←hj,Afq] at this
   obtain⟨d4,v1,hl4,hL4⟩:=Vs.HL d' [hk,hv];have hk5:Dh d4 (.slice ka l.length kc) (lkS l):=As.rsl (R:=RBs) gk C6 (by omega) hl4 (hL4 _ (by simp));have hv5:Dh d4 (.slice va l.length vc) (lvS l):=As.rsl (R:=RBs) gv C6 (by omega) hl4 (hL4 _ (by simp));have hp4:=hp.mono hl4;have hk0:0<(lkS l).length:=by omega
   clear hrt hsh;apply Ag;apply Ag;apply AE;refine BS d4 (bx b7 T7 [.bool true,.slice ka l.length kc,.slice va l.length vc,nV]::Lp) ((Vs.perm (Agz Lp (Aei (l₁:=[_]) (l₂:=[hk,hv])))).trans (Vs.app v1 _)) ?_;(refine Ab Z<|Aj Z<|AI Z<|Ga Z Z<|Aa<|Aw Z (by omega)<|Ak<|Ag<|Ax<|Ad<|Bf 0 Z Z Z<|BP (fun _ _=>?_));rename_i b9 T9;refine EV (cs:=[.bool true,.slice ka l.length kc,.slice va l.length vc,nV]) 0 Z Z Z Z Z Z ?_;refine Aa<|Ag<|Ad<|Ab Z<|Aj Z<|AI Z<|AB Z Z<|Aa<|Ar Z (by omega)<|Ak<|Ag<|Bw [_,_] Lp Z ?_;(refine Am Z<|Bf 1 Z Z Z<|Ai Z<|Ah Z (Al 1 Z Z)<|Bg (sz:=1) (R:=RBs) (by rfl) (by assumption) (by rfl) Z (by omega) ?_;rintro _ _ _ _ _ ⟨_,rfl,_⟩;apply Ah;rfl;exact BQ (by assumption) Z);have hq:=‹AJ d4 _ (lkS l)[0]›;obtain⟨fa,fc,rfl⟩:=hq.val;generalize (lkS l)[0]=k0 at hq⊢;refine FQ (α:=Nat×TypeId) (β:=Unit) [(0,pZ bp),(1,.slice a l.length c),(6,nV),(7,pZ b7),(8,vZ l.length),(9,pZ b9)]
    (fun x=>[(12,.pointer (some ⟨x.1,0,none⟩))]) (fun x _ M=>M=[bx x.1 x.2 [vZ 0,nV]])
    (fun _=>[(67,.agg [vZ (Bb s (-1) (C4 l)).2.1,.slice fa k0.length fc].toArray),(68,vZ 0)])
    (fun _ d' M=>PgT d' (Bb s (-1) (C4 l)).1 dv (pZ bp) M) [] _ Z
    (fun x d d' M hl h=>h) (fun y d d' M hl h=>h.mono hl) (fun x=>Z) (fun y=>Z) Z ⟨Z,Z,Z,Z,Z,Z,trivial⟩ ?_ ?_ ?_
   ·refine Dg (fun b12 T12=>?_);(apply AZ);exact⟨_,Z,(b12,T12),⟨Z,trivial⟩,Z⟩
   ·refine AY [] (h3 hp4 (n:=C4 l) (cs:=[.bool true,.slice ka l.length kc,.slice va l.length vc,nV]) ⟨_,_,_,Z,hk5,hv5,RSl.nil⟩ ((HP hr).1.small (by omega)).1 hq) Z Z (fun v d6 L6 hl6 ⟨_,q,u,e1,hq1,_,hp6⟩=>?_);obtain⟨rfl,rfl⟩:=hq1 hpz;rw[hpz] at e1;subst e1;(refine AT Z<|Ao Z Z<|Ao Z Z<|AZ ?_);exact⟨_,Z,(),⟨Z,Z,trivial⟩,hp6⟩
   ·rintro⟨b12,T12⟩ _ ρ2 d6 M1 M2 hl6 hM1 hp6;subst hM1;simp only at hp6⊢;generalize Bb s (-1) (C4 l)=W at hp6 hpz⊢;refine EV (cs:=[vZ W.2.1,.slice fa k0.length fc]) 0 Z Z Z Z Z Z ?_;have hq6:AJ d6 (.slice fa k0.length fc) k0:=RSl.mono (R:=AH) AL hq hl6;refine Ab Z<|AZ<|Ag<|Ad<|Ab Z<|AO Z Z<|Aa<|Ar Z (by omega)<|Ak<|Ad<|Aj Z<|Bf 2 Z Z Z<|BS d6 _ Vs.emp ?_;refine Adl (u:=vZ W.2.1) (v:=.slice fa k0.length fc) Z (fun b74 T74=>?_);refine Dj (R:=RLd) (xs:=[]) (ys:=[(W.2.1,k0)]) 0 Z Z As.nil Z (As.D2 (R:=RLd) (x:=(W.2.1,k0)) Z ⟨_,Z,hq6⟩) Aaz (by omega) (by simp) (by simp) (fun v' ro' o=>?_);obtain⟨pa,pc,rfl⟩:=o.val;(refine Aj Z<|Aa<|Ad<|Ai Z<|Ah Z (Al 2 Z Z)<|AI Z<|Ab Z<|Aa<|Ad<|Ab Z<|Aj Z<|AI Z<|AB Z Z<|Aa<|Ar Z (by omega)<|Ak<|AE<|Ab Z<|AM Z Z (by omega) (by omega)<|Ab Z<|Aa ?_);exact⟨⟨l.length+1,ka,kc,va,vc,pa,1,pc⟩,(by show l.length+1 - (l.length+1)<l.length+1 - l.length;omega),⟨Z,Z,Z,Z,Z,trivial⟩,(hle.trans hl4).trans hl6,.inr ⟨k0,_,_,_,ro',M2,Z,Z,o,hp6⟩⟩
 ·(refine Ag<|Ad<|Ab Z<|Aj Z<|AI Z<|Ga Z Z<|Aa<|Ar Z (by omega)<|Bd<|Ad<|Aj Z<|Aj Z<|Ab Z<|Aa<|Ap ?_);exact A4 [.slice oa on oc,vZ 0] ⟨Aq Z,Aq Z,trivial⟩ (d':=join d' ro) (L':=Lp) ((Vs.drop (.cons_cons _ (.cons _ (.cons _ (.cons _ (Aeb _)))))).trans Vs.freeze) ⟨hle.trans (Le.Az _ _),_,k,Z,As.rsl (R:=RLd) hro Acd (by omega) (Le.Az _ _) (Le.A6 _ _),hp6.mono (Le.Az _ _)⟩
def KM(P:Program)(f:FuncId):Prop:=∀{d s dv pv w L l},PgT d s dv pv L→RSl 2 RBp d w l→l.length≤100→
 (Fj l≠0→AA P f [pv,w] d L (Ret fun v d' L'=>Le d d'∧v=.tuple #[.pointer none,vZ (Fj l)]∧PgT d' s dv pv L'))∧
 (Fj l=0→l≠[]→(∀x∈l,x.2.length≤15)→(∀i,i<l.length→Bp (C4 (l.take (i+1)))=true)→(Bb s (-1) (C4 l)).2.2=0→
  AA P f [pv,w] d L (Ret fun v d' L'=>Le d d'∧∃L2 bt Tt,v=.tuple #[pZ bt,vZ 0]∧L'=tb bt Tt pv (Bb s (-1) (C4 l)).2.1 1 (l.length:Nat)::L2∧PgT d' (Bb s (-1) (C4 l)).1 dv pv L2))
set_option maxRecDepth 4000 in
set_option maxHeartbeats 1000000 in
def R0{P f f4 f5 f6 f7}(hd:dec P f=some (V5 f1 f2 f3 f4 f5 f6 f7))(h1:G4 P f1)(h2:KN P f2)(h4:Iu P f4)(h7:J4 P f7):KM P f:=by
 intro d s dv pv w L l hp hw hll;obtain⟨bp,rfl⟩:=hp.ptr;obtain⟨a,c,rfl⟩:=hw.val;refine⟨fun hwr=>?_,fun hwr hne hsh hrt hpz=>?_⟩
 ·refine AG hd (Aea Z) ?_;show gwp P _ _ _ _ _;refine Ad<|Am Z<|Ab Z<|Aa<|Ad<|Am Z<|AY [] (X9 h1 hp) Z Z (fun r d2 L2 hl2 ⟨e1,_,hm⟩=>?_);subst e1;have hw2:RSl 2 RBp d2 (.slice a l.length c) l:=RSl.mono (R:=RBp) DJ hw hl2;obtain⟨bm,rfl⟩:∃bm,r=pZ bm:=by obtain⟨bm,_,_,_,_,_,q,_⟩:=hm;exact⟨bm,q⟩
  refine Am Z<|Aa<|Ag<|Ad<|Am Z<|Cg Z Z<|Aa<|AS Z<|Ak<|Ag<|Ad<|Aj Z<|BE Z (h2 hw2) ?_;(refine Ab Z<|Aa<|Ad<|Ab Z<|AO Z Z<|Aa<|Aw Z (by omega)<|Ad<|Ab Z<|Am Z<|Ab Z<|Aa<|Ap ?_);exact A4 [.pointer none,vZ (Fj l)] ⟨Aq Z,Aq Z,trivial⟩ (d':=d2) (L':=L2) (Vs.refl _ _) ⟨hl2,Z,hp.mono hl2⟩
 ·refine AG hd (Aea Z) ?_;show gwp P _ _ _ _ _;refine Ad<|Am Z<|Ab Z<|Aa<|Ad<|Am Z<|AY [] (X9 h1 hp) Z Z (fun r d2 L2 hl2 ⟨e1,_,hm⟩=>?_);subst e1;have hp2:=hp.mono hl2;have hw2:RSl 2 RBp d2 (.slice a l.length c) l:=RSl.mono (R:=RBp) DJ hw hl2;obtain⟨bm,rfl⟩:∃bm,r=pZ bm:=by obtain⟨bm,_,_,_,_,_,q,_⟩:=hm;exact⟨bm,q⟩
  refine Am Z<|Aa<|Ag<|Ad<|Am Z<|Cg Z Z<|Aa<|AS Z<|Ak<|Ag<|Ad<|Aj Z<|BE Z (h2 hw2) ?_;rw[hwr];have hl0:¬l.length=0:=fun q=>hne (Ael q);have hpg:=YV hp.EL hpz;refine Ab Z<|Aa<|Ad<|Ab Z<|AO Z Z<|Aa<|Ar Z (by omega)<|Ak<|Ag<|Ad<|Aj Z<|AI Z<|AN Z Z<|Aa<|Ar Z (by omega)<|Ak<|Ad<|Am Z<|Aj Z<|AY [] (h4 hp2 hw2 hne hll hsh hrt hpz) Z Z (fun r d3 L3 hl3 ⟨_,u,k,e1,hu,hp3⟩=>?_);subst e1;generalize Bb s (-1) (C4 l)=W at hp3 hu hpg⊢;obtain⟨ua,uc,rfl⟩:∃ua uc,u=.slice ua 1 uc:=hu.val;clear hrt hsh hpz;refine AT Z<|Ao Z Z<|Ao Z Z<|Aj Z<|Ab Z<|Aa<|Ad<|Ab Z<|Aa<|Ag<|Ax<|B8 (α:=Unit) (fun x=>[(0,pZ bp),(1,.slice a l.length c),(8,.slice ua 1 uc),(9,vZ 0),(10,vZ 1)])
    (fun _ d' L'=>d'=d3∧L'=L3) (fun _=>0) () ⟨Z,Z,Z,Z,Z,trivial⟩ ⟨Z,Z⟩ ?_
  rintro _ ρ d' L' ⟨rfl,rfl⟩;refine Ag<|Ad<|Ab Z<|AN Z Z<|Ae Z<|A8 Z (by omega)<|Af Z<|Aj Z<|Af Z<|AI Z<|Af Z<|Bx Z Z<|Ay Z Z<|Aa<|Ar Z (by omega)<|Bd<|Ag<|Ad<|Ab Z<|AO Z Z<|Aa<|Ar Z (by omega)<|Ak<|Ad<|Am Z<|Aj Z<|Bg (R:=RLd) (m:=0) Z hu Z Z (by simp) (fun b o cs hcl hdc ⟨u0,q0,hu0⟩=>?_);subst q0;obtain⟨n4,hpn⟩:=hp3;refine Ai Z<|Ah Z (B2 (by assumption) Z)<|Ab Z<|Aj Z<|AI Z<|AY [] (h7 (root:=W.2.1) (height:=1) (count:=(l.length:Nat)) hpn (by omega) (by omega) (by omega) (by omega) (by omega) (by omega)) Z Z (fun r d5 L5 hl5 ⟨_,hR⟩=>?_);have hob:Dn W.2.1 1 (l.length:Nat)=true:=by
   simp only[Dn,Afp,Aec,decide_eq_true_eq];omega
  rcases hR with ⟨_,bt,Tt,rfl,rfl⟩|⟨q,_⟩
  ·(refine Ao Z Z<|Ao Z Z<|Am Z<|Ab Z<|Aa<|Ap ?_);exact A4 [pZ bt,vZ 0] ⟨Aq Z,Aq Z,trivial⟩ (d':=d5) (L':=tb bt Tt (pZ bp) W.2.1 1 (l.length:Nat)::L') (Vs.refl _ _) ⟨(hl2.trans hl3).trans hl5,L',bt,Tt,Z,Z,(show PgT d' W.1 dv (pZ bp) L' from⟨n4,hpn⟩).mono hl5⟩
  ·rw[hob] at q;cases q
def AaC:∀i,i<wl2.length→Bp (C4 (wl2.take (i+1)))=true:=by decide+kernel
def ZT:(Bb (pdN 9) (-1) (C4 wl2)).2.2=0:=by decide+kernel
def wlT:TD:=⟨(Bb (pdN 9) (-1) (C4 wl2)).1,(Bb (pdN 9) (-1) (C4 wl2)).2.1,1,2⟩
def Adh:Bp (C4 wl2)=true:=by decide+kernel
def TH{s}:∀{l},(∀x∈l,x.2.length≤15)→Lf s (lkS l) (lvS l) l []
 |[],_=>⟨Z,Z⟩
 |x::l,h=>⟨x.2,l,[],[],Z,Z,.inl ⟨h x (Aeo ..),Z,Z⟩,TH fun y hy=>h y (Aev _ hy)⟩
def AaE{s l}(hG:Pgr.Good s)(hr:Bp (C4 l)=true)(hne:l≠[])(hsh:∀x∈l,x.2.length≤15)(hz:(Bb s (-1) (C4 l)).2.2=0):Tok ⟨(Bb s (-1) (C4 l)).1,(Bb s (-1) (C4 l)).2.1,1,l.length⟩ l [(Bb s (-1) (C4 l)).2.1]:=by
 rcases NB hG hr with ⟨h1,h2,h3⟩|⟨h1,_⟩
 ·exact⟨h2.gd,by simp,Z,.inr ⟨0,Z,C4 l,[],h3,fun q=>hne (List.map_eq_nil_iff.1 q),Z,.mkl Z (TH hsh)⟩⟩
 ·rw[hz] at h1;exact absurd h1 (by decide)
def Ac2(hG:Pgr.Good (pdN 9)):Tok wlT wl2 [wlT.root]:=AaE hG Adh (by decide) (by decide) ZT
set_option maxRecDepth 4000 in
set_option maxHeartbeats 1000000 in
def Ou{P f f4}(hd:dec P f=some (KE f1 f2 f3 f4))(h1:GQ P f1)(h2:KM P f2)(h3:FU P f3)(h4:Ht P f4):PZ P f:=by
 intro d;refine AG hd (Aea Z) ?_;show gwp P _ _ _ _ _;refine Ad<|Ae Z<|Aa<|Ad<|CA (L:=[]) (h1 (n:=9) (by omega) (by omega)) Z (fun u d1 L1 hl1 ⟨bt,Tt,bd,bp,L2,q1,q2,hp⟩=>?_);subst q1;subst q2;have hG:Pgr.Good (pdN 9):=hp.EL;refine AT Z<|Ao Z Z<|Ao Z Z<|Am Z<|Am Z<|Aa<|Ag<|Ad<|Am Z<|Cg Z Z<|Aa<|AS Z<|Ak<|Ad<|Am Z<|Dq (v0:=Av 1) Z Z (fun b1 T1=>?_);refine BS (join d1 (bx b1 T1 [Av 1])) _ Vs.freeze ?_;have k1:AJ (join d1 (bx b1 T1 [Av 1])) _ [1]:=HV 1;have hp:=hp.mono (Le.Az d1 (bx b1 T1 [Av 1]));generalize join d1 (bx b1 T1 [Av 1])=d2 at k1 hp;refine Dq (v0:=Av 9) Z Z (fun b2 T2=>?_);refine BS (join d2 (bx b2 T2 [Av 9])) _ Vs.freeze ?_;have k2:AJ (join d2 (bx b2 T2 [Av 9])) _ [9]:=HV 9;have hp:=hp.mono (Le.Az d2 (bx b2 T2 [Av 9]));have k1:=RSl.mono (R:=AH) AL k1 (Le.Az d2 (bx b2 T2 [Av 9]));generalize join d2 (bx b2 T2 [Av 9])=d3 at k1 k2 hp;refine TN Z Z ?_;refine Dq (v0:=Av 2) Z Z (fun b3 T3=>?_);refine BS (join d3 (bx b3 T3 [Av 2])) _ Vs.freeze ?_;have k3:AJ (join d3 (bx b3 T3 [Av 2])) _ [2]:=HV 2;have hp:=hp.mono (Le.Az d3 (bx b3 T3 [Av 2]));have k1:=RSl.mono (R:=AH) AL k1 (Le.Az d3 (bx b3 T3 [Av 2]));have k2:=RSl.mono (R:=AH) AL k2 (Le.Az d3 (bx b3 T3 [Av 2]));generalize join d3 (bx b3 T3 [Av 2])=d4 at k1 k2 k3 hp;refine Dq (v0:=Av 8) Z Z (fun b4 T4=>?_);refine BS (join d4 (bx b4 T4 [Av 8])) _ Vs.freeze ?_;have k4:AJ (join d4 (bx b4 T4 [Av 8])) _ [8]:=HV 8;have hp:=hp.mono (Le.Az d4 (bx b4 T4 [Av 8]));have k1:=RSl.mono (R:=AH) AL k1 (Le.Az d4 (bx b4 T4 [Av 8]));have k2:=RSl.mono (R:=AH) AL k2 (Le.Az d4 (bx b4 T4 [Av 8]));have k3:=RSl.mono (R:=AH) AL k3 (Le.Az d4 (bx b4 T4 [Av 8]));generalize join d4 (bx b4 T4 [Av 8])=d5 at k1 k2 k3 k4 hp;refine TN Z Z ?_;refine ZB Z Z (fun b5 T5=>?_);refine BS (join d5 (bx b5 T5 _)) _ Vs.freeze ?_;have hw:RSl 2 RBp (join d5 (bx b5 T5 [.slice (some ⟨b1,0,none⟩) 1 1,.slice (some ⟨b2,0,none⟩) 1 1,.slice (some ⟨b3,0,none⟩) 1 1,.slice (some ⟨b4,0,none⟩) 1 1])) _ wl2:=
  Abo (RSl.mono (R:=AH) AL k1 (Le.Az _ _)) (RSl.mono (R:=AH) AL k2 (Le.Az _ _)) (RSl.mono (R:=AH) AL k3 (Le.Az _ _)) (RSl.mono (R:=AH) AL k4 (Le.Az _ _)) (Le.A6 _ _)
 have hp:=hp.mono (Le.Az d5 (bx b5 T5 [.slice (some ⟨b1,0,none⟩) 1 1,.slice (some ⟨b2,0,none⟩) 1 1,.slice (some ⟨b3,0,none⟩) 1 1,.slice (some ⟨b4,0,none⟩) 1 1]));generalize join d5 (bx b5 T5 _)=d6 at hw hp;clear k1 k2 k3 k4;have hp:=PgT.of hp;refine BS d6 L2 (Vs.drop (.cons _ (Aeb _))) ?_;refine AY [] ((h2 hp hw (by decide)).2 Aao (by decide) (by decide) AaC ZT) Z Z (fun v d7 L7 hl7 ⟨_,L8,bt2,Tt2,e1,e2,hp8⟩=>?_);subst e1;subst e2;have q2:Tok wlT wl2 _:=Ac2 hG;have hct:=q2.ct;have hp8:PgT d7 wlT.s (pZ bd) (pZ bp) L8:=hp8;refine BS d7 (tbD bt2 Tt2 (pZ bp) wlT::L8) (Vs.refl _ _) ?_;generalize wlT=t at q2 hp8 hct⊢;clear hw hp hG;refine AT Z<|Ao Z Z<|Ao Z Z<|Am Z<|Ab Z<|Aa<|Ag<|Ad<|Ab Z<|AO Z Z<|Ae Z<|A3 Z (by omega)<|Af Z<|Am Z<|Af Z<|Cg Z Z<|Au Z Z<|Aa<|AS Z<|Ak<|Ad<|Am Z<|Am Z<|Dq (v0:=Av 1) Z Z (fun b11 T11=>?_);refine BS (join d7 (bx b11 T11 [Av 1])) _ Vs.freeze ?_;have k1:AJ (join d7 (bx b11 T11 [Av 1])) _ [1]:=HV 1;have hp8:=hp8.mono (Le.Az d7 (bx b11 T11 [Av 1]));generalize join d7 (bx b11 T11 [Av 1])=d8 at k1 hp8;refine Dq (v0:=Av 2) Z Z (fun b12 T12=>?_);refine BS (join d8 (bx b12 T12 [Av 2])) _ Vs.freeze ?_;have k2:AJ (join d8 (bx b12 T12 [Av 2])) _ [2]:=HV 2;have hp8:=hp8.mono (Le.Az d8 (bx b12 T12 [Av 2]));have k1:=RSl.mono (R:=AH) AL k1 (Le.Az d8 (bx b12 T12 [Av 2]));generalize join d8 (bx b12 T12 [Av 2])=d9 at k1 k2 hp8;refine AY [] (Q5 h3 (M:=5) q2 (by decide) hp8 k1 k2) Z Z (fun v d10 L10 hl10 ⟨_,rv,L11,e1,hrv,e2,hp11⟩=>?_);subst e1;subst e2;rw[AcC] at hrv;obtain⟨ra,rc,rfl⟩:∃ra rc,rv=.slice ra 1 rc:=hrv.val;refine AT Z<|Ao Z Z<|Ao Z Z<|Aj Z<|Ab Z<|Aa<|Ad<|Am Z<|Am Z<|AY [] (Q5 h3 (M:=5) q2 (by decide) hp11 RSl.nil RSl.nil) Z Z (fun v d12 L12 hl12 ⟨_,sv,L13,e1,hsv,e2,hp13⟩=>?_);subst e1;subst e2;rw[AcQ] at hsv;obtain⟨sa,sc,rfl⟩:∃sa sc,sv=.slice sa 2 sc:=hsv.val;have hrv:=RSl.mono (R:=RBp) DJ hrv hl12;refine AT Z<|Ao Z Z<|Ao Z Z<|Aj Z<|Ab Z<|Aa<|Ad<|Am Z<|Dq (v0:=Av 2) Z Z (fun b21 T21=>?_);refine BS (join d12 (bx b21 T21 [Av 2])) _ Vs.freeze ?_;have k3:AJ (join d12 (bx b21 T21 [Av 2])) _ [2]:=HV 2;have hp13:=hp13.mono (Le.Az d12 (bx b21 T21 [Av 2]));have hrv:=RSl.mono (R:=RBp) DJ hrv (Le.Az d12 (bx b21 T21 [Av 2]));generalize join d12 (bx b21 T21 [Av 2])=d14 at k3 hp13 hrv;refine WC Z ?_;refine Dq (v0:=Av 1) Z Z (fun b22 T22=>?_);refine BS (join d14 (bx b22 T22 [Av 1])) _ Vs.freeze ?_;have k4:AJ (join d14 (bx b22 T22 [Av 1])) _ [1]:=HV 1;have hp13:=hp13.mono (Le.Az d14 (bx b22 T22 [Av 1]));have hrv:=RSl.mono (R:=RBp) DJ hrv (Le.Az d14 (bx b22 T22 [Av 1]));have k3:=RSl.mono (R:=AH) AL k3 (Le.Az d14 (bx b22 T22 [Av 1]));generalize join d14 (bx b22 T22 [Av 1])=d15 at k3 k4 hp13 hrv;refine WC Z ?_;refine ZB Z Z (fun b23 T23=>?_);refine BS (join d15 (bx b23 T23 _)) _ Vs.freeze ?_;have hw2:RSl 2 RBp (join d15 (bx b23 T23 [.slice (some ⟨b21,0,none⟩) 1 1,nV,.slice (some ⟨b22,0,none⟩) 1 1,nV])) _ wl1:=
  Abo (RSl.mono (R:=AH) AL k3 (Le.Az _ _)) RSl.nil (RSl.mono (R:=AH) AL k4 (Le.Az _ _)) RSl.nil (Le.A6 _ _)
 have hp13:=hp13.mono (Le.Az d15 (bx b23 T23 [.slice (some ⟨b21,0,none⟩) 1 1,nV,.slice (some ⟨b22,0,none⟩) 1 1,nV]));have hrv:=RSl.mono (R:=RBp) DJ hrv (Le.Az d15 (bx b23 T23 [.slice (some ⟨b21,0,none⟩) 1 1,nV,.slice (some ⟨b22,0,none⟩) 1 1,nV]));generalize join d15 (bx b23 T23 _)=d16 at hw2 hp13 hrv;refine AY [_] ((h2 hp13 hw2 (by decide)).1 (by rw[Rs];decide)) Z Z (fun v d17 L17 hl17 ⟨_,e1,hp18⟩=>?_);rw[Rs] at e1;subst e1;have hrv:=RSl.mono (R:=RBp) DJ hrv hl17;refine AT Z<|Ao Z Z<|Ao Z Z<|Am Z<|Ab Z<|Aa<|Ad<|Ab Z<|AN Z Z<|Ae Z<|A8 Z (by omega)<|Af Z<|Aj Z<|Af Z<|AI Z<|Af Z<|AN Z Z<|Ay Z Z<|Ae Z<|A8 Z (by omega)<|Af Z<|Aj Z<|Af Z<|Bg (R:=RBp) (m:=0) Z hrv Z Z (by decide) (fun b31 o31 cs31 hcl31 hd31 ⟨ku,vu,q31,hk31,hv31⟩=>?_);have hv31:AJ d17 vu [9]:=hv31;subst q31;obtain⟨va,vc,rfl⟩:∃va vc,vu=.slice va 1 vc:=hv31.val;have hct:t.count=2:=hct;have g4:Du P f4 [pZ bt2] d17 (tbD bt2 Tt2 (pZ bp) t::L17) (vZ ((2:Nat):Int)):=by
  have:=h4 (d:=d17) (t:=t) (bt:=bt2) (pb:=bp) (Tt:=Tt2) (L:=L17);simpa only[hct] using this
 refine Af Z<|Ai Z<|Af Z<|Ah Z (B2 (by assumption) Z)<|Af Z<|Bj Z (by assumption)<|Af Z<|Jm Z Z<|Ay Z Z<|Ae Z<|A8 Z (by with_reducible rfl)<|Af Z<|Ab Z<|Af Z<|AN Z Z<|Ay Z Z<|Ae Z<|A8 Z (by omega)<|Af Z<|Aj Z<|Af Z<|AI Z<|Af Z<|AN Z Z<|Ay Z Z<|Ae Z<|A8 Z (by omega)<|Af Z<|Ab Z<|Af Z<|AN Z Z<|Ay Z Z<|Ae Z<|A8 Z (by omega)<|Af Z<|Am Z<|Af Z<|PV Z Z<|Ay Z Z<|Ae Z<|Af Z<|Am Z<|Af Z<|B7 [] g4 Z Z ?_;(refine Af Z<|AN Z Z<|Ay Z Z<|Ae Z<|Aa<|Ap ?_);exact A4 [.bool true] ⟨Aq Z,trivial⟩ (d':=d17) (L':=[]) (Vs.drop (Afg _)) ⟨Z,Z⟩
end Go.Gk.Tre
end
section
namespace Go.Gk.Tre
open Go Go.Gk Go.Gk.Node
def AdI{l:List Value}(h:l.length=3):∃a b c,l=[a,b,c]:=by
 match l,h with
 |[a,b,c],_=>exact⟨a,b,c,Z⟩
def Abe{H:Type}{enc:TypeId×Value→H}{P:Program}{W:World}{t ti tb ts:TypeId}{fs:Array Field}(ht:P.underlying t=some (.struct fs))(h3:P.cellsOf t=3)
  (f0:(fs[0]?).map (fun f=>(f.offset,f.type))=some (0,ti)) (f1:(fs[1]?).map (fun f=>(f.offset,f.type))=some (1,ts)) (f2:(fs[2]?).map (fun f=>(f.offset,f.type))=some (2,ts))
  (ci:P.cellsOf ti=1) (cb:P.cellsOf tb=1) (cs:P.cellsOf ts=1)
  (ui:P.underlying ti=some (.int .i64)) (ub:P.underlying tb=some (.int .u8)) (us:P.underlying ts=some (.slice tb)) (bb:1≤P.bytesOf tb):Rd enc P W t RAc:=by
 intro held fuel cs x h hw
 obtain⟨hl,hfs⟩:=Zj ht h hw
 obtain⟨k,e0⟩:=hfs 0 0 ti 1 f0 ci (ZA ui)
 obtain⟨y,v,e1,hv⟩:=hfs 1 1 ts 1 f1 (by assumption) (Pk us cb (by omega) bb (IQ ub))
 obtain⟨z,u,e2,hu⟩:=hfs 2 2 ts 1 f2 (by assumption) (Pk us cb (by omega) bb (IQ ub))
 obtain⟨a0,a1,a2,rfl⟩:=AdI (hl.trans h3)
 simp only[List.drop,List.take] at e0 e1 e2
 obtain⟨e0, -, -⟩:=e0
 simp only[List.cons.injEq,and_true] at e0 e1 e2
 subst e0;subst e1;subst e2
 exact⟨⟨k,y,z⟩,_,_,Z,hv,hu⟩
end Go.Gk.Tre
end
section
namespace Go.Gk.Tre
open Go Go.Gk Go.Gk.Dev Go.Gk.Cch Go.Gk.Pgr Go.Gk.Chn Go.Gk.Node
attribute [local irreducible] gwp gws xwp
def Acp{d w l}(hw:RSl 2 RKv d w l):∀x∈l,x.1.length≤140737488355328∧x.2.length≤140737488355328:=by
 intro x hx;obtain⟨i,hi,rfl⟩:=List.getElem_of_mem hx;obtain⟨_,_,_,_,_,_,_,_,_,_,_,h8⟩:=hw;obtain⟨cs,_,_,_,q1,q2⟩:=h8 i hi;exact⟨q1,q2⟩
def Abc:∀{l},(∀x∈l,x.1.length≤140737488355328∧x.2.length≤140737488355328)→czL l≤l.length*140737488355400∧cpL l≤l.length*140737488355400
 |[],_=>⟨Aef _,Aef _⟩
 |x::l,h=>by
  obtain⟨h1,h2⟩:=Abc fun y hy=>h y (Aev _ hy);obtain⟨h3,h4⟩:=h x (Aeo ..);have e:czL (x::l)=czV x+czL l:=by simp[czL]
  have e1:czV x≤140737488355400:=by unfold czV;split<;>omega
  have e2:cpV x≤140737488355400:=by unfold cpV AP;split<;>omega
  rw[e,S8,Aep,Nat.succ_mul];omega
def Acb{l:List KV}{i:Nat}(h:i<l.length):czL (l.take (i+1))=czL (l.take i)+czV l[i]∧cpL (l.take (i+1))=cpL (l.take i)+cpV l[i]:=by
 rw[Aes h,Ace,Wq];simp[czL,cpL,cpV]
def KI(P:Program)(f:FuncId):Prop:=∀{d w l},RSl 2 RKv d w l→l.length≤1000→CP P f [w] d (.tuple #[vZ (czL l:Nat),vZ (cpL l:Nat)])
def K3:A0:=⟨44,[(.tmp 2),(.tmp 3)],(sR (o1 2 (.mv z0)<|o1 3 (.mv z0) .done) (sR (o1 4 (.mv z0) .done) (sR (o1 5 (.mv z0) .done) (.seq (sR (o1 6 (.mv z0) .done) (.block 0 (.loop (.seq (sR (om 8 6<|om 9 0<|oL 10 9<|ob 11 .lss 8 10 .done) (.cond 11 .skip (.exit 0))) (.seq (.block 1 (sR (om 14 0<|om 15 6<|oI 16 2 14 15<|oj 17 1 16<|ol 18 17<|o1 19 (.lens 18)<|om 7 19 .done) (sR (om 20 4<|ob 21 .add 20 z2<|om 22 0<|om 23 6<|oI 24 2 22 23<|oj 25 0 24<|ol 26 25<|o1 27 (.lens 26)<|ob 28 .add 21 27<|om 4 28 .done) (.seq (sR (om 29 7<|ob 30 .leq 29 (kZ 15) .done) (.cond 30 (sR (om 31 4<|ob 32 .add 31 z1<|om 33 7<|ob 34 .add 32 33<|om 4 34 .done) (.exit 1)) .skip)) (sR (om 35 4<|ob 36 .add 35 (kZ 7)<|om 4 36 .done) (rG (om 37 5<|om 38 7<|ob 39 .add 38 (kZ 253)<|ob 40 .quo 39 (kZ 254)<|ob 41 .add 37 40<|om 5 41 .done))))))) (rG (om 12 6<|ob 13 .add 12 z1<|om 6 13 .done))))))) (sR (om 42 4<|om 43 5<|om 2 42<|om 3 43 .done) .ret)))))⟩
set_option maxRecDepth 4000 in
def VU{P:Program}{f:FuncId}(hd:dec P f=some K3):KI P f:=by
 intro d w l hw hln;have hbd:=Acp hw;obtain⟨a,c,rfl⟩:=hw.val;refine AG hd (Aea rfl) ?_;show gwp P _ _ _ _ _;(refine Ad<|Ab rfl<|Ab rfl<|Aa<|Ad<|Ab rfl<|Aa<|Ad<|Ab rfl<|Aa<|Ag<|Ad<|Ab rfl<|Aa<|Ax ?_);refine B8 (α:=Nat) (fun x=>[(0,.slice a l.length c),(4,vZ (czL (l.take x):Nat)),(5,vZ (cpL (l.take x):Nat)),(6,vZ x)]) (fun x d' L'=>d'=d∧x≤l.length) (fun x=>l.length - x) 0 ⟨rfl,rfl,rfl,rfl,trivial⟩ ⟨rfl,Aez _⟩ ?_;rintro i ρ d' L' ⟨rfl,hi⟩;simp only at hi⊢;by_cases e:i<l.length
 ·obtain⟨t1,t2⟩:=Acb e;obtain⟨b1,b2⟩:=Abc (l:=l.take i) (fun x hx=>hbd x (Ahy hx));have b3:(l.take i).length≤1000:=by rw[Aer];omega
  have b4:(l.take i).length*140737488355400≤1000*140737488355400:=Nat.mul_le_mul_right _ b3;obtain⟨b5,b6⟩:=hbd _ (Aey e);generalize hz1:czL (l.take i)=z1 at t1 b1;generalize hz2:cpL (l.take i)=z2 at t2 b2;(refine Ag<|Ad<|Ab rfl<|Aj rfl<|AI rfl<|AB rfl rfl<|Aa<|Aw rfl (by omega)<|Ak<|Ag<|Ax<|Ad<|Aj rfl<|Ab rfl ?_);refine Bg (m:=i) rfl hw rfl rfl e (fun b o cs hcl hdc ⟨q,_,_⟩=>?_);subst q;(refine Ai rfl<|Ah rfl (B2 (by assumption) rfl)<|Tg rfl<|Ab rfl<|Aa<|Ad<|Ab rfl<|AM rfl rfl (by omega) (by omega)<|Aj rfl<|Ab rfl ?_);refine Bg (m:=i) rfl hw rfl rfl e (fun b o cs hcl hdc ⟨q,_,_⟩=>?_);subst q;by_cases h15:(l[i].2.length:Int)≤15
  ·have v1:czV l[i]=2+l[i].1.length+(1+l[i].2.length):=by unfold czV;rw[if_pos (by omega)]
   have v2:cpV l[i]=0:=by unfold cpV;rw[if_neg (by omega)]
   (refine Ai rfl<|Ah rfl (B2 (by assumption) rfl)<|Tg rfl<|AM rfl rfl (by omega) (by omega)<|Ab rfl<|Aa<|Ag<|Ad<|Ab rfl<|Ga rfl rfl<|Aa<|Aw rfl (by omega)<|Ad<|Ab rfl<|AM rfl rfl (by omega) (by omega)<|Ab rfl<|AM rfl rfl (by omega) (by omega)<|Ab rfl<|Aa<|Bd<|AE<|Ab rfl<|AM rfl rfl (by omega) (by omega)<|Ab rfl<|Aa ?_);exact⟨i+1,by omega,⟨rfl,(by show Value.int .i64 _=Value.int .i64 _;congr 1;omega),(by show Value.int .i64 _=Value.int .i64 _;congr 1;omega),rfl,trivial⟩,rfl,e⟩
  ·have v1:czV l[i]=2+l[i].1.length+7:=by unfold czV;rw[if_neg (by omega)]
   have v2:cpV l[i]=(l[i].2.length+253) / 254:=by unfold cpV AP;rw[if_pos (by omega)];omega
   (refine Ai rfl<|Ah rfl (B2 (by assumption) rfl)<|Tg rfl<|AM rfl rfl (by omega) (by omega)<|Ab rfl<|Aa<|Ag<|Ad<|Ab rfl<|Ga rfl rfl<|Aa<|Ar rfl (by omega)<|Ak<|Ad<|Ab rfl<|AM rfl rfl (by omega) (by omega)<|Ab rfl<|Aa<|AE<|Ab rfl<|Ab rfl<|AM rfl rfl (by omega) (by omega)<|Adc rfl rfl (by omega) (by omega) (by omega)<|AM rfl rfl (by omega) (by omega)<|Ab rfl<|Aa<|AE<|Ab rfl<|AM rfl rfl (by omega) (by omega)<|Ab rfl<|Aa ?_);exact⟨i+1,by omega,⟨rfl,(by show Value.int .i64 _=Value.int .i64 _;congr 1;omega),(by show Value.int .i64 _=Value.int .i64 _;congr 1;omega),rfl,trivial⟩,rfl,e⟩
 ·have:i=l.length:=by omega
  subst this;rw[Afq];(refine Ag<|Ad<|Ab rfl<|Aj rfl<|AI rfl<|AB rfl rfl<|Aa<|Ar rfl (by omega)<|Bd<|Ad<|Ab rfl<|Ab rfl<|Ab rfl<|Ab rfl<|Aa<|Ap ?_);exact Dc [vZ (czL l:Nat),vZ (cpL l:Nat)] ⟨Aq rfl,Aq rfl,trivial⟩ (Afg _) ⟨rfl,rfl,rfl⟩
def Xb:∀{l},(∀x∈l,x.2.length≤700)→cpL l≤3*l.length
 |[],_=>Aef _
 |x::l,h=>by
  have h1:=Xb fun y hy=>h y (Aev _ hy);have h2:=h x (Aeo ..);have e2:cpV x≤3:=by unfold cpV AP;split<;>omega
  rw[S8,Aep];omega
def H4(a0 a1 a2 a3 a4 a5 a6 a7:Nat):A0:=⟨77,[(.tmp 8)],(sR (o1 8 (.mv (.const (.bool false))) .done) (.seq (sR (oc 18 a0 []<|o1 19 (.un .not 18) .done) (.cond 19 (sR (o1 8 (.mv (.const (.bool false))) .done) .ret) .skip)) (sR (oc 21 a1 [(kZ 200)]<|om 20 21<|oe 22 20 0<|oe 23 20 1<|om 9 22<|om 10 23 .done) (.seq (sR (om 24 10<|o1 25 (.eqp false 24 (.const (.pointer none))) .done) (.cond 25 (sR (o1 8 (.mv (.const (.bool false))) .done) .ret) .skip)) (sR (om 27 9<|om 28 10<|om 29 0<|oc 30 a2 [27,28,29,(kZ 60)]<|om 26 30<|oe 31 26 0<|oe 32 26 1<|om 11 31<|om 12 32 .done) (.seq (sR (om 33 12<|o1 34 (.un .not 33) .done) (.cond 34 (sR (o1 8 (.mv (.const (.bool false))) .done) .ret) .skip)) (sR (om 35 3<|o1 36 (.cvi .u64 35)<|ob 37 .rem 36 (.const (.int .u64 80))<|o1 38 (.cvi .i64 37)<|om 3 38 .done) (sR (om 39 9<|oc 40 a3 [39]<|om 13 40 .done) (sR (om 42 9<|om 43 10<|om 44 1<|om 45 2<|om 46 3<|oc 47 a4 [42,43,44,45,46]<|om 41 47<|oe 48 41 0<|oe 49 41 1<|om 14 48<|om 15 49 .done) (.seq (sR (om 50 15<|ob 51 .neq 50 z0 .done) (.cond 51 (sR (o1 8 (.mv (.const (.bool false))) .done) .ret) .skip)) (sR (om 53 11<|om 54 1<|o1 55 (.b2s 54)<|om 56 2<|o1 57 (.b2s 56)<|om 58 3<|oc 59 a5 [53,55,57,58]<|oc 60 a6 [59]<|om 52 60<|oe 61 52 0<|oe 62 52 1<|om 16 61<|om 17 62 .done) (sR (om 63 9<|oc 64 a3 [63]<|om 65 13<|ob 66 .sub 64 65<|om 67 10<|oc 68 a7 [67]<|ob 69 .add 68 z1<|om 70 14<|oL 71 70<|ob 72 .add z2 71<|ob 73 .mul 69 72<|om 74 17<|ob 75 .add 73 74<|ob 76 .leq 66 75<|om 8 76 .done) .ret))))))))))))⟩
set_option maxRecDepth 4000 in
set_option maxHeartbeats 1000000 in
def bulkTouches{P f f1 f2 f3 f4 f5 f6 f7 f8}(hd:dec P f=some (H4 f1 f2 f3 f4 f5 f6 f7 f8))(h1:PZ P f1)(h2:GQ P f2)(h3:Kg P f3)(h4:Ma P f4)(h5:FU P f5)(h6:G5 P f6)(h7:KI P f7)(h8:F2 P f8)
  {d w fv tv}{acts:List X3}{fr to}{most:Int}(hw:RSl 3 RAc d w acts) (hf:AJ d fv fr) (ht:AJ d tv to):AA P f [w,fv,tv,vZ most] d [] (Ret fun r _ _=>r=.bool true):=by
 have hwl:=hw.BF
 have hfl:=RSl.BF hf
 have htl:=RSl.BF ht
 obtain⟨fa,fc,rfl⟩:=RSl.val hf
 obtain⟨ta,tc,rfl⟩:=RSl.val ht
 obtain⟨m0,hm,hm12⟩:=AbV most 80 (by omega)
 replace hm:most % 18446744073709551616 % 80=(m0:Int):=hm
 refine AG hd (Aea Z) ?_
 show gwp P _ _ _ _ _
 (refine Ad<|Ae Z<|Aa<|Ag<|Ad ?_)
 refine Bl Z h1 (fun v d0 L0 hl0 ⟨q7,q8⟩=>?_)
 subst q7;subst q8
 (refine Bn Z<|Aa<|AS Z<|Ak<|Ad ?_)
 refine CA (L:=[]) (h2 (n:=200) (by omega) (by omega)) Z (fun u d1 L1 hl1 ⟨bt,Tt,bd,bp,L2,q1,q2,hp⟩=>?_)
 subst q1;subst q2
 have hw1:=RSl.mono (R:=RAc) QR hw (hl0.trans hl1)
 (refine AT Z<|Ao Z Z<|Ao Z Z<|Am Z<|Am Z<|Aa<|Ag<|Ad<|Am Z<|Cg Z Z<|Aa<|AS Z<|Ak<|Ad<|Am Z<|Am Z<|AR ?_)
 refine AY [] (h3 (t:=⟨pdN 200, -1,0,0⟩) (Tt:=Tt) (most:=60) (N:=200) (PgT.of hp) (Gr.empty (by omega) (by omega)) hw1 (by omega)) Z Z (fun v d2 L3 hl2 ⟨_,u,t,l,P',L4,q3,hl,hg,q4,hp4⟩=>?_)
 subst q3;subst q4
 obtain⟨lx,ly,rfl⟩:=hl.val
 have hln:=hg.ln
 have hf2:=RSl.mono (R:=AH) AL hf ((hl0.trans hl1).trans hl2)
 have ht2:=RSl.mono (R:=AH) AL ht ((hl0.trans hl1).trans hl2)
 obtain⟨hkl,hth⟩:=hg.ok.far (by omega)
 have hct:=hg.ok.ct
 obtain⟨n,hp4⟩:=hp4
 (refine AT Z<|Ao Z Z<|Ao Z Z<|Aj Z<|Ae Z<|Aa<|Ag<|Ad<|Ae Z<|Bn Z<|Aa<|AS Z<|Ak<|Ad<|Ab Z<|AcT Z<|YB Z Z (by omega) (by omega)<|Ep Z (by omega) (by omega)<|Ab Z<|Aa<|Ad<|Am Z ?_)
 rw[hm]
 refine B7 [_] (h4 hp4) Z Z ?_
 (refine Ab Z<|Aa<|Ad<|Am Z<|Am Z<|Aj Z<|Aj Z<|Ab Z ?_)
 refine AY [] (Xd h5 (M:=m0) hg.ok (by omega) hp4 hf2 ht2) Z Z (fun v d3 L5 hl3 ⟨_,rv,L6,m,e1,hrv,e2,hp6,hm6⟩=>?_)
 subst e1;subst e2
 have hR:=Tw (fr:=fr) (to:=to) (M:=m0) (l:=l)
 have hRl:=Acj (fr:=fr) (to:=to) (m:=m0) (l:=l)
 have hRs:∀x∈BA fr to m0 l,x∈l:=fun x hx=>(List.mem_filter.1 (Ahy hx)).1
 have hkv:=hg.kv
 generalize BA fr to m0 l=R at hrv hR hp6 hm6 hRl hRs
 obtain⟨ra,rc,rfl⟩:=hrv.val
 have hl5:=RSl.mono (R:=RKv) Dr hl hl3
 have hf5:=RSl.mono (R:=AH) AL hf2 hl3
 have ht5:=RSl.mono (R:=AH) AL ht2 hl3
 (refine AT Z<|Ao Z Z<|Ao Z Z<|Aj Z<|Ab Z<|Aa<|Ag<|Ad<|Ab Z<|AO Z Z<|Aa<|Ar Z (by omega)<|Ak<|Ad<|Aj Z<|Aj Z<|Bj Z (by assumption)<|Aj Z<|Bj Z (by assumption)<|Ab Z ?_)
 refine Bl Z (h6 (fr:=fr) (to:=to) (most:=m0) hl5 hfl htl (by omega) (by omega) (by omega)) (fun v d4 L7 hl4 ⟨hle4,q7,hv⟩=>?_)
 subst q7
 rw[hR] at hv
 obtain⟨va,vc,rfl⟩:=hv.val
 clear hR
 refine BE Z (h7 hv (by omega)) ?_
 (refine AT Z<|Ao Z Z<|Ao Z Z<|Ab Z<|Ab Z<|Aa<|Ad<|Am Z ?_)
 have hcp:=Xb (l:=R) (fun x hx=>(hkv x (hRs x hx)).2)
 have hm7:t.height*(2+R.length)≤2000*82:=Nat.mul_le_mul hth (by omega)
 have hm8:((t.height:Int)+1)*(2+(R.length:Int))=((t.height*(2+R.length)+(2+R.length):Nat):Int):=by
  rw[Int.add_mul,Int.one_mul,Ajt,Int.natCast_mul,Ajt];rfl
 generalize t.height*(2+R.length)=X at hm6 hm7 hm8
 rw[Nat.add_assoc] at hp6
 refine B7 [_] (h4 (hp6.mono hl4)) Z Z ?_
 (apply Ab;rfl)
 refine AcF (a:=n) (n:=m+cpL R) (by omega) Z Z ?_
 (apply Am;rfl)
 refine B7 [] (h8 (t:=t) (L:=L6)) Z Z ?_
 (refine AM Z Z (by omega) (by omega)<|Aj Z<|AI Z<|AM Z Z (by omega) (by omega)<|Il Z Z (by omega) (by omega)<|Ab Z<|AM Z Z (by omega) (by omega)<|Ga Z Z<|Ae Z<|Aa<|Ap ?_)
 have hb:decide (((m+cpL R:Nat):Int)≤((t.height:Int)+1)*(2+(R.length:Int))+(cpL R:Nat))=true:=decide_eq_true (by rw[hm8];omega)
 exact BO (by show Value.bool _=_;rw[←hb]) (Afg _) Z
end Go.Gk.Tre
end
