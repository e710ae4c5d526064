/-
  Our own texts, one behind the other: GkXS GkXT GkTrArg.
-/
import Derived.Test.YteekdjalpmjdhaaGreatPcH
set_option linter.defProp false
set_option linter.unusedVariables false
set_option linter.unusedSimpArgs false
open List.Sublist renaming refl→Afa
open List renaming take_succ_eq_append_getElem→Afw,take_length→Agz,map_append→Ahk
open Nat renaming le_of_ble_eq_true→Aff
section
namespace Go.Gk.Tre
open Go Go.Gk Go.Gk.Dev Go.Gk.Cch Go.Gk.Pgr Go.Gk.Chn Go.Gk.Node
attribute [local irreducible] gwp gws xwp
abbrev lkS(l:List KV):List (List UInt8):=l.map (·.1)
abbrev lvS(l:List KV):List (List UInt8):=l.map fun x=>0::x.2
abbrev Dr(l:List KV):AB:=⟨true,lkS l,lvS l,[]⟩
def KM(P:Program)(f:FuncId):Prop:=∀{d s dv pv w L l},PgT d s dv pv L→RSl 2 RBp d w l→l≠[]→l.length≤100→(∀x∈l,x.2.length≤15)→(∀i,i<l.length→Bt (Dr (l.take (i+1)))=true)→(Bg s (-1) (Dr l)).2.2=0→
 Ao P f [pv,w] d L (Ret fun v d' L'=>Le d d'∧∃u k,v=.tuple #[u,vZ 0]∧RSl 2 RLd d' u [((Bg s (-1) (Dr l)).2.1,k)]∧PgT d' (Bg s (-1) (Dr l)).1 dv pv L')
structure LSS where
 i:Nat
 ka:Option Addr
 kc:Nat
 va:Option Addr
 vc:Nat
 oa:Option Addr
 on:Nat
 oc:Nat
set_option maxRecDepth 4000 in
set_option maxHeartbeats 2000000 in
def Vj{P f f1 f2 f3}(hd:Jj P f=some (Sr f1 f2 f3))(h1:Ro P f1)(h2:IV P f2)(h3:UH P f3):KM P f:=by
 intro d s dv pv w L l hp hw hne hll hsh hrt hpz;obtain⟨bp,rfl⟩:=hp.ptr;obtain⟨a,c,rfl⟩:=hw.val;refine Bj hd ?_;apply Aw;apply Av;refine B1 d (emp::emp::L) (Vs.emp.trans Vs.emp)<|Ae Z<|A7 Z<|Ae Z<|Bo<|BY Z<|B8 (fun _ _=>?_);rename_i b7 T7;refine Ft (cs:=[.bool true,nV,nV,nV]) 0 Z Z Z Z Z Z<|BG<|AU Z<|Aq<|Cs (α:=LSS) (fun x=>[(0,pZ bp),(1,.slice a l.length c),(6,.slice x.oa x.on x.oc),(7,pZ b7),(8,vZ x.i)])
  (fun x d' L'=>Le d d'∧((x.i≤l.length∧x.oa=none∧x.on=0∧x.oc=0∧∃hk hv Lp,L'=bx b7 T7 [.bool true,.slice x.ka x.i x.kc,.slice x.va x.i x.vc,nV]::hk::hv::Lp∧PgT d' s dv (pZ bp) Lp∧
    Ai 1 RBs d' (.slice x.ka x.i x.kc) (lkS (l.take x.i)) hk∧Ai 1 RBs d' (.slice x.va x.i x.vc) (lvS (l.take x.i)) hv)∨
    (∃k x1 x2 x3 ro Lp,L'=ro::x1::x2::x3::Lp∧x.i=l.length+1∧Ai 2 RLd d' (.slice x.oa x.on x.oc) [((Bg s (-1) (Dr l)).2.1,k)] ro∧PgT d' (Bg s (-1) (Dr l)).1 dv (pZ bp) Lp)))
  (fun x=>l.length+1 - x.i) ⟨0,none,0,none,0,none,0,0⟩ ⟨Z,Z,Z,Z,Z,trivial⟩ ⟨Le.refl _,.inl ⟨Nat.zero_le _,Z,Z,Z,emp,emp,L,Z,hp,Ai.nil,Ai.nil⟩⟩ ?_
 rintro⟨i,ka,kc,va,vc,oa,on,oc⟩ ρ d' L' ⟨hle,hst⟩;simp only at hst⊢;rcases hst with ⟨hil,rfl,rfl,rfl,hk,hv,Lp,rfl,hp,gk,gv⟩|⟨k,x1,x2,x3,ro,Lp,rfl,hil,hro,hp6⟩
 ·have hkl:(lkS (l.take i)).length=i:=by simp;omega
  have hvl:(lvS (l.take i)).length=i:=by simp;omega
  by_cases hlt:i<l.length
  ·have hx3:=hsh _ (List.getElem_mem hlt);have hr:=hrt i hlt;have hks:lkS (l.take (i+1))=lkS (l.take i)++[l[i].1]:=by rw[lkS,Afw hlt,Ahk];rfl
   have hvs:lvS (l.take (i+1))=lvS (l.take i)++[0::l[i].2]:=by rw[lvS,Afw hlt,Ahk];rfl
   have hc:Cb s l[i].2=(s,0::l[i].2,0):=by unfold Cb;rw[if_pos hx3]
   have hw1:RSl 2 RBp d' (.slice a l.length c) l:=RSl.mono (R:=RBp) Em hw hle;(refine AZ<|Ab Z<|Ae Z<|AA Z<|G3 Z Z<|A5 Z<|AH<|Aw<|Aq<|Ak<|Bk 0 Z Z Z<|B8 (fun _ _=>?_));rename_i b9 T9;refine Ft (cs:=[.bool true,.slice ka i kc,.slice va i vc,nV]) 0 Z Z Z Z Z Z<|BG<|Ab Z<|Ae Z<|AA Z<|Au Z Z<|A5 Z<|A3 Z<|Ae Z<|Ab Z<|Bq (m:=i) Z hw1 Z Z hlt (fun b o cs hcl hdc ⟨kv,vv,q,hkv,hvv⟩=>?_);subst q;refine Am Z<|Ah Z (Cr (by assumption) Z)<|A0 [_,_,_,_] (h1 hp hvv (by omega)) Z Z (fun v d2 L2 hl ⟨_,u,e1,hu,hp2⟩=>?_);rw[hc] at e1 hu hp2;have e1:v=.tuple #[u,vZ 0]:=e1;subst e1;have hu:Ay d2 u (0::l[i].2):=hu;have hp2:PgT d2 s dv (pZ bp) L2:=hp2;obtain⟨ua,uc,rfl⟩:∃ua uc,u=.slice ua (l[i].2.length+1) uc:=hu.val;have gk2:=gk.DY hl;have gv2:=gv.DY hl;clear hc hrt hsh;refine AO Z<|AW Z Z Z Z<|Ae Z<|AR Z<|Ab Z<|AJ Z Z<|AT Z<|Aw<|BE [_,_] (hk::hv::L2) Z<|Am Z<|Ah Z (AG 1 Z Z)<|Ae Z<|Ab Z<|Bq (m:=i) Z (RSl.mono (R:=RBp) Em hw1 hl) Z Z hlt (fun b2 o2 cs2 hcl2 hdc2 ⟨k2,v2,q,hk2,hv2⟩=>?_);subst q;obtain⟨xa,xc,rfl⟩:=hk2.val;refine Am Z<|Ah Z (Cr (by assumption) Z)<|Am Z<|Ah Z (AG 1 Z Z)<|Ae Z<|Gh (α:=Nat×TypeId) (β:=Option Addr×Nat×Aa) [(0,pZ bp),(1,.slice a l.length c),(6,nV),(7,pZ b7),(8,vZ i),(9,pZ b9),(50,.slice va i vc)]
    (fun x=>[(52,.slice (some ⟨x.1,0,none⟩) 1 1)]) (fun x _ M=>M=[bx x.1 x.2 [.slice ua (l[i].2.length+1) uc]])
    (fun y=>[(48,.slice y.1 (i+1) y.2.1),(54,.pointer (some ⟨b9,1,none⟩))])
    (fun y d' M=>Ai 1 RBs d' (.slice y.1 (i+1) y.2.1) (lkS (l.take (i+1))) y.2.2∧M=y.2.2::hv::L2) [] _ Z
    (fun x d d' M hl h=>h) (fun y d d' M hl h=>⟨h.1.DY hl,h.2⟩) (fun x=>Z) (fun y=>Z) Z ⟨Z,Z,Z,Z,Z,Z,Z,trivial⟩ ?_ ?_ ?_
   ·refine DN (v0:=.slice ua (l[i].2.length+1) uc) Z Z (fun b52 T52=>?_);(apply A8);exact⟨_,Z,(b52,T52),⟨Z,trivial⟩,Z⟩
   ·refine DN (v0:=.slice xa l[i].1.length xc) Z Z (fun b47 T47=>?_);refine D4 (R:=RBs) (ys:=[l[i].1]) 0 Z Z gk2 Z (Ai.EL (R:=RBs) (x:=l[i].1) Z ⟨_,Z,hk2⟩) FA (by omega) (by rw[hkl];simp;omega) (by rw[hkl];simp;omega) (fun v' hk' o=>?_);rw[←hks] at o;obtain⟨ga,gc,rfl⟩:∃ga gc,v'=.slice ga (i+1) gc:=by
     obtain⟨ga,gc,q⟩:=o.val;exact⟨ga,gc,by rw[q];congr 1;simp;omega⟩
    (refine Am Z<|A8 ?_);exact⟨_,Z,(ga,gc,hk'),⟨Z,Z,trivial⟩,o,Z⟩
   ·rintro⟨b52,T52⟩ ⟨ga,gc,hk'⟩ ρ2 d3 M1 M2 hl3 hM1 ⟨hg1,hM2⟩;subst hM1;subst hM2;simp only at hg1⊢;refine D4 (R:=RBs) (ys:=[0::l[i].2]) 1 Z Z (gv2.DY hl3) Z (Ai.EL (R:=RBs) (x:=0::l[i].2) Z ⟨_,Z,RSl.mono (R:=Ax) AF hu hl3⟩) FA (by omega) (by rw[hvl];simp;omega) (by rw[hvl];simp;omega) (fun v' hv' ov=>?_);rw[←hvs] at ov;obtain⟨za,zc,rfl⟩:∃za zc,v'=.slice za (i+1) zc:=by
     obtain⟨ga,gc,q⟩:=ov.val;exact⟨ga,gc,by rw[q];congr 1;simp;omega⟩
    apply Cw;refine Bb 0 [.bool true,.slice ga (i+1) gc,.slice va i vc,nV] Z Z Z Z (Aff Z) Z Z ?_;(apply Am;rfl);refine Bb 0 [.bool true,.slice ga (i+1) gc,.slice za (i+1) zc,nV] Z Z Z Z (Aff Z) Z Z<|Bo<|Bk 0 Z Z Z<|B1 d3 (bx b9 T9 [.bool true,.slice ga (i+1) gc,.slice za (i+1) zc,nV]::bx b7 T7 [.bool true,.slice ka i kc,.slice va i vc,nV]::hk'::hv'::L2) (Vs.refl _ _) ?_;have hlk:(lkS (l.take (i+1))).length=i+1:=by simp;omega
    have hlv:(lvS (l.take (i+1))).length=i+1:=by simp;omega
    refine IY (vs:=[.agg [.bool true,.slice ga (i+1) gc,.slice za (i+1) zc,nV].toArray]) (v:=.bool (Bt (Dr (l.take (i+1))))) Z (fun d4 hl4 hL4=>h2 (cs:=[.bool true,.slice ga (i+1) gc,.slice za (i+1) zc,nV]) (n:=Dr (l.take (i+1))) ⟨_,_,_,Z,Ai.rsl (R:=RBs) hg1 CY (by omega) hl4 (hL4 _ (by simp)),Ai.rsl (R:=RBs) ov CY (by omega) hl4 (hL4 _ (by simp)),RSl.nil⟩ ((H4 hr).1.small (by omega)).1) ?_;rw[hr];clear hlk hlv hr;refine B7 Z<|Ak<|Bk 0 Z Z Z<|B1 d3 (bx b7 T7 [.bool true,.slice ka i kc,.slice va i vc,nV]::hk'::hv'::L2) (Vs.drop (.cons _ (Afa _)))<|Ft (cs:=[.bool true,.slice ga (i+1) gc,.slice za (i+1) zc,nV]) 0 Z Z Z Z Z Z<|An<|Bl<|Av<|Ab Z<|A4 Z Z<|AU Z ?_;exact⟨⟨i+1,ga,gc,za,zc,none,0,0⟩,(by show l.length+1 - (i+1)<l.length+1 - i;omega),⟨Z,Z,Z,Z,Z,trivial⟩,(hle.trans hl).trans hl3,.inl ⟨hlt,Z,Z,Z,hk',hv',L2,Z,hp2.mono hl3,hg1,ov⟩⟩
  ·have:i=l.length:=by omega
   subst this;rw[Agz] at gk gv hkl hvl;obtain⟨j,hj⟩:∃j,l.length=j+1:=⟨l.length - 1,by have:=List.length_pos_iff.2 hne;omega⟩
   have hr:Bt (Dr l)=true:=by have:=hrt j (by omega);rwa [←hj,Agz] at this
   obtain⟨d4,v1,hl4,hL4⟩:=Vs.Ii d' [hk,hv];have hk5:DG d4 (.slice ka l.length kc) (lkS l):=Ai.rsl (R:=RBs) gk CY (by omega) hl4 (hL4 _ (by simp));have hv5:DG d4 (.slice va l.length vc) (lvS l):=Ai.rsl (R:=RBs) gv CY (by omega) hl4 (hL4 _ (by simp));have hp4:=hp.mono hl4;have hk0:0<(lkS l).length:=by omega
   clear hrt hsh;apply Aw;apply Aw;apply Av;refine B1 d4 (bx b7 T7 [.bool true,.slice ka l.length kc,.slice va l.length vc,nV]::Lp) ((Vs.perm (List.Perm.append_right Lp (List.perm_append_comm (l₁:=[_]) (l₂:=[hk,hv])))).trans (Vs.app v1 _))<|Ab Z<|Ae Z<|AA Z<|G3 Z Z<|A5 Z<|AH<|Aw<|Aq<|Ak<|Bk 0 Z Z Z<|B8 (fun _ _=>?_);rename_i b9 T9;refine Ft (cs:=[.bool true,.slice ka l.length kc,.slice va l.length vc,nV]) 0 Z Z Z Z Z Z<|BG<|Ab Z<|Ae Z<|AA Z<|Au Z Z<|AT Z<|Aw<|BE [_,_] Lp Z ?_;(refine Ag Z<|Bk 1 Z Z Z<|Am Z<|Ah Z (AG 1 Z Z)<|Bq (sz:=1) (R:=RBs) (by rfl) (by assumption) (by rfl) Z (by omega) ?_;rintro _ _ _ _ _ ⟨_,rfl,_⟩;apply Ah;rfl;exact BO (by assumption) Z);have hq:=‹Ay d4 _ (lkS l)[0]›;obtain⟨fa,fc,rfl⟩:=hq.val;generalize (lkS l)[0]=k0 at hq⊢;refine Gh (α:=Nat×TypeId) (β:=Unit) [(0,pZ bp),(1,.slice a l.length c),(6,nV),(7,pZ b7),(8,vZ l.length),(9,pZ b9)]
    (fun x=>[(12,.pointer (some ⟨x.1,0,none⟩))]) (fun x _ M=>M=[bx x.1 x.2 [vZ 0,nV]])
    (fun _=>[(67,.agg [vZ (Bg s (-1) (Dr l)).2.1,.slice fa k0.length fc].toArray),(68,vZ 0)])
    (fun _ d' M=>PgT d' (Bg s (-1) (Dr l)).1 dv (pZ bp) M) [] _ Z
    (fun x d d' M hl h=>h) (fun y d d' M hl h=>h.mono hl) (fun x=>Z) (fun y=>Z) Z ⟨Z,Z,Z,Z,Z,Z,trivial⟩ ?_ ?_ ?_
   ·refine DD (fun b12 T12=>?_);(apply A8);exact⟨_,Z,(b12,T12),⟨Z,trivial⟩,Z⟩
   ·refine A0 [] (h3 hp4 (n:=Dr l) (cs:=[.bool true,.slice ka l.length kc,.slice va l.length vc,nV]) ⟨_,_,_,Z,hk5,hv5,RSl.nil⟩ ((H4 hr).1.small (by omega)).1 hq) Z Z (fun v d6 L6 hl6 ⟨_,q,u,e1,hq1,_,hp6⟩=>?_);obtain⟨rfl,rfl⟩:=hq1 hpz;rw[hpz] at e1;subst e1;(refine AO Z<|AW Z Z Z Z<|A8 ?_);exact⟨_,Z,(),⟨Z,Z,trivial⟩,hp6⟩
   ·rintro⟨b12,T12⟩ _ ρ2 d6 M1 M2 hl6 hM1 hp6;subst hM1;simp only at hp6⊢;generalize Bg s (-1) (Dr l)=W at hp6 hpz⊢;refine Ft (cs:=[vZ W.2.1,.slice fa k0.length fc]) 0 Z Z Z Z Z Z ?_;have hq6:Ay d6 (.slice fa k0.length fc) k0:=RSl.mono (R:=Ax) AF hq hl6;refine Ab Z<|A8<|AZ<|Ab Z<|AJ Z Z<|AT Z<|Br Z<|Bk 2 Z Z Z<|B1 d6 _ Vs.emp<|Aec (u:=vZ W.2.1) (v:=.slice fa k0.length fc) Z (fun b74 T74=>?_);refine D4 (R:=RLd) (xs:=[]) (ys:=[(W.2.1,k0)]) 0 Z Z Ai.nil Z (Ai.EL (R:=RLd) (x:=(W.2.1,k0)) Z ⟨_,Z,hq6⟩) Aav (by omega) (by simp) (by simp) (fun v' ro' o=>?_);obtain⟨pa,pc,rfl⟩:=o.val;(refine Ae Z<|Bo<|Am Z<|Ah Z (AG 2 Z Z)<|AA Z<|A7 Z<|Ab Z<|Ae Z<|AA Z<|Au Z Z<|AT Z<|Av<|Ab Z<|A4 Z Z<|AU Z ?_);exact⟨⟨l.length+1,ka,kc,va,vc,pa,1,pc⟩,(by show l.length+1 - (l.length+1)<l.length+1 - l.length;omega),⟨Z,Z,Z,Z,Z,trivial⟩,(hle.trans hl4).trans hl6,.inr ⟨k0,_,_,_,ro',M2,Z,Z,o,hp6⟩⟩
 ·refine AZ<|Ab Z<|Ae Z<|AA Z<|G3 Z Z<|EY Z<|Bl<|Br Z<|Ae Z<|AS Z<|A6 [.slice oa on oc,vZ 0] ⟨Af Z,Af Z,trivial⟩ (d':=join d' ro) (L':=Lp) ((Vs.drop (.cons_cons _ (.cons _ (.cons _ (.cons _ (Afa _)))))).trans Vs.freeze) ⟨hle.trans (Le.Ar _ _),_,k,Z,Ai.rsl (R:=RLd) hro Acj (by omega) (Le.Ar _ _) (Le.Bc _ _),hp6.mono (Le.Ar _ _)⟩
def ON(P:Program)(f:FuncId):Prop:=∀{d s dv pv w L l},PgT d s dv pv L→RSl 2 RBp d w l→l.length≤100→
 (FI l≠0→Ao P f [pv,w] d L (Ret fun v d' L'=>Le d d'∧v=.tuple #[.pointer none,vZ (FI l)]∧PgT d' s dv pv L'))∧
 (FI l=0→l≠[]→(∀x∈l,x.2.length≤15)→(∀i,i<l.length→Bt (Dr (l.take (i+1)))=true)→(Bg s (-1) (Dr l)).2.2=0→
  Ao P f [pv,w] d L (Ret fun v d' L'=>Le d d'∧∃L2 bt Tt,v=.tuple #[pZ bt,vZ 0]∧L'=tb bt Tt pv (Bg s (-1) (Dr l)).2.1 1 (l.length:Nat)::L2∧PgT d' (Bg s (-1) (Dr l)).1 dv pv L2))
set_option maxRecDepth 4000 in
set_option maxHeartbeats 1000000 in
def XJ{P f f1 f2 f3 f4 f5 f6 f7}(hd:dec P f=some (Vu f1 f2 f3 f4 f5 f6 f7))(h1:Ij P f1)(h2:O7 P f2)(h4:KM P f4)(h7:IS P f7):ON P f:=by
 intro d s dv pv w L l hp hw hll;obtain⟨bp,rfl⟩:=hp.ptr;obtain⟨a,c,rfl⟩:=hw.val;refine⟨fun hwr=>?_,fun hwr hne hsh hrt hpz=>?_⟩
 ·refine Bj hd<|A3 Z<|A7 Z<|Ag Z<|A0 [] (W7 h1 hp) Z Z (fun r d2 L2 hl2 ⟨e1,_,hm⟩=>?_);subst e1;have hw2:RSl 2 RBp d2 (.slice a l.length c) l:=RSl.mono (R:=RBp) Em hw hl2;obtain⟨bm,rfl⟩:∃bm,r=pZ bm:=by obtain⟨bm,_,_,_,_,_,q,_⟩:=hm;exact⟨bm,q⟩
  refine Ag Z<|BG<|Ag Z<|CG Z Z<|Be Z<|AZ<|Ae Z<|BH Z (h2 hw2)<|A7 Z<|Ab Z<|AJ Z Z<|A5 Z<|AE Z<|Ag Z<|AS Z<|A6 [.pointer none,vZ (FI l)] ⟨Af Z,Af Z,trivial⟩ (d':=d2) (L':=L2) (Vs.refl _ _) ⟨hl2,Z,hp.mono hl2⟩
 ·refine Bj hd<|A3 Z<|A7 Z<|Ag Z<|A0 [] (W7 h1 hp) Z Z (fun r d2 L2 hl2 ⟨e1,_,hm⟩=>?_);subst e1;have hp2:=hp.mono hl2;have hw2:RSl 2 RBp d2 (.slice a l.length c) l:=RSl.mono (R:=RBp) Em hw hl2;obtain⟨bm,rfl⟩:∃bm,r=pZ bm:=by obtain⟨bm,_,_,_,_,_,q,_⟩:=hm;exact⟨bm,q⟩
  refine Ag Z<|BG<|Ag Z<|CG Z Z<|Be Z<|AZ<|Ae Z<|BH Z (h2 hw2) ?_;rw[hwr];have hl0:¬l.length=0:=fun q=>hne (List.eq_nil_of_length_eq_zero q);have hpg:=XW hp.Fc hpz;refine A7 Z<|Ab Z<|AJ Z Z<|AT Z<|AZ<|Ae Z<|AA Z<|AI Z Z<|AT Z<|A3 Z<|Ae Z<|A0 [] (h4 hp2 hw2 hne hll hsh hrt hpz) Z Z (fun r d3 L3 hl3 ⟨_,u,k,e1,hu,hp3⟩=>?_);subst e1;generalize Bg s (-1) (Dr l)=W at hp3 hu hpg⊢;obtain⟨ua,uc,rfl⟩:∃ua uc,u=.slice ua 1 uc:=hu.val;clear hrt hsh hpz;refine AO Z<|AW Z Z Z Z<|Ae Z<|A7 Z<|AU Z<|Aw<|Aq<|Cs (α:=Unit) (fun x=>[(0,pZ bp),(1,.slice a l.length c),(8,.slice ua 1 uc),(9,vZ 0),(10,vZ 1)])
    (fun _ d' L'=>d'=d3∧L'=L3) (fun _=>0) () ⟨Z,Z,Z,Z,Z,trivial⟩ ⟨Z,Z⟩ ?_
  rintro _ ρ d' L' ⟨rfl,rfl⟩;refine AZ<|Ab Z<|AI Z Z<|Ad Z<|Bx Z<|Ac Z<|Ae Z<|Ac Z<|AA Z<|Ac Z<|Bu Z Z<|As Z Z<|EY Z<|Bl<|AZ<|Ab Z<|AJ Z Z<|AT Z<|A3 Z<|Ae Z<|Bq (R:=RLd) (m:=0) Z hu Z Z (by simp) (fun b o cs hcl hdc ⟨u0,q0,hu0⟩=>?_);subst q0;obtain⟨n4,hpn⟩:=hp3;refine Am Z<|Ah Z (Cr (by assumption) Z)<|Ab Z<|Ae Z<|AA Z<|A0 [] (h7 (root:=W.2.1) (height:=1) (count:=(l.length:Nat)) hpn (by omega) (by omega) (by omega) (by omega) (by omega) (by omega)) Z Z (fun r d5 L5 hl5 ⟨_,hR⟩=>?_);have hob:CE W.2.1 1 (l.length:Nat)=true:=by
   simp only[CE,Bool.or_eq_true,Bool.and_eq_true,decide_eq_true_eq];omega
  rcases hR with ⟨_,bt,Tt,rfl,rfl⟩|⟨q,_⟩
  ·refine AW Z Z Z Z<|Ag Z<|AS Z<|A6 [pZ bt,vZ 0] ⟨Af Z,Af Z,trivial⟩ (d':=d5) (L':=tb bt Tt (pZ bp) W.2.1 1 (l.length:Nat)::L') (Vs.refl _ _) ⟨(hl2.trans hl3).trans hl5,L',bt,Tt,Z,Z,(show PgT d' W.1 dv (pZ bp) L' from⟨n4,hpn⟩).mono hl5⟩
  ·rw[hob] at q;cases q
def Aa6:∀i,i<wl2.length→Bt (Dr (wl2.take (i+1)))=true:=by decide+kernel
def YG:(Bg (pdN 9) (-1) (Dr wl2)).2.2=0:=by decide+kernel
def wlT:TD:=⟨(Bg (pdN 9) (-1) (Dr wl2)).1,(Bg (pdN 9) (-1) (Dr wl2)).2.1,1,2⟩
def Aey:Bt (Dr wl2)=true:=by decide+kernel
def TN{s}:∀{l},(∀x∈l,x.2.length≤15)→Lf s (lkS l) (lvS l) l []
 |[],_=>⟨Z,Z⟩
 |x::l,h=>⟨x.2,l,[],[],Z,Z,.inl ⟨h x (List.mem_cons_self ..),Z,Z⟩,TN fun y hy=>h y (List.mem_cons_of_mem _ hy)⟩
def Aax{s l}(hG:Pgr.Good s)(hr:Bt (Dr l)=true)(hne:l≠[])(hsh:∀x∈l,x.2.length≤15)(hz:(Bg s (-1) (Dr l)).2.2=0):Tok ⟨(Bg s (-1) (Dr l)).1,(Bg s (-1) (Dr l)).2.1,1,l.length⟩ l [(Bg s (-1) (Dr l)).2.1]:=by
 rcases NJ hG hr with ⟨h1,h2,h3⟩|⟨h1,_⟩
 ·exact⟨h2.gd,by simp,Z,.inr ⟨0,Z,Dr l,[],h3,fun q=>hne (List.map_eq_nil_iff.1 q),Z,.mkl Z (TN hsh)⟩⟩
 ·rw[hz] at h1;exact absurd h1 (by decide)
def AdT(hG:Pgr.Good (pdN 9)):Tok wlT wl2 [wlT.root]:=Aax hG Aey (by decide) (by decide) YG
set_option maxRecDepth 4000 in
set_option maxHeartbeats 1000000 in
def Va{P f f1 f2 f3 f4}(hd:dec P f=some (K7 f1 f2 f3 f4))(h1:JE P f1)(h2:ON P f2)(h3:Jd P f3)(h4:Ha P f4):WH P f:=by
 intro d;refine Bj hd<|Ak<|AV Z<|Ak<|CX (L:=[]) (h1 (n:=9) (by omega) (by omega)) Z (fun u d1 L1 hl1 ⟨bt,Tt,bd,bp,L2,q1,q2,hp⟩=>?_);subst q1;subst q2;have hG:Pgr.Good (pdN 9):=hp.Fc;refine AO Z<|AW Z Z Z Z<|Ag Z<|Ag Z<|BG<|Ag Z<|CG Z Z<|Be Z<|A3 Z<|DN (v0:=Al 1) Z Z (fun b1 T1=>?_);refine B1 (join d1 (bx b1 T1 [Al 1])) _ Vs.freeze ?_;have k1:Ay (join d1 (bx b1 T1 [Al 1])) _ [1]:=Il 1;have hp:=hp.mono (Le.Ar d1 (bx b1 T1 [Al 1]));generalize join d1 (bx b1 T1 [Al 1])=d2 at k1 hp;refine DN (v0:=Al 9) Z Z (fun b2 T2=>?_);refine B1 (join d2 (bx b2 T2 [Al 9])) _ Vs.freeze ?_;have k2:Ay (join d2 (bx b2 T2 [Al 9])) _ [9]:=Il 9;have hp:=hp.mono (Le.Ar d2 (bx b2 T2 [Al 9]));have k1:=RSl.mono (R:=Ax) AF k1 (Le.Ar d2 (bx b2 T2 [Al 9]));generalize join d2 (bx b2 T2 [Al 9])=d3 at k1 k2 hp;refine Ug Z Z<|DN (v0:=Al 2) Z Z (fun b3 T3=>?_);refine B1 (join d3 (bx b3 T3 [Al 2])) _ Vs.freeze ?_;have k3:Ay (join d3 (bx b3 T3 [Al 2])) _ [2]:=Il 2;have hp:=hp.mono (Le.Ar d3 (bx b3 T3 [Al 2]));have k1:=RSl.mono (R:=Ax) AF k1 (Le.Ar d3 (bx b3 T3 [Al 2]));have k2:=RSl.mono (R:=Ax) AF k2 (Le.Ar d3 (bx b3 T3 [Al 2]));generalize join d3 (bx b3 T3 [Al 2])=d4 at k1 k2 k3 hp;refine DN (v0:=Al 8) Z Z (fun b4 T4=>?_);refine B1 (join d4 (bx b4 T4 [Al 8])) _ Vs.freeze ?_;have k4:Ay (join d4 (bx b4 T4 [Al 8])) _ [8]:=Il 8;have hp:=hp.mono (Le.Ar d4 (bx b4 T4 [Al 8]));have k1:=RSl.mono (R:=Ax) AF k1 (Le.Ar d4 (bx b4 T4 [Al 8]));have k2:=RSl.mono (R:=Ax) AF k2 (Le.Ar d4 (bx b4 T4 [Al 8]));have k3:=RSl.mono (R:=Ax) AF k3 (Le.Ar d4 (bx b4 T4 [Al 8]));generalize join d4 (bx b4 T4 [Al 8])=d5 at k1 k2 k3 k4 hp;refine Ug Z Z<|YO Z Z (fun b5 T5=>?_);refine B1 (join d5 (bx b5 T5 _)) _ Vs.freeze ?_;have hw:RSl 2 RBp (join d5 (bx b5 T5 [.slice (some ⟨b1,0,none⟩) 1 1,.slice (some ⟨b2,0,none⟩) 1 1,.slice (some ⟨b3,0,none⟩) 1 1,.slice (some ⟨b4,0,none⟩) 1 1])) _ wl2:=
  AbO (RSl.mono (R:=Ax) AF k1 (Le.Ar _ _)) (RSl.mono (R:=Ax) AF k2 (Le.Ar _ _)) (RSl.mono (R:=Ax) AF k3 (Le.Ar _ _)) (RSl.mono (R:=Ax) AF k4 (Le.Ar _ _)) (Le.Bc _ _)
 have hp:=hp.mono (Le.Ar d5 (bx b5 T5 [.slice (some ⟨b1,0,none⟩) 1 1,.slice (some ⟨b2,0,none⟩) 1 1,.slice (some ⟨b3,0,none⟩) 1 1,.slice (some ⟨b4,0,none⟩) 1 1]));generalize join d5 (bx b5 T5 _)=d6 at hw hp;clear k1 k2 k3 k4;have hp:=PgT.of hp;refine B1 d6 L2 (Vs.drop (.cons _ (Afa _)))<|A0 [] ((h2 hp hw (by decide)).2 ZK (by decide) (by decide) Aa6 YG) Z Z (fun v d7 L7 hl7 ⟨_,L8,bt2,Tt2,e1,e2,hp8⟩=>?_);subst e1;subst e2;have q2:Tok wlT wl2 _:=AdT hG;have hct:=q2.ct;have hp8:PgT d7 wlT.s (pZ bd) (pZ bp) L8:=hp8;refine B1 d7 (tbD bt2 Tt2 (pZ bp) wlT::L8) (Vs.refl _ _) ?_;generalize wlT=t at q2 hp8 hct⊢;clear hw hp hG;refine AO Z<|AW Z Z Z Z<|Ag Z<|AR Z<|Ab Z<|AJ Z Z<|Ad Z<|Bs Z<|Ac Z<|Ag Z<|Ac Z<|CG Z Z<|Aj Z Z<|Be Z<|A3 Z<|Ag Z<|DN (v0:=Al 1) Z Z (fun b11 T11=>?_);refine B1 (join d7 (bx b11 T11 [Al 1])) _ Vs.freeze ?_;have k1:Ay (join d7 (bx b11 T11 [Al 1])) _ [1]:=Il 1;have hp8:=hp8.mono (Le.Ar d7 (bx b11 T11 [Al 1]));generalize join d7 (bx b11 T11 [Al 1])=d8 at k1 hp8;refine DN (v0:=Al 2) Z Z (fun b12 T12=>?_);refine B1 (join d8 (bx b12 T12 [Al 2])) _ Vs.freeze ?_;have k2:Ay (join d8 (bx b12 T12 [Al 2])) _ [2]:=Il 2;have hp8:=hp8.mono (Le.Ar d8 (bx b12 T12 [Al 2]));have k1:=RSl.mono (R:=Ax) AF k1 (Le.Ar d8 (bx b12 T12 [Al 2]));generalize join d8 (bx b12 T12 [Al 2])=d9 at k1 k2 hp8;refine A0 [] (VO h3 (M:=5) q2 (by decide) hp8 k1 k2) Z Z (fun v d10 L10 hl10 ⟨_,rv,L11,e1,hrv,e2,hp11⟩=>?_);subst e1;subst e2;rw[Ady] at hrv;obtain⟨ra,rc,rfl⟩:∃ra rc,rv=.slice ra 1 rc:=hrv.val;refine AO Z<|AW Z Z Z Z<|Ae Z<|A7 Z<|Ag Z<|Ag Z<|A0 [] (VO h3 (M:=5) q2 (by decide) hp11 RSl.nil RSl.nil) Z Z (fun v d12 L12 hl12 ⟨_,sv,L13,e1,hsv,e2,hp13⟩=>?_);subst e1;subst e2;rw[Ac8] at hsv;obtain⟨sa,sc,rfl⟩:∃sa sc,sv=.slice sa 2 sc:=hsv.val;have hrv:=RSl.mono (R:=RBp) Em hrv hl12;refine AO Z<|AW Z Z Z Z<|Ae Z<|A7 Z<|Ag Z<|DN (v0:=Al 2) Z Z (fun b21 T21=>?_);refine B1 (join d12 (bx b21 T21 [Al 2])) _ Vs.freeze ?_;have k3:Ay (join d12 (bx b21 T21 [Al 2])) _ [2]:=Il 2;have hp13:=hp13.mono (Le.Ar d12 (bx b21 T21 [Al 2]));have hrv:=RSl.mono (R:=RBp) Em hrv (Le.Ar d12 (bx b21 T21 [Al 2]));generalize join d12 (bx b21 T21 [Al 2])=d14 at k3 hp13 hrv;refine VQ Z<|DN (v0:=Al 1) Z Z (fun b22 T22=>?_);refine B1 (join d14 (bx b22 T22 [Al 1])) _ Vs.freeze ?_;have k4:Ay (join d14 (bx b22 T22 [Al 1])) _ [1]:=Il 1;have hp13:=hp13.mono (Le.Ar d14 (bx b22 T22 [Al 1]));have hrv:=RSl.mono (R:=RBp) Em hrv (Le.Ar d14 (bx b22 T22 [Al 1]));have k3:=RSl.mono (R:=Ax) AF k3 (Le.Ar d14 (bx b22 T22 [Al 1]));generalize join d14 (bx b22 T22 [Al 1])=d15 at k3 k4 hp13 hrv;refine VQ Z<|YO Z Z (fun b23 T23=>?_);refine B1 (join d15 (bx b23 T23 _)) _ Vs.freeze ?_;have hw2:RSl 2 RBp (join d15 (bx b23 T23 [.slice (some ⟨b21,0,none⟩) 1 1,nV,.slice (some ⟨b22,0,none⟩) 1 1,nV])) _ wl1:=
  AbO (RSl.mono (R:=Ax) AF k3 (Le.Ar _ _)) RSl.nil (RSl.mono (R:=Ax) AF k4 (Le.Ar _ _)) RSl.nil (Le.Bc _ _)
 have hp13:=hp13.mono (Le.Ar d15 (bx b23 T23 [.slice (some ⟨b21,0,none⟩) 1 1,nV,.slice (some ⟨b22,0,none⟩) 1 1,nV]));have hrv:=RSl.mono (R:=RBp) Em hrv (Le.Ar d15 (bx b23 T23 [.slice (some ⟨b21,0,none⟩) 1 1,nV,.slice (some ⟨b22,0,none⟩) 1 1,nV]));generalize join d15 (bx b23 T23 _)=d16 at hw2 hp13 hrv;refine A0 [_] ((h2 hp13 hw2 (by decide)).1 (by rw[RO];decide)) Z Z (fun v d17 L17 hl17 ⟨_,e1,hp18⟩=>?_);rw[RO] at e1;subst e1;have hrv:=RSl.mono (R:=RBp) Em hrv hl17;refine AO Z<|AW Z Z Z Z<|Ag Z<|A7 Z<|Ab Z<|AI Z Z<|Ad Z<|Bx Z<|Ac Z<|Ae Z<|Ac Z<|AA Z<|Ac Z<|AI Z Z<|As Z Z<|Ad Z<|Bx Z<|Ac Z<|Ae Z<|Ac Z<|Bq (R:=RBp) (m:=0) Z hrv Z Z (by decide) (fun b31 o31 cs31 hcl31 hd31 ⟨ku,vu,q31,hk31,hv31⟩=>?_);have hv31:Ay d17 vu [9]:=hv31;subst q31;obtain⟨va,vc,rfl⟩:∃va vc,vu=.slice va 1 vc:=hv31.val;have hct:t.count=2:=hct;have g4:Ea P f4 [pZ bt2] d17 (tbD bt2 Tt2 (pZ bp) t::L17) (vZ ((2:Nat):Int)):=by
  have:=h4 (d:=d17) (t:=t) (bt:=bt2) (pb:=bp) (Tt:=Tt2) (L:=L17);simpa only[hct] using this
 refine Ac Z<|Am Z<|Ac Z<|Ah Z (Cr (by assumption) Z)<|Ac Z<|Bv Z (by assumption)<|Ac Z<|Qq Z Z<|As Z Z<|Ad Z<|Nv Z (by with_reducible rfl)<|Ac Z<|Ab Z<|Ac Z<|AI Z Z<|As Z Z<|Ad Z<|Bx Z<|Ac Z<|Ae Z<|Ac Z<|AA Z<|Ac Z<|AI Z Z<|As Z Z<|Ad Z<|Bx Z<|Ac Z<|Ab Z<|Ac Z<|AI Z Z<|As Z Z<|Ad Z<|Bx Z<|Ac Z<|Ag Z<|Ac Z<|PC Z Z<|As Z Z<|Ad Z<|Ac Z<|Ag Z<|Ac Z<|B9 [] g4 Z Z<|Ac Z<|AI Z Z<|As Z Z<|Cc Z<|A6 [.bool true] ⟨Af Z,trivial⟩ (d':=d17) (L':=[]) (Vs.drop (List.nil_sublist _)) ⟨Z,Z⟩
end Go.Gk.Tre
end
section
namespace Go.Gk.Tre
open Go Go.Gk Go.Gk.Node
def AeG{l:List Value}(h:l.length=3):∃a b c,l=[a,b,c]:=by
 match l,h with
 |[a,b,c],_=>exact⟨a,b,c,Z⟩
def Ad5{H:Type}{enc:TypeId×Value→H}{P:Program}{W:World}{t ti tb ts:TypeId}{fs:Array Field}(ht:P.underlying t=some (.struct fs))(h3:P.cellsOf t=3)
  (f0:(fs[0]?).map (fun f=>(f.offset,f.type))=some (0,ti)) (f1:(fs[1]?).map (fun f=>(f.offset,f.type))=some (1,ts)) (f2:(fs[2]?).map (fun f=>(f.offset,f.type))=some (2,ts))
  (ci:P.cellsOf ti=1) (cb:P.cellsOf tb=1) (cs:P.cellsOf ts=1)
  (ui:P.underlying ti=some (.int .i64)) (ub:P.underlying tb=some (.int .u8)) (us:P.underlying ts=some (.slice tb)) (bb:1≤P.bytesOf tb):Rd enc P W t RAc:=by
 intro held fuel cs x h hw
 obtain⟨hl,hfs⟩:=X0 ht h hw
 obtain⟨k,e0⟩:=hfs 0 0 ti 1 f0 ci (YA ui)
 obtain⟨y,v,e1,hv⟩:=hfs 1 1 ts 1 f1 (by assumption) (OT us cb (by omega) bb (V3 ub))
 obtain⟨z,u,e2,hu⟩:=hfs 2 2 ts 1 f2 (by assumption) (OT us cb (by omega) bb (V3 ub))
 obtain⟨a0,a1,a2,rfl⟩:=AeG (hl.trans h3)
 simp only[List.drop,List.take] at e0 e1 e2
 obtain⟨e0, -, -⟩:=e0
 simp only[List.cons.injEq,and_true] at e0 e1 e2
 subst e0;subst e1;subst e2
 exact⟨⟨k,y,z⟩,_,_,Z,hv,hu⟩
end Go.Gk.Tre
end
