/-
  Our own texts, one behind the other: GkUD GkUE GkTZ GkUA GkUF GkWJ GkWK GkWM GkWN GkWO GkWP GkWQ GkWR GkWS GkWT GkWU GkUL GkTrArg.
-/
import Derived.Test.YteekdjalpmjdhaaGreatPrG
set_option linter.defProp false
open Nat renaming le_of_ble_eq_true→Ada,le_refl→Adi,succ_ne_zero→Aeh,zero_le→Aej,mul_one→Afn
open List.Sublist renaming refl→Adb
open Bool renaming false_eq_true→Adk,true_and→Agg
open List renaming getElem?_eq_getElem→Ade,append_assoc→Adf,mem_append→Adg,getD_eq_getElem?_getD→Adh,length_append→Adj,perm_append_comm→Adl,length_cons→Adm,eq_nil_of_length_eq_zero→Adn,mem_cons_self→Ado,mem_cons_of_mem→Adp,mem_singleton→Adq,mem_cons→Adu,mem_append_left→Adw,mem_append_right→Ady,length_take→Adz,perm_iff_count→Aeb,append_nil→Aed,count_append→Aeg,nil_append→Ael,length_nil→Aem,count_cons→Aeo,perm_middle→Aep,length_replicate→Aet,exists_cons_of_ne_nil→Aev,cons_append→Aex,getElem_of_mem→Aez,sublist_append_right→Afc,nodup_append→Afl,nil_sublist→Afm,nodup_cons→Afo,count_nil→Afs,mem_of_mem_drop→Aft,mem_map_of_mem→Agq,append_cons→Agv,flatMap_cons→Agz,drop_succ_cons→Ahc,flatMap_append→Ahd,pairwise_cons→Ahe,mem_map→Ahq,set_cons_zero→Ahz
open List.Perm renaming cons→Ads,refl→Aeq,nodup_iff→Aik
section
namespace Go.Gk.Tre
open Go Go.Gk Go.Gk.Dev Go.Gk.Cch Go.Gk.Pgr Go.Gk.Chn Go.Gk.Node
attribute [local irreducible] gwp gws xwp
variable{t:TD}{d:Ac}{bt:Nat}
section
def PgG(B:List Ac)(d:Ac)(s:PD)(dv pv:Value)(M:List Ac):Prop:=∃L,M.Perm (B++L)∧PgT d s dv pv L
section
variable {P:Program}{f:FuncId}{B:List Ac}{d:Ac}{s:PD}{dv pv:Value}{M:List Ac}{bt:Nat}{Tt:TypeId}
def PgG.mono{d'}(h:PgG B d s dv pv M)(hl:Le d d'):PgG B d' s dv pv M:=let ⟨L,p,h⟩:=h;⟨L,p,h.mono hl⟩
def PgG.ptr(h:PgG B d s dv pv M):∃b,pv=pZ b:=let ⟨_,_,h⟩:=h;h.ptr
def PgG.Fm(h:PgG B d s dv pv M):Pgr.Good s:=let ⟨_,_,h⟩:=h;h.Fm
def VW{A L args R R'}(p:M.Perm (B++L))(h:Av P f args d (A::L) (Ret R))(hR:∀v d' A',Le d d'→R v d' A'→∃L',(A'++B).Perm L'∧R' v d' L'):Av P f args d (A::M) (Ret R'):=
 Av.pre (Ads A (p.trans Adl)) (Av.W6 h hR)
def NQ{L2}(h:PgT d s dv pv L2):PgG B d s dv pv (L2++B):=⟨L2,Adl,h⟩
def Acy(h:H4 P f){r h' c k:Int}{cs}{n:Az}(hp:PgG B d s dv pv M)(hn:CG d cs n)(hz:AY n≤1000000000000):
  Av P f [pZ bt,vZ k,.agg cs.toArray] d (tb bt Tt pv r h' c::M) (Ret fun v d' L'=>Le d d'∧v=.tuple #[vZ (Br s k n).2.1,vZ (Br s k n).2.2]∧∃L2,L'=tb bt Tt pv r h' c::L2∧PgG B d' (Br s k n).1 dv pv L2):=by
 obtain⟨L,p,hp⟩:=hp
 exact VW p (h (Tt:=Tt) hp hn hz) (fun v d' A' _ ⟨h1,h2,L2,h3,h4⟩=>⟨tb bt Tt pv r h' c::(L2++B),by rw[h3];exact Aeq _,h1,h2,_,rfl,NQ h4⟩)
def Ac4(hf:OK P f)(x:Nat){w cv}{r h c k:Int}{key cell}(hx:x≤1000000)(hp:PgG B d s dv pv M)(hk:AM d w key)(hc:AM d cv cell)(h1:key.length≤1000)(h2:cell.length≤1000)(h3: -1≤k)(h4:k≤16384):
  Av P f [pZ bt,vZ k,vZ ((x+1:Nat):Int),w,cv] d (tb bt Tt pv r h c::M) (Ret fun v d' L'=>Le d d'∧∃ua uc L2,v=.tuple #[mdV (Cb s k key cell (x+1)).2.1 ua uc,.bool (Cb s k key cell (x+1)).2.2.1,vZ (Cb s k key cell (x+1)).2.2.2]∧
   AM d' (.slice ua (Cb s k key cell (x+1)).2.1.key.length uc) (Cb s k key cell (x+1)).2.1.key∧MOk (Cb s k key cell (x+1)).2.1∧L'=tb bt Tt pv r h c::L2∧PgG B d' (Cb s k key cell (x+1)).1 dv pv L2):=by
 obtain⟨L,p,hp⟩:=hp
 exact VW p (hf x (Tt:=Tt) hx hp hk hc h1 h2 h3 h4) (fun v d' A' _ ⟨h1,ua,uc,L2,h2,h3,h4,h5,h6⟩=>⟨tb bt Tt pv r h c::(L2++B),by rw[h5];exact Aeq _,h1,ua,uc,_,h2,h3,h4,rfl,NQ h6⟩)
def AcZ(h:Jr P f){m:MdD}{ua}{uc:Nat}(hp:PgG B d t.s dv pv M)(hk:AM d (.slice ua m.key.length uc) m.key)(hm:MOk m)(hh:t.height≤1000000):
  Av P f [pZ bt,mdV m ua uc] d (tbD bt Tt pv t::M) (Ret fun v d' L'=>Le d d'∧v=vZ (CP t m).2∧∃L2,L'=tbD bt Tt pv (CP t m).1::L2∧PgG B d' (CP t m).1.s dv pv L2):=by
 obtain⟨L,p,hp⟩:=hp
 exact VW p (h (Tt:=Tt) hp hk hm hh) (fun v d' A' _ ⟨h1,h2,L2,h3,h4⟩=>⟨tbD bt Tt pv (CP t m).1::(L2++B),by rw[h3];exact Aeq _,h1,h2,_,rfl,NQ h4⟩)
def AcT(h:J4 P f){w}{r h' c:Int}{b}(hp:PgG B d s dv pv M)(hw:RB d B w b)(hl:b.length≤16384):
  Av P f [pZ bt,w] d (tb bt Tt pv r h' c::M) (Ret fun v d' L'=>Le d d'∧∃u L2,v=.tuple #[u,vZ (BZ s b).2.2]∧L'=tb bt Tt pv r h' c::L2∧AM d' u (BZ s b).2.1∧PgG B d' (BZ s b).1 dv pv L2):=by
 obtain⟨L,p,hp⟩:=hp
 refine Av.pre (Ads _ p) (Av.DL (h (Tt:=Tt) hp hw hl) (fun v d' L' _ ⟨h1,u,L2,h2,h3,h4,h5⟩=>⟨d',L',Vs.refl _ _,h1,u,_,h2,h3,h4,L2,Aeq _,h5⟩))
end
def Ol(P:Program)(f:FuncId):Prop:=∀{d}{t:TD}{dv pv L}{bt b3 b4 b5:Nat}{Tt T3 T4 T5 ka va}{kc vc:Nat}{key value B},PgG B d t.s dv pv L→AM d (.slice ka key.length kc) key→RB d B (.slice va value.length vc) value→key.length≤64→value.length≤16384→Mg t→
 Av P f [pZ b3,pZ b5,pZ b4] d (tbD bt Tt pv t::([bx b3 T3 [pZ bt],bx b5 T5 [.slice va value.length vc],bx b4 T4 [.slice ka key.length kc]]++L))
  (Ret fun v d' L'=>Le d d'∧v=vZ (CU t key value).2∧∃L2,L'=tbD bt Tt pv (CU t key value).1::([bx b3 T3 [pZ bt],bx b5 T5 [.slice va value.length vc],bx b4 T4 [.slice ka key.length kc]]++L2)∧PgG B d' (CU t key value).1.s dv pv L2)
set_option maxRecDepth 4000 in
set_option maxHeartbeats 4000000 in
def W4{P f f1 f2 f3 f4 f5}(hd:Kc P f=some (Na f1 f2 f3 f4 f5))(h1:J4 P f1)(h2:H4 P f2)(h3:OK P f3)(h4:Qa P f4)(h5:Jr P f5):Ol P f:=by
 intro d t dv pv L bt b3 b4 b5 Tt T3 T4 T5 ka va kc vc key value B hp hk hv hkl hvl hf;obtain⟨bp,rfl⟩:=hp.ptr;obtain⟨s,root,height,count⟩:=t;obtain⟨hr0,hr1,hh,hc⟩:=hf;simp only at hp hr0 hr1 hh hc;refine AF hd (Ada rfl) ?_;show gwp P _ _ _ _ _;apply Af;apply AB;refine B9 d ([bx b3 T3 [pZ bt],bx b5 T5 [.slice va value.length vc],bx b4 T4 [.slice ka key.length kc]]++tbD bt Tt (pZ bp) ⟨s,root,height,count⟩::L) (Vs.perm List.perm_middle.symm) ?_;(refine Ab rfl<|Aa<|Ad<|Ag rfl (Aj 0 rfl rfl)<|Ag rfl (Aj 1 rfl rfl) ?_);refine A7 [_,_,_] (AcT h1 hp hv hvl) rfl rfl (fun v d2 L2 hl2 ⟨_,u,L3,e1,e2,hu,hp2⟩=>?_);subst e1;subst e2;have hcl:=Zf s value;have hP:CU ⟨s,root,height,count⟩ key value=if (BZ s value).2.2≠0 then(⟨(BZ s value).1,root,height,count⟩,(BZ s value).2.2) else if height=0 then(⟨(Br (BZ s value).1 (-1) ⟨true,[key],[(BZ s value).2.1],[]⟩).1,(Br (BZ s value).1 (-1) ⟨true,[key],[(BZ s value).2.1],[]⟩).2.1,1,1⟩,(Br (BZ s value).1 (-1) ⟨true,[key],[(BZ s value).2.1],[]⟩).2.2) else
  if (Cb (BZ s value).1 root key (BZ s value).2.1 height).2.2.2≠0 then(⟨(Cb (BZ s value).1 root key (BZ s value).2.1 height).1,root,height,count⟩,(Cb (BZ s value).1 root key (BZ s value).2.1 height).2.2.2) else
  CP ⟨(Cb (BZ s value).1 root key (BZ s value).2.1 height).1,root,height,count+(if (Cb (BZ s value).1 root key (BZ s value).2.1 height).2.2.1 then 1 else 0)⟩ (Cb (BZ s value).1 root key (BZ s value).2.1 height).2.1:=rfl
 rw[hP];clear hP;obtain⟨ua,uc,rfl⟩:=hu.val;generalize BZ s value=C at hu hp2 hcl;obtain⟨s1,cell,ce⟩:=C;simp only at hu hp2 hcl⊢;have hk2:=RSl.mono (R:=AP) A3 hk hl2;by_cases hce:ce=0
 ·rw[if_neg (fun q=>q hce)];subst hce;by_cases hh0:height=0
  ·subst hh0;rw[if_pos rfl];(refine AU rfl<|Ao rfl rfl<|Ao rfl rfl<|Al rfl<|Ab rfl<|Aa<|Af<|Ad<|Ab rfl<|AN rfl rfl<|Aa<|Ar rfl (by omega)<|Ak<|Af<|Ad<|Ag rfl (Aj 0 rfl rfl)<|Au rfl<|Ai rfl<|Ag rfl (Aj 3 rfl rfl)<|AO rfl rfl<|Aa<|Ax rfl (by omega)<|Ad<|Ag rfl (Aj 0 rfl rfl)<|Ag rfl (Aj 2 rfl rfl) ?_);refine D5 (v0:=.slice ka key.length kc) rfl rfl (fun b27 T27=>?_);(apply Al;rfl);refine D5 (v0:=.slice ua cell.length uc) rfl rfl (fun b29 T29=>?_);(apply BR;rfl);obtain⟨d3,hl3,v3,l1,l2⟩:∃d3,Le d2 d3∧Vs d2 (bx b29 T29 [.slice ua cell.length uc]::bx b27 T27 [.slice ka key.length kc]::[]) d3 []∧Le (bx b29 T29 [.slice ua cell.length uc]) d3∧Le (bx b27 T27 [.slice ka key.length kc]) d3:=
    ⟨join (join d2 (bx b29 T29 [.slice ua cell.length uc])) (bx b27 T27 [.slice ka key.length kc]),(Le.AG _ _).trans (Le.AG _ _),Vs.freeze.trans Vs.freeze,(Le.Ba _ _).trans (Le.AG _ _),Le.Ba _ _⟩
   have hn:CG d3 [.bool true,.slice (some ⟨b27,0,none⟩) 1 1,.slice (some ⟨b29,0,none⟩) 1 1,.slice none 0 0] ⟨true,[key],[cell],[]⟩:=
    ⟨_,_,_,rfl,Ap.rsl (R:=RBs) (sz:=1) (d:=d2) (Ap.Ep (x:=key) rfl ⟨_,rfl,hk2⟩) Fa (by omega) hl3 l2,Ap.rsl (R:=RBs) (sz:=1) (d:=d2) (Ap.Ep (x:=cell) rfl ⟨_,rfl,hu⟩) Fa (by omega) hl3 l1,RSl.nil⟩
   refine B9 _ _ (Vs.app v3 _) ?_;refine A7 [_,_,_] (Acy h2 (k:= -1) (hp2.mono hl3) hn (by simp[AY,Bo,D8,Dq,Fg];omega)) rfl rfl (fun v d4 L4 hl4 ⟨_,e4,L5,e5,hp5⟩=>?_);subst e4;subst e5;generalize Br s1 (-1) ⟨true,[key],[cell],[]⟩=Q at hp5;(refine AU rfl<|Ao rfl rfl<|Ao rfl rfl<|Ab rfl<|Ab rfl<|Aa<|Ad<|Ag rfl (Aj 0 rfl rfl)<|Ag rfl (Aj 0 rfl rfl)<|Ag rfl (Aj 0 rfl rfl)<|Ab rfl<|Au rfl<|Ai rfl ?_);refine A6 3 [pZ bp,vZ Q.2.1,vZ ((0:Nat):Int),vZ count] rfl rfl rfl rfl (Ada rfl) rfl rfl ?_;(refine Au rfl<|Ai rfl ?_);refine A6 3 [pZ bp,vZ Q.2.1,vZ 1,vZ count] rfl rfl rfl rfl (Ada rfl) rfl rfl ?_;(refine Au rfl<|Ai rfl ?_);refine A6 3 [pZ bp,vZ Q.2.1,vZ 1,vZ 1] rfl rfl rfl rfl (Ada rfl) rfl rfl ?_;(refine Aa<|Ad<|Ab rfl<|Ab rfl<|Aa<|An ?_);exact Bd [vZ Q.2.2] ⟨As rfl,trivial⟩ (d':=d4) (L':=tbD bt Tt (pZ bp) ⟨Q.1,Q.2.1,1,1⟩::([bx b3 T3 [pZ bt],bx b5 T5 [.slice va value.length vc],bx b4 T4 [.slice ka key.length kc]]++L5)) (Vs.perm (Aep (a:=tbD bt Tt (pZ bp) ⟨Q.1,Q.2.1,1,1⟩) (l₁:=[bx b3 T3 [pZ bt],bx b5 T5 [.slice va value.length vc],bx b4 T4 [.slice ka key.length kc]]) (l₂:=L5))) ⟨(hl2.trans hl3).trans hl4,rfl,L5,rfl,hp5⟩
  ·rw[if_neg hh0];obtain⟨x,rfl⟩:∃x,height=x+1:=⟨height - 1,by omega⟩
   (refine AU rfl<|Ao rfl rfl<|Ao rfl rfl<|Al rfl<|Ab rfl<|Aa<|Af<|Ad<|Ab rfl<|AN rfl rfl<|Aa<|Ar rfl (by omega)<|Ak<|Af<|Ad<|Ag rfl (Aj 0 rfl rfl)<|Au rfl<|Ai rfl<|Ag rfl (Aj 3 rfl rfl)<|AO rfl rfl<|Aa<|Ar rfl (by omega)<|Ak<|Af ?_);refine Bv [_,_,_,_] L3 rfl ?_;(refine Ag rfl (Aj 0 rfl rfl)<|Ag rfl (Aj 0 rfl rfl)<|Au rfl<|Ai rfl<|Ag rfl (Aj 3 rfl rfl)<|Ag rfl (Aj 0 rfl rfl)<|Au rfl<|Ai rfl<|Ag rfl (Aj 3 rfl rfl)<|Ag rfl (Aj 2 rfl rfl)<|Al rfl ?_);have hins:=Ac4 h3 x (r:=root) (h:=((x+1:Nat):Int)) (c:=count) (bt:=bt) (Tt:=Tt) (k:=root) (by omega) hp2 hk2 hu (by omega) (by omega) hr0 hr1;generalize Cb s1 root key cell (x+1)=U at hins⊢;refine GK (α:=Nat×TypeId) (β:=Option Addr×Nat×List Ac) [(0,pZ b3),(1,pZ b5),(2,pZ b4)]
    (fun x=>[(8,.pointer (some ⟨x.1,0,none⟩))]) (fun x d L=>L=[bx x.1 x.2 [vZ 0,vZ 0,.slice none 0 0,vZ 0]])
    (fun y=>[(58,mdV U.2.1 y.1 y.2.1),(59,.bool U.2.2.1),(60,vZ U.2.2.2)]) (fun y d' M=>AM d' (.slice y.1 U.2.1.key.length y.2.1) U.2.1.key∧MOk U.2.1∧PgG B d' U.1 dv (pZ bp) y.2.2∧M=y.2.2) [] L3 rfl
    (fun x d d' M hl h=>h) (fun y d d' M hl h=>⟨RSl.mono (R:=AP) A3 h.1 hl,h.2.1,h.2.2.1.mono hl,h.2.2.2⟩) (fun x=>rfl) (fun y=>rfl) rfl ⟨rfl,rfl,rfl,trivial⟩ ?_ ?_ ?_
   ·refine B0 (fun b8 T8=>?_);(apply A9);exact⟨_,rfl,(b8,T8),⟨rfl,trivial⟩,rfl⟩
   ·refine Ql (B:=[_,_,_]) hins (Adl (l₁:=[_,_,_])) rfl (fun v d4 L4 hl4 ⟨_,wa,wc,L5,e4,hk4,hm4,e5,hp5⟩=>⟨L5,by rw[e5];exact Adl (l₂:=[_,_,_]),?_⟩);subst e4;(refine AU rfl<|Ao rfl rfl<|Ao rfl rfl<|Ao rfl rfl<|A9 ?_);exact⟨_,rfl,(wa,wc,L5),⟨rfl,rfl,rfl,trivial⟩,hk4,hm4,hp5,rfl⟩
   rintro⟨b8,T8⟩ ⟨wa,wc,L5⟩ ρ2 d4 M1 M2 hl4 hM1 ⟨hk4,hm4,hp5,hM2⟩;subst hM1;subst hM2;simp only at hk4 hp5⊢;refine Bn 0 rfl rfl rfl rfl (Adi _) rfl ?_;clear hins;obtain⟨us,um,uw,ue⟩:=U;simp only at hk4 hm4 hp5⊢;(refine Ae rfl<|Ab rfl<|A9<|Af<|Ad<|Ab rfl<|AN rfl rfl<|Aa ?_);by_cases hue:ue=0
   ·rw[if_neg (fun q=>q hue)];subst hue;have hcb:count+(if uw=true then 1 else 0)≤1000000:=by split<;>omega
    (refine Ar rfl (by omega)<|Ak<|Af ?_);refine Bv [_,_,_,_,_] M2 rfl ?_;(refine Ag rfl (Aj 0 rfl rfl)<|Au rfl<|Ai rfl<|Ag rfl (Aj 3 rfl rfl)<|Ae rfl ?_);refine BS rfl (h4 (b:=uw)) ?_;have hcc:(count:Int)+(if uw=true then 1 else 0)=((count+(if uw=true then 1 else 0):Nat):Int):=by split<;>omega
    refine AL rfl rfl (by split<;>omega) (by split<;>omega) ?_;(refine Au rfl<|Ai rfl<|Ch ?_);refine A6 3 [pZ bp,vZ root,vZ ((x+1:Nat):Int),vZ ((count:Int)+(if uw=true then 1 else 0))] rfl rfl rfl rfl (Ada rfl) rfl rfl ?_;rw[hcc];(refine Aa<|Ad<|Ag rfl (Aj 0 rfl rfl)<|Bh 4 rfl rfl rfl ?_);refine Dh (A:=tbD bt Tt (pZ bp) ⟨us,root,x+1,count+(if uw=true then 1 else 0)⟩::M2) (B:=[_,_,_,_]) (AcZ h5 (t:=⟨us,root,x+1,count+(if uw=true then 1 else 0)⟩) (m:=um) hp5 hk4 hm4 (by show x+1≤1000000;omega))
     ((Aep (l₁:=[_,_,_])).trans (Ads _ (Adl (l₁:=[_,_,_,_])))) rfl (fun v d6 L6 hl6 ⟨_,e6,L7,e7,hp7⟩=>?_)
    subst e6;subst e7;refine⟨d6,_,Vs.perm (Adl (l₂:=[_,_,_,_])),?_⟩
    (refine Ab rfl<|Aa<|An ?_);exact Bd [vZ _] ⟨As rfl,trivial⟩ (d':=d6) (L':=tbD bt Tt (pZ bp) (CP ⟨us,root,x+1,count+(if uw=true then 1 else 0)⟩ um).1::([bx b3 T3 [pZ bt],bx b5 T5 [.slice va value.length vc],bx b4 T4 [.slice ka key.length kc]]++L7)) ((Vs.drop (L':=[bx b3 T3 [pZ bt],bx b5 T5 [.slice va value.length vc],bx b4 T4 [.slice ka key.length kc]]++(tbD bt Tt (pZ bp) (CP ⟨us,root,x+1,count+(if uw=true then 1 else 0)⟩ um).1::L7)) (.cons_cons _ (.cons_cons _ (.cons_cons _ (.cons _ (Adb _)))))).trans (Vs.perm Aep)) ⟨(hl2.trans hl4).trans hl6,rfl,L7,rfl,hp7⟩
   ·rw[if_pos hue];(refine Ax rfl (by omega)<|Ad<|Ab rfl<|Ab rfl<|Aa<|An ?_);exact Bd [vZ ue] ⟨As rfl,trivial⟩ (d':=d4) (L':=tbD bt Tt (pZ bp) ⟨us,root,x+1,count⟩::([bx b3 T3 [pZ bt],bx b5 T5 [.slice va value.length vc],bx b4 T4 [.slice ka key.length kc]]++M2)) ((Vs.drop (L':=[bx b3 T3 [pZ bt],bx b5 T5 [.slice va value.length vc],bx b4 T4 [.slice ka key.length kc]]++(tbD bt Tt (pZ bp) ⟨us,root,x+1,count⟩::M2)) (.cons_cons _ (.cons_cons _ (.cons_cons _ (.cons_cons _ (.cons _ (Adb _))))))).trans (Vs.perm Aep)) ⟨hl2.trans hl4,rfl,M2,rfl,hp5⟩
 ·rw[if_pos hce];(refine AU rfl<|Ao rfl rfl<|Ao rfl rfl<|Al rfl<|Ab rfl<|Aa<|Af<|Ad<|Ab rfl<|AN rfl rfl<|Aa<|Ax rfl (by omega)<|Ad<|Ab rfl<|Ab rfl<|Aa<|An ?_);exact Bd [vZ ce] ⟨As rfl,trivial⟩ (d':=d2) (L':=tbD bt Tt (pZ bp) ⟨s1,root,height,count⟩::([bx b3 T3 [pZ bt],bx b5 T5 [.slice va value.length vc],bx b4 T4 [.slice ka key.length kc]]++L3)) (Vs.perm Aep) ⟨hl2,rfl,L3,rfl,hp2⟩
end
def GA(P:Program)(f:FuncId):Prop:=∀{d}{t:TD}{dv pv kv vv L}{bt:Nat}{Tt key value B},PgT d t.s dv pv L→AM d kv key→RB d B vv value→Mg t→
 Av P f [pZ bt,kv,vv] d (tbD bt Tt pv t::(B++L)) (Ret fun v d' L'=>Le d d'∧v=vZ (CW t key value).2∧∃L2,L'=tbD bt Tt pv (CW t key value).1::(B++L2)∧PgT d' (CW t key value).1.s dv pv L2)
def Ac8{P f args}{t':TD}{e:Int}{dv pv X L Tt B}(h:Av P f args d (tbD bt Tt pv t::(X++(B++L))) (Ret fun v d' L'=>Le d d'∧v=vZ e∧∃L2,L'=tbD bt Tt pv t'::(X++L2)∧PgG B d' t'.s dv pv L2)):
  Av P f args d (tbD bt Tt pv t::((X++B)++L)) (Ret fun v d' L'=>Le d d'∧v=vZ e∧∃L2,L'=tbD bt Tt pv t'::((X++B)++L2)∧PgT d' t'.s dv pv L2):=by
 rw[Adf]
 refine Av.DL h (fun v d' L' _ ⟨h1,h2,M,h3,L2,p,h4⟩=>⟨d',tbD bt Tt pv t'::((X++B)++L2),Vs.perm ?_,h1,h2,L2,rfl,h4⟩)
 rw[h3,Adf]
 exact Ads _ (List.Perm.append_left X p)
set_option maxRecDepth 4000 in
set_option maxHeartbeats 2000000 in
def Y7{P f f1 f2 f3}(hd:dec P f=some (Pq f1 f2 f3))(h1:KN P f1)(h2:Ol P f2)(h3:I5 P f3):GA P f:=by
 intro d t dv pv kv vv L bt Tt key value B hp hk hv hf;obtain⟨bp,rfl⟩:=hp.ptr;obtain⟨ka,kc,rfl⟩:=hk.val;obtain⟨va,vc,rfl⟩:=hv.val;refine AF hd (Ada rfl) ?_;show gwp P _ _ _ _ _;apply Af;apply AB;refine FB rfl (fun b3 T3=>?_);refine FB rfl (fun b4 T4=>?_);refine FB rfl (fun b5 T5=>?_);(refine Ab rfl<|Aa<|Af<|Ad<|Ag rfl (Aj 2 rfl rfl)<|Ag rfl (Aj 1 rfl rfl) ?_);refine A7 [_,_,_] (h1 (L:=B++L) hk) rfl rfl (fun v d2 L2 _ ⟨e1,e2,e3⟩=>?_);subst e1;subst e2;subst e3;by_cases hw:BV key=0
 ·by_cases hb:16384<value.length
  ·have hF:CW t key value=(t,3):=by unfold CW;rw[if_neg (fun q=>q hw),if_pos hb]
   rw[hF,hw];(refine Ab rfl<|Aa<|Ad<|Ab rfl<|AN rfl rfl<|Aa<|Ar rfl (by omega)<|Ak<|Af<|Ad<|Ag rfl (Aj 0 rfl rfl)<|AK rfl<|BW rfl rfl<|Aa<|Ax rfl (by omega)<|Ad<|Ab rfl<|Aa<|An ?_);exact BO (L':=tbD bt Tt (pZ bp) t::(B++L)) rfl (.cons _ (.cons _ (.cons _ (Adb _)))) ⟨Le.refl _,rfl,L,rfl,hp⟩
  ·have hF:CW t key value=(B8 t (CU t key value).1 (CU t key value).2,(CU t key value).2):=by unfold CW;rw[if_neg (fun q=>q hw),if_neg hb]
   have hkl:key.length≤64:=by unfold BV at hw;split at hw<;>omega
   rw[hF,hw];(refine Ab rfl<|Aa<|Ad<|Ab rfl<|AN rfl rfl<|Aa<|Ar rfl (by omega)<|Ak<|Af<|Ad<|Ag rfl (Aj 0 rfl rfl)<|AK rfl<|BW rfl rfl<|Aa<|Ar rfl (by omega)<|Ak<|Ad<|Ag rfl (Aj 2 rfl rfl)<|O5 ?_);refine Dh (A:=tbD bt Tt (pZ bp) t::(([bx b3 T3 [pZ bt],bx b5 T5 [.slice va value.length vc],bx b4 T4 [.slice ka key.length kc]]++B)++L)) (B:=[])
    (h3 (t':=(CU t key value).1) (e:=(CU t key value).2) (X':=[bx b3 T3 [pZ bt],bx b5 T5 [.slice va value.length vc],bx b4 T4 [.slice ka key.length kc]]++B) hp (X9 t key value)
     (fun d1 hl1=>Ac8 (h2 (B:=B) ⟨L,Aeq _,hp.mono hl1⟩ (RSl.mono (R:=AP) A3 hk hl1) (hv.mono hl1) hkl (by omega) hf))) ?_ rfl (fun v d4 L4 hl4 ⟨_,e4,L5,e5,hp5⟩=>?_)
   ·rw[Aed];refine(Aep (l₁:=[_,_,_])).trans (Ads _ ((List.Perm.append_right (l₂:=[bx b3 T3 [pZ bt],bx b5 T5 [.slice va value.length vc],bx b4 T4 [.slice ka key.length kc]]) (B++L) ?_).trans (List.Perm.of_eq (by simp))));exact((Adl (l₁:=[_,_]) (l₂:=[_])).trans (Ads _ (Aeq _)))
   ·subst e4;subst e5;refine⟨d4,_,Vs.refl _ _,?_⟩
    rw[Aed];(refine Ab rfl<|Aa<|An ?_);exact Bd [vZ (CU t key value).2] ⟨As rfl,trivial⟩ (d':=d4) (L':=tbD bt Tt (pZ bp) (B8 t (CU t key value).1 (CU t key value).2)::(B++L5)) (Vs.drop (.cons_cons _ (.cons _ (.cons _ (.cons _ (Adb _)))))) ⟨hl4,rfl,L5,rfl,hp5⟩
 ·have hF:CW t key value=(t,BV key):=by unfold CW;rw[if_pos hw]
  rw[hF];(refine Ab rfl<|Aa<|Ad<|Ab rfl<|AN rfl rfl<|Aa<|Ax rfl (by omega)<|Ad<|Ab rfl<|Ab rfl<|Aa<|An ?_);exact BO (L':=tbD bt Tt (pZ bp) t::(B++L)) rfl (.cons _ (.cons _ (.cons _ (Adb _)))) ⟨Le.refl _,rfl,L,rfl,hp⟩
def GA.own{P f}(h:GA P f){dv pv kv vv L Tt key value g}(hp:PgT d t.s dv pv L)(hk:AM d kv key)(hv:Ap 1 AP d vv value g)(hf:Mg t):
  Av P f [pZ bt,kv,vv] d (tbD bt Tt pv t::g::L) (Ret fun v d' L'=>Le d d'∧v=vZ (CW t key value).2∧∃L2,L'=tbD bt Tt pv (CW t key value).1::g::L2∧PgT d' (CW t key value).1.s dv pv L2):=
 h (B:=[g]) hp hk (RB.own hv) hf
def GA.data{P f}(h:GA P f){dv pv kv vv L Tt key value}(hp:PgT d t.s dv pv L)(hk:AM d kv key)(hv:AM d vv value)(hf:Mg t):
  Av P f [pZ bt,kv,vv] d (tbD bt Tt pv t::L) (Ret fun v d' L'=>Le d d'∧v=vZ (CW t key value).2∧∃L2,L'=tbD bt Tt pv (CW t key value).1::L2∧PgT d' (CW t key value).1.s dv pv L2):=
 h (B:=[]) hp hk (RB.data hv) hf
end Go.Gk.Tre
end
section
namespace Go.Gk.Tre
open Go Go.Gk Go.Gk.Dev Go.Gk.Cch Go.Gk.Pgr Go.Gk.Chn Go.Gk.Node
def wk0:TD:=⟨pdN 9, -1,0,0⟩
def wk1:TD:=(CW wk0 [97] [5]).1
def wk2:TD:=(Cu wk1 [97]).1
def Abv:(CW wk0 [97] [5]).2=0:=by decide+kernel
def Wp:wk1.height=1:=by decide+kernel
def YD:wk1.count=1:=by decide+kernel
def AaJ:wk1.s.free=8:=by decide+kernel
def Ab7:Ec wk1 [97]=([5],true,0):=by decide+kernel
def AbQ:(Cu wk1 [97]).2=(true,0):=by decide+kernel
def Abk:wk2.root= -1:=by decide+kernel
def Vg:wk2.height=0:=by decide+kernel
def Yj:wk2.s.free=9:=by decide+kernel
def Aas:Mg wk0:=⟨by decide+kernel,by decide+kernel,by decide+kernel,by decide+kernel⟩
def UU:Mg wk1:=⟨by decide+kernel,by decide+kernel,by decide+kernel,by decide+kernel⟩
def AbG:Vh wk1 [97]:=⟨UU,by decide+kernel,by decide+kernel,by decide+kernel⟩
end Go.Gk.Tre
end
section
namespace Go.Gk.Tre
open Go Go.Gk Go.Gk.Dev Go.Gk.Cch Go.Gk.Pgr Go.Gk.Chn Go.Gk.Node
attribute [local irreducible] gwp gws xwp
def R7{d}{b:Nat}{T}(a:UInt8):AM (join d (bx b T [AA a])) (.slice (some ⟨b,0,none⟩) 1 1) [a]:=
 Ap.rsl (R:=AP) (sz:=1) (xs:=[a]) (Ap.Ep (R:=AP) (d:=d) (x:=a) rfl rfl) A3 (by omega) (Le.AG _ _) (Le.Ba _ _)
def Ya(P:Program)(f:FuncId):Prop:=∀{d},Av P f [] d [] (Ret fun r _ L'=>r=.bool true∧L'=[])
def J7(a0 a1 a2 a3 a4 a5 a6 a7:Nat):A5:=⟨87,[(.tmp 0)],(sR (o1 0 (.mv (.const (.bool false))) .done) (sR (oc 9 a0 [(kZ 9)]<|om 8 9<|oe 10 8 0<|oe 11 8 1<|om 1 10<|om 2 11 .done) (.seq (sR (om 12 2<|o1 13 (.eqp false 12 (.const (.pointer none)))<|om 14 13<|gF 15 14 2<|oF 16 14 (.bsl 1 1 [(.int .u8 0)] [(0,(.const (.int .u8 97)))])<|oF 17 14 (.bsl 1 1 [(.int .u8 0)] [(0,(.const (.int .u8 5)))])<|oF 18 14 (.call a1 [15,16,17])<|oF 19 14 (.bin .neq 18 z0)<|o1 20 (.pick 14 (.const (.bool true)) 19)<|om 21 20<|gF 22 21 2<|oF 23 21 (.call a2 [22])<|oF 24 21 (.bin .neq 23 z1)<|o1 25 (.pick 21 (.const (.bool true)) 24)<|om 26 25<|gF 27 26 2<|oF 28 26 (.call a3 [27])<|oF 29 26 (.bin .neq 28 z1)<|o1 30 (.pick 26 (.const (.bool true)) 29)<|om 31 30<|gF 32 31 1<|oF 33 31 (.call a4 [32])<|oF 34 31 (.bin .neq 33 (kZ 8))<|o1 35 (.pick 31 (.const (.bool true)) 34) .done) (.cond 35 (sR (o1 0 (.mv (.const (.bool false))) .done) .ret) .skip)) (sR (om 37 2<|o1 38 (.bsl 1 1 [(.int .u8 0)] [(0,(.const (.int .u8 97)))])<|oc 39 a5 [37,38]<|om 36 39<|oe 40 36 0<|oe 41 36 1<|oe 42 36 2<|om 3 40<|om 4 41<|om 5 42 .done) (sR (om 44 2<|o1 45 (.bsl 1 1 [(.int .u8 0)] [(0,(.const (.int .u8 97)))])<|oc 46 a6 [44,45]<|om 43 46<|oe 47 43 0<|oe 48 43 1<|om 6 47<|om 7 48 .done) (sR (om 49 5<|ob 50 .eql 49 z0<|om 51 50<|gT 52 51 4<|gP 53 51 52<|om 54 53<|gT 55 54 3<|oT 56 54 (.len 55)<|oT 57 54 (.bin .eql 56 z1)<|gP 58 54 57<|om 59 58<|gT 60 59 3<|oT 61 59 (.idx 1 60 z0)<|oT 62 59 (.ld none 61)<|oT 63 59 (.bin .eql 62 (.const (.int .u8 5)))<|gP 64 59 63<|om 65 64<|gT 66 65 7<|oT 67 65 (.bin .eql 66 z0)<|gP 68 65 67<|om 69 68<|gT 70 69 6<|gP 71 69 70<|om 72 71<|gT 73 72 2<|oT 74 72 (.call a7 [73])<|oT 75 72 (.bin .eql 74 (kZ (-1)))<|gP 76 72 75<|om 77 76<|gT 78 77 2<|oT 79 77 (.call a2 [78])<|oT 80 77 (.bin .eql 79 z0)<|gP 81 77 80<|om 82 81<|gT 83 82 1<|oT 84 82 (.call a4 [83])<|oT 85 82 (.bin .eql 84 (kZ 9))<|gP 86 82 85<|om 0 86 .done) .ret))))))⟩
set_option maxRecDepth 4000 in
set_option maxHeartbeats 1000000 in
def Vi{P f f1 f2 f3 f4 f5 f6 f7 f8}(hd:dec P f=some (J7 f1 f2 f3 f4 f5 f6 f7 f8))(h1:IM P f1)(h2:GA P f2)(h3:I0 P f3)(h4:ID P f4)(h5:LO P f5)(h6:Mh P f6)(h7:LV P f7)(h8:M5 P f8):Ya P f:=by
 intro d;refine AF hd (Ada rfl) ?_;show gwp P _ _ _ _ _;(refine Ad<|Ae rfl<|Aa<|Ad ?_);refine D4 (L:=[]) (h1 (n:=9) (by omega) (by omega)) rfl (fun u d1 L1 hl1 ⟨bt,Tt,bd,bp,L2,q1,q2,hp⟩=>?_);subst q1;subst q2;(refine AU rfl<|Ao rfl rfl<|Ao rfl rfl<|Am rfl<|Am rfl<|Aa<|Af<|Ad<|Am rfl<|Dk rfl rfl<|Ae rfl<|Ah rfl<|Am rfl<|Ah rfl ?_);refine D5 (v0:=AA 97) rfl rfl (fun b16 T16=>?_);refine B9 (join d1 (bx b16 T16 [AA 97])) _ Vs.freeze ?_;have k1:AM (join d1 (bx b16 T16 [AA 97])) _ [97]:=R7 97;have hp:=hp.mono (Le.AG d1 (bx b16 T16 [AA 97]));generalize join d1 (bx b16 T16 [AA 97])=d3 at k1 hp;(apply Ah;rfl);refine D5 (v0:=AA 5) rfl rfl (fun b17 T17=>?_);have k2:Ap 1 AP d3 (.slice (some ⟨b17,0,none⟩) 1 1) [5] (bx b17 T17 [AA 5]):=Ap.Ep (R:=AP) (d:=d3) (x:=(5:UInt8)) rfl rfl;have hp:PgT d3 wk0.s (pZ bd) (pZ bp) L2:=⟨_,hp⟩
 (apply Ah;rfl);refine B9 d3 _ (Vs.perm (List.Perm.swap (tbD bt Tt (pZ bp) wk0) (bx b17 T17 [AA 5]) L2)) ?_;refine A7 [] (h2.own (t:=wk0) (bt:=bt) (Tt:=Tt) hp k1 k2 Aas) rfl rfl (fun v d5 L5 hl5 ⟨_,e1,L6,e2,hp6⟩=>?_);subst e1;subst e2;refine B9 d5 _ (Vs.drop (.cons_cons _ (.cons _ (Adb _)))) ?_;rw[Abv];have hp6:PgT d5 wk1.s (pZ bd) (pZ bp) L6:=hp6;have g3:CV P f3 [pZ bt] d5 (tbD bt Tt (pZ bp) wk1::L6) (vZ ((1:Nat):Int)):=by
  have:=h3 (d:=d5) (t:=wk1) (bt:=bt) (pb:=bp) (Tt:=Tt) (L:=L6);simpa only[Wp] using this
 have g4:CV P f4 [pZ bt] d5 (tbD bt Tt (pZ bp) wk1::L6) (vZ ((1:Nat):Int)):=by
  have:=h4 (d:=d5) (t:=wk1) (bt:=bt) (pb:=bp) (Tt:=Tt) (L:=L6);simpa only[YD] using this
 have g5:CV P f5 [pZ bp] d5 L6 (vZ ((8:Nat):Int)):=by
  obtain⟨n6,hp6⟩:=hp6;have:=h5 hp6;rw[show(wtc wk1.s n6).free=8 from AaJ] at this;exact this
 have w1:=Ab7;have w2:=AbQ;have w3:=Abk;have w4:=Vg;have w5:=Yj;have w6:=AbG;have w7:=UU;unfold wk2 at w3 w4 w5;generalize hw1:wk1=t1 at hp6 g3 g4 w1 w2 w3 w4 w5 w6 w7;rw[show(CW wk0 [97] [5]).1=t1 from hw1];clear hw1;have hth:=w7.h;(refine Ah rfl<|AN rfl rfl<|Aw rfl rfl<|Ae rfl<|Bf rfl (by omega)<|Ah rfl<|Am rfl<|Ah rfl ?_);refine Ci [] g3 rfl rfl ?_;(refine Ah rfl<|AN rfl rfl<|Aw rfl rfl<|Ae rfl<|Bf rfl (by omega)<|Ah rfl<|Am rfl<|Ah rfl ?_);refine Ci [] g4 rfl rfl ?_;(refine Ah rfl<|AN rfl rfl<|Aw rfl rfl<|Ae rfl<|Bf rfl (by omega)<|Ah rfl<|Am rfl<|Ah rfl ?_);refine Ci [_] g5 rfl rfl ?_;(refine Ah rfl<|AN rfl rfl<|Aw rfl rfl<|Aa<|Ar rfl (by omega)<|Ak<|Ad<|Am rfl ?_);refine D5 (v0:=AA 97) rfl rfl (fun b38 T38=>?_);refine B9 (join d5 (bx b38 T38 [AA 97])) _ Vs.freeze ?_;have k3:AM (join d5 (bx b38 T38 [AA 97])) _ [97]:=R7 97;have hp6:=hp6.mono (Le.AG d5 (bx b38 T38 [AA 97]));generalize join d5 (bx b38 T38 [AA 97])=d6 at k3 hp6;skip;refine A7 [] (Aad (s:=t1.s) (root:=t1.root) (h:=t1.height) (c:=t1.count) (bt:=bt) (Tt:=Tt) h6 hp6 k3 (by omega)) rfl rfl (fun v d7 L7 hl7 ⟨_,u,L8,e1,hu,e2,hp8⟩=>?_);rw[show Ec ⟨t1.s,t1.root,t1.height,t1.count⟩ [97]=([5],true,0) from w1] at e1 hu;have e1:v=.tuple #[u,.bool true,vZ 0]:=e1;have hu:AM d7 u [5]:=hu;subst e1;subst e2;obtain⟨ua,uc,rfl⟩:∃ua uc,u=.slice ua 1 uc:=hu.val;(refine AU rfl<|Ao rfl rfl<|Ao rfl rfl<|Ao rfl rfl<|Al rfl<|Ae rfl<|Ab rfl<|Aa<|Ad<|Am rfl ?_);refine D5 (v0:=AA 97) rfl rfl (fun b45 T45=>?_);refine B9 (join d7 (bx b45 T45 [AA 97])) _ Vs.freeze ?_;have k4:AM (join d7 (bx b45 T45 [AA 97])) _ [97]:=R7 97;have hp8:=hp8.mono (Le.AG d7 (bx b45 T45 [AA 97]));have hu:=RSl.mono (R:=AP) A3 hu (Le.AG d7 (bx b45 T45 [AA 97]));generalize join d7 (bx b45 T45 [AA 97])=d8 at k4 hp8 hu;skip;refine A7 [] (h7 (t:=t1) (bt:=bt) (Tt:=Tt) hp8 k4 (fun _=>w6)) rfl rfl (fun v d9 L9 hl9 ⟨_,e1,L10,e2,hp10⟩=>?_);rw[w2] at e1;have e1:v=.tuple #[.bool true,vZ 0]:=e1;subst e1;subst e2;have hu:=RSl.mono (R:=AP) A3 hu hl9;generalize (Cu t1 [97]).1=t2 at w3 w4 w5 hp10;have g6:CV P f8 [pZ bt] d9 (tbD bt Tt (pZ bp) t2::L10) (vZ (-1)):=by
  have:=h8 (d:=d9) (t:=t2) (bt:=bt) (pb:=bp) (Tt:=Tt) (L:=L10);simpa only[w3] using this
 have g7:CV P f3 [pZ bt] d9 (tbD bt Tt (pZ bp) t2::L10) (vZ ((0:Nat):Int)):=by
  have:=h3 (d:=d9) (t:=t2) (bt:=bt) (pb:=bp) (Tt:=Tt) (L:=L10);simpa only[w4] using this
 have g8:CV P f5 [pZ bp] d9 L10 (vZ ((9:Nat):Int)):=by
  obtain⟨n6,hp6⟩:=hp10;have:=h5 hp6;rw[show(wtc t2.s n6).free=9 from w5] at this;exact this
 clear w1 w2 w3 w4 w5 w6 w7;(refine AU rfl<|Ao rfl rfl<|Ao rfl rfl<|Ae rfl<|Ab rfl<|Aa<|Ad<|Ab rfl<|AO rfl rfl<|Ae rfl<|Bp rfl (by omega)<|Ah rfl<|Ae rfl<|AI rfl rfl<|Ae rfl<|Ah rfl<|Al rfl<|Ah rfl<|AK rfl<|Ah rfl<|AO rfl rfl<|AI rfl rfl<|Ae rfl<|Bp rfl (by omega)<|Ah rfl<|Al rfl<|Ah rfl ?_);refine BM (R:=AP) (m:=0) rfl hu rfl rfl (by decide) (fun b61 o61 cs61 hcl61 hd61 q61=>?_);have q61:cs61=[Value.int .u8 5]:=q61;subst q61;(refine Ah rfl<|Ag rfl (B4 (by assumption) rfl)<|Ah rfl<|AO rfl rfl<|AI rfl rfl<|Ae rfl<|Bp rfl (by omega)<|Ah rfl<|Ab rfl<|Ah rfl<|AO rfl rfl<|AI rfl rfl<|Ae rfl<|Bp rfl (by omega)<|Ah rfl<|Ae rfl<|AI rfl rfl<|Ae rfl<|Ah rfl<|Am rfl<|Ah rfl ?_);refine Ci [] g6 rfl rfl ?_;(refine Ah rfl<|AO rfl rfl<|AI rfl rfl<|Ae rfl<|Bp rfl (by omega)<|Ah rfl<|Am rfl<|Ah rfl ?_);refine Ci [] g7 rfl rfl ?_;(refine Ah rfl<|AO rfl rfl<|AI rfl rfl<|Ae rfl<|Bp rfl (by omega)<|Ah rfl<|Am rfl<|Ah rfl ?_);refine Ci [_] g8 rfl rfl ?_;(refine Ah rfl<|AO rfl rfl<|AI rfl rfl<|Ae rfl<|Aa<|An ?_);exact Bd [.bool true] ⟨As rfl,trivial⟩ (d':=d9) (L':=[]) (Vs.drop (Afm _)) ⟨rfl,rfl⟩
section
section
variable {P:Program}{pan:List PanicEntry→AR}{Qn:Env→AR}{Ls L:List Ac}{ρ:Env}{d:Ac}{s:GS}{t:Nat}{tk:Bool}
def Xh{x y}{b:UInt8}(ex:ev ρ x=AA b)(ey:ev ρ y=.int .u8 1)(h:gws P pan Qn s Ls (upd ρ t (AA (b+1))) d L):gws P pan Qn (.op tk ⟨some t,none,.bin .add x y⟩ s) Ls ρ d L:=
 Dl (by
  have e:IntKind.u8.wrap ((b.toNat:Int)+1)=((b+1).toNat:Int):=by
   simp[IntKind.wrap,IntKind.signed,IntKind.bits,UInt8.toNat_add]
  rw[ex,ey];simp only[C7,AA];simp[e]) h
end
def Mj{key}:BV key=0∨BV key=2:=by unfold BV;split<;>simp
def QY{s}{n:Nat}:∀m,(wtc s n).writes m=s.writes m
 |0=>rfl
 |m+1=>by rw[PD.writes,PD.writes,QY m]
def R1{s}{n:Nat}:(wtc s n).flush=wtc s.flush n:=by
 unfold PD.flush;rw[show(wtc s n).writes (wtc s n).kinds.length=s.writes s.kinds.length from QY _]
abbrev Zw:=Int×List UInt8×List UInt8
def RAc(d:Ac)(cs:List Value)(x:Zw):Prop:=∃kv vv,cs=[vZ x.1,kv,vv]∧AM d kv x.2.1∧AM d vv x.2.2
def US:Gp RAc:=fun hl ⟨kv,vv,e,h1,h2⟩=>⟨kv,vv,e,RSl.mono (R:=AP) A3 h1 hl,RSl.mono (R:=AP) A3 h2 hl⟩
def Qp(P:Program)(f:FuncId):Prop:=∀{d}{t:TD}{dv pv w L}{bt:Nat}{Tt}{acts:List Zw}{most N:Nat},PgT d t.s dv pv L→Gr N 0 t [] []→RSl 3 RAc d w acts→most≤1000→
 Av P f [pv,pZ bt,w,vZ most] d (tbD bt Tt pv t::L) (Ret fun v d' L'=>Le d d'∧∃u t' l P' L2,v=.tuple #[u,.bool true]∧RSl 2 RKv d' u l∧Gr N most t' l P'∧L'=tbD bt Tt pv t'::L2∧PgT d' t'.s dv pv L2)
def Kp(a0 a1 a2 a3 a4 a5 a6 a7 a8 a9 a10 a11 a12 a13:Nat):A5:=⟨226,[(.tmp 8),(.tmp 9)],(sR (o1 8 (.mv nS)<|o1 9 (.mv (.const (.bool false))) .done) (sR (o1 10 (.mv nS) .done) (.seq (sR (o1 11 (.mv z0) .done) (.block 0 (.loop (.seq (sR (om 29 11<|om 30 2<|oL 31 30<|ob 32 .lss 29 31<|om 33 32<|gT 34 33 11<|gT 35 33 3<|oT 36 33 (.bin .lss 34 35)<|gP 37 33 36 .done) (.cond 37 .skip (.exit 0))) (.seq (.block 1 (sR (om 40 2<|om 41 11<|oI 42 3 40 41<|o1 43 (.ld (some 3) 42)<|o1 12 (.alo (.agg #[(vZ 0),(.slice none 0 0),(.slice none 0 0)]))<|o0 (.st 3 12 43) .done) (sR (oj 44 2 12<|ol 45 44<|oc 46 a0 [45,(kZ 700)]<|om 13 46 .done) (sR (oj 47 1 12<|ol 48 47<|oc 49 a1 [48]<|om 14 49 .done) (sR (om 50 1<|oc 51 a2 [50]<|ob 52 .mul (kZ 4) 51<|ob 53 .add 52 (kZ 3)<|om 54 13<|oL 55 54<|oc 56 a3 [55]<|ob 57 .add 53 56<|om 15 57 .done) (sR (om 58 0<|oc 59 a4 [58]<|om 16 59 .done) (.seq (sR (oj 60 0 12<|ol 61 60 .done) (.block 2 (sR (ob 109 .eql 61 z0<|om 108 109 .done) (.cond 108 (sR (o1 110 (.bsl 0 1 [(.int .u8 0)] [])<|om 111 13<|o1 112 (.app 1 1 [(.int .u8 0)] 110 111)<|om 17 112 .done) (sR (om 113 1<|oj 114 1 12<|ol 115 114<|om 116 17<|oc 117 a5 [113,115,116]<|om 18 117 .done) (.seq (sR (om 118 18<|ob 119 .eql 118 (kZ 190)<|om 120 119<|gT 121 120 14<|oT 122 120 (.bin .eql 121 z0)<|gP 123 120 122<|om 124 123<|gT 125 124 16<|gT 126 124 15<|oT 127 124 (.bin .lss 125 126)<|gP 128 124 127<|om 129 128<|gT 130 129 0<|oT 131 129 (.call a4 [130])<|gT 132 129 16<|oT 133 129 (.bin .eql 131 132)<|gP 134 129 133 .done) (.cond 134 (.exit 1) .skip)) (.seq (sR (om 135 18<|om 136 14<|ob 137 .neq 135 136 .done) (.cond 137 (sR (o1 8 (.mv nS)<|o1 9 (.mv (.const (.bool false))) .done) .ret) .skip)) (.seq (sR (om 138 18<|ob 139 .eql 138 z0 .done) (.cond 139 (rG (om 140 10<|oj 141 1 12<|ol 142 141<|o1 143 (.b2s 142)<|om 144 13<|o1 145 (.b2s 144)<|oc 146 a6 [140,143,145]<|om 10 146 .done)) .skip)) (sR (om 147 17<|oL 148 147<|o1 149 (.mv z0) .done) (.block 3 (.loop (sR (ob 150 .lss 149 148 .done) (.seq (.cond 150 .skip (.exit 3)) (.seq (.block 4 (sR (om 151 149<|om 19 151 .done) (rG (om 152 17<|om 153 19<|oI 154 1 152 153<|ol 155 154<|ob 156 .add 155 (.const (.int .u8 1))<|oI 157 1 152 153<|o0 (.st 1 157 156) .done)))) (rG (ob 158 .add 149 z1<|om 149 158 .done))))))))))))) (sR (ob 160 .eql 61 z1<|om 159 160 .done) (.cond 159 (sR (om 162 1<|oj 163 1 12<|ol 164 163<|oc 165 a7 [162,164]<|om 161 165<|oe 166 161 0<|oe 167 161 1<|om 20 166<|om 21 167 .done) (.seq (sR (om 168 21<|ob 169 .eql 168 (kZ 190)<|om 170 169<|gT 171 170 14<|oT 172 170 (.bin .eql 171 z0)<|gP 173 170 172<|om 174 173<|gT 175 174 16<|gT 176 174 15<|oT 177 174 (.bin .lss 175 176)<|gP 178 174 177<|om 179 178<|gT 180 179 0<|oT 181 179 (.call a4 [180])<|gT 182 179 16<|oT 183 179 (.bin .eql 181 182)<|gP 184 179 183<|om 185 184<|gT 186 185 20<|oT 187 185 (.un .not 186)<|gP 188 185 187 .done) (.cond 188 (.exit 1) .skip)) (.seq (sR (om 189 21<|om 190 14<|ob 191 .neq 189 190 .done) (.cond 191 (sR (o1 8 (.mv nS)<|o1 9 (.mv (.const (.bool false))) .done) .ret) .skip)) (sR (om 193 10<|oj 194 1 12<|ol 195 194<|o1 196 (.b2s 195)<|oc 197 a8 [193,196]<|om 192 197<|oe 198 192 0<|oe 199 192 1<|om 22 198<|om 23 199 .done) (.seq (sR (om 200 21<|ob 201 .eql 200 z0<|om 202 201<|gT 203 202 20<|gT 204 202 23<|oT 205 202 (.eqb true 203 204)<|gP 206 202 205 .done) (.cond 206 (sR (o1 8 (.mv nS)<|o1 9 (.mv (.const (.bool false))) .done) .ret) .skip)) (sR (om 207 21<|ob 208 .eql 207 z0 .done) (.cond 208 (rG (om 209 22<|om 10 209 .done)) .skip))))))) (sR (ob 211 .eql 61 (kZ 3)<|om 210 211 .done) (.cond 210 (sR (om 212 0<|oc 213 a9 [212]<|ob 214 .neq 213 z0<|om 215 214<|gF 216 215 0<|oF 217 215 (.call a10 [216])<|oF 218 215 (.bin .neq 217 z0)<|o1 219 (.pick 215 (.const (.bool true)) 218) .done) (.cond 219 (sR (o1 8 (.mv nS)<|o1 9 (.mv (.const (.bool false))) .done) .ret) .skip)) (sR (om 63 1<|oj 64 1 12<|ol 65 64<|oc 66 a11 [63,65]<|om 62 66<|oe 67 62 0<|oe 68 62 1<|oe 69 62 2<|om 24 67<|om 25 68<|om 26 69 .done) (sR (om 71 10<|oj 72 1 12<|ol 73 72<|o1 74 (.b2s 73)<|oc 75 a12 [71,74]<|om 70 75<|oe 76 70 0<|oe 77 70 1<|om 27 76<|om 28 77 .done) (sR (om 78 26<|om 79 14<|ob 80 .neq 78 79<|om 81 80<|gF 82 81 26<|oF 83 81 (.bin .eql 82 z0)<|gF 84 81 83<|gT 85 84 25<|gT 86 84 28<|oT 87 84 (.eqb true 85 86)<|gT 88 84 87<|gF 89 88 24<|oF 90 88 (.b2s 89)<|gF 91 88 27<|oF 92 88 (.bin .neq 90 91)<|oT 93 84 (.pick 88 (.const (.bool true)) 92)<|oF 94 81 (.pick 84 93 (.const (.bool false)))<|o1 95 (.pick 81 (.const (.bool true)) 94)<|om 96 95<|gF 97 96 26<|oF 98 96 (.bin .neq 97 z0)<|gF 99 96 98<|gT 100 99 25<|gT 101 99 100<|gF 102 101 24<|oF 103 101 (.len 102)<|oF 104 101 (.bin .neq 103 z0)<|oT 105 99 (.pick 101 (.const (.bool true)) 104)<|oF 106 96 (.pick 99 105 (.const (.bool false)))<|o1 107 (.pick 96 (.const (.bool true)) 106) .done) (.cond 107 (sR (o1 8 (.mv nS)<|o1 9 (.mv (.const (.bool false))) .done) .ret) .skip)))))))))))) (sR (om 220 1<|oc 221 a13 [220]<|om 222 10<|oL 223 222<|ob 224 .neq 221 223 .done) (.cond 224 (sR (o1 8 (.mv nS)<|o1 9 (.mv (.const (.bool false))) .done) .ret) .skip))))))))) (rG (om 38 11<|ob 39 .add 38 z1<|om 11 39 .done))))))) (sR (om 225 10<|om 8 225<|o1 9 (.mv (.const (.bool true))) .done) .ret))))⟩
set_option maxRecDepth 4000 in
set_option maxHeartbeats 4000000 in
def ZI{P f f1 f2 f3 f4 f5 f6 f7 f8 f9 f10 f11 f12 f13 f14}(hd:dec P f=some (Kp f1 f2 f3 f4 f5 f6 f7 f8 f9 f10 f11 f12 f13 f14))(h1:P8 P f1)(h2:ND P f2)(h3:I0 P f3)(h4:FO P f4)(h5:LO P f5)
  (h6:GA P f6) (h7:PM P f7) (h8:LV P f8) (h9:MT P f9) (h10:Js P f10) (h11:KM P f11) (h12:Mh P f12) (h13:Qg P f13) (h14:ID P f14):Qp P f:=by
 intro d t dv pv w L bt Tt acts most N hp hg hw hmost
 obtain⟨bp,rfl⟩:=hp.ptr
 have hwl:=hw.B3
 obtain⟨a,cw,rfl⟩:=hw.val
 refine AF hd (Ada rfl) ?_
 show gwp P _ _ _ _ _
 (refine Ad<|Al rfl<|Ae rfl<|Aa<|Ad<|Al rfl<|Aa<|Af<|Ad<|Ab rfl<|Aa<|Ay ?_)
 refine CB (α:=Nat×Option Addr×Nat×List KV) (fun x=>[(0,pZ bp),(1,pZ bt),(2,.slice a acts.length cw),(3,vZ most),(10,.slice x.2.1 x.2.2.2.length x.2.2.1),(11,vZ x.1)])
  (fun x d' L'=>Le d d'∧x.1≤acts.length∧x.1≤most∧RSl 2 RKv d' (.slice x.2.1 x.2.2.2.length x.2.2.1) x.2.2.2∧∃t' P' J L2,L'=J++tbD bt Tt (pZ bp) t'::L2∧PgT d' t'.s dv (pZ bp) L2∧Gr N x.1 t' x.2.2.2 P')
  (fun x=>most - x.1) (0,none,0,[]) ⟨rfl,rfl,rfl,rfl,rfl,rfl,trivial⟩ ⟨Le.refl _,Aej _,Aej _,RSl.nil,t,[],[],L,rfl,hp,hg⟩ ?_
 rintro⟨i,la,lc,l⟩ ρ d' L' ⟨hle,hi,him,hl,t,P',J,L2,rfl,hp2,hg2⟩
 simp only at hi him hl hg2⊢
 have hw2:=RSl.mono (R:=RAc) US hw hle
 by_cases e:i<acts.length
 ·by_cases e2:i<most
  ·(refine Af<|Ad<|Ab rfl<|Al rfl<|AK rfl<|AE rfl rfl<|Ae rfl<|Bp rfl (by omega)<|Ah rfl<|Ab rfl<|Ah rfl<|Ab rfl<|Ah rfl<|AE rfl rfl<|AI rfl rfl<|Aa<|Ax rfl (by omega)<|Ak<|Af<|Ay<|Ad<|Al rfl<|Ab rfl ?_)
   refine BM (m:=i) rfl hw2 rfl rfl e (fun b o cs hcl hdc ⟨kv,vv,q,hk,hv⟩=>?_)
   subst q
   obtain⟨ka,kc,rfl⟩:=RSl.val hk
   obtain⟨va0,vc0,rfl⟩:=RSl.val hv
   obtain⟨hkl,hth⟩:=hg2.ok.far (by have:=hg2.ln;omega)
   (refine Aab rfl (by assumption) rfl<|B0 (fun _ _=>?_))
   rename_i b12 T12
   refine A6 0 [vZ acts[i].1,.slice ka acts[i].2.1.length kc,.slice va0 acts[i].2.2.length vc0] rfl rfl rfl rfl (Adi _) rfl rfl ?_
   generalize acts[i]=A at hk hv hcl hdc
   obtain⟨kind,key,val0⟩:=A
   simp only at hk hv hcl hdc⊢
   (refine Aa<|Ad<|Ai rfl<|Ag rfl (Aj 0 rfl rfl) ?_)
   refine Bl rfl (h1 hv (n:=700) (by omega)) (fun v0 d1 L1 _ ⟨z1,z2,hv1⟩=>?_)
   subst z1;subst z2
   rw[Ael]
   have hvl:(val0.take 700).length≤700:=by rw[Adz];omega
   generalize val0.take 700=val at hv1 hvl
   obtain⟨va,vc,rfl⟩:=RSl.val hv1
   (refine Al rfl<|Aa<|Ad<|Ai rfl<|Ag rfl (Aj 0 rfl rfl) ?_)
   refine BS rfl (h2 hk) ?_
   (refine Ab rfl<|Aa<|Ad<|Am rfl ?_)
   refine Ci (_::J) (h3 (t:=t) (L:=L2)) rfl rfl ?_
   (refine M4 rfl rfl (by omega) (by omega)<|AL rfl rfl (by omega) (by omega)<|Al rfl<|AK rfl ?_)
   refine BS rfl (h4 (n:=val.length) (by omega)) ?_
   have hpn:AQ val.length≤10:=by unfold AQ;omega
   (refine AL rfl rfl (by omega) (by omega)<|Ab rfl<|Aa<|Ad<|Am rfl ?_)
   have g5:∀{d t L},PgT d t dv (pZ bp) L→CV P f5 [pZ bp] d L (vZ ((t.free:Nat):Int)):=fun⟨n6,hp6⟩=>h5 (s:=wtc _ n6) hp6
   have hfr:t.s.free≤8192:=by have:=hg2.ok.gd.len;have:=List.countP_le_length (p:=(·==0)) (l:=t.s.kinds);unfold PD.free;omega
   refine Ci (_::J++[_]) (g5 hp2) (Agv (_::J) _ L2) rfl ?_
   by_cases k0:kind=0
   ·subst k0
    (refine Ab rfl<|Aa<|Af<|Ad<|Ai rfl<|Ag rfl (Aj 0 rfl rfl)<|Aa<|Ay<|Ad<|AO rfl rfl<|Ae rfl<|Aa<|Ax rfl (by omega)<|Ad ?_)
    refine DE (cs:=[]) (by simp) (by simp[Instr.fill,Bq]) (fun b110 T110=>?_)
    (apply Al;rfl)
    refine EL (R:=AP) (sz:=1) 0 rfl rfl (Ap.KZ (R:=AP) (sz:=1)) rfl (RSl.src (R:=AP) hv1 GR (by omega) _) (by omega) (by simp;omega) (by simp;omega) (fun v17 g17 o17=>?_)
    rw[Ael] at o17
    obtain⟨oa,oc,rfl⟩:=o17.val
    (refine Al rfl<|Aa<|Ad<|Am rfl<|Ai rfl<|Ag rfl (Aj 1 rfl rfl)<|Al rfl ?_)
    refine Dh (A:=tbD bt Tt _ t::g17::L2) (B:=_::J) (h6.own (Tt:=Tt) hp2 hk o17 hkl) ((Aep (l₁:=_::_::J)).trans (Ads _ (Ads _ Adl))) rfl (fun v d4 L4 hl4 ⟨_,e4,L5,e5,hp5⟩=>?_)
    subst e4;subst e5
    have hkk:=hk.B3
    have hll:l.length≤1000:=by have:=hg2.ln;omega
    have hl4':=RSl.mono (R:=RKv) EI hl hl4
    have hk4:=RSl.mono (R:=AP) A3 hk hl4
    have hv4:=RSl.mono (R:=AP) A3 hv1 hl4
    refine⟨d4,g17::(bx b12 T12 [vZ 0,.slice ka key.length kc,.slice va0 val0.length vc0]::J++tbD bt Tt (pZ bp) (CW t key val).1::L5),Vs.perm ((Aep (l₁:=_::_::J)).trans (Ads _ (Ads _ Adl))).symm,?_⟩
    rcases Mj (key:=key) with hwk|hwk
    ·rcases hg2.put hwk hvl with ⟨q1,P2,hg3⟩|⟨q1,q2,q3,hg3⟩
     ·rw[q1,hwk]
      clear q1
      generalize (CW t key val).1=t2 at hp5 hg3⊢
      (refine Ab rfl<|Aa<|Af<|Ad<|Ab rfl<|AO rfl rfl<|Ae rfl<|Bf rfl (by omega)<|Aq rfl<|Aq rfl<|Aw rfl rfl<|Ae rfl<|Aq rfl<|Aq rfl<|Aq rfl<|Aw rfl rfl<|Ae rfl<|Aq rfl<|Aq rfl<|Aq rfl<|Aq rfl<|Aw rfl rfl<|Aa<|AS rfl<|Ak<|Af<|Ad<|Ab rfl<|Ab rfl<|AN rfl rfl<|Aa<|Ar rfl (by omega)<|Ak<|Af<|Ad<|Ab rfl<|AO rfl rfl<|Aa<|Ax rfl (by omega)<|AB<|Al rfl<|Ai rfl<|Ag rfl (Aj 1 rfl rfl)<|Bi rfl (by assumption)<|Al rfl<|Bi rfl (by assumption) ?_)
      refine Bl rfl (h7 hl4' hkk (by omega) (by omega)) (fun u d5 L6 hl5 ⟨z1,_,z3⟩=>?_)
      subst z1
      obtain⟨la2,lc2,rfl⟩:=z3.val
      rw[Ael]
      have hct:=hg3.ok.ct
      (refine Al rfl<|Aa<|Ad<|Al rfl<|AK rfl<|Ab rfl<|Aa<|Ay ?_)
      refine CB (α:=Nat) (fun x=>[(0,pZ bp),(1,pZ bt),(2,.slice a acts.length cw),(3,vZ most),(10,.slice la2 (Ez l key val).length lc2),(11,vZ i),(17,.slice oa val.length oc),(148,vZ val.length),(149,vZ x)])
       (fun x dd L'=>dd=d5∧x≤val.length∧∃xs g,xs.length=val.length∧Ap 1 AP d5 (.slice oa val.length oc) xs g∧L'=g::(bx b12 T12 [vZ 0,.slice ka key.length kc,.slice va0 val0.length vc0]::J++tbD bt Tt (pZ bp) t2::L5)) (fun x=>val.length - x) 0 ⟨rfl,rfl,rfl,rfl,rfl,rfl,rfl,rfl,rfl,trivial⟩ ⟨rfl,Aej _,val,g17,rfl,Ap.mono (R:=AP) A3 o17 (hl4.trans hl5),rfl⟩ ?_
      rintro k ρ d9 L9 ⟨rfl,hk9,xs,g9,hxl,o9,rfl⟩
      by_cases e9:k<val.length
      ·obtain⟨gb,gT,gl,gc,e10,rfl,hml,hmg,hset⟩:=o9.MY (m:=k) (by omega)
       rw[hxl] at e10
       cases e10
       (refine Ad<|AE rfl rfl<|Aa<|Af<|Ax rfl (by omega)<|Ak<|Af<|Ay<|Ad<|Ab rfl<|Ab rfl<|Aa<|AB<|Al rfl<|Ab rfl<|Bz _ rfl rfl rfl (by omega) ?_)
       refine Ag rfl (Aj 0 rfl (by rw[Afn];exact hmg)) ?_
       refine Xh rfl rfl ?_
       refine K1 k rfl rfl rfl e9 ?_
       refine BU 0 rfl rfl rfl rfl (by first|omega|(simp[AA,Value.cells];omega)) rfl ?_
       (refine Aa<|AB<|AL rfl rfl (by omega) (by omega)<|Ab rfl<|Aa ?_)
       exact⟨k+1,by omega,⟨rfl,rfl,rfl,rfl,rfl,rfl,rfl,rfl,rfl,trivial⟩,rfl,e9,xs.set k _,_,by simpa using hxl,hset _,rfl⟩
      obtain rfl:k=val.length:=by omega
      (refine Ad<|AE rfl rfl<|Aa<|Af<|Ar rfl (by omega)<|Bg<|Ad<|Am rfl ?_)
      refine Ci (_::_::J) (h14 (t:=t2) (L:=L5)) rfl rfl ?_
      (refine Al rfl<|AK rfl<|AN rfl rfl<|Aa<|Ar rfl (by omega)<|Ak<|AB<|Ab rfl<|AL rfl rfl (by omega) (by omega)<|Ab rfl<|Aa ?_)
      exact⟨(i+1,la2,lc2,Ez l key val),by simp only;omega,⟨rfl,rfl,rfl,rfl,rfl,rfl,trivial⟩,(hle.trans hl4).trans hl5,e,e2,z3,t2,P2,_::_::J,L5,rfl,hp5.mono hl5,hg3⟩
     ·rw[q1,hwk]
      clear q1
      generalize (CW t key val).1=t2 at hp5 hg3 q3⊢
      have g5':=g5 hp5
      rw[q3] at g5'
      (refine Ab rfl<|Aa<|Af<|Ad<|Ab rfl<|AO rfl rfl<|Ae rfl<|Bp rfl (by omega)<|Ah rfl<|Ab rfl<|Ah rfl<|AO rfl rfl<|AI rfl rfl<|Ae rfl<|Bp rfl (by omega)<|Ah rfl<|Ab rfl<|Ah rfl<|Ab rfl<|Ah rfl<|AE rfl rfl<|AI rfl rfl<|Ae rfl<|Bp rfl (by omega)<|Ah rfl<|Am rfl<|Ah rfl ?_)
      refine Ci (_::_::J++[_]) g5' (Agv (_::_::J) _ L5) rfl ?_
      (refine Ah rfl<|Ab rfl<|Ah rfl<|AO rfl rfl<|AI rfl rfl<|Aa<|Ax rfl (by omega)<|Bg<|AB<|Ab rfl<|AL rfl rfl (by omega) (by omega)<|Ab rfl<|Aa ?_)
      exact⟨(i+1,la,lc,l),by simp only;omega,⟨rfl,rfl,rfl,rfl,rfl,rfl,trivial⟩,hle.trans hl4,e,e2,hl4',t2,P',_::_::J,L5,rfl,hp5,hg3⟩
    ·have hF:CW t key val=(t,2):=by unfold CW;rw[if_pos (by rw[hwk];decide),hwk]
     rw[hF] at hp5⊢
     rw[hwk]
     simp only at hp5⊢
     have hct:=hg2.ok.ct
     (refine Ab rfl<|Aa<|Af<|Ad<|Ab rfl<|AO rfl rfl<|Ae rfl<|Bf rfl (by omega)<|Aq rfl<|Aq rfl<|Aw rfl rfl<|Ae rfl<|Aq rfl<|Aq rfl<|Aq rfl<|Aw rfl rfl<|Ae rfl<|Aq rfl<|Aq rfl<|Aq rfl<|Aq rfl<|Aw rfl rfl<|Aa<|AS rfl<|Ak<|Af<|Ad<|Ab rfl<|Ab rfl<|AN rfl rfl<|Aa<|Ar rfl (by omega)<|Ak<|Af<|Ad<|Ab rfl<|AO rfl rfl<|Aa<|Ar rfl (by omega)<|Ak<|Ad<|Al rfl<|AK rfl<|Ab rfl<|Aa<|Ay ?_)
     refine CB (α:=Nat) (fun x=>[(0,pZ bp),(1,pZ bt),(2,.slice a acts.length cw),(3,vZ most),(10,.slice la (l).length lc),(11,vZ i),(17,.slice oa val.length oc),(148,vZ val.length),(149,vZ x)])
      (fun x dd L'=>dd=d4∧x≤val.length∧∃xs g,xs.length=val.length∧Ap 1 AP d4 (.slice oa val.length oc) xs g∧L'=g::(bx b12 T12 [vZ 0,.slice ka key.length kc,.slice va0 val0.length vc0]::J++tbD bt Tt (pZ bp) t::L5)) (fun x=>val.length - x) 0 ⟨rfl,rfl,rfl,rfl,rfl,rfl,rfl,rfl,rfl,trivial⟩ ⟨rfl,Aej _,val,g17,rfl,Ap.mono (R:=AP) A3 o17 hl4,rfl⟩ ?_
     rintro k ρ d9 L9 ⟨rfl,hk9,xs,g9,hxl,o9,rfl⟩
     by_cases e9:k<val.length
     ·obtain⟨gb,gT,gl,gc,e10,rfl,hml,hmg,hset⟩:=o9.MY (m:=k) (by omega)
      rw[hxl] at e10
      cases e10
      (refine Ad<|AE rfl rfl<|Aa<|Af<|Ax rfl (by omega)<|Ak<|Af<|Ay<|Ad<|Ab rfl<|Ab rfl<|Aa<|AB<|Al rfl<|Ab rfl<|Bz _ rfl rfl rfl (by omega) ?_)
      refine Ag rfl (Aj 0 rfl (by rw[Afn];exact hmg)) ?_
      refine Xh rfl rfl ?_
      refine K1 k rfl rfl rfl e9 ?_
      refine BU 0 rfl rfl rfl rfl (by first|omega|(simp[AA,Value.cells];omega)) rfl ?_
      (refine Aa<|AB<|AL rfl rfl (by omega) (by omega)<|Ab rfl<|Aa ?_)
      exact⟨k+1,by omega,⟨rfl,rfl,rfl,rfl,rfl,rfl,rfl,rfl,rfl,trivial⟩,rfl,e9,xs.set k _,_,by simpa using hxl,hset _,rfl⟩
     obtain rfl:k=val.length:=by omega
     (refine Ad<|AE rfl rfl<|Aa<|Af<|Ar rfl (by omega)<|Bg<|Ad<|Am rfl ?_)
     refine Ci (_::_::J) (h14 (t:=t) (L:=L5)) rfl rfl ?_
     (refine Al rfl<|AK rfl<|AN rfl rfl<|Aa<|Ar rfl (by omega)<|Ak<|AB<|Ab rfl<|AL rfl rfl (by omega) (by omega)<|Ab rfl<|Aa ?_)
     exact⟨(i+1,la,lc,l),by simp only;omega,⟨rfl,rfl,rfl,rfl,rfl,rfl,trivial⟩,hle.trans hl4,e,e2,hl4',t,P',_::_::J,L5,rfl,hp5,hg2.more (by omega)⟩
   ·have hkk:=hk.B3
    have hll:l.length≤1000:=by have:=hg2.ln;omega
    by_cases k1:kind=1
    ·subst k1
     (refine Ab rfl<|Aa<|Af<|Ad<|Ai rfl<|Ag rfl (Aj 0 rfl rfl)<|Aa<|Ay<|Ad<|AO rfl rfl<|Ae rfl<|Aa<|Ar rfl (by omega)<|Ad<|AO rfl rfl<|Ae rfl<|Aa<|Ax rfl (by omega)<|Ad<|Am rfl<|Ai rfl<|Ag rfl (Aj 0 rfl rfl) ?_)
     refine A7 (_::J) (h8 (t:=t) (Tt:=Tt) hp2 hk (fun _=>hg2.ok.can hll key)) rfl rfl (fun v d4 L4 hl4 ⟨_,e4,L5,e5,hp5⟩=>?_)
     subst e4;subst e5
     have hl4':=RSl.mono (R:=RKv) EI hl hl4
     have hk4:=RSl.mono (R:=AP) A3 hk hl4
     rcases Mj (key:=key) with hwk|hwk
     ·rcases hg2.del hwk with ⟨q1,q1',P2,hg3⟩|⟨q1,q1',q2,q3,hg3⟩
      ·rw[q1,q1',hwk]
       clear q1 q1'
       generalize (Cu t key).1=t2 at hp5 hg3⊢
       have hct:=hg3.ok.ct
       have hdk:(B7 l key).2=isK l key:=by unfold B7;cases hq:isK l key<;>simp
       generalize hbb:isK l key=bb at hdk
       cases bb with
       |true=>
        clear hbb
        (refine AU rfl<|Ao rfl rfl<|Ao rfl rfl<|Ae rfl<|Ab rfl<|Aa<|Af<|Ad<|Ab rfl<|AO rfl rfl<|Ae rfl<|Bf rfl (by omega)<|Aq rfl<|Aq rfl<|Aw rfl rfl<|Ae rfl<|Aq rfl<|Aq rfl<|Aq rfl<|Aw rfl rfl<|Ae rfl<|Aq rfl<|Aq rfl<|Aq rfl<|Aq rfl<|Aw rfl rfl<|Ae rfl<|Aq rfl<|Aq rfl<|Aw rfl rfl<|Aa<|AS rfl<|Ak<|Af<|Ad<|Ab rfl<|Ab rfl<|AN rfl rfl<|Aa<|Ar rfl (by omega)<|Ak<|Ad<|Al rfl<|Ai rfl<|Ag rfl (Aj 0 rfl rfl)<|Bi rfl (by assumption) ?_)
        refine Bl rfl (h9 hl4' hkk (by omega)) (fun u d5 L6 hl5 ⟨z1,_,u2,z2,z3⟩=>?_)
        rw[hdk] at z2
        subst z1;subst z2
        obtain⟨la2,lc2,rfl⟩:=z3.val
        rw[Ael]
        clear hdk
        (refine AU rfl<|Ao rfl rfl<|Ao rfl rfl<|Al rfl<|Ae rfl<|Aa<|Af<|Ad<|Ab rfl<|AO rfl rfl<|Ae rfl<|Bp rfl (by omega)<|Ah rfl<|Ae rfl<|Ah rfl<|Ae rfl<|Ah rfl<|IS rfl rfl<|AI rfl rfl<|Aa<|AS rfl<|Ak<|Ad<|Ab rfl<|AO rfl rfl<|Aa<|Ax rfl (by omega)<|AB<|Al rfl<|Al rfl<|Aa<|Ad<|Am rfl ?_)
        refine Ci (_::J) (h14 (t:=t2) (L:=L5)) rfl rfl ?_
        (refine Al rfl<|AK rfl<|AN rfl rfl<|Aa<|Ar rfl (by omega)<|Ak<|AB<|Ab rfl<|AL rfl rfl (by omega) (by omega)<|Ab rfl<|Aa ?_)
        exact⟨(i+1,la2,lc2,(B7 l key).1),by simp only;omega,⟨rfl,rfl,rfl,rfl,rfl,rfl,trivial⟩,(hle.trans hl4).trans hl5,e,e2,z3,t2,P2,_::J,L5,rfl,hp5.mono hl5,hg3.more (by omega)⟩
       |false=>
        clear hbb
        (refine AU rfl<|Ao rfl rfl<|Ao rfl rfl<|Ae rfl<|Ab rfl<|Aa<|Af<|Ad<|Ab rfl<|AO rfl rfl<|Ae rfl<|Bf rfl (by omega)<|Aq rfl<|Aq rfl<|Aw rfl rfl<|Ae rfl<|Aq rfl<|Aq rfl<|Aq rfl<|Aw rfl rfl<|Ae rfl<|Aq rfl<|Aq rfl<|Aq rfl<|Aq rfl<|Aw rfl rfl<|Ae rfl<|Aq rfl<|Aq rfl<|Aw rfl rfl<|Aa<|AS rfl<|Ak<|Af<|Ad<|Ab rfl<|Ab rfl<|AN rfl rfl<|Aa<|Ar rfl (by omega)<|Ak<|Ad<|Al rfl<|Ai rfl<|Ag rfl (Aj 0 rfl rfl)<|Bi rfl (by assumption) ?_)
        refine Bl rfl (h9 hl4' hkk (by omega)) (fun u d5 L6 hl5 ⟨z1,_,u2,z2,z3⟩=>?_)
        rw[hdk] at z2
        subst z1;subst z2
        obtain⟨la2,lc2,rfl⟩:=z3.val
        rw[Ael]
        clear hdk
        (refine AU rfl<|Ao rfl rfl<|Ao rfl rfl<|Al rfl<|Ae rfl<|Aa<|Af<|Ad<|Ab rfl<|AO rfl rfl<|Ae rfl<|Bp rfl (by omega)<|Ah rfl<|Ae rfl<|Ah rfl<|Ae rfl<|Ah rfl<|IS rfl rfl<|AI rfl rfl<|Aa<|AS rfl<|Ak<|Ad<|Ab rfl<|AO rfl rfl<|Aa<|Ax rfl (by omega)<|AB<|Al rfl<|Al rfl<|Aa<|Ad<|Am rfl ?_)
        refine Ci (_::J) (h14 (t:=t2) (L:=L5)) rfl rfl ?_
        (refine Al rfl<|AK rfl<|AN rfl rfl<|Aa<|Ar rfl (by omega)<|Ak<|AB<|Ab rfl<|AL rfl rfl (by omega) (by omega)<|Ab rfl<|Aa ?_)
        exact⟨(i+1,la2,lc2,(B7 l key).1),by simp only;omega,⟨rfl,rfl,rfl,rfl,rfl,rfl,trivial⟩,(hle.trans hl4).trans hl5,e,e2,z3,t2,P2,_::J,L5,rfl,hp5.mono hl5,hg3.more (by omega)⟩
      ·rw[q1,q1',hwk]
       clear q1 q1'
       generalize (Cu t key).1=t2 at hp5 hg3 q3⊢
       have g5':=g5 hp5
       rw[q3] at g5'
       (refine AU rfl<|Ao rfl rfl<|Ao rfl rfl<|Ae rfl<|Ab rfl<|Aa<|Af<|Ad<|Ab rfl<|AO rfl rfl<|Ae rfl<|Bp rfl (by omega)<|Ah rfl<|Ab rfl<|Ah rfl<|AO rfl rfl<|AI rfl rfl<|Ae rfl<|Bp rfl (by omega)<|Ah rfl<|Ab rfl<|Ah rfl<|Ab rfl<|Ah rfl<|AE rfl rfl<|AI rfl rfl<|Ae rfl<|Bp rfl (by omega)<|Ah rfl<|Am rfl<|Ah rfl ?_)
       refine Ci (_::J++[_]) g5' (Agv (_::J) _ L5) rfl ?_
       (refine Ah rfl<|Ab rfl<|Ah rfl<|AO rfl rfl<|AI rfl rfl<|Ae rfl<|Bp rfl (by omega)<|Ah rfl<|Ae rfl<|Ah rfl<|Bx rfl<|AI rfl rfl<|Aa<|Bj rfl<|Bg<|AB<|Ab rfl<|AL rfl rfl (by omega) (by omega)<|Ab rfl<|Aa ?_)
       exact⟨(i+1,la,lc,l),by simp only;omega,⟨rfl,rfl,rfl,rfl,rfl,rfl,trivial⟩,hle.trans hl4,e,e2,hl4',t2,P',_::J,L5,rfl,hp5,hg3.more (by omega)⟩
     ·have hF:Cu t key=(t,false,2):=by unfold Cu;rw[if_pos (by rw[hwk];decide),hwk]
      rw[hF] at hp5⊢
      rw[hwk]
      simp only at hp5⊢
      have hct:=hg2.ok.ct
      (refine AU rfl<|Ao rfl rfl<|Ao rfl rfl<|Ae rfl<|Ab rfl<|Aa<|Af<|Ad<|Ab rfl<|AO rfl rfl<|Ae rfl<|Bf rfl (by omega)<|Aq rfl<|Aq rfl<|Aw rfl rfl<|Ae rfl<|Aq rfl<|Aq rfl<|Aq rfl<|Aw rfl rfl<|Ae rfl<|Aq rfl<|Aq rfl<|Aq rfl<|Aq rfl<|Aw rfl rfl<|Ae rfl<|Aq rfl<|Aq rfl<|Aw rfl rfl<|Aa<|AS rfl<|Ak<|Af<|Ad<|Ab rfl<|Ab rfl<|AN rfl rfl<|Aa<|Ar rfl (by omega)<|Ak<|Ad<|Al rfl<|Ai rfl<|Ag rfl (Aj 0 rfl rfl)<|Bi rfl (by assumption) ?_)
      refine Bl rfl (h9 hl4' hkk (by omega)) (fun u d5 L6 hl5 ⟨z1,_,u2,z2,z3⟩=>?_)
      subst z1;subst z2
      obtain⟨la2,lc2,rfl⟩:=z3.val
      rw[Ael]
      (refine AU rfl<|Ao rfl rfl<|Ao rfl rfl<|Al rfl<|Ae rfl<|Aa<|Af<|Ad<|Ab rfl<|AO rfl rfl<|Ae rfl<|Bf rfl (by omega)<|Aq rfl<|Aq rfl<|Aq rfl<|Aw rfl rfl<|Aa<|AS rfl<|Ak<|Ad<|Ab rfl<|AO rfl rfl<|Aa<|Ar rfl (by omega)<|Ak<|Ad<|Am rfl ?_)
      refine Ci (_::J) (h14 (t:=t) (L:=L5)) rfl rfl ?_
      (refine Al rfl<|AK rfl<|AN rfl rfl<|Aa<|Ar rfl (by omega)<|Ak<|AB<|Ab rfl<|AL rfl rfl (by omega) (by omega)<|Ab rfl<|Aa ?_)
      exact⟨(i+1,la,lc,l),by simp only;omega,⟨rfl,rfl,rfl,rfl,rfl,rfl,trivial⟩,(hle.trans hl4).trans hl5,e,e2,RSl.mono (R:=RKv) EI hl4' hl5,t,P',_::J,L5,rfl,hp5.mono hl5,hg2.more (by omega)⟩
    ·by_cases k3:kind=3
     ·subst k3
      have g10:∀{d t L},PgT d t dv (pZ bp) L→Av P f10 [pZ bp] d L (Ret fun r d' L'=>r=vZ 0∧d'=d∧PgT d' t.flush dv (pZ bp) L'):=fun⟨n6,hp6⟩=>Av.DL (h10 (s:=wtc _ n6) hp6) (fun r d' L' _ ⟨z1,z2,z3⟩=>⟨d',L',Vs.refl _ _,z1,z2,n6,by rw[R1] at z3;exact z3⟩)
      have g11:∀{d t L},PgT d t dv (pZ bp) L→Av P f11 [pZ bp] d L (Ret fun r d' L'=>r=vZ 0∧d'=d∧PgT d' t.done dv (pZ bp) L'):=fun⟨n6,hp6⟩=>Av.DL (h11 (s:=wtc _ n6) hp6) (fun r d' L' _ ⟨z1,z2,z3⟩=>⟨d',L',Vs.refl _ _,z1,z2,n6,z3⟩)
      have hct:=hg2.ok.ct
      (refine Ab rfl<|Aa<|Af<|Ad<|Ai rfl<|Ag rfl (Aj 0 rfl rfl)<|Aa<|Ay<|Ad<|AO rfl rfl<|Ae rfl<|Aa<|Ar rfl (by omega)<|Ad<|AO rfl rfl<|Ae rfl<|Aa<|Ar rfl (by omega)<|Ad<|AO rfl rfl<|Ae rfl<|Aa<|Ax rfl (by omega)<|Ad<|Am rfl ?_)
      refine A7 (_::J++[_]) (g10 hp2) (Agv (_::J) _ L2) rfl (fun v d4 L4 hl4 ⟨e4,e5,hp5⟩=>?_)
      subst e4;subst e5
      (refine AN rfl rfl<|Ae rfl<|Bf rfl (by omega)<|Ah rfl<|Am rfl<|Ah rfl ?_)
      refine A7 (_::J++[_]) (g11 hp5) rfl rfl (fun v d5 L5 hl5 ⟨e6,e7,hp6⟩=>?_)
      subst e6;subst e7
      rw[show _::J++[tb bt Tt (pZ bp) t.root t.height t.count]++L5=_::(J++tbD bt Tt (pZ bp) t::L5) from(Agv (_::J) _ L5).symm]
      (refine Ah rfl<|AN rfl rfl<|Aw rfl rfl<|Aa<|Ar rfl (by omega)<|Ak<|Ad<|Am rfl ?_)
      refine Ci (_::J) (h14 (t:=t) (L:=L5)) rfl rfl ?_
      (refine Al rfl<|AK rfl<|AN rfl rfl<|Aa<|Ar rfl (by omega)<|Ak<|AB<|Ab rfl<|AL rfl rfl (by omega) (by omega)<|Ab rfl<|Aa ?_)
      exact⟨(i+1,la,lc,l),by simp only;omega,⟨rfl,rfl,rfl,rfl,rfl,rfl,trivial⟩,hle,e,e2,hl,{t with s:=t.s.fin},P',_::J,L5,rfl,hp6,hg2.fin.more (by omega)⟩
     ·(refine Ab rfl<|Aa<|Af<|Ad<|Ai rfl<|Ag rfl (Aj 0 rfl rfl)<|Aa<|Ay<|Ad<|AO rfl rfl<|Ae rfl<|Aa<|Ar rfl (by omega)<|Ad<|AO rfl rfl<|Ae rfl<|Aa<|Ar rfl (by omega)<|Ad<|AO rfl rfl<|Ae rfl<|Aa<|Ar rfl (by omega)<|Ad<|Am rfl<|Ai rfl<|Ag rfl (Aj 0 rfl rfl) ?_)
      refine A7 (_::J) (Aad (s:=t.s) (root:=t.root) (h:=t.height) (c:=t.count) (bt:=bt) (Tt:=Tt) h12 hp2 hk (by omega)) rfl rfl (fun v d4 L4 hl4 ⟨_,u,L5,e1,hu,e3,hp5⟩=>?_)
      subst e1;subst e3
      have hl4':=RSl.mono (R:=RKv) EI hl hl4
      have hk4:=RSl.mono (R:=AP) A3 hk hl4
      have hct:=hg2.ok.ct
      rcases Mj (key:=key) with hwk|hwk
      ·have hF:Ec ⟨t.s,t.root,t.height,t.count⟩ key=((Eo l key).1,(Eo l key).2,0):=hg2.ok.E0 hwk
       rw[hF] at hu⊢
       rw[hwk]
       simp only at hu⊢
       have hrk:=h13 hl4' hkk
       generalize Eo l key=G at hu hrk⊢
       obtain⟨gv,gb⟩:=G
       simp only at hu hrk⊢
       obtain⟨ua,uc,rfl⟩:=hu.val
       (refine AU rfl<|Ao rfl rfl<|Ao rfl rfl<|Ao rfl rfl<|Al rfl<|Ae rfl<|Ab rfl<|Aa<|Ad<|Al rfl<|Ai rfl<|Ag rfl (Aj 0 rfl rfl)<|Bi rfl (by assumption) ?_)
       refine BS rfl hrk ?_
       cases gb with
       |true=>
        (refine AU rfl<|Ao rfl rfl<|Ao rfl rfl<|Eb rfl<|Ae rfl<|Aa<|Ad<|Ab rfl<|Ab rfl<|AN rfl rfl<|Ae rfl<|Bf rfl (by omega)<|Ah rfl<|Ab rfl<|Ah rfl<|AO rfl rfl<|Ah rfl<|Ae rfl<|Bp rfl (by omega)<|Ah rfl<|Ae rfl<|Ah rfl<|Ae rfl<|Ah rfl<|IS rfl rfl<|Ah rfl<|Ae rfl<|Ah rfl<|Al rfl<|Ah rfl<|Bi rfl (by assumption)<|Ah rfl<|Eb rfl<|Ah rfl<|RL rfl rfl<|Ah rfl<|Aw rfl rfl<|Ah rfl<|AI rfl rfl<|Aw rfl rfl<|Ae rfl ?_)
        first|refine Z4 rfl (fun hq=>?_) (fun hq=>?_)|refine Y4 rfl (fun hq=>?_) (fun hq=>?_)
        ·exact absurd rfl hq
        ·clear hq
         (refine Ah rfl<|Ab rfl<|Ah rfl<|AN rfl rfl<|Ah rfl<|Ae rfl<|Bf rfl (by omega)<|Aq rfl<|Aq rfl<|DS rfl<|DS rfl<|DS rfl<|Aq rfl<|Ah rfl<|Aw rfl rfl<|Aw rfl rfl<|Aa<|AS rfl<|Ak<|Ad<|Am rfl ?_)
         refine Ci (_::J) (h14 (t:=t) (L:=L5)) rfl rfl ?_
         (refine Al rfl<|AK rfl<|AN rfl rfl<|Aa<|Ar rfl (by omega)<|Ak<|AB<|Ab rfl<|AL rfl rfl (by omega) (by omega)<|Ab rfl<|Aa ?_)
         exact⟨(i+1,la,lc,l),by simp only;omega,⟨rfl,rfl,rfl,rfl,rfl,rfl,trivial⟩,hle.trans hl4,e,e2,hl4',t,P',_::J,L5,rfl,hp5,hg2.more (by omega)⟩
       |false=>
        (refine AU rfl<|Ao rfl rfl<|Ao rfl rfl<|Eb rfl<|Ae rfl<|Aa<|Ad<|Ab rfl<|Ab rfl<|AN rfl rfl<|Ae rfl<|Bf rfl (by omega)<|Ah rfl<|Ab rfl<|Ah rfl<|AO rfl rfl<|Ah rfl<|Ae rfl<|Bp rfl (by omega)<|Ah rfl<|Ae rfl<|Ah rfl<|Ae rfl<|Ah rfl<|IS rfl rfl<|Ah rfl<|Ae rfl<|Ah rfl<|Al rfl<|Ah rfl<|Bi rfl (by assumption)<|Ah rfl<|Eb rfl<|Ah rfl<|RL rfl rfl<|Ah rfl<|Aw rfl rfl<|Ah rfl<|AI rfl rfl<|Aw rfl rfl<|Ae rfl ?_)
        first|refine Z4 rfl (fun hq=>?_) (fun hq=>?_)|refine Y4 rfl (fun hq=>?_) (fun hq=>?_)
        ·exact absurd rfl hq
        ·clear hq
         (refine Ah rfl<|Ab rfl<|Ah rfl<|AN rfl rfl<|Ah rfl<|Ae rfl<|Bf rfl (by omega)<|Aq rfl<|Aq rfl<|DS rfl<|DS rfl<|DS rfl<|Aq rfl<|Ah rfl<|Aw rfl rfl<|Aw rfl rfl<|Aa<|AS rfl<|Ak<|Ad<|Am rfl ?_)
         refine Ci (_::J) (h14 (t:=t) (L:=L5)) rfl rfl ?_
         (refine Al rfl<|AK rfl<|AN rfl rfl<|Aa<|Ar rfl (by omega)<|Ak<|AB<|Ab rfl<|AL rfl rfl (by omega) (by omega)<|Ab rfl<|Aa ?_)
         exact⟨(i+1,la,lc,l),by simp only;omega,⟨rfl,rfl,rfl,rfl,rfl,rfl,trivial⟩,hle.trans hl4,e,e2,hl4',t,P',_::J,L5,rfl,hp5,hg2.more (by omega)⟩
      ·have hF:Ec ⟨t.s,t.root,t.height,t.count⟩ key=([],false,2):=by unfold Ec;rw[if_pos (by rw[hwk];decide),hwk]
       rw[hF] at hu⊢
       rw[hwk]
       simp only at hu⊢
       have hrk:=h13 hl4' hkk
       generalize Eo l key=G at hrk
       obtain⟨gv,gb⟩:=G
       simp only at hrk
       obtain⟨ua,uc,rfl⟩:∃ua uc,u=.slice ua 0 uc:=hu.val
       (refine AU rfl<|Ao rfl rfl<|Ao rfl rfl<|Ao rfl rfl<|Al rfl<|Ae rfl<|Ab rfl<|Aa<|Ad<|Al rfl<|Ai rfl<|Ag rfl (Aj 0 rfl rfl)<|Bi rfl (by assumption) ?_)
       refine BS rfl hrk ?_
       (refine AU rfl<|Ao rfl rfl<|Ao rfl rfl<|Eb rfl<|Ae rfl<|Aa<|Ad<|Ab rfl<|Ab rfl<|AN rfl rfl<|Ae rfl<|Bf rfl (by omega)<|Ah rfl<|Ab rfl<|Ah rfl<|AO rfl rfl<|Ah rfl<|Ae rfl<|Bf rfl (by omega)<|Aq rfl<|Aq rfl<|Aq rfl<|Aq rfl<|DS rfl<|DS rfl<|DS rfl<|DS rfl<|Aq rfl<|Ah rfl<|Aw rfl rfl<|Aw rfl rfl<|Ae rfl<|Ah rfl<|Ab rfl<|Ah rfl<|AN rfl rfl<|Ah rfl<|Ae rfl<|Bp rfl (by omega)<|Ah rfl<|Ae rfl<|Ah rfl<|Ae rfl<|Ah rfl<|Al rfl<|Ah rfl<|AK rfl<|Ah rfl<|AN rfl rfl<|Ah rfl<|Aw rfl rfl<|Ah rfl<|AI rfl rfl<|Aw rfl rfl<|Aa<|Ar rfl (by omega)<|Ak<|Ad<|Am rfl ?_)
       refine Ci (_::J) (h14 (t:=t) (L:=L5)) rfl rfl ?_
       (refine Al rfl<|AK rfl<|AN rfl rfl<|Aa<|Ar rfl (by omega)<|Ak<|AB<|Ab rfl<|AL rfl rfl (by omega) (by omega)<|Ab rfl<|Aa ?_)
       exact⟨(i+1,la,lc,l),by simp only;omega,⟨rfl,rfl,rfl,rfl,rfl,rfl,trivial⟩,hle.trans hl4,e,e2,hl4',t,P',_::J,L5,rfl,hp5,hg2.more (by omega)⟩
  ·(refine Af<|Ad<|Ab rfl<|Al rfl<|AK rfl<|AE rfl rfl<|Ae rfl<|Bp rfl (by omega)<|Ah rfl<|Ab rfl<|Ah rfl<|Ab rfl<|Ah rfl<|AE rfl rfl<|AI rfl rfl<|Aa<|Ar rfl (by omega)<|Bg<|Ad<|Al rfl<|Al rfl<|Ae rfl<|Aa<|An ?_)
   exact Bd [.slice la l.length lc,.bool true] ⟨As rfl,As rfl,trivial⟩ (d':=d') (L':=tbD bt Tt (pZ bp) t::L2) (Vs.drop (Afc J _)) ⟨hle,_,t,l,P',L2,rfl,hl,hg2.more (by omega),rfl,hp2⟩
 ·(refine Af<|Ad<|Ab rfl<|Al rfl<|AK rfl<|AE rfl rfl<|Ae rfl<|Bf rfl (by omega)<|Aq rfl<|Aq rfl<|Aq rfl<|Aw rfl rfl<|Aa<|AS rfl<|Bg<|Ad<|Al rfl<|Al rfl<|Ae rfl<|Aa<|An ?_)
  exact Bd [.slice la l.length lc,.bool true] ⟨As rfl,As rfl,trivial⟩ (d':=d') (L':=tbD bt Tt (pZ bp) t::L2) (Vs.drop (Afc J _)) ⟨hle,_,t,l,P',L2,rfl,hl,hg2.more (by omega),rfl,hp2⟩
end
end Go.Gk.Tre
end
section
namespace Go.Gk.Tre
open Go Go.Gk Go.Gk.Dev Go.Gk.Cch Go.Gk.Pgr Go.Gk.Chn Go.Gk.Node
variable{R:RT}{t s:PD}{l l1 l2:List KV}{P cs Q:List Int}{x:KV}{N i h:Nat}{k:Int}{n:Az}{m md:MdD}{key:List UInt8}
def X7(hR:∀c l P,R c l P→KO (l.map Prod.fst)):∀{ks}{cs:List Int}{l}{P:List Int},Kd R ks cs l P→KO (l.map Prod.fst)
 |[],[c],l,P,h=>hR c l P h
 |[],[],l,P,h=>h.elim
 |[],_::_::_,l,P,h=>h.elim
 |_::_,[],l,P,h=>h.elim
 |k::ks,c::cs,l,P,h=>by
  obtain⟨l1,l2,P1,P2,rfl,rfl,h1,h2,h3,h4⟩:=Kd.cons.1 h;rw[List.map_append];refine KO.app.2 ⟨hR _ _ _ h1,X7 hR h4,fun x hx y hy=>?_⟩;obtain⟨x',hx',rfl⟩:=Ahq.1 hx;obtain⟨y',hy',rfl⟩:=Ahq.1 hy;exact Ho (h2 x' hx') (h3 y' hy')
def Xr:∀{h:Nat}{s}{k:Int}{l}{P:List Int},Tr s h k l P→KO (l.map Prod.fst)
 |0,s,k,l,P,h=>h.elim
 |h+1,s,k,l,P,⟨n,Q,hat,hne,eP,hn⟩=>by
  by_cases e:h=0
  ·rw[decide_eq_true e] at hn;obtain⟨n1,n2⟩:=hn.leaf;have hs:=hat.sound;rw[Dy hs n1] at hs;rw[←n2.keys];exact(Ck.1 hs).1
  ·rw[decide_eq_false e] at hn;exact X7 (fun c l P q=>Xr q) hn.inner.2
def Tok.asc{t:TD}(h:Tok t l P):KO (l.map Prod.fst):=by
 rcases h.tr with ⟨_,_,rfl,_⟩|⟨x,_,e⟩
 ·exact KO.nil
 ·exact Xr e
def Tok.Acp{t:TD}(h:Tok t l P)(hx:x∈l):BV x.1=0:=by
 have:=h.asc.1 x.1 (Agq hx);unfold BV;rw[if_neg (by omega)]
def Gr.empty{n:Nat}(h1:1≤n)(h2:n≤8000):Gr n 0 ⟨pdN n, -1,0,0⟩ [] []:=by
 refine⟨⟨Good.new h1 (by rw[Aet];omega) (by rw[Aet];omega),List.nodup_nil,rfl,.inl ⟨rfl,rfl,rfl,rfl⟩⟩,fun k=>⟨fun q=>?_,fun q=>(by cases q)⟩,Adi _,fun x hx=>(by cases hx),GF⟩
 have key:∀x:Int,0≤x→(pdN n).kind k=x→x=0:=fun x hx hk=>by
  obtain⟨i,i1, -,i2, -⟩:=CA hk hx;have:(pdN n).kd i=0:=by
   show(DK n []).getD i 0=0;rw[JP,if_neg (fun q=>by cases q.2)]
  omega
 rcases q with q|q
 ·exact absurd (key 1 (by omega) q) (by omega)
 ·exact absurd (key 2 (by omega) q) (by omega)
def PE{rec:Int→List Int×Int}(hR:∀c l P,R c l P→P.length≤8192→rec c=(P,0)):∀{ks}{cs:List Int}{l}{P acc:List Int},Kd R ks cs l P→(acc++P).length≤8192→ED rec acc cs=(acc++P,0)
 |[],[c],l,P,acc,h,hl=>by
  have hr:=hR c l P h (by simp at hl;omega);rw[ED,hr,if_neg (by simp),if_neg (by simp at hl⊢;omega),ED]
 |[],[],l,P,acc,h,_=>h.elim
 |[],_::_::_,l,P,acc,h,_=>h.elim
 |_::_,[],l,P,acc,h,_=>h.elim
 |k::ks,c::cs,l,P,acc,h,hl=>by
  obtain⟨l1,l2,P1,P2,rfl,rfl,h1,h2,h3,h4⟩:=Kd.cons.1 h;have hr:=hR c l1 P1 h1 (by simp at hl;omega);rw[ED,hr,if_neg (by simp),if_neg (by simp at hl⊢;omega),PE hR h4 (by simpa using hl),Adf]
def Ce.XV{c v}(h:Ce s c v P):(Ex c=false∧P=[])∨(Ex c=true∧Chn.Bw s (DR c) (Dt c)=(P,v,0)):=by
 rcases h with ⟨h1,rfl,rfl⟩|⟨h1,h2,h3,rfl⟩
 ·exact .inl ⟨by simp[Ex],rfl⟩
 ·obtain⟨q1,q2⟩:=Kj h3;exact .inr ⟨NT,by rw[J6 (by omega),Oc q1 (by omega),Ji h3 h2]⟩
def Ko:∀{ks vs l}{P acc:List Int},Lf s ks vs l P→(acc++P).length≤8192→Ge s acc vs=(acc++P,0)
 |[],[],l,P,acc,h,hl=>by rw[Lf] at h;rw[h.2,Ge];simp
 |[],_::_,l,P,acc,h,_=>by rw[Lf] at h<;>simp_all
 |_::_,[],l,P,acc,h,_=>by rw[Lf] at h<;>simp_all
 |k::ks,c::cs,l,P,acc,h,hl=>by
  rw[Lf] at h;obtain⟨v,l',P1,P2,rfl,rfl,h1,h2⟩:=h;rcases h1.XV with ⟨e,rfl⟩|⟨e,e2⟩
  ·rw[Ge,if_neg (by rw[e];decide),Ko h2 (by simpa using hl)];simp
  ·rw[Ge,if_pos e,e2,if_neg (by simp),if_neg (by simp at hl⊢;omega),Ko h2 (by simpa using hl),Adf]
def SG:∀(h:Nat) {s}{k:Int}{l}{P:List Int},Tr s (h+1) k l P→P.length≤8192→BX s k (h+1)=(P,0)
 |0,s,k,l,P,⟨n,Q,hat,hne,eP,hn⟩,hl=>by
  subst eP;rw[decide_eq_true rfl] at hn;obtain⟨n1,n2⟩:=hn.leaf;have ef:=Dy hat.sound n1;obtain⟨ks,vs,rfl⟩:∃ks vs,n=⟨true,ks,vs,[]⟩:=⟨_,_,ef⟩
  have hlv:=hat.level (x:=((0+1:Nat):Int)) rfl;have hk:ED (fun q=>BX s q 0) [k] []=([k],0):=rfl;rw[BX,hlv,if_neg (fun q=>q rfl)];show(if (ED (fun q=>BX s q 0) [k] []).2≠0 then _ else _)=_;rw[hk,if_neg (fun q=>q rfl)];exact Ko n2 (by simpa using hl)
 |h+1,s,k,l,P,⟨n,Q,hat,hne,eP,hn⟩,hl=>by
  subst eP;rw[decide_eq_false (Aeh _)] at hn;obtain⟨n1,n2⟩:=hn.inner;have ef:=C9 hat.sound n1;obtain⟨ks,cs,rfl⟩:∃ks cs,n=⟨false,ks,[],cs⟩:=⟨_,_,ef⟩
  have hlv:=hat.level (x:=((h+1+1:Nat):Int)) (by show false=_;exact(decide_eq_false (by omega)).symm);have hk:=PE (rec:=fun q=>BX s q (h+1)) (acc:=[k]) (fun c l P q hl=>SG h q hl) n2 (by simpa using hl);rw[BX,hlv,if_neg (fun q=>q rfl)];show(if (ED (fun q=>BX s q (h+1)) [k] cs).2≠0 then _ else _)=_;rw[hk,if_neg (fun q=>q rfl)];rfl
def Gn{frm:Nat}:∀{l:List Int}{i:Nat}{k:Int},k∈C4 frm l i↔∃j,j<l.length∧l.getD j 0=2∧k=((frm+(i+j):Nat):Int)
 |[],i,k=>by simp[C4]
 |x::l,i,k=>by
  rw[C4];constructor
  ·intro h;by_cases e:x=2
   ·rw[if_pos e] at h;rcases Adu.1 h with rfl|h
    ·exact⟨0,by simp,by simpa using e,rfl⟩
    ·obtain⟨j,h1,h2,h3⟩:=Gn.1 h;exact⟨j+1,by simpa using h1,by simpa using h2,by rw[h3];congr 1;omega⟩
   ·rw[if_neg e] at h;obtain⟨j,h1,h2,h3⟩:=Gn.1 h;exact⟨j+1,by simpa using h1,by simpa using h2,by rw[h3];congr 1;omega⟩
  ·rintro⟨j,h1,h2,h3⟩;cases j with
   |zero=>
    have e:x=2:=by simpa using h2
    rw[if_pos e,h3];exact Ado ..
   |succ j=>
    have:k∈C4 frm l (i+1):=Gn.2 ⟨j,by simpa using h1,by simpa using h2,by rw[h3];congr 1;omega⟩
    split
    ·exact Adp _ this
    ·exact this
def Iy{frm:Nat}:∀{l:List Int}{i:Nat},(C4 frm l i).Pairwise (·< ·)
 |[],i=>List.Pairwise.nil
 |x::l,i=>by
  rw[C4];split
  ·refine List.Pairwise.cons (fun y hy=>?_) Iy;obtain⟨j,_,_,rfl⟩:=Gn.1 hy;omega
  ·exact Iy
def Wk:∀{a b:List Int},a.Pairwise (·< ·)→b.Pairwise (·< ·)→(∀x,x∈a↔x∈b)→a=b
 |[],[],_,_,_=>rfl
 |[],y::b,_,_,h=>by have:=(h y).2 (Ado ..);cases this
 |x::a,[],_,_,h=>by have:=(h x).1 (Ado ..);cases this
 |x::a,y::b,ha,hb,h=>by
  obtain⟨a1,a2⟩:=Ahe.1 ha;obtain⟨b1,b2⟩:=Ahe.1 hb;have exy:x=y:=by
   rcases Adu.1 ((h x).1 (Ado ..)) with q|q
   ·exact q
   ·rcases Adu.1 ((h y).2 (Ado ..)) with r|r
    ·exact r.symm
    ·have:=b1 x q;have:=a1 y r;omega
  subst exy;congr 1;refine Wk a2 b2 (fun z=>⟨fun q=>?_,fun q=>?_⟩)
  ·rcases Adu.1 ((h z).1 (Adp _ q)) with r|r
   ·have:=a1 z q;omega
   ·exact r
  ·rcases Adu.1 ((h z).2 (Adp _ q)) with r|r
   ·have:=b1 z q;omega
   ·exact r
def Gr.QL{t:TD}(h:Gr N i t l P):t.s.fin.B5=P.mergeSort (fun x y=>decide (x≤y))∧P.length+t.s.fin.free=N:=by
 have hf:=h.fin;have hG:=h.ok.gd;have hl:t.s.fin.kinds.length=N:=hf.kn;have hmem:∀k,k∈t.s.fin.B5↔k∈P:=fun k=>by
  rw[←hf.on k];show k∈t.s.fin.B5↔A4 t.s.fin k;unfold PD.B5;rw[Gn];constructor
  ·rintro⟨j,h1,h2,rfl⟩;refine .inr ?_;rw[show 0+j=j by omega];exact(GB (s:=t.s.fin) h1).trans h2
  ·intro q;have hk2:t.s.fin.kind k=2:=by
    rcases q with q|q
    ·obtain⟨j,j1,_,j2,_⟩:=CA q (by omega);rcases LM hG (i:=j) with w|w<;>omega
    ·exact q
   obtain⟨j,j1,j2,j3,_⟩:=CA hk2 (by omega);exact⟨j,j1,j3,by rw[j2];congr 2;omega⟩
 have hperm:=List.mergeSort_perm P (fun x y=>decide (x≤y));have hsorted:(P.mergeSort (fun x y=>decide (x≤y))).Pairwise (·< ·):=by
  have h1:=List.pairwise_mergeSort (le:=fun x y:Int=>decide (x≤y)) (fun a b c h1 h2=>by simp only[decide_eq_true_eq] at*;omega) (fun a b=>by simp only[Bool.or_eq_true,decide_eq_true_eq];omega) P;have h2:(P.mergeSort (fun x y=>decide (x≤y))).Nodup:=hperm.nodup_iff.2 h.ok.nd;refine List.Pairwise.imp₂ (fun a b q1 q2=>?_) h1 h2;simp only[decide_eq_true_eq] at q1;omega
 have he:t.s.fin.B5=P.mergeSort (fun x y=>decide (x≤y)):=Wk Iy hsorted (fun x=>by rw[hmem,hperm.mem_iff]);refine⟨he,?_⟩
 have h1:t.s.fin.B5.length=t.s.fin.kinds.countP (·==2):=F4;have h2:=QX (l:=t.s.fin.kinds) (fun x hx=>by
  obtain⟨j,hj,rfl⟩:=Aez hx;have:=LM hG (i:=j);rw[GJ hj] at this;exact this)
 rw[he,hperm.length_eq] at h1;show P.length+t.s.fin.kinds.countP (·==0)=N;omega
def SR:∀{ks vs l}{P:List Int},Lf s ks vs l P→(∀x∈l,x.2.length≤700)→P.length≤3*l.length
 |[],[],l,P,h,_=>by rw[Lf] at h;rw[h.1,h.2];simp
 |[],_::_,l,P,h,_=>by rw[Lf] at h<;>simp_all
 |_::_,[],l,P,h,_=>by rw[Lf] at h<;>simp_all
 |k::ks,c::cs,l,P,h,hv=>by
  rw[Lf] at h;obtain⟨v,l',P1,P2,rfl,rfl,h1,h2⟩:=h;have ih:=SR h2 (fun x hx=>hv x (Adp _ hx));have hvl:=hv (k,v) (Ado ..);have h3:P1.length≤3:=by
   rcases h1 with ⟨_,_,rfl⟩|⟨_,_,q,_⟩
   ·simp
   ·rw[q.len];unfold AQ;simp only at hvl;omega
  simp only[Adj,Adm];omega
def SC(hR:∀c l P,R c l P→(∀x∈l,x.2.length≤700)→P.length+1≤5*l.length):∀{ks}{cs:List Int}{l}{P:List Int},Kd R ks cs l P→(∀x∈l,x.2.length≤700)→P.length+(ks.length+1)≤5*l.length
 |[],[c],l,P,h,hv=>by simpa using hR c l P h hv
 |[],[],l,P,h,_=>h.elim
 |[],_::_::_,l,P,h,_=>h.elim
 |_::_,[],l,P,h,_=>h.elim
 |k::ks,c::cs,l,P,h,hv=>by
  obtain⟨l1,l2,P1,P2,rfl,rfl,h1,h2,h3,h4⟩:=Kd.cons.1 h;have a:=hR _ _ _ h1 (fun x hx=>hv x (Adw _ hx));have b:=SC hR h4 (fun x hx=>hv x (Ady _ hx));simp only[Adj,Adm];omega
def R4:∀(h:Nat) {s}{k:Int}{l}{P:List Int},Tr s (h+1) k l P→(∀x∈l,x.2.length≤700)→P.length+1≤5*l.length
 |0,s,k,l,P,ht,hv=>by
  have hne:=Em.1 ht.ne;obtain⟨n,Q,hat,_,eP,hn⟩:=ht;rw[decide_eq_true rfl] at hn;have:=SR hn.leaf.2 hv;rw[eP,Adm];omega
 |h+1,s,k,l,P,⟨n,Q,hat,hne,eP,hn⟩,hv=>by
  rw[decide_eq_false (Aeh _)] at hn;have h1:=SC (fun c l P q hv=>R4 h q hv) hn.inner.2 hv;have h2:=Em.1 hne;rw[eP,Adm];omega
def A8(s:PD):Nat→Int→List Int
 |0,_=>[]
 |h+1,k=>if h=0 then [k] else(Bk s k).1.kids.flatMap (A8 s h)
def Ik{ks}(hat:At s k ⟨false,ks,[],cs⟩):A8 s (h+1+1) k=cs.flatMap (A8 s (h+1)):=by
 rw[A8,if_neg (by omega),hat.read]
def G7{f g:Int→List Int}(hR:∀c l P,R c l P→f c=g c):∀{ks}{cs:List Int}{l}{P:List Int},Kd R ks cs l P→cs.flatMap f=cs.flatMap g
 |[],[c],l,P,h=>by simp[hR c l P h]
 |[],[],l,P,h=>h.elim
 |[],_::_::_,l,P,h=>h.elim
 |_::_,[],l,P,h=>h.elim
 |k::ks,c::cs,l,P,h=>by
  obtain⟨l1,l2,P1,P2,rfl,rfl,h1,h2,h3,h4⟩:=Kd.cons.1 h;simp only[Agz,hR _ _ _ h1,G7 hR h4]
def EV:∀(h:Nat) {s t}{k:Int}{l}{P:List Int},Tr s (h+1) k l P→CQ s t P→A8 t (h+1) k=A8 s (h+1) k
 |0,s,t,k,l,P,ht,hs=>rfl
 |h+1,s,t,k,l,P,⟨n,Q,hat,hne,eP,hn⟩,hs=>by
  subst eP;rw[decide_eq_false (Aeh _)] at hn;obtain⟨n1,n2⟩:=hn.inner;have ef:=C9 hat.sound n1;obtain⟨ks,cs,rfl⟩:∃ks cs,n=⟨false,ks,[],cs⟩:=⟨_,_,ef⟩
  have hat':=hat.stay (hs k (Ado ..));rw[Ik hat,Ik hat'];exact G7 (R:=fun c l P=>Tr s (h+1) c l P∧CQ s t P) (fun c l P q=>EV h q.1 q.2) (n2.mono (fun c l P' hP q=>⟨q,fun p hp=>hs p (Adp _ (hP p hp))⟩))
def B6(s:PD)(h:Nat)(m:MdD):List Int:=A8 s (h+1) m.page++if m.other<0 then [] else A8 s (h+1) m.other
def Ua(s:PD)(m:MdD):1≤(B6 s 0 m).length∧(B6 s 0 m).length≤2:=by
 unfold B6;simp only[A8,if_true];split<;>simp
def QT(hn:Nd s (Tr s (h+1)) false n l Q)(hs:CQ s t Q):n.kids.flatMap (A8 t (h+1))=n.kids.flatMap (A8 s (h+1)):=
 G7 (R:=fun c l P=>Tr s (h+1) c l P∧CQ s t P) (fun c l P q=>EV h q.1 q.2) (hn.inner.2.mono (fun c l P' hP q=>⟨q,fun p hp=>hs p (hP p hp)⟩))
def Ee(hat:At s k n):A8 s (h+1+1) k=n.kids.flatMap (A8 s (h+1)):=by
 rw[A8,if_neg (by omega),hat.read]
def Hm(hG:Pgr.Good s)(hn:Nd s (Tr s (h+1)) false n l Q)(hs:A0 n=true)(hh:AY n≤440)(hk:A4 s k)(hkQ:k∉Q)(h0:(AW s k n).2.2=0):
  B6 (AW s k n).1 (h+1) (AW s k n).2.1=n.kids.flatMap (A8 s (h+1)):=by
 have hlf:=hn.inner.1
 have hl:=hn.live
 have hkq:∀p∈Q,p∉ [k]:=fun p hp q=>hkQ (Adq.1 q▸hp)
 rcases PY hG hs (fun hz=>PU (by rw[hlf];simpa using hh) (OR hs hz)) hk with ⟨h1,⟨p,e,h2,h3⟩|⟨hc,hH,p,q,e,hq,h2,h3,h4⟩⟩|⟨h1,_⟩
 ·have hsm:=h2.same hl hkq
  rw[e]
  unfold B6
  rw[if_pos (by show(-1:Int)<0;decide),Aed]
  show A8 (AW s k n).1 (h+1+1) p=_
  rw[Ee h3]
  exact QT hn hsm
 ·have hsm:=h2.same hl hkq
  have eL:=Jg hc
  have eR:=Nq hc
  rw[hlf] at eL eR
  have hall:=hH.all
  unfold BE at hall
  rw[if_neg (by rw[eL];decide)] at hall
  have k2:(AZ n).kids++(Bc n).kids=n.kids:=congrArg Az.kids hall
  rw[e]
  unfold B6
  rw[if_neg (by show¬q<0;omega)]
  show A8 (AW s k n).1 (h+1+1) p++A8 (AW s k n).1 (h+1+1) q=_
  rw[Ee h3,Ee h4,←Ahd,k2]
  exact QT hn hsm
 ·rw[h1] at h0;cases h0
def Dz(m:MdD):List Int:=if m.other<0 then [m.page] else [m.page,m.other]
def GL:(Dz m).flatMap (A8 s (h+1))=B6 s h m:=by
 unfold Dz B6;split<;>simp
def RU(hG:Pgr.Good t){c:Int}{a b}{ca cb:List Int}{m'}{P1 Pm P2:List Int}
  (hat:At t k ⟨false,a++b,[],ca++[c]++cb⟩) (ea:ca.length=a.length) (hl:KL (Tr t (h+1)) a ca l1 P1) (hr:KR (Tr t (h+1)) b cb l2 P2) (ho:Out t h 1 md m' Pm)
  (ba:∀k∈a,∀x∈m',¬Lt x.1 k) (bb:∀k∈b,∀x∈m',Lt x.1 k) (hnd:(k::(P1++Pm++P2)).Nodup) (h0:(BJ t k ⟨false,a++b,[],ca++[c]++cb⟩ a.length md).2.2=0):
  B6 (BJ t k ⟨false,a++b,[],ca++[c]++cb⟩ a.length md).1 (h+1) (BJ t k ⟨false,a++b,[],ca++[c]++cb⟩ a.length md).2.1=ca.flatMap (A8 t (h+1))++B6 t h md++cb.flatMap (A8 t (h+1)):=by
 obtain⟨hko,hlen,hrng⟩:=Bs.1 hat.sound
 have hsz:=hat.size
 rw[size_inner] at hsz
 obtain⟨hkQ,_⟩:=Afo.1 hnd
 have e0:(ca++[c]++cb).getD a.length 0=c:=by rw[←ea];exact Dd
 unfold BJ at*
 simp only[e0] at*
 by_cases h1:c=md.page∧md.other<0
 ·rw[if_pos h1] at*
  obtain⟨h1,h2⟩:=h1
  subst h1
  show B6 t (h+1) ⟨k, -1,[],_⟩=_
  unfold B6
  rw[if_pos (by show(-1:Int)<0;decide),if_pos h2,Aed,Aed]
  show A8 t (h+1+1) k=_
  rw[Ik hat];simp
 ·rw[if_neg h1] at*
  by_cases h2:0≤md.other
  ·rw[if_pos h2] at*
   have hko2:Dz md=[md.page,md.other]:=by unfold Dz;rw[if_neg (by omega)]
   rw[←GL (s:=t) (h:=h) (m:=md),hko2]
   rcases ho with ⟨q,_⟩|⟨_,_,m1,m2,Q1,Q2,rfl,rfl,g1,g2,g3,g4,g5,g6⟩
   ·omega
   ·have e1:B1 (a++b) a.length md.key=a++[md.key]++b:=IF
    have e2:B1 ((ca++[c]++cb).set a.length md.page) (a.length+1) md.other=ca++[md.page,md.other]++cb:=by rw[←ea,Eh,Mq]
    simp only[e1,e2] at*
    obtain⟨x1,r1,f1⟩:=Aev g1.ne
    obtain⟨x2,r2,f2⟩:=Aev g2.ne
    obtain⟨ko1,ko2,ko3⟩:=KO.app.1 hko
    have ha':∀k∈a,Lt k md.key:=fun p hp=>E4 (ba p hp x1 (by simp[f1])) (g3 x1 (by simp[f1]))
    have hb':∀k∈b,Lt md.key k:=fun p hp=>E4 (g4 x2 (by simp[f2])) (bb p hp x2 (by simp[f2]))
    have hko':KO (a++[md.key]++b):=by
     rw[Adf];refine KO.app.2 ⟨ko1,KO.cons.2 ⟨⟨g5,g6⟩,ko2,hb'⟩,fun x hx y hy=>?_⟩;rcases Adu.1 hy with rfl|hy
     ·exact ha' x hx
     ·exact ko3 x hx y hy
    obtain⟨n1,n1Q,n1a,_,n1e,_⟩:=id g1
    obtain⟨n2,n2Q,n2a,_,n2e,_⟩:=id g2
    have hso:A0 ⟨false,a++[md.key]++b,[],ca++[md.page,md.other]++cb⟩=true:=by
     refine Bs.2 ⟨hko',?_,fun p hp=>?_⟩
     ·simp only[Adj,Adm,Aem] at hlen⊢;omega
     ·rcases Adg.1 hp with hp|hp
      ·rcases Adg.1 hp with hp|hp
       ·exact hrng p (by simp[hp])
       ·rcases Adu.1 hp with rfl|hp
        ·exact Cl hG n1a.liv
        ·rw[Adq.1 hp];exact Cl hG n2a.liv
      ·exact hrng p (by simp[hp])
    have:=Hm hG (h:=h) (Q:=P1++(Q1++Q2)++P2) (.mki rfl (Kd.Eu (km:=[md.key]) (cm:=[md.page,md.other]) hl (Kd.cons.2 ⟨m1,m2,Q1,Q2,rfl,rfl,g1,g3,g4,Kd.one.2 g2⟩) hr hko' ba bb)) hso (by
      rw[size_inner];simp only[Adj,Adm,Aem,Cg,Cz] at hsz⊢;omega) hat.liv hkQ h0
    rw[this]
    simp
  ·rw[if_neg h2] at*
   have hko2:Dz md=[md.page]:=by unfold Dz;rw[if_pos (by omega)]
   rw[←GL (s:=t) (h:=h) (m:=md),hko2]
   have e2:(ca++[c]++cb).set a.length md.page=ca++[md.page]++cb:=by rw[←ea,Eh]
   simp only[e2] at*
   have htr:=ho.tr (by omega) (Adi _)
   obtain⟨n1,n1Q,n1a,_,n1e,_⟩:=id htr
   have hso:A0 ⟨false,a++b,[],ca++[md.page]++cb⟩=true:=by
    refine Bs.2 ⟨hko,?_,fun p hp=>?_⟩
    ·simp only[Adj,Adm,Aem] at hlen⊢;omega
    ·rcases Adg.1 hp with hp|hp
     ·rcases Adg.1 hp with hp|hp
      ·exact hrng p (by simp[hp])
      ·rw[Adq.1 hp];exact Cl hG n1a.liv
     ·exact hrng p (by simp[hp])
   have:=Hm hG (h:=h) (Q:=P1++Pm++P2) (.mki rfl (by
    have:=Kd.Eu (km:=[]) (cm:=[md.page]) hl (Kd.one.2 htr) hr (by simpa using hko) ba bb;simpa using this)) hso (by
     rw[size_inner];simp only[Adj,Adm,Aem] at hsz⊢;omega) hat.liv hkQ h0
   rw[this]
   simp
def Pk(o:Out s h 1 m l P)(hs:CQ s t P):B6 t h m=B6 s h m:=by
 have o':=o;rcases o with ⟨h1,_⟩|⟨h1,_,l1,l2,P1,P2,rfl,rfl,h3,h4,_⟩
 ·unfold B6;rw[if_pos h1,if_pos h1,EV h (o'.tr h1 (Adi _)) hs]
 ·unfold B6;rw[if_neg (by omega),if_neg (by omega),EV h h3 (hs.sub (fun p hp=>Adw _ hp)),EV h h4 (hs.sub (fun p hp=>Ady _ hp))]
def QE{ks}(hk:Kd (Tr s (h+1)) ks cs l P)(hs:CQ s t P):cs.flatMap (A8 t (h+1))=cs.flatMap (A8 s (h+1)):=
 G7 (R:=fun c l P=>Tr s (h+1) c l P∧CQ s t P) (fun c l P q=>EV h q.1 q.2) (hk.mono (fun c l P' hP q=>⟨q,fun p hp=>hs p (hP p hp)⟩))
def WG{ks}(hk:KL (Tr s (h+1)) ks cs l P)(hs:CQ s t P):cs.flatMap (A8 t (h+1))=cs.flatMap (A8 s (h+1)):=by
 rcases hk with ⟨_,rfl,_⟩|⟨_,_,_,q,_⟩
 ·rfl
 ·exact QE q hs
def QS{ks}(hk:KR (Tr s (h+1)) ks cs l P)(hs:CQ s t P):cs.flatMap (A8 t (h+1))=cs.flatMap (A8 s (h+1)):=by
 rcases hk with ⟨_,rfl,_⟩|⟨_,_,_,q,_⟩
 ·rfl
 ·exact QE q hs
def Un(hG:Pgr.Good t){i0:Nat}{c1 c2:Int}{a b kk}{ca cb:List Int}{n1 n2:Az}{m1 m2}{P1 Q1 Q2 P2:List Int}
  (hk:A4 t k) (ea:ca.length=a.length) (eb:cb.length=b.length) (hko:KO (a++[kk]++b)) (hrng:∀c∈ca++cb,0≤c∧c≤8191) (hsz:AY (⟨false,a++[kk]++b,[],ca++[c1,c2]++cb⟩:Az)≤256)
  (hi:a.length=if i0=(a++[kk]++b).length then i0 - 1 else i0)
  (hl:KL (Tr t (h+1)) a ca l1 P1) (hr:KR (Tr t (h+1)) b cb l2 P2) (a1:At t c1 n1) (d1:Nd t (Tr t h) (decide (h=0)) n1 m1 Q1) (a2:At t c2 n2) (d2:Nd t (Tr t h) (decide (h=0)) n2 m2 Q2)
  (hz:AY n1+AY n2≤335) (hne:n1.keys≠[]∨n2.keys≠[]) (b1:∀x∈m1,Lt x.1 kk) (b2:∀x∈m2,¬Lt x.1 kk) (ba:∀k∈a,∀x∈m1++m2,¬Lt x.1 k) (bb:∀k∈b,∀x∈m1++m2,Lt x.1 k)
  (hnd:(k::(P1++(c1::Q1++c2::Q2)++P2)).Nodup)
  (h0:(C1 t k ⟨false,a++[kk]++b,[],ca++[c1,c2]++cb⟩ i0).2.2=0):
  ∃X,B6 (C1 t k ⟨false,a++[kk]++b,[],ca++[c1,c2]++cb⟩ i0).1 (h+1) (C1 t k ⟨false,a++[kk]++b,[],ca++[c1,c2]++cb⟩ i0).2.1=ca.flatMap (A8 t (h+1))++X++cb.flatMap (A8 t (h+1))∧((h=0∧X.length≤2)∨(h≠0∧X=A8 t (h+1) c1++A8 t (h+1) c2)):=by
 obtain⟨ko1,ko2,ko3⟩:=KO.app.1 hko
 obtain⟨ko4,ko5,ko6⟩:=KO.app.1 ko1
 have hkk:=ko5.1 kk (by simp)
 have e1:(ca++[c1,c2]++cb).getD a.length 0=c1:=by rw[←ea];exact Lu
 have e2:(ca++[c1,c2]++cb).getD (a.length+1) 0=c2:=by rw[←ea];exact Me
 have e3:(a++[kk]++b).getD a.length []=kk:=Dd
 have hm:=J0 (s:=t) (k:=k) (n:=⟨false,a++[kk]++b,[],ca++[c1,c2]++cb⟩) (i0:=i0) (i:=a.length) (a:=(n1,0)) (b:=(n2,0)) (by simp) hi (by rw[show(⟨false,a++[kk]++b,[],ca++[c1,c2]++cb⟩:Az).kids.getD a.length 0=c1 from e1];exact a1.read)
  (by rw[show(⟨false,a++[kk]++b,[],ca++[c1,c2]++cb⟩:Az).kids.getD (a.length+1) 0=c2 from e2];exact a2.read)
 rw[hm,if_neg (fun q=>q rfl),if_neg (fun q=>q rfl),if_neg (fun q=>q (d1.1.trans d2.1.symm))] at h0⊢
 clear hm
 simp only[e1,e2,e3] at h0⊢
 obtain⟨dj,sj,zj,lj,ej⟩:=d1.join (fun c l P q=>Tr.ne q) d2 a1.sound a2.sound b1 b2 hkk
 have hp0:(k::(P1++(c1::Q1++c2::Q2)++P2)).Perm ((c1::(Q1++Q2))++([c2]++(k::(P1++P2)))):=Aeb.2 fun a=>by
  simp only[Aeg,Aeo,Afs];omega
 obtain⟨q1,q2,q3⟩:=Afl.1 (hp0.nodup_iff.1 hnd)
 have q3':∀p∈[c2]++(k::(P1++P2)),p∉c1::(Q1++Q2):=fun p h1 h2=>q3 p h2 p h1 rfl
 have hR:∀p∈[c2]++(k::(P1++P2)),A4 t p:=fun p hp=>by
  rcases Adg.1 hp with hp|hp
  ·rw[Adq.1 hp];exact a2.liv
  ·rcases Adu.1 hp with rfl|hp
   ·exact hk
   ·exact(Adg.1 hp).elim (hl.live p) (hr.live p)
 have hzj:AY (BE n1 n2 kk)≤if (BE n1 n2 kk).leaf=true then 340 else 440:=by
  rw[lj];cases hb:decide (h=0) with
  |true=>rw[hb] at zj;simp only[if_true] at zj⊢;omega
  |false=>rw[hb] at zj;simp only[Adk,if_false] at zj⊢;omega
 have hkj:1≤(BE n1 n2 kk).keys.length:=Em.1 fun e=>by
  obtain⟨-,f1,f2⟩:=ej e;exact hne.elim (fun q=>q f1) (fun q=>q f2)
 have hs0:=Fl hG (h:=h) (z:=1) dj sj hzj a1.liv hkj q1
 have hX:(AW t c1 (BE n1 n2 kk)).2.2=0→(h=0∧(B6 (AW t c1 (BE n1 n2 kk)).1 h (AW t c1 (BE n1 n2 kk)).2.1).length≤2)∨(h≠0∧B6 (AW t c1 (BE n1 n2 kk)).1 h (AW t c1 (BE n1 n2 kk)).2.1=A8 t (h+1) c1++A8 t (h+1) c2):=fun hz0=>by
  cases h with
  |zero=>exact .inl ⟨rfl,(Ua _ _).2⟩
  |succ h=>
   refine .inr ⟨Aeh _,?_⟩
   rw[decide_eq_false (Aeh _)] at dj d1 d2 lj
   have hj:(BE n1 n2 kk).kids=n1.kids++n2.kids:=by unfold BE;rw[if_neg (by rw[d1.1];decide)]
   rw[Hm hG dj sj (by rw[lj] at hzj;simpa using hzj) a1.liv (Afo.1 q1).1 hz0,hj,Ahd,Ee a1,Ee a2]
 generalize AW t c1 (BE n1 n2 kk)=w at hs0 hX h0⊢
 rcases hs0.symm with ⟨w1,w2⟩|⟨w1,Pj,w2,w3⟩
 ·rw[if_pos (by rw[w1];decide)] at h0
  exact absurd (h0.symm.trans w1) (by decide)
 rw[if_neg (by rw[w1];decide)] at h0⊢
 have hX:=hX w1
 have hsm1:=w2.same hR q3'
 have w4:=w2.frame hR q2 q3'
 have hp1:(Pj++([c2]++(k::(P1++P2)))).Perm ([c2]++(Pj++(k::(P1++P2)))):=Aeb.2 fun a=>by
  simp only[Aeg,Aeo,Afs];omega
 obtain⟨r1,r2,r3⟩:=Afl.1 (hp1.nodup_iff.1 w4.nd)
 have r3':∀p∈Pj++(k::(P1++P2)),p∉ [c2]:=fun p h1 h2=>r3 p h2 p h1 rfl
 have hc2:A4 w.1 c2:=by unfold A4;rw[(hsm1 c2 (by simp)).1];exact a2.liv
 obtain⟨u1,u2⟩:=FI w2.gd hc2
 have hR2:∀p∈Pj++(k::(P1++P2)),A4 w.1 p:=fun p hp=>(w4.lv p).2 (.inr (by
  rcases Adg.1 hp with q|q
  ·exact Adw _ q
  ·exact Ady _ (Ady _ q)))
 have hsm2:=u2.same hR2 r3'
 have u3:=u2.frame hR2 r2 r3'
 generalize w.1.drop c2=u at u1 u2 u3 hsm2 h0⊢
 rw[if_neg (by rw[u1];decide)] at h0⊢
 have hsm:CQ t u.1 (k::(P1++P2)):=(hsm1.sub (fun p hp=>Ady _ hp)).trans (hsm2.sub (fun p hp=>Ady _ hp))
 have hl':=hl.stay (hsm.sub (fun p hp=>by simp[hp]))
 have hr':=hr.stay (hsm.sub (fun p hp=>by simp[hp]))
 have ho':=w3.stay (hsm2.sub (fun p hp=>Adw _ hp))
 have hk':A4 u.1 k:=by unfold A4;rw[(hsm k (by simp)).1];exact hk
 have M:Mv t u.1 (k::(P1++(c1::Q1++c2::Q2)++P2)) (k::(P1++Pj++P2)) 2:=by
  refine((w4.trans (u3.perm hp1 (Aeq _))).perm hp0 ?_).mono (by omega);refine Aeb.2 fun a=>?_;simp only[Aeg,Aeo,Afs];omega
 have hd:decide (h+1=0)=false:=decide_eq_false (Aeh _)
 have hGu:=u2.gd
 have hszE:=hsz
 rw[size_inner] at hszE
 have hlo:=Pk w3 (hsm2.sub (fun p hp=>Adw _ hp))
 have hla:=WG hl (hsm.sub (fun p hp=>by simp[hp]))
 have hlb:=QS hr (hsm.sub (fun p hp=>by simp[hp]))
 have hkQ:=(Afo.1 M.nd).1
 have fin:∀{n':Az}{l},n'.leaf=false→Nd u.1 (Tr u.1 (h+1)) (decide (h+1=0)) n' l (P1++Pj++P2)→A0 n'=true→AY n'≤440→n'.kids=ca++Dz w.2.1++cb→(AW u.1 k n').2.2=0→
   ∃X,B6 (AW u.1 k n').1 (h+1) (AW u.1 k n').2.1=ca.flatMap (A8 t (h+1))++X++cb.flatMap (A8 t (h+1))∧((h=0∧X.length≤2)∨(h≠0∧X=A8 t (h+1) c1++A8 t (h+1) c2)):=by
  intro n' l hlf hnd' hs' hz' hkids h0'
  rw[hd] at hnd'
  refine⟨B6 w.1 h w.2.1,?_,hX⟩
  rw[Hm hGu hnd' hs' hz' hk' hkQ h0',hkids,Ahd,Ahd,GL,hlo,hla,hlb]
 by_cases h2:0≤w.2.1.other
 ·rw[if_pos h2] at h0⊢
  have hko2:Dz w.2.1=[w.2.1.page,w.2.1.other]:=by unfold Dz;rw[if_neg (by omega)]
  have f1:(a++[kk]++b).set a.length w.2.1.key=a++[w.2.1.key]++b:=Eh
  have f2:((ca++[c1,c2]++cb).set a.length w.2.1.page).set (a.length+1) w.2.1.other=ca++[w.2.1.page,w.2.1.other]++cb:=by rw[←ea];exact NI
  simp only[f1,f2] at h0⊢
  rcases ho' with ⟨q,_⟩|⟨_,_,x1,x2,X1,X2,ex,rfl,g1,g2,g3,g4,g5,g6⟩
  ·omega
  ·obtain⟨y1,t1,f3⟩:=Aev g1.ne
   obtain⟨y2,t2,f4⟩:=Aev g2.ne
   have ha':∀k∈a,Lt k w.2.1.key:=fun p hp=>E4 (ba p hp y1 (by rw[ex,f3];simp)) (g3 y1 (by simp[f3]))
   have hb':∀k∈b,Lt w.2.1.key k:=fun p hp=>E4 (g4 y2 (by simp[f4])) (bb p hp y2 (by rw[ex,f4];simp))
   have hko':KO (a++[w.2.1.key]++b):=by
    rw[Adf];refine KO.app.2 ⟨ko4,KO.cons.2 ⟨⟨g5,g6⟩,ko2,hb'⟩,fun x hx y hy=>?_⟩;rcases Adu.1 hy with rfl|hy
    ·exact ha' x hx
    ·exact ko3 x (Adw _ hx) y hy
   obtain⟨v1,v1Q,v1a,_,v1e,_⟩:=id g1
   obtain⟨v2,v2Q,v2a,_,v2e,_⟩:=id g2
   refine fin (l:=l1++(m1++m2)++l2) rfl ?_ (Bs.2 ⟨hko',by simp[ea,eb];omega,fun p hp=>?_⟩) ?_ (by rw[hko2]) h0
   ·rw[hd]
    have:=Kd.Eu (km:=[w.2.1.key]) (cm:=[w.2.1.page,w.2.1.other]) hl' (Kd.cons.2 ⟨x1,x2,X1,X2,rfl,rfl,g1,g3,g4,Kd.one.2 g2⟩) hr' hko' (by rw[←ex];exact ba) (by rw[←ex];exact bb)
    rw[←ex] at this
    exact .mki rfl this
   ·rcases Adg.1 hp with hp|hp
    ·rcases Adg.1 hp with hp|hp
     ·exact hrng p (by simp[hp])
     ·rcases Adu.1 hp with rfl|hp
      ·exact Cl hGu v1a.liv
      ·rw[Adq.1 hp];exact Cl hGu v2a.liv
    ·exact hrng p (by simp[hp])
   ·rw[size_inner]
    simp only[Adj,Adm,Aem,Cg,Cz] at hszE⊢
    omega
 ·rw[if_neg h2] at h0⊢
  have hko2:Dz w.2.1=[w.2.1.page]:=by unfold Dz;rw[if_pos (by omega)]
  have f1:(a++[kk]++b).eraseIdx a.length=a++b:=Er
  have f2:((ca++[c1,c2]++cb).set a.length w.2.1.page).eraseIdx (a.length+1)=ca++[w.2.1.page]++cb:=by rw[←ea];exact Kn
  simp only[f1,f2] at h0⊢
  have htr:=ho'.tr (by omega) (Adi _)
  obtain⟨v1,v1Q,v1a,_,v1e,_⟩:=id htr
  have hko':KO (a++b):=KO.app.2 ⟨ko4,ko2,fun x hx y hy=>ko3 x (Adw _ hx) y hy⟩
  refine fin (l:=l1++(m1++m2)++l2) rfl ?_ (Bs.2 ⟨hko',by simp[ea,eb];omega,fun p hp=>?_⟩) ?_ (by rw[hko2]) h0
  ·rw[hd]
   refine .mki rfl ?_
   have:=Kd.Eu (km:=[]) (cm:=[w.2.1.page]) hl' (Kd.one.2 htr) hr' (by simpa using hko') ba bb
   simpa using this
  ·rcases Adg.1 hp with hp|hp
   ·rcases Adg.1 hp with hp|hp
    ·exact hrng p (by simp[hp])
    ·rw[Adq.1 hp];exact Cl hGu v1a.liv
   ·exact hrng p (by simp[hp])
  ·rw[size_inner]
   simp only[Adj,Adm,Aem,Cg,Cz] at hszE⊢
   omega
def LvR(L L':List Int):Prop:=∃x y r,L=y++r∧L'=x++r∧x.length≤y.length∧y.length≤2
def LvR.app{L L' R:List Int}(h:LvR L L'):LvR (L++R) (L'++R):=by
 obtain⟨x,y,r,rfl,rfl,h1,h2⟩:=h;exact⟨x,y,r++R,by simp,by simp,h1,h2⟩
def RN(key:List UInt8)(h:Nat):Prop:=∀{s}{k:Int}{l}{P:List Int},Pgr.Good s→Tr s (h+1) k l P→P.Nodup→(∀x∈l,¬Lt x.1 key)→isK l key=true→
  (BK s k key (h+1)).2.2.2=0→LvR (A8 s (h+1) k) (B6 (BK s k key (h+1)).1 h (BK s k key (h+1)).2.1)
def YR:RN key 0:=by
 intro s k l P hG ⟨n,Q,hat,hne,eP,hn⟩ hnd hmin hisK h0;subst eP;rw[decide_eq_true rfl] at hn;obtain⟨n1,n2⟩:=hn.leaf;have ef:=Dy hat.sound n1;obtain⟨ks,vs,rfl⟩:∃ks vs,n=⟨true,ks,vs,[]⟩:=⟨_,_,ef⟩
 simp only at n2 hne;obtain⟨hko,hvl,hv16⟩:=Ck.1 hat.sound;have hlv:=hat.level (x:=((0+1:Nat):Int)) rfl;have hlz:(AT s k ((0+1:Nat):Int)).2=0:=by rw[hlv]
 have hln:(AT s k ((0+1:Nat):Int)).1=⟨true,ks,vs,[]⟩:=by rw[hlv]
 have hsz:=hat.size;rw[size_leaf hvl] at hsz;rcases Hw hko (vs:=vs) key with ⟨a,b,rfl,hf,ha,hb⟩|⟨a,b,rfl,hf,ha,hb⟩
 ·rw[MA hlz hln hf] at h0⊢;obtain⟨va,c,vb,l1,v0,l2,P1,Pv,P2,rfl,ev,rfl,rfl,g1,g2,g3⟩:=Jq n2;have e0:(va++[c]++vb).getD a.length []=c:=by rw[←ev];exact Dd
  have e1:(va++[c]++vb).eraseIdx a.length=va++vb:=by rw[←ev];exact Er
  have e2:(a++key::b).eraseIdx a.length=a++b:=by
   have:=Er (a:=a) (b:=b) (x:=key);simpa using this
  simp only[e0,e1,e2] at h0⊢;have hp:(k::(P1++Pv++P2)).Perm ((k::(P1++P2))++Pv):=Aeb.2 fun a=>by
   simp only[Aeg,Aeo];omega
  obtain⟨q1,q2,q3⟩:=Afl.1 (hp.nodup_iff.1 hnd);obtain⟨d1,d2⟩:=g2.VQ hG q2;rw[if_neg (by rw[d1];decide)] at h0⊢;have hko':KO (a++b):=by
   obtain⟨k1,k2,k3⟩:=KO.app.1 hko;exact KO.app.2 ⟨k1,(KO.cons.1 k2).2.1,fun x hx y hy=>k3 x hx y (Adp _ hy)⟩
  have hso:A0 ⟨true,a++b,va++vb,[]⟩=true:=by
   refine Ck.2 ⟨hko',by simp at hvl⊢;omega,fun x hx=>?_⟩;rcases Adg.1 hx with hx|hx
   ·exact hv16 x (by simp[hx])
   ·exact hv16 x (by simp[hx])
  have hr:Bm ⟨true,a++b,va++vb,[]⟩=true:=by
   simp only[Bm,hso,Agg,decide_eq_true_eq];rw[size_leaf (by simp at hvl⊢;omega)];simp only[Adj,Adm,Aem,Cg,Cz] at hsz⊢;omega
  refine⟨[(AW (BP s c).1 k ⟨true,a++b,va++vb,[]⟩).2.1.page],[k],[],rfl,?_,Adi _,by simp⟩
  unfold B6;have ho:(AW (BP s c).1 k ⟨true,a++b,va++vb,[]⟩).2.1.other<0:=by
   unfold AW;rw[if_pos hr];show(-1:Int)<0;decide
  rw[if_pos ho];rfl
 ·obtain⟨va,vb,l1,l2,P1,P2,rfl,ev,rfl,rfl,g1,g3⟩:=Jm n2;have:=DM (m:=[]) (HA g1 ha) (Hv g3 hb);rw[Ie,Aed,hisK] at this;cases this
set_option maxHeartbeats 4000000 in
def Zt(ihh:RN key h):RN key (h+1):=by
 intro s k l P hG ⟨n,Q,hat,hne,eP,hn⟩ hnd hmin hisK h0;subst eP;rw[decide_eq_false (Aeh _)] at hn;obtain⟨n1,n2⟩:=hn.inner;have ef:=C9 hat.sound n1;obtain⟨ks,cs,rfl⟩:∃ks cs,n=⟨false,ks,[],cs⟩:=⟨_,_,ef⟩
 simp only at n2 hne;obtain⟨hko,hcl,hrng⟩:=Bs.1 hat.sound;have hlv:=hat.level (x:=((h+1+1:Nat):Int)) (by show false=_;exact(decide_eq_false (by omega)).symm);have hlz:(AT s k ((h+1+1:Nat):Int)).2=0:=by rw[hlv]
 have hln:(AT s k ((h+1+1:Nat):Int)).1=⟨false,ks,[],cs⟩:=by rw[hlv]
 obtain⟨a,b,rfl,hf,ha,hb⟩:=GP hat.sound key;have ha0:a=[]:=by
  rcases a with _|⟨a0,a⟩
  ·rfl
  ·exfalso;obtain⟨⟨x,x1,x2⟩,_⟩:=(Kd.btw (fun c l P q=>Tr.ne q) n2).2 a0 (by simp);exact ha a0 (by simp) (E4 (hmin x x1) x2)
 subst ha0;obtain⟨ca,c,cb,rfl,ec⟩:=F5 cs (i:=0) (by rw[hcl];simp);have hca:ca=[]:=Adn ec;subst hca;have ecb:cb.length=b.length:=by simp at hcl;omega
 have e0:(⟨false,[]++b,[],[]++[c]++cb⟩:Az).kids.getD 0 0=c:=rfl;have n2':Kd (Tr s (h+1)) ([]++[]++b) ([]++[c]++cb) l Q:=by simpa using n2
 obtain⟨l1,m,l2,P1,Pm,P2,rfl,rfl,g1,g2,g3,g4,g5⟩:=n2'.focus (by simpa using hko) rfl rfl;have hg1:l1=[]∧P1=[]:=by
  rcases g1 with ⟨_,_,e1,e2⟩|⟨ks',k',e,_⟩
  ·exact⟨e1,e2⟩
  ·simp at e
 obtain⟨rfl,rfl⟩:=hg1;have hl2:∀x∈l2,Lt key x.1:=fun x hx=>by
  obtain⟨p,p1,p2⟩:=g3.MJ x hx;exact Ho (hb p p1) p2
 have hp:(k::([]++Pm++P2)).Perm (Pm++(k::P2)):=Aeb.2 fun a=>by
    simp only[Aeg,Aeo,Ael];omega
 obtain⟨q1,q2,q3⟩:=Afl.1 (hp.nodup_iff.1 hnd);have q3':∀p∈k::P2,p∉Pm:=fun p h1 h2=>q3 p h2 p h1 rfl;have hR:∀p∈k::P2,A4 s p:=fun p hp=>by
  rcases Adu.1 hp with rfl|hp
  ·exact hat.liv
  ·exact g3.live p hp
 have hisk:isK m key=true:=by
  have:=DM (a:=[]) (m:=m) (b:=l2) (key:=key) (fun x hx=>by cases hx) hl2;rw[←this];simpa using hisK
 have hminm:∀x∈m,¬Lt x.1 key:=fun x hx=>hmin x (by simp[hx]);rw[HX hlz hln hf (u:=BK s c key (h+1)) (by rw[show([]:List (List UInt8)).length=0 from rfl,e0])] at h0⊢;have ih:=ihh hG g2 q1 hminm hisk;have hrm:=JD (key:=key) h hG g2 q1;generalize BK s c key (h+1)=u at ih hrm h0⊢;rcases hrm with ⟨w1,w2,⟨w3,w4⟩|⟨w3,P',w4,w5⟩⟩|⟨w1,w2⟩
 ·rw[hisk] at w3;cases w3
 ·rw[if_neg (by rw[w1,w2,w3];simp)] at h0⊢;have ih:=ih w1;have hsm:=w4.same hR q3';have w6:=w4.frame hR q2 q3';have hp2:(P'++(k::P2)).Perm (k::([]++P'++P2)):=Aeb.2 fun a=>by
    simp only[Aeg,Aeo,Ael];omega
  have hnd2:=hp2.nodup_iff.1 w6.nd;have hat':=hat.stay (hsm k (Ado ..));have g1':KL (Tr u.1 (h+1)) [] [] [] []:=.inl ⟨rfl,rfl,rfl,rfl⟩;have g3':=g3.stay (hsm.sub (fun p hp=>Adp _ hp));have hlb:=QS g3 (hsm.sub (fun p hp=>Adp _ hp));have ba:∀k∈([]:List (List UInt8)),∀x∈(B7 m key).1,¬Lt x.1 k:=fun p hp=>by cases hp
  have bb:∀k∈b,∀x∈(B7 m key).1,Lt x.1 k:=fun p hp x hx=>g5 p hp x (Gm hx);have hL:A8 s (h+1+1) k=A8 s (h+1) c++cb.flatMap (A8 s (h+1)):=by rw[Ee hat];simp
  rw[hL];by_cases h2:u.2.1.other<0∧u.2.1.size<80
  ·rw[if_pos h2] at h0⊢;obtain⟨n0,Q0,b1,b2,eP',b4⟩:∃n0 Q0,At u.1 u.2.1.page n0∧u.2.1.size=AY n0∧P'=u.2.1.page::Q0∧Nd u.1 (Tr u.1 h) (decide (h=0)) n0 (B7 m key).1 Q0:=by
    rcases w5 with ⟨_,n0,Q0,b1,b2,e,_,b4⟩|⟨z1,_⟩
    ·exact⟨n0,Q0,b1,b2,e,b4⟩
    ·omega
   subst eP';have hz0:AY n0≤79:=by have:=h2.2;omega
   have hsz:=hat.size;rw[size_inner] at hsz;have hlO:B6 u.1 h u.2.1=A8 u.1 (h+1) u.2.1.page:=by unfold B6;rw[if_pos h2.1,Aed]
   rw[hlO] at ih;rcases g3' with ⟨q,_⟩|⟨kk,b',rfl,r1,r2⟩
   ·exact absurd q hne
   ·obtain⟨cx,c2,cb',rfl,ec'⟩:=F5 cb (i:=0) (by rw[ecb];simp);have hcx:cx=[]:=Adn ec';subst hcx;have r1':Kd (Tr u.1 (h+1)) ([]++[]++b') ([]++[c2]++cb') l2 P2:=by simpa using r1
    have hkb:KO (kk::b'):=hko;obtain⟨x1,m2,x2,X1,Y1,X2,rfl,rfl,f1,f2,f3,f4,f5⟩:=r1'.focus (by simpa using (KO.cons.1 hkb).2.1) rfl rfl;have hf1:x1=[]∧X1=[]:=by
     rcases f1 with ⟨_,_,e1,e2⟩|⟨ks',k',e,_⟩
     ·exact⟨e1,e2⟩
     ·simp at e
    obtain⟨rfl,rfl⟩:=hf1;obtain⟨v2,V2,va,vb,rfl,vd⟩:=Kd.one.1 f2;have hm:=Un w4.gd (i0:=0) (a:=[]) (b:=b') (kk:=kk) (ca:=[]) (cb:=cb') (c1:=u.2.1.page) (c2:=c2) (l1:=[]) (l2:=x2) (P1:=[]) (P2:=X2) hat'.liv rfl (by simp at ecb;omega) (by simpa using hko)
       (fun p hp=>hrng p (by simp at hp⊢;simp[hp])) (by rw[size_inner];simp only[Adj,Adm,Aem,Cg,Cz] at hsz⊢;omega) (by simp) g1' f3 b1 b4 va vd
       (by have:=va.size;omega) (.inr vb) (fun x hx=>bb kk (by simp) x hx) (fun x hx=>r2 x (by simp[hx]))
       (fun p hp=>by cases hp)
       (fun p hp x hx=>(Adg.1 hx).elim (bb p (by simp[hp]) x) (f5 p hp x)) (by
        refine(Aik ?_).1 hnd2;refine Aeb.2 fun a=>?_;simp only[Aeg,Aeo,Afs,Ael];omega) h0
    obtain⟨X,hX1,hX2⟩:=hm;simp only[Ael,List.singleton_append,Aex,Agz,List.flatMap_nil,Ahz,Aem] at hX1 hlb⊢;rw[hX1];rcases hX2 with ⟨rfl,hX2⟩|⟨hh,rfl⟩
    ·have e1:A8 s (0+1) c=[c]:=rfl;have e2:A8 s (0+1) c2=[c2]:=rfl;have e3:A8 u.1 (0+1) c2=[c2]:=rfl;rw[e2,e3] at hlb;have hlb':cb'.flatMap (A8 u.1 (0+1))=cb'.flatMap (A8 s (0+1)):=by simpa using hlb
     rw[e1,e2,hlb'];exact⟨X,[c,c2],_,by simp,rfl,hX2,Adi _⟩
    ·rw[←hlb,Adf];exact ih.app
  ·rw[if_neg h2] at h0⊢;have w5':Out u.1 h 1 u.2.1 (B7 m key).1 P':=by
    rcases w5 with ⟨z1,n0,Q0,b1,b2,rfl,_,b4⟩|w5
    ·refine .inl ⟨z1,n0,Q0,b1,b2,rfl,Em.1 (PQ b1.sound ?_),b4⟩;have:¬u.2.1.size<80:=fun q=>h2 ⟨z1,q⟩;omega
    ·exact .inr w5
   have hrl:=RU w4.gd hat' rfl g1' g3' w5' ba bb hnd2 h0;have hrl:B6 (BJ u.1 k ⟨false,[]++b,[],[]++[c]++cb⟩ 0 u.2.1).1 (h+1) (BJ u.1 k ⟨false,[]++b,[],[]++[c]++cb⟩ 0 u.2.1).2.1=B6 u.1 h u.2.1++cb.flatMap (A8 s (h+1)):=by rw[←hlb];simpa using hrl
   show LvR _ (B6 (BJ u.1 k ⟨false,[]++b,[],[]++[c]++cb⟩ 0 u.2.1).1 (h+1) (BJ u.1 k ⟨false,[]++b,[],[]++[c]++cb⟩ 0 u.2.1).2.1);rw[hrl];exact ih.app
 ·rw[if_pos (.inl (by rw[w1];decide))] at h0;exact absurd (h0.symm.trans w1) (by decide)
def XT:∀h,RN key h
 |0=>YR
 |h+1=>Zt (XT h)
def chV(s:PD)(c:List UInt8):List Int:=if Ex c=true then(Chn.Bw s (DR c) (Dt c)).1 else []
def Ce.ch{c v}(h:Ce s c v P):chV s c=P:=by
 unfold chV;rcases h.XV with ⟨e,rfl⟩|⟨e,e2⟩
 ·rw[if_neg (by rw[e];decide)]
 ·rw[if_pos e,e2]
def Lf.ch:∀{ks vs l}{P:List Int},Lf s ks vs l P→vs.flatMap (chV s)=P
 |[],[],l,P,h=>by rw[Lf] at h;rw[h.2];rfl
 |[],_::_,l,P,h=>by rw[Lf] at h<;>simp_all
 |_::_,[],l,P,h=>by rw[Lf] at h<;>simp_all
 |k::ks,c::cs,l,P,h=>by
  rw[Lf] at h;obtain⟨v,l',P1,P2,rfl,rfl,h1,h2⟩:=h;rw[Agz,h1.ch,h2.ch]
def chT(s:PD):Nat→Int→List Int
 |0,_=>[]
 |h+1,k=>if h=0 then(Bk s k).1.vals.flatMap (chV s) else(Bk s k).1.kids.flatMap (chT s h)
def chN(s:PD)(h:Nat)(n:Az):List Int:=if h=0 then n.vals.flatMap (chV s) else n.kids.flatMap (chT s h)
def ER(hat:At s k n):chT s (h+1) k=chN s h n:=by
 rw[chT,chN,hat.read]
def G8:∀(h:Nat) {s t}{k:Int}{l}{P:List Int},Tr s (h+1) k l P→CQ s t P→chT t (h+1) k=chT s (h+1) k
 |0,s,t,k,l,P,⟨n,Q,hat,hne,eP,hn⟩,hs=>by
  subst eP;have hat':=hat.stay (hs k (Ado ..));have hsQ:CQ s t Q:=fun p hp=>hs p (Adp _ hp);rw[decide_eq_true rfl] at hn;rw[ER hat,ER hat',chN,chN,if_pos rfl,if_pos rfl,hn.leaf.2.ch,(hn.leaf.2.stay hsQ).ch]
 |h+1,s,t,k,l,P,⟨n,Q,hat,hne,eP,hn⟩,hs=>by
  subst eP;rw[decide_eq_false (Aeh _)] at hn;have hat':=hat.stay (hs k (Ado ..));rw[ER hat,ER hat',chN,chN,if_neg (Aeh _),if_neg (Aeh _)];exact G7 (R:=fun c l P=>Tr s (h+1) c l P∧CQ s t P) (fun c l P q=>G8 h q.1 q.2) (hn.inner.2.mono (fun c l P' hP q=>⟨q,fun p hp=>hs p (Adp _ (hP p hp))⟩))
def ZR(hn:Nd s (Tr s h) (decide (h=0)) n l Q)(hs:CQ s t Q):chN t h n=chN s h n:=by
 cases h with
 |zero=>
  rw[decide_eq_true rfl] at hn
  rw[chN,chN,if_pos rfl,if_pos rfl,hn.leaf.2.ch,(hn.leaf.2.stay hs).ch]
 |succ h=>
  rw[decide_eq_false (Aeh _)] at hn
  rw[chN,chN,if_neg (Aeh _),if_neg (Aeh _)]
  exact G7 (R:=fun c l P=>Tr s (h+1) c l P∧CQ s t P) (fun c l P q=>G8 h q.1 q.2) (hn.inner.2.mono (fun c l P' hP q=>⟨q,fun p hp=>hs p (hP p hp)⟩))
def chO(s:PD)(h:Nat)(m:MdD):List Int:=chT s (h+1) m.page++if m.other<0 then [] else chT s (h+1) m.other
def UA{a b:Az}(ea:a.leaf=decide (h=0)):chN s h (BE a b key)=chN s h a++chN s h b:=by
 unfold chN BE;rw[ea];by_cases h0:h=0
 ·rw[if_pos h0,if_pos h0,if_pos h0,if_pos (by simp[h0])];simp
 ·rw[if_neg h0,if_neg h0,if_neg h0,if_neg (by simp[h0])];simp
def P0(hG:Pgr.Good s)(hn:Nd s (Tr s h) (decide (h=0)) n l Q)(hs:A0 n=true)(hh:AY n≤if n.leaf=true then 340 else 440)(hk:A4 s k)(hkQ:k∉Q)(h0:(AW s k n).2.2=0):
  chO (AW s k n).1 h (AW s k n).2.1=chN s h n:=by
 have hl:=hn.live
 have hkq:∀p∈Q,p∉ [k]:=fun p hp q=>hkQ (Adq.1 q▸hp)
 rcases PY hG hs (fun hz=>PU hh (OR hs hz)) hk with ⟨h1,⟨p,e,h2,h3⟩|⟨hc,hH,p,q,e,hq,h2,h3,h4⟩⟩|⟨h1,_⟩
 ·have hsm:=h2.same hl hkq
  rw[e]
  unfold chO
  rw[if_pos (by show(-1:Int)<0;decide),Aed]
  show chT (AW s k n).1 (h+1) p=_
  rw[ER h3]
  exact ZR hn hsm
 ·have hsm:=h2.same hl hkq
  rw[e]
  unfold chO
  rw[if_neg (by show¬q<0;omega)]
  show chT (AW s k n).1 (h+1) p++chT (AW s k n).1 (h+1) q=_
  have hall:=hH.all
  rw[ER h3,ER h4,←UA (key:=BD n) ((Jg hc).trans hn.1),hall]
  exact ZR hn hsm
 ·rw[h1] at h0;cases h0
def N0(hG:Pgr.Good s)(hn:Nd s (Tr s (h+1)) false n l Q)(hs:A0 n=true)(hh:AY n≤440)(hk:A4 s k)(hkQ:k∉Q)(h0:(AW s k n).2.2=0):
  chO (AW s k n).1 (h+1) (AW s k n).2.1=n.kids.flatMap (chT s (h+1)):=by
 have hlf:=hn.inner.1
 rw[P0 hG (h:=h+1) (by rw[decide_eq_false (Aeh _)];exact hn) hs (by rw[hlf];simpa using hh) hk hkQ h0,chN,if_neg (Aeh _)]
def JQ:(Dz m).flatMap (chT s (h+1))=chO s h m:=by
 unfold Dz chO;split<;>simp
def ZM(hG:Pgr.Good t){c:Int}{a b}{ca cb:List Int}{m'}{P1 Pm P2:List Int}
  (hat:At t k ⟨false,a++b,[],ca++[c]++cb⟩) (ea:ca.length=a.length) (hl:KL (Tr t (h+1)) a ca l1 P1) (hr:KR (Tr t (h+1)) b cb l2 P2) (ho:Out t h 1 md m' Pm)
  (ba:∀k∈a,∀x∈m',¬Lt x.1 k) (bb:∀k∈b,∀x∈m',Lt x.1 k) (hnd:(k::(P1++Pm++P2)).Nodup) (h0:(BJ t k ⟨false,a++b,[],ca++[c]++cb⟩ a.length md).2.2=0):
  chO (BJ t k ⟨false,a++b,[],ca++[c]++cb⟩ a.length md).1 (h+1) (BJ t k ⟨false,a++b,[],ca++[c]++cb⟩ a.length md).2.1=ca.flatMap (chT t (h+1))++chO t h md++cb.flatMap (chT t (h+1)):=by
 obtain⟨hko,hlen,hrng⟩:=Bs.1 hat.sound
 have hsz:=hat.size
 rw[size_inner] at hsz
 obtain⟨hkQ,_⟩:=Afo.1 hnd
 have e0:(ca++[c]++cb).getD a.length 0=c:=by rw[←ea];exact Dd
 unfold BJ at*
 simp only[e0] at*
 by_cases h1:c=md.page∧md.other<0
 ·rw[if_pos h1] at*
  obtain⟨h1,h2⟩:=h1
  subst h1
  show chO t (h+1) ⟨k, -1,[],_⟩=_
  unfold chO
  rw[if_pos (by show(-1:Int)<0;decide),if_pos h2,Aed,Aed]
  show chT t (h+1+1) k=_
  rw[ER hat,chN,if_neg (Aeh _)];simp
 ·rw[if_neg h1] at*
  by_cases h2:0≤md.other
  ·rw[if_pos h2] at*
   have hko2:Dz md=[md.page,md.other]:=by unfold Dz;rw[if_neg (by omega)]
   rw[←JQ (s:=t) (h:=h) (m:=md),hko2]
   rcases ho with ⟨q,_⟩|⟨_,_,m1,m2,Q1,Q2,rfl,rfl,g1,g2,g3,g4,g5,g6⟩
   ·omega
   ·have e1:B1 (a++b) a.length md.key=a++[md.key]++b:=IF
    have e2:B1 ((ca++[c]++cb).set a.length md.page) (a.length+1) md.other=ca++[md.page,md.other]++cb:=by rw[←ea,Eh,Mq]
    simp only[e1,e2] at*
    obtain⟨x1,r1,f1⟩:=Aev g1.ne
    obtain⟨x2,r2,f2⟩:=Aev g2.ne
    obtain⟨ko1,ko2,ko3⟩:=KO.app.1 hko
    have ha':∀k∈a,Lt k md.key:=fun p hp=>E4 (ba p hp x1 (by simp[f1])) (g3 x1 (by simp[f1]))
    have hb':∀k∈b,Lt md.key k:=fun p hp=>E4 (g4 x2 (by simp[f2])) (bb p hp x2 (by simp[f2]))
    have hko':KO (a++[md.key]++b):=by
     rw[Adf];refine KO.app.2 ⟨ko1,KO.cons.2 ⟨⟨g5,g6⟩,ko2,hb'⟩,fun x hx y hy=>?_⟩;rcases Adu.1 hy with rfl|hy
     ·exact ha' x hx
     ·exact ko3 x hx y hy
    obtain⟨n1,n1Q,n1a,_,n1e,_⟩:=id g1
    obtain⟨n2,n2Q,n2a,_,n2e,_⟩:=id g2
    have hso:A0 ⟨false,a++[md.key]++b,[],ca++[md.page,md.other]++cb⟩=true:=by
     refine Bs.2 ⟨hko',?_,fun p hp=>?_⟩
     ·simp only[Adj,Adm,Aem] at hlen⊢;omega
     ·rcases Adg.1 hp with hp|hp
      ·rcases Adg.1 hp with hp|hp
       ·exact hrng p (by simp[hp])
       ·rcases Adu.1 hp with rfl|hp
        ·exact Cl hG n1a.liv
        ·rw[Adq.1 hp];exact Cl hG n2a.liv
      ·exact hrng p (by simp[hp])
    have:=N0 hG (h:=h) (Q:=P1++(Q1++Q2)++P2) (.mki rfl (Kd.Eu (km:=[md.key]) (cm:=[md.page,md.other]) hl (Kd.cons.2 ⟨m1,m2,Q1,Q2,rfl,rfl,g1,g3,g4,Kd.one.2 g2⟩) hr hko' ba bb)) hso (by
      rw[size_inner];simp only[Adj,Adm,Aem,Cg,Cz] at hsz⊢;omega) hat.liv hkQ h0
    rw[this]
    simp
  ·rw[if_neg h2] at*
   have hko2:Dz md=[md.page]:=by unfold Dz;rw[if_pos (by omega)]
   rw[←JQ (s:=t) (h:=h) (m:=md),hko2]
   have e2:(ca++[c]++cb).set a.length md.page=ca++[md.page]++cb:=by rw[←ea,Eh]
   simp only[e2] at*
   have htr:=ho.tr (by omega) (Adi _)
   obtain⟨n1,n1Q,n1a,_,n1e,_⟩:=id htr
   have hso:A0 ⟨false,a++b,[],ca++[md.page]++cb⟩=true:=by
    refine Bs.2 ⟨hko,?_,fun p hp=>?_⟩
    ·simp only[Adj,Adm,Aem] at hlen⊢;omega
    ·rcases Adg.1 hp with hp|hp
     ·rcases Adg.1 hp with hp|hp
      ·exact hrng p (by simp[hp])
      ·rw[Adq.1 hp];exact Cl hG n1a.liv
     ·exact hrng p (by simp[hp])
   have:=N0 hG (h:=h) (Q:=P1++Pm++P2) (.mki rfl (by
    have:=Kd.Eu (km:=[]) (cm:=[md.page]) hl (Kd.one.2 htr) hr (by simpa using hko) ba bb;simpa using this)) hso (by
     rw[size_inner];simp only[Adj,Adm,Aem] at hsz⊢;omega) hat.liv hkQ h0
   rw[this]
   simp
def Xe(o:Out s h 1 m l P)(hs:CQ s t P):chO t h m=chO s h m:=by
 have o':=o;rcases o with ⟨h1,_⟩|⟨h1,_,l1,l2,P1,P2,rfl,rfl,h3,h4,_⟩
 ·unfold chO;rw[if_pos h1,if_pos h1,G8 h (o'.tr h1 (Adi _)) hs]
 ·unfold chO;rw[if_neg (by omega),if_neg (by omega),G8 h h3 (hs.sub (fun p hp=>Adw _ hp)),G8 h h4 (hs.sub (fun p hp=>Ady _ hp))]
def Z8{ks}(hk:Kd (Tr s (h+1)) ks cs l P)(hs:CQ s t P):cs.flatMap (chT t (h+1))=cs.flatMap (chT s (h+1)):=
 G7 (R:=fun c l P=>Tr s (h+1) c l P∧CQ s t P) (fun c l P q=>G8 h q.1 q.2) (hk.mono (fun c l P' hP q=>⟨q,fun p hp=>hs p (hP p hp)⟩))
def AcS{ks}(hk:KL (Tr s (h+1)) ks cs l P)(hs:CQ s t P):cs.flatMap (chT t (h+1))=cs.flatMap (chT s (h+1)):=by
 rcases hk with ⟨_,rfl,_⟩|⟨_,_,_,q,_⟩
 ·rfl
 ·exact Z8 q hs
def Aah{ks}(hk:KR (Tr s (h+1)) ks cs l P)(hs:CQ s t P):cs.flatMap (chT t (h+1))=cs.flatMap (chT s (h+1)):=by
 rcases hk with ⟨_,rfl,_⟩|⟨_,_,_,q,_⟩
 ·rfl
 ·exact Z8 q hs
def Aa0(hG:Pgr.Good t){i0:Nat}{c1 c2:Int}{a b kk}{ca cb:List Int}{n1 n2:Az}{m1 m2}{P1 Q1 Q2 P2:List Int}
  (hk:A4 t k) (ea:ca.length=a.length) (eb:cb.length=b.length) (hko:KO (a++[kk]++b)) (hrng:∀c∈ca++cb,0≤c∧c≤8191) (hsz:AY (⟨false,a++[kk]++b,[],ca++[c1,c2]++cb⟩:Az)≤256)
  (hi:a.length=if i0=(a++[kk]++b).length then i0 - 1 else i0)
  (hl:KL (Tr t (h+1)) a ca l1 P1) (hr:KR (Tr t (h+1)) b cb l2 P2) (a1:At t c1 n1) (d1:Nd t (Tr t h) (decide (h=0)) n1 m1 Q1) (a2:At t c2 n2) (d2:Nd t (Tr t h) (decide (h=0)) n2 m2 Q2)
  (hz:AY n1+AY n2≤335) (hne:n1.keys≠[]∨n2.keys≠[]) (b1:∀x∈m1,Lt x.1 kk) (b2:∀x∈m2,¬Lt x.1 kk) (ba:∀k∈a,∀x∈m1++m2,¬Lt x.1 k) (bb:∀k∈b,∀x∈m1++m2,Lt x.1 k)
  (hnd:(k::(P1++(c1::Q1++c2::Q2)++P2)).Nodup)
  (h0:(C1 t k ⟨false,a++[kk]++b,[],ca++[c1,c2]++cb⟩ i0).2.2=0):
  ∃X,chO (C1 t k ⟨false,a++[kk]++b,[],ca++[c1,c2]++cb⟩ i0).1 (h+1) (C1 t k ⟨false,a++[kk]++b,[],ca++[c1,c2]++cb⟩ i0).2.1=ca.flatMap (chT t (h+1))++X++cb.flatMap (chT t (h+1))∧X=chT t (h+1) c1++chT t (h+1) c2:=by
 obtain⟨ko1,ko2,ko3⟩:=KO.app.1 hko
 obtain⟨ko4,ko5,ko6⟩:=KO.app.1 ko1
 have hkk:=ko5.1 kk (by simp)
 have e1:(ca++[c1,c2]++cb).getD a.length 0=c1:=by rw[←ea];exact Lu
 have e2:(ca++[c1,c2]++cb).getD (a.length+1) 0=c2:=by rw[←ea];exact Me
 have e3:(a++[kk]++b).getD a.length []=kk:=Dd
 have hm:=J0 (s:=t) (k:=k) (n:=⟨false,a++[kk]++b,[],ca++[c1,c2]++cb⟩) (i0:=i0) (i:=a.length) (a:=(n1,0)) (b:=(n2,0)) (by simp) hi (by rw[show(⟨false,a++[kk]++b,[],ca++[c1,c2]++cb⟩:Az).kids.getD a.length 0=c1 from e1];exact a1.read)
  (by rw[show(⟨false,a++[kk]++b,[],ca++[c1,c2]++cb⟩:Az).kids.getD (a.length+1) 0=c2 from e2];exact a2.read)
 rw[hm,if_neg (fun q=>q rfl),if_neg (fun q=>q rfl),if_neg (fun q=>q (d1.1.trans d2.1.symm))] at h0⊢
 clear hm
 simp only[e1,e2,e3] at h0⊢
 obtain⟨dj,sj,zj,lj,ej⟩:=d1.join (fun c l P q=>Tr.ne q) d2 a1.sound a2.sound b1 b2 hkk
 have hp0:(k::(P1++(c1::Q1++c2::Q2)++P2)).Perm ((c1::(Q1++Q2))++([c2]++(k::(P1++P2)))):=Aeb.2 fun a=>by
  simp only[Aeg,Aeo,Afs];omega
 obtain⟨q1,q2,q3⟩:=Afl.1 (hp0.nodup_iff.1 hnd)
 have q3':∀p∈[c2]++(k::(P1++P2)),p∉c1::(Q1++Q2):=fun p h1 h2=>q3 p h2 p h1 rfl
 have hR:∀p∈[c2]++(k::(P1++P2)),A4 t p:=fun p hp=>by
  rcases Adg.1 hp with hp|hp
  ·rw[Adq.1 hp];exact a2.liv
  ·rcases Adu.1 hp with rfl|hp
   ·exact hk
   ·exact(Adg.1 hp).elim (hl.live p) (hr.live p)
 have hzj:AY (BE n1 n2 kk)≤if (BE n1 n2 kk).leaf=true then 340 else 440:=by
  rw[lj];cases hb:decide (h=0) with
  |true=>rw[hb] at zj;simp only[if_true] at zj⊢;omega
  |false=>rw[hb] at zj;simp only[Adk,if_false] at zj⊢;omega
 have hkj:1≤(BE n1 n2 kk).keys.length:=Em.1 fun e=>by
  obtain⟨-,f1,f2⟩:=ej e;exact hne.elim (fun q=>q f1) (fun q=>q f2)
 have hs0:=Fl hG (h:=h) (z:=1) dj sj hzj a1.liv hkj q1
 have hX:(AW t c1 (BE n1 n2 kk)).2.2=0→chO (AW t c1 (BE n1 n2 kk)).1 h (AW t c1 (BE n1 n2 kk)).2.1=chT t (h+1) c1++chT t (h+1) c2:=fun hz0=>by
  rw[P0 hG dj sj hzj a1.liv (Afo.1 q1).1 hz0,UA d1.1,ER a1,ER a2]
 generalize AW t c1 (BE n1 n2 kk)=w at hs0 hX h0⊢
 rcases hs0.symm with ⟨w1,w2⟩|⟨w1,Pj,w2,w3⟩
 ·rw[if_pos (by rw[w1];decide)] at h0
  exact absurd (h0.symm.trans w1) (by decide)
 rw[if_neg (by rw[w1];decide)] at h0⊢
 have hX:=hX w1
 have hsm1:=w2.same hR q3'
 have w4:=w2.frame hR q2 q3'
 have hp1:(Pj++([c2]++(k::(P1++P2)))).Perm ([c2]++(Pj++(k::(P1++P2)))):=Aeb.2 fun a=>by
  simp only[Aeg,Aeo,Afs];omega
 obtain⟨r1,r2,r3⟩:=Afl.1 (hp1.nodup_iff.1 w4.nd)
 have r3':∀p∈Pj++(k::(P1++P2)),p∉ [c2]:=fun p h1 h2=>r3 p h2 p h1 rfl
 have hc2:A4 w.1 c2:=by unfold A4;rw[(hsm1 c2 (by simp)).1];exact a2.liv
 obtain⟨u1,u2⟩:=FI w2.gd hc2
 have hR2:∀p∈Pj++(k::(P1++P2)),A4 w.1 p:=fun p hp=>(w4.lv p).2 (.inr (by
  rcases Adg.1 hp with q|q
  ·exact Adw _ q
  ·exact Ady _ (Ady _ q)))
 have hsm2:=u2.same hR2 r3'
 have u3:=u2.frame hR2 r2 r3'
 generalize w.1.drop c2=u at u1 u2 u3 hsm2 h0⊢
 rw[if_neg (by rw[u1];decide)] at h0⊢
 have hsm:CQ t u.1 (k::(P1++P2)):=(hsm1.sub (fun p hp=>Ady _ hp)).trans (hsm2.sub (fun p hp=>Ady _ hp))
 have hl':=hl.stay (hsm.sub (fun p hp=>by simp[hp]))
 have hr':=hr.stay (hsm.sub (fun p hp=>by simp[hp]))
 have ho':=w3.stay (hsm2.sub (fun p hp=>Adw _ hp))
 have hk':A4 u.1 k:=by unfold A4;rw[(hsm k (by simp)).1];exact hk
 have M:Mv t u.1 (k::(P1++(c1::Q1++c2::Q2)++P2)) (k::(P1++Pj++P2)) 2:=by
  refine((w4.trans (u3.perm hp1 (Aeq _))).perm hp0 ?_).mono (by omega);refine Aeb.2 fun a=>?_;simp only[Aeg,Aeo,Afs];omega
 have hd:decide (h+1=0)=false:=decide_eq_false (Aeh _)
 have hGu:=u2.gd
 have hszE:=hsz
 rw[size_inner] at hszE
 have hlo:=Xe w3 (hsm2.sub (fun p hp=>Adw _ hp))
 have hla:=AcS hl (hsm.sub (fun p hp=>by simp[hp]))
 have hlb:=Aah hr (hsm.sub (fun p hp=>by simp[hp]))
 have hkQ:=(Afo.1 M.nd).1
 have fin:∀{n':Az}{l},n'.leaf=false→Nd u.1 (Tr u.1 (h+1)) (decide (h+1=0)) n' l (P1++Pj++P2)→A0 n'=true→AY n'≤440→n'.kids=ca++Dz w.2.1++cb→(AW u.1 k n').2.2=0→
   ∃X,chO (AW u.1 k n').1 (h+1) (AW u.1 k n').2.1=ca.flatMap (chT t (h+1))++X++cb.flatMap (chT t (h+1))∧X=chT t (h+1) c1++chT t (h+1) c2:=by
  intro n' l hlf hnd' hs' hz' hkids h0'
  rw[hd] at hnd'
  refine⟨chO w.1 h w.2.1,?_,hX⟩
  rw[N0 hGu hnd' hs' hz' hk' hkQ h0',hkids,Ahd,Ahd,JQ,hlo,hla,hlb]
 by_cases h2:0≤w.2.1.other
 ·rw[if_pos h2] at h0⊢
  have hko2:Dz w.2.1=[w.2.1.page,w.2.1.other]:=by unfold Dz;rw[if_neg (by omega)]
  have f1:(a++[kk]++b).set a.length w.2.1.key=a++[w.2.1.key]++b:=Eh
  have f2:((ca++[c1,c2]++cb).set a.length w.2.1.page).set (a.length+1) w.2.1.other=ca++[w.2.1.page,w.2.1.other]++cb:=by rw[←ea];exact NI
  simp only[f1,f2] at h0⊢
  rcases ho' with ⟨q,_⟩|⟨_,_,x1,x2,X1,X2,ex,rfl,g1,g2,g3,g4,g5,g6⟩
  ·omega
  ·obtain⟨y1,t1,f3⟩:=Aev g1.ne
   obtain⟨y2,t2,f4⟩:=Aev g2.ne
   have ha':∀k∈a,Lt k w.2.1.key:=fun p hp=>E4 (ba p hp y1 (by rw[ex,f3];simp)) (g3 y1 (by simp[f3]))
   have hb':∀k∈b,Lt w.2.1.key k:=fun p hp=>E4 (g4 y2 (by simp[f4])) (bb p hp y2 (by rw[ex,f4];simp))
   have hko':KO (a++[w.2.1.key]++b):=by
    rw[Adf];refine KO.app.2 ⟨ko4,KO.cons.2 ⟨⟨g5,g6⟩,ko2,hb'⟩,fun x hx y hy=>?_⟩;rcases Adu.1 hy with rfl|hy
    ·exact ha' x hx
    ·exact ko3 x (Adw _ hx) y hy
   obtain⟨v1,v1Q,v1a,_,v1e,_⟩:=id g1
   obtain⟨v2,v2Q,v2a,_,v2e,_⟩:=id g2
   refine fin (l:=l1++(m1++m2)++l2) rfl ?_ (Bs.2 ⟨hko',by simp[ea,eb];omega,fun p hp=>?_⟩) ?_ (by rw[hko2]) h0
   ·rw[hd]
    have:=Kd.Eu (km:=[w.2.1.key]) (cm:=[w.2.1.page,w.2.1.other]) hl' (Kd.cons.2 ⟨x1,x2,X1,X2,rfl,rfl,g1,g3,g4,Kd.one.2 g2⟩) hr' hko' (by rw[←ex];exact ba) (by rw[←ex];exact bb)
    rw[←ex] at this
    exact .mki rfl this
   ·rcases Adg.1 hp with hp|hp
    ·rcases Adg.1 hp with hp|hp
     ·exact hrng p (by simp[hp])
     ·rcases Adu.1 hp with rfl|hp
      ·exact Cl hGu v1a.liv
      ·rw[Adq.1 hp];exact Cl hGu v2a.liv
    ·exact hrng p (by simp[hp])
   ·rw[size_inner]
    simp only[Adj,Adm,Aem,Cg,Cz] at hszE⊢
    omega
 ·rw[if_neg h2] at h0⊢
  have hko2:Dz w.2.1=[w.2.1.page]:=by unfold Dz;rw[if_pos (by omega)]
  have f1:(a++[kk]++b).eraseIdx a.length=a++b:=Er
  have f2:((ca++[c1,c2]++cb).set a.length w.2.1.page).eraseIdx (a.length+1)=ca++[w.2.1.page]++cb:=by rw[←ea];exact Kn
  simp only[f1,f2] at h0⊢
  have htr:=ho'.tr (by omega) (Adi _)
  obtain⟨v1,v1Q,v1a,_,v1e,_⟩:=id htr
  have hko':KO (a++b):=KO.app.2 ⟨ko4,ko2,fun x hx y hy=>ko3 x (Adw _ hx) y hy⟩
  refine fin (l:=l1++(m1++m2)++l2) rfl ?_ (Bs.2 ⟨hko',by simp[ea,eb];omega,fun p hp=>?_⟩) ?_ (by rw[hko2]) h0
  ·rw[hd]
   refine .mki rfl ?_
   have:=Kd.Eu (km:=[]) (cm:=[w.2.1.page]) hl' (Kd.one.2 htr) hr' (by simpa using hko') ba bb
   simpa using this
  ·rcases Adg.1 hp with hp|hp
   ·rcases Adg.1 hp with hp|hp
    ·exact hrng p (by simp[hp])
    ·rw[Adq.1 hp];exact Cl hGu v1a.liv
   ·exact hrng p (by simp[hp])
  ·rw[size_inner]
   simp only[Adj,Adm,Aem,Cg,Cz] at hszE⊢
   omega
abbrev ChR(L L':List Int):Prop:=L'.Sublist L
def Ry(key:List UInt8)(h:Nat):Prop:=∀{s}{k:Int}{l}{P:List Int},Pgr.Good s→Tr s (h+1) k l P→P.Nodup→(∀x∈l,¬Lt x.1 key)→isK l key=true→
  (BK s k key (h+1)).2.2.2=0→ChR (chT s (h+1) k) (chO (BK s k key (h+1)).1 h (BK s k key (h+1)).2.1)
def Xt:Ry key 0:=by
 intro s k l P hG ⟨n,Q,hat,hne,eP,hn⟩ hnd hmin hisK h0;subst eP;rw[decide_eq_true rfl] at hn;obtain⟨n1,n2⟩:=hn.leaf;have ef:=Dy hat.sound n1;obtain⟨ks,vs,rfl⟩:∃ks vs,n=⟨true,ks,vs,[]⟩:=⟨_,_,ef⟩
 simp only at n2 hne;obtain⟨hko,hvl,hv16⟩:=Ck.1 hat.sound;have hlv:=hat.level (x:=((0+1:Nat):Int)) rfl;have hlz:(AT s k ((0+1:Nat):Int)).2=0:=by rw[hlv]
 have hln:(AT s k ((0+1:Nat):Int)).1=⟨true,ks,vs,[]⟩:=by rw[hlv]
 have hsz:=hat.size;rw[size_leaf hvl] at hsz;rcases Hw hko (vs:=vs) key with ⟨a,b,rfl,hf,ha,hb⟩|⟨a,b,rfl,hf,ha,hb⟩
 ·rw[MA hlz hln hf] at h0⊢;obtain⟨va,c,vb,l1,v0,l2,P1,Pv,P2,rfl,ev,rfl,rfl,g1,g2,g3⟩:=Jq n2;have e0:(va++[c]++vb).getD a.length []=c:=by rw[←ev];exact Dd
  have e1:(va++[c]++vb).eraseIdx a.length=va++vb:=by rw[←ev];exact Er
  have e2:(a++key::b).eraseIdx a.length=a++b:=by
   have:=Er (a:=a) (b:=b) (x:=key);simpa using this
  simp only[e0,e1,e2] at h0⊢;have hp:(k::(P1++Pv++P2)).Perm ((k::(P1++P2))++Pv):=Aeb.2 fun a=>by
   simp only[Aeg,Aeo];omega
  obtain⟨q1,q2,q3⟩:=Afl.1 (hp.nodup_iff.1 hnd);obtain⟨d1,d2⟩:=g2.VQ hG q2;rw[if_neg (by rw[d1];decide)] at h0⊢;have hko':KO (a++b):=by
   obtain⟨k1,k2,k3⟩:=KO.app.1 hko;exact KO.app.2 ⟨k1,(KO.cons.1 k2).2.1,fun x hx y hy=>k3 x hx y (Adp _ hy)⟩
  have hso:A0 ⟨true,a++b,va++vb,[]⟩=true:=by
   refine Ck.2 ⟨hko',by simp at hvl⊢;omega,fun x hx=>?_⟩;rcases Adg.1 hx with hx|hx
   ·exact hv16 x (by simp[hx])
   ·exact hv16 x (by simp[hx])
  have hr:Bm ⟨true,a++b,va++vb,[]⟩=true:=by
   simp only[Bm,hso,Agg,decide_eq_true_eq];rw[size_leaf (by simp at hvl⊢;omega)];simp only[Adj,Adm,Aem,Cg,Cz] at hsz⊢;omega
  have hsm:=d2.same (Q:=k::(P1++P2)) (fun p hp=>by
   rcases Adu.1 hp with rfl|hp
   ·exact hat.liv
   ·rcases Adg.1 hp with hp|hp
    ·exact g1.live p hp
    ·exact g3.live p hp) (fun p hp q=>q3 p hp p q rfl)
  have hn':Nd (BP s c).1 (Tr (BP s c).1 0) (decide (0=0)) ⟨true,a++b,va++vb,[]⟩ (l1++l2) (P1++P2):=by
   rw[decide_eq_true rfl];exact .mkl rfl ((g1.stay (hsm.sub (fun p hp=>by simp[hp]))).join (g3.stay (hsm.sub (fun p hp=>by simp[hp]))))
  have hkl:A4 (BP s c).1 k:=by unfold A4;rw[(hsm k (Ado ..)).1];exact hat.liv
  rw[P0 d2.gd hn' hso (by
   rw[size_leaf (by simp at hvl⊢;omega)];simp only[Adj,Adm,Aem,Cg,Cz,if_true] at hsz⊢;omega) hkl (Afo.1 q1).1 h0,chN,if_pos rfl,hn'.leaf.2.ch,ER hat,chN,if_pos rfl]
  have hL:=(show Lf s (a++key::b) (va++[c]++vb) (l1++[(key,v0)]++l2) (P1++Pv++P2) from by
   have:=(g1.join (Lf.one (k:=key) g2)).join g3;simpa using this)
  show(P1++P2).Sublist ((va++[c]++vb).flatMap (chV s));rw[hL.ch,Adf];exact(Adb P1).append (Afc Pv P2)
 ·obtain⟨va,vb,l1,l2,P1,P2,rfl,ev,rfl,rfl,g1,g3⟩:=Jm n2;have:=DM (m:=[]) (HA g1 ha) (Hv g3 hb);rw[Ie,Aed,hisK] at this;cases this
set_option maxHeartbeats 4000000 in
def WH(ihh:Ry key h):Ry key (h+1):=by
 intro s k l P hG ⟨n,Q,hat,hne,eP,hn⟩ hnd hmin hisK h0;subst eP;rw[decide_eq_false (Aeh _)] at hn;obtain⟨n1,n2⟩:=hn.inner;have ef:=C9 hat.sound n1;obtain⟨ks,cs,rfl⟩:∃ks cs,n=⟨false,ks,[],cs⟩:=⟨_,_,ef⟩
 simp only at n2 hne;obtain⟨hko,hcl,hrng⟩:=Bs.1 hat.sound;have hlv:=hat.level (x:=((h+1+1:Nat):Int)) (by show false=_;exact(decide_eq_false (by omega)).symm);have hlz:(AT s k ((h+1+1:Nat):Int)).2=0:=by rw[hlv]
 have hln:(AT s k ((h+1+1:Nat):Int)).1=⟨false,ks,[],cs⟩:=by rw[hlv]
 obtain⟨a,b,rfl,hf,ha,hb⟩:=GP hat.sound key;have ha0:a=[]:=by
  rcases a with _|⟨a0,a⟩
  ·rfl
  ·exfalso;obtain⟨⟨x,x1,x2⟩,_⟩:=(Kd.btw (fun c l P q=>Tr.ne q) n2).2 a0 (by simp);exact ha a0 (by simp) (E4 (hmin x x1) x2)
 subst ha0;obtain⟨ca,c,cb,rfl,ec⟩:=F5 cs (i:=0) (by rw[hcl];simp);have hca:ca=[]:=Adn ec;subst hca;have ecb:cb.length=b.length:=by simp at hcl;omega
 have e0:(⟨false,[]++b,[],[]++[c]++cb⟩:Az).kids.getD 0 0=c:=rfl;have n2':Kd (Tr s (h+1)) ([]++[]++b) ([]++[c]++cb) l Q:=by simpa using n2
 obtain⟨l1,m,l2,P1,Pm,P2,rfl,rfl,g1,g2,g3,g4,g5⟩:=n2'.focus (by simpa using hko) rfl rfl;have hg1:l1=[]∧P1=[]:=by
  rcases g1 with ⟨_,_,e1,e2⟩|⟨ks',k',e,_⟩
  ·exact⟨e1,e2⟩
  ·simp at e
 obtain⟨rfl,rfl⟩:=hg1;have hl2:∀x∈l2,Lt key x.1:=fun x hx=>by
  obtain⟨p,p1,p2⟩:=g3.MJ x hx;exact Ho (hb p p1) p2
 have hp:(k::([]++Pm++P2)).Perm (Pm++(k::P2)):=Aeb.2 fun a=>by
    simp only[Aeg,Aeo,Ael];omega
 obtain⟨q1,q2,q3⟩:=Afl.1 (hp.nodup_iff.1 hnd);have q3':∀p∈k::P2,p∉Pm:=fun p h1 h2=>q3 p h2 p h1 rfl;have hR:∀p∈k::P2,A4 s p:=fun p hp=>by
  rcases Adu.1 hp with rfl|hp
  ·exact hat.liv
  ·exact g3.live p hp
 have hisk:isK m key=true:=by
  have:=DM (a:=[]) (m:=m) (b:=l2) (key:=key) (fun x hx=>by cases hx) hl2;rw[←this];simpa using hisK
 have hminm:∀x∈m,¬Lt x.1 key:=fun x hx=>hmin x (by simp[hx]);rw[HX hlz hln hf (u:=BK s c key (h+1)) (by rw[show([]:List (List UInt8)).length=0 from rfl,e0])] at h0⊢;have ih:=ihh hG g2 q1 hminm hisk;have hrm:=JD (key:=key) h hG g2 q1;generalize BK s c key (h+1)=u at ih hrm h0⊢;rcases hrm with ⟨w1,w2,⟨w3,w4⟩|⟨w3,P',w4,w5⟩⟩|⟨w1,w2⟩
 ·rw[hisk] at w3;cases w3
 ·rw[if_neg (by rw[w1,w2,w3];simp)] at h0⊢;have ih:=ih w1;have hsm:=w4.same hR q3';have w6:=w4.frame hR q2 q3';have hp2:(P'++(k::P2)).Perm (k::([]++P'++P2)):=Aeb.2 fun a=>by
    simp only[Aeg,Aeo,Ael];omega
  have hnd2:=hp2.nodup_iff.1 w6.nd;have hat':=hat.stay (hsm k (Ado ..));have g1':KL (Tr u.1 (h+1)) [] [] [] []:=.inl ⟨rfl,rfl,rfl,rfl⟩;have g3':=g3.stay (hsm.sub (fun p hp=>Adp _ hp));have hlb:=Aah g3 (hsm.sub (fun p hp=>Adp _ hp));have ba:∀k∈([]:List (List UInt8)),∀x∈(B7 m key).1,¬Lt x.1 k:=fun p hp=>by cases hp
  have bb:∀k∈b,∀x∈(B7 m key).1,Lt x.1 k:=fun p hp x hx=>g5 p hp x (Gm hx);have hL:chT s (h+1+1) k=chT s (h+1) c++cb.flatMap (chT s (h+1)):=by rw[ER hat,chN,if_neg (Aeh _)];simp
  rw[hL];by_cases h2:u.2.1.other<0∧u.2.1.size<80
  ·rw[if_pos h2] at h0⊢;obtain⟨n0,Q0,b1,b2,eP',b4⟩:∃n0 Q0,At u.1 u.2.1.page n0∧u.2.1.size=AY n0∧P'=u.2.1.page::Q0∧Nd u.1 (Tr u.1 h) (decide (h=0)) n0 (B7 m key).1 Q0:=by
    rcases w5 with ⟨_,n0,Q0,b1,b2,e,_,b4⟩|⟨z1,_⟩
    ·exact⟨n0,Q0,b1,b2,e,b4⟩
    ·omega
   subst eP';have hz0:AY n0≤79:=by have:=h2.2;omega
   have hsz:=hat.size;rw[size_inner] at hsz;have hlO:chO u.1 h u.2.1=chT u.1 (h+1) u.2.1.page:=by unfold chO;rw[if_pos h2.1,Aed]
   rw[hlO] at ih;rcases g3' with ⟨q,_⟩|⟨kk,b',rfl,r1,r2⟩
   ·exact absurd q hne
   ·obtain⟨cx,c2,cb',rfl,ec'⟩:=F5 cb (i:=0) (by rw[ecb];simp);have hcx:cx=[]:=Adn ec';subst hcx;have r1':Kd (Tr u.1 (h+1)) ([]++[]++b') ([]++[c2]++cb') l2 P2:=by simpa using r1
    have hkb:KO (kk::b'):=hko;obtain⟨x1,m2,x2,X1,Y1,X2,rfl,rfl,f1,f2,f3,f4,f5⟩:=r1'.focus (by simpa using (KO.cons.1 hkb).2.1) rfl rfl;have hf1:x1=[]∧X1=[]:=by
     rcases f1 with ⟨_,_,e1,e2⟩|⟨ks',k',e,_⟩
     ·exact⟨e1,e2⟩
     ·simp at e
    obtain⟨rfl,rfl⟩:=hf1;obtain⟨v2,V2,va,vb,rfl,vd⟩:=Kd.one.1 f2;have hm:=Aa0 w4.gd (i0:=0) (a:=[]) (b:=b') (kk:=kk) (ca:=[]) (cb:=cb') (c1:=u.2.1.page) (c2:=c2) (l1:=[]) (l2:=x2) (P1:=[]) (P2:=X2) hat'.liv rfl (by simp at ecb;omega) (by simpa using hko)
       (fun p hp=>hrng p (by simp at hp⊢;simp[hp])) (by rw[size_inner];simp only[Adj,Adm,Aem,Cg,Cz] at hsz⊢;omega) (by simp) g1' f3 b1 b4 va vd
       (by have:=va.size;omega) (.inr vb) (fun x hx=>bb kk (by simp) x hx) (fun x hx=>r2 x (by simp[hx]))
       (fun p hp=>by cases hp)
       (fun p hp x hx=>(Adg.1 hx).elim (bb p (by simp[hp]) x) (f5 p hp x)) (by
        refine(Aik ?_).1 hnd2;refine Aeb.2 fun a=>?_;simp only[Aeg,Aeo,Afs,Ael];omega) h0
    obtain⟨X,hX1,hX2⟩:=hm;simp only[Ael,List.singleton_append,Aex,Agz,List.flatMap_nil,Ahz,Aem] at hX1 hlb⊢;rw[hX1];subst hX2;rw[←hlb,Adf];exact ih.append (Adb _)
  ·rw[if_neg h2] at h0⊢;have w5':Out u.1 h 1 u.2.1 (B7 m key).1 P':=by
    rcases w5 with ⟨z1,n0,Q0,b1,b2,rfl,_,b4⟩|w5
    ·refine .inl ⟨z1,n0,Q0,b1,b2,rfl,Em.1 (PQ b1.sound ?_),b4⟩;have:¬u.2.1.size<80:=fun q=>h2 ⟨z1,q⟩;omega
    ·exact .inr w5
   have hrl:=ZM w4.gd hat' rfl g1' g3' w5' ba bb hnd2 h0;have hrl:chO (BJ u.1 k ⟨false,[]++b,[],[]++[c]++cb⟩ 0 u.2.1).1 (h+1) (BJ u.1 k ⟨false,[]++b,[],[]++[c]++cb⟩ 0 u.2.1).2.1=chO u.1 h u.2.1++cb.flatMap (chT s (h+1)):=by rw[←hlb];simpa using hrl
   show ChR _ (chO (BJ u.1 k ⟨false,[]++b,[],[]++[c]++cb⟩ 0 u.2.1).1 (h+1) (BJ u.1 k ⟨false,[]++b,[],[]++[c]++cb⟩ 0 u.2.1).2.1);rw[hrl];exact ih.append (Adb _)
 ·rw[if_pos (.inl (by rw[w1];decide))] at h0;exact absurd (h0.symm.trans w1) (by decide)
def UQ:∀h,Ry key h
 |0=>Xt
 |h+1=>WH (UQ h)
def lvs(t:TD):List Int:=A8 t.s t.height t.root
def chs(t:TD):List Int:=chT t.s t.height t.root
def LvR.nil:LvR [k] []:=⟨[],[k],[],rfl,rfl,by simp,by simp⟩
def XO(hG:Pgr.Good s)(ho:0≤md.other)(o:Out s h 0 md l P)(hz:(Br s (-1) ⟨false,[md.key],[],[md.page,md.other]⟩).2.2=0):
  CQ s (Br s (-1) ⟨false,[md.key],[],[md.page,md.other]⟩).1 P:=by
 have hlv:=o.live
 rcases o with ⟨q,_⟩|⟨_,_,l1,l2,P1,P2,rfl,rfl,g1,g2,g3,g4,g5,g6⟩
 ·omega
 ·obtain⟨v1,_,va,_⟩:=id g1
  obtain⟨v2,_,vb,_⟩:=id g2
  have hs:A0 ⟨false,[md.key],[],[md.page,md.other]⟩=true:=by
   refine Bs.2 ⟨KO.cons.2 ⟨⟨g5,g6⟩,KO.nil,fun _ h=>by cases h⟩,rfl,fun c hc=>?_⟩;rcases Adu.1 hc with rfl|hc
   ·exact Cl hG va.liv
   ·rw[Adq.1 hc];exact Cl hG vb.liv
  have hr:Bm ⟨false,[md.key],[],[md.page,md.other]⟩=true:=by
   simp only[Bm,hs,Agg,decide_eq_true_eq];rw[size_inner];simp only[Cz,Adm,Aem];omega
  rcases MN hG hr with ⟨h1,h2,h3⟩|⟨h1,_⟩
  ·exact h2.same hlv (fun p _ q=>by cases q)
  ·rw[h1] at hz;cases hz
def Lm{t:TD}(hG:Pgr.Good t.s)(e:t.height=h+1)(hat:At t.s t.root n)(hn:Nd t.s (Tr t.s h) (decide (h=0)) n l Q)(hnd:(t.root::Q).Nodup):
  (lvs (CH t).1=lvs t∨(lvs (CH t).1=[]∧h=0))∧chs (CH t).1=chs t:=by
 unfold CH
 rw[hat.read]
 dsimp only
 by_cases hk:n.keys=[]
 ·rw[if_neg (by simp[hk])]
  obtain⟨q1,q2⟩:=Afo.1 hnd
  obtain⟨d1,d2⟩:=FI hG hat.liv
  rw[if_neg (by rw[d1];decide)]
  have hx:∀p∈Q,p∉ [t.root]:=fun p hp q=>q1 (Adq.1 q▸hp)
  have hsm:=d2.same hn.live hx
  unfold lvs chs
  by_cases h0:h=0
  ·subst h0
   rw[decide_eq_true rfl] at hn
   obtain⟨n1,n2⟩:=hn.leaf
   rw[hk] at n2
   have hl0:=n2.len
   have hvl:=Adn hl0.1
   have e0:t.height - 1=0:=by omega
   show(A8 (t.s.drop t.root).1 (t.height - 1) _=_∨(A8 (t.s.drop t.root).1 (t.height - 1) _=[]∧_))∧chT (t.s.drop t.root).1 (t.height - 1) _=_
   rw[e0,e]
   refine⟨.inr ⟨rfl,rfl⟩,?_⟩
   rw[ER hat,chN,if_pos rfl,hvl];rfl
  ·rw[decide_eq_false h0] at hn
   obtain⟨n1,n2⟩:=hn.inner
   rw[hk] at n2
   have hl0:=n2.len
   obtain⟨c,ec⟩:∃c,n.kids=[c]:=by
    cases hq:n.kids with
    |nil=>rw[hq] at hl0;cases hl0
    |cons c r=>
     rw[hq] at hl0
     exact⟨c,by rw[Adn (show r.length=0 by simpa using hl0)]⟩
   rw[ec] at n2
   have n3:=Kd.one.1 n2
   obtain⟨h',rfl⟩:∃h',h=h'+1:=⟨h - 1,by omega⟩
   have e0:t.height - 1=h'+1:=by omega
   have er:(if n.leaf=true then(-1:Int) else n.kids.getD 0 0)=c:=by rw[if_neg (by rw[n1];decide),ec];rfl
   show(A8 (t.s.drop t.root).1 (t.height - 1) (if n.leaf=true then(-1:Int) else n.kids.getD 0 0)=_∨(A8 (t.s.drop t.root).1 (t.height - 1) (if n.leaf=true then(-1:Int) else n.kids.getD 0 0)=[]∧_))∧chT (t.s.drop t.root).1 (t.height - 1) (if n.leaf=true then(-1:Int) else n.kids.getD 0 0)=_
   rw[e0,e,er]
   refine⟨.inl ?_,?_⟩
   ·rw[EV h' n3 hsm,Ee hat,ec];simp
   ·rw[G8 h' n3 hsm,ER hat,chN,if_neg (Aeh _),ec];simp
 ·rw[if_pos (by simp[hk])]
  exact⟨.inl rfl,rfl⟩
def WK{t:TD}(h:Tok t l P)(hmin:∀x∈l,¬Lt x.1 key)(hisK:isK l key=true)(h0:(BF t key).2.2=0):
  LvR (lvs t) (lvs (BF t key).1)∧(chs (BF t key).1).Sublist (chs t):=by
 unfold BF at*
 rcases h.tr with ⟨e1,e2,rfl,rfl⟩|⟨x,e1,e2⟩
 ·rw[Ie] at hisK;cases hisK
 ·rw[if_neg (by omega)] at h0⊢
  dsimp only at h0⊢
  have hr:=JD (key:=key) x h.gd e2 h.nd
  have hm:=XT (key:=key) x h.gd e2 h.nd hmin hisK
  have hc:=UQ (key:=key) x h.gd e2 h.nd hmin hisK
  have ea:lvs t=A8 t.s (x+1) t.root:=by unfold lvs;rw[e1]
  have eb:chs t=chT t.s (x+1) t.root:=by unfold chs;rw[e1]
  rw[ea,eb]
  rw[e1] at h0⊢
  generalize BK t.s t.root key (x+1)=u at hr hm hc h0⊢
  rcases hr with ⟨r1,r2,⟨r3,r4⟩|⟨r3,P',r4,r5⟩⟩|⟨r1,r2⟩
  ·rw[hisK] at r3;cases r3
  ·rw[if_neg (by rw[r1,r2,r3];simp)] at h0⊢
   have hm:=hm r1
   have hc:=hc r1
   unfold CP at h0⊢
   by_cases ho:u.2.1.other<0
   ·rw[if_pos ho] at h0⊢
    have f1:B6 u.1 x u.2.1=A8 u.1 (x+1) u.2.1.page:=by unfold B6;rw[if_pos ho,Aed]
    have f2:chO u.1 x u.2.1=chT u.1 (x+1) u.2.1.page:=by unfold chO;rw[if_pos ho,Aed]
    rw[f1] at hm
    rw[f2] at hc
    rcases r5 with ⟨_,n,Q,b1,b2,rfl,_,b4⟩|⟨q,_⟩
    ·rw[if_neg (fun q=>q rfl)] at h0⊢
     obtain⟨s1,s2⟩:=Lm (t:=⟨u.1,u.2.1.page,x+1,t.count - 1⟩) r4.gd (h:=x) rfl b1 b4 r4.nd
     refine⟨?_,?_⟩
     ·show LvR _ (lvs (CH ⟨u.1,u.2.1.page,x+1,t.count - 1⟩).1)
      rcases s1 with s1|⟨s1,s3⟩
      ·rw[s1];exact hm
      ·rw[s1,s3]
       exact LvR.nil
     ·show(chs (CH ⟨u.1,u.2.1.page,x+1,t.count - 1⟩).1).Sublist _
      rw[s2];exact hc
    ·omega
   ·rw[if_neg ho] at h0⊢
    have hrt:=NL r4.gd (by omega) r5 r4.nd
    dsimp only at h0⊢
    have hlv:=r5.live
    have key2:∀w:PD×Int×Int,CQ u.1 w.1 P'→At w.1 w.2.1 ⟨false,[u.2.1.key],[],[u.2.1.page,u.2.1.other]⟩→A8 w.1 (x+1+1) w.2.1=B6 u.1 x u.2.1∧chT w.1 (x+1+1) w.2.1=chO u.1 x u.2.1:=by
     intro w hs ha;rw[Ee ha,ER ha,chN,if_neg (Aeh _)];have hko2:Dz u.2.1=[u.2.1.page,u.2.1.other]:=by unfold Dz;rw[if_neg ho]
     rw[←hko2,GL,JQ];have r5':Out u.1 x 1 u.2.1 (B7 l key).1 P':=by
      rcases r5 with ⟨q,_⟩|r5
      ·exact absurd q ho
      ·exact .inr r5
     exact⟨Pk r5' hs,Xe r5' hs⟩
    have hsame:=XO r4.gd (by omega) r5
    generalize Br u.1 (-1) ⟨false,[u.2.1.key],[],[u.2.1.page,u.2.1.other]⟩=r at hrt hsame h0⊢
    rcases hrt with ⟨w1,P2,w2,w3,w4⟩|⟨w1,w2⟩
    ·rw[if_neg (by rw[w1];decide)] at h0⊢
     obtain⟨k1,k2⟩:=key2 r (hsame w1) w4
     obtain⟨n,Q,b1,b2,b3,b4⟩:=w3
     subst b3
     obtain⟨s1,s2⟩:=Lm (t:=⟨r.1,r.2.1,x+1+1,t.count - 1⟩) w2.gd (h:=x+1) rfl b1 b4 w2.nd
     refine⟨?_,?_⟩
     ·show LvR _ (lvs (CH ⟨r.1,r.2.1,x+1+1,t.count - 1⟩).1)
      rcases s1 with s1|⟨_,s1⟩
      ·rw[s1]
       show LvR _ (A8 r.1 (x+1+1) r.2.1)
       rw[k1];exact hm
      ·omega
     ·show(chs (CH ⟨r.1,r.2.1,x+1+1,t.count - 1⟩).1).Sublist _
      rw[s2]
      show(chT r.1 (x+1+1) r.2.1).Sublist _
      rw[k2];exact hc
    ·rw[if_pos (by rw[w1];decide)] at h0
     exact absurd (h0.symm.trans w1) (by decide)
  ·rw[if_pos (.inl (by rw[r1];decide))] at h0
   exact absurd (h0.symm.trans r1) (by decide)
def ZY(h:Nat)(s:PD)(k:Int)(l:List KV)(P:List Int):Prop:=
 ∃I,P.Perm (I++A8 s (h+1) k++chT s (h+1) k)∧I.length+1≤(A8 s (h+1) k).length∧(A8 s (h+1) k).length≤l.length
def SX(hR:∀c l P,R c l P→ZY h s c l P):∀{ks}{cs:List Int}{l}{P:List Int},Kd R ks cs l P→
  ∃I,P.Perm (I++cs.flatMap (A8 s (h+1))++cs.flatMap (chT s (h+1)))∧I.length+(ks.length+1)≤(cs.flatMap (A8 s (h+1))).length∧(cs.flatMap (A8 s (h+1))).length≤l.length
 |[],[c],l,P,hk=>by
  obtain⟨I,h1,h2,h3⟩:=hR c l P hk;refine⟨I,?_,?_,?_⟩
  ·simpa using h1
  ·simpa using h2
  ·simpa using h3
 |[],[],l,P,h=>h.elim
 |[],_::_::_,l,P,h=>h.elim
 |_::_,[],l,P,h=>h.elim
 |k::ks,c::cs,l,P,hk=>by
  obtain⟨l1,l2,P1,P2,rfl,rfl,h1,_,_,h4⟩:=Kd.cons.1 hk;obtain⟨I,a1,a2,a3⟩:=hR c l1 P1 h1;obtain⟨J,b1,b2,b3⟩:=SX hR h4;rw[Agz,Agz];refine⟨I++J,?_,?_,?_⟩
  ·refine(a1.append b1).trans (Aeb.2 fun a=>?_);simp only[Aeg];omega
  ·simp only[Adj,Adm] at*;omega
  ·simp only[Adj] at*;omega
def Kb:∀(h:Nat) {s}{k:Int}{l}{P:List Int},Tr s (h+1) k l P→ZY h s k l P
 |0,s,k,l,P,ht=>by
  have hne:=Em.1 ht.ne;obtain⟨n,Q,hat,_,eP,hn⟩:=ht;rw[decide_eq_true rfl] at hn;refine⟨[],?_,Adi _,hne⟩
  rw[eP,ER hat,chN,if_pos rfl,hn.leaf.2.ch];exact Aeq _
 |h+1,s,k,l,P,⟨n,Q,hat,hne,eP,hn⟩=>by
  rw[decide_eq_false (Aeh _)] at hn;have h2:=Em.1 hne;obtain⟨I,a1,a2,a3⟩:=SX (fun c l P q=>Kb h q) hn.inner.2;refine⟨k::I,?_,?_,?_⟩
  ·rw[eP,Ee hat,ER hat,chN,if_neg (Aeh _)];exact a1.cons k
  ·rw[Ee hat,Adm];omega
  ·rw[Ee hat];exact a3
def K9(l:List Int):List Int:=l.map fun x=>if x=1 then 2 else 0
def WZ{l:List Int}:(K9 l).countP (·==2)=l.countP (·==1):=by
 unfold K9;rw[List.countP_map];refine List.countP_congr fun x _=>?_;by_cases e:x=1<;>simp[e]
def NB:∀{l:List Int},(∀x∈l,0≤x∧x≤3)→l.countP (·==0)+l.countP (·==1)+l.countP (fun x=>decide (2≤x))=l.length
 |[],_=>rfl
 |x::l,h=>by
  have ih:=NB (l:=l) (fun y hy=>h y (Adp _ hy));obtain⟨h1,h2⟩:=h x (Ado ..);have:x=0∨x=1∨x=2∨x=3:=by omega
  simp only[List.countP_cons,Adm];rcases this with rfl|rfl|rfl|rfl<;>simp<;>omega
def QC{p:Int→Bool}(h0:p 0=false):∀{a b:List Int},a.length=b.length→(∀i,p (a.getD i 0)=p (b.getD i 0))→a.countP p=b.countP p
 |[],[],_,_=>rfl
 |x::a,y::b,e,h=>by
  have h1:=h 0;have ih:=QC h0 (a:=a) (b:=b) (by simpa using e) (fun i=>by simpa using h (i+1));simp only[List.getD_cons_zero] at h1;rw[List.countP_cons,List.countP_cons,ih,h1]
 |[],_::_,e,_=>by simp at e
 |_::_,[],e,_=>by simp at e
def PD.og(s:PD):Nat:=s.kinds.countP (fun x=>decide (2≤x))
def AaG(h:Pgr.AH s t):PD.og t=PD.og s:=by
 unfold PD.og;exact QC (by decide) h.len (fun i=>by
  have h1:=h.old i;have h2:=h.new i;rw[decide_eq_decide];exact⟨h2,h1⟩)
def Mu:∀{a b:List Int},a.Nodup→(∀x∈a,x∈b)→a.length≤b.length
 |[],_,_,_=>Aej _
 |x::a,b,hn,h=>by
  obtain⟨n1,n2⟩:=Afo.1 hn;have hx:=h x (Ado ..);have ih:=Mu (b:=b.erase x) n2 (fun y hy=>(List.mem_erase_of_ne (fun(e:y=x)=>n1 (e▸hy))).2 (h y (Adp _ hy)));have:=List.length_erase_of_mem hx;have:=List.length_pos_of_mem hx;rw[Adm];omega
def AbR{I L C:List Int}(on:SD s P)(hp:P.Perm (I++L++C))(hL:∀p∈L.drop 2,s.kind p=2)(hC:∀p∈C,s.kind p=2):s.kinds.countP (·==1)≤I.length+2:=by
 have e1:(C4 s.frm (K9 s.kinds) 0).length=s.kinds.countP (·==1):=by rw[F4,WZ]
 have hm:∀k∈C4 s.frm (K9 s.kinds) 0,k∈I++L.take 2:=fun k hk=>by
  obtain⟨j,j1,j2,rfl⟩:=Gn.1 hk;have j1':j<s.kinds.length:=by simpa [K9] using j1
  have j3:s.kd j=1:=by
   unfold K9 at j2;rw[Adh,List.getElem?_map,Ade j1'] at j2;rw[GJ j1'];by_cases e:s.kinds[j]=1
   ·exact e
   ·simp[e] at j2
  have j4:s.kind ((s.frm+(0+j):Nat):Int)=1:=by rw[show 0+j=j by omega,GB j1',j3]
  have hin:=hp.mem_iff.1 ((on _).1 (.inl j4));rcases Adg.1 hin with hin|hin
  ·rcases Adg.1 hin with hin|hin
   ·exact Adw _ hin
   ·rw[←List.take_append_drop 2 L] at hin;rcases Adg.1 hin with hin|hin
    ·exact Ady _ hin
    ·have:=hL _ hin;omega
  ·have:=hC _ hin;omega
 have hnd:(C4 s.frm (K9 s.kinds) 0).Nodup:=(Iy (frm:=s.frm) (l:=K9 s.kinds) (i:=0)).imp (fun h=>by omega);have:=Mu hnd hm;rw[e1,Adj,Adz] at this;omega
structure Emp (N g i:Nat) (t:TD) (l:List KV) (P:List Int):Prop where
 gr:Gr N i t l P
 lv:∀p∈(lvs t).drop 2,t.s.kind p=2
 ch:∀p∈chs t,t.s.kind p=2
 og:PD.og t.s=g
def LvR.old{L L':List Int}(h:LvR L L'):∀p∈L'.drop 2,p∈L.drop 2:=by
 obtain⟨x,y,r,rfl,rfl,h1,h2⟩:=h;rcases x with _|⟨a,_|⟨b,_|⟨c,x⟩⟩⟩
 ·rcases y with _|⟨d,_|⟨e,_|⟨f,y⟩⟩⟩
  ·exact fun p hp=>hp
  ·simp only[Ael,Aex];rcases r with _|⟨r0,r⟩
   ·simp
   ·simp only[Ahc];exact fun p hp=>Aft hp
  ·simp only[Ael,Aex,Ahc,List.drop_zero];exact fun p hp=>Aft hp
  ·simp at h2
 ·rcases y with _|⟨d,_|⟨e,_|⟨f,y⟩⟩⟩
  ·simp at h1
  ·exact fun p hp=>hp
  ·simp only[Ael,Aex,Ahc,List.drop_zero];exact fun p hp=>Aft hp
  ·simp at h2
 ·rcases y with _|⟨d,_|⟨e,_|⟨f,y⟩⟩⟩
  ·simp at h1
  ·simp at h1
  ·exact fun p hp=>hp
  ·simp at h2
 ·simp at h1;omega
def Emp.free{g:Nat}{t:TD}(h:Emp N g i t l P)(hl:l≠[]):N≤t.s.free+g+l.length+1:=by
 have hg:=h.gr;rcases hg.ok.tr with ⟨_,_,rfl,_⟩|⟨x,e,ht⟩
 ·exact absurd rfl hl
 obtain⟨I,h1,h2,h3⟩:=Kb x ht;have el:lvs t=A8 t.s (x+1) t.root:=by unfold lvs;rw[e]
 have ec:chs t=chT t.s (x+1) t.root:=by unfold chs;rw[e]
 rw[←el,←ec] at h1;rw[←el] at h2 h3;have hn:=AbR hg.on h1 h.lv h.ch;have hk:=NB (l:=t.s.kinds) (fun x hx=>by
  obtain⟨j,hj,rfl⟩:=Aez hx;have:=hg.ok.gd.kd j;rw[PD.kd,Adh,Ade hj] at this;exact this)
 have ho:=h.og;have hN:=hg.kn;unfold PD.og at ho;show N≤t.s.kinds.countP (·==0)+g+l.length+1;omega
def XR{r}(h:KO ((x::r).map Prod.fst)):(B7 (x::r) x.1).1=r∧isK (x::r) x.1=true∧∀y∈x::r,¬Lt y.1 x.1:=by
 obtain⟨h1,h2,h3⟩:=KO.cons.1 (show KO (x.1::r.map Prod.fst) from h);have hb:∀y∈r,Lt x.1 y.1:=fun y hy=>h3 _ (Agq hy);have e:=J5 (a:=[]) (m:=[x]) (b:=r) (key:=x.1) (fun _ h=>by cases h) hb;have e2:=DM (a:=[]) (m:=[x]) (b:=r) (key:=x.1) (fun _ h=>by cases h) hb;simp only[Ael,List.singleton_append] at e e2;rw[e,e2];refine⟨?_,H8,fun y hy=>?_⟩
 ·show(B7 [(x.1,x.2)] x.1).1++r=r;rw[NM];rfl
 ·rcases Adu.1 hy with rfl|hy
  ·exact Iz
  ·exact fun q=>Iz (FP q (hb y hy))
def Emp.del{g:Nat}{t:TD}{r}(h:Emp N g i t (x::r) P)(hr:4*t.height+3+g+r.length≤N):
  (Cu t x.1).2.2=0∧(Cu t x.1).2.1=true∧∃P',Emp N g i (Cu t x.1).1 r P':=by
 have hg:=h.gr
 have hw:=hg.ok.Acp (Ado ..)
 have hf:=h.free (by simp)
 rw[Adm] at hf
 obtain⟨e1,e2,e3⟩:=XR hg.ok.asc
 have e:Cu t x.1=(B8 t (BF t x.1).1 (BF t x.1).2.2,(BF t x.1).2.1 && decide ((BF t x.1).2.2=0),(BF t x.1).2.2):=by unfold Cu;rw[if_neg (fun q=>q hw)]
 rcases hg.del hw with ⟨h1,h2,P',h3⟩|⟨_,_,h2,_⟩
 ·have h1':(BF t x.1).2.2=0:=by rw[e] at h1;exact h1
  have ec:(Cu t x.1).1=(BF t x.1).1:=by rw[e];show B8 t _ _=_;unfold B8;rw[if_pos h1']
  refine⟨h1,by rw[h2,e2],P',?_⟩
  rw[e1] at h3
  have hkp:=R3 t x.1
  obtain⟨p1,p2⟩:=WK hg.ok e3 e2 h1'
  rw[←ec] at p1 p2 hkp
  have hold:∀p∈P',t.s.kind p=2→(Cu t x.1).1.s.kind p=2:=fun p hp h2=>by
   have hlv:=(h3.on p).2 hp;obtain⟨j,j1,rfl,j2,_⟩:=CA h2 (by omega);have j3:=hkp.old j (by omega);have hlen:=hkp.len;have:=GB (s:=(Cu t x.1).1.s) (i:=j) (by omega);rw[hkp.frm] at this;unfold A4 at hlv;rw[this] at hlv⊢;omega
  have hin:(∀p∈lvs (Cu t x.1).1,p∈P')∧∀p∈chs (Cu t x.1).1,p∈P':=by
   rcases h3.ok.tr with ⟨q,_⟩|⟨y,q,ht⟩
   ·unfold lvs chs;rw[q];exact⟨fun p hp=>(by cases hp),fun p hp=>(by cases hp)⟩
   ·obtain⟨I,b1,_⟩:=Kb y ht;unfold lvs chs;rw[q];exact⟨fun p hp=>b1.mem_iff.2 (by simp[hp]),fun p hp=>b1.mem_iff.2 (by simp[hp])⟩
  exact⟨h3,fun p hp=>hold p (hin.1 p (Aft hp)) (h.lv p (p1.old p hp)),fun p hp=>hold p (hin.2 p hp) (h.ch p (p2.subset hp)),(AaG hkp).trans h.og⟩
 ·omega
def Gr.Abe{t:TD}(h:Gr N i t l P)(hl:l.length≤60):t.height≤6:=by
 rcases h.ok.high with ⟨_,e,_⟩|⟨_,_,e⟩
 ·omega
 ·refine Nat.le_of_not_lt fun q=>?_;have:2 ^ 7≤2 ^ t.height:=Nat.pow_le_pow_right (by decide) q;omega
def Gr.emp{t:TD}(h:Gr 400 i t l P)(hl:l.length≤60):∃g,g≤300∧Emp 400 g i {t with s:=t.s.fin} l P:=by
 have hf:=h.fin;have h2:∀p∈P,t.s.fin.kind p=2:=fun p hp=>by
  have hlv:A4 t.s.fin p:=(hf.on p).2 hp;unfold A4 at hlv;rcases hlv with q|q
  ·obtain⟨j,j1,_,j2,_⟩:=CA q (by omega);rcases LM h.ok.gd (i:=j) with w|w<;>omega
  ·exact q
 have hP:P.length≤300:=by
  rcases h.ok.tr with ⟨_,_,_,rfl⟩|⟨y,q,ht⟩
  ·simp
  ·have:=R4 y ht (fun x hx=>(h.kv x hx).2);omega
 have hog:PD.og t.s.fin≤P.length:=by
  have e1:PD.og t.s.fin=t.s.fin.kinds.countP (·==2):=by
   unfold PD.og;refine List.countP_congr fun x hx=>?_;obtain⟨j,hj,rfl⟩:=Aez hx;have:=LM h.ok.gd (i:=j);rw[GJ hj] at this;rcases this with q|q<;>simp[q]
  rw[e1,←F4 (frm:=t.s.fin.frm) (i:=0)];exact Mu (Iy.imp (fun h=>by omega)) (fun x hx=>(hf.on x).1 (.inr (by
   obtain⟨j,j1,j2,rfl⟩:=Gn.1 hx;rw[show 0+j=j by omega];exact(GB (s:=t.s.fin) j1).trans j2)))
 have hin:(∀p∈lvs {t with s:=t.s.fin},p∈P)∧∀p∈chs {t with s:=t.s.fin},p∈P:=by
  rcases hf.ok.tr with ⟨q,_⟩|⟨y,q,ht⟩
  ·unfold lvs chs;simp only at q;simp only[q];exact⟨fun p hp=>(by cases hp),fun p hp=>(by cases hp)⟩
  ·obtain⟨I,b1,_⟩:=Kb y ht;unfold lvs chs;simp only at q;simp only[q];exact⟨fun p hp=>b1.mem_iff.2 (by simp[hp]),fun p hp=>b1.mem_iff.2 (by simp[hp])⟩
 exact⟨PD.og t.s.fin,by omega,hf,fun p hp=>h2 p (hin.1 p (Aft hp)),fun p hp=>h2 p (hin.2 p hp),rfl⟩
def Emp.step{g:Nat}{t:TD}{r}(h:Emp 400 g i t (x::r) P)(hg:g≤300)(hl:(x::r).length≤60):(Cu t x.1).2.2=0∧(Cu t x.1).2.1=true∧∃P',Emp 400 g i (Cu t x.1).1 r P':=by
 have:=h.gr.Abe hl;rw[Adm] at hl;exact h.del (by omega)
def Gr.none{t:TD}(h:Gr N i t [] P):P=[]∧t.height=0∧t.root= -1∧t.count=0:=by
 have hc:=h.ok.ct;rcases h.ok.tr with ⟨a,b,_,c⟩|⟨y,_,ht⟩
 ·exact⟨c,a,b,hc⟩
 ·exact absurd rfl ht.ne
def Gr.W7{t:TD}(h:Gr N i t [] P):t.s.done.free=N:=by
 obtain⟨e,_⟩:=h.none;have:=h.QL.2;rw[e] at this;have h2:t.s.fin.free=t.s.done.free:=rfl;rw[←h2];simpa using this
end Go.Gk.Tre
end
section
namespace Go.Gk.Tre
open Go Go.Gk Go.Gk.Dev Go.Gk.Cch Go.Gk.Pgr Go.Gk.Chn Go.Gk.Node
attribute [local irreducible] gwp gws xwp
section
section
variable {P:Program}{f:FuncId}{d:Ac}{s:PD}{dv pv:Value}{L:List Ac}
def AaE(h:Js P f)(hp:PgT d s dv pv L):Av P f [pv] d L (Ret fun r d' L'=>r=vZ 0∧d'=d∧PgT d' s.flush dv pv L'):=by
 obtain⟨n,hp⟩:=hp;exact Av.DL (h (s:=wtc s n) hp) (fun r d' L' _ ⟨z1,z2,z3⟩=>⟨d',L',Vs.refl _ _,z1,z2,n,by rw[R1] at z3;exact z3⟩)
def XH(h:KM P f)(hp:PgT d s dv pv L):Av P f [pv] d L (Ret fun r d' L'=>r=vZ 0∧d'=d∧PgT d' s.done dv pv L'):=by
 obtain⟨n,hp⟩:=hp;exact Av.DL (h (s:=wtc s n) hp) (fun r d' L' _ ⟨z1,z2,z3⟩=>⟨d',L',Vs.refl _ _,z1,z2,n,z3⟩)
def AcR(h:RS P f)(hp:PgT d s dv pv L):Av P f [pv] d L (Ret fun r d' L'=>L'=L∧Le d d'∧C5 d' r s.B5):=by
 obtain⟨n,hp⟩:=hp;exact h (s:=wtc s n) hp
end
def Gr.Hu{N i:Nat}{t:TD}{l}{P:List Int}(h:Gr N i t l P)(hP:P.length≤8192):Tre.Hu t=(P.mergeSort (fun x y=>decide (x≤y)),0)∧(t.height≠0→(BX t.s t.root t.height).2≠99999):=by
 unfold Tre.Hu;rcases h.ok.tr with ⟨e,_,_,rfl⟩|⟨x,e,ht⟩
 ·rw[if_pos e];exact⟨by simp,fun q=>absurd e q⟩
 ·rw[if_neg (by omega),e,SG x ht hP];exact⟨rfl,fun _=>(by show(0:Int)≠99999;decide)⟩
def IJ(a0 a1 a2 a3 a4 a5 a6 a7 a8 a9 a10:Nat):A5:=⟨118,[(.tmp 2)],(sR (o1 2 (.mv (.const (.bool false))) .done) (.seq (sR (oc 15 a0 []<|o1 16 (.un .not 15) .done) (.cond 16 (sR (o1 2 (.mv (.const (.bool false))) .done) .ret) .skip)) (sR (oc 18 a1 [(kZ 400)]<|om 17 18<|oe 19 17 0<|oe 20 17 1<|om 3 19<|om 4 20 .done) (.seq (sR (om 21 4<|o1 22 (.eqp false 21 (.const (.pointer none))) .done) (.cond 22 (sR (o1 2 (.mv (.const (.bool false))) .done) .ret) .skip)) (sR (om 24 3<|om 25 4<|om 26 0<|oc 27 a2 [24,25,26,(kZ 60)]<|om 23 27<|oe 28 23 0<|oe 29 23 1<|om 5 28<|om 6 29 .done) (.seq (sR (om 30 6<|o1 31 (.un .not 30)<|om 32 31<|gF 33 32 3<|oF 34 32 (.call a3 [33])<|oF 35 32 (.bin .neq 34 z0)<|o1 36 (.pick 32 (.const (.bool true)) 35)<|om 37 36<|gF 38 37 3<|oF 39 37 (.call a4 [38])<|oF 40 37 (.bin .neq 39 z0)<|o1 41 (.pick 37 (.const (.bool true)) 40) .done) (.cond 41 (sR (o1 2 (.mv (.const (.bool false))) .done) .ret) .skip)) (sR (om 43 4<|oc 44 a5 [43]<|om 42 44<|oe 45 42 0<|oe 46 42 1<|om 7 45<|om 8 46 .done) (.seq (sR (om 47 8<|ob 48 .neq 47 z0<|om 49 48<|gF 50 49 7<|oF 51 49 (.len 50)<|gF 52 49 3<|oF 53 49 (.call a6 [52])<|oF 54 49 (.bin .add 51 53)<|oF 55 49 (.bin .neq 54 (kZ 400))<|o1 56 (.pick 49 (.const (.bool true)) 55) .done) (.cond 56 (sR (o1 2 (.mv (.const (.bool false))) .done) .ret) .skip)) (sR (om 57 3<|oc 58 a7 [57]<|om 9 58 .done) (.seq (sR (om 59 9<|oL 60 59<|om 61 7<|oL 62 61<|ob 63 .neq 60 62 .done) (.cond 63 (sR (o1 2 (.mv (.const (.bool false))) .done) .ret) .skip)) (.seq (sR (om 64 9<|oL 65 64<|o1 66 (.mv z0) .done) (.block 0 (.loop (sR (ob 67 .lss 66 65 .done) (.seq (.cond 67 .skip (.exit 0)) (.seq (.block 1 (sR (om 68 66<|om 10 68 .done) (.seq (.reg true (pm 69 9<|pm 70 10<|p1 71 (.idx 1 69 70)<|pl 72 71<|pm 73 7<|pm 74 10<|p1 75 (.idx 1 73 74)<|pl 76 75<|p1 77 (.bin .neq 72 76) .done)) (.cond 77 (sR (o1 2 (.mv (.const (.bool false))) .done) .ret) .skip)))) (rG (ob 78 .add 66 z1<|om 66 78 .done)))))))) (.seq (sR (om 79 5<|oL 80 79<|o1 81 (.mv z0) .done) (.block 2 (.loop (sR (ob 82 .lss 81 80 .done) (.seq (.cond 82 .skip (.exit 2)) (.seq (.block 3 (sR (oI 83 2 79 81<|o1 84 (.ld (some 2) 83)<|o1 12 (.alo (.agg #[(Bt []),(Bt [])]))<|o0 (.st 2 12 84) .done) (sR (om 86 4<|oj 87 0 12<|ol 88 87<|o1 89 (.mop (.s2b 88))<|oc 90 a8 [86,89]<|om 85 90<|oe 91 85 0<|oe 92 85 1<|om 13 91<|om 14 92 .done) (sR (om 93 14<|ob 94 .neq 93 z0<|om 95 94<|gF 96 95 13<|oF 97 95 (.un .not 96)<|o1 98 (.pick 95 (.const (.bool true)) 97) .done) (.cond 98 (sR (o1 2 (.mv (.const (.bool false))) .done) .ret) .skip))))) (rG (ob 99 .add 81 z1<|om 81 99 .done)))))))) (sR (om 100 3<|oc 101 a4 [100]<|ob 102 .eql 101 z0<|om 103 102<|gT 104 103 3<|oT 105 103 (.call a6 [104])<|oT 106 103 (.bin .eql 105 (kZ 400))<|gP 107 103 106<|om 108 107<|gT 109 108 4<|oT 110 108 (.call a9 [109])<|oT 111 108 (.bin .eql 110 (kZ (-1)))<|gP 112 108 111<|om 113 112<|gT 114 113 4<|oT 115 113 (.call a10 [114])<|oT 116 113 (.bin .eql 115 z0)<|gP 117 113 116<|om 2 117 .done) .ret)))))))))))))⟩
set_option maxRecDepth 4000 in
set_option maxHeartbeats 4000000 in
def treeRoom{P f f1 f2 f3 f4 f5 f6 f7 f8 f9 f10 f11}(hd:dec P f=some (IJ f1 f2 f3 f4 f5 f6 f7 f8 f9 f10 f11))(h1:Ya P f1)(h2:IM P f2)(h3:Qp P f3)(h4:Js P f4)(h5:KM P f5)(h6:OC P f6)(h7:LO P f7)(h8:RS P f8)
  (h9:LV P f9) (h10:M5 P f10) (h11:ID P f11)
  {d w}{acts:List Zw}(hw:RSl 3 RAc d w acts):Av P f [w] d [] (Ret fun r _ _=>r=.bool true):=by
 have hwl:=hw.B3
 refine AF hd (Ada rfl) ?_
 show gwp P _ _ _ _ _
 (refine Ad<|Ae rfl<|Aa<|Af<|Ad ?_)
 refine Bl rfl h1 (fun v d0 L0 hl0 ⟨q7,q8⟩=>?_)
 subst q7;subst q8
 (refine Bx rfl<|Aa<|AS rfl<|Ak<|Ad ?_)
 refine D4 (L:=[]) (h2 (n:=400) (by omega) (by omega)) rfl (fun u d1 L1 hl1 ⟨bt,Tt,bd,bp,L2,q1,q2,hp⟩=>?_)
 subst q1;subst q2
 have hw1:=RSl.mono (R:=RAc) US hw (hl0.trans hl1)
 (refine AU rfl<|Ao rfl rfl<|Ao rfl rfl<|Am rfl<|Am rfl<|Aa<|Af<|Ad<|Am rfl<|Dk rfl rfl<|Aa<|AS rfl<|Ak<|Ad<|Am rfl<|Am rfl<|AJ ?_)
 refine A7 [] (h3 (t:=⟨pdN 400, -1,0,0⟩) (Tt:=Tt) (most:=60) (N:=400) (PgT.of hp) (Gr.empty (by omega) (by omega)) hw1 (by omega)) rfl rfl (fun v d2 L3 hl2 ⟨_,u,t0,l,P',L4,q3,hl,hg0,q4,hp4⟩=>?_)
 subst q3;subst q4
 obtain⟨lx,ly,rfl⟩:=hl.val
 (refine AU rfl<|Ao rfl rfl<|Ao rfl rfl<|Al rfl<|Ae rfl<|Aa<|Af<|Ad<|Ae rfl<|Bx rfl<|Ae rfl<|Ah rfl<|Am rfl<|Ah rfl ?_)
 refine A7 [_] (AaE h4 hp4) rfl rfl (fun v d3 L5 hl3 ⟨e4,e5,hp5⟩=>?_)
 subst e4;subst e5
 (refine Ah rfl<|AN rfl rfl<|Aw rfl rfl<|Ae rfl<|Bf rfl (by omega)<|Ah rfl<|Am rfl<|Ah rfl ?_)
 refine A7 [_] (XH h5 hp5) rfl rfl (fun v d4 L6 hl4 ⟨e6,e7,hp6⟩=>?_)
 subst e6;subst e7
 have hln:=hg0.ln
 obtain⟨ho1,ho2⟩:=hg0.QL
 obtain⟨g,hgle,hem⟩:=hg0.emp (by omega)
 obtain⟨t,ht⟩:∃t:TD,t={t0 with s:=t0.s.fin}:=⟨_,rfl⟩
 rw[←ht] at hem
 have hp6:PgT d4 t.s (pZ bd) (pZ bp) L6:=by rw[ht];exact hp6
 have e0:[tb bt Tt (pZ bp) t0.root t0.height t0.count]++L6=tbD bt Tt (pZ bp) t::L6:=by rw[ht];rfl
 have ho1:t.s.B5=P'.mergeSort (fun x y=>decide (x≤y)):=by rw[ht];exact ho1
 have ho2:P'.length+t.s.free=400:=by rw[ht];exact ho2
 rw[e0]
 clear ht e0 hg0 hp4 hp5
 have hg:=hem.gr
 obtain⟨hkl,hth⟩:=hg.ok.far (by omega)
 obtain⟨hpf,hpn⟩:=hg.Hu (by omega)
 have hML:(P'.mergeSort (fun x y=>decide (x≤y))).length=P'.length:=List.length_mergeSort ..
 generalize P'.mergeSort (fun x y=>decide (x≤y))=M at ho1 hpf hML
 (refine Ah rfl<|AN rfl rfl<|Aw rfl rfl<|Aa<|Ar rfl (by omega)<|Ak<|Ad<|Am rfl ?_)
 refine A7 [] (h6 (t:=t) (Tt:=Tt) hp6 (by omega) (by have:=hkl.r0;omega) (by have:=hkl.r1;omega) hpn) rfl rfl (fun v d5 L7 hl5 ⟨_,w1,L8,e1,hw5,e2,hp8⟩=>?_)
 rw[hpf] at e1 hw5
 simp only at e1 hw5
 subst e1;subst e2
 have hl5':=RSl.mono (R:=RKv) EI hl hl5
 obtain⟨pa,pc,rfl⟩:=RSl.val hw5
 have g7:∀{d t L},PgT d t (pZ bd) (pZ bp) L→CV P f7 [pZ bp] d L (vZ ((t.free:Nat):Int)):=fun⟨n6,hp6⟩=>h7 (s:=wtc _ n6) hp6
 (refine AU rfl<|Ao rfl rfl<|Ao rfl rfl<|Al rfl<|Ab rfl<|Aa<|Af<|Ad<|Ab rfl<|AN rfl rfl<|Ae rfl<|Bf rfl (by omega)<|Ah rfl<|Al rfl<|Ah rfl<|AK rfl<|Ah rfl<|Am rfl<|Ah rfl ?_)
 refine Ci [_] (g7 hp8) rfl rfl ?_
 have h400:(M.length:Int)+((t.s.free:Nat):Int)=400:=by omega
 (refine Ah rfl<|AL rfl rfl (by omega) (by omega)<|Ah rfl<|AN rfl rfl<|Aw rfl rfl<|Aa<|Ar rfl (by omega)<|Ak<|Ad<|Am rfl ?_)
 refine A7 [_] (AcR h8 hp8) rfl rfl (fun v d6 L9 hl6 ⟨e1,_,hw6⟩=>?_)
 subst e1
 rw[ho1] at hw6
 have hp9:=hp8.mono hl6
 have hl6':=RSl.mono (R:=RKv) EI hl5' hl6
 have hw5':=RSl.mono (R:=Bb) B2 hw5 hl6
 obtain⟨oa,oc,rfl⟩:=RSl.val hw6
 (refine Al rfl<|Aa<|Af<|Ad<|Al rfl<|AK rfl<|Al rfl<|AK rfl<|AN rfl rfl<|Aa<|Ar rfl (by omega)<|Ak<|Af<|Ad<|Al rfl<|AK rfl<|Ab rfl<|Aa<|Ay ?_)
 refine CB (α:=Nat) (fun x=>[(3,pZ bp),(4,pZ bt),(5,.slice lx l.length ly),(7,.slice pa M.length pc),(9,.slice oa M.length oc),(65,vZ M.length),(66,vZ x)])
  (fun x d' L'=>d'=d6∧x≤M.length∧L'=tbD bt Tt (pZ bp) t::L9)
  (fun x=>M.length - x) 0 ⟨rfl,rfl,rfl,rfl,rfl,rfl,rfl,trivial⟩ ⟨rfl,Aej _,rfl⟩ ?_
 rintro i ρ d' L' ⟨rfl,hi,rfl⟩
 have hM:M.length≤400:=by omega
 by_cases e:i<M.length
 ·(refine Ad<|AE rfl rfl<|Aa<|Af<|Ax rfl (by omega)<|Ak<|Af<|Ay<|Ad<|Ab rfl<|Ab rfl<|Aa<|Af<|Bu<|Al rfl<|Ab rfl<|BM (sz:=1) (R:=Bb) (by rfl) (by assumption) (by rfl) rfl (by omega) ?_;rintro _ _ _ _ _ ⟨rfl,_,_⟩;refine Ag rfl (B4 (by assumption) rfl)<|Al rfl<|Ab rfl<|BM (sz:=1) (R:=Bb) (by rfl) (by assumption) (by rfl) rfl (by omega) ?_;rintro _ _ _ _ _ ⟨rfl,_,_⟩;refine Ag rfl (B4 (by assumption) rfl)<|AN rfl rfl<|A9<|Ar rfl (by omega)<|Ak<|AB<|AL rfl rfl (by omega) (by omega)<|Ab rfl<|Aa ?_)
  exact⟨i+1,by omega,⟨rfl,rfl,rfl,rfl,rfl,rfl,rfl,trivial⟩,rfl,e,Aed _⟩
 ·(refine Ad<|AE rfl rfl<|Aa<|Af<|Ar rfl (by omega)<|Bg<|Af<|Ad<|Al rfl<|AK rfl<|Ab rfl<|Aa<|Ay ?_)
  clear hw5 hw5' hw6
  refine CB (α:=Nat) (fun x=>[(3,pZ bp),(4,pZ bt),(79,.slice lx l.length ly),(80,vZ l.length),(81,vZ x)])
   (fun x dx L'=>Le d' dx∧x≤l.length∧∃J ti Pi L2,L'=J++tbD bt Tt (pZ bp) ti::L2∧PgT dx ti.s (pZ bd) (pZ bp) L2∧Emp 400 g 60 ti (l.drop x) Pi)
   (fun x=>l.length - x) 0 ⟨rfl,rfl,rfl,rfl,rfl,trivial⟩ ⟨Le.refl _,Aej _,[],t,P',L9,rfl,hp9,hem⟩ ?_
  rintro j ρ' dx L' ⟨hle,hj,J,ti,Pi,L2,rfl,hp2,hei⟩
  simp only at hj hei⊢
  have hlx:=RSl.mono (R:=RKv) EI hl6' hle
  by_cases ej:j<l.length
  ·rw[List.drop_eq_getElem_cons ej] at hei
   have hlen:(l[j]::l.drop (j+1)).length≤60:=by simp only[Adm,List.length_drop];omega
   obtain⟨s1,s2,Pn,hen⟩:=hei.step hgle hlen
   have hcan:=hei.gr.ok.can (by omega) l[j].1
   (refine Ad<|AE rfl rfl<|Aa<|Af<|Ax rfl (by omega)<|Ak<|Af<|Ay<|Ad ?_)
   refine BM (m:=j) rfl hlx rfl rfl ej (fun b o cs hcl hdc ⟨q,q1,q2⟩=>?_)
   subst q
   (refine Aab rfl (by assumption) rfl<|B0 (fun _ _=>?_))
   rename_i b6 T6
   refine Bn 0 rfl rfl rfl rfl (Adi _) rfl ?_
   (refine Aa<|Ad<|Am rfl<|Ai rfl<|Ag rfl (Aj 0 rfl rfl) ?_)
   refine Acu (l:=l[j].1) rfl q1 (fun v20 d3 hl3 hva hvb=>?_)
   have hb20:=WN q1 hvb
   clear hvb
   obtain⟨xa,xc,rfl⟩:=hva
   refine A7 (_::J) (h9 (t:=ti) (Tt:=Tt) (hp2.mono hl3) hb20 (fun _=>hcan)) rfl rfl (fun v d4 L4 hl4 ⟨_,e1,L5,e2,hp5⟩=>?_)
   rw[s1,s2] at e1
   subst e1;subst e2
   (refine AU rfl<|Ao rfl rfl<|Ao rfl rfl<|Ae rfl<|Ab rfl<|Aa<|Ad<|Ab rfl<|AN rfl rfl<|Ae rfl<|Bf rfl (by omega)<|Ah rfl<|Ae rfl<|Ah rfl<|Bx rfl<|Aw rfl rfl<|Aa<|AS rfl<|Ak<|AB<|AL rfl rfl (by omega) (by omega)<|Ab rfl<|Aa ?_)
   exact⟨j+1,by omega,⟨rfl,rfl,rfl,rfl,rfl,trivial⟩,(hle.trans hl3).trans hl4,ej,_::J,_,Pn,L5,rfl,hp5,hen⟩
  ·have ej':j=l.length:=by omega
   subst ej'
   rw[List.drop_length] at hei
   have hgi:=hei.gr
   obtain⟨_,_,en2,en3⟩:=hgi.none
   have hfr:=hgi.W7
   (refine Ad<|AE rfl rfl<|Aa<|Af<|Ar rfl (by omega)<|Bg<|Ad<|Am rfl ?_)
   refine A7 (J++[_]) (XH h5 hp2) (Agv J _ L2) rfl (fun v d4 L6 hl4 ⟨e6,e7,hp6⟩=>?_)
   subst e6;subst e7
   have g8:∀{d t L},PgT d t (pZ bd) (pZ bp) L→CV P f7 [pZ bp] d L (vZ ((t.free:Nat):Int)):=fun⟨n6,hp6⟩=>h7 (s:=wtc _ n6) hp6
   have r8:=g8 hp6
   rw[hfr] at r8
   have r10:=h10 (d:=d4) (t:=ti) (bt:=bt) (Tt:=Tt) (L:=L6) (pb:=bp)
   have r11:=h11 (d:=d4) (t:=ti) (bt:=bt) (Tt:=Tt) (L:=L6) (pb:=bp)
   rw[en2] at r10
   rw[en3] at r11
   (refine AO rfl rfl<|Ae rfl<|Bp rfl (by omega)<|Ah rfl<|Am rfl<|Ah rfl ?_)
   refine Ci (J++[_]) r8 rfl rfl ?_
   (refine Ah rfl<|AO rfl rfl<|AI rfl rfl<|Ae rfl<|Bp rfl (by omega)<|Ah rfl<|Am rfl<|Ah rfl ?_)
   refine Ci J r10 (Agv J _ L6).symm rfl ?_
   (refine Ah rfl<|AO rfl rfl<|AI rfl rfl<|Ae rfl<|Bp rfl (by omega)<|Ah rfl<|Am rfl<|Ah rfl ?_)
   refine Ci J r11 (Agv J _ L6).symm rfl ?_
   (refine Ah rfl<|AO rfl rfl<|AI rfl rfl<|Ae rfl<|Aa<|An ?_)
   exact BO rfl (Afm _) rfl
end
end Go.Gk.Tre
end
section
namespace Go.Gk.Tre
open Go Go.Gk Go.Gk.Node
def Ac7{l:List Value}(h:l.length=3):∃a b c,l=[a,b,c]:=by
 match l,h with
 |[a,b,c],_=>exact⟨a,b,c,rfl⟩
def Acz{H:Type}{enc:TypeId×Value→H}{P:Program}{W:World}{t ti tb ts:TypeId}{fs:Array Field}(ht:P.underlying t=some (.struct fs))(h3:P.cellsOf t=3)
  (f0:(fs[0]?).map (fun f=>(f.offset,f.type))=some (0,ti)) (f1:(fs[1]?).map (fun f=>(f.offset,f.type))=some (1,ts)) (f2:(fs[2]?).map (fun f=>(f.offset,f.type))=some (2,ts))
  (ci:P.cellsOf ti=1) (cb:P.cellsOf tb=1) (cs:P.cellsOf ts=1)
  (ui:P.underlying ti=some (.int .i64)) (ub:P.underlying tb=some (.int .u8)) (us:P.underlying ts=some (.slice tb)) (bb:1≤P.bytesOf tb):Rd enc P W t RAc:=by
 intro held fuel cs x h hw
 obtain⟨hl,hfs⟩:=X5 ht h hw
 obtain⟨k,e0⟩:=hfs 0 0 ti 1 f0 ci (Aby ui)
 obtain⟨y,v,e1,hv⟩:=hfs 1 1 ts 1 f1 (by assumption) (NJ us cb (by omega) bb (U7 ub))
 obtain⟨z,u,e2,hu⟩:=hfs 2 2 ts 1 f2 (by assumption) (NJ us cb (by omega) bb (U7 ub))
 obtain⟨a0,a1,a2,rfl⟩:=Ac7 (hl.trans h3)
 simp only[List.drop,List.take] at e0 e1 e2
 obtain⟨e0, -, -⟩:=e0
 simp only[List.cons.injEq,and_true] at e0 e1 e2
 subst e0;subst e1;subst e2
 exact⟨⟨k,y,z⟩,_,_,rfl,hv,hu⟩
end Go.Gk.Tre
end
