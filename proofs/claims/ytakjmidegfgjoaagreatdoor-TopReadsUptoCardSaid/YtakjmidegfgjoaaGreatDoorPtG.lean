/-
  Our own texts, one behind the other: GkJX Gk28 Gk29 Gk47 GkJY GkM1 GkI6 Gk44 GkJZ GkI0 GkI1 GkI7 GkI8 GkI9.
-/
import Derived.Recover
import Derived.BigFrame
import Derived.Scope
import Derived.Test.YtakjmidegfgjoaaGreatDoorPtF
set_option linter.defProp false
set_option linter.unusedVariables false
set_option linter.unusedSimpArgs false
open Nat renaming le_of_ble_eq_true→Aca,le_refl→Ack,zero_le→Acu,zero_add→Adw,sub_self→Aeu,add_sub_cancel→Afo,strongRecOn→Agg,lt_succ_self→Ahg
open List renaming nil_sublist→Acb,length_append→Acd,getElem?_eq_getElem→Acf,length_cons→Acg,append_assoc→Ach,mem_cons_of_mem→Aci,length_drop→Acl,all_eq_true→Acn,length_take→Aco,getElem_mem→Acq,mem_cons_self→Acr,length_nil→Acs,take_succ_eq_append_getElem→Acx,getElem?_eq_none→Acz,getElem?_take_of_lt→Ada,perm_append_comm→Adh,mem_cons→Adj,length_map→Adq,map_cons→Adx,length_replicate→Aef,reverse_cons→Ael,ext_getElem?→Aes,getElem_append_right→Aew,getD→Aez,mem_map→Afj,length_set→Afm,length→Afp,length_reverse→Afw,getElem_cons_zero→Afx,not_mem_nil→Afz
open Bool renaming and_eq_true→Ace,not_eq_true→Aev,true_and→Afi
open List.Sublist renaming cons_cons→Agt,refl→Acy,cons→Ads
open List.Perm renaming cons→Adr,append_right→Ags
section
namespace Go.Gk.Jsn
open Go Go.Gk Go.Gk.Val
attribute [local irreducible] gwp gws
section
section
variable {P:Program}{pan:List PanicEntry→A0}{Qn:Env→A0}{Ls L:List Ad}{ρ:Env}{d:Ad}{s:GS}{t:Nat}{tk:Bool}
def Wi{sz b n c m:Nat}{x y kk}{j:Int}(ex:ev ρ x=.slice (some ⟨b,0,none⟩) n c)(ey:ev ρ y=.int kk j)(hj:j=(m:Int))(hm:m≤c)(h:gws P pan Qn s Ls (upd ρ t (.slice (some ⟨b,0,none⟩) m c)) d L):
  gws P pan Qn (.op tk ⟨some t,none,.sl sz x none (some y) none⟩ s) Ls ρ d L:=by
 subst hj
 have hc:FU n c none (some (ev ρ y)) none=some (0,m,c):=by
  simp only[FU,IN,Ic,IU,Option.bind_some,Option.map_some,ey,bnd];rw[if_pos (by omega)];simp
 refine w_q Z ⟨some ⟨b,0,none⟩,n,c,0,m,c,ex,fun _ a' ha=>by cases ha;rfl,hc,Z⟩ ?_
 have e:(if c=0 then some (⟨b,0,none⟩:Addr) else(some (⟨b,0,none⟩:Addr)).map fun a=>⟨a.block,a.off+0*sz,none⟩)=some ⟨b,0,none⟩:=by
  split
  ·rfl
  ·simp
 rw[e];exact h
end
abbrev Raw:=Int×Value×Value
def E8(_:Ad)(cs:List Value)(x:Raw):Prop:=cs=[vZ x.1,x.2.1,x.2.2]∧x.2.1.oneCell'=true∧x.2.2.oneCell'=true
def KS(P:Program)(f:FuncId):Prop:=∀{d}{q b n c:Nat},1≤n→DC d q 0 (.slice (some ⟨b,0,none⟩) n c)→n≤1000000→AO P f [pZ q] d (.pointer (some ⟨b,(n - 1)*3,none⟩))
def Ie:Bo:=⟨14,[(.tmp 2)],(sR (o1 2 (.mv (.const (.pointer none))) .done) (.seq (.reg true (pm 3 0<|p1 4 (.nilc 3)<|p1 5 (.fld 0 4)<|pl 6 5<|pm 7 0<|p1 8 (.nilc 7)<|p1 9 (.fld 0 8)<|pl 10 9<|p1 11 (.len 10)<|p1 12 (.bin .sub 11 z1)<|p1 13 (.idx 3 6 12) (.bar (pm 2 13 .done)))) .ret))⟩
def Z3{P f}(hd:dec P f=some Ie):KS P f:=by
 intro d q b n c h1 hq hn;refine AO.of' hd (Aca Z) ?_;show gwp P _ _ _ _ _;have hA:=SAd.some n b 0;refine Et Z<|Cr<|Bd<|Bp Z<|A3 Z<|Ae Z<|Al Z (C0 (by assumption))<|Bp Z<|A3 Z<|Ae Z<|Al Z (C0 (by assumption))<|AK Z<|DQ Z Z<|Kr (n - 1) Z Z (by omega) (by omega) hA<|B0<|Bp Z<|Bz<|CX (congrArg (fun o=>Value.pointer (some ⟨b,o,none⟩)) (by omega))
def NQ(P:Program)(f:FuncId):Prop:=∀{d}{q:Nat}{T sv}{xs:List Raw}{h cs}{x:Raw},AQ 3 E8 d sv xs h→E8 d cs x→xs.length≤1000000→
 Be P f [pZ q,.agg cs.toArray] d [bx q T [sv],h] (Ret fun r d' L'=>d'=d∧∃sv' h',L'=[bx q T [sv'],h']∧AQ 3 E8 d sv' (xs++[x]) h')
def HV:Bo:=⟨14,[],(sR (o1 3 (.box 1) .done) (.reg true (pm 4 0<|pm 5 0<|p1 6 (.nilc 5)<|p1 7 (.fld 0 6)<|p1 9 (.ld (some 3) 3) (.alt ⟨(some 8),none,(.ld none 7)⟩ (o1 10 (.bsl 1 3 [(vZ 0),nV,nV] [(0,9)]) (o1 11 (.app 3 56 [(vZ 0),nV,nV] 8 10) (p1 12 (.nilc 4) (p1 13 (.fld 0 12) (o0 (.st 1 13 11) .done))))) (o1 10 (.bsl 1 3 [(vZ 0),nV,nV] [(0,9)]) (ol 8 7 (o1 11 (.app 3 56 [(vZ 0),nV,nV] 8 10) (p1 12 (.nilc 4) (p1 13 (.fld 0 12) (o0 (.st 1 13 11) .done))))))))))⟩
def ZW{P f}(hd:dec P f=some HV):NQ P f:=by
 intro d q T sv xs h cs x hg hx hl;obtain⟨k,kv,lv⟩:=x;obtain⟨rfl,hk1,hk2⟩:=hx;obtain⟨a,c,rfl⟩:=hg.val;have hall:(([vZ k,kv,lv]:List Value).all (·.oneCell'))=true:=by simp[hk1,hk2];rfl
 refine EK hd ?_;apply Ax;apply Ar;refine Bg (l:=[vZ k,kv,lv]) Z (fun b3 T3=>?_);(apply Av);refine BS [bx b3 T3 [vZ k,kv,lv]] [bx q T [.slice a xs.length c],h] Z<|Bp Z<|Bp Z<|A3 Z<|Ae Z<|AP 0 Z Z Z<|G9 ?_ ?_
 ·(apply Al;rfl;exact An 1 Z Z);refine OB (cs:=[vZ k,kv,lv]) Z Z Z (by omega) (fun bl Tl=>?_);skip;refine Dc (R:=E8) (ys:=[(k,kv,lv)]) 2 Z Z hg Z (Src.lit (ys:=[(k,kv,lv)]) 1 Z Z Z hall (fun i hi=>?_)) (by omega) (by simp;omega) (by simp;omega) (fun dv2 g2 hg2=>?_)
  ·obtain rfl:i=0:=by simpa using hi
   have hI:E8 d [vZ k,kv,lv] (k,kv,lv):=⟨Z,hk1,hk2⟩
   exact hI
  obtain⟨a2,c2,rfl⟩:=hg2.val;refine A3 Z<|Ae Z<|Au 1 [.slice a2 (xs++[(k,kv,lv)]).length c2] Z Z Z Z (Aca Z) Z Z ?_;(apply AV);exact Ba [] trivial (Ads _ (Ads _ (Acy _))) ⟨Z,_,_,Z,hg2⟩
 ·skip;refine OB (cs:=[vZ k,kv,lv]) Z Z Z (by omega) (fun bl Tl=>?_);(apply Al;rfl;exact An 2 Z Z);refine Dc (R:=E8) (ys:=[(k,kv,lv)]) 2 Z Z hg Z (Src.lit (ys:=[(k,kv,lv)]) 1 Z Z Z hall (fun i hi=>?_)) (by omega) (by simp;omega) (by simp;omega) (fun dv2 g2 hg2=>?_)
  ·obtain rfl:i=0:=by simpa using hi
   have hI:E8 d [vZ k,kv,lv] (k,kv,lv):=⟨Z,hk1,hk2⟩
   exact hI
  obtain⟨a2,c2,rfl⟩:=hg2.val;refine A3 Z<|Ae Z<|Au 1 [.slice a2 (xs++[(k,kv,lv)]).length c2] Z Z Z Z (Aca Z) Z Z ?_;(apply AV);exact Ba [] trivial (Ads _ (Ads _ (Acy _))) ⟨Z,_,_,Z,hg2⟩
def Qy(P:Program)(f:FuncId):Prop:=∀{d}{q:Nat}{T sv}{xs:List Raw}{x:Raw}{h},AQ 3 E8 d sv (xs++[x]) h→xs.length≤900000→
 Be P f [pZ q] d [bx q T [sv],h] (Ret fun r d' L'=>d'=d∧∃sv',r=.agg [vZ x.1,x.2.1,x.2.2].toArray∧L'=[bx q T [sv'],h]∧AQ 3 E8 d sv' xs h)
def ZF{b:Nat}{T T' l l'}(h:bx b T l=bx b T' l'):T=T'∧l=l':=by
 have h1:bx b T l b (Obj.cells l.toArray T (0,0)):=CG _ _;rw[h] at h1;have h2:=(IE h1).2;simp only[Obj.cells.injEq] at h2;exact⟨h2.2.1,by simpa using h2.1⟩
def TP{d sv}{xs:List Raw}{x:Raw}{h}(hg:AQ 3 E8 d sv (xs++[x]) h):∃b T l c,sv=.slice (some ⟨b,0,none⟩) (xs.length+1) c∧h=bx b T l∧xs.length+1≤c∧xs.length*3+3≤l.length∧
  (∀j u,[Value.int .i64 x.1,x.2.1,x.2.2][j]?=some u→l[xs.length*3+j]?=some u)∧AQ 3 E8 d (.slice (some ⟨b,0,none⟩) xs.length c) xs (bx b T l)∧
  ∀y:Raw,y.2.1.oneCell'=true→y.2.2.oneCell'=true→AQ 3 E8 d sv (xs++[y]) (bx b T (patch l (xs.length*3) [vZ y.1,y.2.1,y.2.2])):=by
 have hlen:(xs++[x]).length=xs.length+1:=by simp
 have hop:=hg.Mv (by omega) (m:=xs.length) (by omega)
 obtain⟨cs,⟨h1,h2,h3⟩,hr⟩:=hg
 rcases h3 with ⟨_,h0,_⟩|⟨b,T,l,c,rfl,rfl,h3,h4,h5,h6⟩
 ·omega
 obtain⟨b',T',l',c',e1,e2,e3,e4⟩:=hop
 cases e1
 obtain⟨rfl,rfl⟩:T=T'∧l=l':=ZF e2
 have hcell:=hr xs.length (by omega)
 rw[Aew (Ack _)] at hcell
 simp only[Aeu,Afx] at hcell
 have hch:=hcell.1
 refine⟨b,T,l,c,by rw[hlen],Z,by omega,by omega,?_,?_,?_⟩
 ·intro j u hj
  have hj3:j<3:=(List.getElem?_eq_some_iff.1 hj).1
  have hcs:cs[xs.length*3+j]?=some u:=by
   rw[←hch] at hj;rw[Gb,if_pos hj3] at hj;exact hj
  have:(l.take cs.length)[xs.length*3+j]?=some u:=by rw[h6];exact hcs
  rw[Ada (by rw[h1,hlen];omega)] at this
  exact this
 ·refine⟨cs.take (xs.length*3),⟨by rw[Aco,h1,hlen];omega,by omega,.inr ⟨b,T,l,c,Z,Z,by omega,h4,h5,?_⟩⟩,fun i hi=>?_⟩
  ·rw[Aco,h1,hlen,Nat.min_eq_left (by omega),←h6,h1,hlen,List.take_take,Nat.min_eq_left (by omega)]
  ·have:=hr i (by omega)
   rw[List.getElem_append_left hi] at this
   have e:chunk (cs.take (xs.length*3)) i 3=chunk cs i 3:=by
    refine Aes fun k=>?_;rw[Gb,Gb];split
    ·rw[Ada (by omega)]
    ·rfl
   rw[e];exact this
 ·intro y hy1 hy2
  have:=e4 [vZ y.1,y.2.1,y.2.2] y Z ⟨Z,hy1,hy2⟩
  rw[List.set_append_right _ _ (Ack _),Aeu] at this
  exact this
def H7(a0:Nat):Bo:=⟨23,[(.cell 2 (some 3))],(sR (o1 2 (.alo (.agg #[(vZ 0),nV,nV])) .done) (sR (om 4 0<|oc 5 a0 [4]<|o1 6 (.nilc 5)<|o1 7 (.ld (some 3) 6)<|o1 3 (.alo (.agg #[(vZ 0),nV,nV]))<|o0 (.st 3 3 7) .done) (.seq (.reg true (pm 8 0<|pm 9 0<|p1 10 (.nilc 9)<|p1 11 (.fld 0 10)<|pm 13 0<|p1 14 (.nilc 13)<|p1 15 (.fld 0 14) (.alt ⟨(some 12),none,(.ld none 11)⟩ (ol 16 15 (p1 17 (.len 16) (p1 18 (.bin .sub 17 z1) (p1 19 (.sl 3 12 none (some 18) none) (p1 20 (.nilc 8) (p1 21 (.fld 0 20) (o0 (.st 1 21 19) .done))))))) (ol 16 15 (p1 17 (.len 16) (p1 18 (.bin .sub 17 z1) (ol 12 11 (p1 19 (.sl 3 12 none (some 18) none) (p1 20 (.nilc 8) (p1 21 (.fld 0 20) (o0 (.st 1 21 19) .done))))))))))) (sR (o1 22 (.ld (some 3) 3)<|o0 (.st 3 2 22) .done) .ret))))⟩
def Aa1{P f f1}(hd:dec P f=some (H7 f1))(h1:KS P f1):Qy P f:=by
 intro d q T sv xs x h hg hl;obtain⟨b,Tb,l,c,rfl,rfl,hc1,hc2,hcell,hp, -⟩:=TP hg;obtain⟨k,kv,lv⟩:=x;obtain⟨hk1,hk2⟩:kv.oneCell'=true∧lv.oneCell'=true:=by
  obtain⟨cs,_,hr⟩:=hg;have:=hr xs.length (by simp);rw[Aew (Ack _)] at this;simp only[Aeu,Afx] at this;exact this.2
 have hall:(([vZ k,kv,lv]:List Value).all (·.oneCell'))=true:=by simp[hk1,hk2];rfl
 refine EK hd<|Aj<|BR (fun _ _=>Br<|Bp Z ?_);rename_i b2 T2;refine Cv Z (fun d6 hl6 hk6=>h1 (n:=xs.length+1) (c:=c) (b:=b) (q:=q) (by omega) ?_ (by omega)) ?_
 ·exact(Dn (hk6 (bx q T [_]) (by simp))).at (i:=0) Z
 rw[Afo];(apply A3;rfl);refine Abs [vZ k,kv,lv] 2 Z Z Z hcell ?_;(apply BR;intro _ _);rename_i b3 T3;refine Au 0 [vZ k,kv,lv] Z Z Z Z (Aca Z) hall Z<|Cr<|BS [] [bx b3 T3 [vZ k,kv,lv],bx b2 T2 [vZ 0,nV,nV],bx q T [.slice (some ⟨b,0,none⟩) (xs.length+1) c],bx b Tb l] Z<|Bp Z<|Bp Z<|A3 Z<|Ae Z<|Bp Z<|A3 Z<|Ae Z<|G9 ?_ ?_
 ·refine Al Z (An 2 Z Z)<|Al Z (An 2 Z Z)<|AK Z<|DQ Z Z<|Wi (m:=xs.length) Z Z (by omega) (by omega)<|A3 Z<|Ae Z<|Au 2 [.slice (some ⟨b,0,none⟩) xs.length c] Z Z Z Z (Aca Z) Z Z<|Br<|AP 0 Z Z Z<|Au 1 [vZ k,kv,lv] Z Z Z Z (Aca Z) hall Z<|Bz<|Ba [.agg [vZ k,kv,lv].toArray] ⟨Bc 1 Z Z Z,trivial⟩ (Ads _ (Ads _ (Acy _))) ⟨Z,_,Z,Z,hp⟩
 ·refine Al Z (An 2 Z Z)<|AK Z<|DQ Z Z<|Al Z (An 2 Z Z)<|Wi (m:=xs.length) Z Z (by omega) (by omega)<|A3 Z<|Ae Z<|Au 2 [.slice (some ⟨b,0,none⟩) xs.length c] Z Z Z Z (Aca Z) Z Z<|Br<|AP 0 Z Z Z<|Au 1 [vZ k,kv,lv] Z Z Z Z (Aca Z) hall Z<|Bz<|Ba [.agg [vZ k,kv,lv].toArray] ⟨Bc 1 Z Z Z,trivial⟩ (Ads _ (Ads _ (Acy _))) ⟨Z,_,Z,Z,hp⟩
def MD(T:Ad→Prop)(P:Program)(f:FuncId):Prop:=∀{d}{nm:Bool}{kv lv ks}{l:List V},T d→B9 d kv ks→Cw d lv l→ks.length≤1000000→(∀x∈l,C8 x≤1000000)→
 Be P f [.agg [vZ (if nm=true then 6 else 5),kv,lv].toArray] d [] (Ret fun r d' L'=>L'=[]∧∃cs,r=.agg cs.toArray∧Az d' cs (Fx nm ks l))
def S6(a0:Nat):Bo:=⟨20,[(.cell 2 (some 6))],(sR (o1 1 (.box 0)<|o1 2 (.alo (.agg #[(vZ 0),(vZ 0),(vZ 0),(Ag []),nV,nV])) .done) (.seq (sR (oj 5 0 1<|ol 6 5<|ob 7 .eql 6 (kZ 5) .done) (.cond 7 (sR (oj 8 2 1<|ol 9 8<|o1 10 (.bld [(0,1),(1,2),(3,1),(4,1),(5,1)] [(vZ 0),(vZ 0),(vZ 0),(Ag []),nV,nV] [(0,(kZ 5)),(3,9)])<|o0 (.st 6 2 10) .done) .ret) .skip)) (sR (oj 12 1 1<|ol 13 12<|oj 14 2 1<|ol 15 14<|oc 16 a0 [13,15]<|om 11 16<|oe 17 11 0<|oe 18 11 1<|o1 3 (.alo (.agg #[(vZ 0),(vZ 0),(vZ 0),(Ag []),nV,nV]))<|o0 (.st 6 3 17)<|om 4 18 .done) (sR (o1 19 (.ld (some 6) 3)<|o0 (.st 6 2 19) .done) .ret))))⟩
def Yz{T:Ad→Prop}{P f f1}(hd:dec P f=some (S6 f1))(h1:OT T P f1):MD T P f:=by
 intro d nm kv lv ks l ht hk hl hkl hcl;obtain⟨ka,kc,rfl⟩:=RSl.val hk;obtain⟨la,lc,rfl⟩:=RSl.val hl;refine EK hd ?_;apply Ax;apply Ar;refine Bg (l:=[vZ (if nm=true then 6 else 5),.slice ka ks.length kc,.slice la l.length lc]) Z (fun b1 T1=>?_);cases nm with
 |false=>
  have e5:(if false=true then(6:Int) else 5)=5:=Z
  rw[e5]
  clear e5
  (refine BR (fun _ _=>Bw<|Ae Z<|Al Z (An 1 Z Z)<|Ai Z Z<|AE Z<|Aj<|Ae Z<|Al Z (An 1 Z Z)<|EI Z Z ?_))
  refine Au 0 [vZ 5,vZ 0,vZ 0,Ag [],.slice la l.length lc,nV] Z Z Z Z (Aca Z) Z Z ?_
  (refine Bz ?_)
  exact Ba [.agg [vZ 5,vZ 0,vZ 0,Ag [],.slice la l.length lc,nV].toArray] ⟨Bc 0 Z Z Z,trivial⟩ (Acb _) ⟨Z,_,Z,Az.close (v:=.mk 5 0 0 [] l []) FX BY BY (by simp) hl RSl.nil⟩
 |true=>
  have e6:(if true=true then(6:Int) else 5)=6:=Z
  rw[e6]
  clear e6
  have ev:Fx true ks l=(Dk ks l).1:=Z
  rw[ev]
  (refine BR (fun _ _=>Bw<|Ae Z<|Al Z (An 1 Z Z)<|Ai Z Z<|AJ Z<|Aj<|Ae Z<|Al Z (An 1 Z Z)<|Ae Z<|Al Z (An 1 Z Z) ?_))
  refine Bi Z (h1 ht hk hl hkl hcl) (fun r d2 L2 _ ⟨hdd,cs',h,hr,hL,ho⟩=>?_)
  subst hdd;subst hL;subst hr
  refine DI (fun d3 hl3 hg3=>?_)
  have hv:=ho.OL hg3
  obtain⟨c0,c1,c2,c3,c4,c5,rfl⟩:=six hv.len
  have hall:=ho.cells.2
  (refine Bm Z<|Bx Z Z Z Z<|BR (fun _ _=>?_))
  rename_i b3 T3
  refine Au 0 [c0,c1,c2,c3,c4,c5] Z Z Z Z (Aca Z) hall Z ?_
  (refine Bt Z<|AP 0 Z Z Z ?_)
  refine Au 1 [c0,c1,c2,c3,c4,c5] Z Z Z Z (Aca Z) hall Z ?_
  (refine Bz ?_)
  exact Ba [.agg [c0,c1,c2,c3,c4,c5].toArray] ⟨Bc 1 Z Z Z,trivial⟩ (Acb _) ⟨Z,_,Z,hv⟩
end
end Go.Gk.Jsn
end
section
namespace Go.Gk
open Go
section
def Uh(X:List Nat)(a0 a:Act):Prop:=∀t,t∉X→a.tmps[t]?=a0.tmps[t]?
def Uh.put{X:List Nat}{a0 a:Act}(h:Uh X a0 a){dst:Option Nat}(hd:∀t,dst=some t→t∈X)(v:Value):Uh X a0 (a.put dst v):=by
 intro t ht;cases dst with
 |none=>exact h t ht
 |some d=>
  have hne:d≠t:=fun e=>ht (e▸hd d Z)
  show(a.tmps.setIfInBounds d v)[t]?=_
  rw[Array.getElem?_setIfInBounds,if_neg hne]
  exact h t ht
section
variable {P:Program}{ops:Array Oper}{Q:Exit→Act→World→Prop}{X:List Nat}{a0:Act}
end
end
section
def X8{args}{n:Nat}(ha:args.length≤n):({tmps:=args.toArray++Array.replicate (n - args.toArray.size) undef,defers:=[]}:Act)=act n (Kc args) []:=by
 simp only[act,Act.mk.injEq,and_true];apply Array.ext
 ·simp at ha⊢;omega
 ·intro i h1 h2;simp only[Array.getElem_ofFn,Kc];by_cases hi:i<args.length
  ·rw[Array.getElem_append_left (by simpa using hi)];simp[hi]
  ·rw[Array.getElem_append_right (by simpa using hi)];simp[Aez,Acz (Nat.le_of_not_lt hi)]
section
variable {pr:Bool}{P:Program}
end
end
section
inductive EA where
 |g (c:CO)
 |seq (a b:EA)
 |cond (c:Operand) (a b:EA)
 |block (id:Nat) (a:EA)
 |go (l:Nat)
 |bad
def jwp(P:Program):EA→CZ→(Nat→Env→A0)→Env→A0
 |.g c,Q,_=>gwp P c Q
 |.seq a b,Q,G=>jwp P a {Q with n:=jwp P b Q G} G
 |.cond c a b,Q,G=>fun ρ d L=>∃t,ev ρ c=.bool t∧(t=true→jwp P a Q G ρ d L)∧(t=false→jwp P b Q G ρ d L)
 |.block id a,Q,G=>jwp P a {Q with ex:=fun j=>if j=id then Q.n else Q.ex j} G
 |.go l,_,G=>G l
 |.bad,_,_=>fun _ _ _=>False
def DL:Code→List (Nat×Code)
 |.seq (.label l) b=>(l,b)::DL b
 |.seq _ b=>DL b
 |_=>[]
def bare:Code→Bool
 |.seq a b=>bare a && bare b
 |.label _=>false
 |_=>true
def Hl:Code→Bool
 |.seq (.label _) b=>Hl b
 |.seq a b=>bare a && Hl b
 |c=>bare c
def GH(pr:Bool)(P:Program)(n:Nat)(ls:List Nat):Code→EA
 |.seq a b=>match GH pr P n ls a,GH pr P n ls b with|.g a',.g b'=>.g (.seq a' b')|a',b'=>.seq a' b'
 |.cond c a b=>if Gs n c then(match GH pr P n ls a,GH pr P n ls b with|.g a',.g b'=>.g (.cond c a' b')|a',b'=>.cond c a' b') else .bad
 |.block id a=>match GH pr P n ls a with|.g a'=>.g (.block id a')|a'=>.block id a'
 |.goto l=>if ls.contains l then .go l else .bad
 |.skip=>.g .skip
 |.exit id=>.g (.exit id)
 |.ret=>.g .ret
 |.region id ops drawn=>.g (HD pr P n (.region id ops drawn))
 |.loop a=>.g (HD pr P n (.loop a))
 |_=>.bad
def JA(pr:Bool)(P:Program)(n:Nat)(ls:List Nat):Code→EA
 |.seq (.label l) _=>if ls.contains l then .go l else .bad
 |.seq a b=>match GH pr P n ls a,JA pr P n ls b with|.g a',.g b'=>.g (.seq a' b')|a',b'=>.seq a' b'
 |c=>GH pr P n ls c
def AaJ{P}{a b:EA}{Q:CZ}{G:Nat→Env→A0}:jwp P (match a,b with|.g a',.g b'=>.g (.seq a' b')|a',b'=>.seq a' b') Q G=jwp P (.seq a b) Q G:=by
 cases a<;>cases b<;>rfl
def Aa3{P c}{a b:EA}{Q:CZ}{G:Nat→Env→A0}:jwp P (match a,b with|.g a',.g b'=>.g (.cond c a' b')|a',b'=>.cond c a' b') Q G=jwp P (.cond c a b) Q G:=by
 cases a<;>cases b<;>rfl
def Aaa{P}{id:Nat}{a:EA}{Q:CZ}{G:Nat→Env→A0}:jwp P (match a with|.g a'=>.g (.block id a')|a'=>.block id a') Q G=jwp P (.block id a) Q G:=by
 cases a<;>rfl
def Lp:∀(c:Code) (l:Nat),bare c=true→findLabel c l=none
 |.seq a b,l,h=>by
  simp only[bare,Ace] at h;rw[findLabel,Lp a l h.1];exact Lp b l h.2
 |.label _,_,h=>by cases h
 |.skip,_,_=>rfl
 |.region ..,_,_=>rfl
 |.cond ..,_,_=>rfl
 |.block ..,_,_=>rfl
 |.loop ..,_,_=>rfl
 |.rangeFunc ..,_,_=>rfl
 |.exit ..,_,_=>rfl
 |.scope ..,_,_=>rfl
 |.goto ..,_,_=>rfl
 |.ret,_,_=>rfl
 |.refuse ..,_,_=>rfl
def Ri:∀(c:Code) (l:Nat) (b:Code),Hl c=true→(l,b)∈DL c→((DL c).map (·.1)).Nodup→findLabel c l=some (.seq .skip b):=by
 intro c;induction c with
 |seq x y ihx ihy=>
  intro l b hs hm hn
  cases x with
  |label l'=>
   simp only[Hl] at hs
   simp only[DL,Adx,List.nodup_cons] at hn hm
   rcases Adj.1 hm with e|hm
   ·injection e with e1 e2
    subst e1;subst e2
    simp[findLabel]
   ·have:l'≠l:=fun e=>hn.1 (e▸List.mem_map_of_mem hm)
    simp only[findLabel,beq_eq_false_iff_ne.2 this]
    exact ihy l b hs hm hn.2
  |_=>
   simp only[Hl,Ace] at hs
   simp only[DL] at hn hm
   rw[findLabel,Lp _ l hs.1]
   exact ihy l b hs.2 hm hn
 |_=>intro l b _ hm;cases hm
def Jt(ls:List Nat)(n:Nat)(ds:List Deferred)(F:List Ad)(W0:World)(d0:Ad)(Q:CZ)(G:Nat→Env→A0):Exit→Act→World→Prop
 |.goto l,a,W=>l∈ls∧∃ρ d L,a=act n ρ ds∧Ok (d::(L++F)) W∧Le d0 d∧Ca W0 W∧G l ρ d L
 |e,a,W=>lift n ds F W0 d0 Q e a W
def Wg{ls:List Nat}{n:Nat}{ds F W0 d0}{Q:CZ}{G:Nat→Env→A0}{e:Exit}{a:Act}{W}(h:lift n ds F W0 d0 Q e a W):Jt ls n ds F W0 d0 Q G e a W:=by
 cases e with
 |goto l=>exact h.elim
 |_=>exact h
def UM{ls:List Nat}{n:Nat}{ds F W0 d0}{Q:CZ}{G G':Nat→Env→A0}(hg:∀l ρ d L,G l ρ d L→G' l ρ d L){e:Exit}{a:Act}{W}
  (h:Jt ls n ds F W0 d0 Q G e a W):Jt ls n ds F W0 d0 Q G' e a W:=by
 cases e with
 |goto l=>obtain⟨hl,ρ,d,L,e,h1,h2,h3,h4⟩:=h;exact⟨hl,ρ,d,L,e,h1,h2,h3,hg _ _ _ _ h4⟩
 |_=>exact h
section
variable {pr:Bool}{P:Program}{n:Nat}{ls:List Nat}{ds:List Deferred}{F:List Ad}{W0:World}{d0:Ad}
def Sd(hm:P.follows .mixedOrders=true):
  ∀(c:Code) (Q:CZ) (G:Nat→Env→A0) (ρ:Env) (d:Ad) (L:List Ad) (W:World),jwp P (GH pr P n ls c) Q G ρ d L→Ok (d::(L++F)) W→Le d0 d→Ca W0 W→
   c.wp P (Jt ls n ds F W0 d0 Q G) (act n ρ ds) W:=by
 intro c
 induction c with
 |skip=>
  intro Q G ρ d L W h hOk hle hk
  exact wp_skip ⟨ρ,d,L,Z,hOk,hle,hk,h⟩
 |region id ops drawn=>
  intro Q G ρ d L W h hOk hle hk
  exact wp_mono (Jf (pr:=pr) hm _ _ _ _ _ _ h hOk hle hk) fun _ _ _=>Wg
 |seq a b iha ihb=>
  intro Q G ρ d L W h hOk hle hk
  simp only[GH] at h
  rw[AaJ] at h
  refine wp_seq (wp_mono (iha _ _ ρ d L W h hOk hle hk) ?_)
  intro e a w hq
  cases e with
  |normal=>
   obtain⟨ρ',d',L',rfl,h1,h2,h3,h4⟩:=hq
   exact ihb Q G ρ' d' L' w h4 h1 h2 h3
  |_=>exact hq
 |cond c a b iha ihb=>
  intro Q G ρ d L W h hOk hle hk
  simp only[GH] at h
  split at h
  ·rename_i hc
   rw[Aa3] at h
   obtain⟨t,ht,h1,h2⟩:=h
   exact wp_cond_split (by rw[BA hc];exact ht) (fun e=>iha Q G ρ d L W (h1 e) hOk hle hk) (fun e=>ihb Q G ρ d L W (h2 e) hOk hle hk)
  ·exact h.elim
 |block id a iha=>
  intro Q G ρ d L W h hOk hle hk
  simp only[GH] at h
  rw[Aaa] at h
  refine wp_block (wp_mono (iha _ _ ρ d L W h hOk hle hk) ?_)
  intro e a w hq
  cases e with
  |exit i=>
   obtain⟨ρ',d',L',rfl,h1,h2,h3,h4⟩:=hq
   simp only[Exit.inBlock]
   by_cases e:i=id
   ·simp only[e,if_true] at h4⊢
    exact⟨ρ',d',L',Z,h1,h2,h3,h4⟩
   ·simp only[if_neg e] at h4⊢
    exact⟨ρ',d',L',Z,h1,h2,h3,h4⟩
  |_=>exact hq
 |loop a iha=>
  intro Q G ρ d L W h hOk hle hk
  exact wp_mono (Jf (pr:=pr) hm _ _ _ _ _ _ h hOk hle hk) fun _ _ _=>Wg
 |exit id=>
  intro Q G ρ d L W h hOk hle hk
  exact wp_exit ⟨ρ,d,L,Z,hOk,hle,hk,h⟩
 |goto l=>
  intro Q G ρ d L W h hOk hle hk
  simp only[GH] at h
  split at h
  ·rename_i hc
   exact wp_goto ⟨by simpa using hc,ρ,d,L,Z,hOk,hle,hk,h⟩
  ·exact h.elim
 |ret=>
  intro Q G ρ d L W h hOk hle hk
  exact wp_ret ⟨ρ,d,L,Z,hOk,hle,hk,h⟩
 |_=>intro Q G ρ d L W h;exact h.elim
def O6(hm:P.follows .mixedOrders=true){B:List (Nat×Code)}{Q:CZ}{G:Nat→Env→A0}
  (hf:∀l b,(l,b)∈B→∀ρ d L W,G l ρ d L→Ok (d::(L++F)) W→Le d0 d→Ca W0 W→b.wp P (Jt ls n ds F W0 d0 Q G) (act n ρ ds) W):
  ∀(c:Code),(∀x∈DL c,x∈B)→∀(ρ:Env) (d:Ad) (L:List Ad) (W:World),jwp P (JA pr P n ls c) Q G ρ d L→Ok (d::(L++F)) W→Le d0 d→Ca W0 W→
   c.wp P (Jt ls n ds F W0 d0 Q G) (act n ρ ds) W:=by
 intro c
 induction c with
 |seq x y ihx ihy=>
  intro hB ρ d L W h hOk hle hk
  cases x with
  |label l=>
   simp only[JA] at h
   split at h
   ·exact wp_seq (wp_label (hf l y (hB _ (Acr ..)) ρ d L W h hOk hle hk))
   ·exact h.elim
  |_=>
   simp only[JA] at h
   rw[AaJ] at h
   refine wp_seq (wp_mono (Sd (pr:=pr) (ls:=ls) hm _ {Q with n:=jwp P (JA pr P n ls y) Q G} G ρ d L W h hOk hle hk) ?_)
   intro e a w hq
   cases e with
   |normal=>
    obtain⟨ρ',d',L',rfl,h1,h2,h3,h4⟩:=hq
    exact ihy hB ρ' d' L' w h4 h1 h2 h3
   |_=>exact hq
 |_=>intro _ ρ d L W h hOk hle hk;exact Sd (pr:=pr) (ls:=ls) hm _ _ G ρ d L W h hOk hle hk
def RR:∀(c:Code) (l:Nat) (b:Code),(l,b)∈DL c→∀x∈DL b,x∈DL c:=by
 intro c;induction c with
 |seq x y ihx ihy=>
  intro l b hm z hz
  cases x with
  |label l'=>
   simp only[DL] at hm⊢
   rcases Adj.1 hm with e|hm
   ·injection e with e1 e2
    subst e2
    exact Aci _ hz
   ·exact Aci _ (ihy l b hm z hz)
  |_=>
   simp only[DL] at hm⊢
   exact ihy l b hm z hz
 |_=>intro l b hm;cases hm
def SZ(hm:P.follows .mixedOrders=true){c:Code}(hs:Hl c=true)(hn:((DL c).map (·.1)).Nodup){Q:CZ}(J:Nat→Nat→Env→A0)(m0:Nat)
  (round:∀l b,(l,b)∈DL c→∀m ρ d L,J l m ρ d L→jwp P (JA pr P n ((DL c).map (·.1)) b) Q (fun l' ρ d L=>∃m',m'<m∧J l' m' ρ d L) ρ d L)
  {ρ d L W}(h:jwp P (JA pr P n ((DL c).map (·.1)) c) Q (fun l' ρ d L=>∃m',m'<m0∧J l' m' ρ d L) ρ d L) (hOk:Ok (d::(L++F)) W) (hle:Le d0 d) (hk:Ca W0 W):
  (Code.scope c).wp P (lift n ds F W0 d0 Q) (act n ρ ds) W:=by
 have T:∀m,∀l b,(l,b)∈DL c→∀ρ d L W,(∃m',m'<m∧J l m' ρ d L)→Ok (d::(L++F)) W→Le d0 d→Ca W0 W→
   b.wp P (Jt ((DL c).map (·.1)) n ds F W0 d0 Q (fun l' ρ d L=>∃m',m'<m∧J l' m' ρ d L)) (act n ρ ds) W:=by
  intro m
  induction m using Agg with
  |_ m ih=>
   rintro l b hlb ρ d L W ⟨m',hlt,hJ⟩ hOk hle hk
   refine wp_mono (O6 hm (ih m' hlt) b (RR c l b hlb) ρ d L W (round l b hlb m' ρ d L hJ) hOk hle hk) fun e a w hq=>UM (fun l ρ d L ⟨m2,k1,k2⟩=>⟨m2,Nat.lt_trans k1 hlt,k2⟩) hq
 have key:∀m,∀l b,(l,b)∈DL c→∀ρ d L W,(∃m',m'<m∧J l m' ρ d L)→Ok (d::(L++F)) W→Le d0 d→Ca W0 W→
   ∀(fb:Frame) (k:List Item) (cs:List Frame),∃e a' w',lift n ds F W0 d0 Q e a' w'∧Arrives P (lone (fb.at (act n ρ ds) (.code (.seq .skip b)::.inScope c::k)) cs W) fb k cs e a' w':=by
  intro m
  induction m using Agg with
  |_ m ih=>
   rintro l b hlb ρ d L W ⟨m',hlt,hJ⟩ hOk hle hk fb k cs
   have h1:(Code.seq .skip b).wp P (Jt ((DL c).map (·.1)) n ds F W0 d0 Q (fun l' ρ d L=>∃m2,m2<m'∧J l' m2 ρ d L)) (act n ρ ds) W:=
    wp_seq (wp_skip (O6 hm (T m') b (RR c l b hlb) ρ d L W (round l b hlb m' ρ d L hJ) hOk hle hk))
   obtain⟨e,a₁,w₁,hq,harr⟩:=h1 fb (.inScope c::k) cs
   cases e with
   |normal=>exact⟨.normal,a₁,w₁,hq,Steps.trans harr (.one step_inScope)⟩
   |exit id=>exact⟨.exit id,a₁,w₁,hq,fun k' hk=>harr k' (by simp[exitTo,hk])⟩
   |goto l'=>
    obtain⟨hl',ρ2,d2,L2,rfl,k1,k2,k3,k4⟩:=hq
    obtain⟨⟨l2,b'⟩,hlb',rfl⟩:=Afj.1 hl'
    have hg:gotoIn l2 (.inScope c::k)=some (.code (.seq .skip b')::.inScope c::k):=by simp[gotoIn,Ri c l2 b' hs hlb' hn]
    obtain⟨e₂,a₂,w₂,hq₂,harr₂⟩:=ih m' hlt l2 b' hlb' ρ2 d2 L2 w₁ k4 k1 k2 k3 fb k cs
    exact⟨e₂,a₂,w₂,hq₂,.of_steps (harr _ hg) harr₂⟩
   |ret=>exact⟨.ret,a₁,w₁,hq,harr⟩
   |panic ch=>exact⟨.panic ch,a₁,w₁,hq,harr⟩
   |outgrown=>exact hq.elim
 intro fb k cs
 obtain⟨e,a₁,w₁,hq,harr⟩:=O6 (pr:=pr) hm (T m0) c (fun _ h=>h) ρ d L W h hOk hle hk fb (.inScope c::k) cs
 cases e with
 |normal=>exact⟨.normal,a₁,w₁,hq,.head step_scope (Steps.trans harr (.one step_inScope))⟩
 |exit id=>exact⟨.exit id,a₁,w₁,hq,fun k' hk=>.head step_scope (harr k' (by simp[exitTo,hk]))⟩
 |goto l'=>
  obtain⟨hl',ρ2,d2,L2,rfl,k1,k2,k3,k4⟩:=hq
  obtain⟨⟨l2,b'⟩,hlb',rfl⟩:=Afj.1 hl'
  have hg:gotoIn l2 (.inScope c::k)=some (.code (.seq .skip b')::.inScope c::k):=by simp[gotoIn,Ri c l2 b' hs hlb' hn]
  obtain⟨e₂,a₂,w₂,hq₂,harr₂⟩:=key m0 l2 b' hlb' ρ2 d2 L2 w₁ k4 k1 k2 k3 fb k cs
  exact⟨e₂,a₂,w₂,hq₂,.of_steps (.head step_scope (harr _ hg)) harr₂⟩
 |ret=>exact⟨.ret,a₁,w₁,hq,.of_steps (e:=.ret) (.one step_scope) harr⟩
 |panic ch=>exact⟨.panic ch,a₁,w₁,hq,.of_steps (e:=.panic ch) (.one step_scope) harr⟩
 |outgrown=>exact hq.elim
end
structure QE where
 n:Nat
 res:List IL
 pre:CO
 code:EA
 labs:List (Nat×EA)
def N6:List Nat→Bool
 |[]=>true
 |x::l=> !l.contains x && N6 l
def Lg:∀{l:List Nat},N6 l=true→l.Nodup
 |[],_=>List.nodup_nil
 |x::l,h=>by
  simp only[N6,Ace,Bool.not_eq_true',List.contains_eq_mem,decide_eq_false_iff_not] at h;exact List.nodup_cons.2 ⟨h.1,Lg h.2⟩
def Xz(pr:Bool)(P:Program)(f:FuncId):Option QE:=
 match P.funcs[f]? with
 |some fn=>
  if fn.name== "runtime.NumGoroutine" || !P.follows .mixedOrders then none else
  match fn.body with
  |some (.seq a (.scope c))=>if Hl c && N6 ((DL c).map (·.1)) then(fn.results.toList.mapM (LA P fn.ntmps)).map fun rs=>
    ⟨fn.ntmps,rs,HD pr P fn.ntmps a,JA pr P fn.ntmps ((DL c).map (·.1)) c,(DL c).map fun x=>(x.1,JA pr P fn.ntmps ((DL c).map (·.1)) x.2)⟩ else none
  |_=>none
 |none=>none
def VT{pr:Bool}{P f}{g:QE}(hd:Xz pr P f=some g){args}(ha:args.length≤g.n){d L R}
  (J:Nat→Nat→Env→A0) (m0:Nat)
  (h:gwp P g.pre {mkPost g.res R with n:=jwp P g.code (mkPost g.res R) (fun l ρ d L=>∃m,m<m0∧J l m ρ d L)} (Kc args) d L)
  (round:∀x∈g.labs,∀m ρ d L,J x.1 m ρ d L→jwp P x.2 (mkPost g.res R) (fun l ρ d L=>∃m',m'<m∧J l m' ρ d L) ρ d L):Be P f args d L R:=by
 simp only[Xz] at hd
 split at hd<;>try cases hd
 rename_i fn hf
 split at hd<;>try cases hd
 rename_i hn
 split at hd<;>try cases hd
 rename_i a c hb
 split at hd<;>try cases hd
 rename_i hsp
 rw[Option.map_eq_some_iff] at hd
 obtain⟨rs,hr,rfl⟩:=hd
 simp only[Ace] at hsp
 simp only[Bool.or_eq_true,not_or,Aev,Bool.not_eq_false'] at hn
 refine⟨⟨fn,hf,by rw[hb];rfl,hn.1⟩,fun F W hOk=>?_⟩
 refine calls_of_wp hf hb ?_
 rw[X8 ha]
 have hm:P.follows .mixedOrders=true:=by simpa using hn.2
 have hs:(Code.seq a (.scope c)).wp P (lift fn.ntmps [] F W d (mkPost rs R)) (act fn.ntmps (Kc args) []) W:=by
  refine wp_seq (wp_mono (Jf (ds:=[]) (F:=F) (W0:=W) (d0:=d) (pr:=pr) hm a _ _ d L W h hOk (Le.refl d) (Ca.refl W)) ?_);intro e x w hq;cases e with
  |normal=>
   obtain⟨ρ',d',L',rfl,h1,h2,h3,h4⟩:=hq
   exact SZ (ds:=[]) (F:=F) (W0:=W) (d0:=d) (pr:=pr) (n:=fn.ntmps) hm hsp.1 (Lg hsp.2) J m0
    (fun l b hlb m ρ d L hJ=>round (l,JA pr P fn.ntmps ((DL c).map (·.1)) b) (Afj.2 ⟨(l,b),hlb,Z⟩) m ρ d L hJ) h4 h1 h2 h3
  |_=>exact hq
 refine wp_mono hs ?_
 have fin:∀a w,(∃ρ d' L',a=act fn.ntmps ρ []∧Ok (d'::(L'++F)) w∧Le d d'∧Ca W w∧Cb rs R ρ d' L')→
   a.defers=[]∧∃v,(results fn a.tmps).run P w=.ok v w∧(∃d' L',Ok (d'::(L'++F)) w∧Le d d'∧Ca W w∧R (.returned v) d' L'):=by
  rintro a w ⟨ρ,d',L',rfl,h1,h2,h3,vs,h4,d'',L'',h5,h6⟩
  refine⟨Z,GU vs,?_,d'',L'',h5.2 F w h1,h2.trans h5.1,h3,h6⟩
  have hl:∀a v,HC d' L' a v→w.cell? a=some v:=fun a v hc=>hc.cell h1.head (fun q hq=>h1.2 q (by simp[hq]))
  have:=JB (P:=P) (n:=fn.ntmps) (ρ:=ρ) (ds:=[]) hl fn.results.toList rs vs hr h4
  rw[OJ,Array.mapM_eq_mapM_toList]
  simp only[Sem.run_bind,Sem.run_map,this,Result.andThen,Sem.run_pure]
  cases vs with
  |nil=>rfl
  |cons v vs=>cases vs with
   |nil=>rfl
   |cons v' vs=>rfl
 intro e a w hq
 cases e with
 |normal=>exact fin a w hq
 |ret=>exact fin a w hq
 |panic c=>
  obtain⟨h1,d',L',h2,h3,h4,d'',L'',h5,h6⟩:=hq
  exact⟨h1,d'',L'',h5.2 F w h2,h3.trans h5.1,h4,h6⟩
 |exit i=>obtain⟨_,_,_,_,_,_,_,hh⟩:=hq;exact hh.elim
 |goto l=>exact hq.elim
 |outgrown=>exact hq.elim
section
variable {P:Program}{Q:CZ}{G:Nat→Env→A0}{ρ:Env}{d:Ad}{L:List Ad}
def Bq{a b:EA}(h:jwp P a {Q with n:=jwp P b Q G} G ρ d L):jwp P (.seq a b) Q G ρ d L:=h
def j_g{c:CO}(h:gwp P c Q ρ d L):jwp P (.g c) Q G ρ d L:=h
def QC{c}{a b:EA}(e:ev ρ c=.bool true)(h:jwp P a Q G ρ d L):jwp P (.cond c a b) Q G ρ d L:=⟨true,e,fun _=>h,fun q=>by cases q⟩
def EC{c}{a b:EA}(e:ev ρ c=.bool false)(h:jwp P b Q G ρ d L):jwp P (.cond c a b) Q G ρ d L:=⟨false,e,fun q=>(by cases q),fun _=>h⟩
def Gn{c}{a b:EA}{p:Prop}[Decidable p](e:ev ρ c=.bool (decide p))(hp:p)(h:jwp P a Q G ρ d L):jwp P (.cond c a b) Q G ρ d L:=QC (by rw[e,decide_eq_true hp]) h
def Dv{c}{a b:EA}{p:Prop}[Decidable p](e:ev ρ c=.bool (decide p))(hp:¬p)(h:jwp P b Q G ρ d L):jwp P (.cond c a b) Q G ρ d L:=EC (by rw[e,decide_eq_false hp]) h
def D4{id:Nat}{a:EA}(h:jwp P a {Q with ex:=fun j=>if j=id then Q.n else Q.ex j} G ρ d L):jwp P (.block id a) Q G ρ d L:=h
def Hg{l:Nat}(h:G l ρ d L):jwp P (.go l) Q G ρ d L:=h
def G0{c:EA}(l:List (Nat×Value))(e:AZ ρ l)(h:jwp P c Q G (Hc ρ l) d L):jwp P c Q G ρ d L:=by rwa [Jr e] at h
end
end
end Go.Gk
end
section
namespace Go.Gk.Jsn
open Go Go.Gk Go.Gk.Val
attribute [local irreducible] gwp gws jwp
variable{d:Ad}
abbrev Mj(o:Opn):Int:=if o.nm=true then 6 else 5
def Stk(d:Ad):List Raw→List Opn→List Ad→Prop
 |[],[],[]=>True
 |r::rs,o::os,hk::hl::Ls=>r.1=Mj o∧AQ 1 A9 d r.2.1 o.ks hk∧AQ 6 Az d r.2.2 o.l hl∧Stk d rs os Ls
 |_,_,_=>False
def Stk.mono{d'}(hl:Le d d'):∀{rs:List Raw}{st:List Opn}{Ls},Stk d rs st Ls→Stk d' rs st Ls
 |[],[],[],h=>h
 |_::_,_::_,_::_::_,⟨h1,h2,h3,h4⟩=>⟨h1,AQ.mono (R:=A9) CL h2 hl,AQ.mono (R:=Az) Cn h3 hl,Stk.mono hl h4⟩
def Stk.len:∀{rs:List Raw}{st:List Opn}{Ls},Stk d rs st Ls→rs.length=st.length
 |[],[],[],h=>rfl
 |_::_,_::_,_::_::_,⟨_,_,_,h4⟩=>by rw[Acg,Acg,Stk.len h4]
def Tks(s:List UInt8)(l:List Tk):Prop:=∃p,p≤s.length∧l=Dh s p
def Tks.too{s}{t:Tk}{ts:List Tk}(h:Tks s (t::ts))(he:t.e=0)(hs:t.sign≠255):t.too≤s.length∧Tks s ts∧∃r,ts=Ce s t.too::r:=by
 obtain⟨p,hp,h⟩:=h;rw[G2 hp] at h;have hn:=Hy hp;cases h;rw[if_pos (by simp only[Tk.on,decide_eq_true_eq];exact⟨he,hs⟩)];exact⟨hn.2.2.1,⟨_,hn.2.2.1,Z⟩,_,G2 hn.2.2.1⟩
def Run(s:List UInt8)(W m:Nat)(M:Ma):Prop:=runM m M=some (FW s)∧wM M≤W∧∀t∈Ky M,OkT t
def Run.inr{s}{W m:Nat}{M:Ma}{R:Except Int V}(h:Run s W m M)(hs:BB M=some (.inr R)):FW s=R:=by
 obtain⟨h,_⟩:=h;cases m with
 |zero=>cases h
 |succ m=>rw[runM,hs] at h;exact(Option.some.inj h).symm
def Run.inl{s}{W m:Nat}{M M':Ma}(h:Run s W m M)(hs:BB M=some (.inl M')):∃m',m'<m∧Run s W m' M':=by
 obtain⟨h,h2,h3⟩:=h;have hw:=Yv hs h3;cases m with
 |zero=>cases h
 |succ m=>rw[runM,hs] at h;exact⟨m,Ahg m,h,Nat.le_trans hw.1 h2,hw.2⟩
def MSt(s:List UInt8)(ρ:Env)(d:Ad)(L:List Ad)(st:List Opn)(vc:List Value)(t:Tk):Prop:=∃b2 T2 b5 T5 b6 T6 sv rs h Ls,AZ ρ [(0,Ag s),(2,pZ b2),(5,pZ b5),(6,pZ b6)]∧
 vc.length=6∧L=bx b6 T6 (Cl t)::bx b2 T2 vc::bx b5 T5 [sv]::h::Ls∧AQ 3 E8 d sv rs.reverse h∧Stk d rs st Ls
def JP(T:Ad→Prop)(s:List UInt8)(W:Nat)(l m:Nat):Env→A0:=fun ρ d L=>T d∧∃t ts vc,Tks s (t::ts)∧vc.length=6∧
 ((l=1∧∃st,MSt s ρ d L st vc t∧Run s W m (.begin_ st (t::ts)))∨
  (l=3∧∃o st,MSt s ρ d L (o::st) vc t∧Run s W m (.pair o st (t::ts)))∨
  (l=0∧∃st v,MSt s ρ d L st vc t∧Az d vc v∧Run s W m (.behind st v (t::ts)))∨
  (l=2∧∃o st,MSt s ρ d L (o::st) vc t∧Run s W m (.shut o st (t::ts))))
def Ha(s:List UInt8):Ending→Ad→List Ad→Prop:=Ret fun r d' L'=>L'=[]∧∃cs a,r=.tuple #[.agg cs.toArray,vZ a,vZ (Fu s)]∧Az d' cs (Cj s)
def W3:Az d z6 V.zero:=Az.zero
def D3{s}{e a:Int}(he:FW s=.error e){ρ}{b2:Nat}{T2 L}(h2:ρ 2=pZ b2)(h3:ρ 3=vZ a)(h4:ρ 4=vZ e)(hL:L[1]?=some (bx b2 T2 z6)):
  Cb [.cell 2 (some 6),.tmp 3,.tmp 4] (Ha s) ρ d L:=by
 have hw:Fu s=e:=by rw[Fu,he]
 have hv:Cj s=V.zero:=by rw[Cj,he]
 refine Ba [.agg z6.toArray,vZ a,vZ e] ⟨Bc 1 h2 hL Z,h3.symm,h4.symm,trivial⟩ (Acb _) ⟨Z,z6,a,?_,?_⟩
 ·rw[hw];rfl
 ·rw[hv];exact W3
def AaY{m e:Int}(h:B4 m e=true):m.natAbs<1000000000000000000∧ -64≤e∧e≤64:=by
 unfold B4 at h;split at h
 ·rename_i q;have:=of_decide_eq_true h;omega
 ·have:=of_decide_eq_true h;omega
def Ty{t:Tk}(h:OkT t)(hl:t.v.text.length≤1000000):Az d (Ft t.v) t.v:=by
 obtain⟨h1,h2,h3⟩:=h;rw[DZ,Ace] at h1;have ho:=h1.1;simp only[Cz,CI,Ace,decide_eq_true_eq] at ho;obtain⟨hm,he1,he2⟩:=AaY ho.1.1.1.2;exact Az.close ⟨by omega,by omega⟩ ⟨by omega,by omega⟩ ⟨by omega,by omega⟩ (by omega) (by rw[h2];exact RSl.nil) (by rw[h3];exact RSl.nil)
def Yi{α}(a b c d e f:α)(l:List α):(e::f::a::b::c::d::l).Perm (c::d::a::b::e::f::l):=by
 have h:([e,f,a,b,c,d]:List α).Perm [c,d,a,b,e,f]:=by
  have h1:([e,f,a,b,c,d]:List α).Perm ([a,b,c,d]++[e,f]):=Adh (l₁:=[e,f]);have h2:([a,b,c,d]:List α).Perm [c,d,a,b]:=Adh (l₁:=[a,b]);exact h1.trans (h2.append_right [e,f])
 exact h.append_right l
def RN{l:List Value}{o i:Nat}{a:List Value}{u:Value}(ho:o+a.length≤l.length)(hi:i<a.length)(hc:∀j v,a[j]?=some v→l[o+j]?=some v):patch l (o+i) [u]=patch l o (a.set i u):=by
 refine Aes fun k=>?_;rw[EF (by simp;omega),EF (by simp;omega)];simp only[List.length_singleton,Afm];by_cases h1:o+i≤k∧k<o+i+1
 ·rw[if_pos h1,if_pos (by omega)];have:k - (o+i)=0:=by omega
  rw[this,List.getElem?_cons_zero,show k - o=i by omega,List.getElem?_set_self hi]
 ·rw[if_neg h1];by_cases h2:o≤k∧k<o+a.length
  ·rw[if_pos h2,List.getElem?_set_ne (by omega)];have:=hc (k - o) (a[k - o]'(by omega)) (Acf _);rw[show o+(k - o)=k by omega] at this;rw[this,Acf]
  ·rw[if_neg h2]
def KI{sv}{xs:List Raw}{x:Raw}{h}(hg:AQ 3 E8 d sv (xs++[x]) h):∃b T l c,sv=.slice (some ⟨b,0,none⟩) (xs.length+1) c∧h=bx b T l∧xs.length*3+3≤l.length∧
  l[xs.length*3]?=some (vZ x.1)∧l[xs.length*3+1]?=some x.2.1∧l[xs.length*3+2]?=some x.2.2∧
  (∀k,AQ 3 E8 d sv (xs++[(k,x.2.1,x.2.2)]) (bx b T (patch l (xs.length*3) [vZ k])))∧
  (∀kv,kv.oneCell'=true→AQ 3 E8 d sv (xs++[(x.1,kv,x.2.2)]) (bx b T (patch l (xs.length*3+1) [kv])))∧
  (∀lv,lv.oneCell'=true→AQ 3 E8 d sv (xs++[(x.1,x.2.1,lv)]) (bx b T (patch l (xs.length*3+2) [lv]))):=by
 obtain⟨hk1,hk2⟩:x.2.1.oneCell'=true∧x.2.2.oneCell'=true:=by
  obtain⟨cs,_,hr⟩:=hg;have:=hr xs.length (by simp);rw[Aew (Ack _)] at this;simp only[Aeu,Afx] at this;exact this.2
 obtain⟨b,T,l,c,e1,e2,_,e4,hc,_,hs⟩:=TP hg
 refine⟨b,T,l,c,e1,e2,e4,hc 0 _ Z,hc 1 _ Z,hc 2 _ Z,fun k=>?_,fun kv h1=>?_,fun lv h1=>?_⟩
 ·have e:patch l (xs.length*3) [vZ k]=patch l (xs.length*3) [vZ k,x.2.1,x.2.2]:=RN (i:=0) (a:=[vZ x.1,x.2.1,x.2.2]) e4 (by simp) hc
  rw[e];exact hs (k,x.2.1,x.2.2) hk1 hk2
 ·have e:patch l (xs.length*3+1) [kv]=patch l (xs.length*3) [vZ x.1,kv,x.2.2]:=RN (i:=1) (a:=[vZ x.1,x.2.1,x.2.2]) e4 (by simp) hc
  rw[e];exact hs (x.1,kv,x.2.2) h1 hk2
 ·have e:patch l (xs.length*3+2) [lv]=patch l (xs.length*3) [vZ x.1,x.2.1,lv]:=RN (i:=2) (a:=[vZ x.1,x.2.1,x.2.2]) e4 (by simp) hc
  rw[e];exact hs (x.1,x.2.1,lv) hk1 h1
def DY(a0 a1 a2 a3 a4:Nat):QE:=(.mk 250 [(.cell 2 (some 6)),(.tmp 3),(.tmp 4)] (rG (o1 2 (.alo (.agg #[(vZ 0),(vZ 0),(vZ 0),(Ag []),nV,nV]))<|o1 3 (.mv z0)<|o1 4 (.mv z0) .done)) (.seq (.g (sR (om 7 0<|o1 8 (.lens 7)<|ob 9 .gtr 8 (kZ 16384) .done) (.cond 9 (sR (o1 10 (.bld [(0,1),(1,2),(3,1),(4,1),(5,1)] [(vZ 0),(vZ 0),(vZ 0),(Ag []),nV,nV] [])<|o0 (.st 6 2 10)<|o1 3 (.mv z0)<|o1 4 (.mv (kZ 3)) .done) .ret) .skip))) (.seq (.g (rG (o1 5 (.alo (.agg #[nV])) .done))) (.seq (.g (rG (o1 6 (.alo (.agg #[(.int .u8 0),(vZ 0),(vZ 0),(vZ 0),(Ag []),nV,nV,(vZ 0),(vZ 0),(vZ 0)])) .done))) (.seq (.g (rG (om 11 0<|oc 12 a0 [11,z0]<|o0 (.st 10 6 12) .done))) (.go 1))))) [(1,(.seq (.block 0 (.seq (.g (rG (oj 14 9 6<|ol 15 14<|ob 16 .neq 15 z0<|om 13 16 .done))) (.cond 13 (.g (.seq (.reg true (p1 17 (.bld [(0,1),(1,2),(3,1),(4,1),(5,1)] [(vZ 0),(vZ 0),(vZ 0),(Ag []),nV,nV] [])<|p1 18 (.fld 7 6)<|pl 19 18<|p1 20 (.fld 9 6)<|pl 21 20<|o0 (.st 6 2 17)<|pm 3 19<|pm 4 21 .done)) .ret)) (.seq (.g (rG (oj 23 0 6<|ol 24 23<|ob 25 .neq 24 (.const (.int .u8 0))<|om 26 25<|oT 27 26 (.fld 0 6)<|oT 28 26 (.ld none 27)<|oT 29 26 (.bin .neq 28 (.const (.int .u8 91)))<|gP 30 26 29<|om 31 30<|oT 32 31 (.fld 0 6)<|oT 33 31 (.ld none 32)<|oT 34 31 (.bin .neq 33 (.const (.int .u8 123)))<|gP 35 31 34<|om 22 35 .done))) (.cond 22 (.g (.seq (.reg true (p1 36 (.bld [(0,1),(1,2),(3,1),(4,1),(5,1)] [(vZ 0),(vZ 0),(vZ 0),(Ag []),nV,nV] [])<|p1 37 (.fld 7 6)<|pl 38 37<|o0 (.st 6 2 36)<|pm 3 38<|p1 4 (.mv (kZ 60)) .done)) .ret)) (.seq (.g (rG (oj 40 0 5<|ol 41 40<|oL 42 41<|ob 43 .eql 42 (kZ 48)<|om 39 43 .done))) (.cond 39 (.g (.seq (.reg true (p1 44 (.bld [(0,1),(1,2),(3,1),(4,1),(5,1)] [(vZ 0),(vZ 0),(vZ 0),(Ag []),nV,nV] [])<|p1 45 (.fld 7 6)<|pl 46 45<|o0 (.st 6 2 44)<|pm 3 46<|p1 4 (.mv (kZ 31)) .done)) .ret)) (.seq (.g (rG (oj 48 0 6<|ol 49 48<|ob 50 .eql 49 (.const (.int .u8 0))<|om 47 50 .done))) (.cond 47 (.seq (.g (rG (oj 51 1 6<|o1 52 (.ld (some 6) 51)<|o0 (.st 6 2 52) .done))) (.seq (.g (rG (om 53 0<|oj 54 8 6<|ol 55 54<|oc 56 a0 [53,55]<|o0 (.st 10 6 56) .done))) (.go 0))) (.g .skip)))))))))) (.seq (.g (rG (o1 57 (.bld [(0,1),(1,1),(2,1)] [(vZ 0),nV,nV] [(0,(kZ 5))])<|oc 58 a1 [5,57] .done))) (.seq (.g (sR (oj 59 0 6<|ol 60 59<|ob 61 .eql 60 (.const (.int .u8 123)) .done) (.cond 61 (rG (oc 62 a2 [5]<|o1 63 (.nilc 62)<|oj 64 0 63<|o0 (.st 1 64 (kZ 6)) .done)) .skip))) (.seq (.g (rG (om 65 0<|oj 66 8 6<|ol 67 66<|oc 68 a0 [65,67]<|o0 (.st 10 6 68) .done))) (.seq (.seq (.g (rG (oj 69 9 6<|ol 70 69<|ob 71 .eql 70 z0<|om 72 71<|oT 73 72 (.call a2 [5])<|oT 74 72 (.nilc 73)<|oT 75 72 (.fld 0 74)<|oT 76 72 (.ld none 75)<|oT 77 72 (.bin .eql 76 (kZ 5))<|gT 78 72 77<|oT 79 78 (.fld 0 6)<|oT 80 78 (.ld none 79)<|oT 81 78 (.bin .eql 80 (.const (.int .u8 93)))<|oT 82 72 (.pick 78 81 (.const (.bool false)))<|gT 83 72 82<|oF 84 83 (.call a2 [5])<|oF 85 83 (.nilc 84)<|oF 86 83 (.fld 0 85)<|oF 87 83 (.ld none 86)<|oF 88 83 (.bin .eql 87 (kZ 6))<|gF 89 83 88<|oT 90 89 (.fld 0 6)<|oT 91 89 (.ld none 90)<|oT 92 89 (.bin .eql 91 (.const (.int .u8 125)))<|oF 93 83 (.pick 89 92 (.const (.bool false)))<|oT 94 72 (.pick 83 (.const (.bool true)) 93)<|gP 95 72 94 .done))) (.cond 95 (.go 2) (.g .skip))) (.seq (.seq (.g (rG (oc 96 a2 [5]<|o1 97 (.nilc 96)<|oj 98 0 97<|ol 99 98<|ob 100 .eql 99 (kZ 5) .done))) (.cond 100 (.go 1) (.g .skip))) (.go 3)))))))),(3,(.seq (.g (.block 1 (sR (oj 102 9 6<|ol 103 102<|ob 104 .neq 103 z0<|om 101 104 .done) (.cond 101 (.seq (.reg true (p1 105 (.bld [(0,1),(1,2),(3,1),(4,1),(5,1)] [(vZ 0),(vZ 0),(vZ 0),(Ag []),nV,nV] [])<|p1 106 (.fld 7 6)<|pl 107 106<|p1 108 (.fld 9 6)<|pl 109 108<|o0 (.st 6 2 105)<|pm 3 107<|pm 4 109 .done)) .ret) (sR (oj 111 0 6<|ol 112 111<|ob 113 .neq 112 (.const (.int .u8 0))<|om 114 113<|oF 115 114 (.fld 1 6)<|oF 116 114 (.fld 0 115)<|oF 117 114 (.ld none 116)<|oF 118 114 (.bin .neq 117 (kZ 4))<|o1 119 (.pick 114 (.const (.bool true)) 118)<|om 110 119 .done) (.cond 110 (.seq (.reg true (p1 120 (.bld [(0,1),(1,2),(3,1),(4,1),(5,1)] [(vZ 0),(vZ 0),(vZ 0),(Ag []),nV,nV] [])<|p1 121 (.fld 7 6)<|pl 122 121<|o0 (.st 6 2 120)<|pm 3 122<|p1 4 (.mv (kZ 60)) .done)) .ret) .skip)))))) (.seq (.g (.reg true (p1 128 (.fld 1 6)<|p1 129 (.fld 3 128)<|pl 130 129 (.par (o1 131 (.bsl 1 1 [(Ag [])] [(0,130)]) .done) (oc 123 a2 [5] (oc 124 a2 [5] (p1 125 (.nilc 124) (p1 126 (.fld 1 125) (pl 127 126 .done))))) (o1 132 (.app 1 16 [(Ag [])] 127 131) (p1 133 (.nilc 123) (p1 134 (.fld 1 133) (.bar (o0 (.st 1 134 132) .done))))))))) (.seq (.g (rG (om 135 0<|oj 136 8 6<|ol 137 136<|oc 138 a0 [135,137]<|o0 (.st 10 6 138) .done))) (.seq (.g (.block 2 (sR (oj 140 9 6<|ol 141 140<|ob 142 .neq 141 z0<|om 139 142 .done) (.cond 139 (.seq (.reg true (p1 143 (.bld [(0,1),(1,2),(3,1),(4,1),(5,1)] [(vZ 0),(vZ 0),(vZ 0),(Ag []),nV,nV] [])<|p1 144 (.fld 7 6)<|pl 145 144<|p1 146 (.fld 9 6)<|pl 147 146<|o0 (.st 6 2 143)<|pm 3 145<|pm 4 147 .done)) .ret) (sR (oj 149 0 6<|ol 150 149<|ob 151 .neq 150 (.const (.int .u8 58))<|om 148 151 .done) (.cond 148 (.seq (.reg true (p1 152 (.bld [(0,1),(1,2),(3,1),(4,1),(5,1)] [(vZ 0),(vZ 0),(vZ 0),(Ag []),nV,nV] [])<|p1 153 (.fld 7 6)<|pl 154 153<|o0 (.st 6 2 152)<|pm 3 154<|p1 4 (.mv (kZ 60)) .done)) .ret) .skip)))))) (.seq (.g (rG (om 155 0<|oj 156 8 6<|ol 157 156<|oc 158 a0 [155,157]<|o0 (.st 10 6 158) .done))) (.seq (.go 1) (.go 0)))))))),(0,(.seq (.g (.block 3 (sR (oj 160 9 6<|ol 161 160<|ob 162 .neq 161 z0<|om 159 162 .done) (.cond 159 (.seq (.reg true (p1 163 (.bld [(0,1),(1,2),(3,1),(4,1),(5,1)] [(vZ 0),(vZ 0),(vZ 0),(Ag []),nV,nV] [])<|p1 164 (.fld 7 6)<|pl 165 164<|p1 166 (.fld 9 6)<|pl 167 166<|o0 (.st 6 2 163)<|pm 3 165<|pm 4 167 .done)) .ret) (sR (oj 169 0 5<|ol 170 169<|oL 171 170<|ob 172 .eql 171 z0<|om 173 172<|oT 174 173 (.fld 0 6)<|oT 175 173 (.ld none 174)<|oT 176 173 (.bin .eql 175 (.const (.int .u8 255)))<|gP 177 173 176<|om 168 177 .done) (.cond 168 (sR (o1 178 (.ld (some 6) 2)<|o0 (.st 6 2 178)<|o1 3 (.mv z0)<|o1 4 (.mv z0) .done) .ret) (sR (oj 180 0 5<|ol 181 180<|oL 182 181<|ob 183 .eql 182 z0<|om 179 183 .done) (.cond 179 (.seq (.reg true (p1 184 (.bld [(0,1),(1,2),(3,1),(4,1),(5,1)] [(vZ 0),(vZ 0),(vZ 0),(Ag []),nV,nV] [])<|p1 185 (.fld 7 6)<|pl 186 185<|o0 (.st 6 2 184)<|pm 3 186<|p1 4 (.mv (kZ 60)) .done)) .ret) .skip)))))))) (.seq (.g (.reg true (p1 192 (.ld (some 6) 2) (.par (o1 193 (.bsl 1 6 [(vZ 0),(vZ 0),(vZ 0),(Ag []),nV,nV] [(0,192)]) .done) (oc 187 a2 [5] (oc 188 a2 [5] (p1 189 (.nilc 188) (p1 190 (.fld 2 189) (pl 191 190 .done))))) (o1 194 (.app 6 88 [(vZ 0),(vZ 0),(vZ 0),(Ag []),nV,nV] 191 193) (p1 195 (.nilc 187) (p1 196 (.fld 2 195) (.bar (o0 (.st 1 196 194) .done))))))))) (.seq (.block 4 (.seq (.g (rG (oj 198 0 6<|ol 199 198<|ob 200 .eql 199 (.const (.int .u8 44))<|om 201 200<|oT 202 201 (.call a2 [5])<|oT 203 201 (.nilc 202)<|oT 204 201 (.fld 0 203)<|oT 205 201 (.ld none 204)<|oT 206 201 (.bin .eql 205 (kZ 5))<|gP 207 201 206<|om 197 207 .done))) (.cond 197 (.seq (.g (rG (om 208 0<|oj 209 8 6<|ol 210 209<|oc 211 a0 [208,210]<|o0 (.st 10 6 211) .done))) (.go 1)) (.seq (.g (rG (oj 213 0 6<|ol 214 213<|ob 215 .eql 214 (.const (.int .u8 44))<|om 212 215 .done))) (.cond 212 (.seq (.g (rG (om 216 0<|oj 217 8 6<|ol 218 217<|oc 219 a0 [216,218]<|o0 (.st 10 6 219) .done))) (.go 3)) (.seq (.g (sR (oj 221 0 6<|ol 222 221<|ob 223 .eql 222 (.const (.int .u8 93))<|om 224 223<|oT 225 224 (.call a2 [5])<|oT 226 224 (.nilc 225)<|oT 227 224 (.fld 0 226)<|oT 228 224 (.ld none 227)<|oT 229 224 (.bin .eql 228 (kZ 5))<|gP 230 224 229<|om 220 230 .done) (.cond 220 .skip (rG (oj 231 0 6<|ol 232 231<|ob 233 .eql 232 (.const (.int .u8 125))<|om 234 233<|oT 235 234 (.call a2 [5])<|oT 236 234 (.nilc 235)<|oT 237 234 (.fld 0 236)<|oT 238 234 (.ld none 237)<|oT 239 234 (.bin .eql 238 (kZ 6))<|gP 240 234 239<|om 220 240 .done))))) (.cond 220 (.go 2) (.g .skip)))))))) (.seq (.g (.seq (.reg true (p1 241 (.bld [(0,1),(1,2),(3,1),(4,1),(5,1)] [(vZ 0),(vZ 0),(vZ 0),(Ag []),nV,nV] [])<|p1 242 (.fld 7 6)<|pl 243 242<|o0 (.st 6 2 241)<|pm 3 243<|p1 4 (.mv (kZ 60)) .done)) .ret)) (.go 2)))))),(2,(.seq (.g (rG (oc 244 a3 [5]<|oc 245 a4 [244]<|o0 (.st 6 2 245) .done))) (.seq (.g (rG (om 246 0<|oj 247 8 6<|ol 248 247<|oc 249 a0 [246,248]<|o0 (.st 10 6 249) .done))) (.go 0))))])
def Um(g:QE)(i:Nat):EA:=(g.labs.getD i (0,.bad)).2
set_option maxHeartbeats 2000000 in
def XM{T:Ad→Prop}(hT:∀{d d'},Le d d'→T d→T d'){P f1 f2 f3 f4 f5}(h1:IW T P f1)(h2:NQ P f2)(h3:KS P f3)
  {s}(hl:s.length≤1000) {W m:Nat}(hW:W≤900000) {ρ d L}(hJ:JP T s W 1 m ρ d L):
  jwp P (Um (DY f1 f2 f3 f4 f5) 0) (mkPost [.cell 2 (some 6),.tmp 3,.tmp 4] (Ha s)) (fun l ρ d L=>∃m',m'<m∧JP T s W l m' ρ d L) ρ d L:=by
 obtain⟨ht,t,ts,vc,htk,hvc,h⟩:=hJ
 obtain⟨st,⟨b2,T2,b5,T5,b6,T6,sv,rs,h0,Ls,hs, -,rfl,hg,hst⟩,hrun⟩:∃st,MSt s ρ d L st vc t∧Run s W m (.begin_ st (t::ts)):=by
  rcases h with ⟨_,h⟩|⟨h,_⟩|⟨h,_⟩|⟨h,_⟩
  ·exact h
  all_goals cases h
 obtain⟨v0,v1,v2,v3,v4,v5,rfl⟩:=six hvc
 have hslen:=hst.len
 have hrl:rs.reverse.length=st.length:=by rw[Afw,hslen]
 obtain⟨sa,sc,rfl⟩:=hg.val
 have hok:=hrun.2.2
 have hstl:st.length≤W:=by
  have:=hrun.2.1;have hx:∀st:List Opn,st.length≤wst st:=by
   intro st;induction st with
   |nil=>exact Ack _
   |cons o st ih=>rw[wst,Acg];omega
  have:=hx st;simp only[wM] at*;omega
 show jwp P _ _ _ _ _ _
 refine G0 _ hs ?_
 clear hs
 by_cases k1:t.e≠0
 ·have hR:=hrun.inr (R:=.error t.e) (by rw[BB.eq_def];simp only;rw[if_pos k1])
  (apply Bq;apply D4;apply Bq;apply j_g;apply Ar;apply Ae;rfl;apply Al;rfl;exact An 0 Z Z;apply AB;rfl;rfl;apply Ac;rfl;apply Av;refine Gn Z (by omega) ?_;apply j_g;apply Ax)
  refine BS [bx b6 T6 (Cl t)] (bx b2 T2 [v0,v1,v2,v3,v4,v5]::bx b5 T5 [.slice sa rs.reverse.length sc]::h0::Ls) Z ?_
  (refine Bs<|AI Z Z Z<|AI Z Z Z ?_)
  refine Au 0 z6 Z Z Z Z (Aca Z) Z Z ?_
  (refine Ab Z<|Ab Z<|AV<|En ?_)
  exact D3 hR Z Z Z Z
 have k1':t.e=0:=by omega
 by_cases k2:t.sign≠0∧t.sign≠91∧t.sign≠123
 ·have hR:=hrun.inr (R:=.error 60) (by rw[BB.eq_def];simp only;rw[if_neg k1,if_pos k2])
  obtain⟨k2a,k2b,k2c⟩:=k2
  (apply Bq;apply D4;apply Bq;apply j_g;apply Ar;apply Ae;rfl;apply Al;rfl;exact An 0 Z Z;apply AB;rfl;rfl;apply Ac;rfl;apply Av;refine Dv Z (by omega) ?_;apply Bq;apply j_g;apply Ar;apply Ae;rfl;apply Al;rfl;exact An 0 Z Z;apply AB;rfl;rfl;apply Ac;rfl;refine Ey Z (by omega) ?_;apply Aa;rfl;apply Ae;rfl;apply Aa;rfl;apply Al;rfl;exact An 0 Z Z;apply Aa;rfl;apply AB;rfl;rfl;apply Ah;rfl;rfl;apply Ac;rfl;refine Ey Z (by omega) ?_;apply Aa;rfl;apply Ae;rfl;apply Aa;rfl;apply Al;rfl;exact An 0 Z Z;apply Aa;rfl;apply AB;rfl;rfl;apply Ah;rfl;rfl;apply Ac;rfl;apply Av;refine Gn Z (by omega) ?_;apply j_g;apply Ax)
  refine BS [bx b6 T6 (Cl t)] (bx b2 T2 [v0,v1,v2,v3,v4,v5]::bx b5 T5 [.slice sa rs.reverse.length sc]::h0::Ls) Z ?_
  (refine Bs<|AI Z Z Z ?_)
  refine Au 0 z6 Z Z Z Z (Aca Z) Z Z ?_
  (refine Ab Z<|Ab Z<|AV<|En ?_)
  exact D3 hR Z Z Z Z
 obtain⟨hto,htk2,ts2,rfl⟩:=htk.too k1' (by omega)
 have p1:=h1 (d:=d) (s:=s) (p:=t.too) ht (by omega) hto
 generalize Ce s t.too=t2 at*
 by_cases k4:t.sign=0
 ·by_cases k3:st.length=48
  ·have hR:=hrun.inr (R:=.error 31) (by rw[BB.eq_def];simp only;rw[if_neg k1,if_neg k2,if_pos k3])
   (apply Bq;apply D4;apply Bq;apply j_g;apply Ar;apply Ae;rfl;apply Al;rfl;exact An 0 Z Z;apply AB;rfl;rfl;apply Ac;rfl;apply Av;refine Dv Z (by omega) ?_;apply Bq;apply j_g;apply Ar;apply Ae;rfl;apply Al;rfl;exact An 0 Z Z;apply AB;rfl;rfl;apply Ac;rfl;refine Eo Z (by omega) ?_;apply AF;rfl;apply AF;rfl;apply AF;rfl;apply Af;rfl;rfl;apply Ac;rfl;apply AF;rfl;apply AF;rfl;apply AF;rfl;apply Af;rfl;rfl;apply Ac;rfl;apply Av;apply EC;rfl;apply Bq;apply j_g;apply Ar;apply Ae;rfl;apply Al;rfl;exact An 2 Z Z;apply AK;rfl;apply Ai;rfl;rfl;apply Ac;rfl;apply Av;refine Gn Z (by omega) ?_;apply j_g;apply Ax)
   refine BS [bx b6 T6 (Cl t)] (bx b2 T2 [v0,v1,v2,v3,v4,v5]::bx b5 T5 [.slice sa rs.reverse.length sc]::h0::Ls) Z ?_
   (refine Bs<|AI Z Z Z ?_)
   refine Au 0 z6 Z Z Z Z (Aca Z) Z Z ?_
   (refine Ab Z<|Ab Z<|AV<|En ?_)
   exact D3 hR Z Z Z Z
  have hs1:BB (.begin_ st (t::t2::ts2))=some (.inl (.behind st t.v (t2::ts2))):=by
   rw[BB.eq_def];simp only;rw[if_neg k1,if_neg k2,if_neg k3,if_pos k4]
  obtain⟨m',hm,hrun2⟩:=hrun.inl hs1
  have hrv:=Ty (d:=d) (hok t (Acr ..)) (by have:=hrun.2.1;simp only[wM,wts,wtT] at this;omega)
  (apply Bq;apply D4;apply Bq;apply j_g;apply Ar;apply Ae;rfl;apply Al;rfl;exact An 0 Z Z;apply AB;rfl;rfl;apply Ac;rfl;apply Av;refine Dv Z (by omega) ?_;apply Bq;apply j_g;apply Ar;apply Ae;rfl;apply Al;rfl;exact An 0 Z Z;apply AB;rfl;rfl;apply Ac;rfl;refine Eo Z (by omega) ?_;apply AF;rfl;apply AF;rfl;apply AF;rfl;apply Af;rfl;rfl;apply Ac;rfl;apply AF;rfl;apply AF;rfl;apply AF;rfl;apply Af;rfl;rfl;apply Ac;rfl;apply Av;apply EC;rfl;apply Bq;apply j_g;apply Ar;apply Ae;rfl;apply Al;rfl;exact An 2 Z Z;apply AK;rfl;apply Ai;rfl;rfl;apply Ac;rfl;apply Av;refine Dv Z (by omega) ?_;apply Bq;apply j_g;apply Ar;apply Ae;rfl;apply Al;rfl;exact An 0 Z Z;apply Ai;rfl;rfl;apply Ac;rfl;apply Av;refine Gn Z (by omega) ?_;apply Bq;apply j_g;apply Ar;apply Ae;rfl;apply DF 0;rfl;rfl;rfl)
  refine Au 1 (Ft t.v) Z Z Z Z (Aca Z) Z Z ?_
  (apply Av;apply Bq;apply j_g;refine Ar<|Ak Z<|AI Z Z Z ?_)
  refine AG Z p1 ?_
  refine Au 0 (Cl t2) Z Z Z Z (Aca Z) Z Z ?_
  (apply Av)
  apply Hg
  exact⟨m',hm,ht,t2,ts2,Ft t.v,htk2,Z,.inr (.inr (.inl ⟨Z,st,t.v,⟨b2,T2,b5,T5,b6,T6,.slice sa rs.reverse.length sc,rs,h0,Ls,⟨Z,Z,Z,Z,trivial⟩,Z,Z,hg,hst⟩,hrv,hrun2⟩))⟩
 by_cases k6:t.sign=91
 ·by_cases k3:st.length=48
  ·have hR:=hrun.inr (R:=.error 31) (by rw[BB.eq_def];simp only;rw[if_neg k1,if_neg k2,if_pos k3])
   (apply Bq;apply D4;apply Bq;apply j_g;apply Ar;apply Ae;rfl;apply Al;rfl;exact An 0 Z Z;apply AB;rfl;rfl;apply Ac;rfl;apply Av;refine Dv Z (by omega) ?_;apply Bq;apply j_g;apply Ar;apply Ae;rfl;apply Al;rfl;exact An 0 Z Z;apply AB;rfl;rfl;apply Ac;rfl;refine Ey Z (by omega) ?_;apply Aa;rfl;apply Ae;rfl;apply Aa;rfl;apply Al;rfl;exact An 0 Z Z;apply Aa;rfl;apply AB;rfl;rfl;apply Ah;rfl;rfl;apply Ac;rfl;refine Eo Z (by omega) ?_;apply AF;rfl;apply AF;rfl;apply AF;rfl;apply Af;rfl;rfl;apply Ac;rfl;apply Av;apply EC;rfl;apply Bq;apply j_g;apply Ar;apply Ae;rfl;apply Al;rfl;exact An 2 Z Z;apply AK;rfl;apply Ai;rfl;rfl;apply Ac;rfl;apply Av;refine Gn Z (by omega) ?_;apply j_g;apply Ax)
   refine BS [bx b6 T6 (Cl t)] (bx b2 T2 [v0,v1,v2,v3,v4,v5]::bx b5 T5 [.slice sa rs.reverse.length sc]::h0::Ls) Z ?_
   (refine Bs<|AI Z Z Z ?_)
   refine Au 0 z6 Z Z Z Z (Aca Z) Z Z ?_
   (refine Ab Z<|Ab Z<|AV<|En ?_)
   exact D3 hR Z Z Z Z
  (apply Bq;apply D4;apply Bq;apply j_g;apply Ar;apply Ae;rfl;apply Al;rfl;exact An 0 Z Z;apply AB;rfl;rfl;apply Ac;rfl;apply Av;refine Dv Z (by omega) ?_;apply Bq;apply j_g;apply Ar;apply Ae;rfl;apply Al;rfl;exact An 0 Z Z;apply AB;rfl;rfl;apply Ac;rfl;refine Ey Z (by omega) ?_;apply Aa;rfl;apply Ae;rfl;apply Aa;rfl;apply Al;rfl;exact An 0 Z Z;apply Aa;rfl;apply AB;rfl;rfl;apply Ah;rfl;rfl;apply Ac;rfl;refine Eo Z (by omega) ?_;apply AF;rfl;apply AF;rfl;apply AF;rfl;apply Af;rfl;rfl;apply Ac;rfl;apply Av;apply EC;rfl;apply Bq;apply j_g;apply Ar;apply Ae;rfl;apply Al;rfl;exact An 2 Z Z;apply AK;rfl;apply Ai;rfl;rfl;apply Ac;rfl;apply Av;refine Dv Z (by omega) ?_;apply Bq;apply j_g;apply Ar;apply Ae;rfl;apply Al;rfl;exact An 0 Z Z;apply Ai;rfl;rfl;apply Ac;rfl;apply Av;refine Dv Z (by omega) ?_;apply j_g)
  apply Ay
  apply Bq;apply j_g;apply Ar
  refine B2 (cs:=[vZ 5,nV,nV]) Z ?_
  refine DT d (bx b5 T5 [.slice sa rs.reverse.length sc]::h0::bx b6 T6 (Cl t)::bx b2 T2 [v0,v1,v2,v3,v4,v5]::Ls) (Vs.perm ((Adh (l₁:=[bx b6 T6 (Cl t),bx b2 T2 [v0,v1,v2,v3,v4,v5]]) (l₂:=[bx b5 T5 [.slice sa rs.reverse.length sc],h0])).append_right Ls)) ?_
  refine Cg (A:=[bx b5 T5 [.slice sa rs.reverse.length sc],h0]) (B:=bx b6 T6 (Cl t)::bx b2 T2 [v0,v1,v2,v3,v4,v5]::Ls) Z Z (h2 (cs:=[vZ 5,nV,nV]) (x:=(5,nV,nV)) hg ⟨Z,Z,Z⟩ (by omega)) (fun r d2 L2 _ ⟨hdd,sv2,g2,hL,hg2⟩=>?_)
  subst hdd;subst hL
  obtain⟨qb,qT,ql,qc,rfl,rfl,qle,q0,q1,q2,qs0, -, -⟩:=KI hg2
  refine FB d2 (bx b6 T6 (Cl t)::bx b2 T2 [v0,v1,v2,v3,v4,v5]::bx b5 T5 [.slice (some ⟨qb,0,none⟩) (rs.reverse.length+1) qc]::bx qb qT ql::emp::emp::Ls) (Vs.emp.trans (Vs.emp.trans (Vs.perm (Yi _ _ _ _ _ _ _)))) ?_
  refine G0 [(0,Ag s),(2,pZ b2),(5,pZ b5),(6,pZ b6)] ⟨Z,Z,Z,Z,trivial⟩ ?_
  have p3:∀d6,DC d6 b5 0 (.slice (some ⟨qb,0,none⟩) (rs.reverse.length+1) qc)→AO P f3 [pZ b5] d6 (.pointer (some ⟨qb,rs.reverse.length*3,none⟩)):=fun d6 h=>by
   have:=h3 (by omega) h (by omega);rwa [Afo] at this
  have hg3:=hg2
  clear hg2 qs0
  (apply Bq;apply j_g;apply Ax;apply Ar;apply Ae;rfl;apply Al;rfl;exact An 0 Z Z;apply Ai;rfl;rfl;apply Av;refine EH Z (by omega) ?_;apply Ay;apply Bq;apply j_g;apply Ar;apply Ak;rfl;apply Ae;rfl;apply Al;rfl;exact An 0 Z Z)
  refine AG Z p1 ?_
  refine Au 0 (Cl t2) Z Z Z Z (Aca Z) Z Z ?_
  by_cases k7:t2.e=0
  ·(apply Av;apply Bq;apply Bq;apply j_g;refine Ar<|AI Z Z Z<|Ai Z Z<|Ac Z<|AA Z<|Aa Z ?_)
   refine Cv Z (fun d6 hl6 hk6=>p3 d6 ((Dn (hk6 (bx b5 T5 [.slice (some ⟨qb,0,none⟩) (rs.reverse.length+1) qc]) (Aci _ (Aci _ (Acr ..))))).at (i:=0) Z)) ?_
   by_cases k8:t2.sign=93
   ·have hs1:BB (.begin_ st (t::t2::ts2))=some (.inl (.shut ⟨false,[],[]⟩ st (t2::ts2))):=by
     have e0:decide (t.sign=123)=false:=by rw[k6];rfl
     rw[BB.eq_def];simp only;rw[if_neg k1,if_neg k2,if_neg k3,if_neg k4,e0,if_pos ⟨k7,k8⟩]
    (refine Aa Z<|A3 Z<|Aa Z<|Ae Z<|Aa Z<|Al Z (An 3 Z (by assumption))<|Aa Z<|Ai Z Z<|Aa Z<|Ac Z<|AA Z<|Aa Z<|Ae Z<|Aa Z<|c_l Z Z Z<|Aa Z<|Ai Z Z<|Aa Z<|Ah Z Z<|Aa Z<|Ac Z<|AA Z<|Aq Z Z<|Aq Z Z<|Aq Z Z<|AN Z<|AN Z<|AN Z<|AF Z<|Aa Z<|Ah Z Z<|Ah Z Z<|Av ?_;apply QC;rfl)
    obtain⟨m',hm,hrun2⟩:=hrun.inl hs1
    apply Hg
    exact⟨m',hm,ht,t2,ts2,[v0,v1,v2,v3,v4,v5],htk2,Z,.inr (.inr (.inr ⟨Z,⟨false,[],[]⟩,st,⟨b2,T2,b5,T5,b6,T6,.slice (some ⟨qb,0,none⟩) (rs.reverse.length+1) qc,(5,nV,nV)::rs,_,emp::emp::Ls,⟨Z,Z,Z,Z,trivial⟩,Z,Z,by rw[Ael];exact hg3,Z,AQ.nil,AQ.nil,hst⟩,hrun2⟩))⟩
   ·have hs1:BB (.begin_ st (t::t2::ts2))=some (.inl (.begin_ (⟨false,[],[]⟩::st) (t2::ts2))):=by
     have e0:decide (t.sign=123)=false:=by rw[k6];rfl
     rw[BB.eq_def];simp only;rw[if_neg k1,if_neg k2,if_neg k3,if_neg k4,e0,if_neg (fun q=>k8 q.2),if_pos k6]
    (refine Aa Z<|A3 Z<|Aa Z<|Ae Z<|Aa Z<|Al Z (An 3 Z (by assumption))<|Aa Z<|Ai Z Z<|Aa Z<|Ac Z<|AA Z<|Aa Z<|Ae Z<|Aa Z<|c_l Z Z Z<|Aa Z<|Ai Z Z<|Aa Z<|Ah Z Z<|Aa Z<|Ac Z<|Aw Z<|Aa Z ?_)
    refine Cv Z (fun d6 hl6 hk6=>p3 d6 ((Dn (hk6 (bx b5 T5 [.slice (some ⟨qb,0,none⟩) (rs.reverse.length+1) qc]) (Aci _ (Aci _ (Acr ..))))).at (i:=0) Z)) ?_
    (refine Aa Z<|A3 Z<|Aa Z<|Ae Z<|Aa Z<|Al Z (An 3 Z (by assumption))<|Aa Z<|Ai Z Z<|Aa Z<|Ac Z<|Aw Z<|Aq Z Z<|AF Z<|Aa Z<|Af Z Z<|Aa Z<|Af Z Z<|Ah Z Z<|Av ?_;apply EC;rfl;apply j_g;apply Ay;apply Bq;apply Bq;apply j_g;apply Ar)
    refine Cv Z (fun d6 hl6 hk6=>p3 d6 ((Dn (hk6 (bx b5 T5 [.slice (some ⟨qb,0,none⟩) (rs.reverse.length+1) qc]) (Aci _ (Aci _ (Acr ..))))).at (i:=0) Z)) ?_
    (refine A3 Z<|Ae Z<|Al Z (An 3 Z (by assumption))<|Ai Z Z<|Av ?_;apply QC;rfl)
    obtain⟨m',hm,hrun2⟩:=hrun.inl hs1
    apply Hg
    exact⟨m',hm,ht,t2,ts2,[v0,v1,v2,v3,v4,v5],htk2,Z,.inl ⟨Z,⟨false,[],[]⟩::st,⟨b2,T2,b5,T5,b6,T6,.slice (some ⟨qb,0,none⟩) (rs.reverse.length+1) qc,(5,nV,nV)::rs,_,emp::emp::Ls,⟨Z,Z,Z,Z,trivial⟩,Z,Z,by rw[Ael];exact hg3,Z,AQ.nil,AQ.nil,hst⟩,hrun2⟩⟩
  ·have hs1:BB (.begin_ st (t::t2::ts2))=some (.inl (.begin_ (⟨false,[],[]⟩::st) (t2::ts2))):=by
    have e0:decide (t.sign=123)=false:=by rw[k6];rfl
    rw[BB.eq_def];simp only;rw[if_neg k1,if_neg k2,if_neg k3,if_neg k4,e0,if_neg (fun q=>k7 q.1),if_pos k6]
   (apply Av;apply Bq;apply Bq;apply j_g;refine Ar<|AI Z Z Z<|Ai Z Z<|Ac Z<|Aw Z<|Aq Z Z<|Aq Z Z<|Aq Z Z<|AN Z<|AN Z<|AN Z<|Aq Z Z<|AN Z<|AN Z<|AN Z<|AN Z<|AN Z<|AN Z<|AN Z<|AN Z<|AN Z<|AN Z<|AF Z<|Af Z Z<|Av ?_;apply EC;rfl;apply j_g;apply Ay;apply Bq;apply Bq;apply j_g;apply Ar)
   refine Cv Z (fun d6 hl6 hk6=>p3 d6 ((Dn (hk6 (bx b5 T5 [.slice (some ⟨qb,0,none⟩) (rs.reverse.length+1) qc]) (Aci _ (Aci _ (Acr ..))))).at (i:=0) Z)) ?_
   (refine A3 Z<|Ae Z<|Al Z (An 3 Z (by assumption))<|Ai Z Z<|Av ?_;apply QC;rfl)
   obtain⟨m',hm,hrun2⟩:=hrun.inl hs1
   apply Hg
   exact⟨m',hm,ht,t2,ts2,[v0,v1,v2,v3,v4,v5],htk2,Z,.inl ⟨Z,⟨false,[],[]⟩::st,⟨b2,T2,b5,T5,b6,T6,.slice (some ⟨qb,0,none⟩) (rs.reverse.length+1) qc,(5,nV,nV)::rs,_,emp::emp::Ls,⟨Z,Z,Z,Z,trivial⟩,Z,Z,by rw[Ael];exact hg3,Z,AQ.nil,AQ.nil,hst⟩,hrun2⟩⟩
 ·have k6':t.sign=123:=by omega
  by_cases k3:st.length=48
  ·have hR:=hrun.inr (R:=.error 31) (by rw[BB.eq_def];simp only;rw[if_neg k1,if_neg k2,if_pos k3])
   (apply Bq;apply D4;apply Bq;apply j_g;apply Ar;apply Ae;rfl;apply Al;rfl;exact An 0 Z Z;apply AB;rfl;rfl;apply Ac;rfl;apply Av;refine Dv Z (by omega) ?_;apply Bq;apply j_g;apply Ar;apply Ae;rfl;apply Al;rfl;exact An 0 Z Z;apply AB;rfl;rfl;apply Ac;rfl;refine Ey Z (by omega) ?_;apply Aa;rfl;apply Ae;rfl;apply Aa;rfl;apply Al;rfl;exact An 0 Z Z;apply Aa;rfl;apply AB;rfl;rfl;apply Ah;rfl;rfl;apply Ac;rfl;refine Ey Z (by omega) ?_;apply Aa;rfl;apply Ae;rfl;apply Aa;rfl;apply Al;rfl;exact An 0 Z Z;apply Aa;rfl;apply AB;rfl;rfl;apply Ah;rfl;rfl;apply Ac;rfl;apply Av;refine Dv Z (by omega) ?_;apply Bq;apply j_g;apply Ar;apply Ae;rfl;apply Al;rfl;exact An 2 Z Z;apply AK;rfl;apply Ai;rfl;rfl;apply Ac;rfl;apply Av;refine Gn Z (by omega) ?_;apply j_g;apply Ax)
   refine BS [bx b6 T6 (Cl t)] (bx b2 T2 [v0,v1,v2,v3,v4,v5]::bx b5 T5 [.slice sa rs.reverse.length sc]::h0::Ls) Z ?_
   (refine Bs<|AI Z Z Z ?_)
   refine Au 0 z6 Z Z Z Z (Aca Z) Z Z ?_
   (refine Ab Z<|Ab Z<|AV<|En ?_)
   exact D3 hR Z Z Z Z
  (apply Bq;apply D4;apply Bq;apply j_g;apply Ar;apply Ae;rfl;apply Al;rfl;exact An 0 Z Z;apply AB;rfl;rfl;apply Ac;rfl;apply Av;refine Dv Z (by omega) ?_;apply Bq;apply j_g;apply Ar;apply Ae;rfl;apply Al;rfl;exact An 0 Z Z;apply AB;rfl;rfl;apply Ac;rfl;refine Ey Z (by omega) ?_;apply Aa;rfl;apply Ae;rfl;apply Aa;rfl;apply Al;rfl;exact An 0 Z Z;apply Aa;rfl;apply AB;rfl;rfl;apply Ah;rfl;rfl;apply Ac;rfl;refine Ey Z (by omega) ?_;apply Aa;rfl;apply Ae;rfl;apply Aa;rfl;apply Al;rfl;exact An 0 Z Z;apply Aa;rfl;apply AB;rfl;rfl;apply Ah;rfl;rfl;apply Ac;rfl;apply Av;refine Dv Z (by omega) ?_;apply Bq;apply j_g;apply Ar;apply Ae;rfl;apply Al;rfl;exact An 2 Z Z;apply AK;rfl;apply Ai;rfl;rfl;apply Ac;rfl;apply Av;refine Dv Z (by omega) ?_;apply Bq;apply j_g;apply Ar;apply Ae;rfl;apply Al;rfl;exact An 0 Z Z;apply Ai;rfl;rfl;apply Ac;rfl;apply Av;refine Dv Z (by omega) ?_;apply j_g)
  apply Ay
  apply Bq;apply j_g;apply Ar
  refine B2 (cs:=[vZ 5,nV,nV]) Z ?_
  refine DT d (bx b5 T5 [.slice sa rs.reverse.length sc]::h0::bx b6 T6 (Cl t)::bx b2 T2 [v0,v1,v2,v3,v4,v5]::Ls) (Vs.perm ((Adh (l₁:=[bx b6 T6 (Cl t),bx b2 T2 [v0,v1,v2,v3,v4,v5]]) (l₂:=[bx b5 T5 [.slice sa rs.reverse.length sc],h0])).append_right Ls)) ?_
  refine Cg (A:=[bx b5 T5 [.slice sa rs.reverse.length sc],h0]) (B:=bx b6 T6 (Cl t)::bx b2 T2 [v0,v1,v2,v3,v4,v5]::Ls) Z Z (h2 (cs:=[vZ 5,nV,nV]) (x:=(5,nV,nV)) hg ⟨Z,Z,Z⟩ (by omega)) (fun r d2 L2 _ ⟨hdd,sv2,g2,hL,hg2⟩=>?_)
  subst hdd;subst hL
  obtain⟨qb,qT,ql,qc,rfl,rfl,qle,q0,q1,q2,qs0, -, -⟩:=KI hg2
  refine FB d2 (bx b6 T6 (Cl t)::bx b2 T2 [v0,v1,v2,v3,v4,v5]::bx b5 T5 [.slice (some ⟨qb,0,none⟩) (rs.reverse.length+1) qc]::bx qb qT ql::emp::emp::Ls) (Vs.emp.trans (Vs.emp.trans (Vs.perm (Yi _ _ _ _ _ _ _)))) ?_
  refine G0 [(0,Ag s),(2,pZ b2),(5,pZ b5),(6,pZ b6)] ⟨Z,Z,Z,Z,trivial⟩ ?_
  have p3:∀d6,DC d6 b5 0 (.slice (some ⟨qb,0,none⟩) (rs.reverse.length+1) qc)→AO P f3 [pZ b5] d6 (.pointer (some ⟨qb,rs.reverse.length*3,none⟩)):=fun d6 h=>by
   have:=h3 (by omega) h (by omega);rwa [Afo] at this
  have hg3:=qs0 6
  clear hg2 qs0
  have q6:(patch ql (rs.reverse.length*3) [vZ 6])[rs.reverse.length*3]?=some (Value.int .i64 6):=by
   rw[EF (by simp;omega),if_pos (by simp)];simp
  (apply Bq;apply j_g;apply Ax;apply Ar;apply Ae;rfl;apply Al;rfl;exact An 0 Z Z;apply Ai;rfl;rfl;apply Av;refine Hb Z (by omega) ?_;apply Ar)
  refine Cv Z (fun d6 hl6 hk6=>p3 d6 ((Dn (hk6 (bx b5 T5 [.slice (some ⟨qb,0,none⟩) (rs.reverse.length+1) qc]) (Aci _ (Aci _ (Acr ..))))).at (i:=0) Z)) ?_
  (refine A3 Z<|Ae Z ?_)
  refine Au 3 (patch ql (rs.reverse.length*3) [vZ 6]) Z Z Z Z (by show rs.reverse.length*3+0+1≤_;omega) Z Z ?_
  clear q0 q1 q2
  generalize patch ql (rs.reverse.length*3) [vZ 6]=ql2 at*
  (apply Av;apply Bq;apply j_g;refine Ar<|Ak Z<|AI Z Z Z ?_)
  refine AG Z p1 ?_
  refine Au 0 (Cl t2) Z Z Z Z (Aca Z) Z Z ?_
  by_cases k7:t2.e=0
  ·(apply Av;apply Bq;apply Bq;apply j_g;refine Ar<|AI Z Z Z<|Ai Z Z<|Ac Z<|AA Z<|Aa Z ?_)
   refine Cv Z (fun d6 hl6 hk6=>p3 d6 ((Dn (hk6 (bx b5 T5 [.slice (some ⟨qb,0,none⟩) (rs.reverse.length+1) qc]) (Aci _ (Aci _ (Acr ..))))).at (i:=0) Z)) ?_
   (refine Aa Z<|A3 Z<|Aa Z<|Ae Z<|Aa Z<|Al Z (An 3 Z (by assumption))<|Aa Z<|Ai Z Z<|Aa Z<|Ac Z<|Aw Z<|Aq Z Z<|AF Z<|Aa Z<|Af Z Z<|Aa Z<|Ac Z<|Aa Z ?_)
   refine Cv Z (fun d6 hl6 hk6=>p3 d6 ((Dn (hk6 (bx b5 T5 [.slice (some ⟨qb,0,none⟩) (rs.reverse.length+1) qc]) (Aci _ (Aci _ (Acr ..))))).at (i:=0) Z)) ?_
   by_cases k8:t2.sign=125
   ·have hs1:BB (.begin_ st (t::t2::ts2))=some (.inl (.shut ⟨true,[],[]⟩ st (t2::ts2))):=by
     have e0:decide (t.sign=123)=true:=by rw[k6'];rfl
     rw[BB.eq_def];simp only;rw[if_neg k1,if_neg k2,if_neg k3,if_neg k4,e0,if_pos ⟨k7,k8⟩]
    (refine Aa Z<|A3 Z<|Aa Z<|Ae Z<|Aa Z<|Al Z (An 3 Z (by assumption))<|Aa Z<|Ai Z Z<|Aa Z<|Ac Z<|AA Z<|Aa Z<|Ae Z<|Aa Z<|c_l Z Z Z<|Aa Z<|Ai Z Z<|Aa Z<|Ah Z Z<|Aa Z<|Af Z Z<|Ah Z Z<|Av ?_;refine Gn Z (by omega) ?_)
    obtain⟨m',hm,hrun2⟩:=hrun.inl hs1
    apply Hg
    exact⟨m',hm,ht,t2,ts2,[v0,v1,v2,v3,v4,v5],htk2,Z,.inr (.inr (.inr ⟨Z,⟨true,[],[]⟩,st,⟨b2,T2,b5,T5,b6,T6,.slice (some ⟨qb,0,none⟩) (rs.reverse.length+1) qc,(6,nV,nV)::rs,_,emp::emp::Ls,⟨Z,Z,Z,Z,trivial⟩,Z,Z,by rw[Ael];exact hg3,Z,AQ.nil,AQ.nil,hst⟩,hrun2⟩))⟩
   ·have hs1:BB (.begin_ st (t::t2::ts2))=some (.inl (.pair ⟨true,[],[]⟩ st (t2::ts2))):=by
     have e0:decide (t.sign=123)=true:=by rw[k6'];rfl
     rw[BB.eq_def];simp only;rw[if_neg k1,if_neg k2,if_neg k3,if_neg k4,e0,if_neg (fun q=>k8 q.2),if_neg k6]
    (refine Aa Z<|A3 Z<|Aa Z<|Ae Z<|Aa Z<|Al Z (An 3 Z (by assumption))<|Aa Z<|Ai Z Z<|Aa Z<|Ac Z<|AA Z<|Aa Z<|Ae Z<|Aa Z<|c_l Z Z Z<|Aa Z<|Ai Z Z<|Aa Z<|Ah Z Z<|Aa Z<|Af Z Z<|Ah Z Z<|Av ?_;refine Dv Z (by omega) ?_;apply j_g;apply Ay;apply Bq;apply Bq;apply j_g;apply Ar)
    refine Cv Z (fun d6 hl6 hk6=>p3 d6 ((Dn (hk6 (bx b5 T5 [.slice (some ⟨qb,0,none⟩) (rs.reverse.length+1) qc]) (Aci _ (Aci _ (Acr ..))))).at (i:=0) Z)) ?_
    (refine A3 Z<|Ae Z<|Al Z (An 3 Z (by assumption))<|Ai Z Z<|Av ?_;apply EC;rfl;apply j_g;apply Ay)
    obtain⟨m',hm,hrun2⟩:=hrun.inl hs1
    apply Hg
    exact⟨m',hm,ht,t2,ts2,[v0,v1,v2,v3,v4,v5],htk2,Z,.inr (.inl ⟨Z,⟨true,[],[]⟩,st,⟨b2,T2,b5,T5,b6,T6,.slice (some ⟨qb,0,none⟩) (rs.reverse.length+1) qc,(6,nV,nV)::rs,_,emp::emp::Ls,⟨Z,Z,Z,Z,trivial⟩,Z,Z,by rw[Ael];exact hg3,Z,AQ.nil,AQ.nil,hst⟩,hrun2⟩)⟩
  ·have hs1:BB (.begin_ st (t::t2::ts2))=some (.inl (.pair ⟨true,[],[]⟩ st (t2::ts2))):=by
    have e0:decide (t.sign=123)=true:=by rw[k6'];rfl
    rw[BB.eq_def];simp only;rw[if_neg k1,if_neg k2,if_neg k3,if_neg k4,e0,if_neg (fun q=>k7 q.1),if_neg k6]
   (apply Av;apply Bq;apply Bq;apply j_g;refine Ar<|AI Z Z Z<|Ai Z Z<|Ac Z<|Aw Z<|Aq Z Z<|Aq Z Z<|Aq Z Z<|AN Z<|AN Z<|AN Z<|Aq Z Z<|AN Z<|AN Z<|AN Z<|AN Z<|AN Z<|AN Z<|AN Z<|AN Z<|AN Z<|AN Z<|AF Z<|Af Z Z<|Av ?_;apply EC;rfl;apply j_g;apply Ay;apply Bq;apply Bq;apply j_g;apply Ar)
   refine Cv Z (fun d6 hl6 hk6=>p3 d6 ((Dn (hk6 (bx b5 T5 [.slice (some ⟨qb,0,none⟩) (rs.reverse.length+1) qc]) (Aci _ (Aci _ (Acr ..))))).at (i:=0) Z)) ?_
   (refine A3 Z<|Ae Z<|Al Z (An 3 Z (by assumption))<|Ai Z Z<|Av ?_;apply EC;rfl;apply j_g;apply Ay)
   obtain⟨m',hm,hrun2⟩:=hrun.inl hs1
   apply Hg
   exact⟨m',hm,ht,t2,ts2,[v0,v1,v2,v3,v4,v5],htk2,Z,.inr (.inl ⟨Z,⟨true,[],[]⟩,st,⟨b2,T2,b5,T5,b6,T6,.slice (some ⟨qb,0,none⟩) (rs.reverse.length+1) qc,(6,nV,nV)::rs,_,emp::emp::Ls,⟨Z,Z,Z,Z,trivial⟩,Z,Z,by rw[Ael];exact hg3,Z,AQ.nil,AQ.nil,hst⟩,hrun2⟩)⟩
end Go.Gk.Jsn
end
section
namespace Go.Gk.Val
open Go Go.Gk Go.Gk.Utf
attribute [local irreducible] gwp gws
def KX(T:Ad→Prop)(P:Program)(f:FuncId):Prop:=∀{d w1 w2 ks}{l:List V},T d→B9 d w1 ks→Cw d w2 l→ks.length≤1000000000→(∀x∈l,Bj x≤1000000000)→
 Be P f [w1,w2] d [] (Ret fun r d' L'=>L'=[]∧∃cs',r=.tuple #[.agg cs'.toArray,vZ (Dk ks l).2]∧Az d' cs' (Dk ks l).1)
def Hj(a0 a1 a2:Nat):Bo:=⟨131,[(.cell 4 (some 6)),(.tmp 5)],(sR (o1 4 (.alo (.agg #[(vZ 0),(vZ 0),(vZ 0),(Ag []),nV,nV]))<|o1 5 (.mv z0) .done) (.seq (sR (om 11 0<|oL 12 11<|om 13 1<|oL 14 13<|ob 15 .neq 12 14 .done) (.cond 15 (sR (o1 16 (.bld [(0,1),(1,2),(3,1),(4,1),(5,1)] [(vZ 0),(vZ 0),(vZ 0),(Ag []),nV,nV] [])<|o0 (.st 6 4 16)<|o1 5 (.mv z2) .done) .ret) .skip)) (.seq (sR (o1 6 (.mv z0) .done) (.block 0 (.loop (.seq (sR (om 17 6<|om 18 0<|oL 19 18<|ob 20 .lss 17 19 .done) (.cond 20 .skip (.exit 0))) (.seq (.block 1 (sR (om 23 0<|om 24 6<|oI 25 1 23 24<|ol 26 25<|oc 27 a0 [26]<|o1 28 (.un .not 27) .done) (.cond 28 (sR (o1 29 (.bld [(0,1),(1,2),(3,1),(4,1),(5,1)] [(vZ 0),(vZ 0),(vZ 0),(Ag []),nV,nV] [])<|o0 (.st 6 4 29)<|o1 5 (.mv (kZ 30)) .done) .ret) .skip))) (rG (om 21 6<|ob 22 .add 21 z1<|om 6 22 .done))))))) (sR (o1 30 (.bld [(0,1),(1,2),(3,1),(4,1),(5,1)] [(vZ 0),(vZ 0),(vZ 0),(Ag []),nV,nV] [(0,(kZ 6))])<|o1 7 (.alo (.agg #[(vZ 0),(vZ 0),(vZ 0),(Ag []),nV,nV]))<|o0 (.st 6 7 30) .done) (.seq (sR (o1 8 (.mv z0) .done) (.block 2 (.loop (.seq (sR (om 31 8<|om 32 0<|oL 33 32<|ob 34 .lss 31 33 .done) (.cond 34 .skip (.exit 2))) (.seq (.block 3 (sR (om 37 1<|om 38 8<|oI 39 6 37 38<|o1 40 (.ld (some 6) 39)<|oc 41 a1 [40]<|om 9 41 .done) (.seq (sR (om 42 9<|ob 43 .neq 42 z0 .done) (.cond 43 (sR (o1 44 (.bld [(0,1),(1,2),(3,1),(4,1),(5,1)] [(vZ 0),(vZ 0),(vZ 0),(Ag []),nV,nV] [])<|om 45 9<|o0 (.st 6 4 44)<|om 5 45 .done) .ret) .skip)) (sR (o1 10 (.mv z0) .done) (.seq (.block 4 (.loop (.seq (.seq (.reg true (pm 46 10<|p1 47 (.fld 5 7)<|pl 48 47<|p1 49 (.len 48)<|p1 50 (.bin .lss 46 49)<|pm 51 50 (.op true ⟨(some 52),(some (51,true)),(.fld 5 7)⟩ (.op true ⟨(some 53),(some (51,true)),(.ld none 52)⟩ (.op true ⟨(some 54),(some (51,true)),(.mv 10)⟩ (.op true ⟨(some 55),(some (51,true)),(.idx 1 53 54)⟩ (.op true ⟨(some 56),(some (51,true)),(.ld none 55)⟩ (.op true ⟨(some 57),(some (51,true)),(.mv 0)⟩ (.op true ⟨(some 58),(some (51,true)),(.mv 8)⟩ (.op true ⟨(some 59),(some (51,true)),(.idx 1 57 58)⟩ (.op true ⟨(some 60),(some (51,true)),(.ld none 59)⟩ (.op true ⟨(some 61),(some (51,true)),(.bin .lss 56 60)⟩ (p1 62 (.pick 51 61 (.const (.bool false))) .done))))))))))))) (.cond 62 .skip (.exit 4))) (.block 5 (rG (om 63 10<|ob 64 .add 63 z1<|om 10 64 .done)))))) (.seq (.seq (.reg true (pm 65 10<|p1 66 (.fld 5 7)<|pl 67 66<|p1 68 (.len 67)<|p1 69 (.bin .eql 65 68)<|pm 70 69 (.op true ⟨(some 71),(some (70,false)),(.fld 5 7)⟩ (.op true ⟨(some 72),(some (70,false)),(.ld none 71)⟩ (.op true ⟨(some 73),(some (70,false)),(.mv 10)⟩ (.op true ⟨(some 74),(some (70,false)),(.idx 1 72 73)⟩ (.op true ⟨(some 75),(some (70,false)),(.ld none 74)⟩ (.op true ⟨(some 76),(some (70,false)),(.mv 0)⟩ (.op true ⟨(some 77),(some (70,false)),(.mv 8)⟩ (.op true ⟨(some 78),(some (70,false)),(.idx 1 76 77)⟩ (.op true ⟨(some 79),(some (70,false)),(.ld none 78)⟩ (.op true ⟨(some 80),(some (70,false)),(.bin .neq 75 79)⟩ (p1 81 (.pick 70 (.const (.bool true)) 80) .done))))))))))))) (.cond 81 (.seq (.reg true (p1 83 (.fld 5 7)<|pl 84 83<|pm 85 10<|p1 86 (.sl 1 84 none (some 85) none)<|pm 88 0<|pm 89 8<|p1 90 (.idx 1 88 89)<|pl 91 90<|p1 94 (.fld 5 7)<|pl 95 94<|pm 96 10<|p1 97 (.sl 1 95 (some 96) none none) (.par (o1 92 (.bsl 1 1 [(Ag [])] [(0,91)]) .done) (o1 82 (.bsl 0 1 [(Ag [])] []) (o1 87 (.app 1 16 [(Ag [])] 82 86) .done)) (o1 93 (.app 1 16 [(Ag [])] 87 92) (o1 98 (.app 1 16 [(Ag [])] 93 97) (p1 99 (.fld 5 7) (.bar (o0 (.st 1 99 98) .done)))))))) (.reg true (p1 101 (.fld 4 7)<|pl 102 101<|pm 103 10<|p1 104 (.sl 6 102 none (some 103) none)<|pm 106 1<|pm 107 8<|p1 108 (.idx 6 106 107)<|p1 109 (.ld (some 6) 108)<|p1 112 (.fld 4 7)<|pl 113 112<|pm 114 10<|p1 115 (.sl 6 113 (some 114) none none) (.par (o1 110 (.bsl 1 6 [(vZ 0),(vZ 0),(vZ 0),(Ag []),nV,nV] [(0,109)]) .done) (o1 100 (.bsl 0 6 [(vZ 0),(vZ 0),(vZ 0),(Ag []),nV,nV] []) (o1 105 (.app 6 88 [(vZ 0),(vZ 0),(vZ 0),(Ag []),nV,nV] 100 104) .done)) (o1 111 (.app 6 88 [(vZ 0),(vZ 0),(vZ 0),(Ag []),nV,nV] 105 110) (o1 116 (.app 6 88 [(vZ 0),(vZ 0),(vZ 0),(Ag []),nV,nV] 111 115) (p1 117 (.fld 4 7) (.bar (o0 (.st 1 117 116) .done))))))))) .skip)) (.reg true (p1 118 (.fld 4 7)<|pl 119 118<|pm 120 10<|pm 121 1<|pm 122 8<|p1 123 (.idx 6 121 122)<|p1 124 (.ld (some 6) 123)<|p1 125 (.idx 6 119 120) (.bar (o0 (.st 6 125 124) .done)))))))))) (rG (om 35 8<|ob 36 .add 35 z1<|om 8 36 .done))))))) (.seq (sR (o1 126 (.ld (some 6) 7)<|oc 127 a2 [126]<|ob 128 .gtr 127 (kZ 48) .done) (.cond 128 (sR (o1 129 (.bld [(0,1),(1,2),(3,1),(4,1),(5,1)] [(vZ 0),(vZ 0),(vZ 0),(Ag []),nV,nV] [])<|o0 (.st 6 4 129)<|o1 5 (.mv (kZ 31)) .done) .ret) .skip)) (sR (o1 130 (.ld (some 6) 7)<|o0 (.st 6 4 130)<|o1 5 (.mv z0) .done) .ret)))))))⟩
set_option maxHeartbeats 4000000 in
def Xh{T:Ad→Prop}(hTm:∀{d d'},T d→Le d d'→T d'){P f f1 f2 f3}(hd:H6 P f=some (Hj f1 f2 f3))(h1:Ek T P f1)(h2:Hu T P f2)(h3:Hq P f3):KX T P f:=by
 intro d w1 w2 ks l ht hks hl hb hright;refine Cq hd (Aca Z) ?_;obtain⟨ka,kc,rfl⟩:=RSl.val hks;obtain⟨la,lc,rfl⟩:=RSl.val hl;have hks0:RSl 1 A9 d (.slice ka ks.length kc) ks:=hks;have hl0:RSl 6 Az d (.slice la l.length lc) l:=hl;show gwp P _ _ _ _ _;by_cases hlen:ks.length≠l.length
 ·have hk0:(ks.length:Int)≠l.length:=by omega
  rw[Dk,if_pos hlen];(refine Aj<|BV (fun _ _=>A1 Z<|AR Z<|AK Z<|AR Z<|AK Z<|AB Z Z<|AE Z<|Aj<|Bs ?_));rename_i b4 T4;refine Au 0 BJ Z Z Z Z (Aca Z) Z Z<|AM Z<|By 0 Z Z Z Az.zero
 have hlen:ks.length=l.length:=by omega
 have hk0:(ks.length:Int)=l.length:=by omega
 rw[Dk,if_neg (by omega)];(refine Aj<|BV (fun _ _=>A1 Z<|AR Z<|AK Z<|AR Z<|AK Z<|AB Z Z<|AJ Z<|Ap<|AL Z<|Am ?_));rename_i b4 T4;refine DJ (α:=Nat) (fun i=>[(0,.slice ka ks.length kc),(1,.slice la l.length lc),(4,pZ b4),(6,vZ i)]) (fun _=>[bx b4 T4 BJ])
  (fun i=>i≤ks.length∧(ks.take i).all u8=true) (fun i=>ks.length - i) 0 ⟨Z,Z,Z,Z,trivial⟩ Z ⟨Acu _,Z⟩ ?_
 rintro i ρ ⟨hi,hall⟩;by_cases hc:i<ks.length
 ·(refine Ap<|Ab Z<|AR Z<|AK Z<|As Z Z<|AE Z<|Ay<|Ax<|Am<|Es Z<|Ab Z<|A2 (sz:=1) (R:=A9) (by rfl) (by assumption) (by rfl) Z (by omega) ?_;rintro _ _ _ _ _ ⟨rfl,_⟩;apply Al;rfl;exact BQ (by assumption) Z);refine AG Z (h1 ht (by assumption)) ?_;cases hq:u8 ks[i] with
  |false=>
   have hno:ks.all u8=false:=by
    rw[←Aev,Acn];intro h;rw[h _ (Acq hc)] at hq;cases hq
   rw[if_pos hno]
   (refine Bu Z<|BK Z<|Aj<|Bs ?_)
   refine Au 0 BJ Z Z Z Z (Aca Z) Z Z ?_
   (refine AM Z ?_)
   exact By 0 Z Z Z Az.zero
  |true=>
   (refine Bu Z<|Bh Z<|Ar<|Ab Z<|AY Z Z<|AL Z ?_)
   exact⟨i+1,by omega,⟨Z,Z,Z,int_eq (by omega),trivial⟩,Z,Z,hc,by rw[Acx hc,List.all_append,hall];simp[hq]⟩
 obtain rfl:i=ks.length:=by omega
 rw[List.take_length] at hall;have hu:∀k∈ks,u8 k=true:=Acn.1 hall;rw[if_neg (by rw[hall];simp)];(refine Ap<|Ab Z<|AR Z<|AK Z<|As Z Z<|BM Z<|A6<|Aj<|Oz Z<|BV (fun _ _=>?_));rename_i b7 T7;refine DT d [bx b7 T7 BJ,bx b4 T4 BJ,emp] (Vs.emp.trans (Vs.pick [1,2,0] Z))<|Au 0 [vZ 6,vZ 0,vZ 0,Ag [],nV,nV] Z Z Z Z (Aca Z) Z Z<|Bw<|AL Z<|Am<|BP (α:=Nat) (fun i=>[(0,.slice ka ks.length kc),(1,.slice la l.length lc),(4,pZ b4),(7,pZ b7),(8,vZ i)])
  (fun i d' L'=>Le d d'∧i≤ks.length∧(∀j (h1:j<i) (h2:j<l.length),Bf l[j]=0)∧∃ra rc qa qc h,RSl 1 A9 d' (.slice qa (BO ks l i).1.length qc) (BO ks l i).1∧AQ 6 Az d' (.slice ra (BO ks l i).2.length rc) (BO ks l i).2 h∧
   L'=[bx b7 T7 [vZ 6,vZ 0,vZ 0,Ag [],.slice ra (BO ks l i).2.length rc,.slice qa (BO ks l i).1.length qc],bx b4 T4 BJ,h])
  (fun i=>ks.length - i) 0 ⟨Z,Z,Z,Z,Z,trivial⟩ ⟨Le.refl _,Acu _,fun j h=>absurd h (Nat.not_lt_zero j),none,0,none,0,emp,RSl.nil,AQ.nil,Z⟩ ?_
 rintro i ρ d1 L' ⟨hl1,hi,hrt,ra,rc,qa,qc,h,hok,hol,hL⟩;subst hL;have hks1:RSl 1 A9 d1 (.slice ka ks.length kc) ks:=B9.mono hks hl1;have hlv1:RSl 6 Az d1 (.slice la l.length lc) l:=Cw.mono hl hl1;have hml:=FA ks l i;obtain⟨oks,ol,hM⟩:∃oks ol,BO ks l i=(oks,ol):=⟨_,_,Z⟩
 rw[hM] at hok hol hml⊢;simp only at hok hol hml⊢;by_cases hc:i<ks.length
 ·have hcl:i<l.length:=by omega
  have hM1:BO ks l (i+1)=Dx (oks,ol) ks[i] l[i]:=by rw[BO,hM];simp[Aez,hc,hcl]
  have hlow:=Fi oks ks[i];(refine Ap<|Ab Z<|AR Z<|AK Z<|As Z Z<|AE Z<|Ay<|Ax<|Am<|Es Z<|Ab Z<|A2 (sz:=6) (R:=Az) (by rfl) (by assumption) (by rfl) Z (by omega) ?_;rintro _ _ _ _ _ _;apply CT;rfl;assumption;assumption);rename_i hcs hD hR;refine AG Z (h2 (hTm ht hl1) hR (hright _ (Acq hcl))) ?_;by_cases hr0:Bf l[i]≠0
  ·have hfw:=Rl hcl (fun j hj=>hrt j hj (by omega)) hr0;rw[if_pos (by rw[hfw];exact hr0),hfw];refine A1 Z<|Ab Z<|AB Z Z<|AE Z<|Aj<|Bs<|Ab Z<|Au 1 BJ Z Z Z Z (Aca Z) Z Z<|AM Z<|By 1 Z Z Z Az.zero
  have hr0:Bf l[i]=0:=by omega
  rw[hr0];(refine A1 Z<|Ab Z<|AB Z Z<|BM Z ?_);apply Ay;apply Ax;apply Ar;refine AL Z<|CJ (fun ρ d' L'=>d'=d1∧AZ ρ [(0,.slice ka ks.length kc),(1,.slice la l.length lc),(4,pZ b4),(7,pZ b7),(8,vZ i),(10,vZ (AT oks ks[i]:Nat))]∧L'=[bx b7 T7 [vZ 6,vZ 0,vZ 0,Ag [],.slice ra ol.length rc,.slice qa oks.length qc],bx b4 T4 BJ,h]) ?_ ?_
  ·apply Am;refine DJ (α:=Nat) (fun j=>[(0,.slice ka ks.length kc),(1,.slice la l.length lc),(4,pZ b4),(7,pZ b7),(8,vZ i),(10,vZ j)]) (fun _=>[bx b7 T7 [vZ 6,vZ 0,vZ 0,Ag [],.slice ra ol.length rc,.slice qa oks.length qc],bx b4 T4 BJ,h]) (fun j=>j≤AT oks ks[i]) (fun j=>oks.length - j) 0 ⟨Z,Z,Z,Z,Z,Z,trivial⟩ Z (Acu _) ?_;rintro j ρ hj;by_cases hjl:j<oks.length
   ·by_cases hjk:j<AT oks ks[i]
    ·have hbl:=R6 hjk hjl;(refine Ax<|Ax<|Bd<|Ab Z<|AI Z Z Z<|AK Z<|As Z Z<|Ac Z<|AA Z<|Aa Z<|Ae Z<|Aa Z<|c_l Z Z Z<|Aa Z<|Ab Z<|Aa Z<|A2 (sz:=1) (R:=A9) (by rfl) (by assumption) (by rfl) Z (by omega) ?_;rintro _ _ _ _ _ ⟨rfl,_⟩;refine Aa Z<|Al Z (BQ (by assumption) Z)<|Aa Z<|AR Z<|Aa Z<|Ab Z<|Aa Z<|A2 (sz:=1) (R:=A9) (by rfl) (by assumption) (by rfl) Z (by omega) ?_;rintro _ _ _ _ _ ⟨rfl,_⟩;refine Aa Z<|Al Z (BQ (by assumption) Z)<|Aa Z<|Ot Z Z<|Ah Z Z<|AV ?_;apply I0;rfl;(with_reducible assumption);refine Ay<|Am<|Ar<|Ab Z<|AY Z Z<|AL Z ?_);exact⟨j+1,by omega,⟨Z,Z,Z,Z,Z,int_eq (by omega),trivial⟩,Z,Z,hjk⟩
    ·obtain rfl:j=AT oks ks[i]:=by omega
     have hbl:=N0 hjl;(refine Ax<|Ax<|Bd<|Ab Z<|AI Z Z Z<|AK Z<|As Z Z<|Ac Z<|AA Z<|Aa Z<|Ae Z<|Aa Z<|c_l Z Z Z<|Aa Z<|Ab Z<|Aa Z<|A2 (sz:=1) (R:=A9) (by rfl) (by assumption) (by rfl) Z (by omega) ?_;rintro _ _ _ _ _ ⟨rfl,_⟩;refine Aa Z<|Al Z (BQ (by assumption) Z)<|Aa Z<|AR Z<|Aa Z<|Ab Z<|Aa Z<|A2 (sz:=1) (R:=A9) (by rfl) (by assumption) (by rfl) Z (by omega) ?_;rintro _ _ _ _ _ ⟨rfl,_⟩;refine Aa Z<|Al Z (BQ (by assumption) Z)<|Aa Z<|Ot Z Z<|Ah Z Z<|AV ?_;apply EM;rfl;(with_reducible assumption);apply A6);exact⟨Z,⟨Z,Z,Z,Z,Z,Z,trivial⟩,Z⟩
   ·obtain rfl:j=AT oks ks[i]:=by omega
    (refine Ax<|Ax<|Bd<|Ab Z<|AI Z Z Z<|AK Z<|As Z Z<|Ac Z<|Aw Z<|Aq Z Z<|Aq Z Z<|Aq Z Z<|Aq Z Z<|Aq Z Z<|Af Z Z<|AV<|A7 Z<|A6 ?_);exact⟨Z,⟨Z,Z,Z,Z,Z,Z,trivial⟩,Z⟩
  rintro ρ d2 L' ⟨hdd,hsl,hL⟩;subst hdd;subst hL;refine A4 _ hsl ?_;clear hsl;refine CJ (fun ρ d3 L'=>Le d2 d3∧AZ ρ [(0,.slice ka ks.length kc),(1,.slice la l.length lc),(4,pZ b4),(7,pZ b7),(8,vZ i),(10,vZ (AT oks ks[i]:Nat))]∧∃ra rc qa qc h ol',RSl 1 A9 d3 (.slice qa (Dx (oks,ol) ks[i] l[i]).1.length qc) (Dx (oks,ol) ks[i] l[i]).1∧
   AQ 6 Az d3 (.slice ra ol'.length rc) ol' h∧AT oks ks[i]<ol'.length∧ol'.set (AT oks ks[i]) l[i]=(Dx (oks,ol) ks[i] l[i]).2∧
   L'=[bx b7 T7 [vZ 6,vZ 0,vZ 0,Ag [],.slice ra ol'.length rc,.slice qa (Dx (oks,ol) ks[i] l[i]).1.length qc],bx b4 T4 BJ,h]) ?_ ?_
  ·refine CJ (fun ρ d' L'=>d'=d2∧AZ ρ [(0,.slice ka ks.length kc),(1,.slice la l.length lc),(4,pZ b4),(7,pZ b7),(8,vZ i),(10,vZ (AT oks ks[i]:Nat)),(81,.bool (!decide (oks[AT oks ks[i]]?=some ks[i])))]∧L'=[bx b7 T7 [vZ 6,vZ 0,vZ 0,Ag [],.slice ra ol.length rc,.slice qa oks.length qc],bx b4 T4 BJ,h]) ?_ ?_
   ·by_cases hjl:AT oks ks[i]<oks.length
    ·by_cases he:oks[AT oks ks[i]]=ks[i]
     ·have e81:(!decide (oks[AT oks ks[i]]?=some ks[i]))=false:=by simp[hjl,he]
      rw[e81];(refine Bd<|Ab Z<|AI Z Z Z<|AK Z<|Ai Z Z<|Ac Z<|Aw Z<|Aa Z<|Ae Z<|Aa Z<|c_l Z Z Z<|Aa Z<|Ab Z<|Aa Z<|A2 (sz:=1) (R:=A9) (by rfl) (by assumption) (by rfl) Z (by omega) ?_;rintro _ _ _ _ _ ⟨rfl,_⟩;refine Aa Z<|Al Z (BQ (by assumption) Z)<|Aa Z<|AR Z<|Aa Z<|Ab Z<|Aa Z<|A2 (sz:=1) (R:=A9) (by rfl) (by assumption) (by rfl) Z (by omega) ?_;rintro _ _ _ _ _ ⟨rfl,_⟩;refine Aa Z<|Al Z (BQ (by assumption) Z)<|Aa Z<|Ee Z Z<|Af Z Z<|AV ?_);exact⟨Z,⟨Z,Z,Z,Z,Z,Z,by simp[upd,Hc,he],trivial⟩,Z⟩
     ·have e81:(!decide (oks[AT oks ks[i]]?=some ks[i]))=true:=by simp[hjl,he]
      rw[e81];(refine Bd<|Ab Z<|AI Z Z Z<|AK Z<|Ai Z Z<|Ac Z<|Aw Z<|Aa Z<|Ae Z<|Aa Z<|c_l Z Z Z<|Aa Z<|Ab Z<|Aa Z<|A2 (sz:=1) (R:=A9) (by rfl) (by assumption) (by rfl) Z (by omega) ?_;rintro _ _ _ _ _ ⟨rfl,_⟩;refine Aa Z<|Al Z (BQ (by assumption) Z)<|Aa Z<|AR Z<|Aa Z<|Ab Z<|Aa Z<|A2 (sz:=1) (R:=A9) (by rfl) (by assumption) (by rfl) Z (by omega) ?_;rintro _ _ _ _ _ ⟨rfl,_⟩;refine Aa Z<|Al Z (BQ (by assumption) Z)<|Aa Z<|Ee Z Z<|Af Z Z<|AV ?_);exact⟨Z,⟨Z,Z,Z,Z,Z,Z,by simp[upd,Hc,he],trivial⟩,Z⟩
    ·have e81:(!decide (oks[AT oks ks[i]]?=some ks[i]))=true:=by simp[Acz (show oks.length≤AT oks ks[i] by omega)]
     rw[e81];(refine Bd<|Ab Z<|AI Z Z Z<|AK Z<|Ai Z Z<|Ac Z<|AA Z<|Aq Z Z<|Aq Z Z<|Aq Z Z<|Aq Z Z<|Aq Z Z<|Ah Z Z<|AV ?_);exact⟨Z,⟨Z,Z,Z,Z,Z,Z,Z,trivial⟩,Z⟩
   rintro ρ d3 L' ⟨hdd,hsl,hL⟩;subst hdd;subst hL;refine A4 _ hsl ?_;clear hsl;by_cases hp:oks[AT oks ks[i]]?=some ks[i]
   ·have hI:Dx (oks,ol) ks[i] l[i]=(oks,ol.set (AT oks ks[i]) l[i]):=by simp only[Dx];rw[if_pos hp]
    rw[hI];have hlt:AT oks ks[i]<oks.length:=by
     rcases Nat.lt_or_ge (AT oks ks[i]) oks.length with q|q
     ·exact q
     ·rw[Acz q] at hp;cases hp
    have e81:(!decide (oks[AT oks ks[i]]?=some ks[i]))=false:=by simp[hp]
    rw[e81];(refine A7 Z<|Ay ?_);exact⟨Le.refl _,⟨Z,Z,Z,Z,Z,Z,trivial⟩,ra,rc,qa,qc,h,ol,hok,hol,by omega,Z,Z⟩
   ·have hI:Dx (oks,ol) ks[i] l[i]=(oks.take (AT oks ks[i])++[ks[i]]++oks.drop (AT oks ks[i]),(ol.take (AT oks ks[i])++[l[i]]++ol.drop (AT oks ks[i])).set (AT oks ks[i]) l[i]):=by simp only[Dx];rw[if_neg hp]
    rw[hI];have e81:(!decide (oks[AT oks ks[i]]?=some ks[i]))=true:=by simp[hp]
    rw[e81];generalize hpp:AT oks ks[i]=p at*;(refine Ci Z<|Ax ?_);have hl4:Le d3 (join d3 h):=Le.B8 _ _;have hol4:RSl 6 Az (join d3 h) (.slice ra ol.length rc) ol:=hol.rsl (R:=Az) Cn (by omega) (Le.B8 _ _) (Le.CM _ _);refine IH (d1:=join d3 h) [bx b7 T7 [vZ 6,vZ 0,vZ 0,Ag [],.slice ra ol.length rc,.slice qa oks.length qc],bx b4 T4 BJ] [] ((Vs.pick [2,0,1] Z).trans Vs.freeze) ?_;generalize join d3 h=d4 at*;have hks4:RSl 1 A9 d4 (.slice ka ks.length kc) ks:=B9.mono hks1 hl4;have hok4:RSl 1 A9 d4 (.slice qa oks.length qc) oks:=B9.mono hok hl4;have hlv4:RSl 6 Az d4 (.slice la l.length lc) l:=Cw.mono hlv1 hl4;refine AI Z Z Z<|Ab Z<|F8 (n:=p) Z hok4 Z Z hlow (fun v86 r86=>?_);(refine AR Z<|Ab Z<|A2 (sz:=1) (R:=A9) (by rfl) (by assumption) (by rfl) Z (by omega) ?_;rintro _ _ _ _ _ ⟨rfl,_⟩;refine Al Z (BQ (by assumption) Z)<|AI Z Z Z<|Ab Z ?_);have hkl:ks[i].length≤140737488355328:=by assumption
    refine DN (n:=p) Z hok4 Z Z hlow (fun v97 r97=>?_);refine FY (α:=Nat×TypeId) (β:=Value×Ad) [(0,.slice ka ks.length kc),(1,.slice la l.length lc),(4,pZ b4),(7,pZ b7),(8,vZ i),(10,vZ p),(97,v97)]
     (fun x=>[(92,.slice (some ⟨x.1,0,none⟩) 1 1)]) (fun x d L=>L=[bx x.1 x.2 [Ag ks[i]]])
     (fun y=>[(87,y.1)]) (fun y d L=>AQ 1 A9 d y.1 (oks.take p) y.2∧L=[y.2]) [] [] Z
     (fun x d d' M hl h=>h) (fun y d d' M hl h=>⟨AQ.mono (R:=A9) CL h.1 hl,h.2⟩) (fun x=>Z) (fun y=>Z) Z ⟨Z,Z,Z,Z,Z,Z,Z,trivial⟩ ?_ ?_ ?_
    ·refine Ff (v0:=Ag ks[i]) Z Z (fun b92 T92=>?_);refine AV ?_;exact⟨_,Z,(b92,T92),⟨Z,trivial⟩,Z⟩
    ·refine JZ (R:=A9) (xs:=oks.take p) CL Dt (by omega) r86 (fun _=>Z) (by simp;omega) (by simp;omega) (fun v0 v1 g1 o1=>?_);refine AV ?_;exact⟨_,Z,(v1,g1),⟨Z,trivial⟩,o1,Z⟩
    rintro⟨b92,T92⟩ ⟨v87,g87⟩ ρ d5 M1 M2 hl5 hM1 ⟨o87,hM2⟩;subst hM1;subst hM2;refine Ei (R:=A9) 0 Z Z o87 Z (AQ.G8 (R:=A9) Z ⟨Z,hkl⟩) Dt (by omega) (by simp;omega) (by simp;omega) (fun v93 g93 o93=>?_);refine Pu (R:=A9) (xs:=oks.take p++[ks[i]]) (ys:=oks.drop p) CL Z o93 Z (RSl.src (R:=A9) (B9.mono r97 hl5) Dt (by omega) _) (by omega) (by simp;omega) (by simp;omega) (fun a98 c98 d6 hl6 r98=>?_);refine Ae Z<|B0<|Au 0 [vZ 6,vZ 0,vZ 0,Ag [],.slice ra ol.length rc,.slice a98 (oks.take p++[ks[i]]++oks.drop p).length c98] Z Z Z Z (Aca Z) Z Z ?_;have hl46:=hl5.trans hl6;have hol6:RSl 6 Az d6 (.slice ra ol.length rc) ol:=Cw.mono hol4 hl46;have hlv6:RSl 6 Az d6 (.slice la l.length lc) l:=Cw.mono hlv4 hl46;clear hks1 hlv1 hks4 hok4 hlv4 hol4 hks0 hl0 hok;(apply Av);refine Bd<|AI Z Z Z<|Ab Z<|F8 (n:=p) Z hol6 Z Z (by omega) (fun v104 r104=>?_);(refine AR Z<|Ab Z<|A2 (sz:=6) (R:=Az) (by rfl) (by assumption) (by rfl) Z (by omega) ?_;rintro _ _ _ _ _ _;refine CT Z (by assumption) (by assumption)<|AI Z Z Z<|Ab Z ?_);rename_i cs9 hcs9 hD9 hR9;refine DN (n:=p) Z hol6 Z Z (by omega) (fun v115 r115=>?_);refine FY (α:=Nat×TypeId) (β:=Value×Ad) [(0,.slice ka ks.length kc),(1,.slice la l.length lc),(4,pZ b4),(7,pZ b7),(8,vZ i),(10,vZ p),(115,v115)]
     (fun x=>[(110,.slice (some ⟨x.1,0,none⟩) 1 1)]) (fun x d L=>L=[bx x.1 x.2 cs9])
     (fun y=>[(105,y.1)]) (fun y d L=>AQ 6 Az d y.1 (ol.take p) y.2∧L=[y.2]) [] [] Z
     (fun x d d' M hl h=>h) (fun y d d' M hl h=>⟨AQ.mono (R:=Az) Cn h.1 hl,h.2⟩) (fun x=>Z) (fun y=>Z) Z ⟨Z,Z,Z,Z,Z,Z,Z,trivial⟩ ?_ ?_ ?_
    ·refine FC Z hcs9 (fun b92 T92=>?_);refine AV ?_;exact⟨_,Z,(b92,T92),⟨Z,trivial⟩,Z⟩
    ·refine JZ (R:=Az) (xs:=ol.take p) Cn AW (by omega) r104 (fun _=>Z) (by simp;omega) (by simp;omega) (fun v0 v1 g1 o1=>?_);refine AV ?_;exact⟨_,Z,(v1,g1),⟨Z,trivial⟩,o1,Z⟩
    rintro⟨b110,T110⟩ ⟨v105,g105⟩ ρ d7 M1 M2 hl7 hM1 ⟨o105,hM2⟩;subst hM1;subst hM2;refine Ei (R:=Az) 0 Z Z o105 Z (AQ.G8 (R:=Az) hcs9 (Az.mono hl7 hR9)) AW (by omega) (by simp;omega) (by simp;omega) (fun v111 g111 o111=>?_);refine Dc (R:=Az) (xs:=ol.take p++[l[i]]) (ys:=ol.drop p) 0 Z Z o111 Z (RSl.src (R:=Az) (Cw.mono r115 hl7) AW (by omega) _) (by omega) (by simp;omega) (by simp;omega) (fun v116 g116 o116=>?_);obtain⟨a116,c116,rfl⟩:=o116.val;refine Ae Z<|B0<|Au 0 [vZ 6,vZ 0,vZ 0,Ag [],.slice a116 (ol.take p++[l[i]]++ol.drop p).length c116,.slice a98 (oks.take p++[ks[i]]++oks.drop p).length c98] Z Z Z Z (Aca Z) Z Z ?_;(apply Av);exact⟨(hl4.trans hl46).trans hl7,⟨Z,Z,Z,Z,Z,Z,trivial⟩,a116,c116,a98,c98,g116,_,B9.mono r98 hl7,o116,by simp;omega,Z,Z⟩
  rintro ρ d3 L' ⟨hl3,hsl,ra',rc',qa',qc',h',ol',hok',hol',hplt,hset,hL⟩;subst hL;refine A4 _ hsl ?_;clear hsl;obtain⟨b9,T9,l9,c9,hv9,rfl,hlen9,hw9⟩:=hol'.Mv (by omega) hplt;cases hv9;have hks3:RSl 1 A9 d3 (.slice ka ks.length kc) ks:=B9.mono hks1 hl3;have hlv3:RSl 6 Az d3 (.slice la l.length lc) l:=Cw.mono hlv1 hl3;refine Bd ?_;(refine AI Z Z Z<|Ab Z<|AR Z<|Ab Z<|A2 (sz:=6) (R:=Az) (by rfl) (by assumption) (by rfl) Z (by omega) ?_;rintro _ _ _ _ _ _;apply CT;rfl;assumption;assumption);rename_i cs9 hcs9 hD9 hR9;refine Kr (AT oks ks[i]) Z Z Z hplt (SAd.some _ b9 0) ?_;(apply B0);refine Au 2 (patch l9 (AT oks ks[i]*6) cs9) Z Z Z hcs9 (by omega) (AW _ _ _ hR9) (by rw[Adw];rfl)<|Av<|Ar<|Ab Z<|AY Z Z<|AL Z ?_;refine⟨i+1,by omega,⟨Z,Z,Z,Z,int_eq (by omega),trivial⟩,hl1.trans hl3,hc,fun j h1 h2=>if e:j=i then(by subst e;exact hr0) else hrt j (by omega) h2,?_⟩
  rw[hM1,←hset,Afm];exact⟨some ⟨b9,0,none⟩,_,qa',qc',_,hok',hw9 cs9 l[i] hcs9 hR9,Z⟩
 ·obtain rfl:i=ks.length:=by omega
  have hrt':∀x∈l,Bf x=0:=fun x hx=>by
   obtain⟨j,hj,rfl⟩:=List.getElem_of_mem hx;exact hrt j (by omega) hj
  have hmd:=NP hu hlen hrt';rw[if_neg (by rw[Iq.2 hrt'];simp)];have hmv:FE ks l=.mk 6 0 0 [] ol oks:=by rw[FE,hM]
  rw[hmv] at hmd⊢;refine Ap<|Ab Z<|AR Z<|AK Z<|As Z Z<|BM Z<|A6<|Ap<|AP 0 Z Z Z<|DT (join d1 h) [bx b7 T7 [vZ 6,vZ 0,vZ 0,Ag [],.slice ra ol.length rc,.slice qa oks.length qc],bx b4 T4 BJ] ((Vs.pick [2,0,1] Z).trans Vs.freeze) ?_;have hR:Az (join d1 h) [vZ 6,vZ 0,vZ 0,Ag [],.slice ra ol.length rc,.slice qa oks.length qc] (.mk 6 0 0 [] ol oks):=
   Az.close (v:=.mk 6 0 0 [] ol oks) HM BY BY (by simp) (hol.rsl (R:=Az) Cn (by omega) (Le.B8 _ _) (Le.CM _ _)) (B9.mono hok (Le.B8 _ _))
  refine AG Z (h3 _ hR (by omega)) ?_;by_cases hdp:48<Bj (.mk 6 0 0 [] ol oks)
  ·rw[if_pos hdp];refine AS Z Z<|AE Z<|Aj<|Bs<|Au 1 BJ Z Z Z Z (Aca Z) Z Z<|AM Z<|By 1 Z Z Z Az.zero
  ·rw[if_neg hdp];refine AS Z Z<|AJ Z<|Aj<|AP 0 Z Z Z<|Au 1 [vZ 6,vZ 0,vZ 0,Ag [],.slice ra ol.length rc,.slice qa oks.length qc] Z Z Z Z (Aca Z) (AW _ _ _ hR) Z<|AM Z<|By 1 Z Z Z hR
end Go.Gk.Val
end
section
namespace Go.Gk.Jsn
open Go Go.Gk Go.Gk.Val
attribute [local irreducible] gwp gws
variable{d:Ad}{t:Tk}
def Aao{P}{Q:CZ}{ρ L}{a b c e f r:CO}(M:Env→A0)(h1:gwp P (.seq a (.seq b (.seq c (.seq e f)))) {Q with n:=M} ρ d L)(h2:∀ρ d L,M ρ d L→gwp P r Q ρ d L):gwp P (.seq a (.seq b (.seq c (.seq e (.seq f r))))) Q ρ d L:=by
 simp only[gwp] at h1⊢;exact EP (Q:=Q) (fun _ _ _ h=>EP (Q:=Q) (fun _ _ _ h=>EP (Q:=Q) (fun _ _ _ h=>EP (Q:=Q) (fun _ _ _ h=>EP (Q:=Q) h2 h) h) h) h) h1
def Aaf{P}{Q:CZ}{ρ L}{a b r:CO}(M:Env→A0)(h1:gwp P (.seq a b) {Q with n:=M} ρ d L)(h2:∀ρ d L,M ρ d L→gwp P r Q ρ d L):gwp P (.seq a (.seq b r)) Q ρ d L:=by
 simp only[gwp] at h1⊢;exact EP (Q:=Q) (fun _ _ _ h=>EP (Q:=Q) h2 h) h1
def U6{b o:Nat}(h:DCs d b o (CB t)):DCs d b (o+1) (Ft t.v):=by
 obtain⟨c,T,fr,h1,h2⟩:=h;refine⟨c,T,fr,h1,fun i u hu=>?_⟩
 have e:(CB t)[i+1]?=some u:=by
  match i,hu with
  |0,hu=>exact hu
  |1,hu=>exact hu
  |2,hu=>exact hu
  |3,hu=>exact hu
  |4,hu=>exact hu
  |5,hu=>exact hu
  |n+6,hu=>simp[Ft] at hu
 have:=h2 (i+1) u e;rwa [show o+(i+1)=o+1+i by omega] at this
def GU(x:RV):V:=match x with|.ok y=>y.1|.error _=>V.zero
def LK(x:RV):Int:=match x with|.ok _=>0|.error e=>e
def Yg(P:Program)(f:FuncId):Prop:=∀{d}{q:Nat}{Tq tv}{i:Nat}{er wh k:Int},er≠0→
 Be P f [pZ q,vZ k] d [bx q Tq (rdC tv i er wh)] (Ret fun r d' L'=>d'=d∧r=.agg z6.toArray∧L'=[bx q Tq (rdC tv i er wh)])
def UU(T:Ad→Prop)(P:Program)(f:FuncId)(F:Nat):Prop:=∀{k:Nat}{ts:List Tk}{x:RV},DH F k ts=some x→∀{d}{q:Nat}{Tq tv}{full:List Tk}{i:Nat}{wh:Int},T d→RSl 9 Df d tv full→full.length≤100000→full.drop i=ts→wfT ts→(∀t∈ts,OkT t)→wts ts≤900000→k≤48→
 Be P f [pZ q,vZ (k:Int)] d [bx q Tq (rdC tv i 0 wh)] (Ret fun r d' L'=>∃cs i' wh',r=.agg cs.toArray∧L'=[bx q Tq (rdC tv i' (LK x) wh')]∧Az d' cs (GU x)∧∀y,x=.ok y→full.drop i'=y.2)
def HB{full:List Tk}{i:Nat}{r:List Tk}(h:full.drop i=t::r):∃hi:i<full.length,full[i]=t∧full.drop (i+1)=r:=by
 have hi:i<full.length:=by
  have:=congrArg Afp h;rw[Acl,Acg] at this;omega
 rw[List.drop_eq_getElem_cons hi] at h;exact⟨hi,(List.cons.inj h).1,(List.cons.inj h).2⟩
def Hx{c:Nat}(h1:c≠1)(h2:c≠255):isT t c=decide (t.e=0∧t.sign=c):=by
 unfold isT rsg;by_cases e:t.e=0
 ·by_cases k:t.sign=255
  ·rw[if_pos k,decide_eq_false (show¬((1:Nat):Int)=(c:Int) by omega),Bool.and_false,decide_eq_false (by omega)]
  ·rw[if_neg k,decide_eq_true e,Afi];exact decide_eq_decide.2 ⟨fun h=>⟨e,by omega⟩,fun h=>by omega⟩
 ·rw[decide_eq_false e,Bool.false_and,decide_eq_false (fun h=>e h.1)]
structure LSt where
 n:Nat
 fl:Nat
 i:Nat
 er:Int
 wh:Int
 kv:Value
 lv:Value
 ks:List (List UInt8)
 l:List V
 hk:Ad
 hl:Ad
def AbB(full:List Tk)(k:Nat)(nm:Bool)(F:Nat)(res:RV)(x:LSt):Prop:=
 (x.er=0∧x.fl<F∧CA x.fl k nm (decide (x.n=0)) x.ks x.l (full.drop x.i)=some res∧wfT (full.drop x.i)∧(∀t∈full.drop x.i,OkT t)∧x.ks.length+BH x.l+wts (full.drop x.i)≤900000∧Fz k x.l∧x.l.length=x.n)∨
 (x.er≠0∧res=.error x.er∧x.ks.length≤900000∧x.l.length≤900001∧x.n≤900001)
def AbD(full:List Tk)(nm:Bool)(res:RV)(i:Nat)(er:Int)(ks:List (List UInt8))(l:List V):Prop:=
 (er=0∧∃t r,full.drop i=t::r∧t.e=0∧t.sign=Dl nm∧res=.ok (Fx nm ks l,r)∧ks.length+BH l≤900000)∨(er≠0∧res=.error er)
abbrev Abc(q:Nat)(Tq:TypeId)(b4:Nat)(T4:TypeId)(tv:Value)(full:List Tk)(k:Nat)(nm:Bool)(x:RV)(d2:Ad):Env→A0:=fun ρ d3 L'=>∃i2 er2 wh2 kv lv ks l hk hl J,
 AZ ρ [(0,pZ q),(1,vZ (k:Int)),(4,pZ b4),(5,.bool (!nm)),(6,.bool nm),(7,.int .u8 (Dl nm:Nat)),(8,kv),(9,lv)]∧Le d2 d3∧AQ 1 A9 d3 kv ks hk∧AQ 6 Az d3 lv l hl∧AbD full nm x i2 er2 ks l∧L'=bx q Tq (rdC tv i2 er2 wh2)::bx b4 T4 z6::hk::hl::J
def Ob{ρ L}{M:Env→A0}(h:M ρ d L):(if 0=1 then fun _ _ _=>True else if 0=0 then M else fun _ _ _=>True) ρ d L:=by rw[if_neg (by decide),if_pos Z];exact h
def OH(P:Program)(f:FuncId):Prop:=∀{d}{q:Nat}{Tq tv}{i:Nat}{er wh c:Int},er≠0→
 Be P f [pZ q,.int .u8 c] d [bx q Tq (rdC tv i er wh)] (Ret fun r d' L'=>d'=d∧L'=[bx q Tq (rdC tv i er wh)])
def V2{P f f1 f2}(hd:dec P f=some (FN f1 f2)):OH P f:=by
 intro d q Tq tv i er wh c he;refine EK hd<|Ap<|Bp Z<|A3 Z<|AI Z Z Z<|AB Z Z<|AE Z<|En<|Ba [] trivial (Acy _) ⟨Z,Z⟩
def Fl(a0 a1 a2 a3 a4:Nat):Bo:=⟨227,[(.cell 4 (some 6))],(sR (o1 4 (.alo (.agg #[(vZ 0),(vZ 0),(vZ 0),(Ag []),nV,nV])) .done) (.seq (sR (om 13 0<|o1 14 (.nilc 13)<|oj 15 2 14<|ol 16 15<|ob 17 .neq 16 z0 .done) (.cond 17 (sR (o1 18 (.bld [(0,1),(1,2),(3,1),(4,1),(5,1)] [(vZ 0),(vZ 0),(vZ 0),(Ag []),nV,nV] [])<|o0 (.st 6 4 18) .done) .ret) .skip)) (sR (om 19 0<|oc 20 a0 [19,(.const (.int .u8 91))]<|om 5 20 .done) (sR (om 21 0<|oc 22 a0 [21,(.const (.int .u8 123))]<|om 6 22 .done) (.seq (.seq (.reg true (pm 23 0<|p1 24 (.nilc 23)<|p1 25 (.fld 0 24)<|pl 26 25<|pm 27 0<|p1 28 (.nilc 27)<|p1 29 (.fld 1 28)<|pl 30 29<|p1 31 (.idx 9 26 30)<|p1 32 (.fld 8 31)<|pl 33 32<|p1 34 (.bin .neq 33 z0)<|pm 35 34 (.op true ⟨(some 36),(some (35,false)),(.mv 0)⟩ (.op true ⟨(some 37),(some (35,false)),(.nilc 36)⟩ (.op true ⟨(some 38),(some (35,false)),(.fld 0 37)⟩ (.op true ⟨(some 39),(some (35,false)),(.ld none 38)⟩ (.op true ⟨(some 40),(some (35,false)),(.mv 0)⟩ (.op true ⟨(some 41),(some (35,false)),(.nilc 40)⟩ (.op true ⟨(some 42),(some (35,false)),(.fld 1 41)⟩ (.op true ⟨(some 43),(some (35,false)),(.ld none 42)⟩ (.op true ⟨(some 44),(some (35,false)),(.idx 9 39 43)⟩ (.op true ⟨(some 45),(some (35,false)),(.fld 0 44)⟩ (.op true ⟨(some 46),(some (35,false)),(.ld none 45)⟩ (.op true ⟨(some 47),(some (35,false)),(.bin .neq 46 (.const (.int .u8 0)))⟩ (.op true ⟨(some 48),(some (35,false)),(.mv 47)⟩ (.op true ⟨(some 49),(some (48,true)),(.mv 5)⟩ (.op true ⟨(some 50),(some (48,true)),(.un .not 49)⟩ (.op true ⟨(some 51),(some (35,false)),(.pick 48 50 (.const (.bool false)))⟩ (.op true ⟨(some 52),(some (35,false)),(.mv 51)⟩ (.op true ⟨(some 53),(some (52,true)),(.mv 6)⟩ (.op true ⟨(some 54),(some (52,true)),(.un .not 53)⟩ (.op true ⟨(some 55),(some (35,false)),(.pick 52 54 (.const (.bool false)))⟩ (p1 56 (.pick 35 (.const (.bool true)) 55) .done))))))))))))))))))))))) (.cond 56 (sR (om 57 0<|oc 58 a1 [57,(kZ 60)] .done) (sR (o1 59 (.bld [(0,1),(1,2),(3,1),(4,1),(5,1)] [(vZ 0),(vZ 0),(vZ 0),(Ag []),nV,nV] [])<|o0 (.st 6 4 59) .done) .ret)) .skip)) (.seq (sR (om 60 1<|ob 61 .eql 60 (kZ 48) .done) (.cond 61 (sR (om 62 0<|oc 63 a1 [62,(kZ 31)] .done) (sR (o1 64 (.bld [(0,1),(1,2),(3,1),(4,1),(5,1)] [(vZ 0),(vZ 0),(vZ 0),(Ag []),nV,nV] [])<|o0 (.st 6 4 64) .done) .ret)) .skip)) (.seq (sR (om 65 5<|o1 66 (.un .not 65)<|om 67 66<|gT 68 67 6<|oT 69 67 (.un .not 68)<|gP 70 67 69 .done) (.cond 70 (sR (om 71 0<|o1 72 (.nilc 71)<|oj 73 1 72<|ol 74 73<|ob 75 .add 74 z1<|o1 76 (.nilc 71)<|oj 77 1 76<|o0 (.st 1 77 75) .done) (.seq (.reg true (pm 78 0<|p1 79 (.nilc 78)<|p1 80 (.fld 0 79)<|pl 81 80<|pm 82 0<|p1 83 (.nilc 82)<|p1 84 (.fld 1 83)<|pl 85 84<|p1 86 (.bin .sub 85 z1)<|p1 87 (.idx 9 81 86)<|p1 88 (.fld 1 87)<|p1 89 (.ld (some 6) 88) (.bar (o0 (.st 6 4 89) .done)))) .ret)) .skip)) (sR (o1 7 (.mv (.const (.int .u8 93))) .done) (.seq (sR (om 90 6 .done) (.cond 90 (rG (o1 7 (.mv (.const (.int .u8 125))) .done)) .skip)) (sR (om 91 0<|o1 92 (.nilc 91)<|oj 93 1 92<|ol 94 93<|ob 95 .add 94 z1<|o1 96 (.nilc 91)<|oj 97 1 96<|o0 (.st 1 97 95) .done) (sR (o1 8 (.mv nS) .done) (sR (o1 9 (.mv nS) .done) (.seq (sR (o1 10 (.mv z0) .done) (.block 0 (.loop (.seq (sR (om 98 0<|o1 99 (.nilc 98)<|oj 100 2 99<|ol 101 100<|ob 102 .eql 101 z0<|om 103 102<|gT 104 103 10<|oT 105 103 (.bin .eql 104 z0)<|gT 106 103 105<|gT 107 106 0<|gT 108 106 7<|oT 109 106 (.call a0 [107,108])<|oT 110 103 (.pick 106 109 (.const (.bool false)))<|oT 111 103 (.un .not 110)<|gP 112 103 111 .done) (.cond 112 .skip (.exit 0))) (.seq (.block 1 (.seq (sR (om 115 10<|ob 116 .gtr 115 z0<|om 117 116<|gT 118 117 0<|gT 119 117 7<|oT 120 117 (.call a0 [118,119])<|gP 121 117 120 .done) (.cond 121 (.exit 0) .skip)) (.seq (sR (om 122 10<|ob 123 .gtr 122 z0 .done) (.cond 123 (rG (om 124 0<|oc 125 a2 [124,(.const (.int .u8 44))] .done)) .skip)) (.seq (sR (om 126 6<|om 127 126<|gT 128 127 0<|oT 129 127 (.nilc 128)<|oT 130 127 (.fld 2 129)<|oT 131 127 (.ld none 130)<|oT 132 127 (.bin .eql 131 z0)<|gP 133 127 132 .done) (.cond 133 (.seq (.seq (.reg true (pm 134 0<|p1 135 (.nilc 134)<|p1 136 (.fld 0 135)<|pl 137 136<|pm 138 0<|p1 139 (.nilc 138)<|p1 140 (.fld 1 139)<|pl 141 140<|p1 142 (.idx 9 137 141)<|p1 143 (.fld 0 142)<|pl 144 143<|p1 145 (.bin .neq 144 (.const (.int .u8 0)))<|pm 146 145 (.op true ⟨(some 147),(some (146,false)),(.mv 0)⟩ (.op true ⟨(some 148),(some (146,false)),(.nilc 147)⟩ (.op true ⟨(some 149),(some (146,false)),(.fld 0 148)⟩ (.op true ⟨(some 150),(some (146,false)),(.ld none 149)⟩ (.op true ⟨(some 151),(some (146,false)),(.mv 0)⟩ (.op true ⟨(some 152),(some (146,false)),(.nilc 151)⟩ (.op true ⟨(some 153),(some (146,false)),(.fld 1 152)⟩ (.op true ⟨(some 154),(some (146,false)),(.ld none 153)⟩ (.op true ⟨(some 155),(some (146,false)),(.idx 9 150 154)⟩ (.op true ⟨(some 156),(some (146,false)),(.fld 8 155)⟩ (.op true ⟨(some 157),(some (146,false)),(.ld none 156)⟩ (.op true ⟨(some 158),(some (146,false)),(.bin .neq 157 z0)⟩ (p1 159 (.pick 146 (.const (.bool true)) 158) (pm 160 159 (.op true ⟨(some 161),(some (160,false)),(.mv 0)⟩ (.op true ⟨(some 162),(some (160,false)),(.nilc 161)⟩ (.op true ⟨(some 163),(some (160,false)),(.fld 0 162)⟩ (.op true ⟨(some 164),(some (160,false)),(.ld none 163)⟩ (.op true ⟨(some 165),(some (160,false)),(.mv 0)⟩ (.op true ⟨(some 166),(some (160,false)),(.nilc 165)⟩ (.op true ⟨(some 167),(some (160,false)),(.fld 1 166)⟩ (.op true ⟨(some 168),(some (160,false)),(.ld none 167)⟩ (.op true ⟨(some 169),(some (160,false)),(.idx 9 164 168)⟩ (.op true ⟨(some 170),(some (160,false)),(.fld 1 169)⟩ (.op true ⟨(some 171),(some (160,false)),(.fld 0 170)⟩ (.op true ⟨(some 172),(some (160,false)),(.ld none 171)⟩ (.op true ⟨(some 173),(some (160,false)),(.bin .neq 172 (kZ 4))⟩ (p1 174 (.pick 160 (.const (.bool true)) 173) .done)))))))))))))))))))))))))))))) (.cond 174 (sR (om 175 0<|oc 176 a1 [175,(kZ 60)] .done) (.exit 0)) .skip)) (.seq (.reg true (pm 177 8<|pm 178 0<|p1 179 (.nilc 178)<|p1 180 (.fld 0 179)<|pl 181 180<|pm 182 0<|p1 183 (.nilc 182)<|p1 184 (.fld 1 183)<|pl 185 184<|p1 186 (.idx 9 181 185)<|p1 187 (.fld 1 186)<|p1 188 (.fld 3 187)<|pl 189 188<|o1 190 (.bsl 1 1 [(Ag [])] [(0,189)])<|o1 191 (.app 1 16 [(Ag [])] 177 190) (.bar (pm 8 191 .done)))) (sR (om 192 0<|o1 193 (.nilc 192)<|oj 194 1 193<|ol 195 194<|ob 196 .add 195 z1<|o1 197 (.nilc 192)<|oj 198 1 197<|o0 (.st 1 198 196) .done) (rG (om 199 0<|oc 200 a2 [199,(.const (.int .u8 58))] .done))))) .skip)) (rG (om 201 9<|om 202 0<|om 203 1<|ob 204 .add 203 z1<|oc 205 a3 [202,204]<|o1 206 (.bsl 1 6 [(vZ 0),(vZ 0),(vZ 0),(Ag []),nV,nV] [(0,205)])<|o1 207 (.app 6 88 [(vZ 0),(vZ 0),(vZ 0),(Ag []),nV,nV] 201 206)<|om 9 207 .done)))))) (rG (om 113 10<|ob 114 .add 113 z1<|om 10 114 .done))))))) (sR (om 208 0<|om 209 7<|oc 210 a2 [208,209] .done) (.seq (sR (om 211 0<|o1 212 (.nilc 211)<|oj 213 2 212<|ol 214 213<|ob 215 .neq 214 z0 .done) (.cond 215 (sR (o1 216 (.bld [(0,1),(1,2),(3,1),(4,1),(5,1)] [(vZ 0),(vZ 0),(vZ 0),(Ag []),nV,nV] [])<|o0 (.st 6 4 216) .done) .ret) .skip)) (.seq (sR (om 217 5 .done) (.cond 217 (sR (om 218 9<|o1 219 (.bld [(0,1),(1,2),(3,1),(4,1),(5,1)] [(vZ 0),(vZ 0),(vZ 0),(Ag []),nV,nV] [(0,(kZ 5)),(3,218)])<|o0 (.st 6 4 219) .done) .ret) .skip)) (sR (om 221 8<|om 222 9<|oc 223 a4 [221,222]<|om 220 223<|oe 224 220 0<|oe 225 220 1<|o1 11 (.alo (.agg #[(vZ 0),(vZ 0),(vZ 0),(Ag []),nV,nV]))<|o0 (.st 6 11 224)<|om 12 225 .done) (sR (o1 226 (.ld (some 6) 11)<|o0 (.st 6 4 226) .done) .ret))))))))))))))))))⟩
def Xl{P f f1 f2 f3 f5}(hd:H6 P f=some (Fl f1 f2 f3 f f5)):Yg P f:=by
 intro d q Tq tv i er wh k he;refine EK hd<|Aj<|BR (fun _ _=>Bw<|Bp Z<|A3 Z<|Ae Z<|Al Z (An 1 Z Z)<|AB Z Z<|AE Z<|Aj<|Bs ?_);refine Au 0 z6 Z Z Z Z (Aca Z) Z Z<|Bz<|Ba [.agg z6.toArray] ⟨Bc 0 Z Z Z,trivial⟩ (Ads _ (Acy _)) ⟨Z,Z,Z⟩
set_option maxHeartbeats 40000000 in
def WN{T:Ad→Prop}(hT:∀{d d'},Le d d'→T d→T d'){P f f1 f2 f3 f5}(hd:H6 P f=some (Fl f1 f2 f3 f f5))(h1:QA P f1)(h2:Mp P f2)(h3:Mq P f3)(h3e:OH P f3)(h5:KX T P f5):∀F,UU T P f F:=by
 have hE:Yg P f:=Xl hd;have h2:∀{d}{q:Nat}{Tq tv}{full:List Tk}{i:Nat}{e wh:Int}{t:Tk},RSl 9 Df d tv full→(hi:i<full.length)→full[i]=t→
   Be P f2 [pZ q,vZ e] d [bx q Tq (rdC tv i 0 wh)] (Ret fun r d' L'=>d'=d∧∃wh',L'=[bx q Tq (rdC tv i (Dq t e) wh')]):=fun hr hi ht=>by subst ht;exact h2 hr hi
 intro F;induction F using Agg with
 |ind F ih=>
 intro k ts x hx d q Tq tv full i wh ht hr hfl hdr hwf hok hwt hk;obtain⟨F1,rfl⟩:∃F1,F=F1+1:=by cases F with|zero=>rw[DH] at hx;cases hx|succ F=>exact⟨F,Z⟩
 obtain⟨t,r,rfl⟩:∃t r,ts=t::r:=by cases ts with|nil=>cases hwf|cons t r=>exact⟨t,r,Z⟩
 obtain⟨hi,htt,hdr2⟩:=HB hdr;obtain⟨hto,hro⟩:=C4 hok;obtain⟨ta,tc,rfl⟩:=RSl.val hr;rw[DH] at hx;refine EK hd ?_;have pis:∀(c:Nat) {d0 B}{i2:Nat}{er2 wh2:Int}{t2:Tk},Le d d0→(hi2:i2<full.length)→full[i2]=t2→∀d1,Le d0 d1→(∀k∈(bx q Tq (rdC (.slice ta full.length tc) i2 er2 wh2)::B),Le k d1)→AO P f1 [pZ q,.int .u8 (c:Int)] d1 (.bool (isT t2 c)):=fun c d0 B i2 er2 wh2 t2 hl0 hi2 ht2 d1 hl1 hk1=>by
  have:=h1 (c:=c) (RSl.mono (R:=Df) (fun _ h=>h) hr (hl0.trans hl1)) (Dn (hk1 _ (Acr ..))) hi2;rwa [ht2] at this
 apply Ax;apply Ar;apply BV;intro b4 T4;refine FB d [bx q Tq (rdC (.slice ta full.length tc) i 0 wh),bx b4 T4 z6] (Vs.pick [1,0] Z)<|Ap<|Bp Z<|A3 Z<|AI Z Z Z<|AB Z Z<|AJ Z<|Et Z<|Cv Z (pis 91 (Le.refl d) hi htt)<|Ao Z<|Et Z<|Cv Z (pis 123 (Le.refl d) hi htt) ?_;rw[Hx (by decide) (by decide),Hx (by decide) (by decide)];have hrs0:rsg t=0↔t.sign=0:=by unfold rsg;split<;>omega
 have hrs1:t.sign≠255→rsg t=t.sign:=fun h=>by unfold rsg;rw[if_neg h]
 refine Ao Z<|Aao (fun ρ d2 L'=>∃nm:Bool,t.e=0∧t.sign=(if nm=true then 123 else 91)∧k≠48∧AZ ρ [(0,pZ q),(1,vZ (k:Int)),(4,pZ b4),(5,.bool (!nm)),(6,.bool nm),(7,.int .u8 (Dl nm:Nat))]∧d2=d∧L'=[bx q Tq (rdC (.slice ta full.length tc) i 0 wh),bx b4 T4 z6]) ?_ ?_
 ·refine Ax<|Ax<|Bd<|Bp Z<|A3 Z<|AI Z Z Z<|Bp Z<|A3 Z<|AI Z Z Z<|A2 (sz:=9) (R:=Df) (by rfl) hr (by rfl) Z (by omega) ?_;rintro b1 o1 cs1 hcs1 hD1 hR1;rw[show cs1=CB t from Eq.trans hR1 (congrArg CB htt)] at hD1;have t8:DC d b1 (o1+8) (vZ t.e):=hD1.at (i:=8) Z;by_cases k1:t.e≠0
  ·rw[if_pos k1] at hx;cases hx;have k1':¬(t.e=0∧t.sign=91):=fun h=>k1 h.1;have k1'':¬(t.e=0∧t.sign=123):=fun h=>k1 h.1;refine Ae Z<|Al Z (C0 (by assumption))<|AB Z Z<|Ac Z<|AA Z<|Aq Z Z<|Aq Z Z<|Aq Z Z<|Aq Z Z<|Aq Z Z<|Aq Z Z<|AF Z<|AN Z<|AN Z<|Aq Z Z<|AN Z<|AN Z<|AF Z<|Ah Z Z<|AV<|Ci Z<|Et Z<|Cg (A:=[bx q Tq (rdC (.slice ta full.length tc) i 0 wh)]) (B:=[bx b4 T4 z6]) Z Z (h2 (e:=60) hr hi htt) (fun r d3 L3 _ ⟨hdd,wh',hL⟩=>?_);subst hdd;subst hL;refine Br<|Bs<|Au 1 z6 Z Z Z Z (Aca Z) Z Z<|Bz<|Ba [.agg z6.toArray] ⟨Bc 1 Z Z Z,trivial⟩ (Agt _ (Acb _)) ⟨z6,i,wh',Z,by rw[Dq,if_pos k1];rfl,Az.zero,fun y hy=>by cases hy⟩
  rw[if_neg k1] at hx;have k1':t.e=0:=by omega
  refine Ae Z<|Al Z (C0 (by assumption))<|AB Z Z<|Ac Z<|Aw Z<|Aa Z<|Bp Z<|Aa Z<|A3 Z<|Aa Z<|Ae Z<|Aa Z<|c_l Z Z Z<|Aa Z<|Bp Z<|Aa Z<|A3 Z<|Aa Z<|Ae Z<|Aa Z<|c_l Z Z Z<|Aa Z<|A2 (sz:=9) (R:=Df) (by rfl) hr (by rfl) Z (by omega) ?_;rintro b2 o2 cs2 hcs2 hD2 hR2;rw[show cs2=CB t from Eq.trans hR2 (congrArg CB htt)] at hD2;have t0:DC d b2 (o2+0) (.int .u8 (rsg t:Nat)):=hD2.at (i:=0) Z;by_cases k2:t.sign≠0∧t.sign≠91∧t.sign≠123
  ·rw[if_pos k2] at hx;cases hx;obtain⟨k2a,k2b,k2c⟩:=k2;have hrs:rsg t≠0:=fun h=>k2a (hrs0.1 h);rw[decide_eq_false (show¬(t.e=0∧t.sign=91) from fun h=>k2b h.2),decide_eq_false (show¬(t.e=0∧t.sign=123) from fun h=>k2c h.2)];refine Aa Z<|Ae Z<|Aa Z<|Al Z (C0 (by assumption))<|Aa Z<|AB Z Z<|Aa Z<|Ac Z<|AA Z<|Aa Z<|Ac Z<|Aa Z<|Bu Z<|Aa Z<|Ah Z Z<|Aa Z<|Ac Z<|Aa Z<|Ac Z<|Aa Z<|Bu Z<|Aa Z<|Ah Z Z<|Af Z Z<|AV<|Ci Z<|Et Z<|Cg (A:=[bx q Tq (rdC (.slice ta full.length tc) i 0 wh)]) (B:=[bx b4 T4 z6]) Z Z (h2 (e:=60) hr hi htt) (fun r d3 L3 _ ⟨hdd,wh',hL⟩=>?_);subst hdd;subst hL;refine Br<|Bs<|Au 1 z6 Z Z Z Z (Aca Z) Z Z<|Bz<|Ba [.agg z6.toArray] ⟨Bc 1 Z Z Z,trivial⟩ (Agt _ (Acb _)) ⟨z6,i,wh',Z,by rw[Dq,if_neg k1];rfl,Az.zero,fun y hy=>by cases hy⟩
  rw[if_neg k2] at hx;by_cases k4:t.sign=0
  ·have hrs:rsg t=0:=hrs0.2 k4;rw[decide_eq_false (show¬(t.e=0∧t.sign=91) from fun h=>by omega),decide_eq_false (show¬(t.e=0∧t.sign=123) from fun h=>by omega)];by_cases k3:k=48
   ·rw[if_pos k3] at hx;cases hx;refine Aa Z<|Ae Z<|Aa Z<|Al Z (C0 (by assumption))<|Aa Z<|AB Z Z<|Aa Z<|Ac Z<|Aw Z<|Aq Z Z<|Aa Z<|Af Z Z<|Aa Z<|Ac Z<|Aq Z Z<|Aa Z<|Af Z Z<|Af Z Z<|AV<|A7 Z<|Ay<|Ap<|Ab Z<|Ai Z Z<|AE Z<|Et Z<|Cg (A:=[bx q Tq (rdC (.slice ta full.length tc) i 0 wh)]) (B:=[bx b4 T4 z6]) Z Z (h2 (e:=31) hr hi htt) (fun r d3 L3 _ ⟨hdd,wh',hL⟩=>?_);subst hdd;subst hL;refine Br<|Bs<|Au 1 z6 Z Z Z Z (Aca Z) Z Z<|Bz<|Ba [.agg z6.toArray] ⟨Bc 1 Z Z Z,trivial⟩ (Agt _ (Acb _)) ⟨z6,i,wh',Z,by rw[Dq,if_neg k1];rfl,Az.zero,fun y hy=>by cases hy⟩
   rw[if_neg k3] at hx;rw[if_pos k4] at hx;cases hx;have hrv:=Ty (d:=d) hto (by simp only[wts,wtT] at hwt;omega);refine Aa Z<|Ae Z<|Aa Z<|Al Z (C0 (by assumption))<|Aa Z<|AB Z Z<|Aa Z<|Ac Z<|Aw Z<|Aq Z Z<|Aa Z<|Af Z Z<|Aa Z<|Ac Z<|Aq Z Z<|Aa Z<|Af Z Z<|Af Z Z<|AV<|A7 Z<|Ay<|Ap<|Ab Z<|Ai Z Z<|AJ Z<|Ap<|Ac Z<|Bu Z<|Ac Z<|Aa Z<|Ac Z<|Aa Z<|Bu Z<|Ah Z Z<|BK Z<|Et Z<|A3 Z<|AI Z Z Z<|AY Z Z<|A3 Z<|Ae Z<|Au 0 (rdC (.slice ta full.length tc) (i+1) 0 wh) Z Z Z Z (Aca Z) Z Z<|Cr<|BS [bx q Tq (rdC (.slice ta full.length tc) (i+1) 0 wh)] [bx b4 T4 z6] Z<|Bp Z<|A3 Z<|AI Z Z Z<|Bp Z<|A3 Z<|AI Z Z Z<|DQ Z Z<|A2 (sz:=9) (R:=Df) (m:=i) (by rfl) hr (by rfl) (by omega) (by omega) ?_;rintro b3 o3 cs3 hcs3 hD3 hR3;rw[show cs3=CB t from Eq.trans hR3 (congrArg CB htt)] at hD3;have hL3:=U6 hD3;refine Ae Z<|CT Z (by assumption) Z<|B0<|Au 1 (Ft t.v) Z Z Z Z (Aca Z) Z Z<|Bz<|Ba [.agg (Ft t.v).toArray] ⟨Bc 1 Z Z Z,trivial⟩ (Agt _ (Acb _)) ⟨Ft t.v,i+1,wh,Z,Z,hrv,fun y hy=>by cases hy;exact hdr2⟩
  have hrs:rsg t≠0:=fun h=>k4 (hrs0.1 h);by_cases k5:t.sign=91
  ·rw[decide_eq_true (show t.e=0∧t.sign=91 from⟨k1',k5⟩),decide_eq_false (show¬(t.e=0∧t.sign=123) from fun h=>by omega)];by_cases k3:k=48
   ·rw[if_pos k3] at hx;cases hx;refine Aa Z<|Ae Z<|Aa Z<|Al Z (C0 (by assumption))<|Aa Z<|AB Z Z<|Aa Z<|Ac Z<|AA Z<|Aa Z<|Ac Z<|Aa Z<|Bu Z<|Aa Z<|Ah Z Z<|Aa Z<|Ac Z<|Aq Z Z<|Aa Z<|Af Z Z<|Af Z Z<|AV<|A7 Z<|Ay<|Ap<|Ab Z<|Ai Z Z<|AE Z<|Et Z<|Cg (A:=[bx q Tq (rdC (.slice ta full.length tc) i 0 wh)]) (B:=[bx b4 T4 z6]) Z Z (h2 (e:=31) hr hi htt) (fun r d3 L3 _ ⟨hdd,wh',hL⟩=>?_);subst hdd;subst hL;refine Br<|Bs<|Au 1 z6 Z Z Z Z (Aca Z) Z Z<|Bz<|Ba [.agg z6.toArray] ⟨Bc 1 Z Z Z,trivial⟩ (Agt _ (Acb _)) ⟨z6,i,wh',Z,by rw[Dq,if_neg k1];rfl,Az.zero,fun y hy=>by cases hy⟩
   rw[if_neg k3] at hx;(refine Aa Z<|Ae Z<|Aa Z<|Al Z (C0 (by assumption))<|Aa Z<|AB Z Z<|Aa Z<|Ac Z<|AA Z<|Aa Z<|Ac Z<|Aa Z<|Bu Z<|Aa Z<|Ah Z Z<|Aa Z<|Ac Z<|Aq Z Z<|Aa Z<|Af Z Z<|Af Z Z<|AV<|A7 Z<|Ay<|Ap<|Ab Z<|Ai Z Z<|AJ Z<|Ap<|Ac Z<|Bu Z<|Ac Z<|Aq Z Z<|Af Z Z<|Bh Z<|AD Z<|Br<|Ao Z<|A7 Z<|Ay ?_);exact⟨false,k1',k5,k3,⟨Z,Z,Z,Z,Z,Z,trivial⟩,Z,Z⟩
  ·have k6:t.sign=123:=by omega
   rw[decide_eq_false (show¬(t.e=0∧t.sign=91) from fun h=>k5 h.2),decide_eq_true (show t.e=0∧t.sign=123 from⟨k1',k6⟩)];by_cases k3:k=48
   ·rw[if_pos k3] at hx;cases hx;refine Aa Z<|Ae Z<|Aa Z<|Al Z (C0 (by assumption))<|Aa Z<|AB Z Z<|Aa Z<|Ac Z<|AA Z<|Aa Z<|Ac Z<|Aa Z<|Bu Z<|Aa Z<|Ah Z Z<|Aa Z<|Ac Z<|Aa Z<|Ac Z<|Aa Z<|Bu Z<|Aa Z<|Ah Z Z<|Af Z Z<|AV<|A7 Z<|Ay<|Ap<|Ab Z<|Ai Z Z<|AE Z<|Et Z<|Cg (A:=[bx q Tq (rdC (.slice ta full.length tc) i 0 wh)]) (B:=[bx b4 T4 z6]) Z Z (h2 (e:=31) hr hi htt) (fun r d3 L3 _ ⟨hdd,wh',hL⟩=>?_);subst hdd;subst hL;refine Br<|Bs<|Au 1 z6 Z Z Z Z (Aca Z) Z Z<|Bz<|Ba [.agg z6.toArray] ⟨Bc 1 Z Z Z,trivial⟩ (Agt _ (Acb _)) ⟨z6,i,wh',Z,by rw[Dq,if_neg k1];rfl,Az.zero,fun y hy=>by cases hy⟩
   rw[if_neg k3] at hx;(refine Aa Z<|Ae Z<|Aa Z<|Al Z (C0 (by assumption))<|Aa Z<|AB Z Z<|Aa Z<|Ac Z<|AA Z<|Aa Z<|Ac Z<|Aa Z<|Bu Z<|Aa Z<|Ah Z Z<|Aa Z<|Ac Z<|Aa Z<|Ac Z<|Aa Z<|Bu Z<|Aa Z<|Ah Z Z<|Af Z Z<|AV<|A7 Z<|Ay<|Ap<|Ab Z<|Ai Z Z<|AJ Z<|Ap<|Ac Z<|Bu Z<|Ac Z<|Aa Z<|Ac Z<|Aa Z<|Bu Z<|Ah Z Z<|Bh Z<|AD Z<|Br<|Ao Z<|Ci Z<|Ar<|AL Z ?_);exact⟨true,k1',k6,k3,⟨Z,Z,Z,Z,Z,Z,trivial⟩,Z,Z⟩
 rintro ρ d2 L' ⟨nm,k1',hsg,k3,hs,hdd,hL⟩;subst hdd;subst hL;refine A4 _ hs ?_;clear hs;rw[if_neg (fun h=>h k1'),if_neg (by rw[hsg];cases nm<;>simp),if_neg k3,if_neg (by rw[hsg];cases nm<;>simp),show decide (t.sign=123)=nm by rw[hsg];cases nm<;>simp] at hx;have hwf2:=Gy hwf (fun h=>h k1') (by rw[hsg];cases nm<;>simp);apply Ax;apply Ar;refine DT d2 [bx q Tq (rdC (.slice ta full.length tc) i 0 wh),bx b4 T4 z6,emp,emp] (Vs.emp.trans (Vs.emp.trans (Vs.pick [2,3,0,1] Z)))<|Bp Z<|A3 Z<|AI Z Z Z<|AY Z Z<|A3 Z<|Ae Z<|Au 0 (rdC (.slice ta full.length tc) (i+1) 0 wh) Z Z Z Z (Aca Z) Z Z<|Br<|AR Z<|Br<|AR Z<|Bw<|AL Z<|Am<|FJ 0 (Abc q Tq b4 T4 (.slice ta full.length tc) full k nm x d2) ?_ ?_
 ·refine BP (α:=LSt) (fun y=>[(0,pZ q),(1,vZ (k:Int)),(4,pZ b4),(5,.bool (!nm)),(6,.bool nm),(7,.int .u8 (Dl nm:Nat)),(8,y.kv),(9,y.lv),(10,vZ (y.n:Int))])
   (fun y d3 L'=>Le d2 d3∧AQ 1 A9 d3 y.kv y.ks y.hk∧AQ 6 Az d3 y.lv y.l y.hl∧AbB full k nm (F1+1) x y∧∃J,L'=bx q Tq (rdC (.slice ta full.length tc) y.i y.er y.wh)::bx b4 T4 z6::y.hk::y.hl::J) (fun y=>if y.er=0 then y.fl+1 else 0)
   ⟨0,F1,i+1,0,wh,nV,nV,[],[],emp,emp⟩ ⟨Z,Z,Z,Z,Z,Z,Z,Z,Z,trivial⟩ ⟨Le.refl _,AQ.nil,AQ.nil,.inl ⟨Z,Ahg _,by rw[hdr2];exact hx,by rw[hdr2];exact hwf2,by rw[hdr2];exact hro,by rw[hdr2];simp only[wts,Acs,BH] at hwt⊢;omega,Fz.nil k,Z⟩,[],Z⟩ ?_
  rintro⟨n,fl,i2,er2,wh2,kv,lv,ks,l,hk2,hl2⟩ ρ d3 L' ⟨hl23,hgk,hgl,hinv,J,hL⟩;simp only at hgk hgl hL;subst hL;refine A4 [(0,pZ q),(1,vZ (k:Int)),(4,pZ b4),(5,.bool (!nm)),(6,.bool nm),(7,.int .u8 (Dl nm:Nat)),(8,kv),(9,lv),(10,vZ (n:Int))] ⟨Z,Z,Z,Z,Z,Z,Z,Z,Z,trivial⟩ ?_;have hei:Dl nm≠1∧Dl nm≠255∧Dl nm≠44:=by cases nm<;>decide
  refine CJ (fun ρ d4 L'=>er2=0∧(∀t2 r2,full.drop i2=t2::r2→¬(n=0∧t2.e=0∧t2.sign=Dl nm))∧AZ ρ [(0,pZ q),(1,vZ (k:Int)),(4,pZ b4),(5,.bool (!nm)),(6,.bool nm),(7,.int .u8 (Dl nm:Nat)),(8,kv),(9,lv),(10,vZ (n:Int))]∧d4=d3∧L'=bx q Tq (rdC (.slice ta full.length tc) i2 er2 wh2)::bx b4 T4 z6::hk2::hl2::J) ?_ ?_
  ·rcases hinv with ⟨he,hfl2,hit,hw2,ho2,hsz,hgd,hln⟩|⟨he,hres,hkl,hll,hnl⟩
   ·simp only at he hfl2 hit hw2 ho2 hsz hgd hln;subst he;obtain⟨f1',rfl⟩:∃f1',fl=f1'+1:=by cases fl with|zero=>rw[CA] at hit;cases hit|succ fl=>exact⟨fl,Z⟩
    obtain⟨t2,r2,hd2⟩:∃t2 r2,full.drop i2=t2::r2:=by cases hh:full.drop i2 with|nil=>rw[hh] at hw2;cases hw2|cons t r=>exact⟨t,r,Z⟩
    obtain⟨hi2,ht2, -⟩:=HB hd2;have pi2:=Hx (t:=t2) hei.1 hei.2.1;by_cases kn:n=0
    ·by_cases kt:t2.e=0∧t2.sign=Dl nm
     ·rw[hd2,CA,if_pos kt] at hit;rw[decide_eq_true kt] at pi2;have pp:=fun d1 h=>pis (Dl nm) (B:=bx b4 T4 z6::hk2::hl2::J) (er2:=0) (wh2:=wh2) hl23 hi2 ht2 d1 h;rw[pi2] at pp;refine Et Z<|A3 Z<|AI Z Z Z<|Ai Z Z<|Ac Z<|AA Z<|Aa Z<|Ab Z<|Aa Z<|Ai Z Z<|Aa Z<|Ac Z<|AA Z<|Aa Z<|Bp Z<|Aa Z<|Ab Z<|Aa Z<|Cv Z pp<|Aa Z<|Ah Z Z<|Aa Z<|Bu Z<|Ah Z Z<|EX Z<|A6<|Er 0 ⟨i2,0,wh2,kv,lv,ks,l,hk2,hl2,J,⟨Z,Z,Z,Z,Z,Z,Z,Z,trivial⟩,hl23,hgk,hgl,.inl ⟨Z,t2,r2,hd2,kt.1,kt.2,(Option.some.inj hit).symm,by omega⟩,Z⟩
     ·rw[decide_eq_false kt] at pi2;have pp:=fun d1 h=>pis (Dl nm) (B:=bx b4 T4 z6::hk2::hl2::J) (er2:=0) (wh2:=wh2) hl23 hi2 ht2 d1 h;rw[pi2] at pp;refine Et Z<|A3 Z<|AI Z Z Z<|Ai Z Z<|Ac Z<|AA Z<|Aa Z<|Ab Z<|Aa Z<|Ai Z Z<|Aa Z<|Ac Z<|AA Z<|Aa Z<|Bp Z<|Aa Z<|Ab Z<|Aa Z<|Cv Z pp<|Aa Z<|Ah Z Z<|Aa Z<|Bu Z<|Ah Z Z<|BK Z<|Ay ?_;exact⟨Z,fun t3 r3 h3 h4=>by rw[hd2] at h3;cases h3;exact kt h4.2,⟨Z,Z,Z,Z,Z,Z,Z,Z,Z,trivial⟩,Z,Z⟩
    ·(refine Et Z<|A3 Z<|AI Z Z Z<|Ai Z Z<|Ac Z<|AA Z<|Aa Z<|Ab Z<|Aa Z<|Ai Z Z<|Aa Z<|Ac Z<|Aw Z<|Aq Z Z<|AF Z<|Aa Z<|Af Z Z<|Aa Z<|Bu Z<|Ah Z Z<|BK Z<|Ay ?_);exact⟨Z,fun t3 r3 h3 h4=>kn h4.1,⟨Z,Z,Z,Z,Z,Z,Z,Z,Z,trivial⟩,Z,Z⟩
   ·simp only at he hres hkl hll hnl;refine Et Z<|A3 Z<|AI Z Z Z<|Ai Z Z<|Ac Z<|Aw Z<|Aq Z Z<|AF Z<|AN Z<|AN Z<|AN Z<|Aq Z Z<|Af Z Z<|EX Z<|A6<|Er 0 ⟨i2,er2,wh2,kv,lv,ks,l,hk2,hl2,J,⟨Z,Z,Z,Z,Z,Z,Z,Z,trivial⟩,hl23,hgk,hgl,.inr ⟨he,hres⟩,Z⟩
  rintro ρ d4 L' ⟨he,hnot,hs,hdd,hL⟩;subst he;subst hdd;subst hL;refine A4 _ hs ?_;clear hs;obtain⟨-,hfl2,hit,hw2,ho2,hsz,hgd,hln⟩:(0:Int)=0∧fl<F1+1∧CA fl k nm (decide (n=0)) ks l (full.drop i2)=some x∧wfT (full.drop i2)∧(∀t∈full.drop i2,OkT t)∧ks.length+BH l+wts (full.drop i2)≤900000∧Fz k l∧l.length=n:=by
   rcases hinv with h|⟨h,_⟩
   ·exact h
   ·exact absurd Z h
  clear hinv;obtain⟨f1',rfl⟩:∃f1',fl=f1'+1:=by cases fl with|zero=>rw[CA] at hit;cases hit|succ fl=>exact⟨fl,Z⟩
  obtain⟨t2,r2,hd2⟩:∃t2 r2,full.drop i2=t2::r2:=by cases hh:full.drop i2 with|nil=>rw[hh] at hw2;cases hw2|cons t r=>exact⟨t,r,Z⟩
  obtain⟨hi2,ht2,hd3⟩:=HB hd2;have hnot:=hnot t2 r2 hd2;have pi2:=Hx (t:=t2) hei.1 hei.2.1;rw[hd2] at hit hw2 ho2 hsz;rw[CA] at hit;have htl:=Kx l;have hr4:RSl 9 Df d4 (.slice ta full.length tc) full:=RSl.mono (R:=Df) (fun _ h=>h) hr hl23;apply Ax;apply Am;refine Aaf (fun ρ d5 L'=>∃i3 er3 wh3,AZ ρ [(0,pZ q),(1,vZ (k:Int)),(4,pZ b4),(5,.bool (!nm)),(6,.bool nm),(7,.int .u8 (Dl nm:Nat)),(8,kv),(9,lv),(10,vZ (n:Int))]∧d5=d4∧L'=bx q Tq (rdC (.slice ta full.length tc) i3 er3 wh3)::bx b4 T4 z6::hk2::hl2::J∧
   ((er3=0∧Dj f1' k nm ks l (full.drop i3)=some x∧wfT (full.drop i3)∧(∀t∈full.drop i3,OkT t)∧ks.length+BH l+wts (full.drop i3)≤900000)∨(er3≠0∧x=.error er3))) ?_ ?_
  ·by_cases kn:n=0
   ·rw[if_neg (fun h=>hnot ⟨kn,h⟩),if_pos (by simp[kn])] at hit;(refine Ap<|Ab Z<|AS Z Z<|Ac Z<|Aw Z<|Aq Z Z<|AF Z<|Af Z Z<|Bh Z<|AD Z<|AS Z Z<|AJ Z ?_);exact⟨i2,0,wh2,⟨Z,Z,Z,Z,Z,Z,Z,Z,Z,trivial⟩,Z,Z,.inl ⟨Z,by rw[hd2];exact hit,by rw[hd2];exact hw2,by rw[hd2];exact ho2,by rw[hd2];exact hsz⟩⟩
   ·by_cases kt:t2.e=0∧t2.sign=Dl nm
    ·rw[if_pos kt] at hit;rw[decide_eq_true kt] at pi2;have pp:=fun d1 h=>pis (Dl nm) (B:=bx b4 T4 z6::hk2::hl2::J) (er2:=0) (wh2:=wh2) hl23 hi2 ht2 d1 h;rw[pi2] at pp;refine Ap<|Ab Z<|AS Z Z<|Ac Z<|AA Z<|Aa Z<|Bp Z<|Aa Z<|Ab Z<|Aa Z<|Cv Z pp<|Ah Z Z<|BK Z<|A6<|Ob ⟨i2,0,wh2,kv,lv,ks,l,hk2,hl2,J,⟨Z,Z,Z,Z,Z,Z,Z,Z,trivial⟩,hl23,hgk,hgl,.inl ⟨Z,t2,r2,hd2,kt.1,kt.2,(Option.some.inj hit).symm,by omega⟩,Z⟩
    ·rw[if_neg kt,if_neg (by simp[kn])] at hit;rw[decide_eq_false kt] at pi2;have pp:=fun d1 h=>pis (Dl nm) (B:=bx b4 T4 z6::hk2::hl2::J) (er2:=0) (wh2:=wh2) hl23 hi2 ht2 d1 h;rw[pi2] at pp;have hw44:HQ full i2 0 44=if t2.e=0∧t2.sign=44 then(i2+1,0) else(i2,Dq t2 60):=by
      rw[HQ,if_neg (by simp),Acf hi2,ht2];simp only;rw[Hx (by decide) (by decide)];by_cases q:t2.e=0∧t2.sign=44
      ·rw[if_pos q,if_pos (decide_eq_true q)]
      ·rw[if_neg q,if_neg (by rw[decide_eq_false q];decide)]
     have pw:=h3 (q:=q) (Tq:=Tq) (c:=44) (er:=0) (wh:=wh2) hr4 hfl hi2;rw[hw44] at pw;clear hw44;by_cases ke:t2.e≠0
     ·rw[if_pos ke] at hit;rw[if_neg (fun q=>ke q.1)] at pw;refine Ap<|Ab Z<|AS Z Z<|Ac Z<|AA Z<|Aa Z<|Bp Z<|Aa Z<|Ab Z<|Aa Z<|Cv Z pp<|Ah Z Z<|Bh Z<|AD Z<|AS Z Z<|AE Z<|Ar<|Bp Z<|Cg (A:=[bx q Tq (rdC (.slice ta full.length tc) i2 0 wh2)]) (B:=bx b4 T4 z6::hk2::hl2::J) Z Z pw (fun r d5 L5 _ ⟨hdd,wh5,hL⟩=>?_);subst hdd;subst hL;(apply Av);exact⟨i2,Dq t2 60,wh5,⟨Z,Z,Z,Z,Z,Z,Z,Z,Z,trivial⟩,Z,Z,.inr ⟨by rw[Dq,if_pos ke];exact ke,by rw[Dq,if_pos ke];exact(Option.some.inj hit).symm⟩⟩
     ·rw[if_neg ke] at hit;by_cases kc:t2.sign≠44
      ·rw[if_pos kc] at hit;rw[if_neg (fun q=>kc q.2)] at pw;refine Ap<|Ab Z<|AS Z Z<|Ac Z<|AA Z<|Aa Z<|Bp Z<|Aa Z<|Ab Z<|Aa Z<|Cv Z pp<|Ah Z Z<|Bh Z<|AD Z<|AS Z Z<|AE Z<|Ar<|Bp Z<|Cg (A:=[bx q Tq (rdC (.slice ta full.length tc) i2 0 wh2)]) (B:=bx b4 T4 z6::hk2::hl2::J) Z Z pw (fun r d5 L5 _ ⟨hdd,wh5,hL⟩=>?_);subst hdd;subst hL;(apply Av);exact⟨i2,Dq t2 60,wh5,⟨Z,Z,Z,Z,Z,Z,Z,Z,Z,trivial⟩,Z,Z,.inr ⟨by rw[Dq,if_neg ke];decide,by rw[Dq,if_neg ke];exact(Option.some.inj hit).symm⟩⟩
      ·rw[if_neg kc] at hit;rw[if_pos ⟨by omega,by omega⟩] at pw;have hwf3:=Gy hw2 ke (by omega);refine Ap<|Ab Z<|AS Z Z<|Ac Z<|AA Z<|Aa Z<|Bp Z<|Aa Z<|Ab Z<|Aa Z<|Cv Z pp<|Ah Z Z<|Bh Z<|AD Z<|AS Z Z<|AE Z<|Ar<|Bp Z<|Cg (A:=[bx q Tq (rdC (.slice ta full.length tc) i2 0 wh2)]) (B:=bx b4 T4 z6::hk2::hl2::J) Z Z pw (fun r d5 L5 _ ⟨hdd,wh5,hL⟩=>?_);subst hdd;subst hL;(apply Av);exact⟨i2+1,0,wh5,⟨Z,Z,Z,Z,Z,Z,Z,Z,Z,trivial⟩,Z,Z,.inl ⟨Z,by rw[hd3];exact hit,by rw[hd3];exact hwf3,by rw[hd3];exact(C4 ho2).2,by rw[hd3];rw[wts] at hsz;omega⟩⟩
  rintro ρ d5 L' ⟨i3,er3,wh3,hs,hdd,hL,hst3⟩;subst hdd;subst hL;refine A4 _ hs ?_;have hkb:ks.length+BH l≤900000:=by omega
  clear hs hit hw2 ho2 hsz hnot pi2 hd2 hd3 ht2 hi2;refine CJ (fun ρ d6 L'=>∃i4 er4 wh4 kv4 ks4 hk4,AZ ρ [(0,pZ q),(1,vZ (k:Int)),(4,pZ b4),(5,.bool (!nm)),(6,.bool nm),(7,.int .u8 (Dl nm:Nat)),(8,kv4),(9,lv),(10,vZ (n:Int))]∧d6=d5∧L'=bx q Tq (rdC (.slice ta full.length tc) i4 er4 wh4)::bx b4 T4 z6::hk4::hl2::J∧AQ 1 A9 d5 kv4 ks4 hk4∧
   ((er4=0∧∃f2 y,f2<f1'∧DH f2 (k+1) (full.drop i4)=some y∧(∀e,y=.error e→x=.error e)∧(∀z,y=.ok z→CA f2 k nm false ks4 (l++[z.1]) z.2=some x)∧wfT (full.drop i4)∧(∀t∈full.drop i4,OkT t)∧ks4.length+BH l+wts (full.drop i4)≤900000)∨
    (er4≠0∧x=.error er4∧ks4.length≤900000))) ?_ ?_
  ·cases nm with
   |false=>
    (refine Aj<|Ac Z<|Ac Z<|Aq Z Z<|Aq Z Z<|AF Z<|Af Z Z<|Bh Z ?_)
    refine⟨i3,er3,wh3,kv,ks,hk2,⟨Z,Z,Z,Z,Z,Z,Z,Z,Z,trivial⟩,Z,Z,hgk,?_⟩
    rcases hst3 with ⟨he,hel,hw3,ho3,hs3⟩|⟨he,hres⟩
    ·refine .inl ⟨he,?_⟩
     cases f1' with
     |zero=>rw[Dj] at hel;cases hel
     |succ f2=>
      rw[Dj] at hel
      cases hv:DH f2 (k+1) (full.drop i3) with
      |none=>rw[hv] at hel;cases hel
      |some y=>
       rw[hv] at hel
       refine⟨f2,y,Ahg _,hv,fun e h=>?_,fun z h=>?_,hw3,ho3,hs3⟩
       ·subst h;exact(Option.some.inj hel).symm
       ·subst h;exact hel
    ·exact .inr ⟨he,hres,by omega⟩
   |true=>
    rcases hst3 with ⟨he,hel,hw3,ho3,hs3⟩|⟨he,hres⟩
    ·subst he
     obtain⟨f2,rfl⟩:∃f2,f1'=f2+1:=by cases f1' with|zero=>rw[Dj] at hel;cases hel|succ f=>exact⟨f,Z⟩
     obtain⟨t3,r3,hd3⟩:∃t3 r3,full.drop i3=t3::r3:=by cases hh:full.drop i3 with|nil=>rw[hh] at hw3;cases hw3|cons t r=>exact⟨t,r,Z⟩
     obtain⟨hi3,ht3,hdn⟩:=HB hd3
     rw[hd3] at hel hw3 ho3 hs3
     rw[Dj.eq_def] at hel
     simp only at hel
     have hrs0:rsg t3=0↔t3.sign=0:=by unfold rsg;split<;>omega
     obtain⟨hto3,hro3⟩:=C4 ho3
     by_cases ke:t3.e≠0
     ·rw[if_pos ke] at hel
      have hx3:=(Option.some.inj hel).symm
      by_cases k0:rsg t3≠0
      ·(refine Aj<|Ac Z<|Ac Z<|Aa Z<|Bp Z<|Aa Z<|A3 Z<|Aa Z<|Ae Z<|Aa Z<|c_l Z Z Z<|Aa Z<|Ai Z Z<|Ah Z Z<|AE Z<|Ax<|Ax ?_)
       refine BS [bx q Tq (rdC (.slice ta full.length tc) i3 0 wh3)] (bx b4 T4 z6::hk2::hl2::J) Z ?_
       (refine Bp Z<|A3 Z<|AI Z Z Z<|Bp Z<|A3 Z<|AI Z Z Z ?_)
       refine A2 (sz:=9) (R:=Df) (by rfl) hr4 (by rfl) Z (by omega) ?_;rintro b1 o1 cs1 hcs1 hD1 hR1
       rw[show cs1=CB t3 from Eq.trans hR1 (congrArg CB ht3)] at hD1
       have t0:DC d5 b1 (o1+0) (.int .u8 (rsg t3:Nat)):=hD1.at (i:=0) Z
       (refine Ae Z<|Al Z (C0 (by assumption))<|AB Z Z<|Ac Z<|AA Z<|Aq Z Z<|Aq Z Z<|Aq Z Z<|Aq Z Z<|Aq Z Z<|Aq Z Z<|Ah Z Z<|Ac Z<|Aq Z Z<|Aq Z Z<|Aq Z Z<|Aq Z Z<|Aq Z Z<|Aq Z Z<|AF Z<|Ah Z Z<|AV<|Ci Z<|Et Z ?_)
       refine Cg (A:=[bx q Tq (rdC (.slice ta full.length tc) i3 0 wh3)]) (B:=bx b4 T4 z6::hk2::hl2::J) Z Z (h2 (e:=60) hr4 hi3 ht3) (fun r d6 L6 _ ⟨hdd,wh6,hL⟩=>?_)
       subst hdd;subst hL
       (refine Av<|A6 ?_)
       exact Ob ⟨i3,Dq t3 60,wh6,kv,lv,ks,l,hk2,hl2,J,⟨Z,Z,Z,Z,Z,Z,Z,Z,trivial⟩,hl23,hgk,hgl,.inr ⟨by rw[Dq,if_pos ke];exact ke,by rw[Dq,if_pos ke];exact hx3⟩,Z⟩
      ·have k0':rsg t3=0:=by omega
       (refine Aj<|Ac Z<|Ac Z<|Aa Z<|Bp Z<|Aa Z<|A3 Z<|Aa Z<|Ae Z<|Aa Z<|c_l Z Z Z<|Aa Z<|Ai Z Z<|Ah Z Z<|AE Z<|Ax<|Ax ?_)
       refine BS [bx q Tq (rdC (.slice ta full.length tc) i3 0 wh3)] (bx b4 T4 z6::hk2::hl2::J) Z ?_
       (refine Bp Z<|A3 Z<|AI Z Z Z<|Bp Z<|A3 Z<|AI Z Z Z ?_)
       refine A2 (sz:=9) (R:=Df) (by rfl) hr4 (by rfl) Z (by omega) ?_;rintro b1 o1 cs1 hcs1 hD1 hR1
       rw[show cs1=CB t3 from Eq.trans hR1 (congrArg CB ht3)] at hD1
       have t0:DC d5 b1 (o1+0) (.int .u8 (rsg t3:Nat)):=hD1.at (i:=0) Z
       (refine Ae Z<|Al Z (C0 (by assumption))<|AB Z Z<|Ac Z<|Aw Z<|Aa Z<|Bp Z<|Aa Z<|A3 Z<|Aa Z<|Ae Z<|Aa Z<|c_l Z Z Z<|Aa Z<|Bp Z<|Aa Z<|A3 Z<|Aa Z<|Ae Z<|Aa Z<|c_l Z Z Z<|Aa Z ?_)
       refine A2 (sz:=9) (R:=Df) (by rfl) hr4 (by rfl) Z (by omega) ?_;rintro b2 o2 cs2 hcs2 hD2 hR2
       rw[show cs2=CB t3 from Eq.trans hR2 (congrArg CB ht3)] at hD2
       have t8:DC d5 b2 (o2+8) (vZ t3.e):=hD2.at (i:=8) Z
       (refine Aa Z<|Ae Z<|Aa Z<|Al Z (C0 (by assumption))<|Aa Z<|AB Z Z<|Af Z Z<|Ac Z<|AA Z<|Aq Z Z<|Aq Z Z<|Aq Z Z<|Aq Z Z<|Aq Z Z<|Aq Z Z<|AF Z<|Ah Z Z<|AV<|Ci Z<|Et Z ?_)
       refine Cg (A:=[bx q Tq (rdC (.slice ta full.length tc) i3 0 wh3)]) (B:=bx b4 T4 z6::hk2::hl2::J) Z Z (h2 (e:=60) hr4 hi3 ht3) (fun r d6 L6 _ ⟨hdd,wh6,hL⟩=>?_)
       subst hdd;subst hL
       (refine Av<|A6 ?_)
       exact Ob ⟨i3,Dq t3 60,wh6,kv,lv,ks,l,hk2,hl2,J,⟨Z,Z,Z,Z,Z,Z,Z,Z,trivial⟩,hl23,hgk,hgl,.inr ⟨by rw[Dq,if_pos ke];exact ke,by rw[Dq,if_pos ke];exact hx3⟩,Z⟩
     ·rw[if_neg ke] at hel
      have ke':t3.e=0:=by omega
      by_cases k0:t3.sign≠0
      ·rw[if_pos (.inl k0)] at hel
       have hx3:=(Option.some.inj hel).symm
       have k0':rsg t3≠0:=fun h=>k0 (hrs0.1 h)
       (refine Aj<|Ac Z<|Ac Z<|Aa Z<|Bp Z<|Aa Z<|A3 Z<|Aa Z<|Ae Z<|Aa Z<|c_l Z Z Z<|Aa Z<|Ai Z Z<|Ah Z Z<|AE Z<|Ax<|Ax ?_)
       refine BS [bx q Tq (rdC (.slice ta full.length tc) i3 0 wh3)] (bx b4 T4 z6::hk2::hl2::J) Z ?_
       (refine Bp Z<|A3 Z<|AI Z Z Z<|Bp Z<|A3 Z<|AI Z Z Z ?_)
       refine A2 (sz:=9) (R:=Df) (by rfl) hr4 (by rfl) Z (by omega) ?_;rintro b1 o1 cs1 hcs1 hD1 hR1
       rw[show cs1=CB t3 from Eq.trans hR1 (congrArg CB ht3)] at hD1
       have t0:DC d5 b1 (o1+0) (.int .u8 (rsg t3:Nat)):=hD1.at (i:=0) Z
       (refine Ae Z<|Al Z (C0 (by assumption))<|AB Z Z<|Ac Z<|AA Z<|Aq Z Z<|Aq Z Z<|Aq Z Z<|Aq Z Z<|Aq Z Z<|Aq Z Z<|Ah Z Z<|Ac Z<|Aq Z Z<|Aq Z Z<|Aq Z Z<|Aq Z Z<|Aq Z Z<|Aq Z Z<|AF Z<|Ah Z Z<|AV<|Ci Z<|Et Z ?_)
       refine Cg (A:=[bx q Tq (rdC (.slice ta full.length tc) i3 0 wh3)]) (B:=bx b4 T4 z6::hk2::hl2::J) Z Z (h2 (e:=60) hr4 hi3 ht3) (fun r d6 L6 _ ⟨hdd,wh6,hL⟩=>?_)
       subst hdd;subst hL
       (refine Av<|A6 ?_)
       exact Ob ⟨i3,Dq t3 60,wh6,kv,lv,ks,l,hk2,hl2,J,⟨Z,Z,Z,Z,Z,Z,Z,Z,trivial⟩,hl23,hgk,hgl,.inr ⟨by rw[Dq,if_neg ke];decide,by rw[Dq,if_neg ke];exact hx3⟩,Z⟩
      have k0':rsg t3=0:=hrs0.2 (by omega)
      by_cases k4:t3.v.kind≠4
      ·rw[if_pos (.inr k4)] at hel
       have hx3:=(Option.some.inj hel).symm
       (refine Aj<|Ac Z<|Ac Z<|Aa Z<|Bp Z<|Aa Z<|A3 Z<|Aa Z<|Ae Z<|Aa Z<|c_l Z Z Z<|Aa Z<|Ai Z Z<|Ah Z Z<|AE Z<|Ax<|Ax ?_)
       refine BS [bx q Tq (rdC (.slice ta full.length tc) i3 0 wh3)] (bx b4 T4 z6::hk2::hl2::J) Z ?_
       (refine Bp Z<|A3 Z<|AI Z Z Z<|Bp Z<|A3 Z<|AI Z Z Z ?_)
       refine A2 (sz:=9) (R:=Df) (by rfl) hr4 (by rfl) Z (by omega) ?_;rintro b1 o1 cs1 hcs1 hD1 hR1
       rw[show cs1=CB t3 from Eq.trans hR1 (congrArg CB ht3)] at hD1
       have t0:DC d5 b1 (o1+0) (.int .u8 (rsg t3:Nat)):=hD1.at (i:=0) Z
       (refine Ae Z<|Al Z (C0 (by assumption))<|AB Z Z<|Ac Z<|Aw Z<|Aa Z<|Bp Z<|Aa Z<|A3 Z<|Aa Z<|Ae Z<|Aa Z<|c_l Z Z Z<|Aa Z<|Bp Z<|Aa Z<|A3 Z<|Aa Z<|Ae Z<|Aa Z<|c_l Z Z Z<|Aa Z ?_)
       refine A2 (sz:=9) (R:=Df) (by rfl) hr4 (by rfl) Z (by omega) ?_;rintro b2 o2 cs2 hcs2 hD2 hR2
       rw[show cs2=CB t3 from Eq.trans hR2 (congrArg CB ht3)] at hD2
       have t8:DC d5 b2 (o2+8) (vZ t3.e):=hD2.at (i:=8) Z
       (refine Aa Z<|Ae Z<|Aa Z<|Al Z (C0 (by assumption))<|Aa Z<|AB Z Z<|Af Z Z<|Ac Z<|Aw Z<|Aa Z<|Bp Z<|Aa Z<|A3 Z<|Aa Z<|Ae Z<|Aa Z<|c_l Z Z Z<|Aa Z<|Bp Z<|Aa Z<|A3 Z<|Aa Z<|Ae Z<|Aa Z<|c_l Z Z Z<|Aa Z ?_)
       refine A2 (sz:=9) (R:=Df) (by rfl) hr4 (by rfl) Z (by omega) ?_;rintro b3 o3 cs3 hcs3 hD3 hR3
       rw[show cs3=CB t3 from Eq.trans hR3 (congrArg CB ht3)] at hD3
       have t1:DC d5 b3 (o3+1+0) (vZ t3.v.kind):=hD3.at (i:=1) Z
       (refine Aa Z<|Ae Z<|Aa Z<|Ae Z<|Aa Z<|Al Z (C0 (by assumption))<|Aa Z<|AB Z Z<|Af Z Z<|AV<|Bn Z<|Et Z ?_)
       refine Cg (A:=[bx q Tq (rdC (.slice ta full.length tc) i3 0 wh3)]) (B:=bx b4 T4 z6::hk2::hl2::J) Z Z (h2 (e:=60) hr4 hi3 ht3) (fun r d6 L6 _ ⟨hdd,wh6,hL⟩=>?_)
       subst hdd;subst hL
       (refine Av<|A6 ?_)
       exact Ob ⟨i3,Dq t3 60,wh6,kv,lv,ks,l,hk2,hl2,J,⟨Z,Z,Z,Z,Z,Z,Z,Z,trivial⟩,hl23,hgk,hgl,.inr ⟨by rw[Dq,if_neg ke];decide,by rw[Dq,if_neg ke];exact hx3⟩,Z⟩
      rw[if_neg (by rintro(h|h)<;>omega)] at hel
      have k4':t3.v.kind=4:=by omega
      have hw4:=Gy hw3 ke (by omega)
      obtain⟨c,r4,rfl⟩:∃c r4,r3=c::r4:=by cases r3 with|nil=>cases hw4|cons c r=>exact⟨c,r,Z⟩
      simp only at hel
      obtain⟨hi4,hc4,hd4⟩:=HB hdn
      have hkl:=hgk.BW
      have htl3:t3.v.text.length≤140737488355328:=by simp only[wts,wtT] at hs3;omega
      have hw58:HQ full (i3+1) 0 58=if c.e=0∧c.sign=58 then(i3+1+1,0) else(i3+1,Dq c 60):=by
       rw[HQ,if_neg (by simp),Acf hi4,hc4];simp only;rw[Hx (by decide) (by decide)];by_cases q:c.e=0∧c.sign=58
       ·rw[if_pos q,if_pos (decide_eq_true q)]
       ·rw[if_neg q,if_neg (by rw[decide_eq_false q];decide)]
      have pw:=h3 (q:=q) (Tq:=Tq) (c:=58) (er:=0) (wh:=wh3) hr4 hfl hi4
      rw[hw58] at pw
      clear hw58
      (refine Aj<|Ac Z<|Ac Z<|Aa Z<|Bp Z<|Aa Z<|A3 Z<|Aa Z<|Ae Z<|Aa Z<|c_l Z Z Z<|Aa Z<|Ai Z Z<|Ah Z Z<|AE Z<|Ax<|Ax ?_)
      refine BS [bx q Tq (rdC (.slice ta full.length tc) i3 0 wh3)] (bx b4 T4 z6::hk2::hl2::J) Z ?_
      (refine Bp Z<|A3 Z<|AI Z Z Z<|Bp Z<|A3 Z<|AI Z Z Z ?_)
      refine A2 (sz:=9) (R:=Df) (by rfl) hr4 (by rfl) Z (by omega) ?_;rintro b1 o1 cs1 hcs1 hD1 hR1
      rw[show cs1=CB t3 from Eq.trans hR1 (congrArg CB ht3)] at hD1
      have t0:DC d5 b1 (o1+0) (.int .u8 (rsg t3:Nat)):=hD1.at (i:=0) Z
      (refine Ae Z<|Al Z (C0 (by assumption))<|AB Z Z<|Ac Z<|Aw Z<|Aa Z<|Bp Z<|Aa Z<|A3 Z<|Aa Z<|Ae Z<|Aa Z<|c_l Z Z Z<|Aa Z<|Bp Z<|Aa Z<|A3 Z<|Aa Z<|Ae Z<|Aa Z<|c_l Z Z Z<|Aa Z ?_)
      refine A2 (sz:=9) (R:=Df) (by rfl) hr4 (by rfl) Z (by omega) ?_;rintro b2 o2 cs2 hcs2 hD2 hR2
      rw[show cs2=CB t3 from Eq.trans hR2 (congrArg CB ht3)] at hD2
      have t8:DC d5 b2 (o2+8) (vZ t3.e):=hD2.at (i:=8) Z
      (refine Aa Z<|Ae Z<|Aa Z<|Al Z (C0 (by assumption))<|Aa Z<|AB Z Z<|Af Z Z<|Ac Z<|Aw Z<|Aa Z<|Bp Z<|Aa Z<|A3 Z<|Aa Z<|Ae Z<|Aa Z<|c_l Z Z Z<|Aa Z<|Bp Z<|Aa Z<|A3 Z<|Aa Z<|Ae Z<|Aa Z<|c_l Z Z Z<|Aa Z ?_)
      refine A2 (sz:=9) (R:=Df) (by rfl) hr4 (by rfl) Z (by omega) ?_;rintro b3 o3 cs3 hcs3 hD3 hR3
      rw[show cs3=CB t3 from Eq.trans hR3 (congrArg CB ht3)] at hD3
      have t1:DC d5 b3 (o3+1+0) (vZ t3.v.kind):=hD3.at (i:=1) Z
      (refine Aa Z<|Ae Z<|Aa Z<|Ae Z<|Aa Z<|Al Z (C0 (by assumption))<|Aa Z<|AB Z Z<|Af Z Z<|AV<|AH Z<|Ay<|Ax ?_)
      refine BS [bx q Tq (rdC (.slice ta full.length tc) i3 0 wh3)] (bx b4 T4 z6::hk2::hl2::J) Z ?_
      (refine B3<|Bp Z<|A3 Z<|AI Z Z Z<|Bp Z<|A3 Z<|AI Z Z Z ?_)
      refine A2 (sz:=9) (R:=Df) (by rfl) hr4 (by rfl) Z (by omega) ?_;rintro b6 o6 cs6 hcs6 hD6 hR6
      rw[show cs6=CB t3 from Eq.trans hR6 (congrArg CB ht3)] at hD6
      have t4:DC d5 b6 (o6+1+3) (Ag t3.v.text):=hD6.at (i:=4) Z
      (refine Ae Z<|Ae Z<|Al Z (C0 (by assumption)) ?_)
      refine Ff (v0:=Ag t3.v.text) Z Z (fun bl Tl=>?_)
      refine Dc (R:=A9) (ys:=[t3.v.text]) 2 Z Z hgk Z (Src.lit (ys:=[t3.v.text]) 1 Z Z Z Z (fun i hi=>?_)) (by omega) (by simp;omega) (by simp;omega) (fun kv2 hk5 hgk5=>?_)
      ·obtain rfl:i=0:=by simpa using hi
       have hI:A9 d5 [Ag t3.v.text] t3.v.text:=⟨Z,htl3⟩
       exact hI
      obtain⟨ka2,kc2,rfl⟩:=hgk5.val
      (refine B0<|AR Z<|Br<|Bp Z<|A3 Z<|AI Z Z Z<|AY Z Z<|A3 Z<|Ae Z ?_)
      refine Au 0 (rdC (.slice ta full.length tc) (i3+1) 0 wh3) Z Z Z Z (Aca Z) Z Z ?_
      refine FB d5 (bx q Tq (rdC (.slice ta full.length tc) (i3+1) 0 wh3)::bx b4 T4 z6::hk5::hl2::J) (Vs.drop (Agt _ (Ads _ (Acy _)))) ?_
      (refine Ar<|Bp Z ?_)
      refine Cg (A:=[bx q Tq (rdC (.slice ta full.length tc) (i3+1) 0 wh3)]) (B:=bx b4 T4 z6::hk5::hl2::J) Z Z pw (fun r d7 L7 _ ⟨hdd,wh7,hL⟩=>?_)
      subst hdd;subst hL
      (apply Av)
      have hlk:(ks++[t3.v.text]).length=ks.length+1:=by simp
      refine⟨_,_,wh7,.slice ka2 (ks++[t3.v.text]).length kc2,ks++[t3.v.text],hk5,⟨Z,Z,Z,Z,Z,Z,Z,Z,Z,trivial⟩,Z,Z,hgk5,?_⟩
      clear pw
      by_cases q2:c.e=0∧c.sign=58
      ·rw[if_pos q2]
       rw[if_neg (fun h=>h q2.1),if_neg (fun h=>h q2.2)] at hel
       cases hv:DH f2 (k+1) r4 with
       |none=>rw[hv] at hel;cases hel
       |some y=>
        rw[hv] at hel
        refine .inl ⟨Z,f2,y,Ahg _,by rw[hd4];exact hv,fun e h=>?_,fun z h=>?_,by rw[hd4];exact Gy hw4 (fun h=>h q2.1) (by omega),by rw[hd4];exact(C4 hro3).2,by rw[hd4,hlk];simp only[wts,wtT] at hs3;omega⟩
        ·subst h;exact(Option.some.inj hel).symm
        ·subst h;exact hel
      ·rw[if_neg q2]
       by_cases kc:c.e≠0
       ·rw[if_pos kc] at hel
        exact .inr ⟨by rw[Dq,if_pos kc];exact kc,by rw[Dq,if_pos kc];exact(Option.some.inj hel).symm,by rw[hlk];simp only[wts,wtT] at hs3;omega⟩
       ·rw[if_neg kc,if_pos (fun h=>q2 ⟨by omega,h⟩)] at hel
        exact .inr ⟨by rw[Dq,if_neg kc];show(60:Int)≠0;decide,by rw[Dq,if_neg kc];exact(Option.some.inj hel).symm,by rw[hlk];simp only[wts,wtT] at hs3;omega⟩
    ·(refine Aj<|Ac Z<|Ac Z<|Aa Z<|Bp Z<|Aa Z<|A3 Z<|Aa Z<|Ae Z<|Aa Z<|c_l Z Z Z<|Aa Z<|Ai Z Z<|Ah Z Z<|AJ Z ?_)
     exact⟨i3,er3,wh3,kv,ks,hk2,⟨Z,Z,Z,Z,Z,Z,Z,Z,Z,trivial⟩,Z,Z,hgk,.inr ⟨he,hres,by omega⟩⟩
  rintro ρ d6 L' ⟨i4,er4,wh4,kv4,ks4,hk4,hs,hdd,hL,hgk4,hst4⟩;subst hdd;subst hL;refine A4 _ hs ?_;clear hs hst3;have hll:l.length≤900000:=by omega
  have hkb4:ks4.length≤900000:=by rcases hst4 with ⟨_,f2,y,_,_,_,_,_,_,h⟩|⟨_,_,h⟩<;>omega
  obtain⟨y,hye,hyo,hc⟩:∃y:RV,(∀e,y=.error e→e≠0∧x=.error e)∧(∀z,y=.ok z→∃f2,f2<f1'∧CA f2 k nm false ks4 (l++[z.1]) z.2=some x∧Fz k (l++[z.1])∧wfT z.2∧(∀t∈z.2,OkT t)∧ks4.length+BH (l++[z.1])+wts z.2≤900000)∧
    Be P f [pZ q,vZ ((k:Int)+1)] d6 [bx q Tq (rdC (.slice ta full.length tc) i4 er4 wh4)] (Ret fun r d' L'=>∃cs i' wh',r=.agg cs.toArray∧L'=[bx q Tq (rdC (.slice ta full.length tc) i' (LK y) wh')]∧Az d' cs (GU y)∧∀z,y=.ok z→full.drop i'=z.2):=by
   rcases hst4 with ⟨he,f2,y,hf,hv,hye,hyo,hw,ho,hs⟩|⟨he,hx4,hk4⟩
   ·subst he
    refine⟨y,fun e h=>⟨J2 f2 (k+1) _ e (by rw[hv,h]),hye e h⟩,fun z h=>?_,ih f2 (by omega) hv (hT hl23 ht) hr4 hfl Z hw ho (by omega) (by omega)⟩
    subst h
    have g:=GQ f2 (k+1) _ z hv ho hw (by omega)
    exact⟨f2,hf,hyo z Z,hgd.snoc g.may g.dep,g.wf,g.ok,by rw[CD,F6];have:=g.wt;omega⟩
   ·exact⟨.error er4,fun e h=>by cases h;exact⟨he,hx4⟩,fun z h=>by(cases h),(hE he).Yp (fun v d' L' hl h=>⟨d',L',Vs.refl _ _,z6,i4,wh4,h.2.1,h.2.2,Az.zero,fun z h=>by(cases h)⟩)⟩
  clear hst4;refine Ar<|B3<|Bp Z<|Ab Z<|AY Z Z<|Cg (A:=[bx q Tq (rdC (.slice ta full.length tc) i4 er4 wh4)]) (B:=bx b4 T4 z6::hk4::hl2::J) Z Z hc (fun r d7 L7 hl7 ⟨cs,i5,wh5,hr5,hL5,hv5,hd5⟩=>?_);subst hr5;subst hL5;obtain⟨c0,c1,c2,c3,c4,c5,rfl⟩:=six hv5.len;have hall:=AW _ _ _ hv5;have hgk5:=AQ.mono (R:=A9) CL hgk4 hl7;have hgl5:=AQ.mono (R:=Az) Cn hgl hl7;refine FC Z Z (fun bl Tl=>?_);refine Dc (R:=Az) (ys:=[GU y]) 4 Z Z hgl5 Z (Src.lit (ys:=[GU y]) 0 Z Z Z hall (fun i hi=>?_)) (by omega) (by simp;omega) (by simp;omega) (fun lv2 hl5 hgl6=>?_)
  ·obtain rfl:i=0:=by simpa using hi
   exact hv5
  obtain⟨la2,lc2,rfl⟩:=hgl6.val;refine DT d7 (bx q Tq (rdC (.slice ta full.length tc) i5 (LK y) wh5)::bx b4 T4 z6::hk4::hl5::J) (Vs.drop (Ads _ (Acy _)))<|AR Z<|Av<|Ar<|Ab Z<|AY Z Z<|AL Z ?_;have hlk:(l++[GU y]).length=l.length+1:=by simp
  cases hyy:y with
  |error e=>
   subst hyy
   obtain⟨he,hx4⟩:=hye e Z
   refine⟨⟨n+1,0,i5,e,wh5,kv4,.slice la2 (l++[V.zero]).length lc2,ks4,l++[V.zero],hk4,hl5⟩,?_,⟨Z,Z,Z,Z,Z,Z,Z,Z,Z,trivial⟩,hl23.trans hl7,hgk5,hgl6,.inr ⟨he,hx4,hkb4,by simp only[hlk,GU] at hlk⊢;omega,by simp only;omega⟩,J,Z⟩
   simp only[if_neg he,if_pos];omega
  |ok z=>
   subst hyy
   obtain⟨f2,hf,hit,hgd2,hw,ho,hsz⟩:=hyo z Z
   have hdz:=hd5 z Z
   refine⟨⟨n+1,f2,i5,0,wh5,kv4,.slice la2 (l++[z.1]).length lc2,ks4,l++[z.1],hk4,hl5⟩,?_,⟨Z,Z,Z,Z,Z,Z,Z,Z,Z,trivial⟩,hl23.trans hl7,hgk5,hgl6,.inl ⟨Z,by simp only;omega,by simp only[hdz];rw[decide_eq_false (by omega)];exact hit,by simp only[hdz];exact hw,by simp only[hdz];exact ho,by simp only[hdz];omega,hgd2,by simp only;rw[Acd];simp;omega⟩,J,Z⟩
   simp only[if_pos];omega
 rintro ρ d3 L' ⟨i2,er2,wh2,kv,lv,ks,l,hk2,hl2,J,hs,hl23,hgk,hgl,hend,hL⟩;subst hL;show gwp P _ _ _ _ _;refine A4 _ hs ?_;clear hs;have hr2:RSl 9 Df d3 (.slice ta full.length tc) full:=RSl.mono (R:=Df) (fun _ h=>h) hr hl23;rcases hend with ⟨he,t2,r2,hd2,he2,hs2,hx2,hsz⟩|⟨he,hx2⟩
 ·subst he;obtain⟨hi2,ht2,hd3⟩:=HB hd2;have hei:Dl nm≠1∧Dl nm≠255:=by cases nm<;>decide
  have hw:HQ full i2 0 (Dl nm)=(i2+1,0):=by
   rw[HQ,if_neg (by simp),Acf hi2,ht2];simp only;rw[Hx hei.1 hei.2,decide_eq_true ⟨he2,hs2⟩,if_pos Z]
  have pw:=h3 (q:=q) (Tq:=Tq) (c:=Dl nm) (er:=0) (wh:=wh2) hr2 hfl hi2;rw[hw] at pw;clear hw;have htl:=Kx l;have hkl:=hgk.BW;have hll:=hgl.BW;obtain⟨la,lc,rfl⟩:=hgl.val;obtain⟨ka,kc,rfl⟩:=hgk.val;subst hx2;cases nm with
  |false=>
   (refine Et Z<|Ab Z ?_)
   refine Cg (A:=[bx q Tq (rdC (.slice ta full.length tc) i2 0 wh2)]) (B:=bx b4 T4 z6::hk2::hl2::J) Z Z pw (fun r d7 L7 _ ⟨hdd,wh7,hL⟩=>?_)
   subst hdd;subst hL
   (refine Bw<|Bp Z<|A3 Z<|AI Z Z Z<|AB Z Z<|AJ Z<|Ap<|Ao Z<|Ci Z<|Es Z<|EI Z Z ?_)
   refine Au 1 [vZ 5,vZ 0,vZ 0,Ag [],.slice la l.length lc,nV] Z Z Z Z (Aca Z) Z Z ?_
   (refine Bz ?_)
   refine Se [.agg #[vZ 5,vZ 0,vZ 0,Ag [],.slice la l.length lc,nV]] ⟨Bc 1 Z Z Z,trivial⟩ (d':=join d7 hl2) (L':=[bx q Tq (rdC (.slice ta full.length tc) (i2+1) 0 wh7)])
    ((Vs.drop (L':=[bx q Tq (rdC (.slice ta full.length tc) (i2+1) 0 wh7),hl2]) (Agt _ (Ads _ (Ads _ (Agt _ (Acb _)))))).trans ((Vs.perm (List.Perm.swap _ _ _)).trans Vs.freeze)) ?_
   exact⟨[vZ 5,vZ 0,vZ 0,Ag [],.slice la l.length lc,nV],i2+1,wh7,Z,Z,
    Az.close (v:=.mk 5 0 0 [] l []) (show I64 5 from FX) BY BY (by simp) (hgl.rsl (R:=Az) Cn (by omega) (Le.B8 _ _) (Le.CM _ _)) RSl.nil,fun y hy=>by cases hy;exact hd3⟩
  |true=>
   (refine Et Z<|Ab Z ?_)
   refine Cg (A:=[bx q Tq (rdC (.slice ta full.length tc) i2 0 wh2)]) (B:=bx b4 T4 z6::hk2::hl2::J) Z Z pw (fun r d7 L7 _ ⟨hdd,wh7,hL⟩=>?_)
   subst hdd;subst hL
   (refine Bw<|Bp Z<|A3 Z<|AI Z Z Z<|AB Z Z<|AJ Z<|Ap<|Ao Z<|A7 Z<|Ay<|Es Z<|AR Z ?_)
   refine DT d7 (hk2::hl2::bx q Tq (rdC (.slice ta full.length tc) (i2+1) 0 wh7)::bx b4 T4 z6::J) (Vs.perm ((Adh (l₁:=[bx q Tq (rdC (.slice ta full.length tc) (i2+1) 0 wh7),bx b4 T4 z6]) (l₂:=[hk2,hl2])).append_right J)) ?_
   refine DI (fun d8 hl8 hg8=>?_)
   refine DI (fun d9 hl9 hg9=>?_)
   have hk9:=hgk.rsl CL (by omega) (hl8.trans hl9) (hg8.trans hl9)
   have hl9':=hgl.rsl Cn (by omega) (hl8.trans hl9) hg9
   refine Bi Z (h5 (hT (hl23.trans (hl8.trans hl9)) ht) hk9 hl9' (by omega) (fun z hz=>?_)) (fun r d10 L10 hl10 ⟨hL,cs,hr10,hv10⟩=>?_)
   ·have:=E6 hz
    have:=Jj z
    omega
   subst hL;subst hr10
   obtain⟨c0,c1,c2,c3,c4,c5,rfl⟩:=six hv10.len
   have hall:=AW _ _ _ hv10
   (refine Bm Z<|Bx Z Z Z Z<|BR (fun _ _=>?_))
   rename_i b11 T11
   refine Au 0 [c0,c1,c2,c3,c4,c5] Z Z Z Z (Aca Z) hall Z ?_
   (refine Bt Z<|AP 0 Z Z Z ?_)
   refine Au 2 [c0,c1,c2,c3,c4,c5] Z Z Z Z (Aca Z) hall Z ?_
   (refine Bz ?_)
   exact Ba [.agg #[c0,c1,c2,c3,c4,c5]] ⟨Bc 2 Z Z Z,trivial⟩ (Ads _ (Agt _ (Acb _))) ⟨[c0,c1,c2,c3,c4,c5],i2+1,wh7,Z,Z,hv10,fun y hy=>by cases hy;exact hd3⟩
 ·have pw:Be P f3 [pZ q,.int .u8 ((Dl nm:Nat):Int)] d3 [bx q Tq (rdC (.slice ta full.length tc) i2 er2 wh2)] _:=h3e he;subst hx2;refine Et Z<|Ab Z<|Cg (A:=[bx q Tq (rdC (.slice ta full.length tc) i2 er2 wh2)]) (B:=bx b4 T4 z6::hk2::hl2::J) Z Z pw (fun r d7 L7 _ ⟨hdd,hL⟩=>?_);subst hdd;subst hL;refine Bw<|Bp Z<|A3 Z<|AI Z Z Z<|AB Z Z<|AE Z<|Aj<|Bs<|Au 1 z6 Z Z Z Z (Aca Z) Z Z<|Bz<|Ba [.agg z6.toArray] ⟨Bc 1 Z Z Z,trivial⟩ (Agt _ (Acb _)) ⟨z6,i2,wh2,Z,Z,Az.zero,fun y hy=>by cases hy⟩
end Go.Gk.Jsn
end
section
namespace Go.Gk
open Go
section
def Be.pre{P f args d A L R}(p:L.Perm A)(h:Be P f args d A R):Be P f args d L R:=
 ⟨h.1,fun F W ok=>h.2 F W (ok.perm (Adr d (Ags F p)))⟩
def Be.Aah{P f args d A B R R'}(h:Be P f args d A (Ret R))(hR:∀v d' A',Le d d'→R v d' A'→∃L',(A'++B).Perm L'∧R' v d' L'):Be P f args d (A++B) (Ret R'):=by
 refine⟨h.1,fun F W ok=>(h.2 (B++F) W (by rwa [←Ach])).mono ?_⟩
 rintro e W' ⟨d',A',h1,h2,h3,h4⟩;cases e with
 |returned v=>
  obtain⟨L',p,hr⟩:=hR v d' A' h2 h4
  refine⟨d',L',?_,h2,h3,hr⟩
  rw[←Ach] at h1
  exact h1.perm (Adr d' (Ags F p))
 |panicked c=>exact h4.elim
 |outgrown=>exact h4.elim
section
variable {P:Program}{pan:List PanicEntry→A0}{Qn:Env→A0}{Ls L:List Ad}{ρ:Env}{d:Ad}{s:GS}{t:Nat}
def Zj{f args R vs A B}(hc:Be P f vs d A (Ret R))(hp:(Ls++L).Perm (A++B))(ea:args.map (ev ρ)=vs)
  (h:∀v d' A',Le d d'→R v d' A'→∃L'',(A'++B).Perm (Ls++L'')∧gws P pan Qn s Ls (upd ρ t v) d' L''):gws P pan Qn (.op false ⟨some t,none,.call f args⟩ s) Ls ρ d L:=
 ⟨d,L,Vs.refl d L,.inr ⟨Ls,Ret fun v d' L'=>∃L'',L'=Ls++L''∧gws P pan Qn s Ls (upd ρ t v) d' L'',Z,
  by rw[ea];exact Be.pre hp (Be.Aah hc (fun v d' A' hl hr=>by obtain⟨L'',p,k⟩:=h v d' A' hl hr;exact⟨Ls++L'',p,L'',Z,k⟩)),
  fun e d' L' hl hr=>by
   cases e with
   |returned v=>
    obtain⟨L'',e1,k⟩:=hr
    exact⟨L'',e1,_,_,Vs.refl _ _,k⟩
   |panicked c=>exact hr.elim
   |outgrown=>exact hr.elim⟩⟩
end
end
end Go.Gk
end
section
namespace Go.Gk.Jsn
open Go Go.Gk Go.Gk.Val
attribute [local irreducible] gwp gws jwp
variable{f1 f2 f3 f4 f5:FuncId}
section
def Stk.inv{d}{rs:List Raw}{o:Opn}{st:List Opn}{Ls}(h:Stk d rs (o::st) Ls):∃r rs' hk hl Ls',rs=r::rs'∧Ls=hk::hl::Ls'∧r.1=Mj o∧AQ 1 A9 d r.2.1 o.ks hk∧AQ 6 Az d r.2.2 o.l hl∧Stk d rs' st Ls':=by
 match rs,Ls,h with
 |r::rs',hk::hl::Ls',h=>exact⟨r,rs',hk,hl,Ls',Z,Z,h⟩
def Mo:∀st:List Opn,st.length≤wst st
 |[]=>Ack _
 |o::st=>by have:=Mo st;rw[wst,Acg];omega
def Yq{α}(a b c d:α)(l:List α):(a::b::c::d::l).Perm (a::c::d::b::l):=by
 have h:([b,c,d]:List α).Perm ([c,d]++[b]):=Adh (l₁:=[b]) (l₂:=[c,d]);exact(h.append_right l).cons a
section
variable {P:Program}{pan:List PanicEntry→A0}{Qn:Env→A0}{Ls L:List Ad}{ρ:Env}{d:Ad}{s:GS}{t:Nat}
def Mg{f args vs v}(ea:args.map (ev ρ)=vs)(hc:∀d1,Le d d1→(∀k∈Ls,Le k d1)→AO P f vs d1 v)
  (h:gws P pan Qn s Ls (upd ρ t v) d L):gws P pan Qn (.op false ⟨some t,none,.call f args⟩ s) Ls ρ d L:=
 Zj (B:=L) (AO.borrow hc) (List.Perm.refl _) ea (fun v' d' A' _ ⟨h1,h2,h3⟩=>⟨L,by rw[h3],by rw[h1,h2];exact h⟩)
end
set_option maxHeartbeats 2000000 in
def Zy{T:Ad→Prop}(hT:∀{d d'},Le d d'→T d→T d'){P}(h1:IW T P f1)(h3:KS P f3)
  {s}(hl:s.length≤1000) {W m:Nat}(hW:W≤900000) {ρ d L}(hJ:JP T s W 3 m ρ d L):
  jwp P (Um (DY f1 f2 f3 f4 f5) 1) (mkPost [.cell 2 (some 6),.tmp 3,.tmp 4] (Ha s)) (fun l ρ d L=>∃m',m'<m∧JP T s W l m' ρ d L) ρ d L:=by
 obtain⟨ht,t,ts,vc,htk,hvc,h⟩:=hJ
 obtain⟨o,st,⟨b2,T2,b5,T5,b6,T6,sv,rs,h0,Ls,hs, -,rfl,hg,hst⟩,hrun⟩:∃o st,MSt s ρ d L (o::st) vc t∧Run s W m (.pair o st (t::ts)):=by
  rcases h with ⟨h,_⟩|⟨_,h⟩|⟨h,_⟩|⟨h,_⟩
  ·cases h
  ·exact h
  all_goals cases h
 clear h
 obtain⟨v0,v1,v2,v3,v4,v5,rfl⟩:=six hvc
 have hslen:=hst.len
 have hok:=hrun.2.2
 have hwt:wst (o::st)+(wtT t+wts ts)≤W:=hrun.2.1
 have hstl:=Mo st
 rw[wst] at hwt
 obtain⟨⟨ki,kv,lv⟩,rs,hk,hl2,Ls,rfl,rfl,hki,hgk,hgl,hst2⟩:=hst.inv
 simp only at hki hgk hgl
 rw[Ael] at hg
 obtain⟨qb,qT,ql,qc,rfl,rfl,qle,q0,q1,q2, -,qs1, -⟩:=KI hg
 simp only at q0 q1 q2 qs1
 have hrl:rs.reverse.length=st.length:=by rw[Afw,hst2.len]
 obtain⟨ka,kc,rfl⟩:=hgk.val
 have p3:∀d6,DC d6 b5 0 (.slice (some ⟨qb,0,none⟩) (rs.reverse.length+1) qc)→AO P f3 [pZ b5] d6 (.pointer (some ⟨qb,rs.reverse.length*3,none⟩)):=fun d6 h=>by
  have:=h3 (by omega) h (by omega);rwa [Afo] at this
 show jwp P _ _ _ _ _ _
 refine G0 _ hs ?_
 clear hs
 by_cases k1:t.e≠0
 ·have hR:=hrun.inr (R:=.error t.e) (by rw[BB.eq_def];simp only;rw[if_pos k1])
  (apply Bq;apply j_g;apply Am;apply Ax;apply Ar;apply Ae;rfl;apply Al;rfl;exact An 0 Z Z;apply AB;rfl;rfl;apply Ac;rfl;apply Av;refine Hb Z (by omega) ?_;apply Ax)
  refine BS [bx b6 T6 (Cl t)] (bx b2 T2 [v0,v1,v2,v3,v4,v5]::bx b5 T5 [.slice (some ⟨qb,0,none⟩) (rs.reverse.length+1) qc]::bx qb qT ql::hk::hl2::Ls) Z ?_
  (refine Bs<|AI Z Z Z<|AI Z Z Z ?_)
  refine Au 0 z6 Z Z Z Z (Aca Z) Z Z ?_
  (refine Ab Z<|Ab Z<|AV<|En ?_)
  exact D3 hR Z Z Z Z
 have k1':t.e=0:=by omega
 by_cases k2:t.sign≠0
 ·have hR:=hrun.inr (R:=.error 60) (by rw[BB.eq_def];simp only;rw[if_neg k1,if_pos (.inl k2)])
  (apply Bq;apply j_g;apply Am;apply Ax;apply Ar;apply Ae;rfl;apply Al;rfl;exact An 0 Z Z;apply AB;rfl;rfl;apply Ac;rfl;apply Av;refine EH Z (by omega) ?_;apply Ax;apply Ar;apply Ae;rfl;apply Al;rfl;exact An 0 Z Z;apply AB;rfl;rfl;apply Ac;rfl;refine Ey Z (by omega) ?_;apply AF;rfl;apply AF;rfl;apply AF;rfl;apply AF;rfl;apply Ah;rfl;rfl;apply Ac;rfl;apply Av;apply Ci;rfl;apply Ax)
  refine BS [bx b6 T6 (Cl t)] (bx b2 T2 [v0,v1,v2,v3,v4,v5]::bx b5 T5 [.slice (some ⟨qb,0,none⟩) (rs.reverse.length+1) qc]::bx qb qT ql::hk::hl2::Ls) Z ?_
  (refine Bs<|AI Z Z Z ?_)
  refine Au 0 z6 Z Z Z Z (Aca Z) Z Z ?_
  (refine Ab Z<|Ab Z<|AV<|En ?_)
  exact D3 hR Z Z Z Z
 by_cases k3:t.v.kind≠4
 ·have hR:=hrun.inr (R:=.error 60) (by rw[BB.eq_def];simp only;rw[if_neg k1,if_pos (.inr k3)])
  (apply Bq;apply j_g;apply Am;apply Ax;apply Ar;apply Ae;rfl;apply Al;rfl;exact An 0 Z Z;apply AB;rfl;rfl;apply Ac;rfl;apply Av;refine EH Z (by omega) ?_;apply Ax;apply Ar;apply Ae;rfl;apply Al;rfl;exact An 0 Z Z;apply AB;rfl;rfl;apply Ac;rfl;refine Eo Z (by omega) ?_;apply Aa;rfl;apply Ae;rfl;apply Aa;rfl;apply Ae;rfl;apply Aa;rfl;apply Al;rfl;exact An 0 Z Z;apply Aa;rfl;apply AB;rfl;rfl;apply Af;rfl;rfl;apply Ac;rfl;apply Av;refine Hb Z (by omega) ?_;apply Ax)
  refine BS [bx b6 T6 (Cl t)] (bx b2 T2 [v0,v1,v2,v3,v4,v5]::bx b5 T5 [.slice (some ⟨qb,0,none⟩) (rs.reverse.length+1) qc]::bx qb qT ql::hk::hl2::Ls) Z ?_
  (refine Bs<|AI Z Z Z ?_)
  refine Au 0 z6 Z Z Z Z (Aca Z) Z Z ?_
  (refine Ab Z<|Ab Z<|AV<|En ?_)
  exact D3 hR Z Z Z Z
 have k23:¬(t.sign≠0∨t.v.kind≠4):=fun q=>q.elim k2 k3
 obtain⟨hto,htk2,ts2,rfl⟩:=htk.too k1' (by omega)
 have p1:∀d2,T d2→_:=fun d2 ht2=>h1 (d:=d2) (s:=s) (p:=t.too) ht2 (by omega) hto
 generalize Ce s t.too=t2 at*
 have hkl:=hgk.BW
 have htl:t.v.text.length≤140737488355328:=by simp only[wtT] at hwt;omega
 (apply Bq;apply j_g;apply Am;apply Ax;apply Ar;apply Ae;rfl;apply Al;rfl;exact An 0 Z Z;apply AB;rfl;rfl;apply Ac;rfl;apply Av;refine EH Z (by omega) ?_;apply Ax;apply Ar;apply Ae;rfl;apply Al;rfl;exact An 0 Z Z;apply AB;rfl;rfl;apply Ac;rfl;refine Eo Z (by omega) ?_;apply Aa;rfl;apply Ae;rfl;apply Aa;rfl;apply Ae;rfl;apply Aa;rfl;apply Al;rfl;exact An 0 Z Z;apply Aa;rfl;apply AB;rfl;rfl;apply Af;rfl;rfl;apply Ac;rfl;apply Av;refine EH Z (by omega) ?_;apply Ay;apply Bq;apply j_g)
 refine IH [bx b6 T6 (Cl t),bx b5 T5 [.slice (some ⟨qb,0,none⟩) (rs.reverse.length+1) qc],bx qb qT ql] (bx b2 T2 [v0,v1,v2,v3,v4,v5]::hk::hl2::Ls) (Vs.perm (Yq _ _ _ _ _)) ?_
 (refine Ae Z<|AI Z Z Z ?_)
 refine FY (α:=Nat×TypeId) (β:=Unit) [(0,Ag s),(2,pZ b2),(5,pZ b5),(6,pZ b6)] (fun x=>[(131,.slice (some ⟨x.1,0,none⟩) 1 1)]) (fun x d L=>L=[bx x.1 x.2 [Ag t.v.text]])
  (fun _=>[(123,.pointer (some ⟨qb,rs.reverse.length*3,none⟩)),(127,.slice ka o.ks.length kc)]) (fun _ d L=>L=bx b2 T2 [v0,v1,v2,v3,v4,v5]::hk::hl2::Ls)
  [] (bx b2 T2 [v0,v1,v2,v3,v4,v5]::hk::hl2::Ls) Z (fun x d d' M hl h=>h) (fun x d d' M hl h=>h) (fun x=>Z) (fun y=>Z) Z ⟨Z,Z,Z,Z,trivial⟩ ?_ ?_ ?_
 ·refine Ff (v0:=Ag t.v.text) Z Z (fun bl Tl=>?_)
  (apply AV)
  exact⟨_,Z,(bl,Tl),⟨Z,trivial⟩,Z⟩
 ·refine Mg Z (fun d6 hl6 hk6=>p3 d6 ((Dn (hk6 (bx b5 T5 [.slice (some ⟨qb,0,none⟩) (rs.reverse.length+1) qc]) (Aci _ (Acr ..)))).at (i:=0) Z)) ?_
  refine Mg Z (fun d6 hl6 hk6=>p3 d6 ((Dn (hk6 (bx b5 T5 [.slice (some ⟨qb,0,none⟩) (rs.reverse.length+1) qc]) (Aci _ (Acr ..)))).at (i:=0) Z)) ?_
  (refine A3 Z<|Ae Z<|Al Z (An 2 Z (by assumption))<|AV ?_)
  exact⟨_,Z,(),⟨Z,Z,trivial⟩,Z⟩
 rintro⟨bl,Tl⟩ ⟨⟩ ρ d2 M1 M2 hl2' hM1 hM2
 subst hM1;subst hM2
 have ht2:=hT hl2' ht
 have hgk2:=AQ.mono (R:=A9) CL hgk hl2'
 refine Dc (R:=A9) (ys:=[t.v.text]) 2 Z Z hgk2 Z (Src.lit (ys:=[t.v.text]) 3 Z Z Z Z (fun i hi=>?_)) (by omega) (by simp;omega) (by simp;omega) (fun kv2 hk2 hgk3=>?_)
 ·obtain rfl:i=0:=by simpa using hi
  have hI:A9 d2 [Ag t.v.text] t.v.text:=⟨Z,htl⟩
  exact hI
 obtain⟨ka2,kc2,rfl⟩:=hgk3.val
 have hg3:=qs1 (.slice ka2 (o.ks++[t.v.text]).length kc2) Z
 (refine A3 Z<|Ae Z<|B0 ?_)
 refine Au 2 (patch ql (rs.reverse.length*3+1) [.slice ka2 (o.ks++[t.v.text]).length kc2]) Z Z Z Z (by show rs.reverse.length*3+1+1≤_;omega) Z Z ?_
 clear q0 q1 q2 qs1
 generalize patch ql (rs.reverse.length*3+1) [.slice ka2 (o.ks++[t.v.text]).length kc2]=ql2 at*
 refine FB d2 (bx b6 T6 (Cl t)::bx b2 T2 [v0,v1,v2,v3,v4,v5]::bx b5 T5 [.slice (some ⟨qb,0,none⟩) (rs.reverse.length+1) qc]::bx qb qT ql2::hk2::hl2::Ls)
  ((Vs.drop (Agt _ (Agt _ (Agt _ (Ads _ (Acy _)))))).trans (Vs.perm (Yq _ _ _ _ _).symm)) ?_
 refine G0 [(0,Ag s),(2,pZ b2),(5,pZ b5),(6,pZ b6)] ⟨Z,Z,Z,Z,trivial⟩ ?_
 (apply Bq;apply j_g;apply Ar;apply Ak;rfl;apply Ae;rfl;apply Al;rfl;exact An 0 Z Z)
 refine AG Z (p1 _ ht2) ?_
 refine Au 0 (Cl t2) Z Z Z Z (Aca Z) Z Z ?_
 by_cases k4:t2.e≠0
 ·have hR:=hrun.inr (R:=.error t2.e) (by rw[BB.eq_def];simp only;rw[if_neg k1,if_neg k23,if_pos k4])
  (apply Av;apply Bq;apply j_g;refine Am<|Aj<|AI Z Z Z<|AB Z Z<|Ao Z<|Bn Z<|Ax ?_)
  refine BS [bx b6 T6 (Cl t2)] (bx b2 T2 [v0,v1,v2,v3,v4,v5]::bx b5 T5 [.slice (some ⟨qb,0,none⟩) (rs.reverse.length+1) qc]::bx qb qT ql2::hk2::hl2::Ls) Z ?_
  (refine Bs<|AI Z Z Z<|AI Z Z Z ?_)
  refine Au 0 z6 Z Z Z Z (Aca Z) Z Z ?_
  (refine Ab Z<|Ab Z<|AV<|En ?_)
  exact D3 hR Z Z Z Z
 have k4':t2.e=0:=by omega
 by_cases k5:t2.sign≠58
 ·have hR:=hrun.inr (R:=.error 60) (by rw[BB.eq_def];simp only;rw[if_neg k1,if_neg k23,if_neg k4,if_pos k5])
  (apply Av;apply Bq;apply j_g;refine Am<|Aj<|AI Z Z Z<|AB Z Z<|Ao Z<|AH Z<|Aj<|AI Z Z Z<|AB Z Z<|Ao Z<|Bn Z<|Ax ?_)
  refine BS [bx b6 T6 (Cl t2)] (bx b2 T2 [v0,v1,v2,v3,v4,v5]::bx b5 T5 [.slice (some ⟨qb,0,none⟩) (rs.reverse.length+1) qc]::bx qb qT ql2::hk2::hl2::Ls) Z ?_
  (refine Bs<|AI Z Z Z ?_)
  refine Au 0 z6 Z Z Z Z (Aca Z) Z Z ?_
  (refine Ab Z<|Ab Z<|AV<|En ?_)
  exact D3 hR Z Z Z Z
 obtain⟨hto2,htk3,ts3,rfl⟩:=htk2.too k4' (by omega)
 have hs1:BB (.pair o st (t::t2::Ce s t2.too::ts3))=some (.inl (.begin_ (⟨o.nm,o.ks++[t.v.text],o.l⟩::st) (Ce s t2.too::ts3))):=by
  rw[BB.eq_def];simp only;rw[if_neg k1,if_neg k23,if_neg k4,if_neg k5]
 obtain⟨m',hm,hrun2⟩:=hrun.inl hs1
 have p2:=h1 (d:=d2) (s:=s) (p:=t2.too) ht2 (by omega) hto2
 generalize Ce s t2.too=t3 at*
 (apply Av;apply Bq;apply j_g;refine Am<|Aj<|AI Z Z Z<|AB Z Z<|Ao Z<|AH Z<|Aj<|AI Z Z Z<|AB Z Z<|Ao Z<|AH Z<|Ay ?_;apply Bq;apply j_g;refine Ar<|Ak Z<|AI Z Z Z ?_)
 refine AG Z p2 ?_
 refine Au 0 (Cl t3) Z Z Z Z (Aca Z) Z Z ?_
 (apply Av;apply Bq)
 apply Hg
 exact⟨m',hm,ht2,t3,ts3,[v0,v1,v2,v3,v4,v5],htk3,Z,.inl ⟨Z,⟨o.nm,o.ks++[t.v.text],o.l⟩::st,⟨b2,T2,b5,T5,b6,T6,.slice (some ⟨qb,0,none⟩) (rs.reverse.length+1) qc,(ki,.slice ka2 (o.ks++[t.v.text]).length kc2,lv)::rs,_,hk2::hl2::Ls,⟨Z,Z,Z,Z,trivial⟩,Z,Z,by rw[Ael];exact AQ.mono (R:=E8) (fun _ h=>h) hg3 hl2',hki,hgk3,AQ.mono (R:=Az) Cn hgl hl2',hst2.mono hl2'⟩,hrun2⟩⟩
end
def Yj{α}(a b c d:α)(l:List α):(a::b::c::d::l).Perm (b::c::d::a::l):=by
 have h:([a,b,c,d]:List α).Perm ([b,c,d]++[a]):=Adh (l₁:=[a]) (l₂:=[b,c,d]);exact h.append_right l
def Xg{s}{v:V}(he:FW s=.ok v){ρ d}{b2:Nat}{T2 vc L}(hv:Az d vc v)(h2:ρ 2=pZ b2)(h3:ρ 3=vZ 0)(h4:ρ 4=vZ 0)(hL:L[1]?=some (bx b2 T2 vc)):
  Cb [.cell 2 (some 6),.tmp 3,.tmp 4] (Ha s) ρ d L:=by
 have hw:Fu s=0:=by rw[Fu,he]
 have hv2:Cj s=v:=by rw[Cj,he]
 refine Ba [.agg vc.toArray,vZ 0,vZ 0] ⟨Bc 1 h2 hL hv.len,h3.symm,h4.symm,trivial⟩ (Acb _) ⟨Z,vc,0,?_,?_⟩
 ·rw[hw];rfl
 ·rw[hv2];exact hv
set_option maxHeartbeats 2000000 in
def VG{T:Ad→Prop}(hT:∀{d d'},Le d d'→T d→T d'){P}(h1:IW T P f1)(h3:KS P f3)
  {s}(hl:s.length≤1000) {W m:Nat}(hW:W≤900000) {ρ d L}(hJ:JP T s W 0 m ρ d L):
  jwp P (Um (DY f1 f2 f3 f4 f5) 2) (mkPost [.cell 2 (some 6),.tmp 3,.tmp 4] (Ha s)) (fun l ρ d L=>∃m',m'<m∧JP T s W l m' ρ d L) ρ d L:=by
 obtain⟨ht,t,ts,vc,htk,hvc,h⟩:=hJ
 obtain⟨st,v,⟨b2,T2,b5,T5,b6,T6,sv,rs,h0,Ls,hs, -,rfl,hg,hst⟩,hv,hrun⟩:∃st v,MSt s ρ d L st vc t∧Az d vc v∧Run s W m (.behind st v (t::ts)):=by
  rcases h with ⟨h,_⟩|⟨h,_⟩|⟨_,h⟩|⟨h,_⟩
  ·cases h
  ·cases h
  ·exact h
  ·cases h
 clear h
 obtain⟨v0,v1,v2,v3,v4,v5,rfl⟩:=six hvc
 have hvall:=AW _ _ _ hv
 have hslen:=hst.len
 have hok:=hrun.2.2
 have hwt:wst st+BG v+(wtT t+wts ts)≤W:=hrun.2.1
 have hrl:rs.reverse.length=st.length:=by rw[Afw,hst.len]
 show jwp P _ _ _ _ _ _
 refine G0 _ hs ?_
 clear hs
 obtain⟨sa,sc,rfl⟩:=hg.val
 by_cases k1:t.e≠0
 ·have hR:=hrun.inr (R:=.error t.e) (by cases st<;>(rw[BB.eq_def];simp only;rw[if_pos k1]))
  (apply Bq;apply j_g;apply Am;apply Ax;apply Ar;apply Ae;rfl;apply Al;rfl;exact An 0 Z Z;apply AB;rfl;rfl;apply Ac;rfl;apply Av;refine Hb Z (by omega) ?_;apply Ax)
  refine BS [bx b6 T6 (Cl t)] (bx b2 T2 [v0,v1,v2,v3,v4,v5]::bx b5 T5 [.slice sa rs.reverse.length sc]::h0::Ls) Z ?_
  (refine Bs<|AI Z Z Z<|AI Z Z Z ?_)
  refine Au 0 z6 Z Z Z Z (Aca Z) Z Z ?_
  (refine Ab Z<|Ab Z<|AV<|En ?_)
  exact D3 hR Z Z Z Z
 have k1':t.e=0:=by omega
 cases st with
 |nil=>
  have hr0:rs.reverse.length=0:=hrl
  by_cases k2:t.sign=255
  ·have hR:=hrun.inr (R:=.ok v) (by rw[BB.eq_def];simp only;rw[if_neg k1,if_neg (by omega)])
   (apply Bq;apply j_g;apply Am;apply Ax;apply Ar;apply Ae;rfl;apply Al;rfl;exact An 0 Z Z;apply AB;rfl;rfl;apply Ac;rfl;apply Av;refine EH Z (by omega) ?_;apply Ax;apply Ar;apply Ae;rfl;apply Al;rfl;exact An 2 Z Z;apply AK;rfl;apply Ai;rfl;rfl;apply Ac;rfl;refine Ey Z (by omega) ?_;apply Aa;rfl;apply Ae;rfl;apply Aa;rfl;apply Al;rfl;exact An 0 Z Z;apply Aa;rfl;apply Ai;rfl;rfl;apply Ah;rfl;rfl;apply Ac;rfl;apply Av;refine Hb Z (by omega) ?_;apply Ax;apply Ar;apply AP 1;rfl;rfl;rfl)
   refine Au 1 [v0,v1,v2,v3,v4,v5] Z Z Z Z (Aca Z) hvall Z ?_
   (refine Ab Z<|AM Z ?_)
   exact Xg hR hv Z Z Z Z
  ·have hR:=hrun.inr (R:=.error 60) (by rw[BB.eq_def];simp only;rw[if_neg k1,if_pos k2])
   (apply Bq;apply j_g;apply Am;apply Ax;apply Ar;apply Ae;rfl;apply Al;rfl;exact An 0 Z Z;apply AB;rfl;rfl;apply Ac;rfl;apply Av;refine EH Z (by omega) ?_;apply Ax;apply Ar;apply Ae;rfl;apply Al;rfl;exact An 2 Z Z;apply AK;rfl;apply Ai;rfl;rfl;apply Ac;rfl;refine Ey Z (by omega) ?_;apply Aa;rfl;apply Ae;rfl;apply Aa;rfl;apply Al;rfl;exact An 0 Z Z;apply Aa;rfl;apply Ai;rfl;rfl;apply Ah;rfl;rfl;apply Ac;rfl;apply Av;refine EH Z (by omega) ?_;apply Ax;apply Ar;apply Ae;rfl;apply Al;rfl;exact An 2 Z Z;apply AK;rfl;apply Ai;rfl;rfl;apply Ac;rfl;apply Av;refine Hb Z (by omega) ?_;apply Ax)
   refine BS [bx b6 T6 (Cl t)] (bx b2 T2 [v0,v1,v2,v3,v4,v5]::bx b5 T5 [.slice sa rs.reverse.length sc]::h0::Ls) Z ?_
   (refine Bs<|AI Z Z Z ?_)
   refine Au 0 z6 Z Z Z Z (Aca Z) Z Z ?_
   (refine Ab Z<|Ab Z<|AV<|En ?_)
   exact D3 hR Z Z Z Z
 |cons o st=>
 have hstl:=Mo st
 rw[wst] at hwt
 have hr0:rs.reverse.length≠0:=by rw[hrl];simp
 obtain⟨⟨ki,kv,lv⟩,rs,hk,hl2,Ls,rfl,rfl,hki,hgk,hgl,hst2⟩:=hst.inv
 simp only at hki hgk hgl
 have hrl2:rs.reverse.length=st.length:=by rw[Afw,hst2.len]
 have hlen1:((ki,kv,lv)::rs).reverse.length=rs.reverse.length+1:=by simp
 rw[hlen1] at hg hr0⊢
 clear hrl hslen
 rw[Ael] at hg
 obtain⟨qb,qT,ql,qc,qe,rfl,qle,q0,q1,q2, -, -,qs2⟩:=KI hg
 cases qe
 simp only at q0 q1 q2 qs2
 obtain⟨la,lc,rfl⟩:=hgl.val
 have p3:∀d6,DC d6 b5 0 (.slice (some ⟨qb,0,none⟩) (rs.reverse.length+1) sc)→AO P f3 [pZ b5] d6 (.pointer (some ⟨qb,rs.reverse.length*3,none⟩)):=fun d6 h=>by
  have:=h3 (by omega) h (by omega);rwa [Afo] at this
 have hll:=Kx o.l
 (apply Bq;apply j_g;apply Am;apply Ax;apply Ar;apply Ae;rfl;apply Al;rfl;exact An 0 Z Z;apply AB;rfl;rfl;apply Ac;rfl;apply Av;refine EH Z (by omega) ?_;apply Ax;apply Ar;apply Ae;rfl;apply Al;rfl;exact An 2 Z Z;apply AK;rfl;apply Ai;rfl;rfl;apply Ac;rfl;refine Eo Z (by omega) ?_;apply AF;rfl;apply AF;rfl;apply AF;rfl;apply Af;rfl;rfl;apply Ac;rfl;apply Av;apply A7;rfl;apply Ax;apply Ar;apply Ae;rfl;apply Al;rfl;exact An 2 Z Z;apply AK;rfl;apply Ai;rfl;rfl;apply Ac;rfl;apply Av;refine EH Z (by omega) ?_;apply Ay;apply Bq;apply j_g)
 refine IH [bx b2 T2 [v0,v1,v2,v3,v4,v5],bx b5 T5 [.slice (some ⟨qb,0,none⟩) (rs.reverse.length+1) sc],bx qb qT ql] (bx b6 T6 (Cl t)::hk::hl2::Ls) (Vs.perm (Yj _ _ _ _ _)) ?_
 (apply AP 0;rfl;rfl;rfl)
 refine FY (α:=Nat×TypeId) (β:=Unit) [(0,Ag s),(2,pZ b2),(5,pZ b5),(6,pZ b6)] (fun x=>[(193,.slice (some ⟨x.1,0,none⟩) 1 1)]) (fun x d L=>L=[bx x.1 x.2 [v0,v1,v2,v3,v4,v5]])
  (fun _=>[(187,.pointer (some ⟨qb,rs.reverse.length*3,none⟩)),(191,.slice la o.l.length lc)]) (fun _ d L=>L=bx b6 T6 (Cl t)::hk::hl2::Ls)
  [] (bx b6 T6 (Cl t)::hk::hl2::Ls) Z (fun x d d' M hl h=>h) (fun x d d' M hl h=>h) (fun x=>Z) (fun y=>Z) Z ⟨Z,Z,Z,Z,trivial⟩ ?_ ?_ ?_
 ·refine FC Z Z (fun bl Tl=>?_)
  (apply AV)
  exact⟨_,Z,(bl,Tl),⟨Z,trivial⟩,Z⟩
 ·refine Mg Z (fun d6 hl6 hk6=>p3 d6 ((Dn (hk6 (bx b5 T5 [.slice (some ⟨qb,0,none⟩) (rs.reverse.length+1) sc]) (Aci _ (Acr ..)))).at (i:=0) Z)) ?_
  refine Mg Z (fun d6 hl6 hk6=>p3 d6 ((Dn (hk6 (bx b5 T5 [.slice (some ⟨qb,0,none⟩) (rs.reverse.length+1) sc]) (Aci _ (Acr ..)))).at (i:=0) Z)) ?_
  (refine A3 Z<|Ae Z<|Al Z (An 2 Z (by assumption))<|AV ?_)
  exact⟨_,Z,(),⟨Z,Z,trivial⟩,Z⟩
 rintro⟨bl,Tl⟩ ⟨⟩ ρ d2 M1 M2 hl2' hM1 hM2
 subst hM1;subst hM2
 have ht2:=hT hl2' ht
 have hgl2:=AQ.mono (R:=Az) Cn hgl hl2'
 have hv2:=Az.mono hl2' hv
 refine Dc (R:=Az) (ys:=[v]) 3 Z Z hgl2 Z (Src.lit (ys:=[v]) 3 Z Z Z hvall (fun i hi=>?_)) (by omega) (by simp;omega) (by simp;omega) (fun lv2 hl3 hgl3=>?_)
 ·obtain rfl:i=0:=by simpa using hi
  exact hv2
 obtain⟨la2,lc2,rfl⟩:=hgl3.val
 have hg3:=qs2 (.slice la2 (o.l++[v]).length lc2) Z
 have q0':(patch ql (rs.reverse.length*3+2) [.slice la2 (o.l++[v]).length lc2])[rs.reverse.length*3]?=some (Value.int .i64 ki):=by
  rw[EF (by show rs.reverse.length*3+2+1≤ql.length;omega),if_neg (by omega)];exact q0
 (refine A3 Z<|Ae Z<|B0 ?_)
 refine Au 2 (patch ql (rs.reverse.length*3+2) [.slice la2 (o.l++[v]).length lc2]) Z Z Z Z (by show rs.reverse.length*3+2+1≤_;omega) Z Z ?_
 clear q0 q1 q2 qs2
 generalize patch ql (rs.reverse.length*3+2) [.slice la2 (o.l++[v]).length lc2]=ql2 at*
 have hgR:AQ 3 E8 d2 (.slice (some ⟨qb,0,none⟩) (rs.reverse.length+1) sc) (((ki,kv,.slice la2 (o.l++[v]).length lc2):Raw)::rs).reverse (bx qb qT ql2):=by
  rw[Ael];exact AQ.mono (R:=E8) (fun _ h=>h) hg3 hl2'
 refine FB d2 (bx b6 T6 (Cl t)::bx b2 T2 [v0,v1,v2,v3,v4,v5]::bx b5 T5 [.slice (some ⟨qb,0,none⟩) (rs.reverse.length+1) sc]::bx qb qT ql2::hk::hl3::Ls)
  ((Vs.drop (Agt _ (Agt _ (Agt _ (Ads _ (Acy _)))))).trans (Vs.perm (Yj _ _ _ _ _).symm)) ?_
 refine G0 [(0,Ag s),(2,pZ b2),(5,pZ b5),(6,pZ b6)] ⟨Z,Z,Z,Z,trivial⟩ ?_
 clear hok hst hg hgl
 by_cases k4:t.sign=44
 ·by_cases hnm:o.nm=false
  ·have hk5:ki=5:=by rw[hki,Mj,hnm];rfl
   obtain⟨hto,htk2,ts2,rfl⟩:=htk.too k1' (by omega)
   have hs1:BB (.behind (o::st) v (t::Ce s t.too::ts2))=some (.inl (.begin_ (⟨o.nm,o.ks,o.l++[v]⟩::st) (Ce s t.too::ts2))):=by
    rw[BB.eq_def];simp only;rw[if_neg k1,if_pos k4,if_pos hnm]
   obtain⟨m',hm,hrun2⟩:=hrun.inl hs1
   have p1:=h1 (d:=d2) (s:=s) (p:=t.too) ht2 (by omega) hto
   generalize Ce s t.too=t2 at*
   clear hnm
   (apply Bq;apply D4;apply Bq;apply j_g;apply Ar;apply Ae;rfl;apply Al;rfl;exact An 0 Z Z;apply Ai;rfl;rfl;apply Ac;rfl;refine Ey Z (by omega) ?_;apply Aa;rfl)
   refine Cv Z (fun d6 hl6 hk6=>p3 d6 ((Dn (hk6 (bx b5 T5 [.slice (some ⟨qb,0,none⟩) (rs.reverse.length+1) sc]) (Aci _ (Aci _ (Acr ..))))).at (i:=0) Z)) ?_
   (refine Aa Z<|A3 Z<|Aa Z<|Ae Z<|Aa Z<|Al Z (An 3 Z (by assumption))<|Aa Z<|Ai Z Z<|Ah Z Z<|Ao Z ?_;refine Gn Z (by omega) ?_;apply Bq;apply j_g;refine Ar<|Ak Z<|AI Z Z Z ?_)
   refine AG Z p1 ?_
   refine Au 0 (Cl t2) Z Z Z Z (Aca Z) Z Z ?_
   (apply Av)
   apply Hg
   exact⟨m',hm,ht2,t2,ts2,[v0,v1,v2,v3,v4,v5],htk2,Z,.inl ⟨Z,⟨o.nm,o.ks,o.l++[v]⟩::st,⟨b2,T2,b5,T5,b6,T6,.slice (some ⟨qb,0,none⟩) (rs.reverse.length+1) sc,(ki,kv,.slice la2 (o.l++[v]).length lc2)::rs,_,hk::hl3::Ls,⟨Z,Z,Z,Z,trivial⟩,Z,Z,hgR,hki,AQ.mono (R:=A9) CL hgk hl2',hgl3,hst2.mono hl2'⟩,hrun2⟩⟩
  ·have hk6:ki=6:=by
    rw[hki,Mj,if_pos (by simpa using hnm)]
   obtain⟨hto,htk2,ts2,rfl⟩:=htk.too k1' (by omega)
   have hs1:BB (.behind (o::st) v (t::Ce s t.too::ts2))=some (.inl (.pair ⟨o.nm,o.ks,o.l++[v]⟩ st (Ce s t.too::ts2))):=by
    rw[BB.eq_def];simp only;rw[if_neg k1,if_pos k4,if_neg hnm]
   obtain⟨m',hm,hrun2⟩:=hrun.inl hs1
   have p1:=h1 (d:=d2) (s:=s) (p:=t.too) ht2 (by omega) hto
   generalize Ce s t.too=t2 at*
   clear hnm
   (apply Bq;apply D4;apply Bq;apply j_g;apply Ar;apply Ae;rfl;apply Al;rfl;exact An 0 Z Z;apply Ai;rfl;rfl;apply Ac;rfl;refine Ey Z (by omega) ?_;apply Aa;rfl)
   refine Cv Z (fun d6 hl6 hk6=>p3 d6 ((Dn (hk6 (bx b5 T5 [.slice (some ⟨qb,0,none⟩) (rs.reverse.length+1) sc]) (Aci _ (Aci _ (Acr ..))))).at (i:=0) Z)) ?_
   (refine Aa Z<|A3 Z<|Aa Z<|Ae Z<|Aa Z<|Al Z (An 3 Z (by assumption))<|Aa Z<|Ai Z Z<|Ah Z Z<|Ao Z ?_;refine Dv Z (by omega) ?_;apply Bq;apply j_g;refine Ar<|AI Z Z Z<|Ai Z Z<|Ao Z ?_;refine Gn Z (by omega) ?_;apply Bq;apply j_g;refine Ar<|Ak Z<|AI Z Z Z ?_)
   refine AG Z p1 ?_
   refine Au 0 (Cl t2) Z Z Z Z (Aca Z) Z Z ?_
   (apply Av)
   apply Hg
   exact⟨m',hm,ht2,t2,ts2,[v0,v1,v2,v3,v4,v5],htk2,Z,.inr (.inl ⟨Z,⟨o.nm,o.ks,o.l++[v]⟩,st,⟨b2,T2,b5,T5,b6,T6,.slice (some ⟨qb,0,none⟩) (rs.reverse.length+1) sc,(ki,kv,.slice la2 (o.l++[v]).length lc2)::rs,_,hk::hl3::Ls,⟨Z,Z,Z,Z,trivial⟩,Z,Z,hgR,hki,AQ.mono (R:=A9) CL hgk hl2',hgl3,hst2.mono hl2'⟩,hrun2⟩)⟩
 have k4':¬t.sign=44:=k4
 by_cases hnm:o.nm=false
 ·have hk5:ki=5:=by rw[hki,Mj,hnm];rfl
  have he:Dl o.nm=93:=by rw[hnm];rfl
  by_cases k5:t.sign=93
  ·have hs1:BB (.behind (o::st) v (t::ts))=some (.inl (.shut ⟨o.nm,o.ks,o.l++[v]⟩ st (t::ts))):=by
    rw[BB.eq_def];simp only;rw[if_neg k1,if_neg k4,he,if_pos k5]
   obtain⟨m',hm,hrun2⟩:=hrun.inl hs1
   clear hnm he
   (apply Bq;apply D4;apply Bq;apply j_g;apply Ar;apply Ae;rfl;apply Al;rfl;exact An 0 Z Z;apply Ai;rfl;rfl;apply Ac;rfl;refine Eo Z (by omega) ?_;apply AF;rfl;apply AF;rfl;apply AF;rfl;apply AF;rfl;apply AF;rfl;apply Af;rfl;rfl;apply Ac;rfl;apply Av;apply EC;rfl;apply Bq;apply j_g;apply Ar;apply Ae;rfl;apply Al;rfl;exact An 0 Z Z;apply Ai;rfl;rfl;apply Ac;rfl;apply Av;refine Dv Z (by omega) ?_;apply Bq;apply j_g;apply Ax;apply Ar;apply Ae;rfl;apply Al;rfl;exact An 0 Z Z;apply Ai;rfl;rfl;apply Ac;rfl;refine Ey Z (by omega) ?_;apply Aa;rfl)
   refine Cv Z (fun d6 hl6 hk6=>p3 d6 ((Dn (hk6 (bx b5 T5 [.slice (some ⟨qb,0,none⟩) (rs.reverse.length+1) sc]) (Aci _ (Aci _ (Acr ..))))).at (i:=0) Z)) ?_
   (refine Aa Z<|A3 Z<|Aa Z<|Ae Z<|Aa Z<|Al Z (An 3 Z (by assumption))<|Aa Z<|Ai Z Z<|Ah Z Z<|Ao Z<|Bn Z<|Ay ?_;refine Gn Z (by omega) ?_)
   apply Hg
   exact⟨m',hm,ht2,t,ts,[v0,v1,v2,v3,v4,v5],htk,Z,.inr (.inr (.inr ⟨Z,⟨o.nm,o.ks,o.l++[v]⟩,st,⟨b2,T2,b5,T5,b6,T6,.slice (some ⟨qb,0,none⟩) (rs.reverse.length+1) sc,(ki,kv,.slice la2 (o.l++[v]).length lc2)::rs,_,hk::hl3::Ls,⟨Z,Z,Z,Z,trivial⟩,Z,Z,hgR,hki,AQ.mono (R:=A9) CL hgk hl2',hgl3,hst2.mono hl2'⟩,hrun2⟩))⟩
  ·have hR:=hrun.inr (R:=.error 60) (by rw[BB.eq_def];simp only;rw[if_neg k1,if_neg k4,he,if_neg k5])
   clear hnm he
   by_cases k6:t.sign=125
   ·(apply Bq;apply D4;apply Bq;apply j_g;apply Ar;apply Ae;rfl;apply Al;rfl;exact An 0 Z Z;apply Ai;rfl;rfl;apply Ac;rfl;refine Eo Z (by omega) ?_;apply AF;rfl;apply AF;rfl;apply AF;rfl;apply AF;rfl;apply AF;rfl;apply Af;rfl;rfl;apply Ac;rfl;apply Av;apply EC;rfl;apply Bq;apply j_g;apply Ar;apply Ae;rfl;apply Al;rfl;exact An 0 Z Z;apply Ai;rfl;rfl;apply Ac;rfl;apply Av;refine Dv Z (by omega) ?_;apply Bq;apply j_g;apply Ax;apply Ar;apply Ae;rfl;apply Al;rfl;exact An 0 Z Z;apply Ai;rfl;rfl;apply Ac;rfl;refine Eo Z (by omega) ?_;apply AF;rfl;apply AF;rfl;apply AF;rfl;apply AF;rfl;apply AF;rfl;apply Af;rfl;rfl;apply Ac;rfl;apply Av;apply A7;rfl;apply Ar;apply Ae;rfl;apply Al;rfl;exact An 0 Z Z;apply Ai;rfl;rfl;apply Ac;rfl;refine Ey Z (by omega) ?_;apply Aa;rfl)
    refine Cv Z (fun d6 hl6 hk6=>p3 d6 ((Dn (hk6 (bx b5 T5 [.slice (some ⟨qb,0,none⟩) (rs.reverse.length+1) sc]) (Aci _ (Aci _ (Acr ..))))).at (i:=0) Z)) ?_
    (refine Aa Z<|A3 Z<|Aa Z<|Ae Z<|Aa Z<|Al Z (An 3 Z (by assumption))<|Aa Z<|Ai Z Z<|Ah Z Z<|Ao Z ?_;refine Dv Z (by omega) ?_;apply j_g;apply Ay;apply Bq;apply j_g;apply Ax)
    refine BS [bx b6 T6 (Cl t)] (bx b2 T2 [v0,v1,v2,v3,v4,v5]::bx b5 T5 [.slice (some ⟨qb,0,none⟩) (rs.reverse.length+1) sc]::bx qb qT ql2::hk::hl3::Ls) Z ?_
    (refine Bs<|AI Z Z Z ?_)
    refine Au 0 z6 Z Z Z Z (Aca Z) Z Z ?_
    (refine Ab Z<|Ab Z<|AV<|En ?_)
    exact D3 hR Z Z Z Z
   ·skip
    (apply Bq;apply D4;apply Bq;apply j_g;apply Ar;apply Ae;rfl;apply Al;rfl;exact An 0 Z Z;apply Ai;rfl;rfl;apply Ac;rfl;refine Eo Z (by omega) ?_;apply AF;rfl;apply AF;rfl;apply AF;rfl;apply AF;rfl;apply AF;rfl;apply Af;rfl;rfl;apply Ac;rfl;apply Av;apply EC;rfl;apply Bq;apply j_g;apply Ar;apply Ae;rfl;apply Al;rfl;exact An 0 Z Z;apply Ai;rfl;rfl;apply Ac;rfl;apply Av;refine Dv Z (by omega) ?_;apply Bq;apply j_g;apply Ax;apply Ar;apply Ae;rfl;apply Al;rfl;exact An 0 Z Z;apply Ai;rfl;rfl;apply Ac;rfl;refine Eo Z (by omega) ?_;apply AF;rfl;apply AF;rfl;apply AF;rfl;apply AF;rfl;apply AF;rfl;apply Af;rfl;rfl;apply Ac;rfl;apply Av;apply A7;rfl;apply Ar;apply Ae;rfl;apply Al;rfl;exact An 0 Z Z;apply Ai;rfl;rfl;apply Ac;rfl;refine Eo Z (by omega) ?_;apply AF;rfl;apply AF;rfl;apply AF;rfl;apply AF;rfl;apply AF;rfl;apply Af;rfl;rfl;apply Ac;rfl;apply Av;apply EC;rfl;apply j_g;apply Ay;apply Bq;apply j_g;apply Ax)
    refine BS [bx b6 T6 (Cl t)] (bx b2 T2 [v0,v1,v2,v3,v4,v5]::bx b5 T5 [.slice (some ⟨qb,0,none⟩) (rs.reverse.length+1) sc]::bx qb qT ql2::hk::hl3::Ls) Z ?_
    (refine Bs<|AI Z Z Z ?_)
    refine Au 0 z6 Z Z Z Z (Aca Z) Z Z ?_
    (refine Ab Z<|Ab Z<|AV<|En ?_)
    exact D3 hR Z Z Z Z
 ·have hk6:ki=6:=by
   rw[hki,Mj,if_pos (by simpa using hnm)]
  have he:Dl o.nm=125:=by
   rw[show o.nm=true by simpa using hnm];rfl
  by_cases k5:t.sign=125
  ·have hs1:BB (.behind (o::st) v (t::ts))=some (.inl (.shut ⟨o.nm,o.ks,o.l++[v]⟩ st (t::ts))):=by
    rw[BB.eq_def];simp only;rw[if_neg k1,if_neg k4,he,if_pos k5]
   obtain⟨m',hm,hrun2⟩:=hrun.inl hs1
   clear hnm he
   (apply Bq;apply D4;apply Bq;apply j_g;apply Ar;apply Ae;rfl;apply Al;rfl;exact An 0 Z Z;apply Ai;rfl;rfl;apply Ac;rfl;refine Eo Z (by omega) ?_;apply AF;rfl;apply AF;rfl;apply AF;rfl;apply AF;rfl;apply AF;rfl;apply Af;rfl;rfl;apply Ac;rfl;apply Av;apply EC;rfl;apply Bq;apply j_g;apply Ar;apply Ae;rfl;apply Al;rfl;exact An 0 Z Z;apply Ai;rfl;rfl;apply Ac;rfl;apply Av;refine Dv Z (by omega) ?_;apply Bq;apply j_g;apply Ax;apply Ar;apply Ae;rfl;apply Al;rfl;exact An 0 Z Z;apply Ai;rfl;rfl;apply Ac;rfl;refine Eo Z (by omega) ?_;apply AF;rfl;apply AF;rfl;apply AF;rfl;apply AF;rfl;apply AF;rfl;apply Af;rfl;rfl;apply Ac;rfl;apply Av;apply A7;rfl;apply Ar;apply Ae;rfl;apply Al;rfl;exact An 0 Z Z;apply Ai;rfl;rfl;apply Ac;rfl;refine Ey Z (by omega) ?_;apply Aa;rfl)
   refine Cv Z (fun d6 hl6 hk6=>p3 d6 ((Dn (hk6 (bx b5 T5 [.slice (some ⟨qb,0,none⟩) (rs.reverse.length+1) sc]) (Aci _ (Aci _ (Acr ..))))).at (i:=0) Z)) ?_
   (refine Aa Z<|A3 Z<|Aa Z<|Ae Z<|Aa Z<|Al Z (An 3 Z (by assumption))<|Aa Z<|Ai Z Z<|Ah Z Z<|Ao Z ?_;refine Gn Z (by omega) ?_)
   apply Hg
   exact⟨m',hm,ht2,t,ts,[v0,v1,v2,v3,v4,v5],htk,Z,.inr (.inr (.inr ⟨Z,⟨o.nm,o.ks,o.l++[v]⟩,st,⟨b2,T2,b5,T5,b6,T6,.slice (some ⟨qb,0,none⟩) (rs.reverse.length+1) sc,(ki,kv,.slice la2 (o.l++[v]).length lc2)::rs,_,hk::hl3::Ls,⟨Z,Z,Z,Z,trivial⟩,Z,Z,hgR,hki,AQ.mono (R:=A9) CL hgk hl2',hgl3,hst2.mono hl2'⟩,hrun2⟩))⟩
  ·have hR:=hrun.inr (R:=.error 60) (by rw[BB.eq_def];simp only;rw[if_neg k1,if_neg k4,he,if_neg k5])
   clear hnm he
   by_cases k6:t.sign=93
   ·(apply Bq;apply D4;apply Bq;apply j_g;apply Ar;apply Ae;rfl;apply Al;rfl;exact An 0 Z Z;apply Ai;rfl;rfl;apply Ac;rfl;refine Eo Z (by omega) ?_;apply AF;rfl;apply AF;rfl;apply AF;rfl;apply AF;rfl;apply AF;rfl;apply Af;rfl;rfl;apply Ac;rfl;apply Av;apply EC;rfl;apply Bq;apply j_g;apply Ar;apply Ae;rfl;apply Al;rfl;exact An 0 Z Z;apply Ai;rfl;rfl;apply Ac;rfl;apply Av;refine Dv Z (by omega) ?_;apply Bq;apply j_g;apply Ax;apply Ar;apply Ae;rfl;apply Al;rfl;exact An 0 Z Z;apply Ai;rfl;rfl;apply Ac;rfl;refine Ey Z (by omega) ?_;apply Aa;rfl)
    refine Cv Z (fun d6 hl6 hk6=>p3 d6 ((Dn (hk6 (bx b5 T5 [.slice (some ⟨qb,0,none⟩) (rs.reverse.length+1) sc]) (Aci _ (Aci _ (Acr ..))))).at (i:=0) Z)) ?_
    (refine Aa Z<|A3 Z<|Aa Z<|Ae Z<|Aa Z<|Al Z (An 3 Z (by assumption))<|Aa Z<|Ai Z Z<|Ah Z Z<|Ao Z<|AH Z<|Ar<|AI Z Z Z<|Ai Z Z<|Ac Z<|Aw Z<|Aq Z Z<|Aq Z Z<|AF Z<|Af Z Z<|Ao Z ?_;apply EC;rfl;apply j_g;apply Ay;apply Bq;apply j_g;apply Ax)
    refine BS [bx b6 T6 (Cl t)] (bx b2 T2 [v0,v1,v2,v3,v4,v5]::bx b5 T5 [.slice (some ⟨qb,0,none⟩) (rs.reverse.length+1) sc]::bx qb qT ql2::hk::hl3::Ls) Z ?_
    (refine Bs<|AI Z Z Z ?_)
    refine Au 0 z6 Z Z Z Z (Aca Z) Z Z ?_
    (refine Ab Z<|Ab Z<|AV<|En ?_)
    exact D3 hR Z Z Z Z
   ·skip
    (apply Bq;apply D4;apply Bq;apply j_g;apply Ar;apply Ae;rfl;apply Al;rfl;exact An 0 Z Z;apply Ai;rfl;rfl;apply Ac;rfl;refine Eo Z (by omega) ?_;apply AF;rfl;apply AF;rfl;apply AF;rfl;apply AF;rfl;apply AF;rfl;apply Af;rfl;rfl;apply Ac;rfl;apply Av;apply EC;rfl;apply Bq;apply j_g;apply Ar;apply Ae;rfl;apply Al;rfl;exact An 0 Z Z;apply Ai;rfl;rfl;apply Ac;rfl;apply Av;refine Dv Z (by omega) ?_;apply Bq;apply j_g;apply Ax;apply Ar;apply Ae;rfl;apply Al;rfl;exact An 0 Z Z;apply Ai;rfl;rfl;apply Ac;rfl;refine Eo Z (by omega) ?_;apply AF;rfl;apply AF;rfl;apply AF;rfl;apply AF;rfl;apply AF;rfl;apply Af;rfl;rfl;apply Ac;rfl;apply Av;apply A7;rfl;apply Ar;apply Ae;rfl;apply Al;rfl;exact An 0 Z Z;apply Ai;rfl;rfl;apply Ac;rfl;refine Eo Z (by omega) ?_;apply AF;rfl;apply AF;rfl;apply AF;rfl;apply AF;rfl;apply AF;rfl;apply Af;rfl;rfl;apply Ac;rfl;apply Av;apply EC;rfl;apply j_g;apply Ay;apply Bq;apply j_g;apply Ax)
    refine BS [bx b6 T6 (Cl t)] (bx b2 T2 [v0,v1,v2,v3,v4,v5]::bx b5 T5 [.slice (some ⟨qb,0,none⟩) (rs.reverse.length+1) sc]::bx qb qT ql2::hk::hl3::Ls) Z ?_
    (refine Bs<|AI Z Z Z ?_)
    refine Au 0 z6 Z Z Z Z (Aca Z) Z Z ?_
    (refine Ab Z<|Ab Z<|AV<|En ?_)
    exact D3 hR Z Z Z Z
def Tks.to2{s}{t:Tk}{ts:List Tk}(h:Tks s (t::ts))(hne:ts≠[]):t.too≤s.length∧Tks s ts∧∃r,ts=Ce s t.too::r:=by
 obtain⟨p,hp,h⟩:=h;rw[G2 hp] at h;have hn:=Hy hp;obtain⟨h1,h2⟩:=List.cons.inj h;subst h1;by_cases q:(Ce s p).on=true
 ·rw[if_pos q] at h2;subst h2;exact⟨hn.2.2.1,⟨_,hn.2.2.1,Z⟩,_,G2 hn.2.2.1⟩
 ·rw[if_neg q] at h2;exact absurd h2 hne
def Aam{s}{W m:Nat}{st:List Opn}{v:V}{ts:List Tk}(h:Run s W m (.behind st v ts)):ts≠[]:=by
 rintro rfl;obtain⟨h,_⟩:=h;cases m with
 |zero=>cases h
 |succ m=>cases st<;>(rw[runM,BB.eq_def] at h;cases h)
def Aba{α}(a b c d e f:α)(l:List α):(a::b::c::d::e::f::l).Perm (e::f::c::d::a::b::l):=by
 have h1:([a,b,c,d,e,f]:List α).Perm ([e,f]++[a,b,c,d]):=Adh (l₁:=[a,b,c,d]) (l₂:=[e,f]);have h2:([a,b,c,d]:List α).Perm ([c,d]++[a,b]):=Adh (l₁:=[a,b]) (l₂:=[c,d]);exact(h1.trans (h2.append_left [e,f])).append_right l
set_option maxHeartbeats 2000000 in
def Yy{T:Ad→Prop}(hT:∀{d d'},Le d d'→T d→T d'){P}(h1:IW T P f1)(h4:Qy P f4)(h5:MD T P f5)
  {s}(hl:s.length≤1000) {W m:Nat}(hW:W≤900000) {ρ d L}(hJ:JP T s W 2 m ρ d L):
  jwp P (Um (DY f1 f2 f3 f4 f5) 3) (mkPost [.cell 2 (some 6),.tmp 3,.tmp 4] (Ha s)) (fun l ρ d L=>∃m',m'<m∧JP T s W l m' ρ d L) ρ d L:=by
 obtain⟨ht,t,ts,vc,htk,hvc,h⟩:=hJ
 obtain⟨o,st,⟨b2,T2,b5,T5,b6,T6,sv,rs,h0,Ls,hs, -,rfl,hg,hst⟩,hrun⟩:∃o st,MSt s ρ d L (o::st) vc t∧Run s W m (.shut o st (t::ts)):=by
  rcases h with ⟨h,_⟩|⟨h,_⟩|⟨h,_⟩|⟨_,h⟩
  ·cases h
  ·cases h
  ·cases h
  ·exact h
 clear h
 obtain⟨v0,v1,v2,v3,v4,v5,rfl⟩:=six hvc
 have hwt:wst (o::st)+(wtT t+wts ts)≤W:=hrun.2.1
 have hstl:=Mo st
 rw[wst] at hwt
 obtain⟨m',hm,hrun2⟩:=hrun.inl (M':=.behind st (Fx o.nm o.ks o.l) ts) (by rw[BB.eq_def])
 obtain⟨hto,htk2,ts2,rfl⟩:=htk.to2 (Aam hrun2)
 obtain⟨⟨ki,kv,lv⟩,rs,hk,hl2,Ls,rfl,rfl,hki,hgk,hgl,hst2⟩:=hst.inv
 simp only at hki hgk hgl
 rw[Ael] at hg
 have hrl2:rs.reverse.length=st.length:=by rw[Afw,hst2.len]
 have hcl:∀x∈o.l,C8 x≤1000000:=fun x hx=>by
  have:=E6 hx;have:=FR x;omega
 subst hki
 show jwp P _ _ _ _ _ _
 refine G0 _ hs ?_
 clear hs hst
 apply Bq;apply j_g;apply Ar
 refine DT d (bx b5 T5 [sv]::h0::bx b6 T6 (Cl t)::bx b2 T2 [v0,v1,v2,v3,v4,v5]::hk::hl2::Ls) (Vs.perm ((Adh (l₁:=[bx b6 T6 (Cl t),bx b2 T2 [v0,v1,v2,v3,v4,v5]]) (l₂:=[bx b5 T5 [sv],h0])).append_right (hk::hl2::Ls))) ?_
 refine Cg (A:=[bx b5 T5 [sv],h0]) (B:=bx b6 T6 (Cl t)::bx b2 T2 [v0,v1,v2,v3,v4,v5]::hk::hl2::Ls) Z Z (h4 hg (by omega)) (fun r d2 L2 _ ⟨hdd,sv2,hr,hL,hp⟩=>?_)
 subst hdd;subst hL;subst hr
 refine DT d2 (hk::hl2::bx b6 T6 (Cl t)::bx b2 T2 [v0,v1,v2,v3,v4,v5]::bx b5 T5 [sv2]::h0::Ls) (Vs.perm (Aba _ _ _ _ _ _ _)) ?_
 refine DI (fun d3 hl3 hg3=>?_)
 refine DI (fun d4 hl4 hg4=>?_)
 have hk4:=hgk.rsl CL (by omega) (hl3.trans hl4) (hg3.trans hl4)
 have hl4':=hgl.rsl Cn (by omega) (hl3.trans hl4) hg4
 refine Bi Z (h5 (nm:=o.nm) (hT (hl3.trans hl4) ht) hk4 hl4' (by omega) hcl) (fun r d5 L5 hl5 ⟨hL,cs,hr,hv⟩=>?_)
 subst hL;subst hr
 obtain⟨c0,c1,c2,c3,c4,c5,rfl⟩:=six hv.len
 have hall:=AW _ _ _ hv
 have hl25:=(hl3.trans hl4).trans hl5
 have ht5:=hT hl25 ht
 have p1:=h1 (d:=d5) (s:=s) (p:=t.too) ht5 (by omega) hto
 generalize Ce s t.too=t2 at*
 refine Au 1 [c0,c1,c2,c3,c4,c5] Z Z Z Z (Aca Z) hall Z ?_
 (apply Av;apply Bq;apply j_g;refine Ar<|Ak Z<|AI Z Z Z ?_)
 refine AG Z p1 ?_
 refine Au 0 (Cl t2) Z Z Z Z (Aca Z) Z Z ?_
 (apply Av)
 apply Hg
 exact⟨m',hm,ht5,t2,ts2,[c0,c1,c2,c3,c4,c5],htk2,Z,.inr (.inr (.inl ⟨Z,st,_,⟨b2,T2,b5,T5,b6,T6,sv2,rs,h0,Ls,⟨Z,Z,Z,Z,trivial⟩,Z,Z,AQ.mono (R:=E8) (fun _ h=>h) hp hl25,hst2.mono hl25⟩,hv,hrun2⟩))⟩
def Hn(T:Ad→Prop)(P:Program)(f:FuncId):Prop:=∀{d s},T d→s.length≤1000→Be P f [Ag s] d [] (Ha s)
set_option maxHeartbeats 2000000 in
def V7{T:Ad→Prop}(hT:∀{d d'},Le d d'→T d→T d'){P f}(hd:Xz true P f=some (DY f1 f2 f3 f4 f5))(h1:IW T P f1)(h2:NQ P f2)(h3:KS P f3)(h4:Qy P f4)(h5:MD T P f5):Hn T P f:=by
 intro d s ht hl;obtain⟨m,hm⟩:=Zf (I4 s);have hWl:=JK s;have htk:Tks s (Dh s 0):=⟨0,Acu _,Z⟩
 have hok:=Iv s 0;have hc:=G2 (s:=s) (p:=0) (Acu _);have hrun:Run s (wts (Dh s 0)) m (.begin_ [] (Dh s 0)):=⟨hm,by simp only[wM,wst];omega,hok⟩
 generalize hW:wts (Dh s 0)=W at*;refine VT hd (Aca Z) (JP T s W) (m+1) ?_ ?_
 ·rw[hc] at htk hrun;have p1:=h1 (d:=d) (s:=s) (p:=0) ht (by omega) (Acu _);generalize Ce s 0=t at*;generalize (if t.on=true then Dh s t.too else [])=ts at*;show gwp P _ _ _ _ _;(refine Ar<|BR (fun _ _=>Ab Z<|AL Z ?_);apply Bq;apply j_g;refine Aj<|Ak Z<|AX Z<|AS Z Z<|AJ Z ?_;apply Bq;apply j_g;refine Ar<|BR (fun _ _=>Av ?_);apply Bq;apply j_g;refine Ar<|BR (fun _ _=>Av ?_);apply Bq;apply j_g;refine Ar<|Ak Z ?_);refine AG Z p1<|Au 0 (Cl t) Z Z Z Z (Aca Z) Z Z ?_;rename_i b2 T2 b5 T5 b6 T6;refine FB d [bx b6 T6 (Cl t),bx b2 T2 z6,bx b5 T5 [nV],emp] (Vs.emp.trans (Vs.pick [1,3,2,0] Z)) ?_;apply Hg;exact⟨m,Ahg m,ht,t,ts,z6,htk,Z,.inl ⟨Z,[],⟨b2,T2,b5,T5,b6,T6,nV,[],emp,[],⟨Z,Z,Z,Z,trivial⟩,Z,Z,AQ.nil,trivial⟩,hrun⟩⟩
 ·intro x hx m ρ d L hJ;have hx':x∈[((DY f1 f2 f3 f4 f5).labs.getD 0 (0,.bad)),((DY f1 f2 f3 f4 f5).labs.getD 1 (0,.bad)),((DY f1 f2 f3 f4 f5).labs.getD 2 (0,.bad)),((DY f1 f2 f3 f4 f5).labs.getD 3 (0,.bad))]:=hx;simp only[Adj,Afz,or_false] at hx';rcases hx' with rfl|rfl|rfl|rfl
  ·exact XM hT h1 h2 h3 hl (by omega) hJ
  ·exact Zy hT h1 h3 hl (by omega) hJ
  ·exact VG hT h1 h3 hl (by omega) hJ
  ·exact Yy hT h1 h4 h5 hl (by omega) hJ
end Go.Gk.Jsn
end
section
namespace Go.Gk.Jsn
open Go Go.Gk Go.Gk.Val
attribute [local irreducible] gwp gws
def W8(l:List UInt8):(C2 l).1≠1:=by
 cases l with
 |nil=>simp[C2]
 |cons c s=>
  rw[C2]
  by_cases h:E9 c=true
  ·rw[if_pos h]
   simp only[E9,decide_eq_true_eq,Adj,Afz,or_false] at h
   rcases h with rfl|rfl|rfl|rfl|rfl|rfl<;>decide
  ·rw[if_neg h]
   by_cases h2:c=34
   ·rw[if_pos h2];simp
   ·rw[if_neg h2]
    split
    ·split<;>simp
    ·split<;>simp
def Oi:∀(f:Nat) (s:List UInt8) (p:Nat),∀t∈Fw f s p,t.sign≠1
 |0,_,_,t,h=>by cases h
 |f+1,s,p,t,h=>by
  rw[Fw] at h;rcases Adj.1 h with rfl|h
  ·exact W8 _
  ·split at h
   ·exact Oi f s _ t h
   ·cases h
def Za{t:Tk}(h:t.sign≠1):isT t 1=decide (t.e=0∧t.sign=255):=by
 unfold isT rsg;by_cases e:t.e=0
 ·by_cases k:t.sign=255
  ·rw[if_pos k,decide_eq_true e,Afi];exact decide_eq_decide.2 ⟨fun _=>⟨e,k⟩,fun _=>Z⟩
  ·rw[if_neg k,decide_eq_true e,Afi];exact decide_eq_decide.2 ⟨fun q=>by omega,fun q=>absurd q.2 k⟩
 ·rw[decide_eq_false e,Bool.false_and,decide_eq_false (fun h=>e h.1)]
def KN(a0 a1 a2:Nat):Bo:=⟨34,[(.cell 2 (some 6)),(.tmp 3),(.tmp 4)],(sR (o1 2 (.alo (.agg #[(vZ 0),(vZ 0),(vZ 0),(Ag []),nV,nV]))<|o1 3 (.mv z0)<|o1 4 (.mv z0) .done) (.seq (sR (om 7 0<|o1 8 (.lens 7)<|ob 9 .gtr 8 (kZ 16384) .done) (.cond 9 (sR (o1 10 (.bld [(0,1),(1,2),(3,1),(4,1),(5,1)] [(vZ 0),(vZ 0),(vZ 0),(Ag []),nV,nV] [])<|o0 (.st 6 2 10)<|o1 3 (.mv z0)<|o1 4 (.mv (kZ 3)) .done) .ret) .skip)) (sR (om 11 0<|oc 12 a0 [11]<|o1 13 (.bld [(0,1),(1,1),(2,1),(3,1)] [nV,(vZ 0),(vZ 0),(vZ 0)] [(0,12)])<|o1 14 (.box 13)<|om 5 14 .done) (sR (om 15 5<|oc 16 a1 [15,z0]<|o1 6 (.alo (.agg #[(vZ 0),(vZ 0),(vZ 0),(Ag []),nV,nV]))<|o0 (.st 6 6 16) .done) (sR (om 17 5<|oc 18 a2 [17,(.const (.int .u8 1))] .done) (.seq (sR (om 19 5<|o1 20 (.nilc 19)<|oj 21 2 20<|ol 22 21<|ob 23 .neq 22 z0 .done) (.cond 23 (.seq (.reg true (p1 24 (.bld [(0,1),(1,2),(3,1),(4,1),(5,1)] [(vZ 0),(vZ 0),(vZ 0),(Ag []),nV,nV] [])<|pm 25 5<|p1 26 (.nilc 25)<|p1 27 (.fld 3 26)<|pl 28 27<|pm 29 5<|p1 30 (.nilc 29)<|p1 31 (.fld 2 30)<|pl 32 31<|o0 (.st 6 2 24)<|pm 3 28<|pm 4 32 .done)) .ret) .skip)) (sR (o1 33 (.ld (some 6) 6)<|o0 (.st 6 2 33)<|o1 3 (.mv z0)<|o1 4 (.mv z0) .done) .ret)))))))⟩
set_option maxHeartbeats 2000000 in
def UW{T:Ad→Prop}(hT:∀{d d'},Le d d'→T d→T d'){P f f1 f2 f3}(hd:dec P f=some (KN f1 f2 f3))(h1:NO T P f1)(h2:∀F,UU T P f2 F)(h3:Mq P f3)(h3e:OH P f3):Hn T P f:=by
 intro d s ht hl;have hwt:=JK s;have hwl:=PB (Dh s 0);have hjt:=I4 s;have hsg:∀t∈Dh s 0,t.sign≠1:=Oi _ s 0;have hok:=Iv s 0;have hwf:=ML s;refine EK hd ?_;generalize hF:Dh s 0=full at*;have h1':Be P f1 [Ag s] d [] (Ret fun r d' L'=>L'=[]∧RSl 9 Df d' r full):=by
  have:=h1 ht hl;rwa [hF] at this
 have hfl:full.length≤100000:=by omega
 obtain⟨x,hx⟩:∃x,DH (3*full.length+1) 0 full=some x:=by
  rw[I2] at hjt;cases hv:DH (3*full.length+1) 0 full with
  |none=>rw[hv] at hjt;cases hjt
  |some x=>exact⟨x,Z⟩
 rw[I2,hx] at hjt;(refine Aj<|BR (fun _ _=>Ab Z<|A1 Z<|Ak Z<|AX Z<|AS Z Z<|AJ Z<|Aj<|Ak Z ?_));rename_i b2 T2;refine Bi Z h1' (fun r d2 L2 hl2 ⟨hL,hr⟩=>?_);subst hL;obtain⟨ta,tc,rfl⟩:=RSl.val hr;refine B2 (cs:=[.slice ta full.length tc,vZ 0,vZ 0,vZ 0]) Z<|Bg Z (fun _ _=>Bp Z<|Br<|Bp Z ?_);rename_i b5 T5;refine Cg (A:=[bx b5 T5 (rdC (.slice ta full.length tc) 0 0 0)]) (B:=[bx b2 T2 z6]) Z Z (h2 _ (k:=0) hx (hT hl2 ht) hr hfl Z hwf hok (by omega) (by omega)) (fun r d3 L3 hl3 ⟨cs,i3,wh3,hr3,hL3,hv3,hd3⟩=>?_);subst hr3;subst hL3;obtain⟨c0,c1,c2,c3,c4,c5,rfl⟩:=six hv3.len;have hall:=AW _ _ _ hv3;have hr4:RSl 9 Df d3 (.slice ta full.length tc) full:=RSl.mono (R:=Df) (fun _ h=>h) hr hl3;obtain⟨i4,er4,hp,hout⟩:∃i4 er4,Be P f3 [pZ b5,.int .u8 1] d3 [bx b5 T5 (rdC (.slice ta full.length tc) i3 (LK x) wh3)] (Ret fun r d' L'=>d'=d3∧∃wh',L'=[bx b5 T5 (rdC (.slice ta full.length tc) i4 er4 wh')])∧
   ((er4=0∧FW s=.ok (GU x))∨(er4≠0∧FW s=.error er4)):=by
  cases x with
  |error e=>
   have he:=J2 _ _ _ _ hx
   have hq:=(h3e (d:=d3) (q:=b5) (Tq:=T5) (tv:=.slice ta full.length tc) (i:=i3) (er:=e) (wh:=wh3) (c:=1) he)
   exact⟨i3,e,hq.Yp (fun v d' L' hl h=>⟨d',L',Vs.refl _ _,h.1,wh3,h.2⟩),.inr ⟨he,(Option.some.inj hjt).symm⟩⟩
  |ok y=>
   have hd:=hd3 y Z
   simp only at hjt
   cases hy:y.2 with
   |nil=>rw[hy] at hjt;cases hjt
   |cons t r=>
    rw[hy] at hjt hd
    simp only at hjt
    obtain⟨hi,hti, -⟩:=HB hd
    have hs1:=hsg t (hti▸Acq hi)
    have hq:=h3 (q:=b5) (Tq:=T5) (c:=1) (er:=0) (wh:=wh3) hr4 hfl hi
    refine⟨_,_,hq,?_⟩
    rw[HQ,if_neg (by simp),Acf hi,hti]
    simp only
    rw[Za hs1]
    by_cases k1:t.e≠0
    ·rw[if_pos k1] at hjt
     rw[decide_eq_false (fun h=>k1 h.1),if_neg (by decide),Dq,if_pos k1]
     exact .inr ⟨k1,(Option.some.inj hjt).symm⟩
    ·rw[if_neg k1] at hjt
     by_cases k2:t.sign≠255
     ·rw[if_pos k2] at hjt
      rw[decide_eq_false (fun h=>k2 h.2),if_neg (by decide),Dq,if_neg k1]
      exact .inr ⟨by show(60:Int)≠0;decide,(Option.some.inj hjt).symm⟩
     ·rw[if_neg k2] at hjt
      rw[decide_eq_true ⟨by omega,by omega⟩,if_pos Z]
      exact .inl ⟨Z,(Option.some.inj hjt).symm⟩
 clear hjt hd3;have hvw:(er4=0∧Cj s=GU x∧Fu s=0)∨(er4≠0∧Cj s=V.zero∧Fu s=er4):=by
  rcases hout with ⟨h,hj⟩|⟨h,hj⟩
  ·exact .inl ⟨h,by rw[Cj,hj],by rw[Fu,hj]⟩
  ·exact .inr ⟨h,by rw[Cj,hj],by rw[Fu,hj]⟩
 clear hout;rcases hvw with ⟨he,hv,hw⟩|⟨he,hv,hw⟩
 ·subst he;unfold Ha;rw[hv,hw];clear hv hw;(apply BR;intro _ _);rename_i b6 T6;refine Au 0 [c0,c1,c2,c3,c4,c5] Z Z Z Z (Aca Z) hall Z<|FB d3 [bx b5 T5 (rdC (.slice ta full.length tc) i3 (LK x) wh3),bx b6 T6 [c0,c1,c2,c3,c4,c5],bx b2 T2 z6] (Vs.pick [1,0,2] Z)<|Et Z<|Cg (A:=[bx b5 T5 (rdC (.slice ta full.length tc) i3 (LK x) wh3)]) (B:=[bx b6 T6 [c0,c1,c2,c3,c4,c5],bx b2 T2 z6]) Z Z hp (fun r d5 L5 _ ⟨hdd,wh5,hL⟩=>?_);subst hdd;subst hL;refine Bw<|Bp Z<|A3 Z<|AI Z Z Z<|AB Z Z<|AJ Z<|Aj<|AP 1 Z Z Z<|Au 2 [c0,c1,c2,c3,c4,c5] Z Z Z Z (Aca Z) hall Z<|Ab Z<|AM Z<|Ba [.agg #[c0,c1,c2,c3,c4,c5],vZ 0,vZ 0] ⟨Bc 2 Z Z Z,Z,Z,trivial⟩ (Acb _) ⟨Z,_,0,Z,hv3⟩
 ·unfold Ha;rw[hv,hw];clear hv hw;(apply BR;intro _ _);rename_i b6 T6;refine Au 0 [c0,c1,c2,c3,c4,c5] Z Z Z Z (Aca Z) hall Z<|FB d3 [bx b5 T5 (rdC (.slice ta full.length tc) i3 (LK x) wh3),bx b6 T6 [c0,c1,c2,c3,c4,c5],bx b2 T2 z6] (Vs.pick [1,0,2] Z)<|Et Z<|Cg (A:=[bx b5 T5 (rdC (.slice ta full.length tc) i3 (LK x) wh3)]) (B:=[bx b6 T6 [c0,c1,c2,c3,c4,c5],bx b2 T2 z6]) Z Z hp (fun r d5 L5 _ ⟨hdd,wh5,hL⟩=>?_);subst hdd;subst hL;refine Bw<|Bp Z<|A3 Z<|AI Z Z Z<|AB Z Z<|AE Z<|Ax<|BS [bx b5 T5 (rdC (.slice ta full.length tc) i4 er4 wh5)] [bx b6 T6 [c0,c1,c2,c3,c4,c5],bx b2 T2 z6] Z<|Bs<|Bp Z<|A3 Z<|AI Z Z Z<|Bp Z<|A3 Z<|AI Z Z Z<|Au 1 z6 Z Z Z Z (Aca Z) Z Z<|Ab Z<|Ab Z<|AV<|En<|Ba [.agg z6.toArray,vZ wh5,vZ er4] ⟨Bc 2 Z Z Z,Z,Z,trivial⟩ (Acb _) ⟨Z,_,wh5,Z,Az.zero⟩
end Go.Gk.Jsn
end
section
namespace Go.Gk.Jsn
open Go Go.Gk Go.Gk.Val Go.Gk.Num Go.Gk.Utf
def cm:Nat→List (List UInt8)→List UInt8
 |_,[]=>[]
 |n,r::rs=>(if 0<n then [44] else [])++r++cm (n+1) rs
def TS(r:List UInt8):∀(a:List (List UInt8)) (n:Nat),cm n (a++[r])=cm n a++((if 0<n+a.length then [44] else [])++r)
 |[],n=>by simp[cm]
 |x::a,n=>by
  rw[List.cons_append,cm,cm,TS r a (n+1),show n+1+a.length=n+(x::a).length by rw[Acg];omega];simp only[Ach]
def JN{rs:List (List UInt8)}{i:Nat}(h:i<rs.length):cm 0 (rs.take (i+1))=cm 0 (rs.take i)++((if 0<i then [44] else [])++rs[i]):=by
 rw[Acx h,TS,Adw,Aco,Nat.min_eq_left (by omega)]
def Q0:∀(n:Nat) (rs:List (List UInt8)),(cm n rs).length≤(rs.map Afp).sum+rs.length
 |_,[]=>by simp[cm]
 |n,r::rs=>by
  have:=Q0 (n+1) rs;rw[cm,Acd,Acd,Adx,List.sum_cons,Acg];have:(if 0<n then([44]:List UInt8) else []).length≤1:=by split<;>simp
  omega
mutual
def txV:V→List UInt8
 |.mk k m e t l ks=>if k=0 then [110,117,108,108] else if k=1 then [102,97,108,115,101] else if k=2 then [116,114,117,101] else if k=3 then prP m e else if k=4 then ET t else
  if k=5 then [91]++cm 0 (txs l)++[93] else [123]++cm 0 (txk ks l)++[125]
def txs:List V→List (List UInt8)
 |[]=>[]
 |x::l=>txV x::txs l
def txk:List (List UInt8)→List V→List (List UInt8)
 |_,[]=>[]
 |[],x::l=>txV x::txk [] l
 |k::ks,x::l=>(ET k++[58]++txV x)::txk ks l
end
def Iw:∀l:List V,txs l=l.map txV
 |[]=>rfl
 |x::l=>by rw[txs,Iw l];rfl
def JJ:∀(ks:List (List UInt8)) (l:List V),(txk ks l).length=l.length
 |_,[]=>by simp[txk]
 |[],x::l=>by rw[txk,Acg,Acg,JJ [] l]
 |k::ks,x::l=>by rw[txk,Acg,Acg,JJ ks l]
def OO:∀(ks:List (List UInt8)) (l:List V) (i:Nat) (h1:i<ks.length) (h2:i<l.length) (h3:i<(txk ks l).length),(txk ks l)[i]=ET ks[i]++[58]++txV l[i]
 |_,[],i,_,h2,_=>by simp at h2
 |[],x::l,i,h1,_,_=>by simp at h1
 |k::ks,x::l,0,_,_,_=>rfl
 |k::ks,x::l,i+1,h1,h2,h3=>by
  simp only[txk,List.getElem_cons_succ];exact OO ks l i (by simpa using h1) (by simpa using h2) _
def Wf(v:V):txV v=if v.kind=0 then [110,117,108,108] else if v.kind=1 then [102,97,108,115,101] else if v.kind=2 then [116,114,117,101] else if v.kind=3 then prP v.m v.e else if v.kind=4 then ET v.text else
  if v.kind=5 then [91]++cm 0 (txs v.list)++[93] else [123]++cm 0 (txk v.keys v.list)++[125]:=by obtain⟨k,m,e,t,l,ks⟩:=v;rw[txV]
def BE:V→Bool
 |.mk _ _ _ _ l ks=>ks.all (fun k=>decide (k.length≤1048576))&& shortKs l
 where shortKs:List V→Bool
 |[]=>true
 |x::l=>BE x && shortKs l
def Nc:∀l:List V,BE.shortKs l=l.all BE
 |[]=>rfl
 |x::l=>by simp[BE.shortKs,Nc l]
def H4(v:V):BE v=(v.keys.all (fun k=>decide (k.length≤1048576))&& v.list.all BE):=by obtain⟨k,m,e,t,l,ks⟩:=v;rw[BE,Nc]
def YX{m e:Int}(h:B4 m e=true):(prP m e).length≤64:=by
 obtain⟨h1,h2,h3,h4⟩:=Jz h;rw[Yd h4 (by omega)];have hl:=(F4 m.natAbs 18).2 (by omega);have he:=(F4 e.natAbs 2).2 (by omega);have hs:∀x:Int,(DE x).length≤1:=fun x=>by unfold DE;split<;>simp
 have hs1:=hs m;have hs2:=hs e;unfold prR;have hl':((B1 m.natAbs).map CQ).length≤18:=by rw[Adq];exact hl
 have he':((B1 e.natAbs).map CQ).length≤2:=by rw[Adq];exact he
 generalize (B1 m.natAbs).map CQ=D at*;generalize (B1 e.natAbs).map CQ=E at*;simp only;split
 ·simp
 ·split
  ·simp only[Acd,Dm,Aef];omega
  ·split
   ·split
    ·simp only[Acd,Aco,Acl,Acg,Acs];omega
    ·simp only[Acd,Dm,Aef,Acg,Acs];omega
   ·simp only[Acd,Acg,Acs];omega
def Su{α}(f:α→List UInt8)(n:Nat)(h:∀x,(f x).length≤n):∀l:List α,(l.flatMap f).length≤n*l.length
 |[]=>by simp
 |x::l=>by
  have h1:=h x;have h2:=Su f n h l;rw[List.flatMap_cons,Acd,Acg,Nat.mul_add];omega
def AaE(l:List UInt8):(rns l).length≤l.length:=by rw[Po];exact MM l
def PK(l:List UInt8):(ET l).length≤6*l.length+2:=by
 have h1:=Su qch 6 Pq (rns l);have h2:=AaE l;rw[ET,Acd,Acd];simp only[Acg,Acs];omega
mutual
def Ld:∀v:V,Cf v=true→BE v=true→(txV v).length+10≤7000000*BG v
 |.mk k m e t l ks,hm,hs=>by
  rw[Cf,Ace] at hm;rw[BE,Ace] at hs;have hn:B4 m e=true:=by
   have:=hm.1;simp only[Cz,Ace] at this;exact this.1.1.1.2
  have hp:=YX hn;have hq:=PK t;have h5:=Vg l hm.2 hs.2;have h6:=RC ks l hm.2 hs.2 (fun k hk=>by have:=Acn.1 hs.1 k hk;simpa using this);have c5:=Q0 0 (txs l);have c6:=Q0 0 (txk ks l);rw[JJ] at c6;rw[show(txs l).length=l.length by rw[Iw,Adq]] at c5;rw[txV,BG];repeat' split
  all_goals try simp only[Acd,Acg,Acs]
  all_goals omega
def Vg:∀l:List V,KH l=true→BE.shortKs l=true→((txs l).map Afp).sum+10*l.length≤7000000*BH l
 |[],_,_=>by simp[txs,BH]
 |x::l,hm,hs=>by
  rw[KH,Ace] at hm;rw[BE.shortKs,Ace] at hs;have h1:=Ld x hm.1 hs.1;have h2:=Vg l hm.2 hs.2;rw[txs,BH,Adx,List.sum_cons,Acg];omega
def RC:∀(ks:List (List UInt8)) (l:List V),KH l=true→BE.shortKs l=true→(∀k∈ks,k.length≤1048576)→((txk ks l).map Afp).sum+2*l.length≤7000000*BH l+6300000*ks.length
 |ks,[],_,_,_=>by simp[txk,BH]
 |[],x::l,hm,hs,hk=>by
  rw[KH,Ace] at hm;rw[BE.shortKs,Ace] at hs;have h1:=Ld x hm.1 hs.1;have h2:=RC [] l hm.2 hs.2 hk;rw[txk,BH,Adx,List.sum_cons,Acg];omega
 |k::ks,x::l,hm,hs,hk=>by
  rw[KH,Ace] at hm;rw[BE.shortKs,Ace] at hs;have h1:=Ld x hm.1 hs.1;have h2:=RC ks l hm.2 hs.2 (fun k h=>hk k (Aci _ h));have h3:=PK k;have h4:=hk k (Acr ..);rw[txk,BH,Adx,List.sum_cons,Acg,Acg,Acd,Acd];simp only[Acg,Acs];omega
end
end Go.Gk.Jsn
end
section
namespace Go.Gk.Jsn
open Go Go.Gk Go.Gk.Val
attribute [local irreducible] gwp gws
def Mf(P:Program)(f:FuncId):Prop:=∀{d}{q:Nat}{Tq bv hb out l},AQ 1 Cd d bv out hb→out.length+l.length≤100000000000000→
 Be P f [pZ q,Ag l] d [bx q Tq [bv],hb] (Ret fun r d' L'=>d'=d∧∃bv' hb',L'=[bx q Tq [bv'],hb']∧AQ 1 Cd d bv' (out++l) hb')
def MX:Bo:=⟨13,[],(rG (om 4 0<|om 5 0<|o1 6 (.nilc 5)<|oj 7 0 6<|ol 8 7<|om 9 1<|o1 10 (.mop (.aps 1 [(.int .u8 0)] 8 9))<|o1 11 (.nilc 4)<|oj 12 0 11<|o0 (.st 1 12 10) .done))⟩
def XY{P f}(hd:dec P f=some MX):Mf P f:=by
 intro d q Tq bv hb out l ho hl;obtain⟨ba,bc,rfl⟩:=ho.val;refine EK hd<|Ar<|Bp Z<|Bp Z<|A3 Z<|AI Z Z Z<|Ak Z<|UZ 1 Z Z ho Z (by omega) (by omega) (fun bv' hb' ho'=>?_);obtain⟨ba2,bc2,rfl⟩:=ho'.val;refine A3 Z<|Ae Z<|Au 0 [.slice ba2 (out++l).length bc2] Z Z Z Z (Aca Z) Z Z ?_;(apply Av);exact Ba [] trivial (Acy _) ⟨Z,_,_,Z,ho'⟩
def Nl(TT:TypeId)(P:Program)(f:FuncId):Prop:=∀{d}{q i:Nat}{Tq bv hb out},AQ 1 Cd d bv out hb→out.length+1≤100000000000000→
 Be P f [.iface TT (pZ q),vZ (i:Int)] d [bx q Tq [bv],hb] (Ret fun r d' L'=>d'=d∧∃bv' hb',L'=[bx q Tq [bv'],hb']∧AQ 1 Cd d bv' (out++(if 0<i then [44] else [])) hb')
def Qt:Bo:=⟨8,[],(sR (om 4 1<|ob 5 .gtr 4 z0 .done) (.cond 5 (rG (om 6 0<|o1 7 (.inv "thimble/write.take" 6 [(.const (Ag [44]))]) .done)) .skip))⟩
def VX{P f f1 TT}(hd:dec P f=some Qt)(hm:J5 P TT "thimble/write.take" =some f1)(h1:Mf P f1):Nl TT P f:=by
 intro d q i Tq bv hb out ho hl;refine EK hd ?_;by_cases k:0<i
 ·rw[if_pos k];refine AD Z<|AS Z Z<|AE Z<|Ar<|B3<|Hd 2 Z hm Z (h1 (l:=[44]) ho (by simpa using hl)) (fun r d2 L2 _ ⟨hdd,bv',hb',hL,ho'⟩=>?_);subst hdd;subst hL;(apply Av);exact Ba [] trivial (Acy _) ⟨Z,_,_,Z,ho'⟩
 ·rw[if_neg k];refine AD Z<|AS Z Z<|AJ Z<|Ba [] trivial (Acy _) ⟨Z,_,_,Z,by rw[List.append_nil];exact ho⟩
end Go.Gk.Jsn
end
