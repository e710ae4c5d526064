/-
  Our own texts, one behind the other: GkNode6 GkNode7 GkNode8 GkNodeA GkNodeB GkNodeC GkNodeD GkNodeE GkNodeF GkNodeH GkNodeI GkNodeJ GkNodeK GkNodeG GkNodeL GkNodeM GkNodeO Gk42 GkIns GkTr0 GkTr1 GkHL GkHM GkHN GkHO GkTr3 Gk43.
-/
import Derived.Test.YteekdjalpmjdhaaGreatPcD
set_option linter.defProp false
set_option linter.unusedVariables false
set_option linter.unusedSimpArgs false
open List.Sublist renaming refl→Afa,cons_cons→Ahj
open Bool renaming and_eq_true→Afb,false_eq_true→Afh
open List renaming getElem?_eq_getElem→Afc,getD_eq_getElem?_getD→Afd,append_assoc→Afg,perm_append_comm→Afi,mem_append→Afj,length_append→Afk,eq_nil_of_length_eq_zero→Afl,mem_cons_self→Afn,length_drop→Afo,getElem?_eq_some_iff→Afp,length_cons→Afq,mem_cons_of_mem→Afr,all_eq_true→Afs,length_take→Aft,replicate→Afu,mem_cons→Afv,take_succ_eq_append_getElem→Afw,drop_eq_getElem_cons→Afy,mem_singleton→Afz,mem_append_left→Aga,getElem_mem→Agb,sublist_cons_self→Age,length_replicate→Agk,getElem?_eq_none→Ago,nil_sublist→Agp,take_of_length_le→Agt,getElem?_append_left→Agx,cons_append→Agy,take_length→Agz,getElem?_drop→Aha,getElem?_append_right→Ahb,getElem?_take_of_lt→Ahc,getElem_of_mem→Ahe,getElem?_take→Ahh,mem_of_getElem?→Ahr,getD_cons_succ→Ahw,getD_cons_zero→Aid,length_singleton→Aie,drop_length→Aig,pairwise_iff_getElem→Ail,ext_getElem?→Aio,take_append_drop→Ait,getD→Aix,drop_left→Aji,mem_of_mem_drop→Ajk,getElem_drop→Akd,take_succ_cons→Akm
open Nat renaming le_refl→Afe,le_of_ble_eq_true→Aff,zero_le→Agd,zero_add→Ahg,mul_one→Aho,add_sub_cancel→Ahp,not_lt_zero→Aic,mod_eq_of_lt→Ain,sub_self→Aiz,min_eq_left→Aka
open List.Perm renaming cons→Afm,swap→Afx
open Option renaming bind_some→Ahd
section
namespace Go.Gk.Node
open Go Go.Gk
attribute [local irreducible] gwp gws
variable{P:Program}{f f1:FuncId}{d:Aa}{n:AB}
def GM(k:Int):List UInt8:=[UInt8.ofNat ((k / 256) % 256).toNat,UInt8.ofNat (k % 256).toNat]
def u8n(n:Nat):UInt8:=UInt8.ofNat ((n:Int) % 256).toNat
def tailD(n:AB)(k:Nat):List UInt8:=if n.leaf then u8n (FJ n k)::n.vals.getD k [] else GM (n.kids.getD (k+1) 0)
def headD(n:AB):List UInt8:=[if n.leaf then 1 else 2,u8n n.keys.length]++(if n.leaf then [] else GM (n.kids.getD 0 0))
def C0(n:AB):Nat→List UInt8
 |0=>headD n
 |k+1=>C0 n k++(u8n (DW n k)::n.keys.getD k [])++tailD n k
def R3(n:AB):∀k,(C0 n k).length=(if n.leaf then 2 else 4+2*k)+BK n k:=by
 intro k;induction k with
 |zero=>simp only[C0,headD,BK];split<;>simp[GM]
 |succ k ih=>
  simp only[C0,Afk,ih,BK,tailD,EJ,DW,FJ]
  split<;>simp[GM]<;>omega
def Cq(n:AB):List UInt8:=C0 n n.keys.length++Afu (256 - (C0 n n.keys.length).length) 0
def AaD(n:Nat):BD [Value.int .u8 0] n=Afu n (Al 0):=by
 unfold BD;apply List.ext_getElem
 ·simp
 ·intro i h1 h2;simp[Nat.mod_one,Al]
def Qp(P:Program)(f:FuncId):Prop:=∀{d cs}{n:AB},Cz d cs n→Bd n=true→Bf n≤256→
 Ao P f [.agg cs.toArray] d [] (Ret fun r d' L'=>d'=d∧∃h,L'=[h]∧Fg 256 r (Cq n) h)
def Fg.nil{N b:Nat}{T}:Fg N (.slice (some ⟨b,0,none⟩) 0 N) [] (bx b T (BD [Value.int .u8 0] (N*1))):=
 ⟨Agd _,b,T,Z,by rw[AaD];simp⟩
def U9:A9:=⟨87,[(.tmp 2)],(sR (o1 1 (.box 0)<|o1 2 (.mv nS) .done) (sR (o1 6 (.mks 1 1 [(.int .u8 0)] z0 (kZ 256))<|om 3 6 .done) (sR (om 7 3<|oj 8 1 1<|ol 9 8<|oL 10 9<|o1 11 (.cvi .u8 10)<|o1 12 (.bsl 2 1 [(.int .u8 0)] [(0,(.const (.int .u8 2))),(1,11)])<|o1 13 (.app 1 1 [(.int .u8 0)] 7 12)<|om 3 13 .done) (.seq (sR (oj 14 0 1<|ol 15 14 .done) (.cond 15 (rG (om 16 3<|o1 17 (.idx 1 16 z0)<|o0 (.st 1 17 (.const (.int .u8 1))) .done)) (.reg true (pm 18 3<|p1 19 (.fld 3 1)<|pl 20 19<|p1 21 (.idx 1 20 z0)<|pl 22 21<|p1 23 (.bin .shr 22 (.const (.int .u64 8)))<|p1 24 (.cvi .u8 23)<|p1 25 (.fld 3 1)<|pl 26 25<|p1 27 (.idx 1 26 z0)<|pl 28 27<|p1 29 (.cvi .u8 28)<|o1 30 (.bsl 2 1 [(.int .u8 0)] [(0,24),(1,29)])<|o1 31 (.app 1 1 [(.int .u8 0)] 18 30) (.bar (pm 3 31 .done)))))) (.seq (sR (oj 32 1 1<|ol 33 32<|oL 34 33<|o1 35 (.mv z0) .done) (.block 0 (.loop (sR (ob 36 .lss 35 34 .done) (.seq (.cond 36 .skip (.exit 0)) (.seq (.block 1 (sR (om 37 35<|oI 38 1 33 35<|ol 39 38<|om 4 37<|om 5 39 .done) (sR (om 40 3<|om 41 5<|oL 42 41<|o1 43 (.cvi .u8 42)<|o1 44 (.bsl 1 1 [(.int .u8 0)] [(0,43)])<|o1 45 (.app 1 1 [(.int .u8 0)] 40 44)<|om 46 5<|o1 47 (.app 1 1 [(.int .u8 0)] 45 46)<|om 3 47 .done) (sR (oj 48 0 1<|ol 49 48 .done) (.cond 49 (.reg true (pm 50 3<|p1 51 (.fld 2 1)<|pl 52 51<|pm 53 4<|p1 54 (.idx 1 52 53)<|pl 55 54<|p1 56 (.len 55)<|p1 57 (.cvi .u8 56)<|p1 60 (.fld 2 1)<|pl 61 60<|pm 62 4<|p1 63 (.idx 1 61 62)<|pl 64 63<|o1 58 (.bsl 1 1 [(.int .u8 0)] [(0,57)])<|o1 59 (.app 1 1 [(.int .u8 0)] 50 58)<|o1 65 (.app 1 1 [(.int .u8 0)] 59 64) (.bar (pm 3 65 .done)))) (.reg true (pm 66 3<|p1 67 (.fld 3 1)<|pl 68 67<|pm 69 4<|p1 70 (.bin .add 69 z1)<|p1 71 (.idx 1 68 70)<|pl 72 71<|p1 73 (.bin .shr 72 (.const (.int .u64 8)))<|p1 74 (.cvi .u8 73)<|p1 75 (.fld 3 1)<|pl 76 75<|pm 77 4<|p1 78 (.bin .add 77 z1)<|p1 79 (.idx 1 76 78)<|pl 80 79<|p1 81 (.cvi .u8 80)<|o1 82 (.bsl 2 1 [(.int .u8 0)] [(0,74),(1,81)])<|o1 83 (.app 1 1 [(.int .u8 0)] 66 82) (.bar (pm 3 83 .done))))))))) (rG (ob 84 .add 35 z1<|om 35 84 .done)))))))) (sR (om 85 3<|o1 86 (.sl 1 85 none (some (kZ 256)) none)<|om 2 86 .done) .ret))))))⟩
def Ab4(hd:dec P f=some U9):Qp P f:=by
 intro d cs n hn hs hz;have hlen:=R3 n;obtain⟨lf,ks,vs,is⟩:=n;obtain⟨kv,vv,iv,rfl,hk,hv,hiv⟩:∃kv vv iv,cs=[.bool lf,kv,vv,iv]∧DG d kv ks∧DG d vv vs∧D9 d iv is:=hn;refine Dp hd (Aff Z) ?_;obtain⟨ka,kc,kb,ko,rfl,kA,kS,kN,kl,km,kB,kx⟩:=hk;obtain⟨ia,ic,ib,io,rfl,iA,iS,iN,il,im,iB,ix⟩:=hiv;obtain⟨va,vc,vb,vo,rfl,vA,vS,vN,vl,vm,vB,vx⟩:=hv;show gwp P _ _ _ _ _;(refine Ak<|CF Z (fun _ _=>Ae Z<|Bo ?_));rename_i b0 T0;refine Iv (n:=0) (c:=256) Z Z (by omega) (by omega) (by omega) (fun b T=>?_);have hrow:Fg 256 _ _ _:=Fg.nil (N:=256) (b:=b) (T:=T);(refine Ae Z<|Bo<|Ae Z<|Am Z<|Ah Z (AG 1 Z Z)<|AA Z<|Dt Z ?_);refine B1 d [bx b0 T0 [.bool lf,.slice ka ks.length kc,.slice va vs.length vc,.slice ia is.length ic],bx b T (BD [Value.int .u8 0] (256*1))] (Vs.perm (Afx _ _ _)) ?_;refine Dq (cs:=[.int .u8 2,Al (u8n ks.length)]) (by omega) Z (fun b2 T2=>?_);refine IP 1 (news:=[2,u8n ks.length]) Z Z hrow Z Z Z (by simp) (by omega) (fun v1 h1 hrow1=>?_);have hround:∀k,k<ks.length→(C0 ⟨lf,ks,vs,is⟩ (k+1)).length≤256:=by
  intro k hk;have h1:=hlen (k+1);have h2:=Hi ⟨lf,ks,vs,is⟩ (show k+1≤ks.length from hk);simp only[Bf] at hz;simp only[Bd,Afb] at hs;cases lf
  ·simp only[Afh,if_false,Afb,decide_eq_true_eq] at hs h1 hz;omega
  ·simp only[if_true] at hs h1 hz;omega
 cases lf
 ·obtain⟨hkl,hil,hio⟩:vs.length=0∧is.length=ks.length+1∧is.all GZ=true:=by
   simp only[Bd,Afb,Afh,if_false,decide_eq_true_eq] at hs;exact⟨hs.2.1.1,hs.2.1.2,hs.2.2⟩
  have hki:∀i (h:i<is.length),0≤is[i]∧is[i]≤8191:=fun i h=>by
   have:=Afs.1 hio _ (Agb h);simpa [GZ] using this
  obtain⟨c0,hc0,hD0,⟨rfl,hr1,hr2⟩⟩:=ix 0 (by omega);replace hD0:=hD0.one;have hg0:is.getD 0 0=is[0]'(by omega):=by simp[show 0<is.length by omega]
  (refine AK<|BG<|Az Z Z Z<|Jq Z ?_);refine O9 [0] [1] Z ?_;(refine AK<|Az Z Z Z<|B3 0 Z Z Z (by omega) (by assumption)<|Ah Z (BR (by assumption))<|GR Z Z (by decide)<|Dt Z<|Az Z Z Z<|B3 0 Z Z Z (by omega) (by assumption)<|Ah Z (BR (by assumption))<|Dt Z ?_);refine Dq (cs:=(GM (is[0]'(by omega))).map Al) (by omega) Z (fun b4 T4=>?_);refine IP 0 (news:=GM (is[0]'(by omega))) Z Z hrow1 Z Z Z (by simp[GM]) (by omega) (fun v2 h2 hrow2=>?_);have hrow2':Fg 256 v2 (C0 ⟨false,ks,vs,is⟩ 0) h2:=by
   have e:C0 ⟨false,ks,vs,is⟩ 0=[]++[2,u8n ks.length]++GM (is[0]'(by omega)):=by simp[C0,headD,show 0<is.length by omega]
   rw[e];exact hrow2
  (refine Cw<|AK<|BG<|Az Z Z Z<|AA Z<|AU Z<|Aq ?_);refine Cs (α:=Nat×Value×Aa) (fun x=>[(1,pZ b0),(3,x.2.1),(33,.slice ka ks.length kc),(34,vZ ks.length),(35,vZ x.1)])
   (fun x d' L'=>d'=d∧L'=[bx b0 T0 [.bool false,.slice ka ks.length kc,.slice va vs.length vc,.slice ia is.length ic],x.2.2]∧x.1≤ks.length∧Fg 256 x.2.1 (C0 ⟨false,ks,vs,is⟩ x.1) x.2.2) (fun x=>ks.length - x.1) (0,v2,h2)
   ⟨Z,Z,Z,Z,Z,trivial⟩ ⟨Z,Z,Agd _,hrow2'⟩ ?_
  rintro⟨k,v3,h3⟩ ρ d' L' ⟨hdd,hLL,hle,hrow3⟩;simp only at hLL hle hrow3;subst hdd;subst hLL;by_cases h:k<ks.length
  ·obtain⟨c0,hc0,hD1,⟨u0,rfl,hu0⟩⟩:=kx k h;replace hD1:=hD1.one;obtain⟨c1,hc1,hD2,⟨rfl,hs1,hs2⟩⟩:=ix (k+1) (by omega);replace hD2:=hD2.one;have hgk:ks.getD k []=ks[k]:=by simp[h]
   have hgi:is.getD (k+1) 0=is[k+1]'(by omega):=by simp[show k+1<is.length by omega]
   have hb:=hround k h;have hbe:C0 ⟨false,ks,vs,is⟩ (k+1)=C0 ⟨false,ks,vs,is⟩ k++[u8n ks[k].length]++ks[k]++GM (is[k+1]'(by omega)):=by simp[C0,tailD,DW,h,show k+1<is.length by omega]
   rw[hbe] at hb;simp only[Afk,Aie] at hb;(refine Ak<|Au Z Z<|By<|B2 Z<|AH<|Aw<|Aq<|AE Z ?_;apply B3;rfl;rfl;rfl;omega;assumption;refine Ah Z (BR (by assumption))<|Ab Z<|AK<|Bo<|AK<|AK<|BX Z (by assumption)<|Dt Z ?_);refine Dq (cs:=[Al (u8n ks[k].length)]) (by omega) Z (fun b4 T4=>?_);refine IP 1 (news:=[u8n ks[k].length]) Z Z hrow3 Z Z Z (by simp;omega) (by omega) (fun v4 h4 hrow4=>?_);(apply AK);refine TU 1 (news:=ks[k]) Z Z hrow4 Z (hu0.rdx _) (by simp;omega) (by omega) (fun v5 h5 hrow5=>?_);(refine AK<|Bo<|Az Z Z Z<|Jq Z ?_);refine O9 [0] [1] Z ?_;(refine AK<|Az Z Z Z<|Ab Z<|A4 Z Z ?_);refine B3 (k+1) Z Z (by omega) (by omega) iA ?_;(refine Ah Z (BR (by assumption))<|GR Z Z (by decide)<|Dt Z<|Az Z Z Z<|Ab Z<|A4 Z Z ?_);refine B3 (k+1) Z Z (by omega) (by omega) iA ?_;(refine Ah Z (BR (by assumption))<|Dt Z ?_);refine Dq (cs:=(GM (is[k+1]'(by omega))).map Al) (by omega) Z (fun b6 T6=>?_);refine IP 0 (news:=GM (is[k+1]'(by omega))) Z Z hrow5 Z Z Z (by simp[GM] at hb⊢;omega) (by omega) (fun v6 h6 hrow6=>?_);(refine Cw<|AK<|An<|Av<|A4 Z Z<|AU Z ?_);refine⟨(k+1,v6,h6),by simp;omega,⟨Z,Z,Z,Z,int_eq (by omega),trivial⟩,Z,Z,h,?_⟩
   simp only;rw[hbe];exact hrow6
  ·have e:k=ks.length:=by omega
   subst e;obtain⟨b7,rfl,hfull⟩:=hrow3.full;(refine Ak<|Au Z Z<|By<|BM Z<|Bl<|Br Z ?_);refine Abz (l:=0) (h:=256) (m:=256) Z Z (by omega) ?_;(refine Ae Z<|BJ ?_);exact BZ (L':=[h3]) Z (Age _ _) ⟨Z,h3,Z,hfull⟩
 ·have hvl:vs.length=ks.length:=by
   simp only[Bd,Afb,if_true,decide_eq_true_eq] at hs;exact hs.2.1.1
  obtain⟨_,b3,T3,rfl,rfl⟩:=hrow1;(refine Ae Z<|BG<|Az Z Z Z<|B7 Z<|Av<|Ae Z ?_);refine B3 (b:=b3) (o:=0) 0 Z Z Z (by simp) (SAd.some _ b3 0) ?_;refine Cg (v:=.int .u8 1) 1 Z Z Z Z (by rw[Afk,Agk,List.length_map];exact Aff Z) Z ?_;have hrow2':Fg 256 (.slice (some ⟨b3,0,none⟩) 2 256) (C0 ⟨true,ks,vs,is⟩ 0) (bx b3 T3 (patch (([]++[2,u8n ks.length]).map Al++Afu (256 - ([]++[2,u8n ks.length]).length) (Al 0)) (0+0*1) (Value.int .u8 1).cells.toList)):=by
   refine⟨by simp[C0,headD],b3,T3,by simp[C0,headD],?_⟩
   congr 1
  (refine BG<|Az Z Z Z<|AA Z<|AU Z<|Aq ?_);refine Cs (α:=Nat×Value×Aa) (fun x=>[(1,pZ b0),(3,x.2.1),(33,.slice ka ks.length kc),(34,vZ ks.length),(35,vZ x.1)])
   (fun x d' L'=>d'=d∧L'=[bx b0 T0 [.bool true,.slice ka ks.length kc,.slice va vs.length vc,.slice ia is.length ic],x.2.2]∧x.1≤ks.length∧Fg 256 x.2.1 (C0 ⟨true,ks,vs,is⟩ x.1) x.2.2) (fun x=>ks.length - x.1) (0,_,_)
   ⟨Z,Z,Z,Z,Z,trivial⟩ ⟨Z,Z,Agd _,hrow2'⟩ ?_
  rintro⟨k,v3,h3⟩ ρ d' L' ⟨hdd,hLL,hle,hrow3⟩;simp only at hLL hle hrow3;subst hdd;subst hLL;by_cases h:k<ks.length
  ·obtain⟨c0,hc0,hD1,⟨u0,rfl,hu0⟩⟩:=kx k h;replace hD1:=hD1.one;obtain⟨c1,hc1,hD2,⟨u1,rfl,hu1⟩⟩:=vx k (by omega);replace hD2:=hD2.one;have hb:=hround k h;have hbe:C0 ⟨true,ks,vs,is⟩ (k+1)=C0 ⟨true,ks,vs,is⟩ k++[u8n ks[k].length]++ks[k]++[u8n (vs[k]'(by omega)).length]++vs[k]'(by omega):=by simp[C0,tailD,DW,FJ,h,show k<vs.length by omega]
   rw[hbe] at hb;simp only[Afk,Aie] at hb;(refine Ak<|Au Z Z<|By<|B2 Z<|AH<|Aw<|Aq<|AE Z ?_;apply B3;rfl;rfl;rfl;omega;assumption;refine Ah Z (BR (by assumption))<|Ab Z<|AK<|Bo<|AK<|AK<|BX Z (by assumption)<|Dt Z ?_);refine Dq (cs:=[Al (u8n ks[k].length)]) (by omega) Z (fun b4 T4=>?_);refine IP 1 (news:=[u8n ks[k].length]) Z Z hrow3 Z Z Z (by simp;omega) (by omega) (fun v4 h4 hrow4=>?_);(apply AK);refine TU 1 (news:=ks[k]) Z Z hrow4 Z (hu0.rdx _) (by simp;omega) (by omega) (fun v5 h5 hrow5=>?_);(refine AK<|Bo<|Az Z Z Z<|B7 Z ?_);refine O9 [0] [1] Z ?_;(refine AK<|Az Z Z Z<|Ab Z ?_;apply B3;rfl;rfl;rfl;omega;assumption;refine Ah Z (BR (by assumption))<|BX Z (by assumption)<|Dt Z<|Az Z Z Z<|Ab Z ?_;apply B3;rfl;rfl;rfl;omega;assumption;apply Ah;rfl;exact BR (by assumption));refine Dq (cs:=[Al (u8n (vs[k]'(by omega)).length)]) (by omega) Z (fun b6 T6=>?_);refine IP 0 (news:=[u8n (vs[k]'(by omega)).length]) Z Z hrow5 Z Z Z (by simp;omega) (by omega) (fun v6 h6 hrow6=>?_);refine TU 0 (news:=vs[k]'(by omega)) Z Z hrow6 Z (hu1.rdx _) (by simp;omega) (by omega) (fun v7 h7 hrow7=>?_);(refine Cw<|AK<|An<|Av<|A4 Z Z<|AU Z ?_);refine⟨(k+1,v7,h7),by simp;omega,⟨Z,Z,Z,Z,int_eq (by omega),trivial⟩,Z,Z,h,?_⟩
   simp only;rw[hbe];exact hrow7
  ·have e:k=ks.length:=by omega
   subst e;obtain⟨b7,rfl,hfull⟩:=hrow3.full;(refine Ak<|Au Z Z<|By<|BM Z<|Bl<|Br Z ?_);refine Abz (l:=0) (h:=256) (m:=256) Z Z (by omega) ?_;(refine Ae Z<|BJ ?_);exact BZ (L':=[h3]) Z (Age _ _) ⟨Z,h3,Z,hfull⟩
def KA(P:Program)(f:FuncId):Prop:=∀{d cs}{n:AB},Cz d cs n→Bf n≤1000000000000→
 Ao P f [.agg cs.toArray] d [] (Ret fun r d' L'=>d'=d∧((Bt n=true∧∃v h,r=.tuple #[v,vZ 0]∧L'=[h]∧Fg 256 v (Cq n) h)∨(Bt n=false∧r=.tuple #[nV,vZ 200]∧L'=[])))
def UJ(a0 a1:Nat):A9:=⟨9,[(.tmp 2),(.tmp 3)],(sR (o1 1 (.box 0)<|o1 2 (.mv nS)<|o1 3 (.mv z0) .done) (.seq (sR (o1 4 (.ld (some 4) 1)<|oc 5 a0 [4]<|o1 6 (.un .not 5) .done) (.cond 6 (sR (o1 2 (.mv nS)<|o1 3 (.mv (kZ 200)) .done) .ret) .skip)) (sR (o1 7 (.ld (some 4) 1)<|oc 8 a1 [7]<|om 2 8<|o1 3 (.mv z0) .done) .ret)))⟩
def Z4{f2}(hd:dec P f=some (UJ f1 f2))(h1:IV P f1)(h2:Qp P f2):KA P f:=by
 intro d cs n hn hb;refine Dp hd (Aff Z) ?_;have hn':=hn;obtain⟨kv,vv,iv,rfl,hk,hv,hiv⟩:∃kv vv iv,cs=[.bool n.leaf,kv,vv,iv]∧DG d kv n.keys∧DG d vv n.vals∧D9 d iv n.kids:=hn;show gwp P _ _ _ _ _;(refine Ak<|CF Z (fun _ _=>Ae Z<|AR Z<|Bk 0 Z Z Z ?_));refine BH Z (h1 hn' hb) ?_;cases hr:Bt n with
 |false=>
  (refine Bm Z<|B7 Z<|Br Z<|AS Z ?_)
  exact SC Z Z ⟨Z,.inr ⟨Z,Z,Z⟩⟩
 |true=>
  have hr':=hr
  simp only[Bt,Afb,decide_eq_true_eq] at hr'
  (refine Bm Z<|Be Z<|Ak<|Bk 0 Z Z Z ?_)
  refine Bz Z (h2 hn' hr'.1 hr'.2) (fun r d' L' _ ⟨hdd,h,hL,hrow⟩=>?_)
  subst hdd;subst hL
  (refine AK<|AS Z ?_)
  exact CJ (L':=[h]) Z Z (by simp) ⟨Z,.inl ⟨Z,_,h,Z,Z,hrow⟩⟩
section
def Cz.mono{d' cs}(h:Cz d cs n)(hl:Le d d'):Cz d' cs n:=
 let ⟨kv,vv,iv,e,h1,h2,h3⟩:=h
 ⟨kv,vv,iv,e,h1.mono hl,h2.mono hl,h3.mono hl⟩
attribute [local irreducible] Cq
end
section
instance:DecidableEq AB:=fun a b=>by
 obtain⟨a1,a2,a3,a4⟩:=a;obtain⟨b1,b2,b3,b4⟩:=b;simp only[AB.mk.injEq];exact inferInstance
def Acy(hs:Bd n=true)(hz:Bf n≤256):∀k,k≤n.keys.length→(C0 n k).length≤256:=by
 intro k hk;have h1:=R3 n k;have h2:=Hi n hk;simp only[Bf] at hz;simp only[Bd,Afb] at hs;cases h:n.leaf
 ·simp only[h,Afh,if_false,Afb,decide_eq_true_eq] at hs h1 hz;omega
 ·simp only[h,if_true] at hs h1 hz;omega
attribute [local irreducible] C0
end
def PV(h:KA P f){cs}(hn:Cz d cs n)(hz:Bf n≤1000000000000):
  Ao P f [.agg cs.toArray] d [] (Ret fun r d' L'=>d'=d∧∃v g,r=.tuple #[v,vZ (if Bt n then 0 else 200)]∧L'=[g]∧Ai 1 Ax d v (if Bt n then Cq n else []) g):=by
 refine(h hn hz).Eb (fun v d' L' _ hr=>?_)
 rcases hr with ⟨hdd,⟨hR,v,g,hv,hL,hrow⟩|⟨hR,hv,hL⟩⟩
 ·subst hdd
  exact⟨d',L',Vs.refl _ _,Z,v,g,by simp[hv,hR],hL,by simp only[hR,if_true];exact hrow.grow (by omega)⟩
 ·subst hdd;subst hL
  exact⟨d',[emp],Vs.emp,Z,nV,emp,by simp[hv,hR],Z,by simp only[hR];exact Ai.nil⟩
def DU(d:Aa)(v:Value)(xs:List (List UInt8))(L:List Aa):Prop:=∃us h0 hs,Cf 1 v xs.length us h0∧hs.length=xs.length∧
 (∀i (hi:i<xs.length),∃u g,us[i]?=some u∧hs[i]?=some g∧Ai 1 Ax d u xs[i] g)∧L=h0::hs
def DU.Tn{d1 v xs L}(o:DU d v xs L)(hl:Le d d1)(hL:∀h∈L,Le h d1):DG d1 v xs:=by
 obtain⟨us,h0,hs,h1,h2,h3,rfl⟩:=o;refine h1.Z2 (hL _ (Afn ..)) Z (fun i hi=>?_);obtain⟨u,g,k1,k2,k3⟩:=h3 i hi;exact⟨u,k1,u,Z,k3.rsl AF (by omega) hl (hL _ (Afr _ (Ahr k2)))⟩
def DU.val{v xs L}(o:DU d v xs L):∃a c,v=.slice a xs.length c:=by
 obtain⟨us,h0,hs,h1,_⟩:=o;obtain⟨a,b,c,e,_⟩:=h1.slice;exact⟨a,c,e⟩
def SN(P:Program)(f:FuncId):Prop:=∀{d v xs},DG d v xs→xs.length≤1000000000→
 Ao P f [v] d [] (Ret fun r d' L'=>d'=d∧DU d r xs L')
def Wu(a0:Nat):A9:=⟨19,[(.tmp 2)],(sR (o1 2 (.mv nS) .done) (sR (o1 3 (.mv nS) .done) (.seq (sR (om 6 0<|oL 7 6<|o1 8 (.mv z0) .done) (.block 0 (.loop (sR (ob 9 .lss 8 7 .done) (.seq (.cond 9 .skip (.exit 0)) (.seq (.block 1 (sR (oI 10 1 6 8<|ol 11 10<|om 5 11 .done) (rG (om 12 3<|om 13 5<|oc 14 a0 [13]<|o1 15 (.bsl 1 1 [nV] [(0,14)])<|o1 16 (.app 1 24 [nV] 12 15)<|om 3 16 .done)))) (rG (ob 17 .add 8 z1<|om 8 17 .done)))))))) (sR (om 18 3<|om 2 18 .done) .ret))))⟩
def AdG(hd:dec P f=some (Wu f1))(h1:ER Ax 1 P f1):SN P f:=by
 intro d v xs hv hb;refine Bj hd ?_;apply Aw;apply Av;refine B1 d [emp] Vs.emp<|Ae Z<|Bo<|Ae Z<|BG<|AK<|BX Z (by assumption)<|AU Z<|Aq<|AcU (α:=Nat) (fun k w=>[(3,w),(6,v),(7,vZ xs.length),(8,vZ k)])
  (fun k w h0 d' L'=>d'=d∧k≤xs.length∧∃us hs,Cf 1 w k us h0∧hs.length=k∧(∀i (hi:i<xs.length),i<k→∃u g,us[i]?=some u∧hs[i]?=some g∧Ai 1 Ax d u xs[i] g)∧L'=h0::hs) (fun k=>xs.length - k) 0 nV emp
  ⟨Z,Z,Z,Z,trivial⟩ ⟨Z,Agd _,[],[],Cf.nil 1,Z,fun i _ hi=>absurd hi (Aic i),Z⟩ ?_
 rintro k w h0 ρ d' L' ⟨hdd,hk,us,hs,ho,hhl,hel,hL⟩;subst hdd;subst hL;(refine Ak<|Au Z Z<|By ?_);first|refine JN rfl (fun hc=>?_) (fun hc=>?_)|refine Np rfl (fun hc=>?_) (fun hc=>?_)
 ·have hk1:k<xs.length:=by omega
  have hxl:xs[k].length*1≤140737488355328:=by
   obtain⟨a,c,b,o,e,_,_,_,_,_,_,h8⟩:=hv;obtain⟨cs,_,_,u,_,hu⟩:=h8 k hk1;have:=Ay.BW hu;omega
  (refine AH<|Aw<|Aq<|Ak<|Bq (sz:=1) (R:=RBs) (by rfl) (by assumption) (by rfl) Z (by omega) ?_;rintro _ _ _ _ _ ⟨_,rfl,_⟩;refine Ah Z (BO (by assumption) Z)<|AK<|An<|Av<|AK<|AK ?_);refine Bz Z (h1 (xs:=xs[k]) (by assumption) hxl) (fun r d2 L2 _ ⟨hdd,g,hL,hg⟩=>?_);subst hdd;subst hL;obtain⟨a,c,rfl⟩:=hg.val;refine Dq (cs:=[.slice a xs[k].length c]) (by omega) Z (fun b8 T8=>?_);refine VK 1 Z Z ho Z Z Z (by omega) (by omega) (by omega) (fun v5 h5 ho5=>?_);refine B1 _ (h5::(hs++[g])) (Vs.perm ((Afx _ _ _).trans ((List.perm_append_singleton g hs).symm.cons _)))<|AK<|An<|Av<|A4 Z Z<|AU Z ?_;refine⟨k+1,v5,h5,by omega,⟨Z,Z,Z,int_eq (by omega),trivial⟩,Z,hk1,_,_,ho5,by simp[hhl],fun i hi hik=>?_,Z⟩
  have hul:us.length=k:=by have:=ho.1;omega
  by_cases e:i<k
  ·obtain⟨u,g',e1,e2,e3⟩:=hel i hi e;exact⟨u,g',by rw[Agx (by omega)];exact e1,by rw[Agx (by omega)];exact e2,e3⟩
  ·obtain rfl:i=k:=by omega
   exact⟨_,g,by rw[Ahb (by omega),hul,Aiz];rfl,by rw[Ahb (by omega),hhl,Aiz];rfl,hg⟩
 ·obtain rfl:k=xs.length:=by omega
  refine Bl<|Ak<|AK<|AK<|BJ<|BZ Z (Afa _) ⟨Z,us,h0,hs,ho,hhl,fun i hi=>hel i hi hi,Z⟩
def wD(n:AB)(i:Nat):Nat:=EJ n i+(if n.leaf then 0 else 2)
def CW(n:AB):Nat→Nat
 |0=>0
 |k+1=>CW n k+wD n k
def AbY(n:AB):∀k,CW n k≤BK n k+2*k:=by
 intro k;induction k with
 |zero=>simp[CW]
 |succ k ih=>simp only[CW,BK,wD];split<;>omega
def Ml(n:AB):∀{k m:Nat},k≤m→CW n k≤CW n m:=by
 intro k m h;induction h with
 |refl=>exact Afe _
 |step _ ih=>simp only[CW];omega
def Ho(n:AB):Nat→Nat→Nat
 |0,a=>a
 |f+1,a=>if a<n.keys.length - 1∧2*CW n a<CW n n.keys.length then Ho n f (a+1) else a
def atD(n:AB):Nat:=Ho n n.keys.length 0
def Yg(n:AB){a:Nat}(h:a<n.keys.length - 1)(h2:2*CW n a<CW n n.keys.length)(he:Ho n (n.keys.length - a) a=atD n):Ho n (n.keys.length - (a+1)) (a+1)=atD n:=by
 rw[←he,show n.keys.length - a=n.keys.length - (a+1)+1 by omega];rw[Ho,if_pos ⟨h,h2⟩]
def Rx(n:AB){a:Nat}(h:¬(a<n.keys.length - 1∧2*CW n a<CW n n.keys.length))(he:Ho n (n.keys.length - a) a=atD n):atD n=a:=by
 rw[←he];cases e:n.keys.length - a with
 |zero=>rfl
 |succ f=>rw[Ho,if_neg h]
def DP(n:AB):Bool:=Bd n && decide ((if n.leaf then 2 else 3)≤n.keys.length)
def at2(n:AB):Nat:=max 2 (atD n)
def Ba(n:AB):AB:=if DP n then(if n.leaf then⟨true,n.keys.take (atD n),n.vals.take (atD n),[]⟩ else⟨false,n.keys.take (at2 n - 1),[],n.kids.take (at2 n)⟩) else⟨false,[],[],[]⟩
def Bi(n:AB):AB:=if DP n then(if n.leaf then⟨true,n.keys.drop (atD n),n.vals.drop (atD n),[]⟩ else⟨false,n.keys.drop (at2 n),[],n.kids.drop (at2 n)⟩) else⟨false,[],[],[]⟩
def B4(n:AB):List UInt8:=if DP n then n.keys.getD (if n.leaf then atD n else at2 n - 1) [] else []
def Small(n:AB):Prop:=Bf n≤1000000000000∧n.keys.length≤1000000000∧n.vals.length≤1000000000∧n.kids.length≤1000000000
def Ej(d:Aa)(cs:List Value)(n:AB)(L:List Aa):Prop:=
 ∃kv vv iv Lk Lv hi,cs=[.bool n.leaf,kv,vv,iv]∧DU d kv n.keys Lk∧DU d vv n.vals Lv∧Ai 1 Bh d iv n.kids hi∧L=Lk++Lv++[hi]
def DU.nil:DU d nV [] [emp]:=⟨[],emp,[],Cf.nil 1,Z,fun i hi=>absurd hi (Aic i),Z⟩
def Ej.zero:Ej d [.bool false,nV,nV,nV] ⟨false,[],[],[]⟩ [emp,emp,emp]:=⟨_,_,_,[emp],[emp],emp,Z,DU.nil,DU.nil,Ai.nil,Z⟩
def Ej.JR{d1 cs L}(o:Ej d cs n L)(hl:Le d d1)(hL:∀h∈L,Le h d1):Cz d1 cs n:=by
 obtain⟨kv,vv,iv,Lk,Lv,hi,rfl,h1,h2,h3,rfl⟩:=o;exact⟨kv,vv,iv,Z,h1.Tn hl (fun h hm=>hL h (by simp[hm])),h2.Tn hl (fun h hm=>hL h (by simp[hm])),h3.rsl Ck (by omega) hl (hL _ (by simp))⟩
def OI(P:Program)(f:FuncId):Prop:=∀{d cs}{n:AB}{b:Nat}{T},Cz d cs n→Bf n≤1000000000000→∀i,i<n.keys.length→
 Ao P f [vZ i,pZ b] d [bx b T cs] (Ret fun r d' L'=>r=vZ (wD n i)∧d'=d∧L'=[bx b T cs])
def Rf(a0:Nat):A9:=⟨13,[(.tmp 3)],(sR (o1 3 (.mv z0) .done) (.seq (sR (oj 4 0 1<|ol 5 4 .done) (.cond 5 (sR (o1 6 (.ld (some 4) 1)<|om 7 0<|oc 8 a0 [6,7]<|om 3 8 .done) .ret) .skip)) (sR (o1 9 (.ld (some 4) 1)<|om 10 0<|oc 11 a0 [9,10]<|ob 12 .add 11 z2<|om 3 12 .done) .ret)))⟩
def X6(hd:dec P f=some (Rf f1))(h1:PI P f1):OI P f:=by
 intro d cs n b T hn hz i hi;have hcl:EJ n i≤1000000000000:=by
  have e1:BK n (i+1)≤BK n n.keys.length:=Hi n hi;simp only[BK] at e1;unfold Bf at hz;omega
 have hn':=hn;obtain⟨kv,vv,iv,rfl,hk,hv,hiv⟩:=hn;refine Bj hd ?_;cases hlf:n.leaf
 ·rw[hlf] at hn';refine AE Z<|BG<|Az Z Z Z<|Be Z<|Ak<|Bk 0 Z Z Z<|Ab Z<|BH Z (h1 hn' i hi)<|A4 Z Z<|AS Z<|BZ Z (Afa _) ⟨int_eq (by simp[wD,hlf]),Z,Z⟩
 ·rw[hlf] at hn';refine AE Z<|BG<|Az Z Z Z<|B7 Z<|Ak<|Bk 0 Z Z Z<|Ab Z<|BH Z (h1 hn' i hi)<|AS Z<|BZ Z (Afa _) ⟨int_eq (by simp[wD,hlf]),Z,Z⟩
def Rp(P:Program)(f:FuncId):Prop:=∀{d cs}{n:AB},Cz d cs n→Small n→
 Ao P f [.agg cs.toArray] d [] (Ret fun r d' L'=>d'=d∧∃ca cb kv La Lb g,r=.tuple #[.agg ca.toArray,.agg cb.toArray,kv,vZ (if DP n then 0 else 200)]∧L'=La++Lb++[g]∧Ej d ca (Ba n) La∧Ej d cb (Bi n) Lb∧Ai 1 Ax d kv (B4 n) g)
def SU(a0 a1 a2 a3 a4:Nat):A9:=⟨127,[(.cell 2 (some 4)),(.cell 3 (some 4)),(.tmp 4),(.tmp 5)],(sR (o1 1 (.box 0)<|o1 2 (.alo (.agg #[(.bool false),nV,nV,nV]))<|o1 3 (.alo (.agg #[(.bool false),nV,nV,nV]))<|o1 4 (.mv nS)<|o1 5 (.mv z0) .done) (sR (oj 13 1 1<|ol 14 13<|oL 15 14<|om 6 15 .done) (sR (o1 7 (.mv (kZ 3)) .done) (.seq (sR (oj 16 0 1<|ol 17 16 .done) (.cond 17 (rG (o1 7 (.mv z2) .done)) .skip)) (.seq (sR (o1 18 (.ld (some 4) 1)<|oc 19 a0 [18]<|o1 20 (.un .not 19)<|om 21 20<|gF 22 21 6<|gF 23 21 7<|oF 24 21 (.bin .lss 22 23)<|o1 25 (.pick 21 (.const (.bool true)) 24) .done) (.cond 25 (sR (o1 26 (.bld [(0,1),(1,1),(2,1),(3,1)] [(.bool false),nV,nV,nV] [])<|o1 27 (.bld [(0,1),(1,1),(2,1),(3,1)] [(.bool false),nV,nV,nV] [])<|o0 (.st 4 2 26)<|o0 (.st 4 3 27)<|o1 4 (.mv nS)<|o1 5 (.mv (kZ 200)) .done) .ret) .skip)) (sR (o1 28 (.mkf (.func a1) [] [1])<|om 8 28 .done) (sR (o1 9 (.mv z0) .done) (.seq (sR (om 29 6<|o1 30 (.mv z0) .done) (.block 0 (.loop (sR (ob 31 .lss 30 29 .done) (.seq (.cond 31 .skip (.exit 0)) (.seq (.block 1 (sR (om 32 30<|om 10 32 .done) (rG (om 33 9<|om 34 8<|om 35 10<|o1 36 (.callv 34 [35])<|ob 37 .add 33 36<|om 9 37 .done)))) (rG (ob 38 .add 30 z1<|om 30 38 .done)))))))) (sR (o1 11 (.mv z0)<|o1 12 (.mv z0) .done) (.seq (.block 2 (.loop (.seq (sR (om 39 11<|om 40 6<|ob 41 .sub 40 z1<|ob 42 .lss 39 41<|om 43 42<|gT 44 43 12<|oT 45 43 (.bin .mul z2 44)<|gT 46 43 9<|oT 47 43 (.bin .lss 45 46)<|gP 48 43 47 .done) (.cond 48 .skip (.exit 2))) (.block 3 (sR (om 49 12<|om 50 8<|om 51 11<|o1 52 (.callv 50 [51])<|ob 53 .add 49 52<|om 12 53 .done) (rG (om 54 11<|ob 55 .add 54 z1<|om 11 55 .done))))))) (.seq (sR (oj 56 0 1<|ol 57 56 .done) (.cond 57 (.seq (.reg true (p1 58 (.fld 1 1)<|pl 59 58<|pm 60 11<|pm 61 11<|p1 62 (.sl 1 59 none (some 60) (some 61))<|p1 64 (.fld 2 1)<|pl 65 64<|pm 66 11<|pm 67 11<|p1 68 (.sl 1 65 none (some 66) (some 67))<|oc 63 a2 [62]<|oc 69 a2 [68]<|p1 70 (.bld [(0,1),(1,1),(2,1),(3,1)] [(.bool false),nV,nV,nV] [(0,(.const (.bool true))),(1,63),(2,69)]) (.bar (o0 (.st 4 2 70) .done)))) (.seq (.reg true (p1 71 (.fld 1 1)<|pl 72 71<|pm 73 11<|p1 74 (.sl 1 72 (some 73) none none)<|p1 76 (.fld 2 1)<|pl 77 76<|pm 78 11<|p1 79 (.sl 1 77 (some 78) none none)<|oc 75 a2 [74]<|oc 80 a2 [79]<|p1 81 (.bld [(0,1),(1,1),(2,1),(3,1)] [(.bool false),nV,nV,nV] [(0,(.const (.bool true))),(1,75),(2,80)]) (.bar (o0 (.st 4 3 81) .done)))) (.seq (.reg true (p1 84 (.fld 1 1)<|pl 85 84<|pm 86 11<|p1 87 (.idx 1 85 86)<|pl 88 87 (.alt ⟨(some 82),none,(.ld (some 4) 2)⟩ (.alt ⟨(some 83),none,(.ld (some 4) 3)⟩ (oc 89 a3 [88] (o0 (.st 4 2 82) (o0 (.st 4 3 83) (pm 4 89 (p1 5 (.mv z0) .done))))) (oc 89 a3 [88] (.alt ⟨(some 83),none,(.ld (some 4) 3)⟩ (o0 (.st 4 2 82) (o0 (.st 4 3 83) (pm 4 89 (p1 5 (.mv z0) .done)))) (o0 (.st 4 2 82) (o1 83 (.ld (some 4) 3) (o0 (.st 4 3 83) (pm 4 89 (p1 5 (.mv z0) .done)))))))) (.alt ⟨(some 83),none,(.ld (some 4) 3)⟩ (.alt ⟨(some 82),none,(.ld (some 4) 2)⟩ (oc 89 a3 [88] (o0 (.st 4 2 82) (o0 (.st 4 3 83) (pm 4 89 (p1 5 (.mv z0) .done))))) (oc 89 a3 [88] (o1 82 (.ld (some 4) 2) (o0 (.st 4 2 82) (o0 (.st 4 3 83) (pm 4 89 (p1 5 (.mv z0) .done))))))) (oc 89 a3 [88] (.alt ⟨(some 82),none,(.ld (some 4) 2)⟩ (.alt ⟨(some 83),none,(.ld (some 4) 3)⟩ (o0 (.st 4 2 82) (o0 (.st 4 3 83) (pm 4 89 (p1 5 (.mv z0) .done)))) (o0 (.st 4 2 82) (o1 83 (.ld (some 4) 3) (o0 (.st 4 3 83) (pm 4 89 (p1 5 (.mv z0) .done)))))) (o1 83 (.ld (some 4) 3) (o1 82 (.ld (some 4) 2) (o0 (.st 4 2 82) (o0 (.st 4 3 83) (pm 4 89 (p1 5 (.mv z0) .done)))))))))))) .ret))) .skip)) (sR (om 90 11<|o1 91 (.mx2 z2 90)<|om 11 91 .done) (.seq (.reg true (p1 92 (.fld 1 1)<|pl 93 92<|pm 94 11<|p1 95 (.bin .sub 94 z1)<|pm 96 11<|p1 97 (.bin .sub 96 z1)<|p1 98 (.sl 1 93 none (some 95) (some 97))<|p1 100 (.fld 3 1)<|pl 101 100<|pm 102 11<|pm 103 11<|p1 104 (.sl 1 101 none (some 102) (some 103))<|oc 99 a2 [98]<|oc 105 a4 [104]<|p1 106 (.bld [(0,1),(1,1),(2,1),(3,1)] [(.bool false),nV,nV,nV] [(1,99),(3,105)]) (.bar (o0 (.st 4 2 106) .done)))) (.seq (.reg true (p1 107 (.fld 1 1)<|pl 108 107<|pm 109 11<|p1 110 (.sl 1 108 (some 109) none none)<|p1 112 (.fld 3 1)<|pl 113 112<|pm 114 11<|p1 115 (.sl 1 113 (some 114) none none)<|oc 111 a2 [110]<|oc 116 a4 [115]<|p1 117 (.bld [(0,1),(1,1),(2,1),(3,1)] [(.bool false),nV,nV,nV] [(1,111),(3,116)]) (.bar (o0 (.st 4 3 117) .done)))) (.seq (.reg true (p1 120 (.fld 1 1)<|pl 121 120<|pm 122 11<|p1 123 (.bin .sub 122 z1)<|p1 124 (.idx 1 121 123)<|pl 125 124 (.alt ⟨(some 118),none,(.ld (some 4) 2)⟩ (.alt ⟨(some 119),none,(.ld (some 4) 3)⟩ (oc 126 a3 [125] (o0 (.st 4 2 118) (o0 (.st 4 3 119) (pm 4 126 (p1 5 (.mv z0) .done))))) (oc 126 a3 [125] (.alt ⟨(some 119),none,(.ld (some 4) 3)⟩ (o0 (.st 4 2 118) (o0 (.st 4 3 119) (pm 4 126 (p1 5 (.mv z0) .done)))) (o0 (.st 4 2 118) (o1 119 (.ld (some 4) 3) (o0 (.st 4 3 119) (pm 4 126 (p1 5 (.mv z0) .done)))))))) (.alt ⟨(some 119),none,(.ld (some 4) 3)⟩ (.alt ⟨(some 118),none,(.ld (some 4) 2)⟩ (oc 126 a3 [125] (o0 (.st 4 2 118) (o0 (.st 4 3 119) (pm 4 126 (p1 5 (.mv z0) .done))))) (oc 126 a3 [125] (o1 118 (.ld (some 4) 2) (o0 (.st 4 2 118) (o0 (.st 4 3 119) (pm 4 126 (p1 5 (.mv z0) .done))))))) (oc 126 a3 [125] (.alt ⟨(some 118),none,(.ld (some 4) 2)⟩ (.alt ⟨(some 119),none,(.ld (some 4) 3)⟩ (o0 (.st 4 2 118) (o0 (.st 4 3 119) (pm 4 126 (p1 5 (.mv z0) .done)))) (o0 (.st 4 2 118) (o1 119 (.ld (some 4) 3) (o0 (.st 4 3 119) (pm 4 126 (p1 5 (.mv z0) .done)))))) (o1 119 (.ld (some 4) 3) (o1 118 (.ld (some 4) 2) (o0 (.st 4 2 118) (o0 (.st 4 3 119) (pm 4 126 (p1 5 (.mv z0) .done)))))))))))) .ret)))))))))))))))⟩
set_option maxHeartbeats 4000000 in
def ZV{f2 f3 f4 f5}(hd:dec P f=some (SU f1 f2 f3 f4 f5))(h1:Ny P f1)(h2:OI P f2)(h3:SN P f3)(h4:ER Ax 1 P f4)(h5:ER Bh 8 P f5):Rp P f:=by
 intro d cs n hn hsm;have hn':=hn;obtain⟨lf,ks,vs,is⟩:=n;obtain⟨kv,vv,iv,rfl,hk,hv,hiv⟩:∃kv vv iv,cs=[.bool lf,kv,vv,iv]∧DG d kv ks∧DG d vv vs∧D9 d iv is:=hn;obtain⟨hz,hb1,hb2,hb3⟩:=hsm;simp only at hb1 hb2 hb3;refine Bj hd ?_;apply Aw;apply Av;(refine CF Z (fun _ _=>DD (fun _ _=>DD (fun _ _=>Ae Z<|AU Z ?_))));rename_i b T b2 T2 b3 T3;apply Aw;apply Av;refine Adn [2,0,1] Z<|Az Z Z Z<|BX Z (by assumption)<|AU Z ?_;apply Aw;apply Av;(refine AU Z ?_);have bad:DP ⟨lf,ks,vs,is⟩=false→∀(ρ:Env) (Q:Co),Q.ret=C9 [.cell 2 (some 4),.cell 3 (some 4),.tmp 4,.tmp 5] (Ret fun r d' L'=>d'=d∧∃ca cb kv La Lb g,r=.tuple #[.agg ca.toArray,.agg cb.toArray,kv,vZ (if DP ⟨lf,ks,vs,is⟩ then 0 else 200)]∧L'=La++Lb++[g]∧Ej d ca (Ba ⟨lf,ks,vs,is⟩) La∧Ej d cb (Bi ⟨lf,ks,vs,is⟩) Lb∧Ai 1 Ax d kv (B4 ⟨lf,ks,vs,is⟩) g)→
   ρ 2=pZ b2→ρ 3=pZ b3→ρ 4=nV→ρ 5=vZ 200→Q.ret ρ d [bx b T [.bool lf,kv,vv,iv],bx b3 T3 [.bool false,nV,nV,nV],bx b2 T2 [.bool false,nV,nV,nV]]:=by
  intro hc ρ Q hQ e2 e3 e4 e5
  rw[hQ]
  refine A6 [.agg [.bool false,nV,nV,nV].toArray,.agg [.bool false,nV,nV,nV].toArray,nV,vZ 200] (d':=d) (L':=[emp,emp,emp]++[emp,emp,emp]++[emp]) ⟨AY 2 e2 Z Z,AY 1 e3 Z Z,Af e4,Af e5,trivial⟩
   ((Vs.drop (Agp _)).trans (Vs.emp.trans (Vs.emp.trans (Vs.emp.trans (Vs.emp.trans (Vs.emp.trans (Vs.emp.trans Vs.emp))))))) ⟨Z,_,_,_,_,_,emp,by rw[hc];rfl,Z,?_⟩
  simp only[Ba,Bi,B4,hc]
  exact⟨Ej.zero,Ej.zero,Ai.nil⟩
 refine G1 (fun ρ d' L'=>d=d'∧ρ 1=pZ b∧ρ 2=pZ b2∧ρ 3=pZ b3∧ρ 6=vZ ks.length∧ρ 7=vZ (if lf then 2 else 3:Nat)∧L'=[bx b T [.bool lf,kv,vv,iv],bx b3 T3 [.bool false,nV,nV,nV],bx b2 T2 [.bool false,nV,nV,nV]]) ?_ ?_
 ·cases lf
  ·(refine Ak<|Az Z Z Z<|Be Z ?_);exact⟨Z,Z,Z,Z,Z,Z,Z⟩
  ·(refine Ak<|Az Z Z Z<|B7 Z<|Av<|AU Z ?_);exact⟨Z,Z,Z,Z,Z,Z,Z⟩
 rintro ρ d' L' ⟨hdd,e1,e2,e3,e6,e7,hL⟩;subst hdd;subst hL;obtain⟨lo,hlo⟩:∃lo:Nat,lo=if lf then 2 else 3:=⟨_,Z⟩
 rw[←hlo] at e7;refine CU [(1,pZ b),(2,pZ b2),(3,pZ b3),(6,vZ ks.length),(7,vZ lo)] ⟨e1,e2,e3,e6,e7,trivial⟩<|G1 (fun ρ d' L'=>d=d'∧ρ 1=pZ b∧ρ 2=pZ b2∧ρ 3=pZ b3∧ρ 6=vZ ks.length∧DP ⟨lf,ks,vs,is⟩=true∧L'=[bx b T [.bool lf,kv,vv,iv],bx b3 T3 [.bool false,nV,nV,nV],bx b2 T2 [.bool false,nV,nV,nV]]) ?_ ?_
 ·refine Ak<|Bk 0 Z Z Z<|BH Z (h1 hn') ?_;cases hs:Bd ⟨lf,ks,vs,is⟩
  ·refine Bm Z<|Ad Z<|AQ Z Z<|BP Z<|As Z Z<|B7 Z<|Ak<|BY Z<|BY Z<|Cg 2 Z Z Z Z (by simp) Z<|Cg 1 Z Z Z Z (by simp) Z<|Ae Z<|AS Z<|bad (by simp[DP,hs]) _ _ Z Z Z Z Z
  by_cases hl:ks.length<lo
  ·refine Bm Z<|Ad Z<|Ac Z<|Ab Z<|Ac Z<|Ab Z<|Ac Z<|Au Z Z<|Aj Z Z<|A5 Z<|Ak<|BY Z<|BY Z<|Cg 2 Z Z Z Z (by simp) Z<|Cg 1 Z Z Z Z (by simp) Z<|Ae Z<|AS Z<|bad (by simp only[DP,hs];rw[←hlo];simp;omega) _ _ Z Z Z Z Z
  ·(refine Bm Z<|Ad Z<|Ac Z<|Ab Z<|Ac Z<|Ab Z<|Ac Z<|Au Z Z<|Aj Z Z<|AT Z ?_);exact⟨Z,Z,Z,Z,Z,by simp only[DP,hs];rw[←hlo];simp;omega,Z⟩
 rintro ρ d' L' ⟨hdd,e1,e2,e3,e6,hcan,hL⟩;subst hdd;subst hL;refine CU [(1,pZ b),(2,pZ b2),(3,pZ b3),(6,vZ ks.length)] ⟨e1,e2,e3,e6,trivial⟩ ?_;have hps:∀i,i≤ks.length→CW ⟨lf,ks,vs,is⟩ i≤1002000000000:=fun i hi=>by
  have h1:=Ml ⟨lf,ks,vs,is⟩ hi;have h2:=AbY ⟨lf,ks,vs,is⟩ ks.length;simp only[Bf] at hz;omega
 have hkl:ks.length≥2:=by
  simp only[DP,Afb,decide_eq_true_eq] at hcan;have:=hcan.2;split at this<;>omega
 refine Ak<|ND<|FZ Z<|Bo<|AR Z<|Ab Z<|AU Z<|Aq<|DF (α:=Nat) (fun i=>[(1,pZ b),(2,pZ b2),(3,pZ b3),(6,vZ ks.length),(8,.func (.func f2) #[] #[pZ b]),(9,vZ (CW ⟨lf,ks,vs,is⟩ i:Nat)),(29,vZ ks.length),(30,vZ i)]) (fun _=>[bx b T [.bool lf,kv,vv,iv],bx b3 T3 [.bool false,nV,nV,nV],bx b2 T2 [.bool false,nV,nV,nV]])
  (fun i=>i≤ks.length) (fun i=>ks.length - i) 0 ⟨Z,Z,Z,Z,Z,Z,Z,Z,trivial⟩ Z (Agd _) ?_
 rintro i ρ hi;have hpi:=hps i hi;(refine Ak<|Au Z Z<|By ?_);first|refine JN rfl (fun hc=>?_) (fun hc=>?_)|refine Np rfl (fun hc=>?_) (fun hc=>?_)
 ·have hi1:i<ks.length:=by omega
  have hpi1:=hps (i+1) hi1;simp only[CW] at hpi1;refine AH<|Aw<|Aq<|AE Z<|AU Z<|Av<|Ab Z<|FZ Z<|Ab Z<|KC 1 Z Z (h2 hn' hz i hi1) (fun r d2 L2 _ ⟨hr,hdd,hL⟩=>?_);subst hr;subst hdd;subst hL;(refine A4 Z Z<|AU Z<|Av<|A4 Z Z<|AU Z ?_);exact⟨i+1,by omega,⟨Z,Z,Z,Z,Z,int_eq (by simp only[CW];omega),Z,int_eq (by omega),trivial⟩,Z,Z,hi1⟩
 obtain rfl:i=ks.length:=by omega
 apply Bl;apply Aw;apply Av;refine Ab Z<|AU Z<|G1 (fun ρ d' L'=>d=d'∧ρ 1=pZ b∧ρ 2=pZ b2∧ρ 3=pZ b3∧L'=[bx b T [.bool lf,kv,vv,iv],bx b3 T3 [.bool false,nV,nV,nV],bx b2 T2 [.bool false,nV,nV,nV]]∧∃a,ρ 11=vZ (a:Nat)∧a≤ks.length - 1∧atD ⟨lf,ks,vs,is⟩=a) ?_ ?_
 ·(apply Aq);refine DF (α:=Nat) (fun i=>[(1,pZ b),(2,pZ b2),(3,pZ b3),(6,vZ ks.length),(8,.func (.func f2) #[] #[pZ b]),(9,vZ (CW ⟨lf,ks,vs,is⟩ ks.length:Nat)),(11,vZ i),(12,vZ (CW ⟨lf,ks,vs,is⟩ i:Nat))]) (fun _=>[bx b T [.bool lf,kv,vv,iv],bx b3 T3 [.bool false,nV,nV,nV],bx b2 T2 [.bool false,nV,nV,nV]])
   (fun i=>i≤ks.length - 1∧Ho ⟨lf,ks,vs,is⟩ (ks.length - i) i=atD ⟨lf,ks,vs,is⟩) (fun i=>ks.length - i) 0 ⟨Z,Z,Z,Z,Z,Z,Z,Z,trivial⟩ Z ⟨Agd _,Z⟩ ?_
  rintro a ρ ⟨ha,hat⟩;have hpa:=hps a (by omega);have hpl:=hps ks.length (Afe _);by_cases hc1:a<ks.length - 1
  ·by_cases hc2:2*CW ⟨lf,ks,vs,is⟩ a<CW ⟨lf,ks,vs,is⟩ ks.length
   ·have hpa1:=hps (a+1) (by omega);simp only[CW] at hpa1;refine AZ<|Ab Z<|Ab Z<|DT Z Z<|Au Z Z<|Ad Z<|Bx Z<|Ac Z<|Ab Z<|Ac Z<|JW Z Z (by omega) (by omega)<|Ac Z<|Ab Z<|Ac Z<|Au Z Z<|As Z Z<|A5 Z<|AH<|Aq<|AE Z<|FZ Z<|Ab Z<|KC 1 Z Z (h2 hn' hz a (show a<ks.length by omega)) (fun r d2 L2 _ ⟨hr,hdd,hL⟩=>?_);subst hr;subst hdd;subst hL;(refine A4 Z Z<|AU Z<|Av<|Ab Z<|A4 Z Z<|AU Z ?_);exact⟨a+1,by omega,⟨Z,Z,Z,Z,Z,Z,int_eq (by omega),int_eq (by simp only[CW];omega),trivial⟩,Z,Z,by omega,Yg _ hc1 hc2 hat⟩
   ·have hatd:=Rx _ (fun h=>hc2 h.2) hat;(refine AZ<|Ab Z<|Ab Z<|DT Z Z<|Au Z Z<|Ad Z<|Bx Z<|Ac Z<|Ab Z<|Ac Z<|JW Z Z (by omega) (by omega)<|Ac Z<|Ab Z<|Ac Z<|Au Z Z<|As Z Z<|EY Z<|Bl ?_);exact⟨Z,Z,Z,Z,Z,a,Z,ha,hatd⟩
  ·have hatd:=Rx _ (fun h=>hc1 h.1) hat;(refine AZ<|Ab Z<|Ab Z<|DT Z Z<|Au Z Z<|Ad Z<|Bs Z<|AQ Z Z<|AQ Z Z<|Aj Z Z<|Jq Z<|Bl ?_);exact⟨Z,Z,Z,Z,Z,a,Z,ha,hatd⟩
 rintro ρ d' L' ⟨hdd,e1,e2,e3,hL,a,e10,ha,hatd⟩;subst hdd;subst hL;refine CU [(1,pZ b),(2,pZ b2),(3,pZ b3),(11,vZ a)] ⟨e1,e2,e3,e10,trivial⟩<|AZ<|Az Z Z Z<|An ?_;first|refine JN rfl (fun hl=>?_) (fun hl=>?_)|refine Np rfl (fun hl=>?_) (fun hl=>?_)
 ·subst hl;have hvl:vs.length=ks.length:=by
   simp only[DP,Bd,Afb,if_true,decide_eq_true_eq] at hcan;exact hcan.1.2.1.1
  refine Aw<|BI<|Az Z Z Z<|Ab Z<|Ab Z<|NM Z hk Z Z Z Z (show a≤ks.length by omega) (fun v1 hv1=>?_);refine Az Z Z Z<|Ab Z<|Ab Z<|NM Z hv Z Z Z Z (show a≤vs.length by omega) (fun v2 hv2=>?_);refine Bz Z (h3 hv1 (by simp;omega)) (fun u1 d1 Lk _ ⟨hdd,o1⟩=>?_);subst hdd;refine Bz Z (h3 hv2 (by simp;omega)) (fun u2 d2 Lv _ ⟨hdd,o2⟩=>?_);subst hdd;obtain⟨a1,c1,rfl⟩:=o1.val;obtain⟨a2,c2,rfl⟩:=o2.val;refine BY (cs:=[.bool true,.slice a1 (ks.take a).length c1,.slice a2 (vs.take a).length c2,nV]) Z ?_;(apply Cw);refine Cg 2 Z Z Z Z (by simp) Z<|By<|BI<|Az Z Z Z<|Ab Z<|Ex Z hk Z Z (show a≤ks.length by omega) (fun v3 hv3=>?_);refine Az Z Z Z<|Ab Z<|Ex Z hv Z Z (show a≤vs.length by omega) (fun v4 hv4=>?_);refine Bz Z (h3 hv3 (by simp;omega)) (fun u3 d3 Rk _ ⟨hdd,o3⟩=>?_);subst hdd;refine Bz Z (h3 hv4 (by simp;omega)) (fun u4 d4 Rv _ ⟨hdd,o4⟩=>?_);subst hdd;obtain⟨a3,c3,rfl⟩:=o3.val;obtain⟨a4,c4,rfl⟩:=o4.val;refine BY (cs:=[.bool true,.slice a3 (ks.drop a).length c3,.slice a4 (vs.drop a).length c4,nV]) Z ?_;(apply Cw);refine Cg 1 Z Z Z Z (by simp) Z ?_;have hk1:a<ks.length:=by omega
  refine By<|BE [bx b T [.bool true,kv,vv,iv]] (bx b3 T3 [.bool true,.slice a3 (ks.drop a).length c3,.slice a4 (vs.drop a).length c4,nV]::bx b2 T2 [.bool true,.slice a1 (ks.take a).length c1,.slice a2 (vs.take a).length c2,nV]::(Lv++(Lk++[])++(Rv++(Rk++[])))) Z ?_;(refine Az Z Z Z<|Ab Z<|Bq (sz:=1) (R:=RBs) (by rfl) (by assumption) (by rfl) Z (by omega) ?_;rintro _ _ _ _ _ ⟨_,rfl,_⟩;apply Ah;rfl;exact BO (by assumption) Z);rename_i w5 hw5 _ _;have hxl:(ks[a]).length*1≤140737488355328:=by have:=Ay.BW hw5;omega
  have hvs:∀(d:Aa) (g:Aa),Vs d (bx b T [.bool true,kv,vv,iv]::g::bx b3 T3 [.bool true,.slice a3 (ks.drop a).length c3,.slice a4 (vs.drop a).length c4,nV]::bx b2 T2 [.bool true,.slice a1 (ks.take a).length c1,.slice a2 (vs.take a).length c2,nV]::(Lv++(Lk++[])++(Rv++(Rk++[])))) d ((Lk++Lv++[emp])++(Rk++Rv++[emp])++[g]):=fun d g=>
   (Vs.emp.trans Vs.emp).trans (by simpa [Afg] using Vs.WG [[emp],[emp],[bx b T [.bool true,kv,vv,iv]],[g],[bx b3 T3 [.bool true,.slice a3 (ks.drop a).length c3,.slice a4 (vs.drop a).length c4,nV]],[bx b2 T2 [.bool true,.slice a1 (ks.take a).length c1,.slice a2 (vs.take a).length c2,nV]],Lv,Lk,Rv,Rk] [7,6,0,9,8,1,3] [2,4,5] Z)
  refine Fw ?_ ?_
  ·apply Bk 2;rfl;rfl;rfl;refine Fw ?_ ?_
   ·apply Bk 1;rfl;rfl;rfl;refine Bz Z (h4 (xs:=ks[a]) hw5 hxl) (fun u5 d5 Lg _ ⟨hdd,g,hLg,hg⟩=>?_);subst hdd;subst hLg;refine Cg 2 Z Z Z Z (by simp) Z<|Cg 1 Z Z Z Z (by simp) Z ?_;apply AK;apply Ab;rfl;apply A8;apply DE;refine A6 [.agg [.bool true,.slice a1 (ks.take a).length c1,.slice a2 (vs.take a).length c2,nV].toArray,.agg [.bool true,.slice a3 (ks.drop a).length c3,.slice a4 (vs.drop a).length c4,nV].toArray,u5,vZ 0] (L':=(Lk++Lv++[emp])++(Rk++Rv++[emp])++[g]) ⟨AY 3 Z Z Z,AY 2 Z Z Z,Af Z,Af Z,trivial⟩ (hvs _ g) ⟨Z,_,_,_,_,_,g,by rw[hcan];rfl,Z,?_⟩;simp only[Ba,Bi,B4,hcan,if_true,hatd];exact⟨⟨_,_,_,Lk,Lv,emp,Z,o1,o2,Ai.nil,Z⟩,⟨_,_,_,Rk,Rv,emp,Z,o3,o4,Ai.nil,Z⟩,by simpa [hk1] using hg⟩
   ·refine Bz Z (h4 (xs:=ks[a]) hw5 hxl) (fun u5 d5 Lg _ ⟨hdd,g,hLg,hg⟩=>?_);subst hdd;subst hLg;refine Fw ?_ ?_
    ·apply Bk 2;rfl;rfl;rfl;refine Cg 2 Z Z Z Z (by simp) Z<|Cg 1 Z Z Z Z (by simp) Z ?_;apply AK;apply Ab;rfl;apply A8;apply DE;refine A6 [.agg [.bool true,.slice a1 (ks.take a).length c1,.slice a2 (vs.take a).length c2,nV].toArray,.agg [.bool true,.slice a3 (ks.drop a).length c3,.slice a4 (vs.drop a).length c4,nV].toArray,u5,vZ 0] (L':=(Lk++Lv++[emp])++(Rk++Rv++[emp])++[g]) ⟨AY 3 Z Z Z,AY 2 Z Z Z,Af Z,Af Z,trivial⟩ (hvs _ g) ⟨Z,_,_,_,_,_,g,by rw[hcan];rfl,Z,?_⟩;simp only[Ba,Bi,B4,hcan,if_true,hatd];exact⟨⟨_,_,_,Lk,Lv,emp,Z,o1,o2,Ai.nil,Z⟩,⟨_,_,_,Rk,Rv,emp,Z,o3,o4,Ai.nil,Z⟩,by simpa [hk1] using hg⟩
    ·refine Cg 2 Z Z Z Z (by simp) Z ?_;apply Bk 2;rfl;rfl;rfl;refine Cg 1 Z Z Z Z (by simp) Z ?_;apply AK;apply Ab;rfl;apply A8;apply DE;refine A6 [.agg [.bool true,.slice a1 (ks.take a).length c1,.slice a2 (vs.take a).length c2,nV].toArray,.agg [.bool true,.slice a3 (ks.drop a).length c3,.slice a4 (vs.drop a).length c4,nV].toArray,u5,vZ 0] (L':=(Lk++Lv++[emp])++(Rk++Rv++[emp])++[g]) ⟨AY 3 Z Z Z,AY 2 Z Z Z,Af Z,Af Z,trivial⟩ (hvs _ g) ⟨Z,_,_,_,_,_,g,by rw[hcan];rfl,Z,?_⟩;simp only[Ba,Bi,B4,hcan,if_true,hatd];exact⟨⟨_,_,_,Lk,Lv,emp,Z,o1,o2,Ai.nil,Z⟩,⟨_,_,_,Rk,Rv,emp,Z,o3,o4,Ai.nil,Z⟩,by simpa [hk1] using hg⟩
  ·refine Fw ?_ ?_
   ·apply Bk 1;rfl;rfl;rfl;refine Fw ?_ ?_
    ·apply Bk 2;rfl;rfl;rfl;refine Bz Z (h4 (xs:=ks[a]) hw5 hxl) (fun u5 d5 Lg _ ⟨hdd,g,hLg,hg⟩=>?_);subst hdd;subst hLg;refine Cg 2 Z Z Z Z (by simp) Z<|Cg 1 Z Z Z Z (by simp) Z ?_;apply AK;apply Ab;rfl;apply A8;apply DE;refine A6 [.agg [.bool true,.slice a1 (ks.take a).length c1,.slice a2 (vs.take a).length c2,nV].toArray,.agg [.bool true,.slice a3 (ks.drop a).length c3,.slice a4 (vs.drop a).length c4,nV].toArray,u5,vZ 0] (L':=(Lk++Lv++[emp])++(Rk++Rv++[emp])++[g]) ⟨AY 3 Z Z Z,AY 2 Z Z Z,Af Z,Af Z,trivial⟩ (hvs _ g) ⟨Z,_,_,_,_,_,g,by rw[hcan];rfl,Z,?_⟩;simp only[Ba,Bi,B4,hcan,if_true,hatd];exact⟨⟨_,_,_,Lk,Lv,emp,Z,o1,o2,Ai.nil,Z⟩,⟨_,_,_,Rk,Rv,emp,Z,o3,o4,Ai.nil,Z⟩,by simpa [hk1] using hg⟩
    ·refine Bz Z (h4 (xs:=ks[a]) hw5 hxl) (fun u5 d5 Lg _ ⟨hdd,g,hLg,hg⟩=>?_);subst hdd;subst hLg;apply Bk 3;rfl;rfl;rfl;refine Cg 2 Z Z Z Z (by simp) Z<|Cg 1 Z Z Z Z (by simp) Z ?_;apply AK;apply Ab;rfl;apply A8;apply DE;refine A6 [.agg [.bool true,.slice a1 (ks.take a).length c1,.slice a2 (vs.take a).length c2,nV].toArray,.agg [.bool true,.slice a3 (ks.drop a).length c3,.slice a4 (vs.drop a).length c4,nV].toArray,u5,vZ 0] (L':=(Lk++Lv++[emp])++(Rk++Rv++[emp])++[g]) ⟨AY 3 Z Z Z,AY 2 Z Z Z,Af Z,Af Z,trivial⟩ (hvs _ g) ⟨Z,_,_,_,_,_,g,by rw[hcan];rfl,Z,?_⟩;simp only[Ba,Bi,B4,hcan,if_true,hatd];exact⟨⟨_,_,_,Lk,Lv,emp,Z,o1,o2,Ai.nil,Z⟩,⟨_,_,_,Rk,Rv,emp,Z,o3,o4,Ai.nil,Z⟩,by simpa [hk1] using hg⟩
   ·refine Bz Z (h4 (xs:=ks[a]) hw5 hxl) (fun u5 d5 Lg _ ⟨hdd,g,hLg,hg⟩=>?_);subst hdd;subst hLg;refine Fw ?_ ?_
    ·apply Bk 3;rfl;rfl;rfl;refine Fw ?_ ?_
     ·apply Bk 2;rfl;rfl;rfl;refine Cg 2 Z Z Z Z (by simp) Z<|Cg 1 Z Z Z Z (by simp) Z ?_;apply AK;apply Ab;rfl;apply A8;apply DE;refine A6 [.agg [.bool true,.slice a1 (ks.take a).length c1,.slice a2 (vs.take a).length c2,nV].toArray,.agg [.bool true,.slice a3 (ks.drop a).length c3,.slice a4 (vs.drop a).length c4,nV].toArray,u5,vZ 0] (L':=(Lk++Lv++[emp])++(Rk++Rv++[emp])++[g]) ⟨AY 3 Z Z Z,AY 2 Z Z Z,Af Z,Af Z,trivial⟩ (hvs _ g) ⟨Z,_,_,_,_,_,g,by rw[hcan];rfl,Z,?_⟩;simp only[Ba,Bi,B4,hcan,if_true,hatd];exact⟨⟨_,_,_,Lk,Lv,emp,Z,o1,o2,Ai.nil,Z⟩,⟨_,_,_,Rk,Rv,emp,Z,o3,o4,Ai.nil,Z⟩,by simpa [hk1] using hg⟩
     ·refine Cg 2 Z Z Z Z (by simp) Z ?_;apply Bk 2;rfl;rfl;rfl;refine Cg 1 Z Z Z Z (by simp) Z ?_;apply AK;apply Ab;rfl;apply A8;apply DE;refine A6 [.agg [.bool true,.slice a1 (ks.take a).length c1,.slice a2 (vs.take a).length c2,nV].toArray,.agg [.bool true,.slice a3 (ks.drop a).length c3,.slice a4 (vs.drop a).length c4,nV].toArray,u5,vZ 0] (L':=(Lk++Lv++[emp])++(Rk++Rv++[emp])++[g]) ⟨AY 3 Z Z Z,AY 2 Z Z Z,Af Z,Af Z,trivial⟩ (hvs _ g) ⟨Z,_,_,_,_,_,g,by rw[hcan];rfl,Z,?_⟩;simp only[Ba,Bi,B4,hcan,if_true,hatd];exact⟨⟨_,_,_,Lk,Lv,emp,Z,o1,o2,Ai.nil,Z⟩,⟨_,_,_,Rk,Rv,emp,Z,o3,o4,Ai.nil,Z⟩,by simpa [hk1] using hg⟩
    ·apply Bk 2;rfl;rfl;rfl;apply Bk 3;rfl;rfl;rfl;refine Cg 2 Z Z Z Z (by simp) Z<|Cg 1 Z Z Z Z (by simp) Z ?_;apply AK;apply Ab;rfl;apply A8;apply DE;refine A6 [.agg [.bool true,.slice a1 (ks.take a).length c1,.slice a2 (vs.take a).length c2,nV].toArray,.agg [.bool true,.slice a3 (ks.drop a).length c3,.slice a4 (vs.drop a).length c4,nV].toArray,u5,vZ 0] (L':=(Lk++Lv++[emp])++(Rk++Rv++[emp])++[g]) ⟨AY 3 Z Z Z,AY 2 Z Z Z,Af Z,Af Z,trivial⟩ (hvs _ g) ⟨Z,_,_,_,_,_,g,by rw[hcan];rfl,Z,?_⟩;simp only[Ba,Bi,B4,hcan,if_true,hatd];exact⟨⟨_,_,_,Lk,Lv,emp,Z,o1,o2,Ai.nil,Z⟩,⟨_,_,_,Rk,Rv,emp,Z,o3,o4,Ai.nil,Z⟩,by simpa [hk1] using hg⟩
 ·subst hl;have hil:is.length=ks.length+1:=by
   simp only[DP,Bd,Afb,Afh,if_false,decide_eq_true_eq] at hcan;exact hcan.1.2.1.2
  have hk3:3≤ks.length:=by
   simp only[DP,Afb,Afh,if_false,decide_eq_true_eq] at hcan;exact hcan.2
  apply AH;refine G1 (fun ρ d' L'=>d=d'∧ρ 1=pZ b∧ρ 2=pZ b2∧ρ 3=pZ b3∧L'=[bx b T [.bool false,kv,vv,iv],bx b3 T3 [.bool false,nV,nV,nV],bx b2 T2 [.bool false,nV,nV,nV]]∧ρ 11=vZ (at2 ⟨false,ks,vs,is⟩:Nat)) ?_ ?_
  ·(refine Av<|Ab Z<|AbE Z Z<|AU Z ?_);exact⟨Z,Z,Z,Z,Z,int_eq (by simp only[at2,hatd];omega)⟩
  rintro ρ d' L' ⟨hdd,e1,e2,e3,hL,e10⟩;subst hdd;subst hL;refine CU [(1,pZ b),(2,pZ b2),(3,pZ b3),(11,vZ (at2 ⟨false,ks,vs,is⟩:Nat))] ⟨e1,e2,e3,e10,trivial⟩ ?_;obtain⟨m,hm⟩:∃m,at2 ⟨false,ks,vs,is⟩=m+1:=⟨at2 ⟨false,ks,vs,is⟩ - 1,by simp only[at2];omega⟩
  have hm2:m+1≤ks.length - 1:=by rw[←hm];simp only[at2,hatd];omega
  rw[hm];refine Aw<|BI<|Az Z Z Z<|Ab Z<|DT Z Z<|Ab Z<|DT Z Z<|NM Z hk Z Z (show((m+1:Nat):Int) - 1=(m:Int) by omega) (show((m+1:Nat):Int) - 1=(m:Int) by omega) (show m≤ks.length by omega) (fun v1 hv1=>?_);refine Az Z Z Z<|Ab Z<|Ab Z<|NM Z hiv Z Z Z Z (show m+1≤is.length by omega) (fun v2 hv2=>?_);refine Bz Z (h3 hv1 (by simp;omega)) (fun u1 d1 Lk _ ⟨hdd,o1⟩=>?_);subst hdd;refine Bz Z (h5 hv2 (by simp;omega)) (fun u2 d2 Lgl _ ⟨hdd,gl,hLgl,o2⟩=>?_);subst hdd;subst hLgl;obtain⟨a1,c1,rfl⟩:=o1.val;obtain⟨a2,c2,rfl⟩:=o2.val;refine BY (cs:=[.bool false,.slice a1 (ks.take m).length c1,nV,.slice a2 (is.take (m+1)).length c2]) Z ?_;(apply Cw);refine Cg 2 Z Z Z Z (by simp) Z<|By<|BI<|Az Z Z Z<|Ab Z<|Ex Z hk Z Z (show m+1≤ks.length by omega) (fun v3 hv3=>?_);refine Az Z Z Z<|Ab Z<|Ex Z hiv Z Z (show m+1≤is.length by omega) (fun v4 hv4=>?_);refine Bz Z (h3 hv3 (by simp;omega)) (fun u3 d3 Rk _ ⟨hdd,o3⟩=>?_);subst hdd;refine Bz Z (h5 hv4 (by simp;omega)) (fun u4 d4 Lgr _ ⟨hdd,gr,hLgr,o4⟩=>?_);subst hdd;subst hLgr;obtain⟨a3,c3,rfl⟩:=o3.val;obtain⟨a4,c4,rfl⟩:=o4.val;refine BY (cs:=[.bool false,.slice a3 (ks.drop (m+1)).length c3,nV,.slice a4 (is.drop (m+1)).length c4]) Z ?_;(apply Cw);refine Cg 1 Z Z Z Z (by simp) Z ?_;have hk1:m<ks.length:=by omega
  refine By<|BE [bx b T [.bool false,kv,vv,iv]] (bx b3 T3 [.bool false,.slice a3 (ks.drop (m+1)).length c3,nV,.slice a4 (is.drop (m+1)).length c4]::bx b2 T2 [.bool false,.slice a1 (ks.take m).length c1,nV,.slice a2 (is.take (m+1)).length c2]::((gl::(Lk++[]))++(gr::(Rk++[])))) Z<|Az Z Z Z<|Ab Z<|DT Z Z<|Bq (sz:=1) (R:=RBs) (m:=m) Z hk Z (by omega) hk1 ?_;rintro b5 o5 _ _ hD5 ⟨w5,rfl,hw5⟩;(apply Ah;rfl;exact BO (by assumption) Z);have hxl:(ks[m]).length*1≤140737488355328:=by have:=Ay.BW hw5;omega
  have hvs:∀(d:Aa) (g:Aa),Vs d (bx b T [.bool false,kv,vv,iv]::g::bx b3 T3 [.bool false,.slice a3 (ks.drop (m+1)).length c3,nV,.slice a4 (is.drop (m+1)).length c4]::bx b2 T2 [.bool false,.slice a1 (ks.take m).length c1,nV,.slice a2 (is.take (m+1)).length c2]::((gl::(Lk++[]))++(gr::(Rk++[])))) d ((Lk++[emp]++[gl])++(Rk++[emp]++[gr])++[g]):=fun d g=>
   (Vs.emp.trans Vs.emp).trans (by simpa [Afg] using Vs.WG [[emp],[emp],[bx b T [.bool false,kv,vv,iv]],[g],[bx b3 T3 [.bool false,.slice a3 (ks.drop (m+1)).length c3,nV,.slice a4 (is.drop (m+1)).length c4]],[bx b2 T2 [.bool false,.slice a1 (ks.take m).length c1,nV,.slice a2 (is.take (m+1)).length c2]],[gl],Lk,[gr],Rk] [7,0,6,9,1,8,3] [2,4,5] Z)
  refine Fw ?_ ?_
  ·apply Bk 2;rfl;rfl;rfl;refine Fw ?_ ?_
   ·apply Bk 1;rfl;rfl;rfl;refine Bz Z (h4 (xs:=ks[m]) hw5 hxl) (fun u5 d5 Lg _ ⟨hdd,g,hLg,hg⟩=>?_);subst hdd;subst hLg;refine Cg 2 Z Z Z Z (by simp) Z<|Cg 1 Z Z Z Z (by simp) Z ?_;apply AK;apply Ab;rfl;apply A8;apply DE;refine A6 [.agg [.bool false,.slice a1 (ks.take m).length c1,nV,.slice a2 (is.take (m+1)).length c2].toArray,.agg [.bool false,.slice a3 (ks.drop (m+1)).length c3,nV,.slice a4 (is.drop (m+1)).length c4].toArray,u5,vZ 0] (L':=(Lk++[emp]++[gl])++(Rk++[emp]++[gr])++[g]) ⟨AY 3 Z Z Z,AY 2 Z Z Z,Af Z,Af Z,trivial⟩ (hvs _ g) ⟨Z,_,_,_,_,_,g,by rw[hcan];rfl,Z,?_⟩;simp only[Ba,Bi,B4,hcan,if_true,hm,Afh,if_false,Ahp];exact⟨⟨_,_,_,Lk,[emp],gl,Z,o1,DU.nil,o2,Z⟩,⟨_,_,_,Rk,[emp],gr,Z,o3,DU.nil,o4,Z⟩,by simpa [hk1] using hg⟩
   ·refine Bz Z (h4 (xs:=ks[m]) hw5 hxl) (fun u5 d5 Lg _ ⟨hdd,g,hLg,hg⟩=>?_);subst hdd;subst hLg;refine Fw ?_ ?_
    ·apply Bk 2;rfl;rfl;rfl;refine Cg 2 Z Z Z Z (by simp) Z<|Cg 1 Z Z Z Z (by simp) Z ?_;apply AK;apply Ab;rfl;apply A8;apply DE;refine A6 [.agg [.bool false,.slice a1 (ks.take m).length c1,nV,.slice a2 (is.take (m+1)).length c2].toArray,.agg [.bool false,.slice a3 (ks.drop (m+1)).length c3,nV,.slice a4 (is.drop (m+1)).length c4].toArray,u5,vZ 0] (L':=(Lk++[emp]++[gl])++(Rk++[emp]++[gr])++[g]) ⟨AY 3 Z Z Z,AY 2 Z Z Z,Af Z,Af Z,trivial⟩ (hvs _ g) ⟨Z,_,_,_,_,_,g,by rw[hcan];rfl,Z,?_⟩;simp only[Ba,Bi,B4,hcan,if_true,hm,Afh,if_false,Ahp];exact⟨⟨_,_,_,Lk,[emp],gl,Z,o1,DU.nil,o2,Z⟩,⟨_,_,_,Rk,[emp],gr,Z,o3,DU.nil,o4,Z⟩,by simpa [hk1] using hg⟩
    ·refine Cg 2 Z Z Z Z (by simp) Z ?_;apply Bk 2;rfl;rfl;rfl;refine Cg 1 Z Z Z Z (by simp) Z ?_;apply AK;apply Ab;rfl;apply A8;apply DE;refine A6 [.agg [.bool false,.slice a1 (ks.take m).length c1,nV,.slice a2 (is.take (m+1)).length c2].toArray,.agg [.bool false,.slice a3 (ks.drop (m+1)).length c3,nV,.slice a4 (is.drop (m+1)).length c4].toArray,u5,vZ 0] (L':=(Lk++[emp]++[gl])++(Rk++[emp]++[gr])++[g]) ⟨AY 3 Z Z Z,AY 2 Z Z Z,Af Z,Af Z,trivial⟩ (hvs _ g) ⟨Z,_,_,_,_,_,g,by rw[hcan];rfl,Z,?_⟩;simp only[Ba,Bi,B4,hcan,if_true,hm,Afh,if_false,Ahp];exact⟨⟨_,_,_,Lk,[emp],gl,Z,o1,DU.nil,o2,Z⟩,⟨_,_,_,Rk,[emp],gr,Z,o3,DU.nil,o4,Z⟩,by simpa [hk1] using hg⟩
  ·refine Fw ?_ ?_
   ·apply Bk 1;rfl;rfl;rfl;refine Fw ?_ ?_
    ·apply Bk 2;rfl;rfl;rfl;refine Bz Z (h4 (xs:=ks[m]) hw5 hxl) (fun u5 d5 Lg _ ⟨hdd,g,hLg,hg⟩=>?_);subst hdd;subst hLg;refine Cg 2 Z Z Z Z (by simp) Z<|Cg 1 Z Z Z Z (by simp) Z ?_;apply AK;apply Ab;rfl;apply A8;apply DE;refine A6 [.agg [.bool false,.slice a1 (ks.take m).length c1,nV,.slice a2 (is.take (m+1)).length c2].toArray,.agg [.bool false,.slice a3 (ks.drop (m+1)).length c3,nV,.slice a4 (is.drop (m+1)).length c4].toArray,u5,vZ 0] (L':=(Lk++[emp]++[gl])++(Rk++[emp]++[gr])++[g]) ⟨AY 3 Z Z Z,AY 2 Z Z Z,Af Z,Af Z,trivial⟩ (hvs _ g) ⟨Z,_,_,_,_,_,g,by rw[hcan];rfl,Z,?_⟩;simp only[Ba,Bi,B4,hcan,if_true,hm,Afh,if_false,Ahp];exact⟨⟨_,_,_,Lk,[emp],gl,Z,o1,DU.nil,o2,Z⟩,⟨_,_,_,Rk,[emp],gr,Z,o3,DU.nil,o4,Z⟩,by simpa [hk1] using hg⟩
    ·refine Bz Z (h4 (xs:=ks[m]) hw5 hxl) (fun u5 d5 Lg _ ⟨hdd,g,hLg,hg⟩=>?_);subst hdd;subst hLg;apply Bk 3;rfl;rfl;rfl;refine Cg 2 Z Z Z Z (by simp) Z<|Cg 1 Z Z Z Z (by simp) Z ?_;apply AK;apply Ab;rfl;apply A8;apply DE;refine A6 [.agg [.bool false,.slice a1 (ks.take m).length c1,nV,.slice a2 (is.take (m+1)).length c2].toArray,.agg [.bool false,.slice a3 (ks.drop (m+1)).length c3,nV,.slice a4 (is.drop (m+1)).length c4].toArray,u5,vZ 0] (L':=(Lk++[emp]++[gl])++(Rk++[emp]++[gr])++[g]) ⟨AY 3 Z Z Z,AY 2 Z Z Z,Af Z,Af Z,trivial⟩ (hvs _ g) ⟨Z,_,_,_,_,_,g,by rw[hcan];rfl,Z,?_⟩;simp only[Ba,Bi,B4,hcan,if_true,hm,Afh,if_false,Ahp];exact⟨⟨_,_,_,Lk,[emp],gl,Z,o1,DU.nil,o2,Z⟩,⟨_,_,_,Rk,[emp],gr,Z,o3,DU.nil,o4,Z⟩,by simpa [hk1] using hg⟩
   ·refine Bz Z (h4 (xs:=ks[m]) hw5 hxl) (fun u5 d5 Lg _ ⟨hdd,g,hLg,hg⟩=>?_);subst hdd;subst hLg;refine Fw ?_ ?_
    ·apply Bk 3;rfl;rfl;rfl;refine Fw ?_ ?_
     ·apply Bk 2;rfl;rfl;rfl;refine Cg 2 Z Z Z Z (by simp) Z<|Cg 1 Z Z Z Z (by simp) Z ?_;apply AK;apply Ab;rfl;apply A8;apply DE;refine A6 [.agg [.bool false,.slice a1 (ks.take m).length c1,nV,.slice a2 (is.take (m+1)).length c2].toArray,.agg [.bool false,.slice a3 (ks.drop (m+1)).length c3,nV,.slice a4 (is.drop (m+1)).length c4].toArray,u5,vZ 0] (L':=(Lk++[emp]++[gl])++(Rk++[emp]++[gr])++[g]) ⟨AY 3 Z Z Z,AY 2 Z Z Z,Af Z,Af Z,trivial⟩ (hvs _ g) ⟨Z,_,_,_,_,_,g,by rw[hcan];rfl,Z,?_⟩;simp only[Ba,Bi,B4,hcan,if_true,hm,Afh,if_false,Ahp];exact⟨⟨_,_,_,Lk,[emp],gl,Z,o1,DU.nil,o2,Z⟩,⟨_,_,_,Rk,[emp],gr,Z,o3,DU.nil,o4,Z⟩,by simpa [hk1] using hg⟩
     ·refine Cg 2 Z Z Z Z (by simp) Z ?_;apply Bk 2;rfl;rfl;rfl;refine Cg 1 Z Z Z Z (by simp) Z ?_;apply AK;apply Ab;rfl;apply A8;apply DE;refine A6 [.agg [.bool false,.slice a1 (ks.take m).length c1,nV,.slice a2 (is.take (m+1)).length c2].toArray,.agg [.bool false,.slice a3 (ks.drop (m+1)).length c3,nV,.slice a4 (is.drop (m+1)).length c4].toArray,u5,vZ 0] (L':=(Lk++[emp]++[gl])++(Rk++[emp]++[gr])++[g]) ⟨AY 3 Z Z Z,AY 2 Z Z Z,Af Z,Af Z,trivial⟩ (hvs _ g) ⟨Z,_,_,_,_,_,g,by rw[hcan];rfl,Z,?_⟩;simp only[Ba,Bi,B4,hcan,if_true,hm,Afh,if_false,Ahp];exact⟨⟨_,_,_,Lk,[emp],gl,Z,o1,DU.nil,o2,Z⟩,⟨_,_,_,Rk,[emp],gr,Z,o3,DU.nil,o4,Z⟩,by simpa [hk1] using hg⟩
    ·apply Bk 2;rfl;rfl;rfl;apply Bk 3;rfl;rfl;rfl;refine Cg 2 Z Z Z Z (by simp) Z<|Cg 1 Z Z Z Z (by simp) Z ?_;apply AK;apply Ab;rfl;apply A8;apply DE;refine A6 [.agg [.bool false,.slice a1 (ks.take m).length c1,nV,.slice a2 (is.take (m+1)).length c2].toArray,.agg [.bool false,.slice a3 (ks.drop (m+1)).length c3,nV,.slice a4 (is.drop (m+1)).length c4].toArray,u5,vZ 0] (L':=(Lk++[emp]++[gl])++(Rk++[emp]++[gr])++[g]) ⟨AY 3 Z Z Z,AY 2 Z Z Z,Af Z,Af Z,trivial⟩ (hvs _ g) ⟨Z,_,_,_,_,_,g,by rw[hcan];rfl,Z,?_⟩;simp only[Ba,Bi,B4,hcan,if_true,hm,Afh,if_false,Ahp];exact⟨⟨_,_,_,Lk,[emp],gl,Z,o1,DU.nil,o2,Z⟩,⟨_,_,_,Rk,[emp],gr,Z,o3,DU.nil,o4,Z⟩,by simpa [hk1] using hg⟩
end Go.Gk.Node
end
section
namespace Go.Gk.Node
open Go Go.Gk
section
attribute [local irreducible] gwp gws
end
end Go.Gk.Node
end
section
namespace Go.Gk.Node
open Go Go.Gk
attribute [local irreducible] gwp gws
variable{f f1:FuncId}{lf:Bool}
def Gx(P:Program)(f:FuncId):Prop:=∀{d}{b:Nat}{T v l},Ay d v l→∀n:Nat,n≤255→
 Ao P f [pZ b,vZ n] d [bx b T [v]] (Ret fun r d' L'=>d'=d∧((l.length<n∧r=.tuple #[nV,.bool false]∧L'=[bx b T [v]])∨
  (n≤l.length∧∃u v' g,r=.tuple #[u,.bool true]∧L'=[g,bx b T [v']]∧Ai 1 Ax d u (l.take n) g∧Ay d v' (l.drop n))))
def U3(a0:Nat):A9:=⟨27,[(.tmp 4),(.tmp 5)],(sR (o1 4 (.mv nS)<|o1 5 (.mv (.const (.bool false))) .done) (.seq (sR (om 7 1<|om 8 0<|o1 9 (.nilc 8)<|ol 10 9<|oL 11 10<|ob 12 .gtr 7 11 .done) (.cond 12 (sR (o1 4 (.mv nS)<|o1 5 (.mv (.const (.bool false))) .done) .ret) .skip)) (sR (om 13 0<|o1 14 (.nilc 13)<|ol 15 14<|om 16 1<|o1 17 (.sl 1 15 none (some 16) none)<|oc 18 a0 [17]<|om 6 18 .done) (sR (om 19 0<|om 20 0<|o1 21 (.nilc 20)<|ol 22 21<|om 23 1<|o1 24 (.sl 1 22 (some 23) none none)<|o1 25 (.nilc 19)<|o0 (.st 1 25 24) .done) (sR (om 26 6<|om 4 26<|o1 5 (.mv (.const (.bool true))) .done) .ret)))))⟩
def Rj{P}(hd:dec P f=some (U3 f1))(h1:ER Ax 1 P f1):Gx P f:=by
 intro d b T v l hv n hn;have hll:=Ay.BW hv;refine Bj hd<|Br Z<|AV Z<|AZ<|Ab Z<|Ag Z<|Ap Z<|c_l Z Z Z<|BX Z (by assumption)<|Bu Z Z<|An ?_;first|refine JN rfl (fun hc=>?_) (fun hc=>?_)|refine Np rfl (fun hc=>?_) (fun hc=>?_)
 ·refine Br Z<|Cc Z<|CJ (L':=[bx b T [v]]) Z Z (Afa _) ⟨Z,.inl ⟨by omega,Z,Z⟩⟩
 ·refine AH<|A3 Z<|Ap Z<|c_l Z Z Z<|Ab Z<|P5 Z hv Z Z (show n≤l.length by omega) (fun v1 hv1=>?_);refine Bz Z (h1 hv1 (by simp;omega)) (fun u d1 L1 _ ⟨hdd,g,hL,hg⟩=>?_);subst hdd;subst hL;refine AK<|Bo<|Ag Z<|Ag Z<|Ap Z<|Ah Z (AG 1 Z Z)<|Ab Z<|Ex Z hv Z Z (show n≤l.length by omega) (fun v2 hv2=>?_);obtain⟨a2,c2,rfl⟩:=RSl.val hv2;(apply Ap;rfl);refine Cg 1 Z Z Z Z (by simp) Z<|Bo<|AK<|AK<|Cc Z<|CJ (L':=[g,bx b T [.slice a2 (l.drop n).length c2]]) Z Z (Afa _) ⟨Z,.inr ⟨by omega,_,_,_,Z,Z,hg,hv2⟩⟩
def GY:List UInt8→Option (List UInt8×List UInt8)
 |[]=>none
 |x::r=>if r.length<x.toNat then none else some (r.take x.toNat,r.drop x.toNat)
def QZ(P:Program)(f:FuncId):Prop:=∀{d}{b:Nat}{T v l},Ay d v l→
 Ao P f [pZ b] d [bx b T [v]] (Ret fun r d' L'=>d'=d∧((GY l=none∧r=.tuple #[nV,.bool false]∧∃v',L'=[bx b T [v']])∨
  (∃x rest u v' g,GY l=some (x,rest)∧r=.tuple #[u,.bool true]∧L'=[g,bx b T [v']]∧Ai 1 Ax d u x g∧Ay d v' rest)))
def UT(a0:Nat):A9:=⟨21,[(.tmp 2),(.tmp 3)],(sR (o1 2 (.mv nS)<|o1 3 (.mv (.const (.bool false))) .done) (sR (om 7 0<|oc 8 a0 [7,z1]<|om 6 8<|oe 9 6 0<|oe 10 6 1<|om 4 9<|om 5 10 .done) (.seq (sR (om 11 5<|o1 12 (.un .not 11) .done) (.cond 12 (sR (o1 2 (.mv nS)<|o1 3 (.mv (.const (.bool false))) .done) .ret) .skip)) (sR (om 13 0<|om 14 4<|o1 15 (.idx 1 14 z0)<|ol 16 15<|o1 17 (.cvi .i64 16)<|oc 18 a0 [13,17]<|oe 19 18 0<|oe 20 18 1<|om 2 19<|om 3 20 .done) .ret))))⟩
def AaP{P}(hd:dec P f=some (UT f1))(h1:Gx P f1):QZ P f:=by
 intro d b T v l hv;refine Bj hd<|Br Z<|AV Z<|A3 Z<|Gb 1 Z (h1 hv 1 (by omega)) (fun r d1 L1 _ ⟨hdd,hr⟩=>?_);subst hdd;rcases hr with ⟨hl,hr,hL⟩|⟨hl,u,v',g,hr,hL,hg,hv'⟩
 ·subst hr;subst hL;obtain rfl:l=[]:=Afl (by omega);refine AO Z<|AW Z Z Z Z<|Ae Z<|AV Z<|AZ<|Ad Z<|Bm Z<|B7 Z<|Br Z<|Cc Z<|CJ (L':=[bx b T [v]]) Z Z (Afa _) ⟨Z,.inl ⟨Z,Z,v,Z⟩⟩
 ·subst hr;subst hL;cases l with
  |nil=>simp at hl
  |cons x l=>
   have hx:x.toNat<256:=UInt8.toNat_lt x
   obtain⟨gb,gT,gl,gc,e1,rfl,hop⟩:=hg.CE (m:=0) (by simp)
   subst e1
   have hg0:gl[0]?=some (Al x):=by simpa using hop.2.1
   (refine AO Z<|AW Z Z Z Z<|Ae Z<|AV Z<|AZ<|Ad Z<|Bm Z<|Be Z<|A3 Z<|Ae Z ?_)
   refine ML 0 Z Z Z (by simp) ?_
   (apply Ah;rfl;exact AG 0 Z hg0)
   (apply EP;rfl;omega;omega)
   refine B1 _ [bx b T [v']] (Vs.drop (Age _ _)) ?_
   refine Gb 1 Z (h1 hv' x.toNat (by omega)) (fun r d2 L2 _ ⟨hdd,hr⟩=>?_)
   subst hdd
   have hv2:(List.drop 1 (x::l))=l:=Z
   rw[hv2] at hr
   rcases hr with ⟨hl2,hr,hL⟩|⟨hl2,u2,v2,g2,hr,hL,hg2,hv2'⟩
   ·subst hr;subst hL
    (refine AW Z Z Z Z<|Ae Z<|Cc Z ?_)
    exact CJ (L':=[bx b T [v']]) Z Z (Afa _) ⟨Z,.inl ⟨by simp[GY,hl2],Z,v',Z⟩⟩
   ·subst hr;subst hL
    (refine AW Z Z Z Z<|AK<|Cc Z ?_)
    exact CJ (L':=[g2,bx b T [v2]]) Z Z (Afa _) ⟨Z,.inr ⟨l.take x.toNat,l.drop x.toNat,u2,v2,g2,by simp[GY];omega,Z,Z,hg2,hv2'⟩⟩
def Ly:List UInt8→Option (Nat×List UInt8)
 |a::b::r=>some (a.toNat*256+b.toNat,r)
 |_=>none
def W6(P:Program)(f:FuncId):Prop:=∀{d}{b:Nat}{T v l},Ay d v l→
 Ao P f [pZ b] d [bx b T [v]] (Ret fun r d' L'=>d'=d∧((Ly l=none∧r=.tuple #[vZ 0,.bool false]∧∃v',L'=[bx b T [v']])∨
  (∃x rest v',Ly l=some (x,rest)∧r=.tuple #[vZ (x:Nat),.bool true]∧L'=[bx b T [v']]∧Ay d v' rest)))
def Xl(a0:Nat):A9:=⟨23,[(.tmp 2),(.tmp 3)],(sR (o1 2 (.mv z0)<|o1 3 (.mv (.const (.bool false))) .done) (sR (om 7 0<|oc 8 a0 [7,z2]<|om 6 8<|oe 9 6 0<|oe 10 6 1<|om 4 9<|om 5 10 .done) (.seq (sR (om 11 5<|o1 12 (.un .not 11) .done) (.cond 12 (sR (o1 2 (.mv z0)<|o1 3 (.mv (.const (.bool false))) .done) .ret) .skip)) (.seq (.reg true (pm 13 4<|p1 14 (.idx 1 13 z0)<|pl 15 14<|p1 16 (.cvi .i64 15)<|p1 17 (.bin .shl 16 (.const (.int .u64 8)))<|pm 18 4<|p1 19 (.idx 1 18 z1)<|pl 20 19<|p1 21 (.cvi .i64 20)<|p1 22 (.bin .or 17 21) (.bar (pm 2 22 (p1 3 (.mv (.const (.bool true))) .done))))) .ret))))⟩
def AdI{P}(hd:dec P f=some (Xl f1))(h1:Gx P f1):W6 P f:=by
 intro d b T v l hv;refine Bj hd<|AE Z<|AV Z<|A3 Z<|Gb 1 Z (h1 hv 2 (by omega)) (fun r d1 L1 _ ⟨hdd,hr⟩=>?_);subst hdd;rcases hr with ⟨hl,hr,hL⟩|⟨hl,u,v',g,hr,hL,hg,hv'⟩
 ·subst hr;subst hL;have hk:Ly l=none:=by
   match l,hl with
   |[],_=>rfl
   |[a],_=>rfl
  refine AO Z<|AW Z Z Z Z<|Ae Z<|AV Z<|AZ<|Ad Z<|Bm Z<|B7 Z<|AE Z<|Cc Z<|CJ (L':=[bx b T [v]]) Z Z (Afa _) ⟨Z,.inl ⟨hk,Z,v,Z⟩⟩
 ·subst hr;subst hL;match l,hl,hg,hv' with
  |x::y::l,hl,hg,hv'=>
   have hx:x.toNat<256:=UInt8.toNat_lt x
   have hy:y.toNat<256:=UInt8.toNat_lt y
   have hop1:=hg.CE (m:=1) (by simp)
   obtain⟨gb,gT,gl,gc,e1,rfl,hop⟩:=hg.CE (m:=0) (by simp)
   subst e1
   have hg0:gl[0]?=some (Al x):=by simpa using hop.2.1
   have hg1:gl[1]?=some (Al y):=by
    obtain⟨gb1,gT1,gl1,gc1,e2,e3,hop1⟩:=hop1;have h4:=congrFun (congrFun e3 gb1) (.cells gl1.toArray gT1 (0,0));have h5:bx gb1 gT1 gl1 gb1 (.cells gl1.toArray gT1 (0,0)):=Db _ _;rw[←h4] at h5;have h6:=(HP h5).2;simp only[Obj.cells.injEq] at h6;have h7:gl1=gl:=by have:=congrArg Array.toList h6.1;simpa using this
    rw[←h7];simpa using hop1.2.1
   (refine AO Z<|AW Z Z Z Z<|Ae Z<|AV Z<|AZ<|Ad Z<|Bm Z<|Be Z<|Aw<|BI<|Ae Z ?_)
   refine ML 0 Z Z Z (by simp) ?_
   (apply Ah;rfl;exact AG 0 Z hg0)
   (apply EP;rfl;omega;omega)
   refine TS (a:=x.toNat) Z Z (by omega) ?_
   (apply Ae;rfl)
   refine ML 1 Z Z Z (by simp) ?_
   (apply Ah;rfl;exact AG 0 Z hg1)
   (apply EP;rfl;omega;omega)
   refine Su (a:=x.toNat) (b:=y.toNat) Z Z (by omega) hy ?_
   (refine Cw<|Ab Z<|Cc Z ?_)
   exact CJ (L':=[bx b T [v']]) Z Z (Age _ _) ⟨Z,.inr ⟨_,l,v',Z,Z,Z,hv'⟩⟩
section
def De(lf:Bool)(l0:List UInt8)(is0:List Int):Nat→Option (List (List UInt8)×List (List UInt8)×List Int×List UInt8)
 |0=>some ([],[],is0,l0)
 |k+1=>match De lf l0 is0 k with
  |none=>none
  |some (ks,vs,is,l)=>match GY l with
   |none=>none
   |some (x,l1)=>match lf with
    |true=>match GY l1 with
     |none=>none
     |some (y,l2)=>some (ks++[x],vs++[y],is,l2)
    |false=>match Ly l1 with
     |none=>none
     |some (m,l2)=>some (ks++[x],vs,is++[(m:Int)],l2)
def UZ{l0}{is0:List Int}{k:Nat}(h:De lf l0 is0 k=none):∀{m:Nat},k≤m→De lf l0 is0 m=none:=by
 intro m hm;induction hm with
 |refl=>exact h
 |step _ ih=>simp[De,ih]
def GV(lf:Bool)(l:List UInt8):Option (List Int×List UInt8):=match lf with
 |true=>some ([],l)
 |false=>match Ly l with
  |none=>none
  |some (m,r)=>some ([(m:Int)],r)
def F5(b:List UInt8):Option AB:=
 match GV (b.getD 0 0==1) (b.drop 2) with
 |none=>none
 |some (is0,l0)=>match De (b.getD 0 0==1) l0 is0 (b.getD 1 0).toNat with
  |none=>none
  |some (ks,vs,is,_)=>some ⟨b.getD 0 0==1,ks,vs,is⟩
def Qf{l0}{is0:List Int}:∀{k:Nat}{ks vs is l},De lf l0 is0 k=some (ks,vs,is,l)→ks.length=k∧vs.length≤k∧is.length≤is0.length+k:=by
 intro k;induction k with
 |zero=>intro ks vs is l h;simp only[De,Option.some.injEq,Prod.mk.injEq] at h;obtain⟨rfl,rfl,rfl,rfl⟩:=h;simp
 |succ k ih=>
  intro ks vs is l h
  simp only[De] at h
  split at h
  ·cases h
  ·rename_i ks' vs' is' l' e
   have:=ih e
   split at h
   ·cases h
   ·split at h
    ·split at h
     ·cases h
     ·simp only[Option.some.injEq,Prod.mk.injEq] at h;obtain⟨rfl,rfl,rfl,rfl⟩:=h;simp;omega
    ·split at h
     ·cases h
     ·simp only[Option.some.injEq,Prod.mk.injEq] at h;obtain⟨rfl,rfl,rfl,rfl⟩:=h;simp;omega
def OB(d:Aa)(v:Value)(xs:List (List UInt8))(h0:Aa)(hs:List Aa):Prop:=∃us,Cf 1 v xs.length us h0∧hs.length=xs.length∧∀i (hi:i<xs.length),∃u g,us[i]?=some u∧hs[i]?=some g∧Ai 1 Ax d u xs[i] g
def OB.nil{d}:OB d nV [] emp []:=⟨[],Cf.nil 1,Z,fun i hi=>absurd hi (Aic i)⟩
def OB.ZN{d v xs h0 hs}(o:OB d v xs h0 hs):DU d v xs (h0::hs):=let ⟨us,a,b,c⟩:=o;⟨us,h0,hs,a,b,c,Z⟩
def OB.val{d v xs h0 hs}(o:OB d v xs h0 hs):∃a c,v=.slice a xs.length c:=o.ZN.val
section
variable {P:Program}{pan:List PanicEntry→AP}{Qn:Env→AP}{Ls L:List Aa}{ρ:Env}{d:Aa}{s:GS}{t:Nat}
def Wb{by_:Nat}{z x y}(i:Nat){v xs h0 hs}{b:Nat}{T u g l}(ex:ev ρ x=v)(hi:L[i]?=some h0)(o:OB d v xs h0 hs)
  (ey:ev ρ y=.slice (some ⟨b,0,none⟩) 1 1) (og:Ai 1 Ax d u l g) (hm:xs.length+1≤140737488355328) (hb:(xs.length+1)*by_≤140737488355328)
  (k:∀v' h',OB d v' (xs++[l]) h' (hs++[g])→gws P pan Qn s Ls (upd ρ t v') d (L.set i h')):gws P pan Qn (.op false ⟨some t,none,.app 1 by_ z x y⟩ s) Ls ρ d (bx b T [u]::L):=by
 obtain⟨us,o1,o2,o3⟩:=o
 have hul:=o1.1
 obtain⟨a,c,rfl⟩:=og.val
 refine VK i ex hi o1 ey Z Z (by omega) hm hb (fun v' h' o'=>k v' h' ⟨us++[.slice a l.length c],by simpa using o',by simp[o2],fun j hj=>?_⟩)
 by_cases e:j<xs.length
 ·obtain⟨u',g',e1,e2,e3⟩:=o3 j e
  exact⟨u',g',by rw[Agx (by omega)];exact e1,by rw[Agx (by omega)];exact e2,by rw[List.getElem_append_left e];exact e3⟩
 ·obtain rfl:j=xs.length:=by simp at hj;omega
  exact⟨.slice a l.length c,g,by rw[Ahb (by omega),hul,Aho,Aiz];rfl,by rw[Ahb (by omega),o2,Aiz];rfl,by rw[List.getElem_append_right (Afe _)];simpa using og⟩
end
def VU{l r}{x:Nat}(h:Ly l=some (x,r)):x≤65535:=by
 match l,h with
 |a::b::l,h=>
  simp only[Ly,Option.some.injEq,Prod.mk.injEq] at h
  have:=a.toNat_lt
  have:=b.toNat_lt
  omega
def QV(P:Program)(f:FuncId):Prop:=∀{d v l},Ay d v l→2≤l.length→
 Ao P f [v] d [] (Ret fun r d' L'=>d'=d∧((∃cs:List Value,F5 l=none∧r=.tuple #[.agg cs.toArray,.bool false]∧cs.length=4∧(cs.all (·.oneCell'))=true∧L'=[])∨
  (∃(cs:List Value) (n:AB),F5 l=some n∧r=.tuple #[.agg cs.toArray,.bool true]∧Ej d cs n L')))
def UX(a0 a1:Nat):A9:=⟨85,[(.cell 2 (some 4)),(.tmp 3)],(sR (o1 2 (.alo (.agg #[(.bool false),nV,nV,nV]))<|o1 3 (.mv (.const (.bool false))) .done) (sR (om 14 0<|o1 15 (.idx 1 14 z0)<|ol 16 15<|ob 17 .eql 16 (.const (.int .u8 1))<|o1 18 (.bld [(0,1),(1,1),(2,1),(3,1)] [(.bool false),nV,nV,nV] [(0,17)])<|o1 4 (.alo (.agg #[(.bool false),nV,nV,nV]))<|o0 (.st 4 4 18) .done) (sR (om 19 0<|o1 20 (.sl 1 19 (some z2) none none)<|o1 5 (.alo nV)<|o0 (.st 1 5 20) .done) (.seq (sR (oj 21 0 4<|ol 22 21<|o1 23 (.un .not 22) .done) (.cond 23 (sR (oc 25 a0 [5]<|om 24 25<|oe 26 24 0<|oe 27 24 1<|om 6 26<|om 7 27 .done) (.seq (sR (om 28 7<|o1 29 (.un .not 28) .done) (.cond 29 (sR (o1 30 (.ld (some 4) 4)<|o0 (.st 4 2 30)<|o1 3 (.mv (.const (.bool false))) .done) .ret) .skip)) (rG (oj 31 3 4<|ol 32 31<|om 33 6<|o1 34 (.bsl 1 1 [(vZ 0)] [(0,33)])<|o1 35 (.app 1 8 [(vZ 0)] 32 34)<|oj 36 3 4<|o0 (.st 1 36 35) .done)))) .skip)) (.seq (sR (om 37 0<|o1 38 (.idx 1 37 z1)<|ol 39 38<|o1 40 (.mv (.const (.int .u8 0))) .done) (.block 0 (.loop (sR (ob 41 .lss 40 39 .done) (.seq (.cond 41 .skip (.exit 0)) (.seq (.block 1 (sR (oc 43 a1 [5]<|om 42 43<|oe 44 42 0<|oe 45 42 1<|om 8 44<|om 9 45 .done) (.seq (sR (om 46 9<|o1 47 (.un .not 46) .done) (.cond 47 (sR (o1 48 (.ld (some 4) 4)<|o0 (.st 4 2 48)<|o1 3 (.mv (.const (.bool false))) .done) .ret) .skip)) (sR (oj 49 1 4<|ol 50 49<|om 51 8<|o1 52 (.bsl 1 1 [nV] [(0,51)])<|o1 53 (.app 1 24 [nV] 50 52)<|oj 54 1 4<|o0 (.st 1 54 53) .done) (sR (oj 55 0 4<|ol 56 55 .done) (.cond 56 (sR (oc 58 a1 [5]<|om 57 58<|oe 59 57 0<|oe 60 57 1<|om 10 59<|om 11 60 .done) (.seq (sR (om 61 11<|o1 62 (.un .not 61) .done) (.cond 62 (sR (o1 63 (.ld (some 4) 4)<|o0 (.st 4 2 63)<|o1 3 (.mv (.const (.bool false))) .done) .ret) .skip)) (rG (oj 64 2 4<|ol 65 64<|om 66 10<|o1 67 (.bsl 1 1 [nV] [(0,66)])<|o1 68 (.app 1 24 [nV] 65 67)<|oj 69 2 4<|o0 (.st 1 69 68) .done)))) (sR (oc 71 a0 [5]<|om 70 71<|oe 72 70 0<|oe 73 70 1<|om 12 72<|om 13 73 .done) (.seq (sR (om 74 13<|o1 75 (.un .not 74) .done) (.cond 75 (sR (o1 76 (.ld (some 4) 4)<|o0 (.st 4 2 76)<|o1 3 (.mv (.const (.bool false))) .done) .ret) .skip)) (rG (oj 77 3 4<|ol 78 77<|om 79 12<|o1 80 (.bsl 1 1 [(vZ 0)] [(0,79)])<|o1 81 (.app 1 8 [(vZ 0)] 78 80)<|oj 82 3 4<|o0 (.st 1 82 81) .done)))))))))) (rG (ob 83 .add 40 (.const (.int .u8 1))<|om 40 83 .done)))))))) (sR (o1 84 (.ld (some 4) 4)<|o0 (.st 4 2 84)<|o1 3 (.mv (.const (.bool true))) .done) .ret))))))⟩
set_option maxHeartbeats 1000000 in
def Abp{P f2}(hd:dec P f=some (UX f1 f2))(h1:W6 P f1)(h2:QZ P f2):QV P f:=by
 intro d v l hv hl;refine Dp hd (Aff Z) ?_;have hll:=Ay.BW hv;obtain⟨lf,hlf⟩:∃lf:Bool,lf=(l.getD 0 0==1):=⟨_,Z⟩
 have hlf':decide (((l[0]'(by omega)).toNat:Int)=1)=lf:=by
  rw[hlf];have:l.getD 0 0=l[0]'(by omega):=by simp[show 0<l.length by omega]
  rw[this,Bool.eq_iff_iff];simp only[decide_eq_true_eq,beq_iff_eq];constructor
  ·intro h;exact UInt8.toNat_inj.1 (by simpa using (by omega:(l[0]'(by omega)).toNat=1))
  ·intro h;rw[h];rfl
 show gwp P _ _ _ _ _;(refine Ak<|DD (fun _ _=>AV Z<|Ak<|AK<|Bq (m:=0) (sz:=1) (R:=Ax) (by rfl) (by assumption) (by rfl) Z (by omega) ?_);rintro _ _ _ _ _ rfl;refine Ah Z (BO (by assumption) Z)<|AI Z Z<|BY Z<|DD (fun _ _=>?_));rw[hlf'];skip;rename_i b2 T2 _ _ _ _ b4 T4;refine Cg 0 Z Z Z Z (by simp[Value.cells]) Z<|Bo<|AK<|Ex Z hv Z Z hl (fun lv hlv=>?_);obtain⟨la,lc,rfl⟩:=RSl.val hlv;(apply DD;intro _ _);rename_i b5 T5;refine Cg 0 Z Z Z Z (by simp[Value.cells]) Z<|Ww d [bx b5 T5 [.slice la (l.drop 2).length lc],bx b4 T4 [.bool lf,nV,nV,nV],bx b2 T2 [.bool false,nV,nV,nV],emp,emp,emp] ((Vs.emp.trans (Vs.emp.trans Vs.emp)).trans (Vs.pick [3,4,5,0,1,2] Z))<|G1 (fun ρ d' L'=>d'=d∧BN ρ [(0,v),(2,pZ b2),(4,pZ b4),(5,pZ b5)]∧∃is0 l0 ia ic lv hi,GV lf (l.drop 2)=some (is0,l0)∧is0.length≤1∧Ai 1 Bh d (.slice ia is0.length ic) is0 hi∧Ay d lv l0∧L'=[bx b5 T5 [lv],bx b4 T4 [.bool lf,nV,nV,.slice ia is0.length ic],bx b2 T2 [.bool false,nV,nV,nV],emp,emp,hi]) ?_ ?_
 ·cases lf with
  |true=>
   (refine Ak<|Am Z<|Ah Z (AG 1 Z Z)<|Bm Z<|Be Z ?_)
   exact⟨Z,⟨Z,Z,Z,Z,trivial⟩,[],l.drop 2,none,0,_,emp,Z,by simp,Ai.nil,hlv,Z⟩
  |false=>
   (refine Ak<|Am Z<|Ah Z (AG 1 Z Z)<|Bm Z<|B7 Z<|Ak ?_)
   refine Gb 1 Z (h1 hlv) (fun r d1 L1 _ ⟨hdd,hr⟩=>?_)
   subst hdd
   rcases hr with ⟨hk,hr,v',hL⟩|⟨x,rest,v',hk,hr,hL,hv'⟩
   ·subst hr;subst hL
    (refine AO Z<|AW Z Z Z Z<|Ab Z<|AV Z<|AZ<|Ad Z<|Bm Z<|B7 Z<|Ak<|Bk 1 Z Z Z ?_)
    refine Cg 2 Z Z Z Z (by simp) Z ?_
    (refine Cc Z ?_)
    exact Ed [.agg [.bool false,nV,nV,nV].toArray,.bool false] ⟨AY 2 Z Z Z,Af Z,trivial⟩ (Agp _) ⟨Z,.inl ⟨_,by simp only[F5,←hlf];simp[GV,hk],Z,Z,Z,Z⟩⟩
   ·subst hr;subst hL
    (refine AO Z<|AW Z Z Z Z<|Ab Z<|AV Z<|AZ<|Ad Z<|Bm Z<|Be Z<|Av<|Am Z<|Ah Z (AG 1 Z Z)<|Ab Z ?_)
    refine Dq (cs:=[vZ (x:Nat)]) (by omega) Z (fun b8 T8=>?_)
    have hx:=VU hk
    refine D4 (R:=Bh) (xs:=[]) 5 Z Z Ai.nil Z (Ai.EL Z ⟨Z,by omega,by omega⟩) D1 (by omega) (by simp) (by simp) (fun v8 h8 o8=>?_)
    obtain⟨a8,c8,rfl⟩:=o8.val
    (apply Am;rfl)
    refine Cg 1 Z Z Z Z (by simp) Z ?_
    (apply An)
    exact⟨Z,⟨Z,Z,Z,Z,trivial⟩,[(x:Int)],rest,a8,c8,v',h8,by simp[GV,hk],by simp,o8,hv',Z⟩
 ·rintro ρ d' L' ⟨hdd,hsl,is0,l0,ia,ic,lv,hi,hst,his,oi,hlv,hL⟩;subst hdd;subst hL;refine CU _ hsl ?_;(refine AZ<|AK<|Bq (sz:=1) (R:=Ax) (by rfl) (by assumption) (by rfl) (Int.natCast_add _ 1).symm (by omega) ?_;rintro _ _ _ _ _ rfl;refine Ah Z (BO (by assumption) Z)<|AU Z<|Aq ?_);have hm:=UInt8.toNat_lt (l[1]'hl);have hg1:l.getD 1 0=l[1]'hl:=by simp[show 1<l.length by omega]
  have hpn:∀k,k≤(l[1]'hl).toNat→De lf l0 is0 k=none→F5 l=none:=by
   intro k hk h;simp only[F5,←hlf,hst,hg1,UZ h hk]
  refine Cs (α:=Nat) (fun k=>[(2,pZ b2),(4,pZ b4),(5,pZ b5),(39,Al (l[1]'hl)),(40,.int .u8 k)])
   (fun k d1 L'=>d'=d1∧k≤(l[1]'hl).toNat∧∃ks vs is l' ka kc va vc ia ic lv hk hks hv hvs hi,De lf l0 is0 k=some (ks,vs,is,l')∧OB d' (.slice ka ks.length kc) ks hk hks∧OB d' (.slice va vs.length vc) vs hv hvs∧Ai 1 Bh d' (.slice ia is.length ic) is hi∧Ay d' lv l'∧
    L'=[bx b5 T5 [lv],bx b4 T4 [.bool lf,.slice ka ks.length kc,.slice va vs.length vc,.slice ia is.length ic],bx b2 T2 [.bool false,nV,nV,nV],hk,hv,hi]++(hks++hvs)) (fun k=>(l[1]'hl).toNat - k) 0
   ⟨Z,Z,Z,Z,Z,trivial⟩ ⟨Z,Agd _,[],[],is0,l0,none,0,none,0,ia,ic,lv,emp,[],emp,[],hi,Z,OB.nil,OB.nil,oi,hlv,Z⟩ ?_
  clear hlv oi;rintro k ρ d1 L' ⟨hdd,hk,ks,vs,is,l',ka,kc,va,vc,ia,ic,lv,hkb,hks,hvb,hvs,hi,hit,ok,ov,oi,hlv,hL⟩;subst hdd;subst hL;have hlen:=Qf hit;(refine Ak<|Au Z Z<|By ?_);first|refine JN rfl (fun hc=>?_) (fun hc=>?_)|refine Np rfl (fun hc=>?_) (fun hc=>?_)
  ·have hk1:k<(l[1]'hl).toNat:=by omega
   refine AH<|Aw<|Aq<|Ak<|Gb 1 Z (h2 hlv) (fun r d1 L1 _ ⟨hdd,hr⟩=>?_);subst hdd;rcases hr with ⟨hp,hr,v',hL⟩|⟨x,l1,u,v',g,hp,hr,hL,og,hlv1⟩
   ·subst hr;subst hL;refine AO Z<|AW Z Z Z Z<|Ae Z<|AV Z<|AZ<|Ad Z<|Bm Z<|B7 Z<|Ak<|Bk 1 Z Z Z<|Cg 2 Z Z Z Z (by simp) Z<|Cc Z<|Ed [.agg [.bool lf,.slice ka ks.length kc,.slice va vs.length vc,.slice ia is.length ic].toArray,.bool false] ⟨AY 2 Z Z Z,Af Z,trivial⟩ (Agp _) ⟨Z,.inl ⟨_,hpn (k+1) (by omega) (by simp[De,hit,hp]),Z,Z,Z,Z⟩⟩
   ·subst hr;subst hL;obtain⟨ua,uc,rfl⟩:=og.val;refine AO Z<|AW Z Z Z Z<|Ae Z<|AV Z<|AZ<|Ad Z<|Bm Z<|Be Z<|Ak<|Am Z<|Ah Z (AG 2 Z Z)<|Ae Z<|Dq (cs:=[.slice ua x.length uc]) (by omega) Z (fun b8 T8=>?_);refine Wb 4 Z Z ok Z og (by omega) (by omega) (fun v8 h8 ok'=>?_);obtain⟨a8,c8,rfl⟩:=ok'.val;(apply Am;rfl);refine Cg 2 Z Z Z Z (by simp) Z<|Ww _ ([bx b5 T5 [v'],bx b4 T4 [.bool lf,.slice a8 (ks++[x]).length c8,.slice va vs.length vc,.slice ia is.length ic],bx b2 T2 [.bool false,nV,nV,nV],h8,hvb,hi]++((hks++[g])++hvs)) (Vs.TR [[g],[bx b5 T5 [v']],[bx b4 T4 [.bool lf,.slice a8 (ks++[x]).length c8,.slice va vs.length vc,.slice ia is.length ic]],[bx b2 T2 [.bool false,nV,nV,nV]],[h8],[hvb],[hi],hks,hvs] [1,2,3,4,5,6,7,0,8] [] Z Z (by simp)) ?_;cases lf with
    |true=>
     (refine Ak<|Am Z<|Ah Z (AG 1 Z Z)<|B7 Z<|Ak ?_)
     refine Gb 1 Z (h2 hlv1) (fun r d1 L1 _ ⟨hdd,hr⟩=>?_)
     subst hdd
     rcases hr with ⟨hp2,hr,v2,hL⟩|⟨y,l2,u2,v2,g2,hp2,hr,hL,og2,hlv2⟩
     ·subst hr;subst hL
      (refine AO Z<|AW Z Z Z Z<|Ae Z<|AV Z<|AZ<|Ad Z<|Bm Z<|B7 Z<|Ak<|Bk 1 Z Z Z ?_)
      refine Cg 2 Z Z Z Z (by simp) Z ?_
      (refine Cc Z ?_)
      exact Ed [.agg [.bool true,.slice a8 (ks++[x]).length c8,.slice va vs.length vc,.slice ia is.length ic].toArray,.bool false] ⟨AY 2 Z Z Z,Af Z,trivial⟩ (Agp _) ⟨Z,.inl ⟨_,hpn (k+1) (by omega) (by simp[De,hit,hp,hp2]),Z,Z,Z,Z⟩⟩
     ·subst hr;subst hL
      obtain⟨ua2,uc2,rfl⟩:=og2.val
      (refine AO Z<|AW Z Z Z Z<|Ae Z<|AV Z<|AZ<|Ad Z<|Bm Z<|Be Z<|Av<|Am Z<|Ah Z (AG 2 Z Z)<|Ae Z ?_)
      refine Dq (cs:=[.slice ua2 y.length uc2]) (by omega) Z (fun b9 T9=>?_)
      refine Wb 5 Z Z ov Z og2 (by omega) (by omega) (fun v9 h9 ov'=>?_)
      obtain⟨a9,c9,rfl⟩:=ov'.val
      (apply Am;rfl)
      refine Cg 2 Z Z Z Z (by simp) Z ?_
      refine Ww _ ([bx b5 T5 [v2],bx b4 T4 [.bool true,.slice a8 (ks++[x]).length c8,.slice a9 (vs++[y]).length c9,.slice ia is.length ic],bx b2 T2 [.bool false,nV,nV,nV],h8,h9,hi]++((hks++[g])++(hvs++[g2]))) (Vs.TR [[g2],[bx b5 T5 [v2]],[bx b4 T4 [.bool true,.slice a8 (ks++[x]).length c8,.slice a9 (vs++[y]).length c9,.slice ia is.length ic]],[bx b2 T2 [.bool false,nV,nV,nV]],[h8],[h9],[hi],hks++[g],hvs] [1,2,3,4,5,6,7,8,0] [] Z Z (by simp)) ?_
      (apply Av)
      refine Yu Z Z (by omega) (by omega) ?_
      (refine AU Z ?_)
      exact⟨k+1,by omega,⟨Z,Z,Z,Z,int_eq (by omega),trivial⟩,Z,hk1,ks++[x],vs++[y],is,l2,a8,c8,a9,c9,ia,ic,v2,h8,hks++[g],h9,hvs++[g2],hi,by simp[De,hit,hp,hp2],ok',ov',oi,hlv2,Z⟩
    |false=>
     (refine Ak<|Am Z<|Ah Z (AG 1 Z Z)<|Jq Z<|Ak ?_)
     refine Gb 1 Z (h1 hlv1) (fun r d1 L1 _ ⟨hdd,hr⟩=>?_)
     subst hdd
     rcases hr with ⟨hp2,hr,v2,hL⟩|⟨y,l2,v2,hp2,hr,hL,hlv2⟩
     ·subst hr;subst hL
      (refine AO Z<|AW Z Z Z Z<|Ab Z<|AV Z<|AZ<|Ad Z<|Bm Z<|B7 Z<|Ak<|Bk 1 Z Z Z ?_)
      refine Cg 2 Z Z Z Z (by simp) Z ?_
      (refine Cc Z ?_)
      exact Ed [.agg [.bool false,.slice a8 (ks++[x]).length c8,.slice va vs.length vc,.slice ia is.length ic].toArray,.bool false] ⟨AY 2 Z Z Z,Af Z,trivial⟩ (Agp _) ⟨Z,.inl ⟨_,hpn (k+1) (by omega) (by simp[De,hit,hp,hp2]),Z,Z,Z,Z⟩⟩
     ·subst hr;subst hL
      have hy:=VU hp2
      (refine AO Z<|AW Z Z Z Z<|Ab Z<|AV Z<|AZ<|Ad Z<|Bm Z<|Be Z<|Av<|Am Z<|Ah Z (AG 1 Z Z)<|Ab Z ?_)
      refine Dq (cs:=[vZ (y:Nat)]) (by omega) Z (fun b9 T9=>?_)
      refine D4 (R:=Bh) 5 Z Z oi Z (Ai.EL Z ⟨Z,by omega,by omega⟩) D1 (by omega) (by simp;omega) (by simp;omega) (fun v9 h9 oi'=>?_)
      obtain⟨a9,c9,rfl⟩:=oi'.val
      (apply Am;rfl)
      refine Cg 1 Z Z Z Z (by simp) Z ?_
      (refine An<|Av ?_)
      refine Yu Z Z (by omega) (by omega) ?_
      (refine AU Z ?_)
      exact⟨k+1,by omega,⟨Z,Z,Z,Z,int_eq (by omega),trivial⟩,Z,hk1,ks++[x],vs,is++[(y:Int)],l2,a8,c8,va,vc,a9,c9,v2,h8,hks++[g],hvb,hvs,h9,by simp[De,hit,hp,hp2],ok',ov,oi',hlv2,Z⟩
  ·obtain rfl:k=(l[1]'hl).toNat:=by omega
   refine Bl<|Ak<|Bk 1 Z Z Z<|Cg 2 Z Z Z Z (by simp) Z<|Cc Z<|A6 [.agg [.bool lf,.slice ka ks.length kc,.slice va vs.length vc,.slice ia is.length ic].toArray,.bool true] (L':=(hkb::hks)++(hvb::hvs)++[hi]) ⟨AY 2 Z Z Z,Af Z,trivial⟩ (Vs.TR [[bx b5 T5 [lv]],[bx b4 T4 [.bool lf,.slice ka ks.length kc,.slice va vs.length vc,.slice ia is.length ic]],[bx b2 T2 [.bool lf,.slice ka ks.length kc,.slice va vs.length vc,.slice ia is.length ic]],[hkb],[hvb],[hi],hks,hvs] [3,6,4,7,5] [0,1,2] Z Z (by simp)) ⟨Z,.inr ⟨_,⟨lf,ks,vs,is⟩,?_,Z,_,_,_,_,_,_,Z,ok.ZN,ov.ZN,oi,Z⟩⟩;simp only[F5,←hlf,hst,hg1,hit]
end
def IA:AB:=⟨false,[],[],[]⟩
def BU(b:List UInt8):Option AB:=if b.length=256 then
  match F5 b with
  |some n=>if Bt n=true∧Cq n=b then some n else none
  |none=>none
 else none
def RG{l x r}(h:GY l=some (x,r)):x.length≤255:=by
 match l,h with
 |a::l,h=>
  simp only[GY] at h
  split at h
  ·cases h
  ·simp only[Option.some.injEq,Prod.mk.injEq] at h
   obtain⟨rfl,_⟩:=h
   have:=a.toNat_lt
   simp;omega
def Us{l0}{is0:List Int}:∀{k:Nat}{ks vs is l},De lf l0 is0 k=some (ks,vs,is,l)→(∀x∈ks,x.length≤255)∧(∀x∈vs,x.length≤255):=by
 intro k;induction k with
 |zero=>intro ks vs is l h;simp only[De,Option.some.injEq,Prod.mk.injEq] at h;obtain⟨rfl,rfl,rfl,rfl⟩:=h;simp
 |succ k ih=>
  intro ks vs is l h
  simp only[De] at h
  split at h
  ·cases h
  ·rename_i ks' vs' is' l' e
   have:=ih e
   split at h
   ·cases h
   ·rename_i x l1 hp
    have hx:=RG hp
    split at h
    ·split at h
     ·cases h
     ·rename_i y l2 hp2
      have hy:=RG hp2
      simp only[Option.some.injEq,Prod.mk.injEq] at h;obtain⟨rfl,rfl,rfl,rfl⟩:=h
      refine⟨fun z hz=>?_,fun z hz=>?_⟩
      ·rcases Afj.1 hz with hz|hz
       ·exact this.1 z hz
       ·rw[Afz.1 hz];exact hx
      ·rcases Afj.1 hz with hz|hz
       ·exact this.2 z hz
       ·rw[Afz.1 hz];exact hy
    ·split at h
     ·cases h
     ·simp only[Option.some.injEq,Prod.mk.injEq] at h;obtain⟨rfl,rfl,rfl,rfl⟩:=h
      refine⟨fun z hz=>?_,this.2⟩
      rcases Afj.1 hz with hz|hz
      ·exact this.1 z hz
      ·rw[Afz.1 hz];exact hx
def Qt{l:List (List UInt8)}(h:∀x∈l,x.length≤255)(i:Nat):(l.getD i []).length≤255:=by
 by_cases hi:i<l.length
 ·simp only[Aix,Afc hi,Option.getD_some];exact h _ (Agb hi)
 ·simp[Aix,Ago (Nat.le_of_not_lt hi)]
def Xv{n:AB}(hk:∀x∈n.keys,x.length≤255)(hv:∀x∈n.vals,x.length≤255):∀k,BK n k≤1000*k:=by
 intro k;induction k with
 |zero=>simp[BK]
 |succ k ih=>
  have h1:=Qt hk k
  have h2:=Qt hv k
  simp only[BK,EJ,DW,FJ]
  split<;>omega
def Xc{l is r}(h:GV lf l=some (is,r)):is.length≤1:=by
 cases lf<;>simp only[GV] at h
 ·split at h
  ·cases h
  ·simp only[Option.some.injEq,Prod.mk.injEq] at h;obtain⟨rfl,_⟩:=h;simp
 ·simp only[Option.some.injEq,Prod.mk.injEq] at h;obtain⟨rfl,_⟩:=h;simp
def Vl{b}{n:AB}(h:F5 b=some n):Bf n≤1000000000000:=by
 simp only[F5] at h;split at h
 ·cases h
 ·rename_i is0 l0 h0;split at h
  ·cases h
  ·rename_i ks vs is l hi;simp only[Option.some.injEq] at h;subst h;have h1:=Us hi;have h2:=Qf hi;have h3:=Xv (n:=⟨b.getD 0 0==1,ks,vs,is⟩) h1.1 h1.2 ks.length;have h4:=(b.getD 1 0).toNat_lt;have h5:=Xc h0;simp only[Bf];split<;>omega
def Qo(P:Program)(f:FuncId):Prop:=∀{d v b},Ay d v b→
 Ao P f [v] d [] (Ret fun r d' L'=>d'=d∧∃cs,r=.tuple #[.agg cs.toArray,vZ (if (BU b).isSome then 0 else 200)]∧Ej d cs ((BU b).getD IA) L')
def VB(a0 a1 a2 a3:Nat):A9:=⟨31,[(.cell 2 (some 4)),(.tmp 3)],(sR (o1 2 (.alo (.agg #[(.bool false),nV,nV,nV]))<|o1 3 (.mv z0) .done) (.seq (sR (om 6 0<|oL 7 6<|ob 8 .neq 7 (kZ 256) .done) (.cond 8 (sR (o1 9 (.bld [(0,1),(1,1),(2,1),(3,1)] [(.bool false),nV,nV,nV] [])<|o0 (.st 4 2 9)<|o1 3 (.mv (kZ 200)) .done) .ret) .skip)) (sR (om 11 0<|oc 12 a0 [11]<|om 10 12<|oe 13 10 0<|oe 14 10 1<|o1 4 (.alo (.agg #[(.bool false),nV,nV,nV]))<|o0 (.st 4 4 13)<|om 5 14 .done) (.seq (sR (om 15 5<|o1 16 (.un .not 15)<|om 17 16<|oF 18 17 (.ld (some 4) 4)<|oF 19 17 (.call a1 [18])<|oF 20 17 (.un .not 19)<|o1 21 (.pick 17 (.const (.bool true)) 20)<|om 22 21<|oF 23 22 (.ld (some 4) 4)<|oF 24 22 (.call a2 [23])<|gF 25 22 0<|oF 26 22 (.call a3 [24,25])<|oF 27 22 (.un .not 26)<|o1 28 (.pick 22 (.const (.bool true)) 27) .done) (.cond 28 (sR (o1 29 (.bld [(0,1),(1,1),(2,1),(3,1)] [(.bool false),nV,nV,nV] [])<|o0 (.st 4 2 29)<|o1 3 (.mv (kZ 200)) .done) .ret) .skip)) (sR (o1 30 (.ld (some 4) 4)<|o0 (.st 4 2 30)<|o1 3 (.mv z0) .done) .ret)))))⟩
def AcP{P f2 f3 f4}(hd:dec P f=some (VB f1 f2 f3 f4))(h1:QV P f1)(h2:IV P f2)(h3:Qp P f3)(h4:Nr P f4):Qo P f:=by
 intro d v b hv;refine Bj hd<|Ak<|DD (fun _ _=>AR Z<|AK<|BX Z (by assumption)<|AJ Z Z<|An ?_);rename_i b2 T2;have hbad:∀{ρ d' L},d'=d→BU b=none→ρ 2=pZ b2→ρ 3=vZ 200→(∃i:Nat,L[i]?=some (bx b2 T2 [.bool false,nV,nV,nV]))→
   C9 [.cell 2 (some 4),.tmp 3] (Ret fun r d' L'=>d'=d∧∃cs,r=.tuple #[.agg cs.toArray,vZ (if (BU b).isSome then 0 else 200)]∧Ej d cs ((BU b).getD IA) L') ρ d' L:=by
  intro ρ d' L hdd hr e2 e3 ⟨i,hi⟩
  subst hdd
  refine A6 [.agg [.bool false,nV,nV,nV].toArray,vZ 200] (L':=[emp,emp,emp]) ⟨AY i e2 hi Z,Af e3,trivial⟩ ((Vs.drop (Agp _)).trans (Vs.emp.trans (Vs.emp.trans Vs.emp))) ⟨Z,[.bool false,nV,nV,nV],?_,?_⟩
  ·rw[hr];rfl
  ·rw[hr];exact Ej.zero
 first|refine JN rfl (fun hc=>?_) (fun hc=>?_)|refine Np rfl (fun hc=>?_) (fun hc=>?_)
 ·refine Ak<|BY Z<|Cg 0 Z Z Z Z (by simp[Value.cells]) Z<|AS Z<|hbad Z (by simp[BU,show b.length≠256 by omega]) Z Z ⟨0,Z⟩
 ·have hbl:b.length=256:=by omega
  refine AH<|Ak<|AK<|Bz Z (h1 hv (by omega)) (fun r d1 L1 _ ⟨hdd,hr⟩=>?_);subst hdd;rcases hr with ⟨cs,hp,hr,hcl,hc1,hL⟩|⟨cs,n,hp,hr,ho⟩
  ·subst hr;subst hL;have hcs:∃c1 c2 c3 c4,cs=[c1,c2,c3,c4]:=by
    match cs,hcl with
    |[a,b,c,e],_=>exact⟨a,b,c,e,Z⟩
   obtain⟨c1,c2,c3,c4,rfl⟩:=hcs;(refine AO Z<|AW Z Z Z Z<|DD (fun _ _=>?_));refine Cg 0 Z Z Z Z (by simp[Value.cells]) hc1<|AV Z<|AZ<|Ad Z<|Bm Z<|Ad Z<|AQ Z Z<|BP Z<|As Z Z<|Ad Z<|AQ Z Z<|AQ Z Z<|BP Z<|As Z Z<|B7 Z<|Ak<|BY Z<|Cg 1 Z Z Z Z (by simp[Value.cells]) Z<|AS Z<|hbad Z (by simp[BU,hp]) Z Z ⟨1,Z⟩
  ·subst hr;have ho':=ho;obtain⟨kv,vv,iv,Lk,Lv,hi,rfl,ok,ov,oi,rfl⟩:=ho';obtain⟨ka,kc,rfl⟩:=ok.val;obtain⟨va,vc,rfl⟩:=ov.val;obtain⟨ia,ic,rfl⟩:=oi.val;have hsz:=Vl hp;refine B1 _ (bx b2 T2 [.bool false,nV,nV,nV]::(Lk++Lv++[hi])) (Vs.perm Afi)<|AO Z<|AW Z Z Z Z<|DD (fun _ _=>?_);rename_i b4 T4;refine Bb 0 [.bool n.leaf,.slice ka n.keys.length kc,.slice va n.vals.length vc,.slice ia n.kids.length ic] Z Z Z Z (by simp[Value.cells]) Z Z<|AV Z<|AZ<|Ad Z<|Bm Z<|Ad Z<|Ac Z<|Bk 0 Z Z Z<|Ac Z ?_;have hrn:∀d2,Le d1 d2→(∀k∈(bx b4 T4 [.bool n.leaf,.slice ka n.keys.length kc,.slice va n.vals.length vc,.slice ia n.kids.length ic]::bx b2 T2 [.bool false,nV,nV,nV]::(Lk++Lv++[hi])),Le k d2)→Cz d2 [.bool n.leaf,.slice ka n.keys.length kc,.slice va n.vals.length vc,.slice ia n.kids.length ic] n:=
    fun d1 hl hk=>ho.JR hl (fun h hm=>hk h (Afr _ (Afr _ hm)))
   refine IY Z (fun d1 hl hk=>h2 (hrn d1 hl hk) hsz) ?_;cases hr:Bt n with
   |false=>
    (refine Ac Z<|Bm Z<|Aj Z Z<|Ad Z<|AQ Z Z<|AQ Z Z<|BP Z<|As Z Z<|B7 Z<|Ak<|BY Z ?_)
    refine Bb 1 [.bool false,nV,nV,nV] Z Z Z Z (by simp) Z Z ?_
    (refine AS Z ?_)
    exact hbad Z (by simp[BU,hp,hr]) Z Z ⟨1,Z⟩
   |true=>
    have hr':=hr
    simp only[Bt,Afb,decide_eq_true_eq] at hr'
    (refine Ac Z<|Bm Z<|Aj Z Z<|Ad Z<|Ac Z<|Bk 0 Z Z Z<|Ac Z ?_)
    refine Ka (Q:=fun r L'=>∃h,L'=[h]∧Fg 256 r (Cq n) h) Z (fun d1 hl hk=>(h3 (hrn d1 hl hk) hr'.1 hr'.2).mono (fun e d' L' _ h=>by
     cases e with
     |returned v=>exact h
     |panicked c=>exact h
     |outgrown=>exact h)) (fun r L' ⟨h,hL,hrow⟩=>?_)
    subst hL
    (refine Ac Z<|AK<|Ac Z ?_)
    refine IY Z (fun d1 hl hk=>h4 (hrow.bytes (hk h (Afn ..)) (by omega)) (hv.mono hl)) ?_
    by_cases hpg:Cq n=b
    ·rw[decide_eq_true hpg]
     (refine Ac Z<|Bm Z<|Aj Z Z<|Be Z<|Ak<|Bk 1 Z Z Z ?_)
     refine Bb 2 [.bool n.leaf,.slice ka n.keys.length kc,.slice va n.vals.length vc,.slice ia n.kids.length ic] Z Z Z Z (by simp) Z Z ?_
     (refine AS Z ?_)
     refine A6 [.agg [.bool n.leaf,.slice ka n.keys.length kc,.slice va n.vals.length vc,.slice ia n.kids.length ic].toArray,vZ 0] (L':=Lk++Lv++[hi]) ⟨AY 2 Z Z Z,Af Z,trivial⟩
      (Vs.drop ((Age _ _).trans ((Age _ _).trans (Age _ _)))) ⟨Z,[.bool n.leaf,.slice ka n.keys.length kc,.slice va n.vals.length vc,.slice ia n.kids.length ic],?_,?_⟩
     ·have:BU b=some n:=by simp[BU,hbl,hp,hr,hpg]
      rw[this];rfl
     ·have:BU b=some n:=by simp[BU,hbl,hp,hr,hpg]
      rw[this];exact ho
    ·rw[decide_eq_false hpg]
     (refine Ac Z<|Bm Z<|Aj Z Z<|B7 Z<|Ak<|BY Z ?_)
     refine Bb 2 [.bool false,nV,nV,nV] Z Z Z Z (by simp) Z Z ?_
     (refine AS Z ?_)
     exact hbad Z (by simp[BU,hp,hpg]) Z Z ⟨2,Z⟩
def QL(b:List UInt8)(a:Int):Option (List UInt8×Nat):=if a<0 then none else
 match b[a.toNat]? with
 |none=>none
 |some k=>if a.toNat+1+k.toNat>b.length then none else some ((b.drop (a.toNat+1)).take k.toNat,a.toNat+1+k.toNat)
def AcL{b x}{a:Int}{e:Nat}(h:QL b a=some (x,e)):e≤b.length:=by
 simp only[QL] at h;split at h
 ·cases h
 ·split at h
  ·cases h
  ·split at h
   ·cases h
   ·simp only[Option.some.injEq,Prod.mk.injEq] at h;omega
def AbL(P:Program)(f:FuncId):Prop:=∀{d v b},Ay d v b→b.length≤1000→∀a:Int, -1≤a→a≤1000→
 Ao P f [v,vZ a] d [] (Ret fun r d' L'=>d'=d∧((QL b a=none∧r=.tuple #[nV,vZ (-1)]∧L'=[])∨
  ∃x e u g,QL b a=some (x,e)∧r=.tuple #[u,vZ (e:Nat)]∧L'=[g]∧Ai 1 Ax d u x g))
def AbL.data{P}(h:AbL P f){d v b}(hv:Ay d v b)(hb:b.length≤1000){a:Int}(h1: -1≤a)(h2:a≤1000):
  Ao P f [v,vZ a] d [] (Ret fun r d' L'=>L'=[]∧∃ua uc x a',r=.tuple #[.slice ua x.length uc,vZ a']∧Ay d' (.slice ua x.length uc) x∧ -1≤a'∧a'≤b.length∧((a'= -1∧QL b a=none)∨∃e:Nat,a'=e∧QL b a=some (x,e))):=by
 refine(h hv hb a h1 h2).Eb (fun r d' L' hl ⟨hdd,hr⟩=>?_)
 rcases hr with ⟨e1,rfl,rfl⟩|⟨x,e,u,g,e1,rfl,rfl,hg⟩
 ·exact⟨d',[],Vs.refl _ _,Z,none,0,[], -1,Z,RSl.nil,by omega,by omega,.inl ⟨Z,e1⟩⟩
 ·subst hdd
  obtain⟨ua,uc,rfl⟩:=hg.val
  have:=AcL e1
  exact⟨Gk.join d' g,[],Vs.freeze,Z,ua,uc,x,e,Z,hg.rsl AF (by omega) (Le.Ar _ _) (Le.Bc _ _),by omega,by omega,.inr ⟨e,Z,e1⟩⟩
end Go.Gk.Node
end
section
namespace Go.Gk.Node
open Go Go.Gk
section
attribute [local irreducible] gwp gws
end
end Go.Gk.Node
end
section
namespace Go.Gk.Node
open Go Go.Gk
attribute [local irreducible] gwp gws
variable{n:AB}{k:Nat}
def DU.mono{d d' v xs L}(o:DU d v xs L)(hl:Le d d'):DU d' v xs L:=
 let ⟨us,h0,hs,h1,h2,h3,h4⟩:=o
 ⟨us,h0,hs,h1,h2,fun i hi=>let ⟨u,g,k1,k2,k3⟩:=h3 i hi;⟨u,g,k1,k2,Ai.mono (R:=Ax) AF k3 hl⟩,h4⟩
def Ej.mono{d d' cs L}(o:Ej d cs n L)(hl:Le d d'):Ej d' cs n L:=
 let ⟨kv,vv,iv,Lk,Lv,hi,e,h1,h2,h3,h4⟩:=o
 ⟨kv,vv,iv,Lk,Lv,hi,e,h1.mono hl,h2.mono hl,h3.JJ hl,h4⟩
def QM{n:Nat}(h:n≤255):(u8n n).toNat=n:=by
 simp only[u8n];have:((n:Int) % 256).toNat=n:=by omega
 rw[this];simp;omega
def OC{x r}(h:x.length≤255):GY (u8n x.length::(x++r))=some (x,r):=by
 simp only[GY,QM h];rw[if_neg (by simp)];simp
def VD{k:Int}{r}(h0:0≤k)(h1:k≤8191):Ly (GM k++r)=some (k.toNat,r):=by
 simp only[GM,Agy,List.nil_append,Ly,Option.some.injEq,Prod.mk.injEq,and_true];have e1:((k / 256) % 256).toNat=(k / 256).toNat:=by omega
 rw[e1];have e2:(k / 256).toNat<256:=by omega
 have e3:(k % 256).toNat<256:=by omega
 have e4:∀x,x<256→(UInt8.ofNat x).toNat=x:=fun x hx=>by simp;omega
 rw[e4 _ e2,e4 _ e3];omega
def Ua(n:AB)(k:Nat):∀j,∃T,C0 n (k+j)=C0 n k++T
 |0=>⟨[],by simp⟩
 |j+1=>by
  obtain⟨T,h⟩:=Ua n k j;exact⟨T++((u8n (DW n (k+j))::n.keys.getD (k+j) [])++tailD n (k+j)),by show C0 n (k+j)++_++_=_;rw[h];simp only[Afg];rfl⟩
def Uh(n:AB)(hk:k≤n.keys.length):∃T,Cq n=C0 n k++T:=by
 obtain⟨T,h⟩:=Ua n k (n.keys.length - k);rw[show k+(n.keys.length - k)=n.keys.length by omega] at h;exact⟨T++_,by rw[Cq,h,Afg]⟩
def XL(n:AB)(hk:k<n.keys.length):(Cq n).drop (C0 n k).length=(u8n (DW n k)::n.keys.getD k [])++(tailD n k++(Cq n).drop (C0 n (k+1)).length):=by
 obtain⟨T,h⟩:=Uh n (k:=k+1) hk;rw[h];have e:C0 n (k+1)=C0 n k++((u8n (DW n k)::n.keys.getD k [])++tailD n k):=by simp only[C0,Afg]
 rw[Aji,e,Afg,Aji,Afg]
def Ku(n:AB):∀k,k≤BK n k
 |0=>Afe _
 |k+1=>by have:=Ku n k;simp only[BK,EJ];split<;>omega
def TE{ks}(h:D5 ks ks.length=true)(hk:k<ks.length):ks[k].length≤64:=by
 have:=M4 h hk;simp only[kOk,Afb,decide_eq_true_eq] at this;have e:ks.getD k []=ks[k]:=by simp[hk]
 rw[e] at this;exact this.1.2
def Gt(hr:Bt n=true):(Cq n).length=256:=by
 simp only[Bt,Afb,decide_eq_true_eq] at hr;have:=Acy hr.1 hr.2 n.keys.length (Afe _);simp only[Cq,Afk,Agk];omega
def WV(hr:Bt n=true):F5 (Cq n)=some n:=by
 have hr':=hr;simp only[Bt,Afb,decide_eq_true_eq] at hr';obtain⟨hs,hz⟩:=hr';have hm:n.keys.length≤255:=by
  have:=Ku n n.keys.length;simp only[Bf] at hz;omega
 obtain⟨T0,hT0⟩:=Uh n (k:=0) (Agd _);have hstep:=fun k hk=>XL n (k:=k) hk;have hd0:(Cq n).drop (C0 n 0).length=T0:=by rw[hT0,Aji]
 obtain⟨lf,ks,vs,is⟩:=n;have hs':=hs;simp only[Bd,Afb] at hs';have hk:=fun k (hk:k<ks.length)=>TE hs'.1 hk;simp only at hm hT0 hstep hd0 hs';have hkl:∀k,k<ks.length→DW ⟨lf,ks,vs,is⟩ k=(ks.getD k []).length:=fun _ _=>Z;cases lf with
 |true=>
  have h2:=hs'.2
  simp only[if_true,Afb,decide_eq_true_eq,Afs] at h2
  obtain⟨⟨hvl,hil⟩,hva⟩:=h2
  obtain rfl:is=[]:=Afl hil
  have hpg:Cq ⟨true,ks,vs,[]⟩=1::u8n ks.length::T0:=hT0
  have items:∀k,k≤ks.length→De true T0 [] k=some (ks.take k,vs.take k,[],(Cq ⟨true,ks,vs,[]⟩).drop (C0 ⟨true,ks,vs,[]⟩ k).length):=by
   intro k;induction k with
   |zero=>intro _;simp[De,hd0]
   |succ k ih=>
    intro hk1
    have e1:ks.getD k []=ks[k]'(by omega):=by simp[show k<ks.length by omega]
    have e2:vs.getD k []=vs[k]'(by omega):=by simp[show k<vs.length by omega]
    have e3:(vs[k]'(by omega)).length≤16:=by
     have:=hva _ (Agb (show k<vs.length by omega));simpa [ID] using this
    simp only[De,ih (by omega)]
    rw[hstep k (by omega)]
    have:=hk k (by omega)
    rw[hkl k (by omega),e1,Agy,OC (by omega)]
    simp only[tailD,if_true,FJ,e2]
    rw[Agy,OC (by omega)]
    simp only[Option.some.injEq,Prod.mk.injEq,and_true]
    exact⟨(Afw _).symm,(Afw _).symm⟩
  have h3:=items ks.length (Afe _)
  simp only[F5,hpg,Aid,Ahw,List.drop_succ_cons,List.drop_zero]
  show(match GV true T0 with|none=>none|some (is0,l0)=>_)=_
  simp only[GV,QM hm]
  rw[hpg] at h3
  show(match De true T0 [] ks.length with|none=>none|some (a,b,c,_)=>some (⟨true,a,b,c⟩:AB))=_
  rw[h3]
  simp only[Agz]
  rw[Agt (by omega)]
 |false=>
  have h2:=hs'.2
  simp only[Afh,if_false,Afb,decide_eq_true_eq,Afs] at h2
  obtain⟨⟨hvl,hil⟩,hia⟩:=h2
  obtain rfl:vs=[]:=Afl hvl
  have hkid:∀k (h:k<is.length),0≤is[k]∧is[k]≤8191:=fun k h=>by
   have:=hia _ (Agb h);simpa [GZ] using this
  have hpg:Cq ⟨false,ks,[],is⟩=2::u8n ks.length::(GM (is.getD 0 0)++T0):=hT0
  have e0:is.getD 0 0=is[0]'(by omega):=by simp[show 0<is.length by omega]
  have items:∀k,k≤ks.length→De false T0 [is[0]'(by omega)] k=some (ks.take k,[],is.take (k+1),(Cq ⟨false,ks,[],is⟩).drop (C0 ⟨false,ks,[],is⟩ k).length):=by
   intro k;induction k with
   |zero=>
    intro _
    have:is.take 1=[is[0]'(by omega)]:=by rw[Afw (by omega)];simp
    simp[De,hd0,this]
   |succ k ih=>
    intro hk1
    have e1:ks.getD k []=ks[k]'(by omega):=by simp[show k<ks.length by omega]
    have e2:is.getD (k+1) 0=is[k+1]'(by omega):=by simp[show k+1<is.length by omega]
    have e3:=hkid (k+1) (by omega)
    simp only[De,ih (by omega)]
    rw[hstep k (by omega)]
    have:=hk k (by omega)
    rw[hkl k (by omega),e1,Agy,OC (by omega)]
    simp only[tailD,Afh,if_false,e2]
    rw[VD e3.1 e3.2]
    simp only[Option.some.injEq,Prod.mk.injEq,and_true,true_and]
    refine⟨(Afw _).symm,?_⟩
    rw[Int.toNat_of_nonneg e3.1]
    exact(Afw _).symm
  have h3:=items ks.length (Afe _)
  have e4:=hkid 0 (by omega)
  simp only[F5,hpg,Aid,Ahw,List.drop_succ_cons,List.drop_zero]
  show(match GV false (GM (is.getD 0 0)++T0) with|none=>none|some (is0,l0)=>_)=_
  simp only[GV,e0,VD e4.1 e4.2,QM hm]
  rw[hpg] at h3
  rw[Int.toNat_of_nonneg e4.1]
  show(match De false T0 [is[0]] ks.length with|none=>none|some (a,b,c,_)=>some (⟨false,a,b,c⟩:AB))=_
  rw[h3]
  simp only[Agz]
  rw[Agt (by omega)]
def Zw(hr:Bt n=true):BU (Cq n)=some n:=by
 unfold BU;rw[if_pos (Gt hr),WV hr];exact if_pos ⟨hr,Z⟩
def PE{b}(h:BU b=some n):Bt n=true∧Cq n=b:=by
 unfold BU at h;split at h
 ·split at h
  ·split at h
   ·rename_i h1;cases h;exact h1
   ·cases h
  ·cases h
 ·cases h
def HI{α}(R:Aa→List Value→α→Prop)(P:Program)(f:FuncId):Prop:=∀{d v w}{xs ys:List α},RSl 1 R d v xs→RSl 1 R d w ys→xs.length≤1000000001→ys.length≤1000000001→
 Ao P f [v,w] d [] (Ret fun r d' L'=>d'=d∧∃h,L'=[h]∧Ai 1 R d r (xs++ys) h)
def MO:A9:=⟨15,[(.tmp 4)],(sR (o1 4 (.mv nS) .done) (sR (om 5 0<|oL 6 5<|om 7 1<|oL 8 7<|ob 9 .add 6 8<|o1 10 (.mks 1 24 [nV] z0 9)<|om 11 0<|o1 12 (.app 1 24 [nV] 10 11)<|om 13 1<|o1 14 (.app 1 24 [nV] 12 13)<|om 4 14 .done) .ret))⟩
def U1{P f}(hd:dec P f=some MO):HI RBs P f:=by
 intro d v w xs ys hv hw hx hy;obtain⟨a,c,rfl⟩:=RSl.val hv;obtain⟨a2,c2,rfl⟩:=RSl.val hw;refine Bj hd<|Br Z<|Bo<|Ae Z<|AA Z<|Ae Z<|AA Z<|A4 Z Z<|Iv (n:=0) (c:=xs.length+ys.length) Z (int_eq (by omega)) (by omega) (by omega) (by omega) (fun b8 T8=>?_);(apply Ae;rfl);have o0:Ai 1 RBs d (.slice (some ⟨b8,0,none⟩) 0 (xs.length+ys.length)) [] (bx b8 T8 (BD [nV] ((xs.length+ys.length)*1))):=
  ⟨[],Cf.mk Z (by simp) (Agd _) (by omega) (by simp[BD]) Z,fun i hi=>absurd hi (Aic i)⟩
 refine FR (xs:=[]) (ys:=xs) 0 Z Z o0 Z (RSl.src (R:=RBs) (xs:=xs) hv FA (by omega) _) (by omega) (by simp;omega) (by simp;omega) (fun v5 h5 hrow5=>?_);(apply Ae;rfl);refine FR (xs:=[]++xs) (ys:=ys) 0 Z Z hrow5 Z (RSl.src (R:=RBs) (xs:=ys) hw FA (by omega) _) (by omega) (by simp;omega) (by simp;omega) (fun v6 h6 hrow6=>?_);refine AK<|BJ<|BZ (L':=[h6]) Z (Afa _) ⟨Z,h6,Z,hrow6⟩
def N0:A9:=⟨15,[(.tmp 4)],(sR (o1 4 (.mv nS) .done) (sR (om 5 0<|oL 6 5<|om 7 1<|oL 8 7<|ob 9 .add 6 8<|o1 10 (.mks 1 8 [(vZ 0)] z0 9)<|om 11 0<|o1 12 (.app 1 8 [(vZ 0)] 10 11)<|om 13 1<|o1 14 (.app 1 8 [(vZ 0)] 12 13)<|om 4 14 .done) .ret))⟩
def Xr{P f}(hd:dec P f=some N0):HI Bh P f:=by
 intro d v w xs ys hv hw hx hy;obtain⟨a,c,rfl⟩:=RSl.val hv;obtain⟨a2,c2,rfl⟩:=RSl.val hw;refine Bj hd<|Br Z<|Bo<|Ae Z<|AA Z<|Ae Z<|AA Z<|A4 Z Z<|Iv (n:=0) (c:=xs.length+ys.length) Z (int_eq (by omega)) (by omega) (by omega) (by omega) (fun b8 T8=>?_);(apply Ae;rfl);have o0:Ai 1 Bh d (.slice (some ⟨b8,0,none⟩) 0 (xs.length+ys.length)) [] (bx b8 T8 (BD [vZ 0] ((xs.length+ys.length)*1))):=
  ⟨[],Cf.mk Z (by simp) (Agd _) (by omega) (by simp[BD]) Z,fun i hi=>absurd hi (Aic i)⟩
 refine FR (xs:=[]) (ys:=xs) 0 Z Z o0 Z (RSl.src (R:=Bh) (xs:=xs) hv D1 (by omega) _) (by omega) (by simp;omega) (by simp;omega) (fun v5 h5 hrow5=>?_);(apply Ae;rfl);refine FR (xs:=[]++xs) (ys:=ys) 0 Z Z hrow5 Z (RSl.src (R:=Bh) (xs:=ys) hw D1 (by omega) _) (by omega) (by simp;omega) (by simp;omega) (fun v6 h6 hrow6=>?_);refine AK<|BJ<|BZ (L':=[h6]) Z (Afa _) ⟨Z,h6,Z,hrow6⟩
def CM(a b:AB)(key:List UInt8):AB:=if a.leaf then⟨true,a.keys++b.keys,a.vals++b.vals,[]⟩ else⟨false,a.keys++[key]++b.keys,[],a.kids++b.kids⟩
def Uj(P:Program)(f:FuncId):Prop:=∀{d ca cb kv}{a b:AB}{key},Cz d ca a→Cz d cb b→Ay d kv key→a.keys.length+b.keys.length≤100000000→a.vals.length+b.vals.length≤100000000→a.kids.length+b.kids.length≤100000000→
 Ao P f [.agg ca.toArray,.agg cb.toArray,kv] d [] (Ret fun r d' L'=>L'=[]∧∃cs,r=.agg cs.toArray∧Cz d' cs (CM a b key))
def Vy(a0 a1 a2:Nat):A9:=⟨37,[(.cell 6 (some 4))],(sR (o1 3 (.box 0)<|o1 4 (.box 1)<|o1 6 (.alo (.agg #[(.bool false),nV,nV,nV])) .done) (.seq (sR (oj 7 0 3<|ol 8 7 .done) (.cond 8 (.seq (.reg true (p1 9 (.fld 1 3)<|pl 10 9<|p1 11 (.fld 1 4)<|pl 12 11<|p1 15 (.fld 2 3)<|pl 16 15<|p1 17 (.fld 2 4)<|pl 18 17<|oc 13 a0 [10,12]<|oc 14 a1 [13]<|oc 19 a0 [16,18]<|oc 20 a1 [19]<|p1 21 (.bld [(0,1),(1,1),(2,1),(3,1)] [(.bool false),nV,nV,nV] [(0,(.const (.bool true))),(1,14),(2,20)]) (.bar (o0 (.st 4 6 21) .done)))) .ret) .skip)) (.seq (.reg true (p1 22 (.fld 1 3)<|pl 23 22<|pm 24 2<|p1 27 (.fld 1 4)<|pl 28 27<|p1 31 (.fld 3 3)<|pl 32 31<|p1 33 (.fld 3 4)<|pl 34 33<|o1 25 (.bsl 1 1 [nV] [(0,24)])<|oc 26 a0 [23,25]<|oc 29 a0 [26,28]<|oc 30 a1 [29]<|oc 35 a2 [32,34]<|p1 36 (.bld [(0,1),(1,1),(2,1),(3,1)] [(.bool false),nV,nV,nV] [(1,30),(3,35)]) (.bar (o0 (.st 4 6 36) .done)))) .ret)))⟩
def AcD{P f f1 f2 f3}(hd:dec P f=some (Vy f1 f2 f3))(h1:HI RBs P f1)(h2:SN P f2)(h3:HI Bh P f3):Uj P f:=by
 intro d ca cb kv a b key ha hb hk hb1 hb2 hb3;obtain⟨ak,av,ai,rfl,ak1,av1,ai1⟩:=ha;obtain⟨bk,bv,bi,rfl,bk1,bv1,bi1⟩:=hb;refine Dp hd (Aff Z) ?_;obtain⟨aka,akc,rfl⟩:=RSl.val ak1;obtain⟨ava,avc,rfl⟩:=RSl.val av1;obtain⟨aia,aic,rfl⟩:=RSl.val ai1;obtain⟨bka,bkc,rfl⟩:=RSl.val bk1;obtain⟨bva,bvc,rfl⟩:=RSl.val bv1;obtain⟨bia,bic,rfl⟩:=RSl.val bi1;obtain⟨ka,kc,rfl⟩:=RSl.val hk;show gwp P _ _ _ _ _;apply Aw;apply Av;refine CF (l:=[.bool a.leaf,.slice aka a.keys.length akc,.slice ava a.vals.length avc,.slice aia a.kids.length aic]) Z (fun b3 T3=>?_);refine CF (l:=[.bool b.leaf,.slice bka b.keys.length bkc,.slice bva b.vals.length bvc,.slice bia b.kids.length bic]) Z (fun b4 T4=>?_);(refine DD (fun _ _=>BG<|Am Z<|Ah Z (AG 2 Z Z)<|An ?_));rename_i b6 T6;cases hlf:a.leaf with
 |true=>
  (refine Er Z<|Aw<|BI<|Am Z<|Ah Z (AG 2 Z Z)<|Am Z<|Ah Z (AG 1 Z Z)<|Am Z<|Ah Z (AG 2 Z Z)<|Am Z<|Ah Z (AG 1 Z Z) ?_)
  refine Bz Z (h1 ak1 bk1 (by omega) (by omega)) (fun r d1 L1 _ ⟨hdd,g,hL,og⟩=>?_)
  subst hdd;subst hL
  refine HZ (fun d2 hl2 hg2=>?_)
  have r1:=og.rsl CY (by omega) hl2 hg2
  refine Bz Z (h2 r1 (by simp;omega)) (fun r d3 L3 _ ⟨hdd,o3⟩=>?_)
  subst hdd
  refine TH (fun d4 hl4 hg4=>?_)
  have r3:=o3.Tn hl4 (fun h hm=>hg4 h (Aga _ hm))
  refine Bz Z (h1 (DG.mono av1 (hl2.trans hl4)) (DG.mono bv1 (hl2.trans hl4)) (by omega) (by omega)) (fun r d5 L5 _ ⟨hdd,g5,hL,og5⟩=>?_)
  subst hdd;subst hL
  refine HZ (fun d6 hl6 hg6=>?_)
  have r5:=og5.rsl CY (by omega) hl6 hg6
  refine Bz Z (h2 r5 (by simp;omega)) (fun r d7 L7 _ ⟨hdd,o7⟩=>?_)
  subst hdd
  obtain⟨o3a,o3c,rfl⟩:=o3.val
  obtain⟨o7a,o7c,rfl⟩:=o7.val
  refine BY (cs:=[.bool true,.slice o3a (a.keys++b.keys).length o3c,.slice o7a (a.vals++b.vals).length o7c,nV]) Z ?_
  (apply Cw)
  refine Bb 0 [.bool true,.slice o3a (a.keys++b.keys).length o3c,.slice o7a (a.vals++b.vals).length o7c,nV] Z Z Z Z (by simp[Value.cells]) Z Z ?_
  (refine BJ ?_)
  refine Adj [.agg [.bool true,.slice o3a (a.keys++b.keys).length o3c,.slice o7a (a.vals++b.vals).length o7c,nV].toArray] ⟨AY 0 Z Z Z,trivial⟩ (fun d8 hl8 hg8=>⟨Z,_,Z,?_⟩)
  refine⟨.slice o3a (a.keys++b.keys).length o3c,.slice o7a (a.vals++b.vals).length o7c,nV,by simp[CM,hlf],?_,?_,?_⟩
  ·simp only[CM,hlf,if_true];exact DG.mono r3 (hl6.trans hl8)
  ·simp only[CM,hlf,if_true];exact o7.Tn hl8 (fun h hm=>hg8 h (by simp[hm]))
  ·simp only[CM,hlf,if_true];exact RSl.nil
 |false=>
  (refine Cn Z<|AH<|Aw ?_)
  refine BI ?_
  (refine Am Z<|Ah Z (AG 2 Z Z)<|Ae Z<|Am Z<|Ah Z (AG 1 Z Z)<|Am Z<|Ah Z (AG 2 Z Z)<|Am Z<|Ah Z (AG 1 Z Z) ?_)
  refine Dq (cs:=[.slice ka key.length kc]) (by omega) Z (fun b8 T8=>?_)
  refine HZ (fun d0 hl0 hg0=>?_)
  have r0:=Ace hg0 (hk.mono hl0)
  refine Bz Z (h1 (DG.mono ak1 hl0) r0 (by omega) (by simp)) (fun r d1 L1 _ ⟨hdd,g,hL,og⟩=>?_)
  subst hdd;subst hL
  refine HZ (fun d2 hl2 hg2=>?_)
  have r1:=og.rsl CY (by omega) hl2 hg2
  refine Bz Z (h1 r1 (DG.mono bk1 (hl0.trans hl2)) (by simp;omega) (by omega)) (fun r d3 L3 _ ⟨hdd,g3,hL,og3⟩=>?_)
  subst hdd;subst hL
  refine HZ (fun d4 hl4 hg4=>?_)
  have r3:=og3.rsl CY (by omega) hl4 hg4
  refine Bz Z (h2 r3 (by simp;omega)) (fun r d5 L5 _ ⟨hdd,o5⟩=>?_)
  subst hdd
  refine TH (fun d6 hl6 hg6=>?_)
  have r5:=o5.Tn hl6 (fun h hm=>hg6 h (Aga _ hm))
  refine Bz Z (h3 (D9.mono ai1 (hl0.trans (hl2.trans (hl4.trans hl6)))) (D9.mono bi1 (hl0.trans (hl2.trans (hl4.trans hl6)))) (by omega) (by omega)) (fun r d7 L7 _ ⟨hdd,g7,hL,og7⟩=>?_)
  subst hdd;subst hL
  obtain⟨o5a,o5c,rfl⟩:=o5.val
  obtain⟨o7a,o7c,rfl⟩:=og7.val
  refine BY (cs:=[.bool false,.slice o5a (a.keys++[key]++b.keys).length o5c,nV,.slice o7a (a.kids++b.kids).length o7c]) Z ?_
  (apply Cw)
  refine Bb 0 [.bool false,.slice o5a (a.keys++[key]++b.keys).length o5c,nV,.slice o7a (a.kids++b.kids).length o7c] Z Z Z Z (by simp[Value.cells]) Z Z ?_
  (refine BJ ?_)
  refine Adj [.agg [.bool false,.slice o5a (a.keys++[key]++b.keys).length o5c,nV,.slice o7a (a.kids++b.kids).length o7c].toArray] ⟨AY 0 Z Z Z,trivial⟩ (fun d8 hl8 hg8=>⟨Z,_,Z,?_⟩)
  refine⟨.slice o5a (a.keys++[key]++b.keys).length o5c,nV,.slice o7a (a.kids++b.kids).length o7c,by simp[CM,hlf],?_,?_,?_⟩
  ·simp only[CM,hlf,Afh,if_false];exact DG.mono r5 hl8
  ·simp only[CM,hlf,Afh,if_false];exact RSl.nil
  ·simp only[CM,hlf,Afh,if_false];exact og7.rsl Ck (by omega) hl8 (hg8 _ (by simp))
def Hr{ks}:∀{m:Nat},D5 ks m=true↔∀k,k<m→kOk ks k=true
 |0=>⟨fun _ k h=>by omega,fun _=>Z⟩
 |m+1=>by
  simp only[D5,Afb];rw[Hr (m:=m)];constructor
  ·intro ⟨h1,h2⟩ k hk;by_cases e:k=m
   ·subst e;exact h2
   ·exact h1 k (by omega)
  ·exact fun h=>⟨fun k hk=>h k (by omega),h m (by omega)⟩
def Oc{ks}(h:D5 ks ks.length=true)(a:Nat):D5 (ks.take a) (ks.take a).length=true:=by
 rw[Hr] at h⊢;intro k hk;simp only[Aft] at hk;have:=h k (by omega);have e:∀j,j≤k→(ks.take a).getD j []=ks.getD j []:=fun j hj=>by
  simp[Aix,Ahc (show j<a by omega)]
 simpa only[kOk,e k (Afe _),e (k - 1) (by omega)] using this
def Ol{ks}(h:D5 ks ks.length=true)(a:Nat):D5 (ks.drop a) (ks.drop a).length=true:=by
 rw[Hr] at h⊢;intro k hk;simp only[Afo] at hk;have:=h (a+k) (by omega);have e:∀j,(ks.drop a).getD j []=ks.getD (a+j) []:=fun j=>by simp[Aix,Aha]
 simp only[kOk,e,Afb,Bool.or_eq_true,beq_iff_eq] at this⊢;refine⟨this.1,?_⟩
 by_cases h0:k=0
 ·exact .inl h0
 ·refine .inr ?_;rcases this.2 with h1|h1
  ·omega
  ·rwa [show a+(k - 1)=a+k - 1 by omega]
def H9(n n':AB)(hl:n'.leaf=n.leaf){a:Nat}(hk:∀j,j<a→DW n' j=DW n j)(hv:n.leaf=true→∀j,j<a→FJ n' j=FJ n j):∀k,k≤a→BK n' k=BK n k
 |0,_=>rfl
 |k+1,h=>by
  simp only[BK,H9 n n' hl hk hv k (by omega),EJ,hl,hk k (by omega)];cases e:n.leaf
  ·simp
  ·simp[hv e k (by omega)]
def Ig(n n':AB)(hl:n'.leaf=n.leaf){a:Nat}(hk:∀j,DW n' j=DW n (a+j))(hv:n.leaf=true→∀j,FJ n' j=FJ n (a+j)):∀k,BK n' k+BK n a=BK n (a+k)
 |0=>by simp[BK]
 |k+1=>by
  have:=Ig n n' hl hk hv k;show BK n' k+EJ n' k+BK n a=BK n (a+k)+EJ n (a+k);simp only[EJ,hl,hk k];cases e:n.leaf
  ·simp only[Afh,if_false];omega
  ·simp only[if_true,hv e k];omega
def R4(n:AB):∀f a,a≤n.keys.length - 1→n.keys.length≤a+f→(∀j,j<a→2*CW n j<CW n n.keys.length)→
  Ho n f a≤n.keys.length - 1∧(∀j,j<Ho n f a→2*CW n j<CW n n.keys.length)∧(Ho n f a=n.keys.length - 1∨CW n n.keys.length≤2*CW n (Ho n f a))
 |0,a,h1,h2,h3=>⟨h1,h3,.inl (by simp only[Ho];omega)⟩
 |f+1,a,h1,h2,h3=>by
  simp only[Ho];split
  ·rename_i h;refine R4 n f (a+1) (by omega) (by omega) (fun j hj=>?_);by_cases e:j=a
   ·subst e;exact h.2
   ·exact h3 j (by omega)
  ·rename_i h;refine⟨h1,h3,?_⟩
   by_cases e:a=n.keys.length - 1
   ·exact .inl e
   ·exact .inr (by omega)
def OU(n:AB):atD n≤n.keys.length - 1∧(∀j,j<atD n→2*CW n j<CW n n.keys.length)∧(atD n=n.keys.length - 1∨CW n n.keys.length≤2*CW n (atD n)):=
 R4 n _ 0 (Agd _) (by omega) (fun j hj=>by omega)
def AcK(hs:Bd n=true)(hk:k<n.keys.length):EJ n k≤if n.leaf then 82 else 65:=by
 simp only[Bd,Afb] at hs;have h1:=TE hs.1 hk;have e1:DW n k=n.keys[k].length:=by simp[DW,hk]
 simp only[EJ];cases hlf:n.leaf with
 |false=>simp only[Afh,if_false];omega
 |true=>
  have h2:=hs.2
  simp only[hlf,if_true,Afb,decide_eq_true_eq,Afs] at h2
  have hv:k<n.vals.length:=by omega
  have h3:=h2.2 _ (Agb hv)
  simp only[ID,decide_eq_true_eq] at h3
  have e2:FJ n k=n.vals[k].length:=by simp[FJ,hv]
  simp only[if_true];omega
def Tx(hs:Bd n=true)(hk:k<n.keys.length):CW n (k+1)≤CW n k+if n.leaf then 82 else 67:=by
 have:=AcK hs hk;simp only[CW,wD];cases hlf:n.leaf<;>simp only[hlf,if_true,Afh,if_false] at this⊢<;>omega
def Sf(h:n.leaf=true):∀k,CW n k=BK n k
 |0=>rfl
 |k+1=>by simp only[CW,BK,wD,h,if_true,Sf h k];omega
def PU(h:n.leaf=false):∀k,CW n k=BK n k+2*k
 |0=>rfl
 |k+1=>by simp only[CW,BK,wD,h,Afh,if_false,PU h k];omega
def AdJ(n:AB)(k:Nat):1≤wD n k:=by simp only[wD,EJ];split<;>omega
def RC{α}{p:α→Bool}{xs:List α}(h:xs.all p=true)(a:Nat):(xs.take a).all p=true:=by
 rw[Afs] at h⊢;exact fun x hx=>h x (List.mem_of_mem_take hx)
def RR{α}{p:α→Bool}{xs:List α}(h:xs.all p=true)(a:Nat):(xs.drop a).all p=true:=by
 rw[Afs] at h⊢;exact fun x hx=>h x (Ajk hx)
def getD_take{l:List (List UInt8)}{a j:Nat}(h:j<a):(l.take a).getD j []=l.getD j []:=by simp[Aix,Ahc h]
def Hl{l:List (List UInt8)}{a j:Nat}:(l.drop a).getD j []=l.getD (a+j) []:=by simp[Aix,Aha]
structure PL (n:AB):Prop where
 r1:Bt (Ba n)=true
 r2:Bt (Bi n)=true
 n1:0<(Ba n).keys.length
 n2:0<(Bi n).keys.length
 lo:∀i (h:i<(Ba n).keys.length),Op.bytesLess (Ba n).keys[i] (B4 n)=true
 hi:∀i (h:i<(Bi n).keys.length),Op.bytesLess (B4 n) (Bi n).keys[i]=true∨((Bi n).keys[i]=B4 n∧n.leaf=true)
 all:CM (Ba n) (Bi n) (B4 n)=n
def Acf{n:AB}(hz:Bf n≤if n.leaf=true then 340 else 440)(hc:DP n=true):PL n:=by
 have hc':=hc;simp only[DP,Afb,decide_eq_true_eq] at hc';obtain⟨hs,hm⟩:=hc';have hs':=hs;simp only[Bd,Afb] at hs';obtain⟨hks,hrest⟩:=hs';obtain⟨ha1,ha2,ha3⟩:=OU n;have hpos:0<CW n n.keys.length:=by
  have h0:0<n.keys.length:=by split at hm<;>omega
  have:=Ml n (k:=1) (m:=n.keys.length) h0;have:=AdJ n 0;simp only[CW] at*;omega
 have hstep:=fun k hk=>Tx hs (k:=k) hk;have hrise:=fun j i hj hi=>MZ hks (j:=j) (i:=i) hj hi;cases hlf:n.leaf with
 |true=>
  simp only[hlf,if_true] at hm hrest hz
  simp only[Afb,decide_eq_true_eq] at hrest
  obtain⟨⟨hvl,hil⟩,hva⟩:=hrest
  have eL:Ba n=⟨true,n.keys.take (atD n),n.vals.take (atD n),[]⟩:=by simp[Ba,hc,hlf]
  have eR:Bi n=⟨true,n.keys.drop (atD n),n.vals.drop (atD n),[]⟩:=by simp[Bi,hc,hlf]
  have eK:B4 n=n.keys[atD n]'(by omega):=by simp[B4,hc,hlf,show atD n<n.keys.length by omega]
  have h1:1≤atD n:=by
   rcases ha3 with h|h
   ·omega
   ·by_cases e:atD n=0
    ·rw[e] at h;simp only[CW] at h;omega
    ·omega
  have hall:Bf n=2+BK n n.keys.length:=by simp[Bf,hlf]
  have hp:=Sf hlf
  have hb:=hstep (atD n - 1) (by omega)
  rw[show atD n - 1+1=atD n by omega,hlf,if_pos Z] at hb
  have hb2:=ha2 (atD n - 1) (by omega)
  have hcl:BK (Ba n) (Ba n).keys.length=BK n (atD n):=by
   rw[eL];simp only[Aft,Aka (show atD n≤n.keys.length by omega)];exact H9 n _ hlf.symm (a:=atD n) (fun j hj=>by simp only[DW,getD_take hj]) (fun _ j hj=>by simp only[FJ,getD_take hj]) _ (Afe _)
  have hcr:BK (Bi n) (Bi n).keys.length+BK n (atD n)=BK n n.keys.length:=by
   rw[eR];simp only[Afo];have:=Ig n ⟨true,n.keys.drop (atD n),n.vals.drop (atD n),[]⟩ hlf.symm (a:=atD n) (fun j=>by simp only[DW,Hl]) (fun _ j=>by simp only[FJ,Hl]) (n.keys.length - atD n);rw[this];congr 1;omega
  refine⟨?_,?_,?_,?_,?_,?_,?_⟩
  ·simp only[Bt,Afb,decide_eq_true_eq]
   refine⟨?_,?_⟩
   ·rw[eL];simp only[Bd,if_true,Afb,decide_eq_true_eq]
    exact⟨Oc hks _,⟨by simp[hvl],Z⟩,RC hva _⟩
   ·have:Bf (Ba n)=2+BK (Ba n) (Ba n).keys.length:=by rw[eL];simp[Bf]
    rw[this,hcl,←hp]
    rw[hp n.keys.length] at hb2
    omega
  ·simp only[Bt,Afb,decide_eq_true_eq]
   refine⟨?_,?_⟩
   ·rw[eR];simp only[Bd,if_true,Afb,decide_eq_true_eq]
    exact⟨Ol hks _,⟨by simp[hvl],Z⟩,RR hva _⟩
   ·have:Bf (Bi n)=2+BK (Bi n) (Bi n).keys.length:=by rw[eR];simp[Bf]
    rw[this]
    rcases ha3 with h|h
    ·have h5:=hstep (atD n) (by omega)
     rw[hlf,if_pos Z,show atD n+1=n.keys.length by omega,hp,hp] at h5
     omega
    ·rw[hp,hp] at h;omega
  ·rw[eL];simp;omega
  ·rw[eR];simp;omega
  ·intro i hi
   simp only[eL,eK] at hi⊢
   simp only[Aft] at hi
   simp only[List.getElem_take]
   exact hrise _ _ (by omega) (by omega)
  ·intro i hi
   simp only[eR,eK] at hi⊢
   simp only[Afo] at hi
   simp only[Akd]
   by_cases h0:i=0
   ·subst h0;exact .inr ⟨Z,hlf⟩
   ·exact .inl (hrise (atD n+i) (atD n) (by omega) (by omega))
  ·rw[eL,eR]
   obtain⟨lf,ks,vs,is⟩:=n
   simp only at hlf hil
   obtain rfl:=Afl hil
   subst hlf
   simp[CM]
 |false=>
  simp only[hlf,Afh,if_false] at hm hrest hz
  simp only[Afb,decide_eq_true_eq] at hrest
  obtain⟨⟨hvl,hil⟩,hia⟩:=hrest
  have ha4:at2 n≤n.keys.length - 1:=by simp only[at2];omega
  have ha5:2≤at2 n:=by simp only[at2];omega
  have ha6:atD n≤at2 n:=by simp only[at2];omega
  have eL:Ba n=⟨false,n.keys.take (at2 n - 1),[],n.kids.take (at2 n)⟩:=by simp[Ba,hc,hlf]
  have eR:Bi n=⟨false,n.keys.drop (at2 n),[],n.kids.drop (at2 n)⟩:=by simp[Bi,hc,hlf]
  have eK:B4 n=n.keys[at2 n - 1]'(by omega):=by simp[B4,hc,hlf,show at2 n - 1<n.keys.length by omega]
  have hall:Bf n=2+2*(n.keys.length+1)+BK n n.keys.length:=by simp only[Bf,hlf,Afh,if_false,hil]
  have hp:=PU hlf
  have hpm:=hp n.keys.length
  have hcl:BK (Ba n) (Ba n).keys.length=BK n (at2 n - 1):=by
   rw[eL];simp only[Aft,Aka (show at2 n - 1≤n.keys.length by omega)];exact H9 n _ hlf.symm (a:=at2 n - 1) (fun j hj=>by simp only[DW,getD_take hj]) (fun h=>by rw[hlf] at h;cases h) _ (Afe _)
  have hcr:BK (Bi n) (Bi n).keys.length+BK n (at2 n)=BK n n.keys.length:=by
   rw[eR];simp only[Afo];have:=Ig n ⟨false,n.keys.drop (at2 n),[],n.kids.drop (at2 n)⟩ hlf.symm (a:=at2 n) (fun j=>by simp only[DW,Hl]) (fun h=>by rw[hlf] at h;cases h) (n.keys.length - at2 n);rw[this];congr 1;omega
  refine⟨?_,?_,?_,?_,?_,?_,?_⟩
  ·simp only[Bt,Afb,decide_eq_true_eq]
   refine⟨?_,?_⟩
   ·rw[eL];simp only[Bd,Afh,if_false,Afb,decide_eq_true_eq]
    exact⟨Oc hks _,⟨Z,by simp only[Aft];omega⟩,RC hia _⟩
   ·have:Bf (Ba n)=2+2*at2 n+BK (Ba n) (Ba n).keys.length:=by
     rw[eL];simp only[Bf,Afh,if_false,Aft,Aka (show at2 n≤n.kids.length by omega)]
    rw[this,hcl]
    have h7:=hp (at2 n - 1)
    by_cases h8:at2 n=2
    ·have h9:=hstep 0 (by omega)
     simp only[hlf,Afh,if_false,CW] at h9
     have h10:=hp 1
     simp only[CW] at h10
     rw[h8] at h7⊢
     simp only[Nat.reduceSub,CW] at h7⊢
     omega
    ·have h9:=ha2 (at2 n - 1) (by simp only[at2] at h8⊢;omega)
     omega
  ·simp only[Bt,Afb,decide_eq_true_eq]
   refine⟨?_,?_⟩
   ·rw[eR];simp only[Bd,Afh,if_false,Afb,decide_eq_true_eq]
    exact⟨Ol hks _,⟨Z,by simp only[Afo];omega⟩,RR hia _⟩
   ·have:Bf (Bi n)=2+2*(n.kids.length - at2 n)+BK (Bi n) (Bi n).keys.length:=by
     rw[eR];simp only[Bf,Afh,if_false,Afo]
    rw[this]
    have h7:=hp (at2 n)
    rcases ha3 with h|h
    ·have h8:at2 n=n.keys.length - 1:=by omega
     have h5:=hstep (at2 n) (by omega)
     simp only[hlf,Afh,if_false] at h5
     rw[show at2 n+1=n.keys.length by omega] at h5
     omega
    ·have h5:=Ml n ha6
     omega
  ·rw[eL];simp;omega
  ·rw[eR];simp;omega
  ·intro i hi
   simp only[eL,eK] at hi⊢
   simp only[Aft] at hi
   simp only[List.getElem_take]
   exact hrise _ _ (by omega) (by omega)
  ·intro i hi
   simp only[eR,eK] at hi⊢
   simp only[Afo] at hi
   simp only[Akd]
   exact .inl (hrise (at2 n+i) (at2 n - 1) (by omega) (by omega))
  ·have hk1:n.keys.take (at2 n - 1)++[n.keys[at2 n - 1]'(by omega)]++n.keys.drop (at2 n)=n.keys:=by
    rw[←Afw,show at2 n - 1+1=at2 n by omega,Ait]
   rw[eL,eR,eK]
   simp only[CM,Afh,if_false]
   rw[hk1,Ait]
   obtain⟨lf,ks,vs,is⟩:=n
   simp only at hlf hvl⊢
   obtain rfl:=Afl hvl
   subst hlf;rfl
end Go.Gk.Node
end
section
namespace Go.Gk
open Go
variable{x:Operand}{j:Int}
section
section
variable {P:Program}{pan:List PanicEntry→AP}{Qn:Env→AP}{Ls L:List Aa}{ρ:Env}{d:Aa}{s:GS}{t:Nat}{tk:Bool}
def Du{b o n c l h m:Nat}{lo hi mx:Option Operand}(ex:ev ρ x=.slice (some ⟨b,o,none⟩) n c)(hc:EA n c (lo.map (ev ρ)) (hi.map (ev ρ)) (mx.map (ev ρ))=some (l,h,m))
  (k:∀o',(m≠l→o'=o+l)→gws P pan Qn s Ls (upd ρ t (.slice (some ⟨b,o',none⟩) (h - l) (m - l))) d L):gws P pan Qn (.op tk ⟨some t,none,.sl 1 x lo hi mx⟩ s) Ls ρ d L:=by
 by_cases hml:m=l
 ·refine w_q Z (v:=.slice (some ⟨b,o,none⟩) (h - l) (m - l)) ⟨some ⟨b,o,none⟩,n,c,l,h,m,ex,fun q=>absurd hml q,hc,by rw[if_pos hml]⟩ (k o (fun q=>absurd hml q))
 ·refine w_q Z (v:=.slice (some ⟨b,o+l,none⟩) (h - l) (m - l)) ⟨some ⟨b,o,none⟩,n,c,l,h,m,ex,fun _ a' ha=>by cases ha;rfl,hc,by rw[if_neg hml];simp⟩ (k (o+l) (fun _=>Z))
def Dn{n c:Nat}{v k}{i:Nat}(ev:v=.int k j)(hj:j=(i:Int))(hi:i≤n):EA n c (some v) none none=some (i,n,c):=by
 subst ev;subst hj;simp only[EA,HH,HB,HM,Option.isSome_none,Afh,if_false,Ahd,bnd];rw[if_pos (by omega)];simp
def Kz{n c:Nat}{v k}{i:Nat}(ev:v=.int k j)(hj:j=(i:Int))(hi:i≤c):EA n c none (some v) none=some (0,i,c):=by
 subst ev;subst hj;simp only[EA,HH,HB,HM,Ahd,Option.map_some,bnd];rw[if_pos (by omega)];simp
def VT{n c:Nat}{v w k k'}{j':Int}{i i':Nat}(ev:v=.int k j)(ew:w=.int k' j')(hj:j=(i:Int))(hj':j'=(i':Int))(hi:i≤i')(hi':i'≤c):EA n c (some v) (some w) none=some (i,i',c):=by
 subst ev;subst hj;subst ew;subst hj';simp only[EA,HH,HB,HM,Ahd,bnd];rw[if_pos (by omega),Ahd,if_pos (by omega)];simp
def VC{n c:Nat}{v w u k k' k''}{j' j'':Int}{i i' i'':Nat}(ev:v=.int k j)(ew:w=.int k' j')(eu:u=.int k'' j'')(hj:j=(i:Int))(hj':j'=(i':Int))(hj'':j''=(i'':Int))(hi:i≤i')(hi':i'≤i'')(hi'':i''≤c):
  EA n c (some v) (some w) (some u)=some (i,i',i''):=by
 subst ev;subst hj;subst ew;subst hj';subst eu;subst hj''
 simp only[EA,HH,HB,HM,bnd]
 rw[if_pos (by omega),Ahd,if_pos (by omega),Ahd,if_pos (by omega)];simp
def AbS{by_:Nat}{z y}{b o n c m:Nat}{CV}(ex:ev ρ x=.slice (some ⟨b,o,none⟩) n c)(ey:ev ρ y=vZ j)(hj:j=(m:Int))(hlt:c<n+m)(hmax:n+m≤140737488355328)(hb:(n+m)*by_≤140737488355328)(hl:CV.length=n)
  (ho:∀i u,CV[i]?=some u→HC d (Ls++L++L) ⟨b,o+i,none⟩ u)
  (k:∀b T c',n+m≤c'→c'≤9223372036854775807→gws P pan Qn s Ls (upd ρ t (.slice (some ⟨b,0,none⟩) (n+m) c')) d (bx b T (CV++BD z (c' - n))::L)):gws P pan Qn (.op false ⟨some t,none,.mop (.zap 1 by_ z x y)⟩ s) Ls ρ d L:=by
 subst hj
 refine⟨d,L,Vs.refl d L,?_⟩
 simp only[gop,gi,mi,maxLen]
 refine⟨_,n,c,m,CV,ex,ey,hlt,by omega,by simpa using hb,by simpa using hl,(fun q=>by cases q),fun a' ha i u hu=>by cases ha;rw[Addr.add_lit];exact ho i u hu,fun b T c' h1 h2=>⟨_,_,Vs.refl _ _,?_⟩⟩
 rw[Aho]
 exact k b T c' h1 h2
def AbD{z}{t:Option Nat}{a}{n c:Nat}(ex:ev ρ x=.slice a n c) (k:(n=0∧gws P pan Qn s Ls (put ρ t (.tuple #[])) d L)∨∃i b o T l,a=some ⟨b,o,none⟩∧L[i]?=some (bx b T l)∧o+n≤l.length∧
  gws P pan Qn s Ls (put ρ t (.tuple #[])) d (L.set i (bx b T (patch l o (BD z n))))):gws P pan Qn (.op false ⟨t,none,.mop (.clz 1 z x)⟩ s) Ls ρ d L:=by
 refine⟨d,L,Vs.refl d L,?_⟩
 simp only[gop,gi,mi,Aho]
 refine⟨a,n,c,ex,?_⟩
 rcases k with ⟨h1,h2⟩|⟨i,b,o,T,l,h1,h2,h3,h4⟩
 ·exact .inl ⟨h1,_,_,Vs.refl _ _,h2⟩
 ·exact .inr ⟨i,b,o,T,l,h1,h2,h3,_,_,Vs.refl _ _,h4⟩
def Abu{y}{b o n c b' o' n' c':Nat}(i j:Nat){T T' l l'}(ex:ev ρ x=.slice (some ⟨b,o,none⟩) n c)(ey:ev ρ y=.slice (some ⟨b',o',none⟩) n' c')(hij:i≠j)(hi:L[i]?=some (bx b T l))(hj:L[j]?=some (bx b' T' l'))(hl:l'≠[])
  (k:gws P pan Qn s Ls (upd ρ t (.bool false)) d L):gws P pan Qn (.op false ⟨some t,none,.mop (.ovl x y)⟩ s) Ls ρ d L:=by
 refine⟨d,L,Vs.refl d L,?_⟩
 simp only[gop,gi,mi]
 exact⟨_,n,c,_,n',c',ex,ey,⟨_,_,Vs.refl _ _,k⟩,.inr (.inr ⟨i,j,b,o,T,l,b',o',T',l',Z,Z,hij,hi,hj,hl⟩)⟩
def H6{y}{t:Option Nat}(i:Nat){b o n c b' o' m xc:Nat}{T l news}(ex:ev ρ x=.slice (some ⟨b,o,none⟩) n c)(ey:ev ρ y=.slice (some ⟨b',o',none⟩) m xc)(hi:L[i]?=some (bx b T l))(hl:news.length=min m n)(h1:(news.all (·.oneCell'))=true)
  (hx:∀j u,news[j]?=some u→HC d (Ls++L++L) ⟨b',o'+j,none⟩ u) (ho:o+news.length≤l.length) (k:gws P pan Qn s Ls (put ρ t (vZ ((min m n:Nat):Int))) d (L.set i (bx b T (patch l o news)))):
  gws P pan Qn (.op false ⟨t,none,.mop (.cpy 1 x y)⟩ s) Ls ρ d L:=by
 refine⟨d,L,Vs.refl d L,?_⟩
 simp only[gop,gi,mi]
 exact⟨_,n,c,_,m,xc,news,ex,ey,by simpa using hl,h1,(fun q=>by cases q),fun a' ha j u hu=>by cases ha;rw[Addr.add_lit];exact hx j u hu,.inr ⟨i,b,o,T,l,Z,hi,ho,_,_,Vs.refl _ _,k⟩⟩
end
section
variable {P:Program}{pan:List PanicEntry→AP}{Qn:Env→AP}{Ls L:List Aa}{ρ:Env}{d:Aa}{s:GS}{t:Nat}
def YN{by_:Nat}{z y}(i:Nat){b o n c b' o' m xc:Nat}{T l news}(ex:ev ρ x=.slice (some ⟨b,o,none⟩) n c)(ey:ev ρ y=.slice (some ⟨b',o',none⟩) m xc)(hi:L[i]?=some (bx b T l))(hl:news.length=m)(h1:(news.all (·.oneCell'))=true)
  (hx:∀j u,news[j]?=some u→HC d (Ls++L++L) ⟨b',o'+j,none⟩ u) (hle:n+m≤c) (hc:c≤9223372036854775807) (ho:o+(n+m)≤l.length) (k:gws P pan Qn s Ls (upd ρ t (.slice (some ⟨b,o,none⟩) (n+m) c)) d (L.set i (bx b T (patch l (o+n) news)))):
  gws P pan Qn (.op false ⟨some t,none,.app 1 by_ z x y⟩ s) Ls ρ d L:=by
 refine⟨d,L,Vs.refl d L,?_⟩
 simp only[gop,gi,maxLen,Aho]
 exact⟨_,n,c,_,m,xc,news,ex,ey,hl,h1,(fun q=>by cases q),fun a' ha j u hu=>by cases ha;rw[Addr.add_lit];exact hx j u hu,by omega,hc,fun _=>.inr ⟨i,b,o,T,l,Z,hi,ho,_,_,Vs.refl _ _,k⟩,fun q=>by omega⟩
end
end
end Go.Gk
end
section
namespace Go.Gk
open Go
attribute [local irreducible] gwp gws
variable{α:Type}{i n:Nat}{cs:List Value}
def Ai.one{R d v}{xs:List α}{h}:Ai 1 R d v xs h↔∃cs,Cf 1 v xs.length cs h∧∀i (hi:i<xs.length) u,cs[i]?=some u→R d [u] xs[i]:=by
 constructor
 ·rintro⟨cs,h1,h2⟩;refine⟨cs,h1,fun i hi u hu=>?_⟩
  have:=h2 i hi;unfold chunk at this;rw[Aho,Afy (by have:=h1.1;omega),Akm,List.take_zero] at this;obtain⟨hlt,rfl⟩:=Afp.1 hu;exact this
 ·rintro⟨cs,h1,h2⟩;refine⟨cs,h1,fun i hi=>?_⟩
  have hl:i<cs.length:=by have:=h1.1;omega
  unfold chunk;rw[Aho,Afy hl,Akm,List.take_zero];exact h2 i hi cs[i] (Afc hl)
def Cv{α}(xs:List α)(i:Nat)(y:α):List α:=xs.take i++y::xs.drop i
def FX{xs:List α}{y:α}(h:i≤xs.length):(Cv xs i y).length=xs.length+1:=by unfold Cv;simp;omega
def NC{xs:List α}{j:Nat}{y:α}(h:i≤xs.length):(Cv xs i y)[j]?=if j<i then xs[j]? else if j=i then some y else xs[j - 1]?:=by
 unfold Cv;by_cases h1:j<i
 ·rw[if_pos h1,Agx (by simp;omega),Ahh,if_pos h1]
 ·rw[if_neg h1,Ahb (by simp;omega)];have hl:(xs.take i).length=i:=by simp;omega
  rw[hl];by_cases h2:j=i
  ·subst h2;simp
  ·rw[if_neg h2];obtain⟨m,hm⟩:∃m,j - i=m+1:=⟨j - i - 1,by omega⟩
   rw[hm,List.getElem?_cons_succ,Aha];congr 1;omega
def Cf.ins{c b:Nat}{T l u}(hc:cs.length=n)(hn:n+1≤140737488355328)(hi:i≤n)(h3:n+1≤c)(h4:c≤9223372036854775807)(h5:c≤l.length)(h6:∀j,j<n+1→l[j]?=(Cv cs i u)[j]?):
  Cf 1 (.slice (some ⟨b,0,none⟩) (n+1) c) (n+1) (Cv cs i u) (bx b T l):=by
 have hil:(Cv cs i u).length=n+1:=by rw[FX (by omega),hc]
 refine Cf.mk (by rw[hil];omega) hn h3 h4 (by omega) ?_
 apply Aio
 intro j
 rw[hil,Ahh]
 by_cases hj:j<n+1
 ·rw[if_pos hj,h6 j hj]
 ·rw[if_neg hj,Ago (by omega)]
def Ai.ins{R d v}{xs:List α}{h u}{y:α}(hi:i≤xs.length)(hcl:cs.length=xs.length)(h1:Cf 1 v (xs.length+1) (Cv cs i u) h)(h2:∀i (hi:i<xs.length) u,cs[i]?=some u→R d [u] xs[i])(h3:R d [u] y):Ai 1 R d v (Cv xs i y) h:=by
 rw[Ai.one];refine⟨Cv cs i u,by rw[FX hi];exact h1,fun j hj w hw=>?_⟩
 have hx:(Cv xs i y)[j]?=some (Cv xs i y)[j]:=Afc hj;rw[NC (by omega)] at hw;rw[NC hi] at hx;rw[FX hi] at hj;by_cases q1:j<i
 ·rw[if_pos q1] at hw hx;have:=h2 j (by omega) w hw;rw[Afc (by omega)] at hx;rw[←Option.some.inj hx];exact this
 ·rw[if_neg q1] at hw hx;by_cases q2:j=i
  ·rw[if_pos q2] at hw hx;rw[←Option.some.inj hx,←Option.some.inj hw];exact h3
  ·rw[if_neg q2] at hw hx;have:=h2 (j - 1) (by omega) w hw;rw[Afc (by omega)] at hx;rw[←Option.some.inj hx];exact this
def HN{p:Value→Bool}(h:cs.all p=true):(cs.drop i).all p=true:=by
 rw[Afs] at h⊢;exact fun x hx=>h x (Ajk hx)
def SZ{l u}(hc:cs.length=n)(hi:i<n)(hl:n+1≤l.length)(h:∀j,j<i→l[j]?=cs[j]?)(j:Nat)(hj:j<n+1):(patch (patch l (0+i) [u]) (0+(i+1)) (cs.drop i))[j]?=(Cv cs i u)[j]?:=by
 have e1:(patch l (0+i) [u]).length=l.length:=BC (by simp;omega);rw[Da (by rw[e1,Afo];omega),Da (by simp;omega),NC (by omega),Afo];by_cases q1:j<i
 ·rw[if_pos q1,if_neg (by omega),if_neg (by simp;omega),h j q1]
 ·rw[if_neg q1];by_cases q2:j=i
  ·subst q2;rw[if_pos Z,if_neg (by omega),if_pos (by simp)];simp
  ·rw[if_neg q2,if_pos (by omega),Aha];congr 1;omega
def Tw{l u}(hc:cs.length=n)(hi:i<n)(hl:n+1≤l.length)(h:∀j,j<n→l[j]?=cs[j]?)(j:Nat)(hj:j<n+1):(patch (patch l (0+(i+1)) (cs.drop i)) (0+i) [u])[j]?=(Cv cs i u)[j]?:=by
 have e1:(patch l (0+(i+1)) (cs.drop i)).length=l.length:=BC (by rw[Afo];omega);rw[Da (by rw[e1];simp;omega),Da (by rw[Afo];omega),NC (by omega),Afo];by_cases q1:j<i
 ·rw[if_pos q1,if_neg (by simp;omega),if_neg (by omega),h j (by omega)]
 ·rw[if_neg q1];by_cases q2:j=i
  ·subst q2;rw[if_pos Z,if_pos (by simp)];simp
  ·rw[if_neg q2,if_neg (by simp;omega),if_pos (by omega),Aha];congr 1;omega
def KJ{α}(R:Aa→List Value→α→Prop)(P:Program)(f:FuncId):Prop:=∀{d v}{xs:List α}{h}{i b:Nat}{T u}{y:α},Ai 1 R d v xs h→i≤xs.length→xs.length≤1000000000000→R d [u] y→F1 R→
 Ao P f [v,vZ i,.slice (some ⟨b,0,none⟩) 1 1] d [bx b T [u],h] (Ret fun r d' L'=>d'=d∧∃h',L'=[h']∧Ai 1 R d r (Cv xs i y) h')
def Iq(a0:Nat):A9:=⟨95,[(.tmp 6)],(sR (o1 6 (.mv nS) .done) (sR (om 10 0<|om 11 1<|o1 12 (.sl 1 10 (some 11) none none) .done) (sR (om 13 2<|oL 14 13<|om 7 14 .done) (.seq (sR (om 15 7<|ob 16 .eql 15 z0 .done) (.cond 16 (sR (om 17 0<|om 6 17 .done) .ret) .skip)) (sR (om 18 0<|oL 19 18<|om 8 19 .done) (.seq (sR (om 20 1<|om 21 8<|ob 22 .eql 20 21 .done) (.cond 22 (sR (om 23 0<|om 24 2<|o1 25 (.app 1 24 [nV] 23 24)<|om 6 25 .done) .ret) .skip)) (.seq (sR (om 26 8<|om 27 7<|ob 28 .add 26 27<|om 29 0<|o1 30 (.cap 29)<|ob 31 .gtr 28 30 .done) (.cond 31 (sR (om 32 0<|om 33 1<|o1 34 (.sl 1 32 none (some 33) none)<|om 35 8<|om 36 7<|ob 37 .add 35 36<|om 38 1<|ob 39 .sub 37 38<|o1 40 (.mop (.zap 1 24 [nV] 34 39))<|om 9 40 .done) (sR (om 41 9<|om 42 1<|o1 43 (.sl 1 41 (some 42) none none)<|om 44 2<|o1 45 (.mop (.cpy 1 43 44)) .done) (.seq (.reg true (pm 46 9<|pm 47 1<|pm 48 7<|p1 49 (.bin .add 47 48)<|p1 50 (.sl 1 46 (some 49) none none)<|pm 51 0<|pm 52 1<|p1 53 (.sl 1 51 (some 52) none none)<|o1 54 (.mop (.cpy 1 50 53)) .done)) (sR (om 55 9<|om 6 55 .done) .ret)))) .skip)) (sR (om 56 0<|om 57 8<|om 58 7<|ob 59 .add 57 58<|o1 60 (.sl 1 56 none (some 59) none)<|om 0 60 .done) (.seq (sR (om 61 2<|om 62 0<|om 63 1<|om 64 7<|ob 65 .add 63 64<|o1 66 (.sl 1 62 (some 65) none none)<|o1 67 (.mop (.ovl 61 66))<|o1 68 (.un .not 67) .done) (.cond 68 (.seq (.reg true (pm 69 0<|pm 70 1<|pm 71 7<|p1 72 (.bin .add 70 71)<|p1 73 (.sl 1 69 (some 72) none none)<|pm 74 0<|pm 75 1<|p1 76 (.sl 1 74 (some 75) none none)<|o1 77 (.mop (.cpy 1 73 76)) .done)) (sR (om 78 0<|om 79 1<|o1 80 (.sl 1 78 (some 79) none none)<|om 81 2<|o1 82 (.mop (.cpy 1 80 81)) .done) (sR (om 83 0<|om 6 83 .done) .ret))) .skip)) (sR (om 84 0<|om 85 8<|o1 86 (.sl 1 84 (some 85) none none)<|om 87 2<|o1 88 (.mop (.cpy 1 86 87)) .done) (sR (om 89 0<|om 90 1<|o1 91 (.sl 1 89 (some 90) none none)<|om 92 7<|oc 93 a0 [91,92] .done) (sR (om 94 0<|om 6 94 .done) .ret))))))))))))⟩
def Sn{P f f1}(hd:dec P f=some (Iq f1)):KJ RBs P f:=by
 intro d v xs h i b T u y ho hi hxl hy hC;refine Dp hd (Aff Z) ?_;have ho':=ho;rw[Ai.one] at ho';obtain⟨cs,h1,h2⟩:=ho';have hcl:cs.length=xs.length:=by have:=h1.1;omega
 obtain⟨va,vc,rfl⟩:=ho.val;show gwp P _ _ _ _ _;obtain⟨-,h3,⟨hn1,hn2,rfl⟩|⟨b1,T1,l,c,hn1,rfl,h4,h5,h6,h7⟩⟩:=h1
 ·simp only[Value.slice.injEq] at hn1;obtain⟨rfl, -,rfl⟩:=hn1;obtain rfl:=Afl hn2;obtain rfl:i=0:=by simpa using hi
  refine Br Z<|Bo<|Ae Z<|Ab Z<|w_q Z (v:=nV) ⟨none,0,0,0,0,0,Z,fun q=>absurd Z q,Z,Z⟩<|Bo<|Ae Z<|AA Z<|AR Z<|Ab Z<|AI Z Z<|AT Z<|Br Z<|AA Z<|AR Z<|Ab Z<|Ab Z<|AI Z Z<|A5 Z<|Br Z<|Ae Z<|D4 (R:=RBs) 0 Z Z ho Z (Ai.EL (x:=y) Z hy) hC (by omega) (by simp) (by simp) (fun v' h' ho'=>?_);refine AK<|BJ<|Ed [v'] ⟨Z,trivial⟩ (Afa _) ⟨Z,h',Z,ho'⟩
 ·cases hn1;have hcu:(cs.all (·.oneCell'))=true:=by
   rw[Afs];intro x hx;obtain⟨j,hj,rfl⟩:=Ahe hx;have:=hC _ _ _ (h2 j (by omega) _ (Afc hj));simpa using this
  have hl7:∀j,j<xs.length→l[j]?=cs[j]?:=fun j hj=>by
   rw[←h7,Ahh,if_pos (by omega)]
  refine Br Z<|Bo<|Ae Z<|Ab Z<|Du (l:=i) (h:=xs.length) (m:=vc) Z (Dn Z Z hi) (fun o1 _=>?_);(refine Bo<|Ae Z<|AA Z<|AR Z<|Ab Z<|AI Z Z<|AT Z<|Br Z<|AA Z<|AR Z<|Ab Z<|Ab Z<|AI Z Z<|An ?_);by_cases e:i=xs.length
  ·subst e;refine B2 Z<|Br Z<|Ae Z<|D4 (R:=RBs) 0 Z Z ho Z (Ai.EL (x:=y) Z hy) hC (by omega) (by simp;omega) (by simp;omega) (fun v' h' ho'=>?_);refine AK<|BJ<|Ed [v'] ⟨Z,trivial⟩ (Afa _) ⟨Z,h',Z,by rw[Cv,Agz,Aig];exact ho'⟩
  ·by_cases hc:vc<xs.length+1
   ·refine BM Z<|AH<|AZ<|Ab Z<|Ab Z<|A4 Z Z<|Ae Z<|SE Z<|Bu Z Z<|A5 Z<|Br Z<|Ab Z<|Du (l:=0) (h:=i) (m:=vc) Z (Kz Z Z (by omega)) (fun o2 ho2=>?_);obtain rfl:o2=0:=by rw[ho2 (by omega)]
    refine Ab Z<|Ab Z<|A4 Z Z<|Ab Z<|DT Z Z<|AbS (m:=xs.length+1 - i) (CV:=cs.take i) Z Z (by omega) (by omega) (by omega) (by omega) (by rw[Aft];omega) (fun j w hw=>?_) (fun b2 T2 c' h8 h9=>?_)
    ·rw[Ahh] at hw;by_cases q:j<i
     ·rw[if_pos q,←hl7 j (by omega)] at hw;exact AG 1 Z (by rw[Ahg];exact hw)
     ·rw[if_neg q] at hw;cases hw
    rw[show i - 0+(xs.length+1 - i)=xs.length+1 by omega] at h8⊢;have hl2:(cs.take i++BD [nV] (c' - (i - 0))).length=c':=by rw[Afk,Aft];simp[BD];omega
    obtain⟨l2,hl2e⟩:∃l2,l2=cs.take i++BD [nV] (c' - (i - 0)):=⟨_,Z⟩
    have hl2t:∀j,j<i→l2[j]?=cs[j]?:=fun j hj=>by
     rw[hl2e,Agx (by rw[Aft];omega),Ahh,if_pos hj]
    rw[←hl2e] at hl2⊢;refine Ae Z<|Bo<|Ae Z<|Ab Z<|Du (l:=i) (h:=xs.length+1) (m:=c') Z (Dn Z Z (by omega)) (fun o3 ho3=>?_);obtain rfl:o3=0+i:=ho3 (by omega);(apply Ae;rfl);refine H6 0 (news:=[u]) Z Z Z (by simp;omega) (by simpa using hC _ _ _ hy) (fun j w hw=>?_) (by simp;omega) ?_
    ·obtain rfl:j=0:=by
      have:=(Afp.1 hw).1;simpa using this
     exact AG 1 Z hw
    refine By<|BE [] [bx b2 T2 (patch l2 (0+i) [u]),bx b T [u],bx b1 T1 l] Z<|Ae Z<|Ab Z<|Ab Z<|A4 Z Z<|Du (l:=i+1) (h:=xs.length+1) (m:=c') Z (Dn Z Z (by omega)) (fun o4 ho4=>?_);obtain rfl:o4=0+(i+1):=ho4 (by omega);refine Ae Z<|Ab Z<|Du (l:=i) (h:=xs.length) (m:=vc) Z (Dn Z Z (by omega)) (fun o5 ho5=>?_);obtain rfl:o5=0+i:=ho5 (by omega);skip;refine H6 0 (news:=cs.drop i) Z Z Z (by rw[Afo];omega) (HN hcu) (fun j w hw=>?_) (by rw[BC (by simp;omega),Afo];omega) ?_
    ·rw[Aha] at hw;have:=(Afp.1 hw).1;exact AG 2 Z (by rw[Ahg,hl7 _ (by omega)];exact hw)
    refine Bo<|Ae Z<|Ae Z<|BJ<|Ed [.slice (some ⟨b2,0,none⟩) (xs.length+1) c'] ⟨Z,trivial⟩ (L':=[bx b2 T2 (patch (patch l2 (0+i) [u]) (0+(i+1)) (cs.drop i))]) (Ahj _ (Agp _)) ⟨Z,_,Z,Ai.ins hi hcl (Cf.ins hcl (by omega) hi h8 h9 ?_ ?_) h2 hy⟩
    ·rw[BC (by rw[BC (by simp;omega),Afo];omega),BC (by simp;omega)];omega
    ·exact SZ hcl (by omega) (by omega) hl2t
   ·have hlne:l≠[]:=by intro q;rw[q] at h6;simp at h6;omega
    refine BM Z<|AH<|AZ<|Ab Z<|Ab Z<|A4 Z Z<|Ae Z<|SE Z<|Bu Z Z<|AT Z<|Br Z<|Ab Z<|Ab Z<|A4 Z Z<|Du (l:=0) (h:=xs.length+1) (m:=vc) Z (Kz Z (by omega) (by omega)) (fun o2 ho2=>?_);obtain rfl:o2=0:=by rw[ho2 (by omega)]
    refine Ae Z<|BG<|Ae Z<|Ae Z<|Ab Z<|Ab Z<|A4 Z Z<|Du (l:=i+1) (h:=xs.length+1 - 0) (m:=vc - 0) Z (Dn Z (by omega) (by omega)) (fun o3 ho3=>?_);skip;refine Abu 0 1 Z Z (by decide) Z Z hlne<|Bm Z<|B7 Z<|Aw<|BE [] [bx b T [u],bx b1 T1 l] Z<|Ae Z<|Ab Z<|Ab Z<|A4 Z Z<|Du (l:=i+1) (h:=xs.length+1 - 0) (m:=vc - 0) Z (Dn Z (by omega) (by omega)) (fun o4 ho4=>?_);obtain rfl:o4=0+(i+1):=ho4 (by omega);refine Ae Z<|Ab Z<|Du (l:=i) (h:=xs.length+1 - 0) (m:=vc - 0) Z (Dn Z (by omega) (by omega)) (fun o5 ho5=>?_);obtain rfl:o5=0+i:=ho5 (by omega);skip;refine H6 1 (news:=cs.drop i) Z Z Z (by rw[Afo];omega) (HN hcu) (fun j w hw=>?_) (by rw[Afo];omega) ?_
    ·rw[Aha] at hw;have:=(Afp.1 hw).1;exact AG 1 Z (by rw[Ahg,hl7 _ (by omega)];exact hw)
    refine Bo<|Ae Z<|Ab Z<|Du (l:=i) (h:=xs.length+1 - 0) (m:=vc - 0) Z (Dn Z (by omega) (by omega)) (fun o6 ho6=>?_);obtain rfl:o6=0+i:=ho6 (by omega);(apply Ae;rfl);refine H6 1 (news:=[u]) Z Z Z (by simp;omega) (by simpa using hC _ _ _ hy) (fun j w hw=>?_) (by rw[BC (by rw[Afo];omega)];simp;omega) ?_
    ·obtain rfl:j=0:=by
      have:=(Afp.1 hw).1;simpa using this
     exact AG 0 Z hw
    refine Bo<|Ae Z<|Ae Z<|BJ<|Ed [.slice (some ⟨b1,0,none⟩) (xs.length+1 - 0) (vc - 0)] ⟨Z,trivial⟩ (L':=[bx b1 T1 (patch (patch l (0+(i+1)) (cs.drop i)) (0+i) [u])]) (List.Sublist.cons _ (Afa _)) ⟨Z,_,Z,Ai.ins hi hcl (Cf.ins hcl (by omega) hi (by omega) (by omega) ?_ ?_) h2 hy⟩
    ·rw[BC (by rw[BC (by rw[Afo];omega)];simp;omega),BC (by rw[Afo];omega)];omega
    ·exact Tw hcl (by omega) (by omega) hl7
def Jw(a0:Nat):A9:=⟨95,[(.tmp 6)],(sR (o1 6 (.mv nS) .done) (sR (om 10 0<|om 11 1<|o1 12 (.sl 1 10 (some 11) none none) .done) (sR (om 13 2<|oL 14 13<|om 7 14 .done) (.seq (sR (om 15 7<|ob 16 .eql 15 z0 .done) (.cond 16 (sR (om 17 0<|om 6 17 .done) .ret) .skip)) (sR (om 18 0<|oL 19 18<|om 8 19 .done) (.seq (sR (om 20 1<|om 21 8<|ob 22 .eql 20 21 .done) (.cond 22 (sR (om 23 0<|om 24 2<|o1 25 (.app 1 8 [(vZ 0)] 23 24)<|om 6 25 .done) .ret) .skip)) (.seq (sR (om 26 8<|om 27 7<|ob 28 .add 26 27<|om 29 0<|o1 30 (.cap 29)<|ob 31 .gtr 28 30 .done) (.cond 31 (sR (om 32 0<|om 33 1<|o1 34 (.sl 1 32 none (some 33) none)<|om 35 8<|om 36 7<|ob 37 .add 35 36<|om 38 1<|ob 39 .sub 37 38<|o1 40 (.mop (.zap 1 8 [(vZ 0)] 34 39))<|om 9 40 .done) (sR (om 41 9<|om 42 1<|o1 43 (.sl 1 41 (some 42) none none)<|om 44 2<|o1 45 (.mop (.cpy 1 43 44)) .done) (.seq (.reg true (pm 46 9<|pm 47 1<|pm 48 7<|p1 49 (.bin .add 47 48)<|p1 50 (.sl 1 46 (some 49) none none)<|pm 51 0<|pm 52 1<|p1 53 (.sl 1 51 (some 52) none none)<|o1 54 (.mop (.cpy 1 50 53)) .done)) (sR (om 55 9<|om 6 55 .done) .ret)))) .skip)) (sR (om 56 0<|om 57 8<|om 58 7<|ob 59 .add 57 58<|o1 60 (.sl 1 56 none (some 59) none)<|om 0 60 .done) (.seq (sR (om 61 2<|om 62 0<|om 63 1<|om 64 7<|ob 65 .add 63 64<|o1 66 (.sl 1 62 (some 65) none none)<|o1 67 (.mop (.ovl 61 66))<|o1 68 (.un .not 67) .done) (.cond 68 (.seq (.reg true (pm 69 0<|pm 70 1<|pm 71 7<|p1 72 (.bin .add 70 71)<|p1 73 (.sl 1 69 (some 72) none none)<|pm 74 0<|pm 75 1<|p1 76 (.sl 1 74 (some 75) none none)<|o1 77 (.mop (.cpy 1 73 76)) .done)) (sR (om 78 0<|om 79 1<|o1 80 (.sl 1 78 (some 79) none none)<|om 81 2<|o1 82 (.mop (.cpy 1 80 81)) .done) (sR (om 83 0<|om 6 83 .done) .ret))) .skip)) (sR (om 84 0<|om 85 8<|o1 86 (.sl 1 84 (some 85) none none)<|om 87 2<|o1 88 (.mop (.cpy 1 86 87)) .done) (sR (om 89 0<|om 90 1<|o1 91 (.sl 1 89 (some 90) none none)<|om 92 7<|oc 93 a0 [91,92] .done) (sR (om 94 0<|om 6 94 .done) .ret))))))))))))⟩
def Vo{P f f1}(hd:dec P f=some (Jw f1)):KJ Bh P f:=by
 intro d v xs h i b T u y ho hi hxl hy hC;refine Dp hd (Aff Z) ?_;have ho':=ho;rw[Ai.one] at ho';obtain⟨cs,h1,h2⟩:=ho';have hcl:cs.length=xs.length:=by have:=h1.1;omega
 obtain⟨va,vc,rfl⟩:=ho.val;show gwp P _ _ _ _ _;obtain⟨-,h3,⟨hn1,hn2,rfl⟩|⟨b1,T1,l,c,hn1,rfl,h4,h5,h6,h7⟩⟩:=h1
 ·simp only[Value.slice.injEq] at hn1;obtain⟨rfl, -,rfl⟩:=hn1;obtain rfl:=Afl hn2;obtain rfl:i=0:=by simpa using hi
  refine Br Z<|Bo<|Ae Z<|Ab Z<|w_q Z (v:=nV) ⟨none,0,0,0,0,0,Z,fun q=>absurd Z q,Z,Z⟩<|Bo<|Ae Z<|AA Z<|AR Z<|Ab Z<|AI Z Z<|AT Z<|Br Z<|AA Z<|AR Z<|Ab Z<|Ab Z<|AI Z Z<|A5 Z<|Br Z<|Ae Z<|D4 (R:=Bh) 0 Z Z ho Z (Ai.EL (x:=y) Z hy) hC (by omega) (by simp) (by simp) (fun v' h' ho'=>?_);refine AK<|BJ<|Ed [v'] ⟨Z,trivial⟩ (Afa _) ⟨Z,h',Z,ho'⟩
 ·cases hn1;have hcu:(cs.all (·.oneCell'))=true:=by
   rw[Afs];intro x hx;obtain⟨j,hj,rfl⟩:=Ahe hx;have:=hC _ _ _ (h2 j (by omega) _ (Afc hj));simpa using this
  have hl7:∀j,j<xs.length→l[j]?=cs[j]?:=fun j hj=>by
   rw[←h7,Ahh,if_pos (by omega)]
  refine Br Z<|Bo<|Ae Z<|Ab Z<|Du (l:=i) (h:=xs.length) (m:=vc) Z (Dn Z Z hi) (fun o1 _=>?_);(refine Bo<|Ae Z<|AA Z<|AR Z<|Ab Z<|AI Z Z<|AT Z<|Br Z<|AA Z<|AR Z<|Ab Z<|Ab Z<|AI Z Z<|An ?_);by_cases e:i=xs.length
  ·subst e;refine B2 Z<|Br Z<|Ae Z<|D4 (R:=Bh) 0 Z Z ho Z (Ai.EL (x:=y) Z hy) hC (by omega) (by simp;omega) (by simp;omega) (fun v' h' ho'=>?_);refine AK<|BJ<|Ed [v'] ⟨Z,trivial⟩ (Afa _) ⟨Z,h',Z,by rw[Cv,Agz,Aig];exact ho'⟩
  ·by_cases hc:vc<xs.length+1
   ·refine BM Z<|AH<|AZ<|Ab Z<|Ab Z<|A4 Z Z<|Ae Z<|SE Z<|Bu Z Z<|A5 Z<|Br Z<|Ab Z<|Du (l:=0) (h:=i) (m:=vc) Z (Kz Z Z (by omega)) (fun o2 ho2=>?_);obtain rfl:o2=0:=by rw[ho2 (by omega)]
    refine Ab Z<|Ab Z<|A4 Z Z<|Ab Z<|DT Z Z<|AbS (m:=xs.length+1 - i) (CV:=cs.take i) Z Z (by omega) (by omega) (by omega) (by omega) (by rw[Aft];omega) (fun j w hw=>?_) (fun b2 T2 c' h8 h9=>?_)
    ·rw[Ahh] at hw;by_cases q:j<i
     ·rw[if_pos q,←hl7 j (by omega)] at hw;exact AG 1 Z (by rw[Ahg];exact hw)
     ·rw[if_neg q] at hw;cases hw
    rw[show i - 0+(xs.length+1 - i)=xs.length+1 by omega] at h8⊢;have hl2:(cs.take i++BD [vZ 0] (c' - (i - 0))).length=c':=by rw[Afk,Aft];simp[BD];omega
    obtain⟨l2,hl2e⟩:∃l2,l2=cs.take i++BD [vZ 0] (c' - (i - 0)):=⟨_,Z⟩
    have hl2t:∀j,j<i→l2[j]?=cs[j]?:=fun j hj=>by
     rw[hl2e,Agx (by rw[Aft];omega),Ahh,if_pos hj]
    rw[←hl2e] at hl2⊢;refine Ae Z<|Bo<|Ae Z<|Ab Z<|Du (l:=i) (h:=xs.length+1) (m:=c') Z (Dn Z Z (by omega)) (fun o3 ho3=>?_);obtain rfl:o3=0+i:=ho3 (by omega);(apply Ae;rfl);refine H6 0 (news:=[u]) Z Z Z (by simp;omega) (by simpa using hC _ _ _ hy) (fun j w hw=>?_) (by simp;omega) ?_
    ·obtain rfl:j=0:=by
      have:=(Afp.1 hw).1;simpa using this
     exact AG 1 Z hw
    refine By<|BE [] [bx b2 T2 (patch l2 (0+i) [u]),bx b T [u],bx b1 T1 l] Z<|Ae Z<|Ab Z<|Ab Z<|A4 Z Z<|Du (l:=i+1) (h:=xs.length+1) (m:=c') Z (Dn Z Z (by omega)) (fun o4 ho4=>?_);obtain rfl:o4=0+(i+1):=ho4 (by omega);refine Ae Z<|Ab Z<|Du (l:=i) (h:=xs.length) (m:=vc) Z (Dn Z Z (by omega)) (fun o5 ho5=>?_);obtain rfl:o5=0+i:=ho5 (by omega);skip;refine H6 0 (news:=cs.drop i) Z Z Z (by rw[Afo];omega) (HN hcu) (fun j w hw=>?_) (by rw[BC (by simp;omega),Afo];omega) ?_
    ·rw[Aha] at hw;have:=(Afp.1 hw).1;exact AG 2 Z (by rw[Ahg,hl7 _ (by omega)];exact hw)
    refine Bo<|Ae Z<|Ae Z<|BJ<|Ed [.slice (some ⟨b2,0,none⟩) (xs.length+1) c'] ⟨Z,trivial⟩ (L':=[bx b2 T2 (patch (patch l2 (0+i) [u]) (0+(i+1)) (cs.drop i))]) (Ahj _ (Agp _)) ⟨Z,_,Z,Ai.ins hi hcl (Cf.ins hcl (by omega) hi h8 h9 ?_ ?_) h2 hy⟩
    ·rw[BC (by rw[BC (by simp;omega),Afo];omega),BC (by simp;omega)];omega
    ·exact SZ hcl (by omega) (by omega) hl2t
   ·have hlne:l≠[]:=by intro q;rw[q] at h6;simp at h6;omega
    refine BM Z<|AH<|AZ<|Ab Z<|Ab Z<|A4 Z Z<|Ae Z<|SE Z<|Bu Z Z<|AT Z<|Br Z<|Ab Z<|Ab Z<|A4 Z Z<|Du (l:=0) (h:=xs.length+1) (m:=vc) Z (Kz Z (by omega) (by omega)) (fun o2 ho2=>?_);obtain rfl:o2=0:=by rw[ho2 (by omega)]
    refine Ae Z<|BG<|Ae Z<|Ae Z<|Ab Z<|Ab Z<|A4 Z Z<|Du (l:=i+1) (h:=xs.length+1 - 0) (m:=vc - 0) Z (Dn Z (by omega) (by omega)) (fun o3 ho3=>?_);skip;refine Abu 0 1 Z Z (by decide) Z Z hlne<|Bm Z<|B7 Z<|Aw<|BE [] [bx b T [u],bx b1 T1 l] Z<|Ae Z<|Ab Z<|Ab Z<|A4 Z Z<|Du (l:=i+1) (h:=xs.length+1 - 0) (m:=vc - 0) Z (Dn Z (by omega) (by omega)) (fun o4 ho4=>?_);obtain rfl:o4=0+(i+1):=ho4 (by omega);refine Ae Z<|Ab Z<|Du (l:=i) (h:=xs.length+1 - 0) (m:=vc - 0) Z (Dn Z (by omega) (by omega)) (fun o5 ho5=>?_);obtain rfl:o5=0+i:=ho5 (by omega);skip;refine H6 1 (news:=cs.drop i) Z Z Z (by rw[Afo];omega) (HN hcu) (fun j w hw=>?_) (by rw[Afo];omega) ?_
    ·rw[Aha] at hw;have:=(Afp.1 hw).1;exact AG 1 Z (by rw[Ahg,hl7 _ (by omega)];exact hw)
    refine Bo<|Ae Z<|Ab Z<|Du (l:=i) (h:=xs.length+1 - 0) (m:=vc - 0) Z (Dn Z (by omega) (by omega)) (fun o6 ho6=>?_);obtain rfl:o6=0+i:=ho6 (by omega);(apply Ae;rfl);refine H6 1 (news:=[u]) Z Z Z (by simp;omega) (by simpa using hC _ _ _ hy) (fun j w hw=>?_) (by rw[BC (by rw[Afo];omega)];simp;omega) ?_
    ·obtain rfl:j=0:=by
      have:=(Afp.1 hw).1;simpa using this
     exact AG 0 Z hw
    refine Bo<|Ae Z<|Ae Z<|BJ<|Ed [.slice (some ⟨b1,0,none⟩) (xs.length+1 - 0) (vc - 0)] ⟨Z,trivial⟩ (L':=[bx b1 T1 (patch (patch l (0+(i+1)) (cs.drop i)) (0+i) [u])]) (List.Sublist.cons _ (Afa _)) ⟨Z,_,Z,Ai.ins hi hcl (Cf.ins hcl (by omega) hi (by omega) (by omega) ?_ ?_) h2 hy⟩
    ·rw[BC (by rw[BC (by rw[Afo];omega)];simp;omega),BC (by rw[Afo];omega)];omega
    ·exact Tw hcl (by omega) (by omega) hl7
def Ll{α}(R:Aa→List Value→α→Prop)(P:Program)(f:FuncId):Prop:=∀{d v}{xs:List α}{h}{i:Nat}{j:Int},Ai 1 R d v xs h→i<xs.length→j=((i+1:Nat):Int)→xs.length≤1000000000000→F1 R→
 Ao P f [v,vZ i,vZ j] d [h] (Ret fun r d' L'=>d'=d∧∃h',L'=[h']∧Ai 1 R d r (xs.eraseIdx i) h')
def Ai.del{α:Type}{R:Aa→List Value→α→Prop}{d:Aa}{xs:List α}{cs l:List Value}{b c:Nat}{T:TypeId}{i:Nat}(hi:i<xs.length)(hcl:cs.length=xs.length)(hn:xs.length≤140737488355328)(h3:xs.length≤c)(h4:c≤9223372036854775807)(h5:c≤l.length)
  (h6:∀j,j<xs.length - 1→l[j]?=(cs.eraseIdx i)[j]?) (h2:∀i (hi:i<xs.length) u,cs[i]?=some u→R d [u] xs[i]):Ai 1 R d (.slice (some ⟨b,0,none⟩) (xs.length - 1) c) (xs.eraseIdx i) (bx b T l):=by
 have hel:(xs.eraseIdx i).length=xs.length - 1:=by rw[List.length_eraseIdx,if_pos hi]
 have hcl':(cs.eraseIdx i).length=xs.length - 1:=by rw[List.length_eraseIdx,if_pos (by omega),hcl]
 have ho:Cf 1 (.slice (some ⟨b,0,none⟩) (xs.length - 1) c) (xs.length - 1) (cs.eraseIdx i) (bx b T l):=by
  refine Cf.mk (by rw[hcl'];omega) (by omega) (by omega) h4 (by omega) ?_;apply Aio;intro j;rw[hcl',Ahh];by_cases hj:j<xs.length - 1
  ·rw[if_pos hj,h6 j hj]
  ·rw[if_neg hj,Ago (by omega)]
 rw[Ai.one]
 refine⟨cs.eraseIdx i,by rw[hel];exact ho,fun j hj u hu=>?_⟩
 ·have hx:(xs.eraseIdx i)[j]?=some (xs.eraseIdx i)[j]:=Afc (by omega)
  rw[List.getElem?_eraseIdx] at hu hx
  by_cases q:j<i
  ·rw[if_pos q] at hu hx
   rw[Afc (by omega)] at hx
   rw[←Option.some.inj hx];exact h2 j (by omega) u hu
  ·rw[if_neg q] at hu hx
   rw[Afc (by omega)] at hx
   rw[←Option.some.inj hx];exact h2 (j+1) (by omega) u hu
def TQ{l z}(hc:cs.length=n)(hi:i<n)(hl:n≤l.length)(h:∀j,j<n→l[j]?=cs[j]?)(j:Nat)(hj:j<n - 1):(patch (patch l (0+i) (cs.drop (i+1))) (n - 1) (BD z 1))[j]?=(cs.eraseIdx i)[j]?:=by
 have e1:(patch l (0+i) (cs.drop (i+1))).length=l.length:=BC (by rw[Afo];omega);have e2:(BD z 1).length=1:=by simp[BD]
 rw[Da (by rw[e1,e2];omega),if_neg (by omega),Da (by rw[Afo];omega),Afo,List.getElem?_eraseIdx];by_cases q:j<i
 ·rw[if_pos q,if_neg (by omega),h j (by omega)]
 ·rw[if_neg q,if_pos (by omega),Aha];congr 1;omega
def IB:A9:=⟨33,[(.tmp 6)],(sR (o1 6 (.mv nS) .done) (sR (om 8 0<|om 9 1<|om 10 2<|om 11 0<|oL 12 11<|o1 13 (.sl 1 8 (some 9) (some 10) (some 12)) .done) (.seq (sR (om 14 1<|om 15 2<|ob 16 .eql 14 15 .done) (.cond 16 (sR (om 17 0<|om 6 17 .done) .ret) .skip)) (sR (om 18 0<|oL 19 18<|om 7 19 .done) (.seq (.reg true (pm 20 0<|pm 21 1<|p1 22 (.sl 1 20 none (some 21) none)<|pm 23 0<|pm 24 2<|p1 25 (.sl 1 23 (some 24) none none)<|o1 26 (.app 1 24 [nV] 22 25) (.bar (pm 0 26 .done)))) (sR (om 27 0<|om 28 0<|oL 29 28<|om 30 7<|o1 31 (.sl 1 27 (some 29) (some 30) none)<|o0 (.mop (.clz 1 [nV] 31)) .done) (sR (om 32 0<|om 6 32 .done) .ret)))))))⟩
def Sk{P f}(hd:dec P f=some IB):Ll RBs P f:=by
 intro d v xs h i jj ho hi hjj hxl hC;refine Dp hd (Aff Z) ?_;have ho':=ho;rw[Ai.one] at ho';obtain⟨cs,h1,h2⟩:=ho';have hcl:cs.length=xs.length:=by have:=h1.1;omega
 obtain⟨va,vc,rfl⟩:=ho.val;show gwp P _ _ _ _ _;obtain⟨-,h3,⟨hn1,hn2,rfl⟩|⟨b1,T1,l,c,hn1,rfl,h4,h5,h6,h7⟩⟩:=h1
 ·omega
 ·cases hn1;have hcu:(cs.all (·.oneCell'))=true:=by
   rw[Afs];intro x hx;obtain⟨j,hj,rfl⟩:=Ahe hx;have:=hC _ _ _ (h2 j (by omega) _ (Afc hj));simpa using this
  have hl7:∀j,j<xs.length→l[j]?=cs[j]?:=fun j hj=>by
   rw[←h7,Ahh,if_pos (by omega)]
  refine Br Z<|Bo<|Ae Z<|Ab Z<|Ab Z<|Ae Z<|AA Z<|Du (l:=i) (h:=i+1) (m:=xs.length) Z (VC Z Z Z Z hjj Z (by omega) (by omega) (by omega)) (fun o1 _=>?_);refine BG<|Ab Z<|Ab Z<|AI Z Z<|AT Z<|Br Z<|AA Z<|AU Z<|Aw<|BE [] [bx b1 T1 l] Z<|Ae Z<|Ab Z<|Du (l:=0) (h:=i) (m:=vc) Z (Kz Z Z (by omega)) (fun o2 ho2=>?_);obtain rfl:o2=0:=by rw[ho2 (by omega)]
  refine Ae Z<|Ab Z<|Du (l:=i+1) (h:=xs.length) (m:=vc) Z (Dn Z hjj (by omega)) (fun o3 ho3=>?_);skip;refine YN 0 (news:=cs.drop (i+1)) Z Z Z (by rw[Afo,hcl]) (HN hcu) (fun j w hw=>?_) (by omega) (by omega) (by omega) ?_
  ·rw[Aha] at hw;have:=(Afp.1 hw).1;obtain rfl:o3=0+(i+1):=ho3 (by omega);exact AG 0 Z (by rw[Ahg,hl7 _ (by omega)];exact hw)
  rw[show i - 0+(xs.length - (i+1))=xs.length - 1 by omega,show 0+(i - 0)=0+i by omega];refine Cw<|Ae Z<|Bo<|Ae Z<|Ae Z<|AA Z<|Ab Z<|Du (l:=xs.length - 1) (h:=xs.length) (m:=vc - 0) Z (VT Z Z Z Z (by omega) (by omega)) (fun o4 ho4=>?_);obtain rfl:o4=0+(xs.length - 1):=ho4 (by omega);rw[show xs.length - (xs.length - 1)=1 by omega];refine AbD Z (.inr ⟨0,b1,_,T1,_,Z,Z,by rw[BC (by rw[Afo];omega)];omega,?_⟩);refine Bo<|Ae Z<|Ae Z<|BJ<|Ed [.slice (some ⟨b1,0,none⟩) (xs.length - 1) (vc - 0)] ⟨Z,trivial⟩ (Afa _) ⟨Z,_,Z,Ai.del hi hcl h3 (by omega) (by omega) ?_ ?_ h2⟩
  ·rw[BC (by rw[BC (by rw[Afo];omega)];simp[BD];omega),BC (by rw[Afo];omega)];omega
  ·rw[show 0+(xs.length - 1)=xs.length - 1 by omega];exact TQ hcl hi (by omega) hl7
def Jx:A9:=⟨33,[(.tmp 6)],(sR (o1 6 (.mv nS) .done) (sR (om 8 0<|om 9 1<|om 10 2<|om 11 0<|oL 12 11<|o1 13 (.sl 1 8 (some 9) (some 10) (some 12)) .done) (.seq (sR (om 14 1<|om 15 2<|ob 16 .eql 14 15 .done) (.cond 16 (sR (om 17 0<|om 6 17 .done) .ret) .skip)) (sR (om 18 0<|oL 19 18<|om 7 19 .done) (.seq (.reg true (pm 20 0<|pm 21 1<|p1 22 (.sl 1 20 none (some 21) none)<|pm 23 0<|pm 24 2<|p1 25 (.sl 1 23 (some 24) none none)<|o1 26 (.app 1 8 [(vZ 0)] 22 25) (.bar (pm 0 26 .done)))) (sR (om 27 0<|om 28 0<|oL 29 28<|om 30 7<|o1 31 (.sl 1 27 (some 29) (some 30) none)<|o0 (.mop (.clz 1 [(vZ 0)] 31)) .done) (sR (om 32 0<|om 6 32 .done) .ret)))))))⟩
def Vx{P f}(hd:dec P f=some Jx):Ll Bh P f:=by
 intro d v xs h i jj ho hi hjj hxl hC;refine Dp hd (Aff Z) ?_;have ho':=ho;rw[Ai.one] at ho';obtain⟨cs,h1,h2⟩:=ho';have hcl:cs.length=xs.length:=by have:=h1.1;omega
 obtain⟨va,vc,rfl⟩:=ho.val;show gwp P _ _ _ _ _;obtain⟨-,h3,⟨hn1,hn2,rfl⟩|⟨b1,T1,l,c,hn1,rfl,h4,h5,h6,h7⟩⟩:=h1
 ·omega
 ·cases hn1;have hcu:(cs.all (·.oneCell'))=true:=by
   rw[Afs];intro x hx;obtain⟨j,hj,rfl⟩:=Ahe hx;have:=hC _ _ _ (h2 j (by omega) _ (Afc hj));simpa using this
  have hl7:∀j,j<xs.length→l[j]?=cs[j]?:=fun j hj=>by
   rw[←h7,Ahh,if_pos (by omega)]
  refine Br Z<|Bo<|Ae Z<|Ab Z<|Ab Z<|Ae Z<|AA Z<|Du (l:=i) (h:=i+1) (m:=xs.length) Z (VC Z Z Z Z hjj Z (by omega) (by omega) (by omega)) (fun o1 _=>?_);refine BG<|Ab Z<|Ab Z<|AI Z Z<|AT Z<|Br Z<|AA Z<|AU Z<|Aw<|BE [] [bx b1 T1 l] Z<|Ae Z<|Ab Z<|Du (l:=0) (h:=i) (m:=vc) Z (Kz Z Z (by omega)) (fun o2 ho2=>?_);obtain rfl:o2=0:=by rw[ho2 (by omega)]
  refine Ae Z<|Ab Z<|Du (l:=i+1) (h:=xs.length) (m:=vc) Z (Dn Z hjj (by omega)) (fun o3 ho3=>?_);skip;refine YN 0 (news:=cs.drop (i+1)) Z Z Z (by rw[Afo,hcl]) (HN hcu) (fun j w hw=>?_) (by omega) (by omega) (by omega) ?_
  ·rw[Aha] at hw;have:=(Afp.1 hw).1;obtain rfl:o3=0+(i+1):=ho3 (by omega);exact AG 0 Z (by rw[Ahg,hl7 _ (by omega)];exact hw)
  rw[show i - 0+(xs.length - (i+1))=xs.length - 1 by omega,show 0+(i - 0)=0+i by omega];refine Cw<|Ae Z<|Bo<|Ae Z<|Ae Z<|AA Z<|Ab Z<|Du (l:=xs.length - 1) (h:=xs.length) (m:=vc - 0) Z (VT Z Z Z Z (by omega) (by omega)) (fun o4 ho4=>?_);obtain rfl:o4=0+(xs.length - 1):=ho4 (by omega);rw[show xs.length - (xs.length - 1)=1 by omega];refine AbD Z (.inr ⟨0,b1,_,T1,_,Z,Z,by rw[BC (by rw[Afo];omega)];omega,?_⟩);refine Bo<|Ae Z<|Ae Z<|BJ<|Ed [.slice (some ⟨b1,0,none⟩) (xs.length - 1) (vc - 0)] ⟨Z,trivial⟩ (Afa _) ⟨Z,_,Z,Ai.del hi hcl h3 (by omega) (by omega) ?_ ?_ h2⟩
  ·rw[BC (by rw[BC (by rw[Afo];omega)];simp[BD];omega),BC (by rw[Afo];omega)];omega
  ·rw[show 0+(xs.length - 1)=xs.length - 1 by omega];exact TQ hcl hi (by omega) hl7
end Go.Gk
end
section
namespace Go.Gk
def Vs.app{d d' L L'}(h:Vs d L d' L')(M:List Aa):Vs d (L++M) d' (L'++M):=
 ⟨h.1,fun F W x=>by rw[Afg] at x⊢;exact h.2 (M++F) W x⟩
section
variable {P:Program}{pan:List PanicEntry→AP}{Qn:Env→AP}{Ls L:List Aa}{ρ:Env}{d:Aa}{s:GS}{t:Nat}
def A0{f args R vs A}(l:List Aa)(hc:Ao P f vs d A (Ret R))(hL:L=l++A)(ea:args.map (ev ρ)=vs)
  (h:∀v d' L',Le d d'→R v d' L'→gws P pan Qn s Ls (upd ρ t v) d' (l++L')):gws P pan Qn (.op false ⟨some t,none,.call f args⟩ s) Ls ρ d L:=by
 subst hL
 refine DO hc Afi ea (fun v d' L' hl hr=>⟨d',l++L',Vs.perm Afi,h v d' L' hl hr⟩)
def B9{f args vs v A}(l:List Aa)(hc:Ea P f vs d A v)(hL:L=l++A)(ea:args.map (ev ρ)=vs)(h:gws P pan Qn s Ls (upd ρ t v) d L):
  gws P pan Qn (.op false ⟨some t,none,.call f args⟩ s) Ls ρ d L:=
 A0 l hc hL ea (fun r d' L' _ ⟨h1,h2,h3⟩=>by subst h1;subst h2;subst h3;rw[←hL];exact h)
end
end Go.Gk
namespace Go.Gk.Tre
open Go Go.Gk Go.Gk.Dev Go.Gk.Cch Go.Gk.Pgr Go.Gk.Chn Go.Gk.Node
def Es(d:Aa)(cs:List Value)(n:AB)(hk hv hi:Aa):Prop:=∃kv vv iv,cs=[.bool n.leaf,kv,vv,iv]∧Ai 1 RBs d kv n.keys hk∧Ai 1 RBs d vv n.vals hv∧Ai 1 Bh d iv n.kids hi
def Es.mono{d d' cs}{n:AB}{hk hv hi}(h:Es d cs n hk hv hi)(hl:Le d d'):Es d' cs n hk hv hi:=
 let ⟨kv,vv,iv,e,a,b,c⟩:=h;⟨kv,vv,iv,e,a.DY hl,b.DY hl,c.JJ hl⟩
def Es.zero{d}:Es d [.bool false,nV,nV,nV] IA emp emp emp:=⟨_,_,_,Z,Ai.nil,Ai.nil,Ai.nil⟩
def Es.JR{d d1 cs}{n:AB}{hk hv hi}(o:Es d cs n hk hv hi)(hl:Le d d1)(h1:Le hk d1)(h2:Le hv d1)(h3:Le hi d1):Cz d1 cs n:=by
 obtain⟨kv,vv,iv,rfl,a,b,c⟩:=o;exact⟨kv,vv,iv,Z,a.rsl CY (by omega) hl h1,b.rsl CY (by omega) hl h2,c.rsl Ck (by omega) hl h3⟩
def OB.grow{d d1:Aa}{v:Value}{xs:List (List UInt8)}{us:List Value}{h0:Aa}{hs:List Aa}(h1:Cf 1 v xs.length us h0)(h2:∀i (hi:i<xs.length),∃u g,us[i]?=some u∧hs[i]?=some g∧Ai 1 Ax d u xs[i] g)(hl:Le d d1)(hL:∀h∈hs,Le h d1):Ai 1 RBs d1 v xs h0:=by
 rw[Ai.one];refine⟨us,h1,fun i hi u hu=>?_⟩
 obtain⟨u',g,k1,k2,k3⟩:=h2 i hi;rw[hu] at k1;cases k1;exact⟨u,Z,k3.rsl AF (by omega) hl (hL _ (Ahr k2))⟩
def Ej.AbI{d cs}{n:AB}{L}(o:Ej d cs n L):∃d' hk hv hi,Vs d L d' [hk,hv,hi]∧Le d d'∧Es d' cs n hk hv hi:=by
 obtain⟨kv,vv,iv,Lk,Lv,hi,rfl,⟨us,h0,hs,a1,a2,a3,rfl⟩,⟨us',h0',hs',b1,b2,b3,rfl⟩,c,rfl⟩:=o;obtain⟨d',v1,v2,v3⟩:=Vs.Ii d (hs++hs');refine⟨d',h0,h0',hi,?_,v2,kv,vv,iv,Z,OB.grow a1 a3 v2 (fun h hm=>v3 h (Aga _ hm)),OB.grow b1 b3 v2 (fun h hm=>v3 h (List.mem_append_right _ hm)),c.JJ v2⟩
 have p:(h0::hs++(h0'::hs')++[hi]).Perm ((hs++hs')++[h0,h0',hi]):=by
  have e1:(h0::hs++(h0'::hs')++[hi])=h0::(hs++h0'::(hs'++[hi])):=by simp
  rw[e1];refine List.Perm.trans (Afm h0 (List.perm_middle)) ?_;have e2:(hs++hs')++[h0,h0',hi]=(hs++hs')++(h0::([h0']++[hi])):=Z;rw[e2];refine List.Perm.trans ?_ List.perm_middle.symm;refine Afm h0 ?_;rw[show(hs++hs')++([h0']++[hi])=(hs++hs')++(h0'::[hi]) from Z];refine List.Perm.trans ?_ List.perm_middle.symm;rw[Afg]
 exact(Vs.perm p).trans (v1.app [h0,h0',hi])
def PgT(d:Aa)(s:PD)(dv pv:Value)(L:List Aa):Prop:=∃tc,Pg d {s with tc:=tc} dv pv L
def PgT.mono{d d' s dv pv L}(h:PgT d s dv pv L)(hl:Le d d'):PgT d' s dv pv L:=let ⟨tc,h⟩:=h;⟨tc,h.mono hl⟩
def PgT.of{d s dv pv L}(h:Pg d s dv pv L):PgT d s dv pv L:=⟨s.tc,h⟩
def PgT.ptr{d s dv pv L}(h:PgT d s dv pv L):∃b,pv=pZ b:=let ⟨_,h⟩:=h;h.ptr
def PgT.Fc{d s dv pv L}(h:PgT d s dv pv L):Pgr.Good s:=by
 obtain⟨tc,h⟩:=h;have g:=h.Fc;exact⟨g.one,g.len,g.inn,g.syn,g.kd⟩
def PgT.full{d s dv pv L}(h:PgT d s dv pv L){k:Int}(hk:BB s k):(s.bytes k).length=256:=by
 obtain⟨tc,h⟩:=h;exact h.full (s:={s with tc:=tc}) hk
abbrev tb(bt:Nat)(Tt:TypeId)(pv:Value)(r h c:Int):Aa:=bx bt Tt [pv,.int .i64 r,.int .i64 h,.int .i64 c]
end Go.Gk.Tre
end
section
namespace Go.Gk.Tre
open Go Go.Gk Go.Gk.Dev Go.Gk.Cch Go.Gk.Pgr Go.Gk.Chn Go.Gk.Node
def Ev(b:List UInt8):AB:=(Node.BU b).getD IA
def Ht(b:List UInt8):Int:=if (Node.BU b).isSome then 0 else 200
def Bw(s:PD)(k:Int):AB×Int:=if BB s k then(Ev (s.bytes k),Ht (s.bytes k)) else(IA,240)
def AM(s:PD)(k:Int)(h:Int):AB×Int:=((Bw s k).1,if (Bw s k).2=0∧(Bw s k).1.leaf≠decide (h=1) then 200 else(Bw s k).2)
def Fh(c:List UInt8):Bool:=decide (c.length=7)&& decide (c.getD 0 0=1)
def EX(c:List UInt8):Nat:=(c.getD 1 0).toNat*256+(c.getD 2 0).toNat
def Ec(c:List UInt8):Nat:=(((c.getD 3 0).toNat*256+(c.getD 4 0).toNat)*256+(c.getD 5 0).toNat)*256+(c.getD 6 0).toNat
def inB(c:List UInt8):Bool:=decide (0<c.length)&& decide (c.getD 0 0=0)
def CP(s:PD)(c:List UInt8):List UInt8×Int:=if inB c then(c.drop 1,0) else if Fh c then(Chn.BU s (EX c) (Ec c)).2 else([],200)
def bI(x:Int):UInt8:=UInt8.ofNat (x % 256).toNat
def Ge(h n:Int):List UInt8:=[1,bI (h / 256),bI h,bI (n / 16777216),bI (n / 65536),bI (n / 256),bI n]
def Cb(s:PD)(v:List UInt8):PD×List UInt8×Int:=if v.length≤15 then(s,0::v,0) else((B0 s v).1,Ge (B0 s v).2.1 v.length,(B0 s v).2.2)
def Ci(s:PD)(c:List UInt8):PD×Int:=if inB c then(s,0) else if Fh c then Eu s (EX c) (Ec c) else(s,200)
structure MdD where
 page:Int
 other:Int
 key:List UInt8
 size:Int
def CO:MdD:=⟨0,0,[],0⟩
def Bg(s:PD)(page:Int)(n:AB):PD×Int×Int:=
 if Bt n then
  if 0≤page∧(s.put page (Cq n)).2≠240 then((s.put page (Cq n)).1,page,(s.put page (Cq n)).2)
  else if s.AX.2.2≠0 then(s.AX.1,0,s.AX.2.2)
  else if 0≤page then
   if (s.AX.1.drop page).2≠0 then((s.AX.1.drop page).1,0,(s.AX.1.drop page).2)
   else(((s.AX.1.drop page).1.put s.AX.2.1 (Cq n)).1,s.AX.2.1,((s.AX.1.drop page).1.put s.AX.2.1 (Cq n)).2)
  else((s.AX.1.put s.AX.2.1 (Cq n)).1,s.AX.2.1,(s.AX.1.put s.AX.2.1 (Cq n)).2)
 else(s,0,200)
def Bp(s:PD)(page:Int)(n:AB):PD×MdD×Int:=
 if Bt n then((Bg s page n).1,⟨(Bg s page n).2.1, -1,[],Bf n⟩,(Bg s page n).2.2)
 else if DP n then
  let a:=Bg s page (Ba n)
  if a.2.2=0 then let b:=Bg a.1 (-1) (Bi n);(b.1,⟨a.2.1,b.2.1,B4 n,256⟩,b.2.2)
  else(a.1,CO,a.2.2)
 else(s,CO,200)
def CS(s:PD)(page:Int)(n:AB)(i:Nat)(m:MdD):PD×MdD×Int:=
 if n.kids.getD i 0=m.page∧m.other<0 then(s,⟨page, -1,[],Bf n⟩,0)
 else if 0≤m.other then Bp s page {n with keys:=Cv n.keys i m.key,kids:=Cv (n.kids.set i m.page) (i+1) m.other}
 else Bp s page {n with kids:=n.kids.set i m.page}
def Cu(s:PD)(page:Int)(key cell:List UInt8):Nat→PD×MdD×Bool×Int
 |0=>(s,CO,false,200)
 |h+1=>
  let r:=AM s page (h+1:Nat)
  if r.2≠0 then(s,CO,false,r.2) else
  let i:=(findD r.1 key).1
  if h=0 then
   if (findD r.1 key).2 then
    let u:=Ci s (r.1.vals.getD i [])
    if u.2≠0 then(u.1,CO,false,u.2) else
    let w:=Bp u.1 page {r.1 with vals:=r.1.vals.set i cell}
    (w.1,w.2.1,false,w.2.2)
   else
    let w:=Bp s page {r.1 with keys:=Cv r.1.keys i key,vals:=Cv r.1.vals i cell}
    (w.1,w.2.1,true,w.2.2)
  else
   let u:=Cu s (r.1.kids.getD i 0) key cell h
   if u.2.2.2≠0 then(u.1,CO,false,u.2.2.2) else
   let w:=CS u.1 page r.1 i u.2.1
   (w.1,w.2.1,u.2.2.1,w.2.2)
def Eh(s:PD)(page:Int)(n:AB)(i0:Nat):PD×MdD×Int:=
 if n.keys.length=0 then(s,CO,99999) else
 let i:=if i0=n.keys.length then i0 - 1 else i0
 let a:=Bw s (n.kids.getD i 0)
 if a.2≠0 then(s,CO,a.2) else
 let b:=Bw s (n.kids.getD (i+1) 0)
 if b.2≠0 then(s,CO,b.2) else
 if a.1.leaf≠b.1.leaf then(s,CO,200) else
 let w:=Bp s (n.kids.getD i 0) (CM a.1 b.1 (n.keys.getD i []))
 if w.2.2≠0 then(w.1,CO,w.2.2) else
 let u:=w.1.drop (n.kids.getD (i+1) 0)
 if u.2≠0 then(u.1,CO,u.2) else
 if 0≤w.2.1.other then Bp u.1 page {n with keys:=n.keys.set i w.2.1.key,kids:=(n.kids.set i w.2.1.page).set (i+1) w.2.1.other}
 else Bp u.1 page {n with keys:=n.keys.eraseIdx i,kids:=(n.kids.set i w.2.1.page).eraseIdx (i+1)}
def Cm(s:PD)(page:Int)(key:List UInt8):Nat→PD×MdD×Bool×Int
 |0=>(s,CO,false,200)
 |h+1=>
  let r:=AM s page (h+1:Nat)
  if r.2≠0 then(s,CO,false,r.2) else
  let i:=(findD r.1 key).1
  if h=0 then
   if (findD r.1 key).2 then
    let u:=Ci s (r.1.vals.getD i [])
    if u.2≠0 then(u.1,CO,false,u.2) else
    let w:=Bp u.1 page {r.1 with keys:=r.1.keys.eraseIdx i,vals:=r.1.vals.eraseIdx i}
    (w.1,w.2.1,true,w.2.2)
   else(s,⟨page, -1,[],256⟩,false,0)
  else
   let u:=Cm s (r.1.kids.getD i 0) key h
   if u.2.2.2≠0∨u.2.2.1=false then(u.1,⟨page, -1,[],256⟩,u.2.2.1,u.2.2.2) else
   let w:=if u.2.1.other<0∧u.2.1.size<80 then Eh u.1 page {r.1 with kids:=r.1.kids.set i u.2.1.page} i else CS u.1 page r.1 i u.2.1
   (w.1,w.2.1,true,w.2.2)
structure TD where
 s:PD
 root:Int
 height:Nat
 count:Nat
def Dg(t:TD)(m:MdD):TD×Int:=
 if m.other<0 then({t with root:=m.page},0)
 else
  let k:=Bg t.s (-1) ⟨false,[m.key],[],[m.page,m.other]⟩
  ({t with s:=k.1,root:=k.2.1,height:=t.height+1},k.2.2)
def El(t:TD):TD×Int:=
 let r:=Bw t.s t.root
 if r.2≠0∨r.1.keys≠[] then(t,r.2) else
 let u:=t.s.drop t.root
 if u.2≠0 then({t with s:=u.1},u.2) else
 ({t with s:=u.1,root:=if r.1.leaf then -1 else r.1.kids.getD 0 0,height:=t.height - 1},0)
def Df(t:TD)(key value:List UInt8):TD×Int:=
 let c:=Cb t.s value
 if c.2.2≠0 then({t with s:=c.1},c.2.2) else
 if t.height=0 then
  let k:=Bg c.1 (-1) ⟨true,[key],[c.2.1],[]⟩
  (⟨k.1,k.2.1,1,1⟩,k.2.2)
 else
  let u:=Cu c.1 t.root key c.2.1 t.height
  if u.2.2.2≠0 then({t with s:=u.1},u.2.2.2) else
  Dg {t with s:=u.1,count:=t.count+(if u.2.2.1 then 1 else 0)} u.2.1
def Ch(t:TD)(key:List UInt8):TD×Bool×Int:=
 if t.height=0 then(t,false,0) else
 let u:=Cm t.s t.root key t.height
 if u.2.2.2≠0∨u.2.2.1=false then({t with s:=u.1},false,u.2.2.2) else
 let g:=Dg {t with s:=u.1,count:=t.count - 1} u.2.1
 if g.2≠0 then(g.1,true,g.2) else
 ((El g.1).1,true,(El g.1).2)
def CL(t:TD)(r:TD)(e:Int):TD:=if e=0 then r else{t with s:=r.s.back t.s.mark}
def FB(s:PD)(key:List UInt8):Int→Nat→List UInt8×Bool×Int
 |_,0=>([],false,0)
 |page,h+1=>
  let r:=AM s page (h+1:Nat)
  if r.2≠0 then([],false,r.2) else
  if h=0 then
   if (findD r.1 key).2 then((CP s (r.1.vals.getD (findD r.1 key).1 [])).1,decide ((CP s (r.1.vals.getD (findD r.1 key).1 [])).2=0),(CP s (r.1.vals.getD (findD r.1 key).1 [])).2)
   else([],false,0)
  else FB s key (r.1.kids.getD (findD r.1 key).1 0) h
def Eo(c:List UInt8):Nat:=if inB c then 0 else AN (Ec c)
def HQ(s:PD)(key:List UInt8):Int→Nat→Nat
 |_,0=>0
 |page,h+1=>
  let r:=AM s page (h+1:Nat)
  if h=0 then(if (findD r.1 key).2 then 1+Eo (r.1.vals.getD (findD r.1 key).1 []) else 1)
  else 1+HQ s key (r.1.kids.getD (findD r.1 key).1 0) h
def Cl(key:List UInt8):Int:=if key.length<1∨64<key.length then 2 else 0
end Go.Gk.Tre
end
section
namespace Go.Gk.Chn
open Go Go.Gk Go.Gk.Dev Go.Gk.Cch Go.Gk.Pgr
variable{s s0 t:PD}{i:Nat}{x k:Int}{l:List Int}{b:List UInt8}
structure Tk (s0 s:PD) (l:List Int):Prop where
 frm:s.frm=s0.frm
 syn:s.syn=s0.syn
 round:s.round=s0.round
 len:s.kinds.length=s0.kinds.length
 kd:∀j,j<s0.kinds.length→s.kd j=if ((s0.frm+j:Nat):Int)∈l then 1 else s0.kd j
 was:∀k∈l,∃j,j<s0.kinds.length∧k=((s0.frm+j:Nat):Int)∧s0.kd j=0
 nd:l.Nodup
 fb:∀j,((s0.frm+j:Nat):Int)∉l→s.fb j=s0.fb j
 free:s.free+l.length=s0.free
def Tk.nil(s:PD):Tk s s []:=⟨Z,Z,Z,Z,fun j _=>(by simp),fun k hk=>(by cases hk),List.nodup_nil,fun _ _=>Z,Z⟩
def O2(hi:i<s.kinds.length):(s.kinds.set i x).countP (·==0)+(if s.kinds[i]=0 then 1 else 0)=s.free+(if x=0 then 1 else 0):=by
 rw[List.countP_set hi];have hp:s.kinds[i]=0→0<s.free:=fun h=>List.countP_pos_iff.2 ⟨_,Agb hi,by simp[h]⟩;have hf:s.free=s.kinds.countP (·==0):=Z;rw[hf] at hp⊢;by_cases h0:s.kinds[i]=0
 ·have:=hp h0;by_cases hx:x=0
  ·simp[h0,hx];omega
  ·simp[h0,hx];omega
 ·by_cases hx:x=0
  ·simp[h0,hx]
  ·simp[h0,hx]
def Vh(h:DJ 0 l=none):l.countP (·==0)=0:=by
 rw[List.countP_eq_zero];intro a ha e;have:a=0:=by simpa using e
 subst this;clear e;induction l with
 |nil=>cases ha
 |cons y l ih=>
  rw[DJ] at h
  split at h
  ·cases h
  ·rename_i hne
   rcases Afv.1 ha with rfl|ha
   ·exact hne Z
   ·exact ih (by cases q:DJ 0 l with|none=>rfl|some j=>rw[q] at h;cases h) ha
def Tk.take(h:Tk s0 s l):(s.AX.2.2=0∧Tk s0 s.AX.1 (l++[s.AX.2.1]))∨(s.AX.2.2=190∧s.AX.1=s∧s.free=0):=by
 unfold PD.AX;cases hq:DJ 0 s.kinds with
 |none=>exact .inr ⟨Z,Z,Vh hq⟩
 |some i=>
  obtain⟨hi,h0⟩:=GW hq
  refine .inl ⟨Z,?_⟩
  show Tk s0 (s.Ik i) (l++[((s.frm+i:Nat):Int)])
  have hi0:i<s0.kinds.length:=by rw[←h.len];exact hi
  have hnot:((s0.frm+i:Nat):Int)∉l:=fun hm=>by
   have:=h.kd i hi0;rw[if_pos hm,J9 hi,h0] at this;cases this
  have h00:s0.kd i=0:=by
   have:=h.kd i hi0;rw[if_neg hnot,J9 hi,h0] at this;exact this.symm
  rw[h.frm]
  refine⟨h.frm,h.syn,h.round,by simp[PD.Ik,h.len],fun j hj=>?_,fun k hk=>?_,?_,fun j hj=>?_,?_⟩
  ·show(s.kinds.set i 1).getD j 0=_
   rw[DK hi]
   by_cases e:j=i
   ·subst e;rw[if_pos Z,if_pos (by simp)]
   ·rw[if_neg e,show s.kinds.getD j 0=s.kd j from Z,h.kd j hj]
    by_cases hm:((s0.frm+j:Nat):Int)∈l
    ·rw[if_pos hm,if_pos (Aga _ hm)]
    ·rw[if_neg hm,if_neg]
     intro hm'
     rcases Afj.1 hm' with q|q
     ·exact hm q
     ·have:=Afz.1 q;omega
  ·rcases Afj.1 hk with q|q
   ·exact h.was k q
   ·exact⟨i,hi0,Afz.1 q,h00⟩
  ·refine List.nodup_append.2 ⟨h.nd,by simp,fun a ha b hb=>?_⟩
   rw[Afz.1 hb]
   exact fun e=>hnot (e▸ha)
  ·show E7 s.fb i J0 j=s0.fb j
   have hne:j≠i:=fun e=>hj (by rw[e];simp)
   rw[E7,if_neg hne]
   exact h.fb j (fun q=>hj (Aga _ q))
  ·have hf:=O2 (s:=s) (i:=i) (x:=1) hi
   rw[if_pos h0,if_neg (by decide)] at hf
   have:=h.free
   show(s.kinds.set i 1).countP (·==0)+(l++[_]).length=s0.free
   rw[Afk,Aie]
   omega
def KT:∀{n:Nat}{s}{l:List Int},Tk s0 s l→Tk s0 (Cj s l n).1 (Cj s l n).2.1∧(((Cj s l n).2.2=0∧n≤s.free)∨((Cj s l n).2.2=190∧s.free<n))
 |0,s,l,h=>⟨h,.inl ⟨Z,Agd _⟩⟩
 |n+1,s,l,h=>by
  rw[Cj];rcases h.take with ⟨h1,h2⟩|⟨h1,h2,h3⟩
  ·rw[if_pos h1];obtain⟨k1,k2⟩:=KT (n:=n) h2;have hf:=h2.free;have hf0:=h.free;rw[Afk,Aie] at hf;refine⟨k1,?_⟩
   rcases k2 with ⟨k2,k3⟩|⟨k2,k3⟩
   ·exact .inl ⟨k2,by omega⟩
   ·exact .inr ⟨k2,by omega⟩
  ·rw[if_neg (by rw[h1];decide)];simp only;rw[h2];exact⟨h,.inr ⟨h1,by omega⟩⟩
def XI{c}(h0:0≤x)(h1:x<65536):((Hv (Dw x c):Nat):Int)=x:=by
 unfold Hv Dw;simp only[Aid,Ahw,UInt8.toNat_ofNat'];omega
def Zi{c}:((Dw x c).drop (2+c.length)).all (·==0)=true:=by
 unfold Dw;rw[Nat.add_comm 2];show((c++Afu (254 - c.length) 0).drop c.length).all (·==0)=true;rw[Aji];simp
def ZJ{c}:((Dw x c).drop 2).take c.length=c:=by
 unfold Dw;show(c++Afu (254 - c.length) 0).take c.length=c;rw[List.take_left]
structure G0 (s:PD) (b:List UInt8) (l:List Int):Prop where
 len:l.length=AN b.length
 rng:∀k∈l,0≤k∧k<65535
 live:∀j (h:j<l.length),BB s l[j]
 pg:∀j (h:j<l.length),s.bytes l[j]=Dw (l.getD (j+1) 65535) (BV b j)
def JI:(BV b i).length=min 254 (b.length - i*254):=by unfold BV;rw[Aft,Afo]
def Xq:b.take (i*254)++BV b i=b.take ((i+1)*254):=by
 unfold BV;rw[show(i+1)*254=i*254+254 by omega,List.take_add]
def IX(h:i<l.length):l.getD i x=l[i]:=by rw[Afd,Afc h];rfl
def OL(h:l.length≤i):l.getD i x=x:=by rw[Afd,Ago h];rfl
def Oj(h:G0 s b l):∀{m i:Nat},i+m=l.length→Dx s b.length l.length (l.getD i 65535) (l.take i) (b.take (i*254)) m=(l,b,0)
 |0,i,hm=>by
  have hl:=h.len;rw[Dx,Agt (by omega),Agt (by unfold AN at hl;omega)]
 |m+1,i,hm=>by
  have hi:i<l.length:=by omega
  have hl:=h.len;have hb:i*254≤b.length:=Mi (by omega);rw[IX hi,Dx,if_pos (h.live i hi),h.pg i hi];have hnx:0≤l.getD (i+1) 65535∧l.getD (i+1) 65535<65536:=by
   by_cases e:i+1<l.length
   ·rw[IX e];have:=h.rng _ (Agb e);omega
   ·rw[OL (by omega)];decide
  have hlk:=XI (c:=BV b i) hnx.1 hnx.2;have htl:(l.take i).length=i:=by rw[Aft];omega
  have hc:(Hv (Dw (l.getD (i+1) 65535) (BV b i))=65535)=((l.take i).length+1=l.length):=by
   rw[htl];refine propext ⟨fun q=>?_,fun q=>?_⟩
   ·by_cases e:i+1<l.length
    ·rw[IX e] at hlk q;have:=h.rng _ (Agb e);rw[q] at hlk;omega
    ·omega
   ·rw[OL (by omega)] at hlk;rw[OL (by omega)];omega
  rw[if_pos hc];have hbt:(b.take (i*254)).length=i*254:=by rw[Aft];omega
  have hmn:min 254 (b.length - (b.take (i*254)).length)=(BV b i).length:=by rw[hbt,JI]
  rw[hmn,Zi,if_pos Z,ZJ,Xq,hlk,show l.take i++[l[i]]=l.take (i+1) from(Afw hi).symm];exact Oj h (by omega)
def RQ{n:Nat}:1≤AN n:=by unfold AN;omega
def J1(h:G0 s b l)(hb:b.length≤16384):BU s (l.getD 0 0) b.length=(l,b,0):=by
 unfold BU;rw[if_pos (by omega),Int.toNat_natCast,←h.len];have h0:0<l.length:=by rw[h.len];exact RQ
 have:=Oj h (m:=l.length) (i:=0) (by omega);rw[IX h0] at this⊢;simpa using this
def JD{b:Sec}(hk:s.kind k=1)(hb:b.length=256):(s.put k b).1={s with fb:=E7 s.fb (k - s.frm).toNat b}:=by
 unfold PD.put;rw[if_pos hk,if_pos hb]
def Uw{k':Int}{b:Sec}(hk:s.kind k=1)(hb:b.length=256):(s.put k b).1.kind k'=s.kind k':=by rw[JD hk hb];rfl
def M5{k':Int}{b:Sec}(hk:s.kind k=1)(hb:b.length=256):(s.put k b).1.bytes k'=if k'=k then b else s.bytes k':=by
 have hkk:=Uw (k':=k') hk hb;unfold PD.bytes;rw[hkk,JD hk hb];obtain⟨i,i1,rfl,i2,i3⟩:=Dm hk (by omega);by_cases e:k'=((s.frm+i:Nat):Int)
 ·subst e;rw[if_pos hk,if_pos Z];show E7 s.fb _ b _=b;rw[E7,if_pos Z]
 ·rw[if_neg e];by_cases h1:s.kind k'=1
  ·rw[if_pos h1,if_pos h1];obtain⟨j,j1,rfl,j2,j3⟩:=Dm h1 (by omega);show E7 s.fb _ b _=s.fb _;rw[E7,i3,j3,if_neg (fun q=>e (by rw[q]))]
  ·rw[if_neg h1,if_neg h1]
def Gt:(Dw x (BV b i)).length=256:=by
 have:=JI (b:=b) (i:=i);unfold Dw;simp only[Afq,Afk,Agk];omega
def YC(hn:l.Nodup){j:Nat}(hi:i<l.length)(hj:j<l.length)(e:l[i]=l[j]):i=j:=by
 rcases Nat.lt_trichotomy i j with h|h|h
 ·exact absurd e (Ail.1 hn i j hi hj h)
 ·exact h
 ·exact absurd e.symm (Ail.1 hn j i hj hi h)
structure MF (s t:PD):Prop where
 frm:t.frm=s.frm
 kinds:t.kinds=s.kinds
 syn:t.syn=s.syn
 round:t.round=s.round
def MF.refl(s:PD):MF s s:=⟨Z,Z,Z,Z⟩
def MF.kind(h:MF s t)(k:Int):t.kind k=s.kind k:=by unfold PD.kind PD.kd;rw[h.frm,h.kinds]
def MF.free(h:MF s t):t.free=s.free:=by unfold PD.free;rw[h.kinds]
def Wi{t:PD}{l:List Int}{b:List UInt8}(hf:∀k∈l,t.kind k=1)(hn:l.Nodup):∀{i:Nat},i≤l.length→MF t (Dh t l b i)∧
  (∀j (hj:j<l.length),j<i→(Dh t l b i).bytes l[j]=Dw (l.getD (j+1) 65535) (BV b j))∧∀k,k∉l→(Dh t l b i).bytes k=t.bytes k
 |0,_=>⟨MF.refl t,fun j _ h=>absurd h (Aic j),fun _ _=>Z⟩
 |i+1,hi=>by
  obtain⟨h1,h2,h3⟩:=Wi (b:=b) hf hn (i:=i) (by omega);have hi':i<l.length:=by omega
  have hk:(Dh t l b i).kind l[i]=1:=by rw[h1.kind];exact hf _ (Agb hi')
  rw[Dh,IX hi'];refine⟨?_,fun j hj hji=>?_,fun k hkl=>?_⟩
  ·rw[JD hk Gt];exact⟨h1.frm,h1.kinds,h1.syn,h1.round⟩
  ·rw[M5 hk Gt];by_cases e:j=i
   ·subst e;rw[if_pos Z]
   ·rw[if_neg (fun q=>e (YC hn hj hi' q))];exact h2 j hj (by omega)
  ·rw[M5 hk Gt,if_neg (fun(q:k=l[i])=>hkl (by rw[q];exact Agb hi'))];exact h3 k hkl
def Tk.kind(h:Tk s0 s l)(k:Int):s.kind k=if k∈l then 1 else s0.kind k:=by
 unfold PD.kind;rw[h.frm,h.len];by_cases e:(s0.frm:Int)≤k∧k<(s0.frm:Int)+s0.kinds.length
 ·rw[if_pos e,if_pos e,h.kd _ (by omega),show((s0.frm+(k - s0.frm).toNat:Nat):Int)=k by omega]
 ·rw[if_neg e,if_neg e];rw[if_neg];intro hm;obtain⟨j,j1,j2, -⟩:=h.was k hm;omega
def Tk.not(h:Tk s0 s l)(hk:s0.kind k≠0):k∉l:=fun hm=>by
 obtain⟨j,j1,rfl,j3⟩:=h.was k hm;rw[NR j1] at hk;exact hk j3
def Tk.bytes(h:Tk s0 s l)(hk:k∉l):s.bytes k=s0.bytes k:=by
 have hkk:=h.kind k;rw[if_neg hk] at hkk;unfold PD.bytes;rw[hkk,h.syn];by_cases h1:s0.kind k=1
 ·rw[if_pos h1,if_pos h1];obtain⟨j,j1,rfl,j2,j3⟩:=Dm h1 (by omega);rw[h.frm,j3];exact h.fb j hk
 ·rw[if_neg h1,if_neg h1]
def Yj(hG:Pgr.Good s)(hr:AN b.length≤s.free):∃t l,B0 s b=(t,l.getD 0 0,0)∧G0 t b l∧(∀k∈l,t.kind k=1∧s.kind k=0)∧t.free+l.length=s.free∧l.length=AN b.length∧
  (∀k,k∉l→t.kind k=s.kind k∧t.bytes k=s.bytes k)∧l.Nodup:=by
 obtain⟨h1,h2⟩:=KT (n:=AN b.length) (Tk.nil s)
 have hz:(Cj s [] (AN b.length)).2.2=0:=by
  rcases h2 with ⟨q, -⟩|⟨-,q⟩
  ·exact q
  ·omega
 have ht:BF s (AN b.length)=Cj s [] (AN b.length):=by unfold BF;rw[if_pos hz]
 have hlen:(Cj s [] (AN b.length)).2.1.length=AN b.length:=by have:=My hz;simpa using this
 have hc:B0 s b=(Dh (Cj s [] (AN b.length)).1 (Cj s [] (AN b.length)).2.1 b (Cj s [] (AN b.length)).2.1.length,(Cj s [] (AN b.length)).2.1.getD 0 0,0):=by
  unfold B0;rw[ht];simp only[hz,if_true]
 rw[hc]
 generalize (Cj s [] (AN b.length)).1=t at h1
 generalize (Cj s [] (AN b.length)).2.1=l at h1 hlen
 have hf:∀k∈l,t.kind k=1:=fun k hk=>by rw[h1.kind,if_pos hk]
 obtain⟨p1,p2,p3⟩:=Wi (b:=b) hf h1.nd (i:=l.length) (Afe _)
 refine⟨_,l,Z,⟨hlen,fun k hk=>?_,fun j hj=>?_,fun j hj=>p2 j hj hj⟩,fun k hk=>⟨by rw[p1.kind];exact hf k hk,?_⟩,by rw[p1.free];exact h1.free,hlen,fun k hk=>⟨?_,?_⟩,h1.nd⟩
 ·obtain⟨j,j1,rfl, -⟩:=h1.was k hk
  have:=hG.inn
  have:=hG.syn
  omega
 ·exact .inl (by rw[p1.kind];exact hf _ (Agb hj))
 ·obtain⟨j,j1,rfl,j3⟩:=h1.was k hk
  rw[NR j1];exact j3
 ·rw[p1.kind,h1.kind,if_neg hk]
 ·rw[p3 k hk,h1.bytes hk]
def G0.stay(h:G0 s b l)(hs:∀k∈l,t.kind k=s.kind k∧t.bytes k=s.bytes k):G0 t b l:=
 ⟨h.len,h.rng,fun j hj=>by unfold BB;rw[(hs _ (Agb hj)).1];exact h.live j hj,fun j hj=>by rw[(hs _ (Agb hj)).2];exact h.pg j hj⟩
def Lw(hi:i<s.kinds.length)(hk:s.kd i=1):s.drop ((s.frm+i:Nat):Int)=({s with kinds:=s.kinds.set i 0},0):=by
 unfold PD.drop;rw[if_pos (by rw[NR hi];exact hk),show(((s.frm+i:Nat):Int) - s.frm).toNat=i by omega]
def Jz(hi:i<s.kinds.length)(hk:s.kd i=1):(s.drop ((s.frm+i:Nat):Int)).1.kind k=if k=((s.frm+i:Nat):Int) then 0 else s.kind k:=by
 rw[Lw hi hk];by_cases e:k=((s.frm+i:Nat):Int)
 ·subst e;rw[if_pos Z];have:i<({s with kinds:=s.kinds.set i 0}:PD).kinds.length:=by simpa using hi
  rw[show((s.frm+i:Nat):Int)=((({s with kinds:=s.kinds.set i 0}:PD).frm+i:Nat):Int) from Z,NR this];show(s.kinds.set i 0).getD i 0=0;rw[DK hi,if_pos Z]
 ·rw[if_neg e];unfold PD.kind;simp only[List.length_set];by_cases q:(s.frm:Int)≤k∧k<(s.frm:Int)+s.kinds.length
  ·rw[if_pos q,if_pos q];show(s.kinds.set i 0).getD _ 0=s.kinds.getD _ 0;rw[DK hi,if_neg (by omega)]
  ·rw[if_neg q,if_neg q]
def XD(hi:i<s.kinds.length)(hk:s.kd i=1)(e:k≠((s.frm+i:Nat):Int)):(s.drop ((s.frm+i:Nat):Int)).1.bytes k=s.bytes k:=by
 have h:=Jz (k:=k) hi hk;rw[if_neg e] at h;unfold PD.bytes;rw[h,Lw hi hk]
def TW:∀{l:List Int}{s},(∀k∈l,s.kind k=1)→l.Nodup→(D7 s l).free=s.free+l.length∧Ee s l=(D7 s l,0)∧(∀k∈l,(D7 s l).kind k=0)∧∀k,k∉l→(D7 s l).kind k=s.kind k∧(D7 s l).bytes k=s.bytes k
 |[],s,_,_=>⟨Z,Z,fun k h=>(by cases h),fun _ _=>⟨Z,Z⟩⟩
 |k::l,s,hf,hn=>by
  obtain⟨hnk,hn'⟩:=List.nodup_cons.1 hn;obtain⟨i,hi,rfl,hki, -⟩:=Dm (hf k (Afn ..)) (by omega);have hd:=Lw hi hki;have hf':∀k'∈l,(s.drop ((s.frm+i:Nat):Int)).1.kind k'=1:=fun k' hk'=>by
   rw[Jz hi hki,if_neg (fun(q:k'=((s.frm+i:Nat):Int))=>hnk (by rw[←q];exact hk'))];exact hf k' (Afr _ hk')
  obtain⟨h1,h2,h3,h4⟩:=TW hf' hn';have e:D7 s (((s.frm+i:Nat):Int)::l)=D7 (s.drop ((s.frm+i:Nat):Int)).1 l:=by simp[D7]
  have hfr:(s.drop ((s.frm+i:Nat):Int)).1.free=s.free+1:=by
   rw[hd];have:=O2 (s:=s) (i:=i) (x:=0) hi;rw[if_neg (by rw[←J9 hi,hki];decide),if_pos Z] at this;exact this
  rw[e];refine⟨by rw[h1,hfr,Afq];omega,?_,fun k' hk'=>?_,fun k' hk'=>?_⟩
  ·rw[Ee,if_pos (by rw[hd]),h2]
  ·by_cases q:k'∈l
   ·exact h3 k' q
   ·rcases Afv.1 hk' with rfl|hk'
    ·rw[(h4 _ q).1,Jz hi hki,if_pos Z]
    ·exact absurd hk' q
  ·have q1:k'∉l:=fun q=>hk' (Afr _ q);have q2:k'≠((s.frm+i:Nat):Int):=fun q=>hk' (by rw[q];exact Afn ..);obtain⟨j1,j2⟩:=h4 k' q1;exact⟨by rw[j1,Jz hi hki,if_neg q2],by rw[j2,XD hi hki q2]⟩
def Y0(hr:s.free<AN b.length):∃t,B0 s b=(t,0,190)∧t.free=s.free:=by
 obtain⟨h1,h2⟩:=KT (n:=AN b.length) (Tk.nil s);have hz:(Cj s [] (AN b.length)).2.2=190:=by
  rcases h2 with ⟨-,q⟩|⟨q, -⟩
  ·omega
  ·exact q
 have ht:BF s (AN b.length)=(D7 (Cj s [] (AN b.length)).1 (Cj s [] (AN b.length)).2.1,[],190):=by unfold BF;rw[if_neg (by rw[hz];decide),hz]
 refine⟨D7 (Cj s [] (AN b.length)).1 (Cj s [] (AN b.length)).2.1,?_,?_⟩
 ·unfold B0;rw[ht];rfl
 ·obtain⟨q, -⟩:=TW (s:=(Cj s [] (AN b.length)).1) (l:=(Cj s [] (AN b.length)).2.1) (fun k hk=>by rw[h1.kind,if_pos hk]) h1.nd;rw[q];exact h1.free
end Go.Gk.Chn
end
section
namespace Go.Gk.Tre
open Go Go.Gk Go.Gk.Dev Go.Gk.Cch Go.Gk.Pgr Go.Gk.Chn Go.Gk.Node
variable{n:Nat}{k size:Int}
section
abbrev wtc(s:PD)(n:Nat):PD:={s with tc:=n}
def Acg{s}:(wtc s n).kind k=s.kind k:=Z
def XZ{s}{b:Sec}:(wtc s n).put k b=(wtc (s.put k b).1 n,(s.put k b).2):=by
 unfold PD.put;rw[Acg];by_cases h1:s.kind k=1
 ·by_cases h2:b.length=256
  ·simp only[if_pos h1,if_pos h2]
  ·simp only[if_pos h1,if_neg h2]
 ·simp only[if_neg h1]
def V8{s}:(wtc s n).AX=(wtc s.AX.1 n,s.AX.2):=by
 unfold PD.AX;show(match DJ 0 s.kinds with|some i=>_|none=>_)=_;cases DJ 0 s.kinds<;>rfl
def Pe{s}:(wtc s n).drop k=(wtc (s.drop k).1 n,(s.drop k).2):=VY
def Uc:∀{m:Nat}{s}{l:List Int},Cj (wtc s n) l m=(wtc (Cj s l m).1 n,(Cj s l m).2)
 |0,s,l=>rfl
 |m+1,s,l=>by
  rw[Cj,Cj,V8];by_cases h:s.AX.2.2=0
  ·rw[if_pos h,if_pos h];exact Uc
  ·rw[if_neg h,if_neg h]
def TX:∀{l:List Int}{s},D7 (wtc s n) l=wtc (D7 s l) n
 |[],s=>rfl
 |k::l,s=>by
  show D7 ((wtc s n).drop k).1 l=wtc (D7 (s.drop k).1 l) n;rw[Pe];exact TX
def Zd{m:Nat}{s}:Chn.BF (wtc s n) m=(wtc (Chn.BF s m).1 n,(Chn.BF s m).2):=by
 unfold Chn.BF;rw[Uc];by_cases h:(Cj s [] m).2.2=0
 ·rw[if_pos h,if_pos h]
 ·rw[if_neg h,if_neg h,TX]
def Wj{s}{l:List Int}{b}:∀{i:Nat},Chn.Dh (wtc s n) l b i=wtc (Chn.Dh s l b i) n
 |0=>rfl
 |i+1=>by rw[Chn.Dh,Chn.Dh,Wj,XZ]
def Pu{s b}:B0 (wtc s n) b=(wtc (B0 s b).1 n,(B0 s b).2):=by
 unfold B0;rw[Zd];simp only;by_cases h:(Chn.BF s (AN b.length)).2.2=0
 ·rw[if_pos h,if_pos h,Wj]
 ·rw[if_neg h,if_neg h]
def R6:∀{l:List Int}{s},Ee (wtc s n) l=(wtc (Ee s l).1 n,(Ee s l).2)
 |[],s=>rfl
 |k::l,s=>by
  rw[Ee,Ee,Pe];by_cases h:(s.drop k).2=0
  ·rw[if_pos h,if_pos h];exact R6
  ·rw[if_neg h,if_neg h]
def UN{s}:Chn.BU (wtc s n) k size=Chn.BU s k size:=by
 have h:∀{m:Nat}{N:Nat}{z:Nat}{k:Int}{l:List Int}{o},Dx (wtc s n) z N k l o m=Dx s z N k l o m:=by
  intro m;induction m with
  |zero=>intros;rfl
  |succ m ih=>
   intro N z k l o
   rw[Dx,Dx]
   show(if BB s k then if (Hv (s.bytes k)=65535)=(l.length+1=N) then if ((s.bytes k).drop _).all _ then Dx (wtc s n) _ _ _ _ _ _ else _ else _ else _)=_
   simp only[ih]
   rfl
 unfold Chn.BU;simp only[h]
def YT{s}:Eu (wtc s n) k size=(wtc (Eu s k size).1 n,(Eu s k size).2):=by
 unfold Eu;rw[UN];by_cases h:(Chn.BU s k size).2.2=0
 ·rw[if_pos h,if_pos h,R6]
 ·rw[if_neg h,if_neg h]
section
variable {P:Program}{f:FuncId}{d:Aa}{s:PD}{dv pv:Value}{L:List Aa}
def PgT.mk(h:Pg d (wtc s n) dv pv L):PgT d s dv pv L:=⟨n,h⟩
def WW(h:Lo P f)(hp:PgT d s dv pv L){w}{b:Sec}(hb:Ay d w b):Ao P f [pv,vZ k,w] d L (Ret fun r d' L'=>r=vZ (s.put k b).2∧PgT d' (s.put k b).1 dv pv L'):=by
 obtain⟨n,hp⟩:=hp;refine Ao.Eb (h (k:=k) hp hb) (fun r d' L' _ ⟨h1,h2⟩=>⟨d',L',Vs.refl _ _,?_⟩);rw[XZ] at h1 h2;exact⟨h1,n,h2⟩
def Xd(h:Pgr.Gx P f)(hp:PgT d s dv pv L):Ao P f [pv] d L (Ret fun r d' L'=>r=.tuple #[vZ s.AX.2.1,vZ s.AX.2.2]∧PgT d' s.AX.1 dv pv L'):=by
 obtain⟨n,hp⟩:=hp;refine Ao.Eb (h hp) (fun r d' L' _ ⟨h1,h2⟩=>⟨d',L',Vs.refl _ _,?_⟩);rw[V8] at h1 h2;exact⟨h1,n,h2⟩
def WI(h:HF P f)(hp:PgT d s dv pv L):Ao P f [pv,vZ k] d L (Ret fun r d' L'=>r=vZ (s.drop k).2∧PgT d' (s.drop k).1 dv pv L'):=by
 obtain⟨n,hp⟩:=hp;refine Ao.Eb (h (k:=k) hp) (fun r d' L' _ ⟨h1,h2⟩=>⟨d',L',Vs.refl _ _,?_⟩);rw[Pe] at h1 h2;exact⟨h1,n,h2⟩
def Aei(h:Ql P f)(hp:PgT d s dv pv L){w b}(hb:Ay d w b)(hl:b.length≤16384):
  Ao P f [pv,w] d L (Ret fun r d' L'=>Le d d'∧r=.tuple #[vZ (B0 s b).2.1,vZ (B0 s b).2.2]∧PgT d' (B0 s b).1 dv pv L'):=by
 obtain⟨n,hp⟩:=hp
 refine Ao.Eb (h hp hb hl) (fun r d' L' _ ⟨h0,h1,h2⟩=>⟨d',L',Vs.refl _ _,?_⟩)
 rw[Pu] at h1 h2;exact⟨h0,h1,n,h2⟩
def Yd(h:Nx P f)(hp:PgT d s dv pv L):
  Ao P f [pv,vZ k,vZ size] d L (Ret fun r d' L'=>Le d d'∧r=vZ (Eu s k size).2∧PgT d' (Eu s k size).1 dv pv L'):=by
 obtain⟨n,hp⟩:=hp
 refine Ao.Eb (h (k:=k) (size:=size) hp) (fun r d' L' _ ⟨h0,h1,tc,h2⟩=>⟨d',L',Vs.refl _ _,?_⟩)
 rw[YT] at h1 h2;exact⟨h0,h1,tc,h2⟩
end
end
end Go.Gk.Tre
end
section
namespace Go.Gk
open Go
section
section
variable {P:Program}{pan:List PanicEntry→AP}{Qn:Env→AP}{Ls L:List Aa}{ρ:Env}{d:Aa}{s:GS}{t:Nat}{tk:Bool}
def P9{x y k'}{a:Nat}(n m:Nat)(ex:ev ρ x=vZ (a:Int))(ey:ev ρ y=.int k' (n:Int))(hn:n≤32)(hm:m=a*2 ^ n)(ha:a≤65535)(h:gws P pan Qn s Ls (upd ρ t (vZ (m:Int))) d L):
  gws P pan Qn (.op tk ⟨some t,none,.bin .shl x y⟩ s) Ls ρ d L:=by
 refine DQ ?_ h
 have h1:min (Int.toNat (n:Int)) IntKind.i64.bits=n:=by simp[IntKind.bits];omega
 have h2:2 ^ n≤2 ^ 32:=Nat.pow_le_pow_right (by omega) hn
 have h3:a*2 ^ n≤65535*2 ^ 32:=Nat.mul_le_mul ha h2
 have e:(a:Int)*2 ^ n=((a*2 ^ n:Nat):Int):=by push_cast;rfl
 rw[ex,ey]
 simp only[Dz,h1]
 rw[if_neg (by omega),e,D3 (by omega) (by omega),hm]
def Qr{x y k'}{a:Int}(n:Nat)(m:Int)(ex:ev ρ x=vZ a)(ey:ev ρ y=.int k' (n:Int))(hn:n≤32)(_:0≤a)(hm:m=a / (2 ^ n:Nat))(h:gws P pan Qn s Ls (upd ρ t (vZ m)) d L):
  gws P pan Qn (.op tk ⟨some t,none,.bin .shr x y⟩ s) Ls ρ d L:=by
 refine DQ ?_ h
 have h1:min (Int.toNat (n:Int)) IntKind.i64.bits=n:=by simp[IntKind.bits];omega
 rw[ex,ey]
 simp only[Dz,h1]
 rw[if_neg (by omega),hm]
 congr 2
 rw[Int.fdiv_eq_ediv_of_nonneg _ (by exact_mod_cast Agd _)]
 simp
def Sy{x y}{a b:Nat}(n:Nat)(ex:ev ρ x=vZ ((a*2 ^ n:Nat):Int))(ey:ev ρ y=vZ (b:Int))(ha:a*2 ^ n<9223372036854775808)(hb:b<2 ^ n)(hs:a*2 ^ n+b<9223372036854775808)
  (h:gws P pan Qn s Ls (upd ρ t (vZ ((a*2 ^ n+b:Nat):Int))) d L):gws P pan Qn (.op tk ⟨some t,none,.bin .or x y⟩ s) Ls ρ d L:=by
 refine DQ ?_ h
 have hlt:b<9223372036854775808:=by omega
 have e:(BitVec.ofInt IntKind.i64.bits ((a*2 ^ n:Nat):Int)|||BitVec.ofInt IntKind.i64.bits ((b:Nat):Int)).toNat=a*2 ^ n+b:=by
  have h1:=Nat.shiftLeft_add_eq_or_of_lt (i:=n) hb a;rw[Nat.shiftLeft_eq] at h1;show((BitVec.ofInt 64 ((a*2 ^ n:Nat):Int):BitVec 64)|||(BitVec.ofInt 64 ((b:Nat):Int):BitVec 64)).toNat=_;rw[BitVec.toNat_or,BitVec.ofInt_natCast,BitVec.ofInt_natCast,BitVec.toNat_ofNat,BitVec.toNat_ofNat];rw[Ain (by omega),Ain (by omega)];exact h1.symm
 rw[ex,ey]
 simp only[Dz,e]
 rw[D3 (by omega) (by omega),if_neg (fun h=>h Z)]
def Zr{z x0 x1 x2 x3 x4 x5 x6}{a0 a1 a2 a3 a4 a5 a6:UInt8}(e0:ev ρ x0=Al a0)(e1:ev ρ x1=Al a1)(e2:ev ρ x2=Al a2)(e3:ev ρ x3=Al a3)(e4:ev ρ x4=Al a4)(e5:ev ρ x5=Al a5)(e6:ev ρ x6=Al a6)
  (h:∀b T,gws P pan Qn s Ls (upd ρ t (.slice (some ⟨b,0,none⟩) 7 7)) d (bx b T ([a0,a1,a2,a3,a4,a5,a6].map Al)::L)):gws P pan Qn (.op false ⟨some t,none,.bsl 7 1 [z] [(0,x0),(1,x1),(2,x2),(3,x3),(4,x4),(5,x5),(6,x6)]⟩ s) Ls ρ d L:=by
 have c:∀a:UInt8,(Al a).cells= #[Al a]:=fun _=>Z
 refine Dq (by omega) ?_ h
 simp[Instr.fill,BD,List.range,List.range.loop,e0,c,e1,e2,e3,e4,e5,e6]
end
end
end Go.Gk
end
