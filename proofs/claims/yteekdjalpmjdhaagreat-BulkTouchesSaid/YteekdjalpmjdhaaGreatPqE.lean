/-
  Our own texts, one behind the other: GkNode6 GkNode7 GkNode8 GkNodeA GkNodeB GkNodeC GkNodeD GkNodeE GkNodeF GkNodeH GkNodeI GkNodeJ GkNodeK GkNodeG GkNodeL GkNodeM GkNodeO Gk42 GkIns GkTr0 GkTr1 Gk43 GkTr2 GkHL GkHM GkHN.
-/
import Derived.Test.YteekdjalpmjdhaaGreatPqD
set_option linter.defProp false
set_option linter.unusedVariables false
set_option linter.unusedSimpArgs false
open Nat renaming le_of_ble_eq_true→Aea,le_refl→Aef,zero_le→Aez,zero_add→Agg,mul_one→Agn,add_sub_cancel→Agv,not_lt_zero→Ahc,mod_eq_of_lt→Ahl,sub_self→Aia,min_eq_left→Aja
open List.Sublist renaming refl→Aeb,cons_cons→Agi
open Bool renaming and_eq_true→Aec,false_eq_true→Aeh
open List renaming getElem?_eq_getElem→Aed,getD_eq_getElem?_getD→Aee,append_assoc→Aeg,perm_append_comm→Aei,mem_append→Aej,length_append→Aek,eq_nil_of_length_eq_zero→Ael,length_drop→Aen,mem_cons_self→Aeo,getElem?_eq_some_iff→Aeq,length_take→Aer,take_succ_eq_append_getElem→Aes,all_eq_true→Aet,replicate→Aeu,mem_cons_of_mem→Aev,mem_singleton→Aew,getElem_mem→Aey,mem_append_left→Afc,sublist_cons_self→Afd,nil_sublist→Afg,length_replicate→Afk,drop_eq_getElem_cons→Afl,getElem?_eq_none→Afo,take_length→Afq,take_of_length_le→Afu,getElem?_append_left→Afy,cons_append→Afz,getElem_of_mem→Aga,getElem?_drop→Agb,getElem?_append_right→Agc,getElem?_take_of_lt→Agd,getElem?_take→Agh,mem_of_getElem?→Agq,getD_cons_succ→Agx,getD_cons_zero→Ahd,length_singleton→Ahe,drop_length→Ahg,pairwise_iff_getElem→Ahk,ext_getElem?→Ahm,take_append_drop→Ahs,getD→Ahx,drop_left→Aij,mem_of_mem_drop→Ail,getElem_drop→Ajc,take_succ_cons→Ajm
open List.Perm renaming cons→Aem,swap→Afa
open Option renaming bind_some→Age
open Int renaming natCast_add→Ajt
section
namespace Go.Gk.Node
open Go Go.Gk
attribute [local irreducible] gwp gws
variable{P:Program}{f f1:FuncId}{d:Ac}{n:AK}
def Gf(k:Int):List UInt8:=[UInt8.ofNat ((k / 256) % 256).toNat,UInt8.ofNat (k % 256).toNat]
def u8n(n:Nat):UInt8:=UInt8.ofNat ((n:Int) % 256).toNat
def tailD(n:AK)(k:Nat):List UInt8:=if n.leaf then u8n (Fs n k)::n.vals.getD k [] else Gf (n.kids.getD (k+1) 0)
def headD(n:AK):List UInt8:=[if n.leaf then 1 else 2,u8n n.keys.length]++(if n.leaf then [] else Gf (n.kids.getD 0 0))
def CG(n:AK):Nat→List UInt8
 |0=>headD n
 |k+1=>CG n k++(u8n (Dz n k)::n.keys.getD k [])++tailD n k
def Ru(n:AK):∀k,(CG n k).length=(if n.leaf then 2 else 4+2*k)+By n k:=by
 intro k;induction k with
 |zero=>simp only[CG,headD,By];split<;>simp[Gf]
 |succ k ih=>
  simp only[CG,Aek,ih,By,tailD,Eh,Dz,Fs]
  split<;>simp[Gf]<;>omega
def B4(n:AK):List UInt8:=CG n n.keys.length++Aeu (256 - (CG n n.keys.length).length) 0
def AaT(n:Nat):Bq [Value.int .u8 0] n=Aeu n (Av 0):=by
 unfold Bq;apply List.ext_getElem
 ·simp
 ·intro i h1 h2;simp[Nat.mod_one,Av]
def MT(P:Program)(f:FuncId):Prop:=∀{d cs}{n:AK},Cj d cs n→Ba n=true→A9 n≤256→
 AA P f [.agg cs.toArray] d [] (Ret fun r d' L'=>d'=d∧∃h,L'=[h]∧EJ 256 r (B4 n) h)
def EJ.nil{N b:Nat}{T}:EJ N (.slice (some ⟨b,0,none⟩) 0 N) [] (bx b T (Bq [Value.int .u8 0] (N*1))):=
 ⟨Aez _,b,T,Z,by rw[AaT];simp⟩
def VZ:A0:=⟨87,[(.tmp 2)],(sR (o1 1 (.box 0)<|o1 2 (.mv nS) .done) (sR (o1 6 (.mks 1 1 [(.int .u8 0)] z0 (kZ 256))<|om 3 6 .done) (sR (om 7 3<|oj 8 1 1<|ol 9 8<|oL 10 9<|o1 11 (.cvi .u8 10)<|o1 12 (.bsl 2 1 [(.int .u8 0)] [(0,(.const (.int .u8 2))),(1,11)])<|o1 13 (.app 1 1 [(.int .u8 0)] 7 12)<|om 3 13 .done) (.seq (sR (oj 14 0 1<|ol 15 14 .done) (.cond 15 (rG (om 16 3<|o1 17 (.idx 1 16 z0)<|o0 (.st 1 17 (.const (.int .u8 1))) .done)) (.reg true (pm 18 3<|p1 19 (.fld 3 1)<|pl 20 19<|p1 21 (.idx 1 20 z0)<|pl 22 21<|p1 23 (.bin .shr 22 (.const (.int .u64 8)))<|p1 24 (.cvi .u8 23)<|p1 25 (.fld 3 1)<|pl 26 25<|p1 27 (.idx 1 26 z0)<|pl 28 27<|p1 29 (.cvi .u8 28)<|o1 30 (.bsl 2 1 [(.int .u8 0)] [(0,24),(1,29)])<|o1 31 (.app 1 1 [(.int .u8 0)] 18 30) (.bar (pm 3 31 .done)))))) (.seq (sR (oj 32 1 1<|ol 33 32<|oL 34 33<|o1 35 (.mv z0) .done) (.block 0 (.loop (sR (ob 36 .lss 35 34 .done) (.seq (.cond 36 .skip (.exit 0)) (.seq (.block 1 (sR (om 37 35<|oI 38 1 33 35<|ol 39 38<|om 4 37<|om 5 39 .done) (sR (om 40 3<|om 41 5<|oL 42 41<|o1 43 (.cvi .u8 42)<|o1 44 (.bsl 1 1 [(.int .u8 0)] [(0,43)])<|o1 45 (.app 1 1 [(.int .u8 0)] 40 44)<|om 46 5<|o1 47 (.app 1 1 [(.int .u8 0)] 45 46)<|om 3 47 .done) (sR (oj 48 0 1<|ol 49 48 .done) (.cond 49 (.reg true (pm 50 3<|p1 51 (.fld 2 1)<|pl 52 51<|pm 53 4<|p1 54 (.idx 1 52 53)<|pl 55 54<|p1 56 (.len 55)<|p1 57 (.cvi .u8 56)<|p1 60 (.fld 2 1)<|pl 61 60<|pm 62 4<|p1 63 (.idx 1 61 62)<|pl 64 63<|o1 58 (.bsl 1 1 [(.int .u8 0)] [(0,57)])<|o1 59 (.app 1 1 [(.int .u8 0)] 50 58)<|o1 65 (.app 1 1 [(.int .u8 0)] 59 64) (.bar (pm 3 65 .done)))) (.reg true (pm 66 3<|p1 67 (.fld 3 1)<|pl 68 67<|pm 69 4<|p1 70 (.bin .add 69 z1)<|p1 71 (.idx 1 68 70)<|pl 72 71<|p1 73 (.bin .shr 72 (.const (.int .u64 8)))<|p1 74 (.cvi .u8 73)<|p1 75 (.fld 3 1)<|pl 76 75<|pm 77 4<|p1 78 (.bin .add 77 z1)<|p1 79 (.idx 1 76 78)<|pl 80 79<|p1 81 (.cvi .u8 80)<|o1 82 (.bsl 2 1 [(.int .u8 0)] [(0,74),(1,81)])<|o1 83 (.app 1 1 [(.int .u8 0)] 66 82) (.bar (pm 3 83 .done))))))))) (rG (ob 84 .add 35 z1<|om 35 84 .done)))))))) (sR (om 85 3<|o1 86 (.sl 1 85 none (some (kZ 256)) none)<|om 2 86 .done) .ret))))))⟩
def WW(hd:dec P f=some VZ):MT P f:=by
 intro d cs n hn hs hz;have hlen:=Ru n;obtain⟨lf,ks,vs,is⟩:=n;obtain⟨kv,vv,iv,rfl,hk,hv,hiv⟩:∃kv vv iv,cs=[.bool lf,kv,vv,iv]∧Dh d kv ks∧Dh d vv vs∧DS d iv is:=hn;refine AG hd (Aea Z) ?_;obtain⟨ka,kc,kb,ko,rfl,kA,kS,kN,kl,km,kB,kx⟩:=hk;obtain⟨ia,ic,ib,io,rfl,iA,iS,iN,il,im,iB,ix⟩:=hiv;obtain⟨va,vc,vb,vo,rfl,vA,vS,vN,vl,vm,vB,vx⟩:=hv;show gwp P _ _ _ _ _;(refine Ad<|Ck Z (fun _ _=>Aj Z<|Aa<|Ad ?_));rename_i b0 T0;refine It (n:=0) (c:=256) Z Z (by omega) (by omega) (by omega) (fun b T=>?_);have hrow:EJ 256 _ _ _:=EJ.nil (N:=256) (b:=b) (T:=T);(refine Aj Z<|Aa<|Ad<|Aj Z<|Ai Z<|Ah Z (Al 1 Z Z)<|AI Z<|C8 Z ?_);refine BS d [bx b0 T0 [.bool lf,.slice ka ks.length kc,.slice va vs.length vc,.slice ia is.length ic],bx b T (Bq [Value.int .u8 0] (256*1))] (Vs.perm (Afa _ _ _)) ?_;refine CZ (cs:=[.int .u8 2,Av (u8n ks.length)]) (by omega) Z (fun b2 T2=>?_);refine IF 1 (news:=[2,u8n ks.length]) Z Z hrow Z Z Z (by simp) (by omega) (fun v1 h1 hrow1=>?_);have hround:∀k,k<ks.length→(CG ⟨lf,ks,vs,is⟩ (k+1)).length≤256:=by
  intro k hk;have h1:=hlen (k+1);have h2:=GN ⟨lf,ks,vs,is⟩ (show k+1≤ks.length from hk);simp only[A9] at hz;simp only[Ba,Aec] at hs;cases lf
  ·simp only[Aeh,if_false,Aec,decide_eq_true_eq] at hs h1 hz;omega
  ·simp only[if_true] at hs h1 hz;omega
 cases lf
 ·obtain⟨hkl,hil,hio⟩:vs.length=0∧is.length=ks.length+1∧is.all Gt=true:=by
   simp only[Ba,Aec,Aeh,if_false,decide_eq_true_eq] at hs;exact⟨hs.2.1.1,hs.2.1.2,hs.2.2⟩
  have hki:∀i (h:i<is.length),0≤is[i]∧is[i]≤8191:=fun i h=>by
   have:=Aet.1 hio _ (Aey h);simpa [Gt] using this
  obtain⟨c0,hc0,hD0,⟨rfl,hr1,hr2⟩⟩:=ix 0 (by omega);replace hD0:=hD0.one;have hg0:is.getD 0 0=is[0]'(by omega):=by simp[show 0<is.length by omega]
  (refine AR<|Aa<|Ag<|Ad<|Ai Z<|Ah Z (Al 0 Z Z)<|Aa<|AS Z ?_);refine O1 [0] [1] Z ?_;(refine AR<|Ai Z<|Ah Z (Al 0 Z Z)<|BL 0 Z Z Z (by omega) (by assumption)<|Ah Z (BB (by assumption))<|Gs Z Z (by decide)<|C8 Z<|Ai Z<|Ah Z (Al 0 Z Z)<|BL 0 Z Z Z (by omega) (by assumption)<|Ah Z (BB (by assumption))<|C8 Z ?_);refine CZ (cs:=(Gf (is[0]'(by omega))).map Av) (by omega) Z (fun b4 T4=>?_);refine IF 0 (news:=Gf (is[0]'(by omega))) Z Z hrow1 Z Z Z (by simp[Gf]) (by omega) (fun v2 h2 hrow2=>?_);have hrow2':EJ 256 v2 (CG ⟨false,ks,vs,is⟩ 0) h2:=by
   have e:CG ⟨false,ks,vs,is⟩ 0=[]++[2,u8n ks.length]++Gf (is[0]'(by omega)):=by simp[CG,headD,show 0<is.length by omega]
   rw[e];exact hrow2
  (refine Cd<|AR<|Aa<|Ag<|Ad<|Ai Z<|Ah Z (Al 0 Z Z)<|AI Z<|Ab Z<|Aa<|Ax ?_);refine B8 (α:=Nat×Value×Ac) (fun x=>[(1,pZ b0),(3,x.2.1),(33,.slice ka ks.length kc),(34,vZ ks.length),(35,vZ x.1)])
   (fun x d' L'=>d'=d∧L'=[bx b0 T0 [.bool false,.slice ka ks.length kc,.slice va vs.length vc,.slice ia is.length ic],x.2.2]∧x.1≤ks.length∧EJ 256 x.2.1 (CG ⟨false,ks,vs,is⟩ x.1) x.2.2) (fun x=>ks.length - x.1) (0,v2,h2)
   ⟨Z,Z,Z,Z,Z,trivial⟩ ⟨Z,Z,Aez _,hrow2'⟩ ?_
  rintro⟨k,v3,h3⟩ ρ d' L' ⟨hdd,hLL,hle,hrow3⟩;simp only at hLL hle hrow3;subst hdd;subst hLL;by_cases h:k<ks.length
  ·obtain⟨c0,hc0,hD1,⟨u0,rfl,hu0⟩⟩:=kx k h;replace hD1:=hD1.one;obtain⟨c1,hc1,hD2,⟨rfl,hs1,hs2⟩⟩:=ix (k+1) (by omega);replace hD2:=hD2.one;have hgk:ks.getD k []=ks[k]:=by simp[h]
   have hgi:is.getD (k+1) 0=is[k+1]'(by omega):=by simp[show k+1<is.length by omega]
   have hb:=hround k h;have hbe:CG ⟨false,ks,vs,is⟩ (k+1)=CG ⟨false,ks,vs,is⟩ k++[u8n ks[k].length]++ks[k]++Gf (is[k+1]'(by omega)):=by simp[CG,tailD,Dz,h,show k+1<is.length by omega]
   rw[hbe] at hb;simp only[Aek,Ahe] at hb;(refine Ad<|AB Z Z<|Aa<|Ag<|Aw Z (by omega)<|Ak<|Ag<|Ax<|Ad<|Ab Z ?_;apply BL;rfl;rfl;rfl;omega;assumption;refine Ah Z (BB (by assumption))<|Ab Z<|AR<|Aa<|Ad<|AR<|AR<|BI Z (by assumption)<|C8 Z ?_);refine CZ (cs:=[Av (u8n ks[k].length)]) (by omega) Z (fun b4 T4=>?_);refine IF 1 (news:=[u8n ks[k].length]) Z Z hrow3 Z Z Z (by simp;omega) (by omega) (fun v4 h4 hrow4=>?_);(apply AR);refine Vn 1 (news:=ks[k]) Z Z hrow4 Z (hu0.rdx _) (by simp;omega) (by omega) (fun v5 h5 hrow5=>?_);(refine AR<|Aa<|Ad<|Ai Z<|Ah Z (Al 0 Z Z)<|Aa<|AS Z ?_);refine O1 [0] [1] Z ?_;(refine AR<|Ai Z<|Ah Z (Al 0 Z Z)<|Ab Z<|AM Z Z (by omega) (by omega) ?_);refine BL (k+1) Z Z (by omega) (by omega) iA ?_;(refine Ah Z (BB (by assumption))<|Gs Z Z (by decide)<|C8 Z<|Ai Z<|Ah Z (Al 0 Z Z)<|Ab Z<|AM Z Z (by omega) (by omega) ?_);refine BL (k+1) Z Z (by omega) (by omega) iA ?_;(refine Ah Z (BB (by assumption))<|C8 Z ?_);refine CZ (cs:=(Gf (is[k+1]'(by omega))).map Av) (by omega) Z (fun b6 T6=>?_);refine IF 0 (news:=Gf (is[k+1]'(by omega))) Z Z hrow5 Z Z Z (by simp[Gf] at hb⊢;omega) (by omega) (fun v6 h6 hrow6=>?_);(refine Cd<|AR<|Aa<|AE<|AM Z Z (by omega) (by omega)<|Ab Z<|Aa ?_);refine⟨(k+1,v6,h6),by simp;omega,⟨Z,Z,Z,Z,int_eq (by omega),trivial⟩,Z,Z,h,?_⟩
   simp only;rw[hbe];exact hrow6
  ·have e:k=ks.length:=by omega
   subst e;obtain⟨b7,rfl,hfull⟩:=hrow3.full;(refine Ad<|AB Z Z<|Aa<|Ag<|Ar Z (by omega)<|Bd<|Ad<|Aj Z ?_);refine Abu (l:=0) (h:=256) (m:=256) Z Z (by omega) ?_;(refine Aj Z<|Aa<|Ap ?_);exact BO (L':=[h3]) Z (Afd _ _) ⟨Z,h3,Z,hfull⟩
 ·have hvl:vs.length=ks.length:=by
   simp only[Ba,Aec,if_true,decide_eq_true_eq] at hs;exact hs.2.1.1
  obtain⟨_,b3,T3,rfl,rfl⟩:=hrow1;(refine Aj Z<|Aa<|Ag<|Ad<|Ai Z<|Ah Z (Al 0 Z Z)<|Aa<|Bc Z<|AE<|Aj Z ?_);refine BL (b:=b3) (o:=0) 0 Z Z Z (by simp) (SAd.some _ b3 0) ?_;refine BW (v:=.int .u8 1) 1 Z Z Z Z (by rw[Aek,Afk,List.length_map];exact Aea Z) Z ?_;have hrow2':EJ 256 (.slice (some ⟨b3,0,none⟩) 2 256) (CG ⟨true,ks,vs,is⟩ 0) (bx b3 T3 (patch (([]++[2,u8n ks.length]).map Av++Aeu (256 - ([]++[2,u8n ks.length]).length) (Av 0)) (0+0*1) (Value.int .u8 1).cells.toList)):=by
   refine⟨by simp[CG,headD],b3,T3,by simp[CG,headD],?_⟩
   congr 1
  (refine Aa<|Ag<|Ad<|Ai Z<|Ah Z (Al 0 Z Z)<|AI Z<|Ab Z<|Aa<|Ax ?_);refine B8 (α:=Nat×Value×Ac) (fun x=>[(1,pZ b0),(3,x.2.1),(33,.slice ka ks.length kc),(34,vZ ks.length),(35,vZ x.1)])
   (fun x d' L'=>d'=d∧L'=[bx b0 T0 [.bool true,.slice ka ks.length kc,.slice va vs.length vc,.slice ia is.length ic],x.2.2]∧x.1≤ks.length∧EJ 256 x.2.1 (CG ⟨true,ks,vs,is⟩ x.1) x.2.2) (fun x=>ks.length - x.1) (0,_,_)
   ⟨Z,Z,Z,Z,Z,trivial⟩ ⟨Z,Z,Aez _,hrow2'⟩ ?_
  rintro⟨k,v3,h3⟩ ρ d' L' ⟨hdd,hLL,hle,hrow3⟩;simp only at hLL hle hrow3;subst hdd;subst hLL;by_cases h:k<ks.length
  ·obtain⟨c0,hc0,hD1,⟨u0,rfl,hu0⟩⟩:=kx k h;replace hD1:=hD1.one;obtain⟨c1,hc1,hD2,⟨u1,rfl,hu1⟩⟩:=vx k (by omega);replace hD2:=hD2.one;have hb:=hround k h;have hbe:CG ⟨true,ks,vs,is⟩ (k+1)=CG ⟨true,ks,vs,is⟩ k++[u8n ks[k].length]++ks[k]++[u8n (vs[k]'(by omega)).length]++vs[k]'(by omega):=by simp[CG,tailD,Dz,Fs,h,show k<vs.length by omega]
   rw[hbe] at hb;simp only[Aek,Ahe] at hb;(refine Ad<|AB Z Z<|Aa<|Ag<|Aw Z (by omega)<|Ak<|Ag<|Ax<|Ad<|Ab Z ?_;apply BL;rfl;rfl;rfl;omega;assumption;refine Ah Z (BB (by assumption))<|Ab Z<|AR<|Aa<|Ad<|AR<|AR<|BI Z (by assumption)<|C8 Z ?_);refine CZ (cs:=[Av (u8n ks[k].length)]) (by omega) Z (fun b4 T4=>?_);refine IF 1 (news:=[u8n ks[k].length]) Z Z hrow3 Z Z Z (by simp;omega) (by omega) (fun v4 h4 hrow4=>?_);(apply AR);refine Vn 1 (news:=ks[k]) Z Z hrow4 Z (hu0.rdx _) (by simp;omega) (by omega) (fun v5 h5 hrow5=>?_);(refine AR<|Aa<|Ad<|Ai Z<|Ah Z (Al 0 Z Z)<|Aa<|Bc Z ?_);refine O1 [0] [1] Z ?_;(refine AR<|Ai Z<|Ah Z (Al 0 Z Z)<|Ab Z ?_;apply BL;rfl;rfl;rfl;omega;assumption;refine Ah Z (BB (by assumption))<|BI Z (by assumption)<|C8 Z<|Ai Z<|Ah Z (Al 0 Z Z)<|Ab Z ?_;apply BL;rfl;rfl;rfl;omega;assumption;apply Ah;rfl;exact BB (by assumption));refine CZ (cs:=[Av (u8n (vs[k]'(by omega)).length)]) (by omega) Z (fun b6 T6=>?_);refine IF 0 (news:=[u8n (vs[k]'(by omega)).length]) Z Z hrow5 Z Z Z (by simp;omega) (by omega) (fun v6 h6 hrow6=>?_);refine Vn 0 (news:=vs[k]'(by omega)) Z Z hrow6 Z (hu1.rdx _) (by simp;omega) (by omega) (fun v7 h7 hrow7=>?_);(refine Cd<|AR<|Aa<|AE<|AM Z Z (by omega) (by omega)<|Ab Z<|Aa ?_);refine⟨(k+1,v7,h7),by simp;omega,⟨Z,Z,Z,Z,int_eq (by omega),trivial⟩,Z,Z,h,?_⟩
   simp only;rw[hbe];exact hrow7
  ·have e:k=ks.length:=by omega
   subst e;obtain⟨b7,rfl,hfull⟩:=hrow3.full;(refine Ad<|AB Z Z<|Aa<|Ag<|Ar Z (by omega)<|Bd<|Ad<|Aj Z ?_);refine Abu (l:=0) (h:=256) (m:=256) Z Z (by omega) ?_;(refine Aj Z<|Aa<|Ap ?_);exact BO (L':=[h3]) Z (Afd _ _) ⟨Z,h3,Z,hfull⟩
def IN(P:Program)(f:FuncId):Prop:=∀{d cs}{n:AK},Cj d cs n→A9 n≤1000000000000→
 AA P f [.agg cs.toArray] d [] (Ret fun r d' L'=>d'=d∧((Bp n=true∧∃v h,r=.tuple #[v,vZ 0]∧L'=[h]∧EJ 256 v (B4 n) h)∨(Bp n=false∧r=.tuple #[nV,vZ 200]∧L'=[])))
def TP(a0 a1:Nat):A0:=⟨9,[(.tmp 2),(.tmp 3)],(sR (o1 1 (.box 0)<|o1 2 (.mv nS)<|o1 3 (.mv z0) .done) (.seq (sR (o1 4 (.ld (some 4) 1)<|oc 5 a0 [4]<|o1 6 (.un .not 5) .done) (.cond 6 (sR (o1 2 (.mv nS)<|o1 3 (.mv (kZ 200)) .done) .ret) .skip)) (sR (o1 7 (.ld (some 4) 1)<|oc 8 a1 [7]<|om 2 8<|o1 3 (.mv z0) .done) .ret)))⟩
def Vv{f2}(hd:dec P f=some (TP f1 f2))(h1:Hh P f1)(h2:MT P f2):IN P f:=by
 intro d cs n hn hb;refine AG hd (Aea Z) ?_;have hn':=hn;obtain⟨kv,vv,iv,rfl,hk,hv,hiv⟩:∃kv vv iv,cs=[.bool n.leaf,kv,vv,iv]∧Dh d kv n.keys∧Dh d vv n.vals∧DS d iv n.kids:=hn;show gwp P _ _ _ _ _;(refine Ad<|Ck Z (fun _ _=>Aj Z<|Ab Z<|Aa<|Ag<|Ad<|Bf 0 Z Z Z ?_));refine BE Z (h1 hn' hb) ?_;cases hr:Bp n with
 |false=>
  (refine Bn Z<|Aa<|Bc Z<|Ad<|Aj Z<|Ab Z<|Aa<|Ap ?_)
  exact SG Z Z ⟨Z,.inr ⟨Z,Z,Z⟩⟩
 |true=>
  have hr':=hr
  simp only[Bp,Aec,decide_eq_true_eq] at hr'
  (refine Bn Z<|Aa<|AS Z<|Ak<|Ad<|Bf 0 Z Z Z ?_)
  refine Bl Z (h2 hn' hr'.1 hr'.2) (fun r d' L' _ ⟨hdd,h,hL,hrow⟩=>?_)
  subst hdd;subst hL
  (refine AR<|Ab Z<|Aa<|Ap ?_)
  exact Cw (L':=[h]) Z Z (by simp) ⟨Z,.inl ⟨Z,_,h,Z,Z,hrow⟩⟩
section
def Cj.mono{d' cs}(h:Cj d cs n)(hl:Le d d'):Cj d' cs n:=
 let ⟨kv,vv,iv,e,h1,h2,h3⟩:=h
 ⟨kv,vv,iv,e,h1.mono hl,h2.mono hl,h3.mono hl⟩
attribute [local irreducible] B4
end
section
instance:DecidableEq AK:=fun a b=>by
 obtain⟨a1,a2,a3,a4⟩:=a;obtain⟨b1,b2,b3,b4⟩:=b;simp only[AK.mk.injEq];exact inferInstance
def Ab3(hs:Ba n=true)(hz:A9 n≤256):∀k,k≤n.keys.length→(CG n k).length≤256:=by
 intro k hk;have h1:=Ru n k;have h2:=GN n hk;simp only[A9] at hz;simp only[Ba,Aec] at hs;cases h:n.leaf
 ·simp only[h,Aeh,if_false,Aec,decide_eq_true_eq] at hs h1 hz;omega
 ·simp only[h,if_true] at hs h1 hz;omega
attribute [local irreducible] CG
end
def Qo(h:IN P f){cs}(hn:Cj d cs n)(hz:A9 n≤1000000000000):
  AA P f [.agg cs.toArray] d [] (Ret fun r d' L'=>d'=d∧∃v g,r=.tuple #[v,vZ (if Bp n then 0 else 200)]∧L'=[g]∧As 1 AH d v (if Bp n then B4 n else []) g):=by
 refine(h hn hz).DU (fun v d' L' _ hr=>?_)
 rcases hr with ⟨hdd,⟨hR,v,g,hv,hL,hrow⟩|⟨hR,hv,hL⟩⟩
 ·subst hdd
  exact⟨d',L',Vs.refl _ _,Z,v,g,by simp[hv,hR],hL,by simp only[hR,if_true];exact hrow.grow (by omega)⟩
 ·subst hdd;subst hL
  exact⟨d',[emp],Vs.emp,Z,nV,emp,by simp[hv,hR],Z,by simp only[hR];exact As.nil⟩
def Dy(d:Ac)(v:Value)(xs:List (List UInt8))(L:List Ac):Prop:=∃us h0 hs,BV 1 v xs.length us h0∧hs.length=xs.length∧
 (∀i (hi:i<xs.length),∃u g,us[i]?=some u∧hs[i]?=some g∧As 1 AH d u xs[i] g)∧L=h0::hs
def Dy.Uy{d1 v xs L}(o:Dy d v xs L)(hl:Le d d1)(hL:∀h∈L,Le h d1):Dh d1 v xs:=by
 obtain⟨us,h0,hs,h1,h2,h3,rfl⟩:=o;refine h1.Aa7 (hL _ (Aeo ..)) Z (fun i hi=>?_);obtain⟨u,g,k1,k2,k3⟩:=h3 i hi;exact⟨u,k1,u,Z,k3.rsl AL (by omega) hl (hL _ (Aev _ (Agq k2)))⟩
def Dy.val{v xs L}(o:Dy d v xs L):∃a c,v=.slice a xs.length c:=by
 obtain⟨us,h0,hs,h1,_⟩:=o;obtain⟨a,b,c,e,_⟩:=h1.slice;exact⟨a,c,e⟩
def PH(P:Program)(f:FuncId):Prop:=∀{d v xs},Dh d v xs→xs.length≤1000000000→
 AA P f [v] d [] (Ret fun r d' L'=>d'=d∧Dy d r xs L')
def Yg(a0:Nat):A0:=⟨19,[(.tmp 2)],(sR (o1 2 (.mv nS) .done) (sR (o1 3 (.mv nS) .done) (.seq (sR (om 6 0<|oL 7 6<|o1 8 (.mv z0) .done) (.block 0 (.loop (sR (ob 9 .lss 8 7 .done) (.seq (.cond 9 .skip (.exit 0)) (.seq (.block 1 (sR (oI 10 1 6 8<|ol 11 10<|om 5 11 .done) (rG (om 12 3<|om 13 5<|oc 14 a0 [13]<|o1 15 (.bsl 1 1 [nV] [(0,14)])<|o1 16 (.app 1 24 [nV] 12 15)<|om 3 16 .done)))) (rG (ob 17 .add 8 z1<|om 8 17 .done)))))))) (sR (om 18 3<|om 2 18 .done) .ret))))⟩
def ZW(hd:dec P f=some (Yg f1))(h1:DX AH 1 P f1):PH P f:=by
 intro d v xs hv hb;refine AG hd (Aea Z) ?_;show gwp P _ _ _ _ _;apply Ag;apply AE;refine BS d [emp] Vs.emp ?_;refine Aj Z<|Aa<|Ad<|Aj Z<|Aa<|Ag<|Ad<|AR<|BI Z (by assumption)<|Ab Z<|Aa<|Ax<|Ab0 (α:=Nat) (fun k w=>[(3,w),(6,v),(7,vZ xs.length),(8,vZ k)])
  (fun k w h0 d' L'=>d'=d∧k≤xs.length∧∃us hs,BV 1 w k us h0∧hs.length=k∧(∀i (hi:i<xs.length),i<k→∃u g,us[i]?=some u∧hs[i]?=some g∧As 1 AH d u xs[i] g)∧L'=h0::hs) (fun k=>xs.length - k) 0 nV emp
  ⟨Z,Z,Z,Z,trivial⟩ ⟨Z,Aez _,[],[],BV.nil 1,Z,fun i _ hi=>absurd hi (Ahc i),Z⟩ ?_
 rintro k w h0 ρ d' L' ⟨hdd,hk,us,hs,ho,hhl,hel,hL⟩;subst hdd;subst hL;(refine Ad<|AB Z Z<|Aa<|Ag ?_);first|refine JK rfl (fun hc=>?_) (fun hc=>?_)|refine MA rfl (fun hc=>?_) (fun hc=>?_)
 ·have hk1:k<xs.length:=by omega
  have hxl:xs[k].length*1≤140737488355328:=by
   obtain⟨a,c,b,o,e,_,_,_,_,_,_,h8⟩:=hv;obtain⟨cs,_,_,u,_,hu⟩:=h8 k hk1;have:=AJ.BF hu;omega
  (refine Ak<|Ag<|Ax<|Ad<|Bg (sz:=1) (R:=RBs) (by rfl) (by assumption) (by rfl) Z (by omega) ?_;rintro _ _ _ _ _ ⟨_,rfl,_⟩;refine Ah Z (BQ (by assumption) Z)<|AR<|Aa<|AE<|AR<|AR ?_);refine Bl Z (h1 (xs:=xs[k]) (by assumption) hxl) (fun r d2 L2 _ ⟨hdd,g,hL,hg⟩=>?_);subst hdd;subst hL;obtain⟨a,c,rfl⟩:=hg.val;refine CZ (cs:=[.slice a xs[k].length c]) (by omega) Z (fun b8 T8=>?_);refine Xy 1 Z Z ho Z Z Z (by omega) (by omega) (by omega) (fun v5 h5 ho5=>?_);refine BS _ (h5::(hs++[g])) (Vs.perm ((Afa _ _ _).trans ((List.perm_append_singleton g hs).symm.cons _))) ?_;(refine AR<|Aa<|AE<|AM Z Z (by omega) (by omega)<|Ab Z<|Aa ?_);refine⟨k+1,v5,h5,by omega,⟨Z,Z,Z,int_eq (by omega),trivial⟩,Z,hk1,_,_,ho5,by simp[hhl],fun i hi hik=>?_,Z⟩
  have hul:us.length=k:=by have:=ho.1;omega
  by_cases e:i<k
  ·obtain⟨u,g',e1,e2,e3⟩:=hel i hi e;exact⟨u,g',by rw[Afy (by omega)];exact e1,by rw[Afy (by omega)];exact e2,e3⟩
  ·obtain rfl:i=k:=by omega
   exact⟨_,g,by rw[Agc (by omega),hul,Aia];rfl,by rw[Agc (by omega),hhl,Aia];rfl,hg⟩
 ·obtain rfl:k=xs.length:=by omega
  (refine Bd<|Ad<|AR<|AR<|Aa<|Ap ?_);exact BO Z (Aeb _) ⟨Z,us,h0,hs,ho,hhl,fun i hi=>hel i hi hi,Z⟩
def wD(n:AK)(i:Nat):Nat:=Eh n i+(if n.leaf then 0 else 2)
def Cy(n:AK):Nat→Nat
 |0=>0
 |k+1=>Cy n k+wD n k
def AbT(n:AK):∀k,Cy n k≤By n k+2*k:=by
 intro k;induction k with
 |zero=>simp[Cy]
 |succ k ih=>simp only[Cy,By,wD];split<;>omega
def MQ(n:AK):∀{k m:Nat},k≤m→Cy n k≤Cy n m:=by
 intro k m h;induction h with
 |refl=>exact Aef _
 |step _ ih=>simp only[Cy];omega
def Hb(n:AK):Nat→Nat→Nat
 |0,a=>a
 |f+1,a=>if a<n.keys.length - 1∧2*Cy n a<Cy n n.keys.length then Hb n f (a+1) else a
def atD(n:AK):Nat:=Hb n n.keys.length 0
def ZP(n:AK){a:Nat}(h:a<n.keys.length - 1)(h2:2*Cy n a<Cy n n.keys.length)(he:Hb n (n.keys.length - a) a=atD n):Hb n (n.keys.length - (a+1)) (a+1)=atD n:=by
 rw[←he,show n.keys.length - a=n.keys.length - (a+1)+1 by omega];rw[Hb,if_pos ⟨h,h2⟩]
def Sr(n:AK){a:Nat}(h:¬(a<n.keys.length - 1∧2*Cy n a<Cy n n.keys.length))(he:Hb n (n.keys.length - a) a=atD n):atD n=a:=by
 rw[←he];cases e:n.keys.length - a with
 |zero=>rfl
 |succ f=>rw[Hb,if_neg h]
def Dt(n:AK):Bool:=Ba n && decide ((if n.leaf then 2 else 3)≤n.keys.length)
def at2(n:AK):Nat:=max 2 (atD n)
def A5(n:AK):AK:=if Dt n then(if n.leaf then⟨true,n.keys.take (atD n),n.vals.take (atD n),[]⟩ else⟨false,n.keys.take (at2 n - 1),[],n.kids.take (at2 n)⟩) else⟨false,[],[],[]⟩
def Be(n:AK):AK:=if Dt n then(if n.leaf then⟨true,n.keys.drop (atD n),n.vals.drop (atD n),[]⟩ else⟨false,n.keys.drop (at2 n),[],n.kids.drop (at2 n)⟩) else⟨false,[],[],[]⟩
def BM(n:AK):List UInt8:=if Dt n then n.keys.getD (if n.leaf then atD n else at2 n - 1) [] else []
def Small(n:AK):Prop:=A9 n≤1000000000000∧n.keys.length≤1000000000∧n.vals.length≤1000000000∧n.kids.length≤1000000000
def DT(d:Ac)(cs:List Value)(n:AK)(L:List Ac):Prop:=
 ∃kv vv iv Lk Lv hi,cs=[.bool n.leaf,kv,vv,iv]∧Dy d kv n.keys Lk∧Dy d vv n.vals Lv∧As 1 Bh d iv n.kids hi∧L=Lk++Lv++[hi]
def Dy.nil:Dy d nV [] [emp]:=⟨[],emp,[],BV.nil 1,Z,fun i hi=>absurd hi (Ahc i),Z⟩
def DT.zero:DT d [.bool false,nV,nV,nV] ⟨false,[],[],[]⟩ [emp,emp,emp]:=⟨_,_,_,[emp],[emp],emp,Z,Dy.nil,Dy.nil,As.nil,Z⟩
def DT.JD{d1 cs L}(o:DT d cs n L)(hl:Le d d1)(hL:∀h∈L,Le h d1):Cj d1 cs n:=by
 obtain⟨kv,vv,iv,Lk,Lv,hi,rfl,h1,h2,h3,rfl⟩:=o;exact⟨kv,vv,iv,Z,h1.Uy hl (fun h hm=>hL h (by simp[hm])),h2.Uy hl (fun h hm=>hL h (by simp[hm])),h3.rsl B6 (by omega) hl (hL _ (by simp))⟩
def KC(P:Program)(f:FuncId):Prop:=∀{d cs}{n:AK}{b:Nat}{T},Cj d cs n→A9 n≤1000000000000→∀i,i<n.keys.length→
 AA P f [vZ i,pZ b] d [bx b T cs] (Ret fun r d' L'=>r=vZ (wD n i)∧d'=d∧L'=[bx b T cs])
def Rj(a0:Nat):A0:=⟨13,[(.tmp 3)],(sR (o1 3 (.mv z0) .done) (.seq (sR (oj 4 0 1<|ol 5 4 .done) (.cond 5 (sR (o1 6 (.ld (some 4) 1)<|om 7 0<|oc 8 a0 [6,7]<|om 3 8 .done) .ret) .skip)) (sR (o1 9 (.ld (some 4) 1)<|om 10 0<|oc 11 a0 [9,10]<|ob 12 .add 11 z2<|om 3 12 .done) .ret)))⟩
def R7(hd:dec P f=some (Rj f1))(h1:ME P f1):KC P f:=by
 intro d cs n b T hn hz i hi;have hcl:Eh n i≤1000000000000:=by
  have e1:By n (i+1)≤By n n.keys.length:=GN n hi;simp only[By] at e1;unfold A9 at hz;omega
 have hn':=hn;obtain⟨kv,vv,iv,rfl,hk,hv,hiv⟩:=hn;refine AG hd (Aea Z) ?_;show gwp P _ _ _ _ _;cases hlf:n.leaf
 ·rw[hlf] at hn';refine Ad<|Ab Z<|Aa<|Ag<|Ad<|Ai Z<|Ah Z (Al 0 Z Z)<|Aa<|AS Z<|Ak<|Ad<|Bf 0 Z Z Z<|Ab Z<|BE Z (h1 hn' i hi) ?_;(refine AM Z Z (by omega) (by omega)<|Ab Z<|Aa<|Ap ?_);exact BO Z (Aeb _) ⟨int_eq (by simp[wD,hlf]),Z,Z⟩
 ·rw[hlf] at hn';refine Ad<|Ab Z<|Aa<|Ag<|Ad<|Ai Z<|Ah Z (Al 0 Z Z)<|Aa<|Bc Z<|Ad<|Bf 0 Z Z Z<|Ab Z<|BE Z (h1 hn' i hi) ?_;(refine Ab Z<|Aa<|Ap ?_);exact BO Z (Aeb _) ⟨int_eq (by simp[wD,hlf]),Z,Z⟩
def NC(P:Program)(f:FuncId):Prop:=∀{d cs}{n:AK},Cj d cs n→Small n→
 AA P f [.agg cs.toArray] d [] (Ret fun r d' L'=>d'=d∧∃ca cb kv La Lb g,r=.tuple #[.agg ca.toArray,.agg cb.toArray,kv,vZ (if Dt n then 0 else 200)]∧L'=La++Lb++[g]∧DT d ca (A5 n) La∧DT d cb (Be n) Lb∧As 1 AH d kv (BM n) g)
def Uc(a0 a1 a2 a3 a4:Nat):A0:=⟨127,[(.cell 2 (some 4)),(.cell 3 (some 4)),(.tmp 4),(.tmp 5)],(sR (o1 1 (.box 0)<|o1 2 (.alo (.agg #[(.bool false),nV,nV,nV]))<|o1 3 (.alo (.agg #[(.bool false),nV,nV,nV]))<|o1 4 (.mv nS)<|o1 5 (.mv z0) .done) (sR (oj 13 1 1<|ol 14 13<|oL 15 14<|om 6 15 .done) (sR (o1 7 (.mv (kZ 3)) .done) (.seq (sR (oj 16 0 1<|ol 17 16 .done) (.cond 17 (rG (o1 7 (.mv z2) .done)) .skip)) (.seq (sR (o1 18 (.ld (some 4) 1)<|oc 19 a0 [18]<|o1 20 (.un .not 19)<|om 21 20<|gF 22 21 6<|gF 23 21 7<|oF 24 21 (.bin .lss 22 23)<|o1 25 (.pick 21 (.const (.bool true)) 24) .done) (.cond 25 (sR (o1 26 (.bld [(0,1),(1,1),(2,1),(3,1)] [(.bool false),nV,nV,nV] [])<|o1 27 (.bld [(0,1),(1,1),(2,1),(3,1)] [(.bool false),nV,nV,nV] [])<|o0 (.st 4 2 26)<|o0 (.st 4 3 27)<|o1 4 (.mv nS)<|o1 5 (.mv (kZ 200)) .done) .ret) .skip)) (sR (o1 28 (.mkf (.func a1) [] [1])<|om 8 28 .done) (sR (o1 9 (.mv z0) .done) (.seq (sR (om 29 6<|o1 30 (.mv z0) .done) (.block 0 (.loop (sR (ob 31 .lss 30 29 .done) (.seq (.cond 31 .skip (.exit 0)) (.seq (.block 1 (sR (om 32 30<|om 10 32 .done) (rG (om 33 9<|om 34 8<|om 35 10<|o1 36 (.callv 34 [35])<|ob 37 .add 33 36<|om 9 37 .done)))) (rG (ob 38 .add 30 z1<|om 30 38 .done)))))))) (sR (o1 11 (.mv z0)<|o1 12 (.mv z0) .done) (.seq (.block 2 (.loop (.seq (sR (om 39 11<|om 40 6<|ob 41 .sub 40 z1<|ob 42 .lss 39 41<|om 43 42<|gT 44 43 12<|oT 45 43 (.bin .mul z2 44)<|gT 46 43 9<|oT 47 43 (.bin .lss 45 46)<|gP 48 43 47 .done) (.cond 48 .skip (.exit 2))) (.block 3 (sR (om 49 12<|om 50 8<|om 51 11<|o1 52 (.callv 50 [51])<|ob 53 .add 49 52<|om 12 53 .done) (rG (om 54 11<|ob 55 .add 54 z1<|om 11 55 .done))))))) (.seq (sR (oj 56 0 1<|ol 57 56 .done) (.cond 57 (.seq (.reg true (p1 58 (.fld 1 1)<|pl 59 58<|pm 60 11<|pm 61 11<|p1 62 (.sl 1 59 none (some 60) (some 61))<|p1 64 (.fld 2 1)<|pl 65 64<|pm 66 11<|pm 67 11<|p1 68 (.sl 1 65 none (some 66) (some 67))<|oc 63 a2 [62]<|oc 69 a2 [68]<|p1 70 (.bld [(0,1),(1,1),(2,1),(3,1)] [(.bool false),nV,nV,nV] [(0,(.const (.bool true))),(1,63),(2,69)]) (.bar (o0 (.st 4 2 70) .done)))) (.seq (.reg true (p1 71 (.fld 1 1)<|pl 72 71<|pm 73 11<|p1 74 (.sl 1 72 (some 73) none none)<|p1 76 (.fld 2 1)<|pl 77 76<|pm 78 11<|p1 79 (.sl 1 77 (some 78) none none)<|oc 75 a2 [74]<|oc 80 a2 [79]<|p1 81 (.bld [(0,1),(1,1),(2,1),(3,1)] [(.bool false),nV,nV,nV] [(0,(.const (.bool true))),(1,75),(2,80)]) (.bar (o0 (.st 4 3 81) .done)))) (.seq (.reg true (p1 84 (.fld 1 1)<|pl 85 84<|pm 86 11<|p1 87 (.idx 1 85 86)<|pl 88 87 (.alt ⟨(some 82),none,(.ld (some 4) 2)⟩ (.alt ⟨(some 83),none,(.ld (some 4) 3)⟩ (oc 89 a3 [88] (o0 (.st 4 2 82) (o0 (.st 4 3 83) (pm 4 89 (p1 5 (.mv z0) .done))))) (oc 89 a3 [88] (.alt ⟨(some 83),none,(.ld (some 4) 3)⟩ (o0 (.st 4 2 82) (o0 (.st 4 3 83) (pm 4 89 (p1 5 (.mv z0) .done)))) (o0 (.st 4 2 82) (o1 83 (.ld (some 4) 3) (o0 (.st 4 3 83) (pm 4 89 (p1 5 (.mv z0) .done)))))))) (.alt ⟨(some 83),none,(.ld (some 4) 3)⟩ (.alt ⟨(some 82),none,(.ld (some 4) 2)⟩ (oc 89 a3 [88] (o0 (.st 4 2 82) (o0 (.st 4 3 83) (pm 4 89 (p1 5 (.mv z0) .done))))) (oc 89 a3 [88] (o1 82 (.ld (some 4) 2) (o0 (.st 4 2 82) (o0 (.st 4 3 83) (pm 4 89 (p1 5 (.mv z0) .done))))))) (oc 89 a3 [88] (.alt ⟨(some 82),none,(.ld (some 4) 2)⟩ (.alt ⟨(some 83),none,(.ld (some 4) 3)⟩ (o0 (.st 4 2 82) (o0 (.st 4 3 83) (pm 4 89 (p1 5 (.mv z0) .done)))) (o0 (.st 4 2 82) (o1 83 (.ld (some 4) 3) (o0 (.st 4 3 83) (pm 4 89 (p1 5 (.mv z0) .done)))))) (o1 83 (.ld (some 4) 3) (o1 82 (.ld (some 4) 2) (o0 (.st 4 2 82) (o0 (.st 4 3 83) (pm 4 89 (p1 5 (.mv z0) .done)))))))))))) .ret))) .skip)) (sR (om 90 11<|o1 91 (.mx2 z2 90)<|om 11 91 .done) (.seq (.reg true (p1 92 (.fld 1 1)<|pl 93 92<|pm 94 11<|p1 95 (.bin .sub 94 z1)<|pm 96 11<|p1 97 (.bin .sub 96 z1)<|p1 98 (.sl 1 93 none (some 95) (some 97))<|p1 100 (.fld 3 1)<|pl 101 100<|pm 102 11<|pm 103 11<|p1 104 (.sl 1 101 none (some 102) (some 103))<|oc 99 a2 [98]<|oc 105 a4 [104]<|p1 106 (.bld [(0,1),(1,1),(2,1),(3,1)] [(.bool false),nV,nV,nV] [(1,99),(3,105)]) (.bar (o0 (.st 4 2 106) .done)))) (.seq (.reg true (p1 107 (.fld 1 1)<|pl 108 107<|pm 109 11<|p1 110 (.sl 1 108 (some 109) none none)<|p1 112 (.fld 3 1)<|pl 113 112<|pm 114 11<|p1 115 (.sl 1 113 (some 114) none none)<|oc 111 a2 [110]<|oc 116 a4 [115]<|p1 117 (.bld [(0,1),(1,1),(2,1),(3,1)] [(.bool false),nV,nV,nV] [(1,111),(3,116)]) (.bar (o0 (.st 4 3 117) .done)))) (.seq (.reg true (p1 120 (.fld 1 1)<|pl 121 120<|pm 122 11<|p1 123 (.bin .sub 122 z1)<|p1 124 (.idx 1 121 123)<|pl 125 124 (.alt ⟨(some 118),none,(.ld (some 4) 2)⟩ (.alt ⟨(some 119),none,(.ld (some 4) 3)⟩ (oc 126 a3 [125] (o0 (.st 4 2 118) (o0 (.st 4 3 119) (pm 4 126 (p1 5 (.mv z0) .done))))) (oc 126 a3 [125] (.alt ⟨(some 119),none,(.ld (some 4) 3)⟩ (o0 (.st 4 2 118) (o0 (.st 4 3 119) (pm 4 126 (p1 5 (.mv z0) .done)))) (o0 (.st 4 2 118) (o1 119 (.ld (some 4) 3) (o0 (.st 4 3 119) (pm 4 126 (p1 5 (.mv z0) .done)))))))) (.alt ⟨(some 119),none,(.ld (some 4) 3)⟩ (.alt ⟨(some 118),none,(.ld (some 4) 2)⟩ (oc 126 a3 [125] (o0 (.st 4 2 118) (o0 (.st 4 3 119) (pm 4 126 (p1 5 (.mv z0) .done))))) (oc 126 a3 [125] (o1 118 (.ld (some 4) 2) (o0 (.st 4 2 118) (o0 (.st 4 3 119) (pm 4 126 (p1 5 (.mv z0) .done))))))) (oc 126 a3 [125] (.alt ⟨(some 118),none,(.ld (some 4) 2)⟩ (.alt ⟨(some 119),none,(.ld (some 4) 3)⟩ (o0 (.st 4 2 118) (o0 (.st 4 3 119) (pm 4 126 (p1 5 (.mv z0) .done)))) (o0 (.st 4 2 118) (o1 119 (.ld (some 4) 3) (o0 (.st 4 3 119) (pm 4 126 (p1 5 (.mv z0) .done)))))) (o1 119 (.ld (some 4) 3) (o1 118 (.ld (some 4) 2) (o0 (.st 4 2 118) (o0 (.st 4 3 119) (pm 4 126 (p1 5 (.mv z0) .done)))))))))))) .ret)))))))))))))))⟩
set_option maxHeartbeats 4000000 in
def Uz{f2 f3 f4 f5}(hd:dec P f=some (Uc f1 f2 f3 f4 f5))(h1:JZ P f1)(h2:KC P f2)(h3:PH P f3)(h4:DX AH 1 P f4)(h5:DX Bh 8 P f5):NC P f:=by
 intro d cs n hn hsm;have hn':=hn;obtain⟨lf,ks,vs,is⟩:=n;obtain⟨kv,vv,iv,rfl,hk,hv,hiv⟩:∃kv vv iv,cs=[.bool lf,kv,vv,iv]∧Dh d kv ks∧Dh d vv vs∧DS d iv is:=hn;obtain⟨hz,hb1,hb2,hb3⟩:=hsm;simp only at hb1 hb2 hb3;refine AG hd (Aea Z) ?_;show gwp P _ _ _ _ _;apply Ag;apply AE;(refine Ck Z (fun _ _=>Dg (fun _ _=>Dg (fun _ _=>Aj Z<|Ab Z<|Aa ?_))));rename_i b T b2 T2 b3 T3;apply Ag;apply AE;refine Acy [2,0,1] Z ?_;(refine Ai Z<|Ah Z (Al 0 Z Z)<|BI Z (by assumption)<|Ab Z<|Aa ?_);apply Ag;apply AE;(refine Ab Z<|Aa ?_);have bad:Dt ⟨lf,ks,vs,is⟩=false→∀(ρ:Env) (Q:B5),Q.ret=CL [.cell 2 (some 4),.cell 3 (some 4),.tmp 4,.tmp 5] (Ret fun r d' L'=>d'=d∧∃ca cb kv La Lb g,r=.tuple #[.agg ca.toArray,.agg cb.toArray,kv,vZ (if Dt ⟨lf,ks,vs,is⟩ then 0 else 200)]∧L'=La++Lb++[g]∧DT d ca (A5 ⟨lf,ks,vs,is⟩) La∧DT d cb (Be ⟨lf,ks,vs,is⟩) Lb∧As 1 AH d kv (BM ⟨lf,ks,vs,is⟩) g)→
   ρ 2=pZ b2→ρ 3=pZ b3→ρ 4=nV→ρ 5=vZ 200→Q.ret ρ d [bx b T [.bool lf,kv,vv,iv],bx b3 T3 [.bool false,nV,nV,nV],bx b2 T2 [.bool false,nV,nV,nV]]:=by
  intro hc ρ Q hQ e2 e3 e4 e5
  rw[hQ]
  refine A4 [.agg [.bool false,nV,nV,nV].toArray,.agg [.bool false,nV,nV,nV].toArray,nV,vZ 200] (d':=d) (L':=[emp,emp,emp]++[emp,emp,emp]++[emp]) ⟨AW 2 e2 Z Z,AW 1 e3 Z Z,Aq e4,Aq e5,trivial⟩
   ((Vs.drop (Afg _)).trans (Vs.emp.trans (Vs.emp.trans (Vs.emp.trans (Vs.emp.trans (Vs.emp.trans (Vs.emp.trans Vs.emp))))))) ⟨Z,_,_,_,_,_,emp,by rw[hc];rfl,Z,?_⟩
  simp only[A5,Be,BM,hc]
  exact⟨DT.zero,DT.zero,As.nil⟩
 refine Gw (fun ρ d' L'=>d=d'∧ρ 1=pZ b∧ρ 2=pZ b2∧ρ 3=pZ b3∧ρ 6=vZ ks.length∧ρ 7=vZ (if lf then 2 else 3:Nat)∧L'=[bx b T [.bool lf,kv,vv,iv],bx b3 T3 [.bool false,nV,nV,nV],bx b2 T2 [.bool false,nV,nV,nV]]) ?_ ?_
 ·cases lf
  ·(refine Ad<|Ai Z<|Ah Z (Al 0 Z Z)<|Aa<|AS Z<|Ak ?_);exact⟨Z,Z,Z,Z,Z,Z,Z⟩
  ·(refine Ad<|Ai Z<|Ah Z (Al 0 Z Z)<|Aa<|Bc Z<|AE<|Ab Z<|Aa ?_);exact⟨Z,Z,Z,Z,Z,Z,Z⟩
 rintro ρ d' L' ⟨hdd,e1,e2,e3,e6,e7,hL⟩;subst hdd;subst hL;obtain⟨lo,hlo⟩:∃lo:Nat,lo=if lf then 2 else 3:=⟨_,Z⟩
 rw[←hlo] at e7;refine C1 [(1,pZ b),(2,pZ b2),(3,pZ b3),(6,vZ ks.length),(7,vZ lo)] ⟨e1,e2,e3,e6,e7,trivial⟩ ?_;refine Gw (fun ρ d' L'=>d=d'∧ρ 1=pZ b∧ρ 2=pZ b2∧ρ 3=pZ b3∧ρ 6=vZ ks.length∧Dt ⟨lf,ks,vs,is⟩=true∧L'=[bx b T [.bool lf,kv,vv,iv],bx b3 T3 [.bool false,nV,nV,nV],bx b2 T2 [.bool false,nV,nV,nV]]) ?_ ?_
 ·refine Ad<|Bf 0 Z Z Z<|BE Z (h1 hn') ?_;cases hs:Ba ⟨lf,ks,vs,is⟩
  ·refine Bn Z<|Ae Z<|An Z<|An Z<|An Z<|Ay Z Z<|Aa<|Bc Z<|Ad<|BJ Z<|BJ Z<|BW 2 Z Z Z Z (by simp) Z ?_;refine BW 1 Z Z Z Z (by simp) Z ?_;(refine Aj Z<|Ab Z<|Aa<|Ap ?_);exact bad (by simp[Dt,hs]) _ _ Z Z Z Z Z
  by_cases hl:ks.length<lo
  ·refine Bn Z<|Ae Z<|Af Z<|Ab Z<|Af Z<|Ab Z<|Af Z<|AB Z Z<|Au Z Z<|Aa<|Aw Z (by omega)<|Ad<|BJ Z<|BJ Z<|BW 2 Z Z Z Z (by simp) Z ?_;refine BW 1 Z Z Z Z (by simp) Z ?_;(refine Aj Z<|Ab Z<|Aa<|Ap ?_);exact bad (by simp only[Dt,hs];rw[←hlo];simp;omega) _ _ Z Z Z Z Z
  ·(refine Bn Z<|Ae Z<|Af Z<|Ab Z<|Af Z<|Ab Z<|Af Z<|AB Z Z<|Au Z Z<|Aa<|Ar Z (by omega)<|Ak ?_);exact⟨Z,Z,Z,Z,Z,by simp only[Dt,hs];rw[←hlo];simp;omega,Z⟩
 rintro ρ d' L' ⟨hdd,e1,e2,e3,e6,hcan,hL⟩;subst hdd;subst hL;refine C1 [(1,pZ b),(2,pZ b2),(3,pZ b3),(6,vZ ks.length)] ⟨e1,e2,e3,e6,trivial⟩ ?_;have hps:∀i,i≤ks.length→Cy ⟨lf,ks,vs,is⟩ i≤1002000000000:=fun i hi=>by
  have h1:=MQ ⟨lf,ks,vs,is⟩ hi;have h2:=AbT ⟨lf,ks,vs,is⟩ ks.length;simp only[A9] at hz;omega
 have hkl:ks.length≥2:=by
  simp only[Dt,Aec,decide_eq_true_eq] at hcan;have:=hcan.2;split at this<;>omega
 refine Ad<|Nk<|FE Z<|Aa<|Ad<|Ab Z<|Aa<|Ag<|Ad<|Ab Z<|Ab Z<|Aa<|Ax<|Dd (α:=Nat) (fun i=>[(1,pZ b),(2,pZ b2),(3,pZ b3),(6,vZ ks.length),(8,.func (.func f2) #[] #[pZ b]),(9,vZ (Cy ⟨lf,ks,vs,is⟩ i:Nat)),(29,vZ ks.length),(30,vZ i)]) (fun _=>[bx b T [.bool lf,kv,vv,iv],bx b3 T3 [.bool false,nV,nV,nV],bx b2 T2 [.bool false,nV,nV,nV]])
  (fun i=>i≤ks.length) (fun i=>ks.length - i) 0 ⟨Z,Z,Z,Z,Z,Z,Z,Z,trivial⟩ Z (Aez _) ?_
 rintro i ρ hi;have hpi:=hps i hi;(refine Ad<|AB Z Z<|Aa<|Ag ?_);first|refine JK rfl (fun hc=>?_) (fun hc=>?_)|refine MA rfl (fun hc=>?_) (fun hc=>?_)
 ·have hi1:i<ks.length:=by omega
  have hpi1:=hps (i+1) hi1;simp only[Cy] at hpi1;refine Ak<|Ag<|Ax<|Ad<|Ab Z<|Ab Z<|Aa<|AE<|Ab Z<|FE Z<|Ab Z<|KA 1 Z Z (h2 hn' hz i hi1) (fun r d2 L2 _ ⟨hr,hdd,hL⟩=>?_);subst hr;subst hdd;subst hL;(refine AM Z Z (by omega) (by omega)<|Ab Z<|Aa<|AE<|AM Z Z (by omega) (by omega)<|Ab Z<|Aa ?_);exact⟨i+1,by omega,⟨Z,Z,Z,Z,Z,int_eq (by simp only[Cy];omega),Z,int_eq (by omega),trivial⟩,Z,Z,hi1⟩
 obtain rfl:i=ks.length:=by omega
 apply Bd;apply Ag;apply AE;refine Ab Z<|Ab Z<|Aa<|Gw (fun ρ d' L'=>d=d'∧ρ 1=pZ b∧ρ 2=pZ b2∧ρ 3=pZ b3∧L'=[bx b T [.bool lf,kv,vv,iv],bx b3 T3 [.bool false,nV,nV,nV],bx b2 T2 [.bool false,nV,nV,nV]]∧∃a,ρ 11=vZ (a:Nat)∧a≤ks.length - 1∧atD ⟨lf,ks,vs,is⟩=a) ?_ ?_
 ·(apply Ax);refine Dd (α:=Nat) (fun i=>[(1,pZ b),(2,pZ b2),(3,pZ b3),(6,vZ ks.length),(8,.func (.func f2) #[] #[pZ b]),(9,vZ (Cy ⟨lf,ks,vs,is⟩ ks.length:Nat)),(11,vZ i),(12,vZ (Cy ⟨lf,ks,vs,is⟩ i:Nat))]) (fun _=>[bx b T [.bool lf,kv,vv,iv],bx b3 T3 [.bool false,nV,nV,nV],bx b2 T2 [.bool false,nV,nV,nV]])
   (fun i=>i≤ks.length - 1∧Hb ⟨lf,ks,vs,is⟩ (ks.length - i) i=atD ⟨lf,ks,vs,is⟩) (fun i=>ks.length - i) 0 ⟨Z,Z,Z,Z,Z,Z,Z,Z,trivial⟩ Z ⟨Aez _,Z⟩ ?_
  rintro a ρ ⟨ha,hat⟩;have hpa:=hps a (by omega);have hpl:=hps ks.length (Aef _);by_cases hc1:a<ks.length - 1
  ·by_cases hc2:2*Cy ⟨lf,ks,vs,is⟩ a<Cy ⟨lf,ks,vs,is⟩ ks.length
   ·have hpa1:=hps (a+1) (by omega);simp only[Cy] at hpa1;refine Ag<|Ad<|Ab Z<|Ab Z<|CV Z Z (by omega) (by omega)<|AB Z Z<|Ae Z<|A8 Z (by omega)<|Af Z<|Ab Z<|Af Z<|Il Z Z (by omega) (by omega)<|Af Z<|Ab Z<|Af Z<|AB Z Z<|Ay Z Z<|Aa<|Aw Z (by omega)<|Ak<|Ax<|Ad<|Ab Z<|FE Z<|Ab Z<|KA 1 Z Z (h2 hn' hz a (show a<ks.length by omega)) (fun r d2 L2 _ ⟨hr,hdd,hL⟩=>?_);subst hr;subst hdd;subst hL;(refine AM Z Z (by omega) (by omega)<|Ab Z<|Aa<|AE<|Ab Z<|AM Z Z (by omega) (by omega)<|Ab Z<|Aa ?_);exact⟨a+1,by omega,⟨Z,Z,Z,Z,Z,Z,int_eq (by omega),int_eq (by simp only[Cy];omega),trivial⟩,Z,Z,by omega,ZP _ hc1 hc2 hat⟩
   ·have hatd:=Sr _ (fun h=>hc2 h.2) hat;(refine Ag<|Ad<|Ab Z<|Ab Z<|CV Z Z (by omega) (by omega)<|AB Z Z<|Ae Z<|A8 Z (by omega)<|Af Z<|Ab Z<|Af Z<|Il Z Z (by omega) (by omega)<|Af Z<|Ab Z<|Af Z<|AB Z Z<|Ay Z Z<|Aa<|Ar Z (by omega)<|Bd ?_);exact⟨Z,Z,Z,Z,Z,a,Z,ha,hatd⟩
  ·have hatd:=Sr _ (fun h=>hc1 h.1) hat;(refine Ag<|Ad<|Ab Z<|Ab Z<|CV Z Z (by omega) (by omega)<|AB Z Z<|Ae Z<|A3 Z (by omega)<|An Z<|An Z<|An Z<|An Z<|Au Z Z<|Aa<|AS Z<|Bd ?_);exact⟨Z,Z,Z,Z,Z,a,Z,ha,hatd⟩
 rintro ρ d' L' ⟨hdd,e1,e2,e3,hL,a,e10,ha,hatd⟩;subst hdd;subst hL;refine C1 [(1,pZ b),(2,pZ b2),(3,pZ b3),(11,vZ a)] ⟨e1,e2,e3,e10,trivial⟩ ?_;(refine Ag<|Ad<|Ai Z<|Ah Z (Al 0 Z Z)<|Aa ?_);first|refine JK rfl (fun hl=>?_) (fun hl=>?_)|refine MA rfl (fun hl=>?_) (fun hl=>?_)
 ·subst hl;have hvl:vs.length=ks.length:=by
   simp only[Dt,Ba,Aec,if_true,decide_eq_true_eq] at hcan;exact hcan.1.2.1.1
  refine Ag<|Bv<|Ai Z<|Ah Z (Al 0 Z Z)<|Ab Z<|Ab Z<|Nj Z hk Z Z Z Z (show a≤ks.length by omega) (fun v1 hv1=>?_);refine Ai Z<|Ah Z (Al 0 Z Z)<|Ab Z<|Ab Z<|Nj Z hv Z Z Z Z (show a≤vs.length by omega) (fun v2 hv2=>?_);refine Bl Z (h3 hv1 (by simp;omega)) (fun u1 d1 Lk _ ⟨hdd,o1⟩=>?_);subst hdd;refine Bl Z (h3 hv2 (by simp;omega)) (fun u2 d2 Lv _ ⟨hdd,o2⟩=>?_);subst hdd;obtain⟨a1,c1,rfl⟩:=o1.val;obtain⟨a2,c2,rfl⟩:=o2.val;refine BJ (cs:=[.bool true,.slice a1 (ks.take a).length c1,.slice a2 (vs.take a).length c2,nV]) Z ?_;(apply Cd);refine BW 2 Z Z Z Z (by simp) Z ?_;refine Aa<|Ag<|Bv<|Ai Z<|Ah Z (Al 0 Z Z)<|Ab Z<|Eb Z hk Z Z (show a≤ks.length by omega) (fun v3 hv3=>?_);refine Ai Z<|Ah Z (Al 0 Z Z)<|Ab Z<|Eb Z hv Z Z (show a≤vs.length by omega) (fun v4 hv4=>?_);refine Bl Z (h3 hv3 (by simp;omega)) (fun u3 d3 Rk _ ⟨hdd,o3⟩=>?_);subst hdd;refine Bl Z (h3 hv4 (by simp;omega)) (fun u4 d4 Rv _ ⟨hdd,o4⟩=>?_);subst hdd;obtain⟨a3,c3,rfl⟩:=o3.val;obtain⟨a4,c4,rfl⟩:=o4.val;refine BJ (cs:=[.bool true,.slice a3 (ks.drop a).length c3,.slice a4 (vs.drop a).length c4,nV]) Z ?_;(apply Cd);refine BW 1 Z Z Z Z (by simp) Z ?_;have hk1:a<ks.length:=by omega
  refine Aa<|Ag<|Bw [bx b T [.bool true,kv,vv,iv]] (bx b3 T3 [.bool true,.slice a3 (ks.drop a).length c3,.slice a4 (vs.drop a).length c4,nV]::bx b2 T2 [.bool true,.slice a1 (ks.take a).length c1,.slice a2 (vs.take a).length c2,nV]::(Lv++(Lk++[])++(Rv++(Rk++[])))) Z ?_;(refine Ai Z<|Ah Z (Al 0 Z Z)<|Ab Z<|Bg (sz:=1) (R:=RBs) (by rfl) (by assumption) (by rfl) Z (by omega) ?_;rintro _ _ _ _ _ ⟨_,rfl,_⟩;apply Ah;rfl;exact BQ (by assumption) Z);rename_i w5 hw5 _ _;have hxl:(ks[a]).length*1≤140737488355328:=by have:=AJ.BF hw5;omega
  have hvs:∀(d:Ac) (g:Ac),Vs d (bx b T [.bool true,kv,vv,iv]::g::bx b3 T3 [.bool true,.slice a3 (ks.drop a).length c3,.slice a4 (vs.drop a).length c4,nV]::bx b2 T2 [.bool true,.slice a1 (ks.take a).length c1,.slice a2 (vs.take a).length c2,nV]::(Lv++(Lk++[])++(Rv++(Rk++[])))) d ((Lk++Lv++[emp])++(Rk++Rv++[emp])++[g]):=fun d g=>
   (Vs.emp.trans Vs.emp).trans (by simpa [Aeg] using Vs.Yx [[emp],[emp],[bx b T [.bool true,kv,vv,iv]],[g],[bx b3 T3 [.bool true,.slice a3 (ks.drop a).length c3,.slice a4 (vs.drop a).length c4,nV]],[bx b2 T2 [.bool true,.slice a1 (ks.take a).length c1,.slice a2 (vs.take a).length c2,nV]],Lv,Lk,Rv,Rk] [7,6,0,9,8,1,3] [2,4,5] Z)
  refine EP ?_ ?_
  ·apply Bf 2;rfl;rfl;rfl;refine EP ?_ ?_
   ·apply Bf 1;rfl;rfl;rfl;refine Bl Z (h4 (xs:=ks[a]) hw5 hxl) (fun u5 d5 Lg _ ⟨hdd,g,hLg,hg⟩=>?_);subst hdd;subst hLg;refine BW 2 Z Z Z Z (by simp) Z ?_;refine BW 1 Z Z Z Z (by simp) Z ?_;apply AR;apply Ab;rfl;apply AZ;apply Ap;refine A4 [.agg [.bool true,.slice a1 (ks.take a).length c1,.slice a2 (vs.take a).length c2,nV].toArray,.agg [.bool true,.slice a3 (ks.drop a).length c3,.slice a4 (vs.drop a).length c4,nV].toArray,u5,vZ 0] (L':=(Lk++Lv++[emp])++(Rk++Rv++[emp])++[g]) ⟨AW 3 Z Z Z,AW 2 Z Z Z,Aq Z,Aq Z,trivial⟩ (hvs _ g) ⟨Z,_,_,_,_,_,g,by rw[hcan];rfl,Z,?_⟩;simp only[A5,Be,BM,hcan,if_true,hatd];exact⟨⟨_,_,_,Lk,Lv,emp,Z,o1,o2,As.nil,Z⟩,⟨_,_,_,Rk,Rv,emp,Z,o3,o4,As.nil,Z⟩,by simpa [hk1] using hg⟩
   ·refine Bl Z (h4 (xs:=ks[a]) hw5 hxl) (fun u5 d5 Lg _ ⟨hdd,g,hLg,hg⟩=>?_);subst hdd;subst hLg;refine EP ?_ ?_
    ·apply Bf 2;rfl;rfl;rfl;refine BW 2 Z Z Z Z (by simp) Z ?_;refine BW 1 Z Z Z Z (by simp) Z ?_;apply AR;apply Ab;rfl;apply AZ;apply Ap;refine A4 [.agg [.bool true,.slice a1 (ks.take a).length c1,.slice a2 (vs.take a).length c2,nV].toArray,.agg [.bool true,.slice a3 (ks.drop a).length c3,.slice a4 (vs.drop a).length c4,nV].toArray,u5,vZ 0] (L':=(Lk++Lv++[emp])++(Rk++Rv++[emp])++[g]) ⟨AW 3 Z Z Z,AW 2 Z Z Z,Aq Z,Aq Z,trivial⟩ (hvs _ g) ⟨Z,_,_,_,_,_,g,by rw[hcan];rfl,Z,?_⟩;simp only[A5,Be,BM,hcan,if_true,hatd];exact⟨⟨_,_,_,Lk,Lv,emp,Z,o1,o2,As.nil,Z⟩,⟨_,_,_,Rk,Rv,emp,Z,o3,o4,As.nil,Z⟩,by simpa [hk1] using hg⟩
    ·refine BW 2 Z Z Z Z (by simp) Z ?_;apply Bf 2;rfl;rfl;rfl;refine BW 1 Z Z Z Z (by simp) Z ?_;apply AR;apply Ab;rfl;apply AZ;apply Ap;refine A4 [.agg [.bool true,.slice a1 (ks.take a).length c1,.slice a2 (vs.take a).length c2,nV].toArray,.agg [.bool true,.slice a3 (ks.drop a).length c3,.slice a4 (vs.drop a).length c4,nV].toArray,u5,vZ 0] (L':=(Lk++Lv++[emp])++(Rk++Rv++[emp])++[g]) ⟨AW 3 Z Z Z,AW 2 Z Z Z,Aq Z,Aq Z,trivial⟩ (hvs _ g) ⟨Z,_,_,_,_,_,g,by rw[hcan];rfl,Z,?_⟩;simp only[A5,Be,BM,hcan,if_true,hatd];exact⟨⟨_,_,_,Lk,Lv,emp,Z,o1,o2,As.nil,Z⟩,⟨_,_,_,Rk,Rv,emp,Z,o3,o4,As.nil,Z⟩,by simpa [hk1] using hg⟩
  ·refine EP ?_ ?_
   ·apply Bf 1;rfl;rfl;rfl;refine EP ?_ ?_
    ·apply Bf 2;rfl;rfl;rfl;refine Bl Z (h4 (xs:=ks[a]) hw5 hxl) (fun u5 d5 Lg _ ⟨hdd,g,hLg,hg⟩=>?_);subst hdd;subst hLg;refine BW 2 Z Z Z Z (by simp) Z ?_;refine BW 1 Z Z Z Z (by simp) Z ?_;apply AR;apply Ab;rfl;apply AZ;apply Ap;refine A4 [.agg [.bool true,.slice a1 (ks.take a).length c1,.slice a2 (vs.take a).length c2,nV].toArray,.agg [.bool true,.slice a3 (ks.drop a).length c3,.slice a4 (vs.drop a).length c4,nV].toArray,u5,vZ 0] (L':=(Lk++Lv++[emp])++(Rk++Rv++[emp])++[g]) ⟨AW 3 Z Z Z,AW 2 Z Z Z,Aq Z,Aq Z,trivial⟩ (hvs _ g) ⟨Z,_,_,_,_,_,g,by rw[hcan];rfl,Z,?_⟩;simp only[A5,Be,BM,hcan,if_true,hatd];exact⟨⟨_,_,_,Lk,Lv,emp,Z,o1,o2,As.nil,Z⟩,⟨_,_,_,Rk,Rv,emp,Z,o3,o4,As.nil,Z⟩,by simpa [hk1] using hg⟩
    ·refine Bl Z (h4 (xs:=ks[a]) hw5 hxl) (fun u5 d5 Lg _ ⟨hdd,g,hLg,hg⟩=>?_);subst hdd;subst hLg;apply Bf 3;rfl;rfl;rfl;refine BW 2 Z Z Z Z (by simp) Z ?_;refine BW 1 Z Z Z Z (by simp) Z ?_;apply AR;apply Ab;rfl;apply AZ;apply Ap;refine A4 [.agg [.bool true,.slice a1 (ks.take a).length c1,.slice a2 (vs.take a).length c2,nV].toArray,.agg [.bool true,.slice a3 (ks.drop a).length c3,.slice a4 (vs.drop a).length c4,nV].toArray,u5,vZ 0] (L':=(Lk++Lv++[emp])++(Rk++Rv++[emp])++[g]) ⟨AW 3 Z Z Z,AW 2 Z Z Z,Aq Z,Aq Z,trivial⟩ (hvs _ g) ⟨Z,_,_,_,_,_,g,by rw[hcan];rfl,Z,?_⟩;simp only[A5,Be,BM,hcan,if_true,hatd];exact⟨⟨_,_,_,Lk,Lv,emp,Z,o1,o2,As.nil,Z⟩,⟨_,_,_,Rk,Rv,emp,Z,o3,o4,As.nil,Z⟩,by simpa [hk1] using hg⟩
   ·refine Bl Z (h4 (xs:=ks[a]) hw5 hxl) (fun u5 d5 Lg _ ⟨hdd,g,hLg,hg⟩=>?_);subst hdd;subst hLg;refine EP ?_ ?_
    ·apply Bf 3;rfl;rfl;rfl;refine EP ?_ ?_
     ·apply Bf 2;rfl;rfl;rfl;refine BW 2 Z Z Z Z (by simp) Z ?_;refine BW 1 Z Z Z Z (by simp) Z ?_;apply AR;apply Ab;rfl;apply AZ;apply Ap;refine A4 [.agg [.bool true,.slice a1 (ks.take a).length c1,.slice a2 (vs.take a).length c2,nV].toArray,.agg [.bool true,.slice a3 (ks.drop a).length c3,.slice a4 (vs.drop a).length c4,nV].toArray,u5,vZ 0] (L':=(Lk++Lv++[emp])++(Rk++Rv++[emp])++[g]) ⟨AW 3 Z Z Z,AW 2 Z Z Z,Aq Z,Aq Z,trivial⟩ (hvs _ g) ⟨Z,_,_,_,_,_,g,by rw[hcan];rfl,Z,?_⟩;simp only[A5,Be,BM,hcan,if_true,hatd];exact⟨⟨_,_,_,Lk,Lv,emp,Z,o1,o2,As.nil,Z⟩,⟨_,_,_,Rk,Rv,emp,Z,o3,o4,As.nil,Z⟩,by simpa [hk1] using hg⟩
     ·refine BW 2 Z Z Z Z (by simp) Z ?_;apply Bf 2;rfl;rfl;rfl;refine BW 1 Z Z Z Z (by simp) Z ?_;apply AR;apply Ab;rfl;apply AZ;apply Ap;refine A4 [.agg [.bool true,.slice a1 (ks.take a).length c1,.slice a2 (vs.take a).length c2,nV].toArray,.agg [.bool true,.slice a3 (ks.drop a).length c3,.slice a4 (vs.drop a).length c4,nV].toArray,u5,vZ 0] (L':=(Lk++Lv++[emp])++(Rk++Rv++[emp])++[g]) ⟨AW 3 Z Z Z,AW 2 Z Z Z,Aq Z,Aq Z,trivial⟩ (hvs _ g) ⟨Z,_,_,_,_,_,g,by rw[hcan];rfl,Z,?_⟩;simp only[A5,Be,BM,hcan,if_true,hatd];exact⟨⟨_,_,_,Lk,Lv,emp,Z,o1,o2,As.nil,Z⟩,⟨_,_,_,Rk,Rv,emp,Z,o3,o4,As.nil,Z⟩,by simpa [hk1] using hg⟩
    ·apply Bf 2;rfl;rfl;rfl;apply Bf 3;rfl;rfl;rfl;refine BW 2 Z Z Z Z (by simp) Z ?_;refine BW 1 Z Z Z Z (by simp) Z ?_;apply AR;apply Ab;rfl;apply AZ;apply Ap;refine A4 [.agg [.bool true,.slice a1 (ks.take a).length c1,.slice a2 (vs.take a).length c2,nV].toArray,.agg [.bool true,.slice a3 (ks.drop a).length c3,.slice a4 (vs.drop a).length c4,nV].toArray,u5,vZ 0] (L':=(Lk++Lv++[emp])++(Rk++Rv++[emp])++[g]) ⟨AW 3 Z Z Z,AW 2 Z Z Z,Aq Z,Aq Z,trivial⟩ (hvs _ g) ⟨Z,_,_,_,_,_,g,by rw[hcan];rfl,Z,?_⟩;simp only[A5,Be,BM,hcan,if_true,hatd];exact⟨⟨_,_,_,Lk,Lv,emp,Z,o1,o2,As.nil,Z⟩,⟨_,_,_,Rk,Rv,emp,Z,o3,o4,As.nil,Z⟩,by simpa [hk1] using hg⟩
 ·subst hl;have hil:is.length=ks.length+1:=by
   simp only[Dt,Ba,Aec,Aeh,if_false,decide_eq_true_eq] at hcan;exact hcan.1.2.1.2
  have hk3:3≤ks.length:=by
   simp only[Dt,Aec,Aeh,if_false,decide_eq_true_eq] at hcan;exact hcan.2
  apply Ak;refine Gw (fun ρ d' L'=>d=d'∧ρ 1=pZ b∧ρ 2=pZ b2∧ρ 3=pZ b3∧L'=[bx b T [.bool false,kv,vv,iv],bx b3 T3 [.bool false,nV,nV,nV],bx b2 T2 [.bool false,nV,nV,nV]]∧ρ 11=vZ (at2 ⟨false,ks,vs,is⟩:Nat)) ?_ ?_
  ·(refine AE<|Ab Z<|Aby Z Z<|Ab Z<|Aa ?_);exact⟨Z,Z,Z,Z,Z,int_eq (by simp only[at2,hatd];omega)⟩
  rintro ρ d' L' ⟨hdd,e1,e2,e3,hL,e10⟩;subst hdd;subst hL;refine C1 [(1,pZ b),(2,pZ b2),(3,pZ b3),(11,vZ (at2 ⟨false,ks,vs,is⟩:Nat))] ⟨e1,e2,e3,e10,trivial⟩ ?_;obtain⟨m,hm⟩:∃m,at2 ⟨false,ks,vs,is⟩=m+1:=⟨at2 ⟨false,ks,vs,is⟩ - 1,by simp only[at2];omega⟩
  have hm2:m+1≤ks.length - 1:=by rw[←hm];simp only[at2,hatd];omega
  rw[hm];refine Ag<|Bv<|Ai Z<|Ah Z (Al 0 Z Z)<|Ab Z<|CV Z Z (by omega) (by omega)<|Ab Z<|CV Z Z (by omega) (by omega)<|Nj Z hk Z Z (show((m+1:Nat):Int) - 1=(m:Int) by omega) (show((m+1:Nat):Int) - 1=(m:Int) by omega) (show m≤ks.length by omega) (fun v1 hv1=>?_);refine Ai Z<|Ah Z (Al 0 Z Z)<|Ab Z<|Ab Z<|Nj Z hiv Z Z Z Z (show m+1≤is.length by omega) (fun v2 hv2=>?_);refine Bl Z (h3 hv1 (by simp;omega)) (fun u1 d1 Lk _ ⟨hdd,o1⟩=>?_);subst hdd;refine Bl Z (h5 hv2 (by simp;omega)) (fun u2 d2 Lgl _ ⟨hdd,gl,hLgl,o2⟩=>?_);subst hdd;subst hLgl;obtain⟨a1,c1,rfl⟩:=o1.val;obtain⟨a2,c2,rfl⟩:=o2.val;refine BJ (cs:=[.bool false,.slice a1 (ks.take m).length c1,nV,.slice a2 (is.take (m+1)).length c2]) Z ?_;(apply Cd);refine BW 2 Z Z Z Z (by simp) Z ?_;refine Aa<|Ag<|Bv<|Ai Z<|Ah Z (Al 0 Z Z)<|Ab Z<|Eb Z hk Z Z (show m+1≤ks.length by omega) (fun v3 hv3=>?_);refine Ai Z<|Ah Z (Al 0 Z Z)<|Ab Z<|Eb Z hiv Z Z (show m+1≤is.length by omega) (fun v4 hv4=>?_);refine Bl Z (h3 hv3 (by simp;omega)) (fun u3 d3 Rk _ ⟨hdd,o3⟩=>?_);subst hdd;refine Bl Z (h5 hv4 (by simp;omega)) (fun u4 d4 Lgr _ ⟨hdd,gr,hLgr,o4⟩=>?_);subst hdd;subst hLgr;obtain⟨a3,c3,rfl⟩:=o3.val;obtain⟨a4,c4,rfl⟩:=o4.val;refine BJ (cs:=[.bool false,.slice a3 (ks.drop (m+1)).length c3,nV,.slice a4 (is.drop (m+1)).length c4]) Z ?_;(apply Cd);refine BW 1 Z Z Z Z (by simp) Z ?_;have hk1:m<ks.length:=by omega
  refine Aa<|Ag<|Bw [bx b T [.bool false,kv,vv,iv]] (bx b3 T3 [.bool false,.slice a3 (ks.drop (m+1)).length c3,nV,.slice a4 (is.drop (m+1)).length c4]::bx b2 T2 [.bool false,.slice a1 (ks.take m).length c1,nV,.slice a2 (is.take (m+1)).length c2]::((gl::(Lk++[]))++(gr::(Rk++[])))) Z ?_;refine Ai Z<|Ah Z (Al 0 Z Z)<|Ab Z<|CV Z Z (by omega) (by omega)<|Bg (sz:=1) (R:=RBs) (m:=m) Z hk Z (by omega) hk1 ?_;rintro b5 o5 _ _ hD5 ⟨w5,rfl,hw5⟩;(apply Ah;rfl;exact BQ (by assumption) Z);have hxl:(ks[m]).length*1≤140737488355328:=by have:=AJ.BF hw5;omega
  have hvs:∀(d:Ac) (g:Ac),Vs d (bx b T [.bool false,kv,vv,iv]::g::bx b3 T3 [.bool false,.slice a3 (ks.drop (m+1)).length c3,nV,.slice a4 (is.drop (m+1)).length c4]::bx b2 T2 [.bool false,.slice a1 (ks.take m).length c1,nV,.slice a2 (is.take (m+1)).length c2]::((gl::(Lk++[]))++(gr::(Rk++[])))) d ((Lk++[emp]++[gl])++(Rk++[emp]++[gr])++[g]):=fun d g=>
   (Vs.emp.trans Vs.emp).trans (by simpa [Aeg] using Vs.Yx [[emp],[emp],[bx b T [.bool false,kv,vv,iv]],[g],[bx b3 T3 [.bool false,.slice a3 (ks.drop (m+1)).length c3,nV,.slice a4 (is.drop (m+1)).length c4]],[bx b2 T2 [.bool false,.slice a1 (ks.take m).length c1,nV,.slice a2 (is.take (m+1)).length c2]],[gl],Lk,[gr],Rk] [7,0,6,9,1,8,3] [2,4,5] Z)
  refine EP ?_ ?_
  ·apply Bf 2;rfl;rfl;rfl;refine EP ?_ ?_
   ·apply Bf 1;rfl;rfl;rfl;refine Bl Z (h4 (xs:=ks[m]) hw5 hxl) (fun u5 d5 Lg _ ⟨hdd,g,hLg,hg⟩=>?_);subst hdd;subst hLg;refine BW 2 Z Z Z Z (by simp) Z ?_;refine BW 1 Z Z Z Z (by simp) Z ?_;apply AR;apply Ab;rfl;apply AZ;apply Ap;refine A4 [.agg [.bool false,.slice a1 (ks.take m).length c1,nV,.slice a2 (is.take (m+1)).length c2].toArray,.agg [.bool false,.slice a3 (ks.drop (m+1)).length c3,nV,.slice a4 (is.drop (m+1)).length c4].toArray,u5,vZ 0] (L':=(Lk++[emp]++[gl])++(Rk++[emp]++[gr])++[g]) ⟨AW 3 Z Z Z,AW 2 Z Z Z,Aq Z,Aq Z,trivial⟩ (hvs _ g) ⟨Z,_,_,_,_,_,g,by rw[hcan];rfl,Z,?_⟩;simp only[A5,Be,BM,hcan,if_true,hm,Aeh,if_false,Agv];exact⟨⟨_,_,_,Lk,[emp],gl,Z,o1,Dy.nil,o2,Z⟩,⟨_,_,_,Rk,[emp],gr,Z,o3,Dy.nil,o4,Z⟩,by simpa [hk1] using hg⟩
   ·refine Bl Z (h4 (xs:=ks[m]) hw5 hxl) (fun u5 d5 Lg _ ⟨hdd,g,hLg,hg⟩=>?_);subst hdd;subst hLg;refine EP ?_ ?_
    ·apply Bf 2;rfl;rfl;rfl;refine BW 2 Z Z Z Z (by simp) Z ?_;refine BW 1 Z Z Z Z (by simp) Z ?_;apply AR;apply Ab;rfl;apply AZ;apply Ap;refine A4 [.agg [.bool false,.slice a1 (ks.take m).length c1,nV,.slice a2 (is.take (m+1)).length c2].toArray,.agg [.bool false,.slice a3 (ks.drop (m+1)).length c3,nV,.slice a4 (is.drop (m+1)).length c4].toArray,u5,vZ 0] (L':=(Lk++[emp]++[gl])++(Rk++[emp]++[gr])++[g]) ⟨AW 3 Z Z Z,AW 2 Z Z Z,Aq Z,Aq Z,trivial⟩ (hvs _ g) ⟨Z,_,_,_,_,_,g,by rw[hcan];rfl,Z,?_⟩;simp only[A5,Be,BM,hcan,if_true,hm,Aeh,if_false,Agv];exact⟨⟨_,_,_,Lk,[emp],gl,Z,o1,Dy.nil,o2,Z⟩,⟨_,_,_,Rk,[emp],gr,Z,o3,Dy.nil,o4,Z⟩,by simpa [hk1] using hg⟩
    ·refine BW 2 Z Z Z Z (by simp) Z ?_;apply Bf 2;rfl;rfl;rfl;refine BW 1 Z Z Z Z (by simp) Z ?_;apply AR;apply Ab;rfl;apply AZ;apply Ap;refine A4 [.agg [.bool false,.slice a1 (ks.take m).length c1,nV,.slice a2 (is.take (m+1)).length c2].toArray,.agg [.bool false,.slice a3 (ks.drop (m+1)).length c3,nV,.slice a4 (is.drop (m+1)).length c4].toArray,u5,vZ 0] (L':=(Lk++[emp]++[gl])++(Rk++[emp]++[gr])++[g]) ⟨AW 3 Z Z Z,AW 2 Z Z Z,Aq Z,Aq Z,trivial⟩ (hvs _ g) ⟨Z,_,_,_,_,_,g,by rw[hcan];rfl,Z,?_⟩;simp only[A5,Be,BM,hcan,if_true,hm,Aeh,if_false,Agv];exact⟨⟨_,_,_,Lk,[emp],gl,Z,o1,Dy.nil,o2,Z⟩,⟨_,_,_,Rk,[emp],gr,Z,o3,Dy.nil,o4,Z⟩,by simpa [hk1] using hg⟩
  ·refine EP ?_ ?_
   ·apply Bf 1;rfl;rfl;rfl;refine EP ?_ ?_
    ·apply Bf 2;rfl;rfl;rfl;refine Bl Z (h4 (xs:=ks[m]) hw5 hxl) (fun u5 d5 Lg _ ⟨hdd,g,hLg,hg⟩=>?_);subst hdd;subst hLg;refine BW 2 Z Z Z Z (by simp) Z ?_;refine BW 1 Z Z Z Z (by simp) Z ?_;apply AR;apply Ab;rfl;apply AZ;apply Ap;refine A4 [.agg [.bool false,.slice a1 (ks.take m).length c1,nV,.slice a2 (is.take (m+1)).length c2].toArray,.agg [.bool false,.slice a3 (ks.drop (m+1)).length c3,nV,.slice a4 (is.drop (m+1)).length c4].toArray,u5,vZ 0] (L':=(Lk++[emp]++[gl])++(Rk++[emp]++[gr])++[g]) ⟨AW 3 Z Z Z,AW 2 Z Z Z,Aq Z,Aq Z,trivial⟩ (hvs _ g) ⟨Z,_,_,_,_,_,g,by rw[hcan];rfl,Z,?_⟩;simp only[A5,Be,BM,hcan,if_true,hm,Aeh,if_false,Agv];exact⟨⟨_,_,_,Lk,[emp],gl,Z,o1,Dy.nil,o2,Z⟩,⟨_,_,_,Rk,[emp],gr,Z,o3,Dy.nil,o4,Z⟩,by simpa [hk1] using hg⟩
    ·refine Bl Z (h4 (xs:=ks[m]) hw5 hxl) (fun u5 d5 Lg _ ⟨hdd,g,hLg,hg⟩=>?_);subst hdd;subst hLg;apply Bf 3;rfl;rfl;rfl;refine BW 2 Z Z Z Z (by simp) Z ?_;refine BW 1 Z Z Z Z (by simp) Z ?_;apply AR;apply Ab;rfl;apply AZ;apply Ap;refine A4 [.agg [.bool false,.slice a1 (ks.take m).length c1,nV,.slice a2 (is.take (m+1)).length c2].toArray,.agg [.bool false,.slice a3 (ks.drop (m+1)).length c3,nV,.slice a4 (is.drop (m+1)).length c4].toArray,u5,vZ 0] (L':=(Lk++[emp]++[gl])++(Rk++[emp]++[gr])++[g]) ⟨AW 3 Z Z Z,AW 2 Z Z Z,Aq Z,Aq Z,trivial⟩ (hvs _ g) ⟨Z,_,_,_,_,_,g,by rw[hcan];rfl,Z,?_⟩;simp only[A5,Be,BM,hcan,if_true,hm,Aeh,if_false,Agv];exact⟨⟨_,_,_,Lk,[emp],gl,Z,o1,Dy.nil,o2,Z⟩,⟨_,_,_,Rk,[emp],gr,Z,o3,Dy.nil,o4,Z⟩,by simpa [hk1] using hg⟩
   ·refine Bl Z (h4 (xs:=ks[m]) hw5 hxl) (fun u5 d5 Lg _ ⟨hdd,g,hLg,hg⟩=>?_);subst hdd;subst hLg;refine EP ?_ ?_
    ·apply Bf 3;rfl;rfl;rfl;refine EP ?_ ?_
     ·apply Bf 2;rfl;rfl;rfl;refine BW 2 Z Z Z Z (by simp) Z ?_;refine BW 1 Z Z Z Z (by simp) Z ?_;apply AR;apply Ab;rfl;apply AZ;apply Ap;refine A4 [.agg [.bool false,.slice a1 (ks.take m).length c1,nV,.slice a2 (is.take (m+1)).length c2].toArray,.agg [.bool false,.slice a3 (ks.drop (m+1)).length c3,nV,.slice a4 (is.drop (m+1)).length c4].toArray,u5,vZ 0] (L':=(Lk++[emp]++[gl])++(Rk++[emp]++[gr])++[g]) ⟨AW 3 Z Z Z,AW 2 Z Z Z,Aq Z,Aq Z,trivial⟩ (hvs _ g) ⟨Z,_,_,_,_,_,g,by rw[hcan];rfl,Z,?_⟩;simp only[A5,Be,BM,hcan,if_true,hm,Aeh,if_false,Agv];exact⟨⟨_,_,_,Lk,[emp],gl,Z,o1,Dy.nil,o2,Z⟩,⟨_,_,_,Rk,[emp],gr,Z,o3,Dy.nil,o4,Z⟩,by simpa [hk1] using hg⟩
     ·refine BW 2 Z Z Z Z (by simp) Z ?_;apply Bf 2;rfl;rfl;rfl;refine BW 1 Z Z Z Z (by simp) Z ?_;apply AR;apply Ab;rfl;apply AZ;apply Ap;refine A4 [.agg [.bool false,.slice a1 (ks.take m).length c1,nV,.slice a2 (is.take (m+1)).length c2].toArray,.agg [.bool false,.slice a3 (ks.drop (m+1)).length c3,nV,.slice a4 (is.drop (m+1)).length c4].toArray,u5,vZ 0] (L':=(Lk++[emp]++[gl])++(Rk++[emp]++[gr])++[g]) ⟨AW 3 Z Z Z,AW 2 Z Z Z,Aq Z,Aq Z,trivial⟩ (hvs _ g) ⟨Z,_,_,_,_,_,g,by rw[hcan];rfl,Z,?_⟩;simp only[A5,Be,BM,hcan,if_true,hm,Aeh,if_false,Agv];exact⟨⟨_,_,_,Lk,[emp],gl,Z,o1,Dy.nil,o2,Z⟩,⟨_,_,_,Rk,[emp],gr,Z,o3,Dy.nil,o4,Z⟩,by simpa [hk1] using hg⟩
    ·apply Bf 2;rfl;rfl;rfl;apply Bf 3;rfl;rfl;rfl;refine BW 2 Z Z Z Z (by simp) Z ?_;refine BW 1 Z Z Z Z (by simp) Z ?_;apply AR;apply Ab;rfl;apply AZ;apply Ap;refine A4 [.agg [.bool false,.slice a1 (ks.take m).length c1,nV,.slice a2 (is.take (m+1)).length c2].toArray,.agg [.bool false,.slice a3 (ks.drop (m+1)).length c3,nV,.slice a4 (is.drop (m+1)).length c4].toArray,u5,vZ 0] (L':=(Lk++[emp]++[gl])++(Rk++[emp]++[gr])++[g]) ⟨AW 3 Z Z Z,AW 2 Z Z Z,Aq Z,Aq Z,trivial⟩ (hvs _ g) ⟨Z,_,_,_,_,_,g,by rw[hcan];rfl,Z,?_⟩;simp only[A5,Be,BM,hcan,if_true,hm,Aeh,if_false,Agv];exact⟨⟨_,_,_,Lk,[emp],gl,Z,o1,Dy.nil,o2,Z⟩,⟨_,_,_,Rk,[emp],gr,Z,o3,Dy.nil,o4,Z⟩,by simpa [hk1] using hg⟩
end Go.Gk.Node
end
section
namespace Go.Gk.Node
open Go Go.Gk
section
attribute [local irreducible] gwp gws
end
end Go.Gk.Node
end
section
namespace Go.Gk.Node
open Go Go.Gk
attribute [local irreducible] gwp gws
variable{f f1:FuncId}{lf:Bool}
def Ff(P:Program)(f:FuncId):Prop:=∀{d}{b:Nat}{T v l},AJ d v l→∀n:Nat,n≤255→
 AA P f [pZ b,vZ n] d [bx b T [v]] (Ret fun r d' L'=>d'=d∧((l.length<n∧r=.tuple #[nV,.bool false]∧L'=[bx b T [v]])∨
  (n≤l.length∧∃u v' g,r=.tuple #[u,.bool true]∧L'=[g,bx b T [v']]∧As 1 AH d u (l.take n) g∧AJ d v' (l.drop n))))
def Wk(a0:Nat):A0:=⟨27,[(.tmp 4),(.tmp 5)],(sR (o1 4 (.mv nS)<|o1 5 (.mv (.const (.bool false))) .done) (.seq (sR (om 7 1<|om 8 0<|o1 9 (.nilc 8)<|ol 10 9<|oL 11 10<|ob 12 .gtr 7 11 .done) (.cond 12 (sR (o1 4 (.mv nS)<|o1 5 (.mv (.const (.bool false))) .done) .ret) .skip)) (sR (om 13 0<|o1 14 (.nilc 13)<|ol 15 14<|om 16 1<|o1 17 (.sl 1 15 none (some 16) none)<|oc 18 a0 [17]<|om 6 18 .done) (sR (om 19 0<|om 20 0<|o1 21 (.nilc 20)<|ol 22 21<|om 23 1<|o1 24 (.sl 1 22 (some 23) none none)<|o1 25 (.nilc 19)<|o0 (.st 1 25 24) .done) (sR (om 26 6<|om 4 26<|o1 5 (.mv (.const (.bool true))) .done) .ret)))))⟩
def J6{P}(hd:dec P f=some (Wk f1))(h1:DX AH 1 P f1):Ff P f:=by
 intro d b T v l hv n hn;have hll:=AJ.BF hv;refine AG hd (Aea Z) ?_;show gwp P _ _ _ _ _;(refine Ad<|Aj Z<|Ae Z<|Aa<|Ag<|Ad<|Ab Z<|Am Z<|AF Z<|Ah Z (Al 0 Z Z)<|BI Z (by assumption)<|Bx Z Z<|Aa ?_);first|refine JK rfl (fun hc=>?_) (fun hc=>?_)|refine MA rfl (fun hc=>?_) (fun hc=>?_)
 ·(refine Ad<|Aj Z<|Ae Z<|Aa<|Ap ?_);exact Cw (L':=[bx b T [v]]) Z Z (Aeb _) ⟨Z,.inl ⟨by omega,Z,Z⟩⟩
 ·refine Ak<|Ad<|Am Z<|AF Z<|Ah Z (Al 0 Z Z)<|Ab Z<|Qt Z hv Z Z (show n≤l.length by omega) (fun v1 hv1=>?_);refine Bl Z (h1 hv1 (by simp;omega)) (fun u d1 L1 _ ⟨hdd,g,hL,hg⟩=>?_);subst hdd;subst hL;refine AR<|Aa<|Ad<|Am Z<|Am Z<|AF Z<|Ah Z (Al 1 Z Z)<|Ab Z<|Eb Z hv Z Z (show n≤l.length by omega) (fun v2 hv2=>?_);obtain⟨a2,c2,rfl⟩:=RSl.val hv2;(apply AF;rfl);refine BW 1 Z Z Z Z (by simp) Z ?_;(refine Aa<|Ad<|AR<|AR<|Ae Z<|Aa<|Ap ?_);exact Cw (L':=[g,bx b T [.slice a2 (l.drop n).length c2]]) Z Z (Aeb _) ⟨Z,.inr ⟨by omega,_,_,_,Z,Z,hg,hv2⟩⟩
def Gn:List UInt8→Option (List UInt8×List UInt8)
 |[]=>none
 |x::r=>if r.length<x.toNat then none else some (r.take x.toNat,r.drop x.toNat)
def No(P:Program)(f:FuncId):Prop:=∀{d}{b:Nat}{T v l},AJ d v l→
 AA P f [pZ b] d [bx b T [v]] (Ret fun r d' L'=>d'=d∧((Gn l=none∧r=.tuple #[nV,.bool false]∧∃v',L'=[bx b T [v']])∨
  (∃x rest u v' g,Gn l=some (x,rest)∧r=.tuple #[u,.bool true]∧L'=[g,bx b T [v']]∧As 1 AH d u x g∧AJ d v' rest)))
def UJ(a0:Nat):A0:=⟨21,[(.tmp 2),(.tmp 3)],(sR (o1 2 (.mv nS)<|o1 3 (.mv (.const (.bool false))) .done) (sR (om 7 0<|oc 8 a0 [7,z1]<|om 6 8<|oe 9 6 0<|oe 10 6 1<|om 4 9<|om 5 10 .done) (.seq (sR (om 11 5<|o1 12 (.un .not 11) .done) (.cond 12 (sR (o1 2 (.mv nS)<|o1 3 (.mv (.const (.bool false))) .done) .ret) .skip)) (sR (om 13 0<|om 14 4<|o1 15 (.idx 1 14 z0)<|ol 16 15<|o1 17 (.cvi .i64 16)<|oc 18 a0 [13,17]<|oe 19 18 0<|oe 20 18 1<|om 2 19<|om 3 20 .done) .ret))))⟩
def VH{P}(hd:dec P f=some (UJ f1))(h1:Ff P f1):No P f:=by
 intro d b T v l hv;refine AG hd (Aea Z) ?_;show gwp P _ _ _ _ _;refine Ad<|Aj Z<|Ae Z<|Aa<|Ad<|Am Z<|FI 1 Z (h1 hv 1 (by omega)) (fun r d1 L1 _ ⟨hdd,hr⟩=>?_);subst hdd;rcases hr with ⟨hl,hr,hL⟩|⟨hl,u,v',g,hr,hL,hg,hv'⟩
 ·subst hr;subst hL;obtain rfl:l=[]:=Ael (by omega);(refine AT Z<|Ao Z Z<|Ao Z Z<|Aj Z<|Ae Z<|Aa<|Ag<|Ad<|Ae Z<|Bn Z<|Aa<|Bc Z<|Ad<|Aj Z<|Ae Z<|Aa<|Ap ?_);exact Cw (L':=[bx b T [v]]) Z Z (Aeb _) ⟨Z,.inl ⟨Z,Z,v,Z⟩⟩
 ·subst hr;subst hL;cases l with
  |nil=>simp at hl
  |cons x l=>
   have hx:x.toNat<256:=UInt8.toNat_lt x
   obtain⟨gb,gT,gl,gc,e1,rfl,hop⟩:=hg.Dn (m:=0) (by simp)
   subst e1
   have hg0:gl[0]?=some (Av x):=by simpa using hop.2.1
   (refine AT Z<|Ao Z Z<|Ao Z Z<|Aj Z<|Ae Z<|Aa<|Ag<|Ad<|Ae Z<|Bn Z<|Aa<|AS Z<|Ak<|Ad<|Am Z<|Aj Z ?_)
   refine Ms 0 Z Z Z (by simp) ?_
   (apply Ah;rfl;exact Al 0 Z hg0)
   (apply Ep;rfl;omega;omega)
   refine BS _ [bx b T [v']] (Vs.drop (Afd _ _)) ?_
   refine FI 1 Z (h1 hv' x.toNat (by omega)) (fun r d2 L2 _ ⟨hdd,hr⟩=>?_)
   subst hdd
   have hv2:(List.drop 1 (x::l))=l:=Z
   rw[hv2] at hr
   rcases hr with ⟨hl2,hr,hL⟩|⟨hl2,u2,v2,g2,hr,hL,hg2,hv2'⟩
   ·subst hr;subst hL
    (refine Ao Z Z<|Ao Z Z<|Aj Z<|Ae Z<|Aa<|Ap ?_)
    exact Cw (L':=[bx b T [v']]) Z Z (Aeb _) ⟨Z,.inl ⟨by simp[Gn,hl2],Z,v',Z⟩⟩
   ·subst hr;subst hL
    (refine Ao Z Z<|Ao Z Z<|AR<|Ae Z<|Aa<|Ap ?_)
    exact Cw (L':=[g2,bx b T [v2]]) Z Z (Aeb _) ⟨Z,.inr ⟨l.take x.toNat,l.drop x.toNat,u2,v2,g2,by simp[Gn];omega,Z,Z,hg2,hv2'⟩⟩
def KJ:List UInt8→Option (Nat×List UInt8)
 |a::b::r=>some (a.toNat*256+b.toNat,r)
 |_=>none
def SP(P:Program)(f:FuncId):Prop:=∀{d}{b:Nat}{T v l},AJ d v l→
 AA P f [pZ b] d [bx b T [v]] (Ret fun r d' L'=>d'=d∧((KJ l=none∧r=.tuple #[vZ 0,.bool false]∧∃v',L'=[bx b T [v']])∨
  (∃x rest v',KJ l=some (x,rest)∧r=.tuple #[vZ (x:Nat),.bool true]∧L'=[bx b T [v']]∧AJ d v' rest)))
def XH(a0:Nat):A0:=⟨23,[(.tmp 2),(.tmp 3)],(sR (o1 2 (.mv z0)<|o1 3 (.mv (.const (.bool false))) .done) (sR (om 7 0<|oc 8 a0 [7,z2]<|om 6 8<|oe 9 6 0<|oe 10 6 1<|om 4 9<|om 5 10 .done) (.seq (sR (om 11 5<|o1 12 (.un .not 11) .done) (.cond 12 (sR (o1 2 (.mv z0)<|o1 3 (.mv (.const (.bool false))) .done) .ret) .skip)) (.seq (.reg true (pm 13 4<|p1 14 (.idx 1 13 z0)<|pl 15 14<|p1 16 (.cvi .i64 15)<|p1 17 (.bin .shl 16 (.const (.int .u64 8)))<|pm 18 4<|p1 19 (.idx 1 18 z1)<|pl 20 19<|p1 21 (.cvi .i64 20)<|p1 22 (.bin .or 17 21) (.bar (pm 2 22 (p1 3 (.mv (.const (.bool true))) .done))))) .ret))))⟩
def Z0{P}(hd:dec P f=some (XH f1))(h1:Ff P f1):SP P f:=by
 intro d b T v l hv;refine AG hd (Aea Z) ?_;show gwp P _ _ _ _ _;refine Ad<|Ab Z<|Ae Z<|Aa<|Ad<|Am Z<|FI 1 Z (h1 hv 2 (by omega)) (fun r d1 L1 _ ⟨hdd,hr⟩=>?_);subst hdd;rcases hr with ⟨hl,hr,hL⟩|⟨hl,u,v',g,hr,hL,hg,hv'⟩
 ·subst hr;subst hL;have hk:KJ l=none:=by
   match l,hl with
   |[],_=>rfl
   |[a],_=>rfl
  (refine AT Z<|Ao Z Z<|Ao Z Z<|Aj Z<|Ae Z<|Aa<|Ag<|Ad<|Ae Z<|Bn Z<|Aa<|Bc Z<|Ad<|Ab Z<|Ae Z<|Aa<|Ap ?_);exact Cw (L':=[bx b T [v]]) Z Z (Aeb _) ⟨Z,.inl ⟨hk,Z,v,Z⟩⟩
 ·subst hr;subst hL;match l,hl,hg,hv' with
  |x::y::l,hl,hg,hv'=>
   have hx:x.toNat<256:=UInt8.toNat_lt x
   have hy:y.toNat<256:=UInt8.toNat_lt y
   have hop1:=hg.Dn (m:=1) (by simp)
   obtain⟨gb,gT,gl,gc,e1,rfl,hop⟩:=hg.Dn (m:=0) (by simp)
   subst e1
   have hg0:gl[0]?=some (Av x):=by simpa using hop.2.1
   have hg1:gl[1]?=some (Av y):=by
    obtain⟨gb1,gT1,gl1,gc1,e2,e3,hop1⟩:=hop1;have h4:=congrFun (congrFun e3 gb1) (.cells gl1.toArray gT1 (0,0));have h5:bx gb1 gT1 gl1 gb1 (.cells gl1.toArray gT1 (0,0)):=CN _ _;rw[←h4] at h5;have h6:=(Hx h5).2;simp only[Obj.cells.injEq] at h6;have h7:gl1=gl:=by have:=congrArg Array.toList h6.1;simpa using this
    rw[←h7];simpa using hop1.2.1
   (refine AT Z<|Ao Z Z<|Ao Z Z<|Aj Z<|Ae Z<|Aa<|Ag<|Ad<|Ae Z<|Bn Z<|Aa<|AS Z<|Ak<|Ag<|Bv<|Aj Z ?_)
   refine Ms 0 Z Z Z (by simp) ?_
   (apply Ah;rfl;exact Al 0 Z hg0)
   (apply Ep;rfl;omega;omega)
   refine UL (a:=x.toNat) Z Z (by omega) ?_
   (apply Aj;rfl)
   refine Ms 1 Z Z Z (by simp) ?_
   (apply Ah;rfl;exact Al 0 Z hg1)
   (apply Ep;rfl;omega;omega)
   refine SU (a:=x.toNat) (b:=y.toNat) Z Z (by omega) hy ?_
   (refine Cd<|Ab Z<|Ae Z<|Aa<|Ap ?_)
   exact Cw (L':=[bx b T [v']]) Z Z (Afd _ _) ⟨Z,.inr ⟨_,l,v',Z,Z,Z,hv'⟩⟩
section
def CQ(lf:Bool)(l0:List UInt8)(is0:List Int):Nat→Option (List (List UInt8)×List (List UInt8)×List Int×List UInt8)
 |0=>some ([],[],is0,l0)
 |k+1=>match CQ lf l0 is0 k with
  |none=>none
  |some (ks,vs,is,l)=>match Gn l with
   |none=>none
   |some (x,l1)=>match lf with
    |true=>match Gn l1 with
     |none=>none
     |some (y,l2)=>some (ks++[x],vs++[y],is,l2)
    |false=>match KJ l1 with
     |none=>none
     |some (m,l2)=>some (ks++[x],vs,is++[(m:Int)],l2)
def Wd{l0}{is0:List Int}{k:Nat}(h:CQ lf l0 is0 k=none):∀{m:Nat},k≤m→CQ lf l0 is0 m=none:=by
 intro m hm;induction hm with
 |refl=>exact h
 |step _ ih=>simp[CQ,ih]
def Gq(lf:Bool)(l:List UInt8):Option (List Int×List UInt8):=match lf with
 |true=>some ([],l)
 |false=>match KJ l with
  |none=>none
  |some (m,r)=>some ([(m:Int)],r)
def FF(b:List UInt8):Option AK:=
 match Gq (b.getD 0 0==1) (b.drop 2) with
 |none=>none
 |some (is0,l0)=>match CQ (b.getD 0 0==1) l0 is0 (b.getD 1 0).toNat with
  |none=>none
  |some (ks,vs,is,_)=>some ⟨b.getD 0 0==1,ks,vs,is⟩
def Qr{l0}{is0:List Int}:∀{k:Nat}{ks vs is l},CQ lf l0 is0 k=some (ks,vs,is,l)→ks.length=k∧vs.length≤k∧is.length≤is0.length+k:=by
 intro k;induction k with
 |zero=>intro ks vs is l h;simp only[CQ,Option.some.injEq,Prod.mk.injEq] at h;obtain⟨rfl,rfl,rfl,rfl⟩:=h;simp
 |succ k ih=>
  intro ks vs is l h
  simp only[CQ] at h
  split at h
  ·cases h
  ·rename_i ks' vs' is' l' e
   have:=ih e
   split at h
   ·cases h
   ·split at h
    ·split at h
     ·cases h
     ·simp only[Option.some.injEq,Prod.mk.injEq] at h;obtain⟨rfl,rfl,rfl,rfl⟩:=h;simp;omega
    ·split at h
     ·cases h
     ·simp only[Option.some.injEq,Prod.mk.injEq] at h;obtain⟨rfl,rfl,rfl,rfl⟩:=h;simp;omega
def OB(d:Ac)(v:Value)(xs:List (List UInt8))(h0:Ac)(hs:List Ac):Prop:=∃us,BV 1 v xs.length us h0∧hs.length=xs.length∧∀i (hi:i<xs.length),∃u g,us[i]?=some u∧hs[i]?=some g∧As 1 AH d u xs[i] g
def OB.nil{d}:OB d nV [] emp []:=⟨[],BV.nil 1,Z,fun i hi=>absurd hi (Ahc i)⟩
def OB.Aa5{d v xs h0 hs}(o:OB d v xs h0 hs):Dy d v xs (h0::hs):=let ⟨us,a,b,c⟩:=o;⟨us,h0,hs,a,b,c,Z⟩
def OB.val{d v xs h0 hs}(o:OB d v xs h0 hs):∃a c,v=.slice a xs.length c:=o.Aa5.val
section
variable {P:Program}{pan:List PanicEntry→AU}{Qn:Env→AU}{Ls L:List Ac}{ρ:Env}{d:Ac}{s:GS}{t:Nat}
def Wy{by_:Nat}{z x y}(i:Nat){v xs h0 hs}{b:Nat}{T u g l}(ex:ev ρ x=v)(hi:L[i]?=some h0)(o:OB d v xs h0 hs)
  (ey:ev ρ y=.slice (some ⟨b,0,none⟩) 1 1) (og:As 1 AH d u l g) (hm:xs.length+1≤140737488355328) (hb:(xs.length+1)*by_≤140737488355328)
  (k:∀v' h',OB d v' (xs++[l]) h' (hs++[g])→gws P pan Qn s Ls (upd ρ t v') d (L.set i h')):gws P pan Qn (.op false ⟨some t,none,.app 1 by_ z x y⟩ s) Ls ρ d (bx b T [u]::L):=by
 obtain⟨us,o1,o2,o3⟩:=o
 have hul:=o1.1
 obtain⟨a,c,rfl⟩:=og.val
 refine Xy i ex hi o1 ey Z Z (by omega) hm hb (fun v' h' o'=>k v' h' ⟨us++[.slice a l.length c],by simpa using o',by simp[o2],fun j hj=>?_⟩)
 by_cases e:j<xs.length
 ·obtain⟨u',g',e1,e2,e3⟩:=o3 j e
  exact⟨u',g',by rw[Afy (by omega)];exact e1,by rw[Afy (by omega)];exact e2,by rw[List.getElem_append_left e];exact e3⟩
 ·obtain rfl:j=xs.length:=by simp at hj;omega
  exact⟨.slice a l.length c,g,by rw[Agc (by omega),hul,Agn,Aia];rfl,by rw[Agc (by omega),o2,Aia];rfl,by rw[List.getElem_append_right (Aef _)];simpa using og⟩
end
def Wl{l r}{x:Nat}(h:KJ l=some (x,r)):x≤65535:=by
 match l,h with
 |a::b::l,h=>
  simp only[KJ,Option.some.injEq,Prod.mk.injEq] at h
  have:=a.toNat_lt
  have:=b.toNat_lt
  omega
def NR(P:Program)(f:FuncId):Prop:=∀{d v l},AJ d v l→2≤l.length→
 AA P f [v] d [] (Ret fun r d' L'=>d'=d∧((∃cs:List Value,FF l=none∧r=.tuple #[.agg cs.toArray,.bool false]∧cs.length=4∧(cs.all (·.oneCell'))=true∧L'=[])∨
  (∃(cs:List Value) (n:AK),FF l=some n∧r=.tuple #[.agg cs.toArray,.bool true]∧DT d cs n L')))
def TW(a0 a1:Nat):A0:=⟨85,[(.cell 2 (some 4)),(.tmp 3)],(sR (o1 2 (.alo (.agg #[(.bool false),nV,nV,nV]))<|o1 3 (.mv (.const (.bool false))) .done) (sR (om 14 0<|o1 15 (.idx 1 14 z0)<|ol 16 15<|ob 17 .eql 16 (.const (.int .u8 1))<|o1 18 (.bld [(0,1),(1,1),(2,1),(3,1)] [(.bool false),nV,nV,nV] [(0,17)])<|o1 4 (.alo (.agg #[(.bool false),nV,nV,nV]))<|o0 (.st 4 4 18) .done) (sR (om 19 0<|o1 20 (.sl 1 19 (some z2) none none)<|o1 5 (.alo nV)<|o0 (.st 1 5 20) .done) (.seq (sR (oj 21 0 4<|ol 22 21<|o1 23 (.un .not 22) .done) (.cond 23 (sR (oc 25 a0 [5]<|om 24 25<|oe 26 24 0<|oe 27 24 1<|om 6 26<|om 7 27 .done) (.seq (sR (om 28 7<|o1 29 (.un .not 28) .done) (.cond 29 (sR (o1 30 (.ld (some 4) 4)<|o0 (.st 4 2 30)<|o1 3 (.mv (.const (.bool false))) .done) .ret) .skip)) (rG (oj 31 3 4<|ol 32 31<|om 33 6<|o1 34 (.bsl 1 1 [(vZ 0)] [(0,33)])<|o1 35 (.app 1 8 [(vZ 0)] 32 34)<|oj 36 3 4<|o0 (.st 1 36 35) .done)))) .skip)) (.seq (sR (om 37 0<|o1 38 (.idx 1 37 z1)<|ol 39 38<|o1 40 (.mv (.const (.int .u8 0))) .done) (.block 0 (.loop (sR (ob 41 .lss 40 39 .done) (.seq (.cond 41 .skip (.exit 0)) (.seq (.block 1 (sR (oc 43 a1 [5]<|om 42 43<|oe 44 42 0<|oe 45 42 1<|om 8 44<|om 9 45 .done) (.seq (sR (om 46 9<|o1 47 (.un .not 46) .done) (.cond 47 (sR (o1 48 (.ld (some 4) 4)<|o0 (.st 4 2 48)<|o1 3 (.mv (.const (.bool false))) .done) .ret) .skip)) (sR (oj 49 1 4<|ol 50 49<|om 51 8<|o1 52 (.bsl 1 1 [nV] [(0,51)])<|o1 53 (.app 1 24 [nV] 50 52)<|oj 54 1 4<|o0 (.st 1 54 53) .done) (sR (oj 55 0 4<|ol 56 55 .done) (.cond 56 (sR (oc 58 a1 [5]<|om 57 58<|oe 59 57 0<|oe 60 57 1<|om 10 59<|om 11 60 .done) (.seq (sR (om 61 11<|o1 62 (.un .not 61) .done) (.cond 62 (sR (o1 63 (.ld (some 4) 4)<|o0 (.st 4 2 63)<|o1 3 (.mv (.const (.bool false))) .done) .ret) .skip)) (rG (oj 64 2 4<|ol 65 64<|om 66 10<|o1 67 (.bsl 1 1 [nV] [(0,66)])<|o1 68 (.app 1 24 [nV] 65 67)<|oj 69 2 4<|o0 (.st 1 69 68) .done)))) (sR (oc 71 a0 [5]<|om 70 71<|oe 72 70 0<|oe 73 70 1<|om 12 72<|om 13 73 .done) (.seq (sR (om 74 13<|o1 75 (.un .not 74) .done) (.cond 75 (sR (o1 76 (.ld (some 4) 4)<|o0 (.st 4 2 76)<|o1 3 (.mv (.const (.bool false))) .done) .ret) .skip)) (rG (oj 77 3 4<|ol 78 77<|om 79 12<|o1 80 (.bsl 1 1 [(vZ 0)] [(0,79)])<|o1 81 (.app 1 8 [(vZ 0)] 78 80)<|oj 82 3 4<|o0 (.st 1 82 81) .done)))))))))) (rG (ob 83 .add 40 (.const (.int .u8 1))<|om 40 83 .done)))))))) (sR (o1 84 (.ld (some 4) 4)<|o0 (.st 4 2 84)<|o1 3 (.mv (.const (.bool true))) .done) .ret))))))⟩
set_option maxHeartbeats 1000000 in
def Vr{P f2}(hd:dec P f=some (TW f1 f2))(h1:SP P f1)(h2:No P f2):NR P f:=by
 intro d v l hv hl;refine AG hd (Aea Z) ?_;have hll:=AJ.BF hv;obtain⟨lf,hlf⟩:∃lf:Bool,lf=(l.getD 0 0==1):=⟨_,Z⟩
 have hlf':decide (((l[0]'(by omega)).toNat:Int)=1)=lf:=by
  rw[hlf];have:l.getD 0 0=l[0]'(by omega):=by simp[show 0<l.length by omega]
  rw[this,Bool.eq_iff_iff];simp only[decide_eq_true_eq,beq_iff_eq];constructor
  ·intro h;exact UInt8.toNat_inj.1 (by simpa using (by omega:(l[0]'(by omega)).toNat=1))
  ·intro h;rw[h];rfl
 show gwp P _ _ _ _ _;(refine Ad<|Dg (fun _ _=>Ae Z<|Aa<|Ad<|AR<|Bg (m:=0) (sz:=1) (R:=AH) (by rfl) (by assumption) (by rfl) Z (by omega) ?_);rintro _ _ _ _ _ rfl;refine Ah Z (BQ (by assumption) Z)<|AN Z Z<|BJ Z<|Dg (fun _ _=>?_));rw[hlf'];skip;rename_i b2 T2 _ _ _ _ b4 T4;refine BW 0 Z Z Z Z (by simp[Value.cells]) Z ?_;refine Aa<|Ad<|AR<|Eb Z hv Z Z hl (fun lv hlv=>?_);obtain⟨la,lc,rfl⟩:=RSl.val hlv;(apply Dg;intro _ _);rename_i b5 T5;refine BW 0 Z Z Z Z (by simp[Value.cells]) Z ?_;refine XR d [bx b5 T5 [.slice la (l.drop 2).length lc],bx b4 T4 [.bool lf,nV,nV,nV],bx b2 T2 [.bool false,nV,nV,nV],emp,emp,emp] ((Vs.emp.trans (Vs.emp.trans Vs.emp)).trans (Vs.pick [3,4,5,0,1,2] Z)) ?_;refine Gw (fun ρ d' L'=>d'=d∧BG ρ [(0,v),(2,pZ b2),(4,pZ b4),(5,pZ b5)]∧∃is0 l0 ia ic lv hi,Gq lf (l.drop 2)=some (is0,l0)∧is0.length≤1∧As 1 Bh d (.slice ia is0.length ic) is0 hi∧AJ d lv l0∧L'=[bx b5 T5 [lv],bx b4 T4 [.bool lf,nV,nV,.slice ia is0.length ic],bx b2 T2 [.bool false,nV,nV,nV],emp,emp,hi]) ?_ ?_
 ·cases lf with
  |true=>
   (refine Ad<|Ai Z<|Ah Z (Al 1 Z Z)<|Bn Z<|Aa<|AS Z<|Ak ?_)
   exact⟨Z,⟨Z,Z,Z,Z,trivial⟩,[],l.drop 2,none,0,_,emp,Z,by simp,As.nil,hlv,Z⟩
  |false=>
   (refine Ad<|Ai Z<|Ah Z (Al 1 Z Z)<|Bn Z<|Aa<|Bc Z<|Ad ?_)
   refine FI 1 Z (h1 hlv) (fun r d1 L1 _ ⟨hdd,hr⟩=>?_)
   subst hdd
   rcases hr with ⟨hk,hr,v',hL⟩|⟨x,rest,v',hk,hr,hL,hv'⟩
   ·subst hr;subst hL
    (refine AT Z<|Ao Z Z<|Ao Z Z<|Ab Z<|Ae Z<|Aa<|Ag<|Ad<|Ae Z<|Bn Z<|Aa<|Bc Z<|Ad<|Bf 1 Z Z Z ?_)
    refine BW 2 Z Z Z Z (by simp) Z ?_
    (refine Ae Z<|Aa<|Ap ?_)
    exact Dc [.agg [.bool false,nV,nV,nV].toArray,.bool false] ⟨AW 2 Z Z Z,Aq Z,trivial⟩ (Afg _) ⟨Z,.inl ⟨_,by simp only[FF,←hlf];simp[Gq,hk],Z,Z,Z,Z⟩⟩
   ·subst hr;subst hL
    (refine AT Z<|Ao Z Z<|Ao Z Z<|Ab Z<|Ae Z<|Aa<|Ag<|Ad<|Ae Z<|Bn Z<|Aa<|AS Z<|Ak<|AE<|Ai Z<|Ah Z (Al 1 Z Z)<|Ab Z ?_)
    refine CZ (cs:=[vZ (x:Nat)]) (by omega) Z (fun b8 T8=>?_)
    have hx:=Wl hk
    refine Dj (R:=Bh) (xs:=[]) 5 Z Z As.nil Z (As.D2 Z ⟨Z,by omega,by omega⟩) DF (by omega) (by simp) (by simp) (fun v8 h8 o8=>?_)
    obtain⟨a8,c8,rfl⟩:=o8.val
    (apply Ai;rfl)
    refine BW 1 Z Z Z Z (by simp) Z ?_
    (apply Aa)
    exact⟨Z,⟨Z,Z,Z,Z,trivial⟩,[(x:Int)],rest,a8,c8,v',h8,by simp[Gq,hk],by simp,o8,hv',Z⟩
 ·rintro ρ d' L' ⟨hdd,hsl,is0,l0,ia,ic,lv,hi,hst,his,oi,hlv,hL⟩;subst hdd;subst hL;refine C1 _ hsl ?_;(refine Ag<|Ad<|AR<|Bg (sz:=1) (R:=AH) (by rfl) (by assumption) (by rfl) (Ajt _ 1).symm (by omega) ?_;rintro _ _ _ _ _ rfl;refine Ah Z (BQ (by assumption) Z)<|Ab Z<|Aa<|Ax ?_);have hm:=UInt8.toNat_lt (l[1]'hl);have hg1:l.getD 1 0=l[1]'hl:=by simp[show 1<l.length by omega]
  have hpn:∀k,k≤(l[1]'hl).toNat→CQ lf l0 is0 k=none→FF l=none:=by
   intro k hk h;simp only[FF,←hlf,hst,hg1,Wd h hk]
  refine B8 (α:=Nat) (fun k=>[(2,pZ b2),(4,pZ b4),(5,pZ b5),(39,Av (l[1]'hl)),(40,.int .u8 k)])
   (fun k d1 L'=>d'=d1∧k≤(l[1]'hl).toNat∧∃ks vs is l' ka kc va vc ia ic lv hk hks hv hvs hi,CQ lf l0 is0 k=some (ks,vs,is,l')∧OB d' (.slice ka ks.length kc) ks hk hks∧OB d' (.slice va vs.length vc) vs hv hvs∧As 1 Bh d' (.slice ia is.length ic) is hi∧AJ d' lv l'∧
    L'=[bx b5 T5 [lv],bx b4 T4 [.bool lf,.slice ka ks.length kc,.slice va vs.length vc,.slice ia is.length ic],bx b2 T2 [.bool false,nV,nV,nV],hk,hv,hi]++(hks++hvs)) (fun k=>(l[1]'hl).toNat - k) 0
   ⟨Z,Z,Z,Z,Z,trivial⟩ ⟨Z,Aez _,[],[],is0,l0,none,0,none,0,ia,ic,lv,emp,[],emp,[],hi,Z,OB.nil,OB.nil,oi,hlv,Z⟩ ?_
  clear hlv oi;rintro k ρ d1 L' ⟨hdd,hk,ks,vs,is,l',ka,kc,va,vc,ia,ic,lv,hkb,hks,hvb,hvs,hi,hit,ok,ov,oi,hlv,hL⟩;subst hdd;subst hL;have hlen:=Qr hit;(refine Ad<|AB Z Z<|Aa<|Ag ?_);first|refine JK rfl (fun hc=>?_) (fun hc=>?_)|refine MA rfl (fun hc=>?_) (fun hc=>?_)
  ·have hk1:k<(l[1]'hl).toNat:=by omega
   refine Ak<|Ag<|Ax<|Ad<|FI 1 Z (h2 hlv) (fun r d1 L1 _ ⟨hdd,hr⟩=>?_);subst hdd;rcases hr with ⟨hp,hr,v',hL⟩|⟨x,l1,u,v',g,hp,hr,hL,og,hlv1⟩
   ·subst hr;subst hL;refine AT Z<|Ao Z Z<|Ao Z Z<|Aj Z<|Ae Z<|Aa<|Ag<|Ad<|Ae Z<|Bn Z<|Aa<|Bc Z<|Ad<|Bf 1 Z Z Z<|BW 2 Z Z Z Z (by simp) Z ?_;(refine Ae Z<|Aa<|Ap ?_);exact Dc [.agg [.bool lf,.slice ka ks.length kc,.slice va vs.length vc,.slice ia is.length ic].toArray,.bool false] ⟨AW 2 Z Z Z,Aq Z,trivial⟩ (Afg _) ⟨Z,.inl ⟨_,hpn (k+1) (by omega) (by simp[CQ,hit,hp]),Z,Z,Z,Z⟩⟩
   ·subst hr;subst hL;obtain⟨ua,uc,rfl⟩:=og.val;refine AT Z<|Ao Z Z<|Ao Z Z<|Aj Z<|Ae Z<|Aa<|Ag<|Ad<|Ae Z<|Bn Z<|Aa<|AS Z<|Ak<|Ad<|Ai Z<|Ah Z (Al 2 Z Z)<|Aj Z<|CZ (cs:=[.slice ua x.length uc]) (by omega) Z (fun b8 T8=>?_);refine Wy 4 Z Z ok Z og (by omega) (by omega) (fun v8 h8 ok'=>?_);obtain⟨a8,c8,rfl⟩:=ok'.val;(apply Ai;rfl);refine BW 2 Z Z Z Z (by simp) Z ?_;refine XR _ ([bx b5 T5 [v'],bx b4 T4 [.bool lf,.slice a8 (ks++[x]).length c8,.slice va vs.length vc,.slice ia is.length ic],bx b2 T2 [.bool false,nV,nV,nV],h8,hvb,hi]++((hks++[g])++hvs)) (Vs.Ux [[g],[bx b5 T5 [v']],[bx b4 T4 [.bool lf,.slice a8 (ks++[x]).length c8,.slice va vs.length vc,.slice ia is.length ic]],[bx b2 T2 [.bool false,nV,nV,nV]],[h8],[hvb],[hi],hks,hvs] [1,2,3,4,5,6,7,0,8] [] Z Z (by simp)) ?_;cases lf with
    |true=>
     (refine Ad<|Ai Z<|Ah Z (Al 1 Z Z)<|Aa<|Bc Z<|Ad ?_)
     refine FI 1 Z (h2 hlv1) (fun r d1 L1 _ ⟨hdd,hr⟩=>?_)
     subst hdd
     rcases hr with ⟨hp2,hr,v2,hL⟩|⟨y,l2,u2,v2,g2,hp2,hr,hL,og2,hlv2⟩
     ·subst hr;subst hL
      (refine AT Z<|Ao Z Z<|Ao Z Z<|Aj Z<|Ae Z<|Aa<|Ag<|Ad<|Ae Z<|Bn Z<|Aa<|Bc Z<|Ad<|Bf 1 Z Z Z ?_)
      refine BW 2 Z Z Z Z (by simp) Z ?_
      (refine Ae Z<|Aa<|Ap ?_)
      exact Dc [.agg [.bool true,.slice a8 (ks++[x]).length c8,.slice va vs.length vc,.slice ia is.length ic].toArray,.bool false] ⟨AW 2 Z Z Z,Aq Z,trivial⟩ (Afg _) ⟨Z,.inl ⟨_,hpn (k+1) (by omega) (by simp[CQ,hit,hp,hp2]),Z,Z,Z,Z⟩⟩
     ·subst hr;subst hL
      obtain⟨ua2,uc2,rfl⟩:=og2.val
      (refine AT Z<|Ao Z Z<|Ao Z Z<|Aj Z<|Ae Z<|Aa<|Ag<|Ad<|Ae Z<|Bn Z<|Aa<|AS Z<|Ak<|AE<|Ai Z<|Ah Z (Al 2 Z Z)<|Aj Z ?_)
      refine CZ (cs:=[.slice ua2 y.length uc2]) (by omega) Z (fun b9 T9=>?_)
      refine Wy 5 Z Z ov Z og2 (by omega) (by omega) (fun v9 h9 ov'=>?_)
      obtain⟨a9,c9,rfl⟩:=ov'.val
      (apply Ai;rfl)
      refine BW 2 Z Z Z Z (by simp) Z ?_
      refine XR _ ([bx b5 T5 [v2],bx b4 T4 [.bool true,.slice a8 (ks++[x]).length c8,.slice a9 (vs++[y]).length c9,.slice ia is.length ic],bx b2 T2 [.bool false,nV,nV,nV],h8,h9,hi]++((hks++[g])++(hvs++[g2]))) (Vs.Ux [[g2],[bx b5 T5 [v2]],[bx b4 T4 [.bool true,.slice a8 (ks++[x]).length c8,.slice a9 (vs++[y]).length c9,.slice ia is.length ic]],[bx b2 T2 [.bool false,nV,nV,nV]],[h8],[h9],[hi],hks++[g],hvs] [1,2,3,4,5,6,7,8,0] [] Z Z (by simp)) ?_
      (apply AE)
      refine ZD Z Z (by omega) (by omega) ?_
      (refine Ab Z<|Aa ?_)
      exact⟨k+1,by omega,⟨Z,Z,Z,Z,int_eq (by omega),trivial⟩,Z,hk1,ks++[x],vs++[y],is,l2,a8,c8,a9,c9,ia,ic,v2,h8,hks++[g],h9,hvs++[g2],hi,by simp[CQ,hit,hp,hp2],ok',ov',oi,hlv2,Z⟩
    |false=>
     (refine Ad<|Ai Z<|Ah Z (Al 1 Z Z)<|Aa<|AS Z<|Ad ?_)
     refine FI 1 Z (h1 hlv1) (fun r d1 L1 _ ⟨hdd,hr⟩=>?_)
     subst hdd
     rcases hr with ⟨hp2,hr,v2,hL⟩|⟨y,l2,v2,hp2,hr,hL,hlv2⟩
     ·subst hr;subst hL
      (refine AT Z<|Ao Z Z<|Ao Z Z<|Ab Z<|Ae Z<|Aa<|Ag<|Ad<|Ae Z<|Bn Z<|Aa<|Bc Z<|Ad<|Bf 1 Z Z Z ?_)
      refine BW 2 Z Z Z Z (by simp) Z ?_
      (refine Ae Z<|Aa<|Ap ?_)
      exact Dc [.agg [.bool false,.slice a8 (ks++[x]).length c8,.slice va vs.length vc,.slice ia is.length ic].toArray,.bool false] ⟨AW 2 Z Z Z,Aq Z,trivial⟩ (Afg _) ⟨Z,.inl ⟨_,hpn (k+1) (by omega) (by simp[CQ,hit,hp,hp2]),Z,Z,Z,Z⟩⟩
     ·subst hr;subst hL
      have hy:=Wl hp2
      (refine AT Z<|Ao Z Z<|Ao Z Z<|Ab Z<|Ae Z<|Aa<|Ag<|Ad<|Ae Z<|Bn Z<|Aa<|AS Z<|Ak<|AE<|Ai Z<|Ah Z (Al 1 Z Z)<|Ab Z ?_)
      refine CZ (cs:=[vZ (y:Nat)]) (by omega) Z (fun b9 T9=>?_)
      refine Dj (R:=Bh) 5 Z Z oi Z (As.D2 Z ⟨Z,by omega,by omega⟩) DF (by omega) (by simp;omega) (by simp;omega) (fun v9 h9 oi'=>?_)
      obtain⟨a9,c9,rfl⟩:=oi'.val
      (apply Ai;rfl)
      refine BW 1 Z Z Z Z (by simp) Z ?_
      (refine Aa<|AE ?_)
      refine ZD Z Z (by omega) (by omega) ?_
      (refine Ab Z<|Aa ?_)
      exact⟨k+1,by omega,⟨Z,Z,Z,Z,int_eq (by omega),trivial⟩,Z,hk1,ks++[x],vs,is++[(y:Int)],l2,a8,c8,va,vc,a9,c9,v2,h8,hks++[g],hvb,hvs,h9,by simp[CQ,hit,hp,hp2],ok',ov,oi',hlv2,Z⟩
  ·obtain rfl:k=(l[1]'hl).toNat:=by omega
   refine Bd<|Ad<|Bf 1 Z Z Z<|BW 2 Z Z Z Z (by simp) Z ?_;refine Ae Z<|Aa<|Ap<|A4 [.agg [.bool lf,.slice ka ks.length kc,.slice va vs.length vc,.slice ia is.length ic].toArray,.bool true] (L':=(hkb::hks)++(hvb::hvs)++[hi]) ⟨AW 2 Z Z Z,Aq Z,trivial⟩ (Vs.Ux [[bx b5 T5 [lv]],[bx b4 T4 [.bool lf,.slice ka ks.length kc,.slice va vs.length vc,.slice ia is.length ic]],[bx b2 T2 [.bool lf,.slice ka ks.length kc,.slice va vs.length vc,.slice ia is.length ic]],[hkb],[hvb],[hi],hks,hvs] [3,6,4,7,5] [0,1,2] Z Z (by simp)) ⟨Z,.inr ⟨_,⟨lf,ks,vs,is⟩,?_,Z,_,_,_,_,_,_,Z,ok.Aa5,ov.Aa5,oi,Z⟩⟩;simp only[FF,←hlf,hst,hg1,hit]
end
def H7:AK:=⟨false,[],[],[]⟩
def BT(b:List UInt8):Option AK:=if b.length=256 then
  match FF b with
  |some n=>if Bp n=true∧B4 n=b then some n else none
  |none=>none
 else none
def Rx{l x r}(h:Gn l=some (x,r)):x.length≤255:=by
 match l,h with
 |a::l,h=>
  simp only[Gn] at h
  split at h
  ·cases h
  ·simp only[Option.some.injEq,Prod.mk.injEq] at h
   obtain⟨rfl,_⟩:=h
   have:=a.toNat_lt
   simp;omega
def Vq{l0}{is0:List Int}:∀{k:Nat}{ks vs is l},CQ lf l0 is0 k=some (ks,vs,is,l)→(∀x∈ks,x.length≤255)∧(∀x∈vs,x.length≤255):=by
 intro k;induction k with
 |zero=>intro ks vs is l h;simp only[CQ,Option.some.injEq,Prod.mk.injEq] at h;obtain⟨rfl,rfl,rfl,rfl⟩:=h;simp
 |succ k ih=>
  intro ks vs is l h
  simp only[CQ] at h
  split at h
  ·cases h
  ·rename_i ks' vs' is' l' e
   have:=ih e
   split at h
   ·cases h
   ·rename_i x l1 hp
    have hx:=Rx hp
    split at h
    ·split at h
     ·cases h
     ·rename_i y l2 hp2
      have hy:=Rx hp2
      simp only[Option.some.injEq,Prod.mk.injEq] at h;obtain⟨rfl,rfl,rfl,rfl⟩:=h
      refine⟨fun z hz=>?_,fun z hz=>?_⟩
      ·rcases Aej.1 hz with hz|hz
       ·exact this.1 z hz
       ·rw[Aew.1 hz];exact hx
      ·rcases Aej.1 hz with hz|hz
       ·exact this.2 z hz
       ·rw[Aew.1 hz];exact hy
    ·split at h
     ·cases h
     ·simp only[Option.some.injEq,Prod.mk.injEq] at h;obtain⟨rfl,rfl,rfl,rfl⟩:=h
      refine⟨fun z hz=>?_,this.2⟩
      rcases Aej.1 hz with hz|hz
      ·exact this.1 z hz
      ·rw[Aew.1 hz];exact hx
def QD{l:List (List UInt8)}(h:∀x∈l,x.length≤255)(i:Nat):(l.getD i []).length≤255:=by
 by_cases hi:i<l.length
 ·simp only[Ahx,Aed hi,Option.getD_some];exact h _ (Aey hi)
 ·simp[Ahx,Afo (Nat.le_of_not_lt hi)]
def Ya{n:AK}(hk:∀x∈n.keys,x.length≤255)(hv:∀x∈n.vals,x.length≤255):∀k,By n k≤1000*k:=by
 intro k;induction k with
 |zero=>simp[By]
 |succ k ih=>
  have h1:=QD hk k
  have h2:=QD hv k
  simp only[By,Eh,Dz,Fs]
  split<;>omega
def XN{l is r}(h:Gq lf l=some (is,r)):is.length≤1:=by
 cases lf<;>simp only[Gq] at h
 ·split at h
  ·cases h
  ·simp only[Option.some.injEq,Prod.mk.injEq] at h;obtain⟨rfl,_⟩:=h;simp
 ·simp only[Option.some.injEq,Prod.mk.injEq] at h;obtain⟨rfl,_⟩:=h;simp
def VV{b}{n:AK}(h:FF b=some n):A9 n≤1000000000000:=by
 simp only[FF] at h;split at h
 ·cases h
 ·rename_i is0 l0 h0;split at h
  ·cases h
  ·rename_i ks vs is l hi;simp only[Option.some.injEq] at h;subst h;have h1:=Vq hi;have h2:=Qr hi;have h3:=Ya (n:=⟨b.getD 0 0==1,ks,vs,is⟩) h1.1 h1.2 ks.length;have h4:=(b.getD 1 0).toNat_lt;have h5:=XN h0;simp only[A9];split<;>omega
def MG(P:Program)(f:FuncId):Prop:=∀{d v b},AJ d v b→
 AA P f [v] d [] (Ret fun r d' L'=>d'=d∧∃cs,r=.tuple #[.agg cs.toArray,vZ (if (BT b).isSome then 0 else 200)]∧DT d cs ((BT b).getD H7) L')
def Wj(a0 a1 a2 a3:Nat):A0:=⟨31,[(.cell 2 (some 4)),(.tmp 3)],(sR (o1 2 (.alo (.agg #[(.bool false),nV,nV,nV]))<|o1 3 (.mv z0) .done) (.seq (sR (om 6 0<|oL 7 6<|ob 8 .neq 7 (kZ 256) .done) (.cond 8 (sR (o1 9 (.bld [(0,1),(1,1),(2,1),(3,1)] [(.bool false),nV,nV,nV] [])<|o0 (.st 4 2 9)<|o1 3 (.mv (kZ 200)) .done) .ret) .skip)) (sR (om 11 0<|oc 12 a0 [11]<|om 10 12<|oe 13 10 0<|oe 14 10 1<|o1 4 (.alo (.agg #[(.bool false),nV,nV,nV]))<|o0 (.st 4 4 13)<|om 5 14 .done) (.seq (sR (om 15 5<|o1 16 (.un .not 15)<|om 17 16<|oF 18 17 (.ld (some 4) 4)<|oF 19 17 (.call a1 [18])<|oF 20 17 (.un .not 19)<|o1 21 (.pick 17 (.const (.bool true)) 20)<|om 22 21<|oF 23 22 (.ld (some 4) 4)<|oF 24 22 (.call a2 [23])<|gF 25 22 0<|oF 26 22 (.call a3 [24,25])<|oF 27 22 (.un .not 26)<|o1 28 (.pick 22 (.const (.bool true)) 27) .done) (.cond 28 (sR (o1 29 (.bld [(0,1),(1,1),(2,1),(3,1)] [(.bool false),nV,nV,nV] [])<|o0 (.st 4 2 29)<|o1 3 (.mv (kZ 200)) .done) .ret) .skip)) (sR (o1 30 (.ld (some 4) 4)<|o0 (.st 4 2 30)<|o1 3 (.mv z0) .done) .ret)))))⟩
def Xi{P f2 f3 f4}(hd:dec P f=some (Wj f1 f2 f3 f4))(h1:NR P f1)(h2:Hh P f2)(h3:MT P f3)(h4:Ki P f4):MG P f:=by
 intro d v b hv;refine AG hd (Aea Z) ?_;show gwp P _ _ _ _ _;(refine Ad<|Dg (fun _ _=>Ab Z<|Aa<|Ag<|Ad<|AR<|BI Z (by assumption)<|AO Z Z<|Aa ?_));rename_i b2 T2;have hbad:∀{ρ d' L},d'=d→BT b=none→ρ 2=pZ b2→ρ 3=vZ 200→(∃i:Nat,L[i]?=some (bx b2 T2 [.bool false,nV,nV,nV]))→
   CL [.cell 2 (some 4),.tmp 3] (Ret fun r d' L'=>d'=d∧∃cs,r=.tuple #[.agg cs.toArray,vZ (if (BT b).isSome then 0 else 200)]∧DT d cs ((BT b).getD H7) L') ρ d' L:=by
  intro ρ d' L hdd hr e2 e3 ⟨i,hi⟩
  subst hdd
  refine A4 [.agg [.bool false,nV,nV,nV].toArray,vZ 200] (L':=[emp,emp,emp]) ⟨AW i e2 hi Z,Aq e3,trivial⟩ ((Vs.drop (Afg _)).trans (Vs.emp.trans (Vs.emp.trans Vs.emp))) ⟨Z,[.bool false,nV,nV,nV],?_,?_⟩
  ·rw[hr];rfl
  ·rw[hr];exact DT.zero
 first|refine JK rfl (fun hc=>?_) (fun hc=>?_)|refine MA rfl (fun hc=>?_) (fun hc=>?_)
 ·refine Ad<|BJ Z<|BW 0 Z Z Z Z (by simp[Value.cells]) Z ?_;(refine Ab Z<|Aa<|Ap ?_);exact hbad Z (by simp[BT,show b.length≠256 by omega]) Z Z ⟨0,Z⟩
 ·have hbl:b.length=256:=by omega
  refine Ak<|Ad<|AR<|Bl Z (h1 hv (by omega)) (fun r d1 L1 _ ⟨hdd,hr⟩=>?_);subst hdd;rcases hr with ⟨cs,hp,hr,hcl,hc1,hL⟩|⟨cs,n,hp,hr,ho⟩
  ·subst hr;subst hL;have hcs:∃c1 c2 c3 c4,cs=[c1,c2,c3,c4]:=by
    match cs,hcl with
    |[a,b,c,e],_=>exact⟨a,b,c,e,Z⟩
   obtain⟨c1,c2,c3,c4,rfl⟩:=hcs;(refine AT Z<|Ao Z Z<|Ao Z Z<|Dg (fun _ _=>?_));refine BW 0 Z Z Z Z (by simp[Value.cells]) hc1 ?_;refine Ae Z<|Aa<|Ag<|Ad<|Ae Z<|Bn Z<|Ae Z<|An Z<|An Z<|An Z<|Ay Z Z<|Ae Z<|An Z<|An Z<|An Z<|An Z<|An Z<|Ay Z Z<|Aa<|Bc Z<|Ad<|BJ Z<|BW 1 Z Z Z Z (by simp[Value.cells]) Z ?_;(refine Ab Z<|Aa<|Ap ?_);exact hbad Z (by simp[BT,hp]) Z Z ⟨1,Z⟩
  ·subst hr;have ho':=ho;obtain⟨kv,vv,iv,Lk,Lv,hi,rfl,ok,ov,oi,rfl⟩:=ho';obtain⟨ka,kc,rfl⟩:=ok.val;obtain⟨va,vc,rfl⟩:=ov.val;obtain⟨ia,ic,rfl⟩:=oi.val;have hsz:=VV hp;refine BS _ (bx b2 T2 [.bool false,nV,nV,nV]::(Lk++Lv++[hi])) (Vs.perm Aei) ?_;(refine AT Z<|Ao Z Z<|Ao Z Z<|Dg (fun _ _=>?_));rename_i b4 T4;refine A7 0 [.bool n.leaf,.slice ka n.keys.length kc,.slice va n.vals.length vc,.slice ia n.kids.length ic] Z Z Z Z (by simp[Value.cells]) Z Z ?_;(refine Ae Z<|Aa<|Ag<|Ad<|Ae Z<|Bn Z<|Ae Z<|Af Z<|Bf 0 Z Z Z<|Af Z ?_);have hrn:∀d2,Le d1 d2→(∀k∈(bx b4 T4 [.bool n.leaf,.slice ka n.keys.length kc,.slice va n.vals.length vc,.slice ia n.kids.length ic]::bx b2 T2 [.bool false,nV,nV,nV]::(Lk++Lv++[hi])),Le k d2)→Cj d2 [.bool n.leaf,.slice ka n.keys.length kc,.slice va n.vals.length vc,.slice ia n.kids.length ic] n:=
    fun d1 hl hk=>ho.JD hl (fun h hm=>hk h (Aev _ (Aev _ hm)))
   refine Iz Z (fun d1 hl hk=>h2 (hrn d1 hl hk) hsz) ?_;cases hr:Bp n with
   |false=>
    (refine Af Z<|Bn Z<|Au Z Z<|Ae Z<|An Z<|An Z<|An Z<|An Z<|An Z<|Ay Z Z<|Aa<|Bc Z<|Ad<|BJ Z ?_)
    refine A7 1 [.bool false,nV,nV,nV] Z Z Z Z (by simp) Z Z ?_
    (refine Ab Z<|Aa<|Ap ?_)
    exact hbad Z (by simp[BT,hp,hr]) Z Z ⟨1,Z⟩
   |true=>
    have hr':=hr
    simp only[Bp,Aec,decide_eq_true_eq] at hr'
    (refine Af Z<|Bn Z<|Au Z Z<|Ae Z<|Af Z<|Bf 0 Z Z Z<|Af Z ?_)
    refine Kj (Q:=fun r L'=>∃h,L'=[h]∧EJ 256 r (B4 n) h) Z (fun d1 hl hk=>(h3 (hrn d1 hl hk) hr'.1 hr'.2).mono (fun e d' L' _ h=>by
     cases e with
     |returned v=>exact h
     |panicked c=>exact h
     |outgrown=>exact h)) (fun r L' ⟨h,hL,hrow⟩=>?_)
    subst hL
    (refine Af Z<|AR<|Af Z ?_)
    refine Iz Z (fun d1 hl hk=>h4 (hrow.bytes (hk h (Aeo ..)) (by omega)) (hv.mono hl)) ?_
    by_cases hpg:B4 n=b
    ·rw[decide_eq_true hpg]
     (refine Af Z<|Bn Z<|Au Z Z<|Aa<|AS Z<|Ak<|Ad<|Bf 1 Z Z Z ?_)
     refine A7 2 [.bool n.leaf,.slice ka n.keys.length kc,.slice va n.vals.length vc,.slice ia n.kids.length ic] Z Z Z Z (by simp) Z Z ?_
     (refine Ab Z<|Aa<|Ap ?_)
     refine A4 [.agg [.bool n.leaf,.slice ka n.keys.length kc,.slice va n.vals.length vc,.slice ia n.kids.length ic].toArray,vZ 0] (L':=Lk++Lv++[hi]) ⟨AW 2 Z Z Z,Aq Z,trivial⟩
      (Vs.drop ((Afd _ _).trans ((Afd _ _).trans (Afd _ _)))) ⟨Z,[.bool n.leaf,.slice ka n.keys.length kc,.slice va n.vals.length vc,.slice ia n.kids.length ic],?_,?_⟩
     ·have:BT b=some n:=by simp[BT,hbl,hp,hr,hpg]
      rw[this];rfl
     ·have:BT b=some n:=by simp[BT,hbl,hp,hr,hpg]
      rw[this];exact ho
    ·rw[decide_eq_false hpg]
     (refine Af Z<|Bn Z<|Au Z Z<|Aa<|Bc Z<|Ad<|BJ Z ?_)
     refine A7 2 [.bool false,nV,nV,nV] Z Z Z Z (by simp) Z Z ?_
     (refine Ab Z<|Aa<|Ap ?_)
     exact hbad Z (by simp[BT,hp,hpg]) Z Z ⟨2,Z⟩
def QX(b:List UInt8)(a:Int):Option (List UInt8×Nat):=if a<0 then none else
 match b[a.toNat]? with
 |none=>none
 |some k=>if a.toNat+1+k.toNat>b.length then none else some ((b.drop (a.toNat+1)).take k.toNat,a.toNat+1+k.toNat)
def AbU{b x}{a:Int}{e:Nat}(h:QX b a=some (x,e)):e≤b.length:=by
 simp only[QX] at h;split at h
 ·cases h
 ·split at h
  ·cases h
  ·split at h
   ·cases h
   ·simp only[Option.some.injEq,Prod.mk.injEq] at h;omega
def AbE(P:Program)(f:FuncId):Prop:=∀{d v b},AJ d v b→b.length≤1000→∀a:Int, -1≤a→a≤1000→
 AA P f [v,vZ a] d [] (Ret fun r d' L'=>d'=d∧((QX b a=none∧r=.tuple #[nV,vZ (-1)]∧L'=[])∨
  ∃x e u g,QX b a=some (x,e)∧r=.tuple #[u,vZ (e:Nat)]∧L'=[g]∧As 1 AH d u x g))
def AbE.data{P}(h:AbE P f){d v b}(hv:AJ d v b)(hb:b.length≤1000){a:Int}(h1: -1≤a)(h2:a≤1000):
  AA P f [v,vZ a] d [] (Ret fun r d' L'=>L'=[]∧∃ua uc x a',r=.tuple #[.slice ua x.length uc,vZ a']∧AJ d' (.slice ua x.length uc) x∧ -1≤a'∧a'≤b.length∧((a'= -1∧QX b a=none)∨∃e:Nat,a'=e∧QX b a=some (x,e))):=by
 refine(h hv hb a h1 h2).DU (fun r d' L' hl ⟨hdd,hr⟩=>?_)
 rcases hr with ⟨e1,rfl,rfl⟩|⟨x,e,u,g,e1,rfl,rfl,hg⟩
 ·exact⟨d',[],Vs.refl _ _,Z,none,0,[], -1,Z,RSl.nil,by omega,by omega,.inl ⟨Z,e1⟩⟩
 ·subst hdd
  obtain⟨ua,uc,rfl⟩:=hg.val
  have:=AbU e1
  exact⟨Gk.join d' g,[],Vs.freeze,Z,ua,uc,x,e,Z,hg.rsl AL (by omega) (Le.Az _ _) (Le.A6 _ _),by omega,by omega,.inr ⟨e,Z,e1⟩⟩
end Go.Gk.Node
end
section
namespace Go.Gk.Node
open Go Go.Gk
section
attribute [local irreducible] gwp gws
end
end Go.Gk.Node
end
section
namespace Go.Gk.Node
open Go Go.Gk
attribute [local irreducible] gwp gws
variable{n:AK}{k:Nat}
def Dy.mono{d d' v xs L}(o:Dy d v xs L)(hl:Le d d'):Dy d' v xs L:=
 let ⟨us,h0,hs,h1,h2,h3,h4⟩:=o
 ⟨us,h0,hs,h1,h2,fun i hi=>let ⟨u,g,k1,k2,k3⟩:=h3 i hi;⟨u,g,k1,k2,As.mono (R:=AH) AL k3 hl⟩,h4⟩
def DT.mono{d d' cs L}(o:DT d cs n L)(hl:Le d d'):DT d' cs n L:=
 let ⟨kv,vv,iv,Lk,Lv,hi,e,h1,h2,h3,h4⟩:=o
 ⟨kv,vv,iv,Lk,Lv,hi,e,h1.mono hl,h2.mono hl,h3.JF hl,h4⟩
def Q4{n:Nat}(h:n≤255):(u8n n).toNat=n:=by
 simp only[u8n];have:((n:Int) % 256).toNat=n:=by omega
 rw[this];simp;omega
def Ps{x r}(h:x.length≤255):Gn (u8n x.length::(x++r))=some (x,r):=by
 simp only[Gn,Q4 h];rw[if_neg (by simp)];simp
def WL{k:Int}{r}(h0:0≤k)(h1:k≤8191):KJ (Gf k++r)=some (k.toNat,r):=by
 simp only[Gf,Afz,List.nil_append,KJ,Option.some.injEq,Prod.mk.injEq,and_true];have e1:((k / 256) % 256).toNat=(k / 256).toNat:=by omega
 rw[e1];have e2:(k / 256).toNat<256:=by omega
 have e3:(k % 256).toNat<256:=by omega
 have e4:∀x,x<256→(UInt8.ofNat x).toNat=x:=fun x hx=>by simp;omega
 rw[e4 _ e2,e4 _ e3];omega
def Ta(n:AK)(k:Nat):∀j,∃T,CG n (k+j)=CG n k++T
 |0=>⟨[],by simp⟩
 |j+1=>by
  obtain⟨T,h⟩:=Ta n k j;exact⟨T++((u8n (Dz n (k+j))::n.keys.getD (k+j) [])++tailD n (k+j)),by show CG n (k+j)++_++_=_;rw[h];simp only[Aeg];rfl⟩
def TA(n:AK)(hk:k≤n.keys.length):∃T,B4 n=CG n k++T:=by
 obtain⟨T,h⟩:=Ta n k (n.keys.length - k);rw[show k+(n.keys.length - k)=n.keys.length by omega] at h;exact⟨T++_,by rw[B4,h,Aeg]⟩
def Zw(n:AK)(hk:k<n.keys.length):(B4 n).drop (CG n k).length=(u8n (Dz n k)::n.keys.getD k [])++(tailD n k++(B4 n).drop (CG n (k+1)).length):=by
 obtain⟨T,h⟩:=TA n (k:=k+1) hk;rw[h];have e:CG n (k+1)=CG n k++((u8n (Dz n k)::n.keys.getD k [])++tailD n k):=by simp only[CG,Aeg]
 rw[Aij,e,Aeg,Aij,Aeg]
def J7(n:AK):∀k,k≤By n k
 |0=>Aef _
 |k+1=>by have:=J7 n k;simp only[By,Eh];split<;>omega
def Un{ks}(h:DE ks ks.length=true)(hk:k<ks.length):ks[k].length≤64:=by
 have:=Mx h hk;simp only[kOk,Aec,decide_eq_true_eq] at this;have e:ks.getD k []=ks[k]:=by simp[hk]
 rw[e] at this;exact this.1.2
def FX(hr:Bp n=true):(B4 n).length=256:=by
 simp only[Bp,Aec,decide_eq_true_eq] at hr;have:=Ab3 hr.1 hr.2 n.keys.length (Aef _);simp only[B4,Aek,Afk];omega
def Ye(hr:Bp n=true):FF (B4 n)=some n:=by
 have hr':=hr;simp only[Bp,Aec,decide_eq_true_eq] at hr';obtain⟨hs,hz⟩:=hr';have hm:n.keys.length≤255:=by
  have:=J7 n n.keys.length;simp only[A9] at hz;omega
 obtain⟨T0,hT0⟩:=TA n (k:=0) (Aez _);have hstep:=fun k hk=>Zw n (k:=k) hk;have hd0:(B4 n).drop (CG n 0).length=T0:=by rw[hT0,Aij]
 obtain⟨lf,ks,vs,is⟩:=n;have hs':=hs;simp only[Ba,Aec] at hs';have hk:=fun k (hk:k<ks.length)=>Un hs'.1 hk;simp only at hm hT0 hstep hd0 hs';have hkl:∀k,k<ks.length→Dz ⟨lf,ks,vs,is⟩ k=(ks.getD k []).length:=fun _ _=>Z;cases lf with
 |true=>
  have h2:=hs'.2
  simp only[if_true,Aec,decide_eq_true_eq,Aet] at h2
  obtain⟨⟨hvl,hil⟩,hva⟩:=h2
  obtain rfl:is=[]:=Ael hil
  have hpg:B4 ⟨true,ks,vs,[]⟩=1::u8n ks.length::T0:=hT0
  have items:∀k,k≤ks.length→CQ true T0 [] k=some (ks.take k,vs.take k,[],(B4 ⟨true,ks,vs,[]⟩).drop (CG ⟨true,ks,vs,[]⟩ k).length):=by
   intro k;induction k with
   |zero=>intro _;simp[CQ,hd0]
   |succ k ih=>
    intro hk1
    have e1:ks.getD k []=ks[k]'(by omega):=by simp[show k<ks.length by omega]
    have e2:vs.getD k []=vs[k]'(by omega):=by simp[show k<vs.length by omega]
    have e3:(vs[k]'(by omega)).length≤16:=by
     have:=hva _ (Aey (show k<vs.length by omega));simpa [Ii] using this
    simp only[CQ,ih (by omega)]
    rw[hstep k (by omega)]
    have:=hk k (by omega)
    rw[hkl k (by omega),e1,Afz,Ps (by omega)]
    simp only[tailD,if_true,Fs,e2]
    rw[Afz,Ps (by omega)]
    simp only[Option.some.injEq,Prod.mk.injEq,and_true]
    exact⟨(Aes _).symm,(Aes _).symm⟩
  have h3:=items ks.length (Aef _)
  simp only[FF,hpg,Ahd,Agx,List.drop_succ_cons,List.drop_zero]
  show(match Gq true T0 with|none=>none|some (is0,l0)=>_)=_
  simp only[Gq,Q4 hm]
  rw[hpg] at h3
  show(match CQ true T0 [] ks.length with|none=>none|some (a,b,c,_)=>some (⟨true,a,b,c⟩:AK))=_
  rw[h3]
  simp only[Afq]
  rw[Afu (by omega)]
 |false=>
  have h2:=hs'.2
  simp only[Aeh,if_false,Aec,decide_eq_true_eq,Aet] at h2
  obtain⟨⟨hvl,hil⟩,hia⟩:=h2
  obtain rfl:vs=[]:=Ael hvl
  have hkid:∀k (h:k<is.length),0≤is[k]∧is[k]≤8191:=fun k h=>by
   have:=hia _ (Aey h);simpa [Gt] using this
  have hpg:B4 ⟨false,ks,[],is⟩=2::u8n ks.length::(Gf (is.getD 0 0)++T0):=hT0
  have e0:is.getD 0 0=is[0]'(by omega):=by simp[show 0<is.length by omega]
  have items:∀k,k≤ks.length→CQ false T0 [is[0]'(by omega)] k=some (ks.take k,[],is.take (k+1),(B4 ⟨false,ks,[],is⟩).drop (CG ⟨false,ks,[],is⟩ k).length):=by
   intro k;induction k with
   |zero=>
    intro _
    have:is.take 1=[is[0]'(by omega)]:=by rw[Aes (by omega)];simp
    simp[CQ,hd0,this]
   |succ k ih=>
    intro hk1
    have e1:ks.getD k []=ks[k]'(by omega):=by simp[show k<ks.length by omega]
    have e2:is.getD (k+1) 0=is[k+1]'(by omega):=by simp[show k+1<is.length by omega]
    have e3:=hkid (k+1) (by omega)
    simp only[CQ,ih (by omega)]
    rw[hstep k (by omega)]
    have:=hk k (by omega)
    rw[hkl k (by omega),e1,Afz,Ps (by omega)]
    simp only[tailD,Aeh,if_false,e2]
    rw[WL e3.1 e3.2]
    simp only[Option.some.injEq,Prod.mk.injEq,and_true,true_and]
    refine⟨(Aes _).symm,?_⟩
    rw[Int.toNat_of_nonneg e3.1]
    exact(Aes _).symm
  have h3:=items ks.length (Aef _)
  have e4:=hkid 0 (by omega)
  simp only[FF,hpg,Ahd,Agx,List.drop_succ_cons,List.drop_zero]
  show(match Gq false (Gf (is.getD 0 0)++T0) with|none=>none|some (is0,l0)=>_)=_
  simp only[Gq,e0,WL e4.1 e4.2,Q4 hm]
  rw[hpg] at h3
  rw[Int.toNat_of_nonneg e4.1]
  show(match CQ false T0 [is[0]] ks.length with|none=>none|some (a,b,c,_)=>some (⟨false,a,b,c⟩:AK))=_
  rw[h3]
  simp only[Afq]
  rw[Afu (by omega)]
def ZV(hr:Bp n=true):BT (B4 n)=some n:=by
 unfold BT;rw[if_pos (FX hr),Ye hr];exact if_pos ⟨hr,Z⟩
def PF{b}(h:BT b=some n):Bp n=true∧B4 n=b:=by
 unfold BT at h;split at h
 ·split at h
  ·split at h
   ·rename_i h1;cases h;exact h1
   ·cases h
  ·cases h
 ·cases h
def F1{α}(R:Ac→List Value→α→Prop)(P:Program)(f:FuncId):Prop:=∀{d v w}{xs ys:List α},RSl 1 R d v xs→RSl 1 R d w ys→xs.length≤1000000001→ys.length≤1000000001→
 AA P f [v,w] d [] (Ret fun r d' L'=>d'=d∧∃h,L'=[h]∧As 1 R d r (xs++ys) h)
def LZ:A0:=⟨15,[(.tmp 4)],(sR (o1 4 (.mv nS) .done) (sR (om 5 0<|oL 6 5<|om 7 1<|oL 8 7<|ob 9 .add 6 8<|o1 10 (.mks 1 24 [nV] z0 9)<|om 11 0<|o1 12 (.app 1 24 [nV] 10 11)<|om 13 1<|o1 14 (.app 1 24 [nV] 12 13)<|om 4 14 .done) .ret))⟩
def Om{P f}(hd:dec P f=some LZ):F1 RBs P f:=by
 intro d v w xs ys hv hw hx hy;obtain⟨a,c,rfl⟩:=RSl.val hv;obtain⟨a2,c2,rfl⟩:=RSl.val hw;refine AG hd (Aea Z) ?_;show gwp P _ _ _ _ _;refine Ad<|Aj Z<|Aa<|Ad<|Aj Z<|AI Z<|Aj Z<|AI Z<|AM Z Z (by omega) (by omega)<|It (n:=0) (c:=xs.length+ys.length) Z (int_eq (by omega)) (by omega) (by omega) (by omega) (fun b8 T8=>?_);(apply Aj;rfl);have o0:As 1 RBs d (.slice (some ⟨b8,0,none⟩) 0 (xs.length+ys.length)) [] (bx b8 T8 (Bq [nV] ((xs.length+ys.length)*1))):=
  ⟨[],BV.mk Z (by simp) (Aez _) (by omega) (by simp[Bq]) Z,fun i hi=>absurd hi (Ahc i)⟩
 refine Fk (xs:=[]) (ys:=xs) 0 Z Z o0 Z (RSl.src (R:=RBs) (xs:=xs) hv E6 (by omega) _) (by omega) (by simp;omega) (by simp;omega) (fun v5 h5 hrow5=>?_);(apply Aj;rfl);refine Fk (xs:=[]++xs) (ys:=ys) 0 Z Z hrow5 Z (RSl.src (R:=RBs) (xs:=ys) hw E6 (by omega) _) (by omega) (by simp;omega) (by simp;omega) (fun v6 h6 hrow6=>?_);(refine AR<|Aa<|Ap ?_);exact BO (L':=[h6]) Z (Aeb _) ⟨Z,h6,Z,hrow6⟩
def NV:A0:=⟨15,[(.tmp 4)],(sR (o1 4 (.mv nS) .done) (sR (om 5 0<|oL 6 5<|om 7 1<|oL 8 7<|ob 9 .add 6 8<|o1 10 (.mks 1 8 [(vZ 0)] z0 9)<|om 11 0<|o1 12 (.app 1 8 [(vZ 0)] 10 11)<|om 13 1<|o1 14 (.app 1 8 [(vZ 0)] 12 13)<|om 4 14 .done) .ret))⟩
def Qg{P f}(hd:dec P f=some NV):F1 Bh P f:=by
 intro d v w xs ys hv hw hx hy;obtain⟨a,c,rfl⟩:=RSl.val hv;obtain⟨a2,c2,rfl⟩:=RSl.val hw;refine AG hd (Aea Z) ?_;show gwp P _ _ _ _ _;refine Ad<|Aj Z<|Aa<|Ad<|Aj Z<|AI Z<|Aj Z<|AI Z<|AM Z Z (by omega) (by omega)<|It (n:=0) (c:=xs.length+ys.length) Z (int_eq (by omega)) (by omega) (by omega) (by omega) (fun b8 T8=>?_);(apply Aj;rfl);have o0:As 1 Bh d (.slice (some ⟨b8,0,none⟩) 0 (xs.length+ys.length)) [] (bx b8 T8 (Bq [vZ 0] ((xs.length+ys.length)*1))):=
  ⟨[],BV.mk Z (by simp) (Aez _) (by omega) (by simp[Bq]) Z,fun i hi=>absurd hi (Ahc i)⟩
 refine Fk (xs:=[]) (ys:=xs) 0 Z Z o0 Z (RSl.src (R:=Bh) (xs:=xs) hv DF (by omega) _) (by omega) (by simp;omega) (by simp;omega) (fun v5 h5 hrow5=>?_);(apply Aj;rfl);refine Fk (xs:=[]++xs) (ys:=ys) 0 Z Z hrow5 Z (RSl.src (R:=Bh) (xs:=ys) hw DF (by omega) _) (by omega) (by simp;omega) (by simp;omega) (fun v6 h6 hrow6=>?_);(refine AR<|Aa<|Ap ?_);exact BO (L':=[h6]) Z (Aeb _) ⟨Z,h6,Z,hrow6⟩
def Cs(a b:AK)(key:List UInt8):AK:=if a.leaf then⟨true,a.keys++b.keys,a.vals++b.vals,[]⟩ else⟨false,a.keys++[key]++b.keys,[],a.kids++b.kids⟩
def Pu(P:Program)(f:FuncId):Prop:=∀{d ca cb kv}{a b:AK}{key},Cj d ca a→Cj d cb b→AJ d kv key→a.keys.length+b.keys.length≤100000000→a.vals.length+b.vals.length≤100000000→a.kids.length+b.kids.length≤100000000→
 AA P f [.agg ca.toArray,.agg cb.toArray,kv] d [] (Ret fun r d' L'=>L'=[]∧∃cs,r=.agg cs.toArray∧Cj d' cs (Cs a b key))
def Wg(a0 a1 a2:Nat):A0:=⟨37,[(.cell 6 (some 4))],(sR (o1 3 (.box 0)<|o1 4 (.box 1)<|o1 6 (.alo (.agg #[(.bool false),nV,nV,nV])) .done) (.seq (sR (oj 7 0 3<|ol 8 7 .done) (.cond 8 (.seq (.reg true (p1 9 (.fld 1 3)<|pl 10 9<|p1 11 (.fld 1 4)<|pl 12 11<|p1 15 (.fld 2 3)<|pl 16 15<|p1 17 (.fld 2 4)<|pl 18 17<|oc 13 a0 [10,12]<|oc 14 a1 [13]<|oc 19 a0 [16,18]<|oc 20 a1 [19]<|p1 21 (.bld [(0,1),(1,1),(2,1),(3,1)] [(.bool false),nV,nV,nV] [(0,(.const (.bool true))),(1,14),(2,20)]) (.bar (o0 (.st 4 6 21) .done)))) .ret) .skip)) (.seq (.reg true (p1 22 (.fld 1 3)<|pl 23 22<|pm 24 2<|p1 27 (.fld 1 4)<|pl 28 27<|p1 31 (.fld 3 3)<|pl 32 31<|p1 33 (.fld 3 4)<|pl 34 33<|o1 25 (.bsl 1 1 [nV] [(0,24)])<|oc 26 a0 [23,25]<|oc 29 a0 [26,28]<|oc 30 a1 [29]<|oc 35 a2 [32,34]<|p1 36 (.bld [(0,1),(1,1),(2,1),(3,1)] [(.bool false),nV,nV,nV] [(1,30),(3,35)]) (.bar (o0 (.st 4 6 36) .done)))) .ret)))⟩
def Xl{P f f1 f2 f3}(hd:dec P f=some (Wg f1 f2 f3))(h1:F1 RBs P f1)(h2:PH P f2)(h3:F1 Bh P f3):Pu P f:=by
 intro d ca cb kv a b key ha hb hk hb1 hb2 hb3;obtain⟨ak,av,ai,rfl,ak1,av1,ai1⟩:=ha;obtain⟨bk,bv,bi,rfl,bk1,bv1,bi1⟩:=hb;refine AG hd (Aea Z) ?_;obtain⟨aka,akc,rfl⟩:=RSl.val ak1;obtain⟨ava,avc,rfl⟩:=RSl.val av1;obtain⟨aia,aic,rfl⟩:=RSl.val ai1;obtain⟨bka,bkc,rfl⟩:=RSl.val bk1;obtain⟨bva,bvc,rfl⟩:=RSl.val bv1;obtain⟨bia,bic,rfl⟩:=RSl.val bi1;obtain⟨ka,kc,rfl⟩:=RSl.val hk;show gwp P _ _ _ _ _;apply Ag;apply AE;refine Ck (l:=[.bool a.leaf,.slice aka a.keys.length akc,.slice ava a.vals.length avc,.slice aia a.kids.length aic]) Z (fun b3 T3=>?_);refine Ck (l:=[.bool b.leaf,.slice bka b.keys.length bkc,.slice bva b.vals.length bvc,.slice bia b.kids.length bic]) Z (fun b4 T4=>?_);(refine Dg (fun _ _=>Aa<|Ag<|Ad<|Ai Z<|Ah Z (Al 2 Z Z)<|Aa ?_));rename_i b6 T6;cases hlf:a.leaf with
 |true=>
  (refine Bc Z<|Ag<|Bv<|Ai Z<|Ah Z (Al 2 Z Z)<|Ai Z<|Ah Z (Al 1 Z Z)<|Ai Z<|Ah Z (Al 2 Z Z)<|Ai Z<|Ah Z (Al 1 Z Z) ?_)
  refine Bl Z (h1 ak1 bk1 (by omega) (by omega)) (fun r d1 L1 _ ⟨hdd,g,hL,og⟩=>?_)
  subst hdd;subst hL
  refine Ih (fun d2 hl2 hg2=>?_)
  have r1:=og.rsl C6 (by omega) hl2 hg2
  refine Bl Z (h2 r1 (by simp;omega)) (fun r d3 L3 _ ⟨hdd,o3⟩=>?_)
  subst hdd
  refine UR (fun d4 hl4 hg4=>?_)
  have r3:=o3.Uy hl4 (fun h hm=>hg4 h (Afc _ hm))
  refine Bl Z (h1 (Dh.mono av1 (hl2.trans hl4)) (Dh.mono bv1 (hl2.trans hl4)) (by omega) (by omega)) (fun r d5 L5 _ ⟨hdd,g5,hL,og5⟩=>?_)
  subst hdd;subst hL
  refine Ih (fun d6 hl6 hg6=>?_)
  have r5:=og5.rsl C6 (by omega) hl6 hg6
  refine Bl Z (h2 r5 (by simp;omega)) (fun r d7 L7 _ ⟨hdd,o7⟩=>?_)
  subst hdd
  obtain⟨o3a,o3c,rfl⟩:=o3.val
  obtain⟨o7a,o7c,rfl⟩:=o7.val
  refine BJ (cs:=[.bool true,.slice o3a (a.keys++b.keys).length o3c,.slice o7a (a.vals++b.vals).length o7c,nV]) Z ?_
  (apply Cd)
  refine A7 0 [.bool true,.slice o3a (a.keys++b.keys).length o3c,.slice o7a (a.vals++b.vals).length o7c,nV] Z Z Z Z (by simp[Value.cells]) Z Z ?_
  (refine Aa<|Ap ?_)
  refine XM [.agg [.bool true,.slice o3a (a.keys++b.keys).length o3c,.slice o7a (a.vals++b.vals).length o7c,nV].toArray] ⟨AW 0 Z Z Z,trivial⟩ (fun d8 hl8 hg8=>⟨Z,_,Z,?_⟩)
  refine⟨.slice o3a (a.keys++b.keys).length o3c,.slice o7a (a.vals++b.vals).length o7c,nV,by simp[Cs,hlf],?_,?_,?_⟩
  ·simp only[Cs,hlf,if_true];exact Dh.mono r3 (hl6.trans hl8)
  ·simp only[Cs,hlf,if_true];exact o7.Uy hl8 (fun h hm=>hg8 h (by simp[hm]))
  ·simp only[Cs,hlf,if_true];exact RSl.nil
 |false=>
  (refine AS Z<|Ak<|Ag ?_)
  refine Bv ?_
  (refine Ai Z<|Ah Z (Al 2 Z Z)<|Aj Z<|Ai Z<|Ah Z (Al 1 Z Z)<|Ai Z<|Ah Z (Al 2 Z Z)<|Ai Z<|Ah Z (Al 1 Z Z) ?_)
  refine CZ (cs:=[.slice ka key.length kc]) (by omega) Z (fun b8 T8=>?_)
  refine Ih (fun d0 hl0 hg0=>?_)
  have r0:=AbO hg0 (hk.mono hl0)
  refine Bl Z (h1 (Dh.mono ak1 hl0) r0 (by omega) (by simp)) (fun r d1 L1 _ ⟨hdd,g,hL,og⟩=>?_)
  subst hdd;subst hL
  refine Ih (fun d2 hl2 hg2=>?_)
  have r1:=og.rsl C6 (by omega) hl2 hg2
  refine Bl Z (h1 r1 (Dh.mono bk1 (hl0.trans hl2)) (by simp;omega) (by omega)) (fun r d3 L3 _ ⟨hdd,g3,hL,og3⟩=>?_)
  subst hdd;subst hL
  refine Ih (fun d4 hl4 hg4=>?_)
  have r3:=og3.rsl C6 (by omega) hl4 hg4
  refine Bl Z (h2 r3 (by simp;omega)) (fun r d5 L5 _ ⟨hdd,o5⟩=>?_)
  subst hdd
  refine UR (fun d6 hl6 hg6=>?_)
  have r5:=o5.Uy hl6 (fun h hm=>hg6 h (Afc _ hm))
  refine Bl Z (h3 (DS.mono ai1 (hl0.trans (hl2.trans (hl4.trans hl6)))) (DS.mono bi1 (hl0.trans (hl2.trans (hl4.trans hl6)))) (by omega) (by omega)) (fun r d7 L7 _ ⟨hdd,g7,hL,og7⟩=>?_)
  subst hdd;subst hL
  obtain⟨o5a,o5c,rfl⟩:=o5.val
  obtain⟨o7a,o7c,rfl⟩:=og7.val
  refine BJ (cs:=[.bool false,.slice o5a (a.keys++[key]++b.keys).length o5c,nV,.slice o7a (a.kids++b.kids).length o7c]) Z ?_
  (apply Cd)
  refine A7 0 [.bool false,.slice o5a (a.keys++[key]++b.keys).length o5c,nV,.slice o7a (a.kids++b.kids).length o7c] Z Z Z Z (by simp[Value.cells]) Z Z ?_
  (refine Aa<|Ap ?_)
  refine XM [.agg [.bool false,.slice o5a (a.keys++[key]++b.keys).length o5c,nV,.slice o7a (a.kids++b.kids).length o7c].toArray] ⟨AW 0 Z Z Z,trivial⟩ (fun d8 hl8 hg8=>⟨Z,_,Z,?_⟩)
  refine⟨.slice o5a (a.keys++[key]++b.keys).length o5c,nV,.slice o7a (a.kids++b.kids).length o7c,by simp[Cs,hlf],?_,?_,?_⟩
  ·simp only[Cs,hlf,Aeh,if_false];exact Dh.mono r5 hl8
  ·simp only[Cs,hlf,Aeh,if_false];exact RSl.nil
  ·simp only[Cs,hlf,Aeh,if_false];exact og7.rsl B6 (by omega) hl8 (hg8 _ (by simp))
def G7{ks}:∀{m:Nat},DE ks m=true↔∀k,k<m→kOk ks k=true
 |0=>⟨fun _ k h=>by omega,fun _=>Z⟩
 |m+1=>by
  simp only[DE,Aec];rw[G7 (m:=m)];constructor
  ·intro ⟨h1,h2⟩ k hk;by_cases e:k=m
   ·subst e;exact h2
   ·exact h1 k (by omega)
  ·exact fun h=>⟨fun k hk=>h k (by omega),h m (by omega)⟩
def N7{ks}(h:DE ks ks.length=true)(a:Nat):DE (ks.take a) (ks.take a).length=true:=by
 rw[G7] at h⊢;intro k hk;simp only[Aer] at hk;have:=h k (by omega);have e:∀j,j≤k→(ks.take a).getD j []=ks.getD j []:=fun j hj=>by
  simp[Ahx,Agd (show j<a by omega)]
 simpa only[kOk,e k (Aef _),e (k - 1) (by omega)] using this
def Od{ks}(h:DE ks ks.length=true)(a:Nat):DE (ks.drop a) (ks.drop a).length=true:=by
 rw[G7] at h⊢;intro k hk;simp only[Aen] at hk;have:=h (a+k) (by omega);have e:∀j,(ks.drop a).getD j []=ks.getD (a+j) []:=fun j=>by simp[Ahx,Agb]
 simp only[kOk,e,Aec,Bool.or_eq_true,beq_iff_eq] at this⊢;refine⟨this.1,?_⟩
 by_cases h0:k=0
 ·exact .inl h0
 ·refine .inr ?_;rcases this.2 with h1|h1
  ·omega
  ·rwa [show a+(k - 1)=a+k - 1 by omega]
def HY(n n':AK)(hl:n'.leaf=n.leaf){a:Nat}(hk:∀j,j<a→Dz n' j=Dz n j)(hv:n.leaf=true→∀j,j<a→Fs n' j=Fs n j):∀k,k≤a→By n' k=By n k
 |0,_=>rfl
 |k+1,h=>by
  simp only[By,HY n n' hl hk hv k (by omega),Eh,hl,hk k (by omega)];cases e:n.leaf
  ·simp
  ·simp[hv e k (by omega)]
def HK(n n':AK)(hl:n'.leaf=n.leaf){a:Nat}(hk:∀j,Dz n' j=Dz n (a+j))(hv:n.leaf=true→∀j,Fs n' j=Fs n (a+j)):∀k,By n' k+By n a=By n (a+k)
 |0=>by simp[By]
 |k+1=>by
  have:=HK n n' hl hk hv k;show By n' k+Eh n' k+By n a=By n (a+k)+Eh n (a+k);simp only[Eh,hl,hk k];cases e:n.leaf
  ·simp only[Aeh,if_false];omega
  ·simp only[if_true,hv e k];omega
def Su(n:AK):∀f a,a≤n.keys.length - 1→n.keys.length≤a+f→(∀j,j<a→2*Cy n j<Cy n n.keys.length)→
  Hb n f a≤n.keys.length - 1∧(∀j,j<Hb n f a→2*Cy n j<Cy n n.keys.length)∧(Hb n f a=n.keys.length - 1∨Cy n n.keys.length≤2*Cy n (Hb n f a))
 |0,a,h1,h2,h3=>⟨h1,h3,.inl (by simp only[Hb];omega)⟩
 |f+1,a,h1,h2,h3=>by
  simp only[Hb];split
  ·rename_i h;refine Su n f (a+1) (by omega) (by omega) (fun j hj=>?_);by_cases e:j=a
   ·subst e;exact h.2
   ·exact h3 j (by omega)
  ·rename_i h;refine⟨h1,h3,?_⟩
   by_cases e:a=n.keys.length - 1
   ·exact .inl e
   ·exact .inr (by omega)
def ON(n:AK):atD n≤n.keys.length - 1∧(∀j,j<atD n→2*Cy n j<Cy n n.keys.length)∧(atD n=n.keys.length - 1∨Cy n n.keys.length≤2*Cy n (atD n)):=
 Su n _ 0 (Aez _) (by omega) (fun j hj=>by omega)
def Ab2(hs:Ba n=true)(hk:k<n.keys.length):Eh n k≤if n.leaf then 82 else 65:=by
 simp only[Ba,Aec] at hs;have h1:=Un hs.1 hk;have e1:Dz n k=n.keys[k].length:=by simp[Dz,hk]
 simp only[Eh];cases hlf:n.leaf with
 |false=>simp only[Aeh,if_false];omega
 |true=>
  have h2:=hs.2
  simp only[hlf,if_true,Aec,decide_eq_true_eq,Aet] at h2
  have hv:k<n.vals.length:=by omega
  have h3:=h2.2 _ (Aey hv)
  simp only[Ii,decide_eq_true_eq] at h3
  have e2:Fs n k=n.vals[k].length:=by simp[Fs,hv]
  simp only[if_true];omega
def TX(hs:Ba n=true)(hk:k<n.keys.length):Cy n (k+1)≤Cy n k+if n.leaf then 82 else 67:=by
 have:=Ab2 hs hk;simp only[Cy,wD];cases hlf:n.leaf<;>simp only[hlf,if_true,Aeh,if_false] at this⊢<;>omega
def RN(h:n.leaf=true):∀k,Cy n k=By n k
 |0=>rfl
 |k+1=>by simp only[Cy,By,wD,h,if_true,RN h k];omega
def PY(h:n.leaf=false):∀k,Cy n k=By n k+2*k
 |0=>rfl
 |k+1=>by simp only[Cy,By,wD,h,Aeh,if_false,PY h k];omega
def AcS(n:AK)(k:Nat):1≤wD n k:=by simp only[wD,Eh];split<;>omega
def Rq{α}{p:α→Bool}{xs:List α}(h:xs.all p=true)(a:Nat):(xs.take a).all p=true:=by
 rw[Aet] at h⊢;exact fun x hx=>h x (List.mem_of_mem_take hx)
def Sa{α}{p:α→Bool}{xs:List α}(h:xs.all p=true)(a:Nat):(xs.drop a).all p=true:=by
 rw[Aet] at h⊢;exact fun x hx=>h x (Ail hx)
def getD_take{l:List (List UInt8)}{a j:Nat}(h:j<a):(l.take a).getD j []=l.getD j []:=by simp[Ahx,Agd h]
def GP{l:List (List UInt8)}{a j:Nat}:(l.drop a).getD j []=l.getD (a+j) []:=by simp[Ahx,Agb]
structure PW (n:AK):Prop where
 r1:Bp (A5 n)=true
 r2:Bp (Be n)=true
 n1:0<(A5 n).keys.length
 n2:0<(Be n).keys.length
 lo:∀i (h:i<(A5 n).keys.length),Op.bytesLess (A5 n).keys[i] (BM n)=true
 hi:∀i (h:i<(Be n).keys.length),Op.bytesLess (BM n) (Be n).keys[i]=true∨((Be n).keys[i]=BM n∧n.leaf=true)
 all:Cs (A5 n) (Be n) (BM n)=n
def Ab7{n:AK}(hz:A9 n≤if n.leaf=true then 340 else 440)(hc:Dt n=true):PW n:=by
 have hc':=hc;simp only[Dt,Aec,decide_eq_true_eq] at hc';obtain⟨hs,hm⟩:=hc';have hs':=hs;simp only[Ba,Aec] at hs';obtain⟨hks,hrest⟩:=hs';obtain⟨ha1,ha2,ha3⟩:=ON n;have hpos:0<Cy n n.keys.length:=by
  have h0:0<n.keys.length:=by split at hm<;>omega
  have:=MQ n (k:=1) (m:=n.keys.length) h0;have:=AcS n 0;simp only[Cy] at*;omega
 have hstep:=fun k hk=>TX hs (k:=k) hk;have hrise:=fun j i hj hi=>Mm hks (j:=j) (i:=i) hj hi;cases hlf:n.leaf with
 |true=>
  simp only[hlf,if_true] at hm hrest hz
  simp only[Aec,decide_eq_true_eq] at hrest
  obtain⟨⟨hvl,hil⟩,hva⟩:=hrest
  have eL:A5 n=⟨true,n.keys.take (atD n),n.vals.take (atD n),[]⟩:=by simp[A5,hc,hlf]
  have eR:Be n=⟨true,n.keys.drop (atD n),n.vals.drop (atD n),[]⟩:=by simp[Be,hc,hlf]
  have eK:BM n=n.keys[atD n]'(by omega):=by simp[BM,hc,hlf,show atD n<n.keys.length by omega]
  have h1:1≤atD n:=by
   rcases ha3 with h|h
   ·omega
   ·by_cases e:atD n=0
    ·rw[e] at h;simp only[Cy] at h;omega
    ·omega
  have hall:A9 n=2+By n n.keys.length:=by simp[A9,hlf]
  have hp:=RN hlf
  have hb:=hstep (atD n - 1) (by omega)
  rw[show atD n - 1+1=atD n by omega,hlf,if_pos Z] at hb
  have hb2:=ha2 (atD n - 1) (by omega)
  have hcl:By (A5 n) (A5 n).keys.length=By n (atD n):=by
   rw[eL];simp only[Aer,Aja (show atD n≤n.keys.length by omega)];exact HY n _ hlf.symm (a:=atD n) (fun j hj=>by simp only[Dz,getD_take hj]) (fun _ j hj=>by simp only[Fs,getD_take hj]) _ (Aef _)
  have hcr:By (Be n) (Be n).keys.length+By n (atD n)=By n n.keys.length:=by
   rw[eR];simp only[Aen];have:=HK n ⟨true,n.keys.drop (atD n),n.vals.drop (atD n),[]⟩ hlf.symm (a:=atD n) (fun j=>by simp only[Dz,GP]) (fun _ j=>by simp only[Fs,GP]) (n.keys.length - atD n);rw[this];congr 1;omega
  refine⟨?_,?_,?_,?_,?_,?_,?_⟩
  ·simp only[Bp,Aec,decide_eq_true_eq]
   refine⟨?_,?_⟩
   ·rw[eL];simp only[Ba,if_true,Aec,decide_eq_true_eq]
    exact⟨N7 hks _,⟨by simp[hvl],Z⟩,Rq hva _⟩
   ·have:A9 (A5 n)=2+By (A5 n) (A5 n).keys.length:=by rw[eL];simp[A9]
    rw[this,hcl,←hp]
    rw[hp n.keys.length] at hb2
    omega
  ·simp only[Bp,Aec,decide_eq_true_eq]
   refine⟨?_,?_⟩
   ·rw[eR];simp only[Ba,if_true,Aec,decide_eq_true_eq]
    exact⟨Od hks _,⟨by simp[hvl],Z⟩,Sa hva _⟩
   ·have:A9 (Be n)=2+By (Be n) (Be n).keys.length:=by rw[eR];simp[A9]
    rw[this]
    rcases ha3 with h|h
    ·have h5:=hstep (atD n) (by omega)
     rw[hlf,if_pos Z,show atD n+1=n.keys.length by omega,hp,hp] at h5
     omega
    ·rw[hp,hp] at h;omega
  ·rw[eL];simp;omega
  ·rw[eR];simp;omega
  ·intro i hi
   simp only[eL,eK] at hi⊢
   simp only[Aer] at hi
   simp only[List.getElem_take]
   exact hrise _ _ (by omega) (by omega)
  ·intro i hi
   simp only[eR,eK] at hi⊢
   simp only[Aen] at hi
   simp only[Ajc]
   by_cases h0:i=0
   ·subst h0;exact .inr ⟨Z,hlf⟩
   ·exact .inl (hrise (atD n+i) (atD n) (by omega) (by omega))
  ·rw[eL,eR]
   obtain⟨lf,ks,vs,is⟩:=n
   simp only at hlf hil
   obtain rfl:=Ael hil
   subst hlf
   simp[Cs]
 |false=>
  simp only[hlf,Aeh,if_false] at hm hrest hz
  simp only[Aec,decide_eq_true_eq] at hrest
  obtain⟨⟨hvl,hil⟩,hia⟩:=hrest
  have ha4:at2 n≤n.keys.length - 1:=by simp only[at2];omega
  have ha5:2≤at2 n:=by simp only[at2];omega
  have ha6:atD n≤at2 n:=by simp only[at2];omega
  have eL:A5 n=⟨false,n.keys.take (at2 n - 1),[],n.kids.take (at2 n)⟩:=by simp[A5,hc,hlf]
  have eR:Be n=⟨false,n.keys.drop (at2 n),[],n.kids.drop (at2 n)⟩:=by simp[Be,hc,hlf]
  have eK:BM n=n.keys[at2 n - 1]'(by omega):=by simp[BM,hc,hlf,show at2 n - 1<n.keys.length by omega]
  have hall:A9 n=2+2*(n.keys.length+1)+By n n.keys.length:=by simp only[A9,hlf,Aeh,if_false,hil]
  have hp:=PY hlf
  have hpm:=hp n.keys.length
  have hcl:By (A5 n) (A5 n).keys.length=By n (at2 n - 1):=by
   rw[eL];simp only[Aer,Aja (show at2 n - 1≤n.keys.length by omega)];exact HY n _ hlf.symm (a:=at2 n - 1) (fun j hj=>by simp only[Dz,getD_take hj]) (fun h=>by rw[hlf] at h;cases h) _ (Aef _)
  have hcr:By (Be n) (Be n).keys.length+By n (at2 n)=By n n.keys.length:=by
   rw[eR];simp only[Aen];have:=HK n ⟨false,n.keys.drop (at2 n),[],n.kids.drop (at2 n)⟩ hlf.symm (a:=at2 n) (fun j=>by simp only[Dz,GP]) (fun h=>by rw[hlf] at h;cases h) (n.keys.length - at2 n);rw[this];congr 1;omega
  refine⟨?_,?_,?_,?_,?_,?_,?_⟩
  ·simp only[Bp,Aec,decide_eq_true_eq]
   refine⟨?_,?_⟩
   ·rw[eL];simp only[Ba,Aeh,if_false,Aec,decide_eq_true_eq]
    exact⟨N7 hks _,⟨Z,by simp only[Aer];omega⟩,Rq hia _⟩
   ·have:A9 (A5 n)=2+2*at2 n+By (A5 n) (A5 n).keys.length:=by
     rw[eL];simp only[A9,Aeh,if_false,Aer,Aja (show at2 n≤n.kids.length by omega)]
    rw[this,hcl]
    have h7:=hp (at2 n - 1)
    by_cases h8:at2 n=2
    ·have h9:=hstep 0 (by omega)
     simp only[hlf,Aeh,if_false,Cy] at h9
     have h10:=hp 1
     simp only[Cy] at h10
     rw[h8] at h7⊢
     simp only[Nat.reduceSub,Cy] at h7⊢
     omega
    ·have h9:=ha2 (at2 n - 1) (by simp only[at2] at h8⊢;omega)
     omega
  ·simp only[Bp,Aec,decide_eq_true_eq]
   refine⟨?_,?_⟩
   ·rw[eR];simp only[Ba,Aeh,if_false,Aec,decide_eq_true_eq]
    exact⟨Od hks _,⟨Z,by simp only[Aen];omega⟩,Sa hia _⟩
   ·have:A9 (Be n)=2+2*(n.kids.length - at2 n)+By (Be n) (Be n).keys.length:=by
     rw[eR];simp only[A9,Aeh,if_false,Aen]
    rw[this]
    have h7:=hp (at2 n)
    rcases ha3 with h|h
    ·have h8:at2 n=n.keys.length - 1:=by omega
     have h5:=hstep (at2 n) (by omega)
     simp only[hlf,Aeh,if_false] at h5
     rw[show at2 n+1=n.keys.length by omega] at h5
     omega
    ·have h5:=MQ n ha6
     omega
  ·rw[eL];simp;omega
  ·rw[eR];simp;omega
  ·intro i hi
   simp only[eL,eK] at hi⊢
   simp only[Aer] at hi
   simp only[List.getElem_take]
   exact hrise _ _ (by omega) (by omega)
  ·intro i hi
   simp only[eR,eK] at hi⊢
   simp only[Aen] at hi
   simp only[Ajc]
   exact .inl (hrise (at2 n+i) (at2 n - 1) (by omega) (by omega))
  ·have hk1:n.keys.take (at2 n - 1)++[n.keys[at2 n - 1]'(by omega)]++n.keys.drop (at2 n)=n.keys:=by
    rw[←Aes,show at2 n - 1+1=at2 n by omega,Ahs]
   rw[eL,eR,eK]
   simp only[Cs,Aeh,if_false]
   rw[hk1,Ahs]
   obtain⟨lf,ks,vs,is⟩:=n
   simp only at hlf hvl⊢
   obtain rfl:=Ael hvl
   subst hlf;rfl
end Go.Gk.Node
end
section
namespace Go.Gk
open Go
variable{x:Operand}{j:Int}
section
section
variable {P:Program}{pan:List PanicEntry→AU}{Qn:Env→AU}{Ls L:List Ac}{ρ:Env}{d:Ac}{s:GS}{t:Nat}{tk:Bool}
def Db{b o n c l h m:Nat}{lo hi mx:Option Operand}(ex:ev ρ x=.slice (some ⟨b,o,none⟩) n c)(hc:Ea n c (lo.map (ev ρ)) (hi.map (ev ρ)) (mx.map (ev ρ))=some (l,h,m))
  (k:∀o',(m≠l→o'=o+l)→gws P pan Qn s Ls (upd ρ t (.slice (some ⟨b,o',none⟩) (h - l) (m - l))) d L):gws P pan Qn (.op tk ⟨some t,none,.sl 1 x lo hi mx⟩ s) Ls ρ d L:=by
 by_cases hml:m=l
 ·refine w_q Z (v:=.slice (some ⟨b,o,none⟩) (h - l) (m - l)) ⟨some ⟨b,o,none⟩,n,c,l,h,m,ex,fun q=>absurd hml q,hc,by rw[if_pos hml]⟩ (k o (fun q=>absurd hml q))
 ·refine w_q Z (v:=.slice (some ⟨b,o+l,none⟩) (h - l) (m - l)) ⟨some ⟨b,o,none⟩,n,c,l,h,m,ex,fun _ a' ha=>by cases ha;rfl,hc,by rw[if_neg hml];simp⟩ (k (o+l) (fun _=>Z))
def C3{n c:Nat}{v k}{i:Nat}(ev:v=.int k j)(hj:j=(i:Int))(hi:i≤n):Ea n c (some v) none none=some (i,n,c):=by
 subst ev;subst hj;simp only[Ea,Hl,GX,Hr,Option.isSome_none,Aeh,if_false,Age,bnd];rw[if_pos (by omega)];simp
def Km{n c:Nat}{v k}{i:Nat}(ev:v=.int k j)(hj:j=(i:Int))(hi:i≤c):Ea n c none (some v) none=some (0,i,c):=by
 subst ev;subst hj;simp only[Ea,Hl,GX,Hr,Age,Option.map_some,bnd];rw[if_pos (by omega)];simp
def W8{n c:Nat}{v w k k'}{j':Int}{i i':Nat}(ev:v=.int k j)(ew:w=.int k' j')(hj:j=(i:Int))(hj':j'=(i':Int))(hi:i≤i')(hi':i'≤c):Ea n c (some v) (some w) none=some (i,i',c):=by
 subst ev;subst hj;subst ew;subst hj';simp only[Ea,Hl,GX,Hr,Age,bnd];rw[if_pos (by omega),Age,if_pos (by omega)];simp
def Wx{n c:Nat}{v w u k k' k''}{j' j'':Int}{i i' i'':Nat}(ev:v=.int k j)(ew:w=.int k' j')(eu:u=.int k'' j'')(hj:j=(i:Int))(hj':j'=(i':Int))(hj'':j''=(i'':Int))(hi:i≤i')(hi':i'≤i'')(hi'':i''≤c):
  Ea n c (some v) (some w) (some u)=some (i,i',i''):=by
 subst ev;subst hj;subst ew;subst hj';subst eu;subst hj''
 simp only[Ea,Hl,GX,Hr,bnd]
 rw[if_pos (by omega),Age,if_pos (by omega),Age,if_pos (by omega)];simp
def Abv{by_:Nat}{z y}{b o n c m:Nat}{Cz}(ex:ev ρ x=.slice (some ⟨b,o,none⟩) n c)(ey:ev ρ y=vZ j)(hj:j=(m:Int))(hlt:c<n+m)(hmax:n+m≤140737488355328)(hb:(n+m)*by_≤140737488355328)(hl:Cz.length=n)
  (ho:∀i u,Cz[i]?=some u→HC d (Ls++L++L) ⟨b,o+i,none⟩ u)
  (k:∀b T c',n+m≤c'→c'≤9223372036854775807→gws P pan Qn s Ls (upd ρ t (.slice (some ⟨b,0,none⟩) (n+m) c')) d (bx b T (Cz++Bq z (c' - n))::L)):gws P pan Qn (.op false ⟨some t,none,.mop (.zap 1 by_ z x y)⟩ s) Ls ρ d L:=by
 subst hj
 refine⟨d,L,Vs.refl d L,?_⟩
 simp only[gop,gi,mi,maxLen]
 refine⟨_,n,c,m,Cz,ex,ey,hlt,by omega,by simpa using hb,by simpa using hl,(fun q=>by cases q),fun a' ha i u hu=>by cases ha;rw[Addr.add_lit];exact ho i u hu,fun b T c' h1 h2=>⟨_,_,Vs.refl _ _,?_⟩⟩
 rw[Agn]
 exact k b T c' h1 h2
def Abf{z}{t:Option Nat}{a}{n c:Nat}(ex:ev ρ x=.slice a n c) (k:(n=0∧gws P pan Qn s Ls (put ρ t (.tuple #[])) d L)∨∃i b o T l,a=some ⟨b,o,none⟩∧L[i]?=some (bx b T l)∧o+n≤l.length∧
  gws P pan Qn s Ls (put ρ t (.tuple #[])) d (L.set i (bx b T (patch l o (Bq z n))))):gws P pan Qn (.op false ⟨t,none,.mop (.clz 1 z x)⟩ s) Ls ρ d L:=by
 refine⟨d,L,Vs.refl d L,?_⟩
 simp only[gop,gi,mi,Agn]
 refine⟨a,n,c,ex,?_⟩
 rcases k with ⟨h1,h2⟩|⟨i,b,o,T,l,h1,h2,h3,h4⟩
 ·exact .inl ⟨h1,_,_,Vs.refl _ _,h2⟩
 ·exact .inr ⟨i,b,o,T,l,h1,h2,h3,_,_,Vs.refl _ _,h4⟩
def Abi{y}{b o n c b' o' n' c':Nat}(i j:Nat){T T' l l'}(ex:ev ρ x=.slice (some ⟨b,o,none⟩) n c)(ey:ev ρ y=.slice (some ⟨b',o',none⟩) n' c')(hij:i≠j)(hi:L[i]?=some (bx b T l))(hj:L[j]?=some (bx b' T' l'))(hl:l'≠[])
  (k:gws P pan Qn s Ls (upd ρ t (.bool false)) d L):gws P pan Qn (.op false ⟨some t,none,.mop (.ovl x y)⟩ s) Ls ρ d L:=by
 refine⟨d,L,Vs.refl d L,?_⟩
 simp only[gop,gi,mi]
 exact⟨_,n,c,_,n',c',ex,ey,⟨_,_,Vs.refl _ _,k⟩,.inr (.inr ⟨i,j,b,o,T,l,b',o',T',l',Z,Z,hij,hi,hj,hl⟩)⟩
def HZ{y}{t:Option Nat}(i:Nat){b o n c b' o' m xc:Nat}{T l news}(ex:ev ρ x=.slice (some ⟨b,o,none⟩) n c)(ey:ev ρ y=.slice (some ⟨b',o',none⟩) m xc)(hi:L[i]?=some (bx b T l))(hl:news.length=min m n)(h1:(news.all (·.oneCell'))=true)
  (hx:∀j u,news[j]?=some u→HC d (Ls++L++L) ⟨b',o'+j,none⟩ u) (ho:o+news.length≤l.length) (k:gws P pan Qn s Ls (put ρ t (vZ ((min m n:Nat):Int))) d (L.set i (bx b T (patch l o news)))):
  gws P pan Qn (.op false ⟨t,none,.mop (.cpy 1 x y)⟩ s) Ls ρ d L:=by
 refine⟨d,L,Vs.refl d L,?_⟩
 simp only[gop,gi,mi]
 exact⟨_,n,c,_,m,xc,news,ex,ey,by simpa using hl,h1,(fun q=>by cases q),fun a' ha j u hu=>by cases ha;rw[Addr.add_lit];exact hx j u hu,.inr ⟨i,b,o,T,l,Z,hi,ho,_,_,Vs.refl _ _,k⟩⟩
end
section
variable {P:Program}{pan:List PanicEntry→AU}{Qn:Env→AU}{Ls L:List Ac}{ρ:Env}{d:Ac}{s:GS}{t:Nat}
def ZJ{by_:Nat}{z y}(i:Nat){b o n c b' o' m xc:Nat}{T l news}(ex:ev ρ x=.slice (some ⟨b,o,none⟩) n c)(ey:ev ρ y=.slice (some ⟨b',o',none⟩) m xc)(hi:L[i]?=some (bx b T l))(hl:news.length=m)(h1:(news.all (·.oneCell'))=true)
  (hx:∀j u,news[j]?=some u→HC d (Ls++L++L) ⟨b',o'+j,none⟩ u) (hle:n+m≤c) (hc:c≤9223372036854775807) (ho:o+(n+m)≤l.length) (k:gws P pan Qn s Ls (upd ρ t (.slice (some ⟨b,o,none⟩) (n+m) c)) d (L.set i (bx b T (patch l (o+n) news)))):
  gws P pan Qn (.op false ⟨some t,none,.app 1 by_ z x y⟩ s) Ls ρ d L:=by
 refine⟨d,L,Vs.refl d L,?_⟩
 simp only[gop,gi,maxLen,Agn]
 exact⟨_,n,c,_,m,xc,news,ex,ey,hl,h1,(fun q=>by cases q),fun a' ha j u hu=>by cases ha;rw[Addr.add_lit];exact hx j u hu,by omega,hc,fun _=>.inr ⟨i,b,o,T,l,Z,hi,ho,_,_,Vs.refl _ _,k⟩,fun q=>by omega⟩
end
end
end Go.Gk
end
section
namespace Go.Gk
open Go
attribute [local irreducible] gwp gws
variable{α:Type}{i n:Nat}{cs:List Value}
def As.one{R d v}{xs:List α}{h}:As 1 R d v xs h↔∃cs,BV 1 v xs.length cs h∧∀i (hi:i<xs.length) u,cs[i]?=some u→R d [u] xs[i]:=by
 constructor
 ·rintro⟨cs,h1,h2⟩;refine⟨cs,h1,fun i hi u hu=>?_⟩
  have:=h2 i hi;unfold chunk at this;rw[Agn,Afl (by have:=h1.1;omega),Ajm,List.take_zero] at this;obtain⟨hlt,rfl⟩:=Aeq.1 hu;exact this
 ·rintro⟨cs,h1,h2⟩;refine⟨cs,h1,fun i hi=>?_⟩
  have hl:i<cs.length:=by have:=h1.1;omega
  unfold chunk;rw[Agn,Afl hl,Ajm,List.take_zero];exact h2 i hi cs[i] (Aed hl)
def Cb{α}(xs:List α)(i:Nat)(y:α):List α:=xs.take i++y::xs.drop i
def Fy{xs:List α}{y:α}(h:i≤xs.length):(Cb xs i y).length=xs.length+1:=by unfold Cb;simp;omega
def NS{xs:List α}{j:Nat}{y:α}(h:i≤xs.length):(Cb xs i y)[j]?=if j<i then xs[j]? else if j=i then some y else xs[j - 1]?:=by
 unfold Cb;by_cases h1:j<i
 ·rw[if_pos h1,Afy (by simp;omega),Agh,if_pos h1]
 ·rw[if_neg h1,Agc (by simp;omega)];have hl:(xs.take i).length=i:=by simp;omega
  rw[hl];by_cases h2:j=i
  ·subst h2;simp
  ·rw[if_neg h2];obtain⟨m,hm⟩:∃m,j - i=m+1:=⟨j - i - 1,by omega⟩
   rw[hm,List.getElem?_cons_succ,Agb];congr 1;omega
def BV.ins{c b:Nat}{T l u}(hc:cs.length=n)(hn:n+1≤140737488355328)(hi:i≤n)(h3:n+1≤c)(h4:c≤9223372036854775807)(h5:c≤l.length)(h6:∀j,j<n+1→l[j]?=(Cb cs i u)[j]?):
  BV 1 (.slice (some ⟨b,0,none⟩) (n+1) c) (n+1) (Cb cs i u) (bx b T l):=by
 have hil:(Cb cs i u).length=n+1:=by rw[Fy (by omega),hc]
 refine BV.mk (by rw[hil];omega) hn h3 h4 (by omega) ?_
 apply Ahm
 intro j
 rw[hil,Agh]
 by_cases hj:j<n+1
 ·rw[if_pos hj,h6 j hj]
 ·rw[if_neg hj,Afo (by omega)]
def As.ins{R d v}{xs:List α}{h u}{y:α}(hi:i≤xs.length)(hcl:cs.length=xs.length)(h1:BV 1 v (xs.length+1) (Cb cs i u) h)(h2:∀i (hi:i<xs.length) u,cs[i]?=some u→R d [u] xs[i])(h3:R d [u] y):As 1 R d v (Cb xs i y) h:=by
 rw[As.one];refine⟨Cb cs i u,by rw[Fy hi];exact h1,fun j hj w hw=>?_⟩
 have hx:(Cb xs i y)[j]?=some (Cb xs i y)[j]:=Aed hj;rw[NS (by omega)] at hw;rw[NS hi] at hx;rw[Fy hi] at hj;by_cases q1:j<i
 ·rw[if_pos q1] at hw hx;have:=h2 j (by omega) w hw;rw[Aed (by omega)] at hx;rw[←Option.some.inj hx];exact this
 ·rw[if_neg q1] at hw hx;by_cases q2:j=i
  ·rw[if_pos q2] at hw hx;rw[←Option.some.inj hx,←Option.some.inj hw];exact h3
  ·rw[if_neg q2] at hw hx;have:=h2 (j - 1) (by omega) w hw;rw[Aed (by omega)] at hx;rw[←Option.some.inj hx];exact this
def Hz{p:Value→Bool}(h:cs.all p=true):(cs.drop i).all p=true:=by
 rw[Aet] at h⊢;exact fun x hx=>h x (Ail hx)
def Ve{l u}(hc:cs.length=n)(hi:i<n)(hl:n+1≤l.length)(h:∀j,j<i→l[j]?=cs[j]?)(j:Nat)(hj:j<n+1):(patch (patch l (0+i) [u]) (0+(i+1)) (cs.drop i))[j]?=(Cb cs i u)[j]?:=by
 have e1:(patch l (0+i) [u]).length=l.length:=Bt (by simp;omega);rw[CM (by rw[e1,Aen];omega),CM (by simp;omega),NS (by omega),Aen];by_cases q1:j<i
 ·rw[if_pos q1,if_neg (by omega),if_neg (by simp;omega),h j q1]
 ·rw[if_neg q1];by_cases q2:j=i
  ·subst q2;rw[if_pos Z,if_neg (by omega),if_pos (by simp)];simp
  ·rw[if_neg q2,if_pos (by omega),Agb];congr 1;omega
def Uf{l u}(hc:cs.length=n)(hi:i<n)(hl:n+1≤l.length)(h:∀j,j<n→l[j]?=cs[j]?)(j:Nat)(hj:j<n+1):(patch (patch l (0+(i+1)) (cs.drop i)) (0+i) [u])[j]?=(Cb cs i u)[j]?:=by
 have e1:(patch l (0+(i+1)) (cs.drop i)).length=l.length:=Bt (by rw[Aen];omega);rw[CM (by rw[e1];simp;omega),CM (by rw[Aen];omega),NS (by omega),Aen];by_cases q1:j<i
 ·rw[if_pos q1,if_neg (by simp;omega),if_neg (by omega),h j (by omega)]
 ·rw[if_neg q1];by_cases q2:j=i
  ·subst q2;rw[if_pos Z,if_pos (by simp)];simp
  ·rw[if_neg q2,if_neg (by simp;omega),if_pos (by omega),Agb];congr 1;omega
def Iq{α}(R:Ac→List Value→α→Prop)(P:Program)(f:FuncId):Prop:=∀{d v}{xs:List α}{h}{i b:Nat}{T u}{y:α},As 1 R d v xs h→i≤xs.length→xs.length≤1000000000000→R d [u] y→FC R→
 AA P f [v,vZ i,.slice (some ⟨b,0,none⟩) 1 1] d [bx b T [u],h] (Ret fun r d' L'=>d'=d∧∃h',L'=[h']∧As 1 R d r (Cb xs i y) h')
def Iy(a0:Nat):A0:=⟨95,[(.tmp 6)],(sR (o1 6 (.mv nS) .done) (sR (om 10 0<|om 11 1<|o1 12 (.sl 1 10 (some 11) none none) .done) (sR (om 13 2<|oL 14 13<|om 7 14 .done) (.seq (sR (om 15 7<|ob 16 .eql 15 z0 .done) (.cond 16 (sR (om 17 0<|om 6 17 .done) .ret) .skip)) (sR (om 18 0<|oL 19 18<|om 8 19 .done) (.seq (sR (om 20 1<|om 21 8<|ob 22 .eql 20 21 .done) (.cond 22 (sR (om 23 0<|om 24 2<|o1 25 (.app 1 24 [nV] 23 24)<|om 6 25 .done) .ret) .skip)) (.seq (sR (om 26 8<|om 27 7<|ob 28 .add 26 27<|om 29 0<|o1 30 (.cap 29)<|ob 31 .gtr 28 30 .done) (.cond 31 (sR (om 32 0<|om 33 1<|o1 34 (.sl 1 32 none (some 33) none)<|om 35 8<|om 36 7<|ob 37 .add 35 36<|om 38 1<|ob 39 .sub 37 38<|o1 40 (.mop (.zap 1 24 [nV] 34 39))<|om 9 40 .done) (sR (om 41 9<|om 42 1<|o1 43 (.sl 1 41 (some 42) none none)<|om 44 2<|o1 45 (.mop (.cpy 1 43 44)) .done) (.seq (.reg true (pm 46 9<|pm 47 1<|pm 48 7<|p1 49 (.bin .add 47 48)<|p1 50 (.sl 1 46 (some 49) none none)<|pm 51 0<|pm 52 1<|p1 53 (.sl 1 51 (some 52) none none)<|o1 54 (.mop (.cpy 1 50 53)) .done)) (sR (om 55 9<|om 6 55 .done) .ret)))) .skip)) (sR (om 56 0<|om 57 8<|om 58 7<|ob 59 .add 57 58<|o1 60 (.sl 1 56 none (some 59) none)<|om 0 60 .done) (.seq (sR (om 61 2<|om 62 0<|om 63 1<|om 64 7<|ob 65 .add 63 64<|o1 66 (.sl 1 62 (some 65) none none)<|o1 67 (.mop (.ovl 61 66))<|o1 68 (.un .not 67) .done) (.cond 68 (.seq (.reg true (pm 69 0<|pm 70 1<|pm 71 7<|p1 72 (.bin .add 70 71)<|p1 73 (.sl 1 69 (some 72) none none)<|pm 74 0<|pm 75 1<|p1 76 (.sl 1 74 (some 75) none none)<|o1 77 (.mop (.cpy 1 73 76)) .done)) (sR (om 78 0<|om 79 1<|o1 80 (.sl 1 78 (some 79) none none)<|om 81 2<|o1 82 (.mop (.cpy 1 80 81)) .done) (sR (om 83 0<|om 6 83 .done) .ret))) .skip)) (sR (om 84 0<|om 85 8<|o1 86 (.sl 1 84 (some 85) none none)<|om 87 2<|o1 88 (.mop (.cpy 1 86 87)) .done) (sR (om 89 0<|om 90 1<|o1 91 (.sl 1 89 (some 90) none none)<|om 92 7<|oc 93 a0 [91,92] .done) (sR (om 94 0<|om 6 94 .done) .ret))))))))))))⟩
def LI{P f f1}(hd:dec P f=some (Iy f1)):Iq RBs P f:=by
 intro d v xs h i b T u y ho hi hxl hy hC;refine AG hd (Aea Z) ?_;have ho':=ho;rw[As.one] at ho';obtain⟨cs,h1,h2⟩:=ho';have hcl:cs.length=xs.length:=by have:=h1.1;omega
 obtain⟨va,vc,rfl⟩:=ho.val;show gwp P _ _ _ _ _;obtain⟨-,h3,⟨hn1,hn2,rfl⟩|⟨b1,T1,l,c,hn1,rfl,h4,h5,h6,h7⟩⟩:=h1
 ·simp only[Value.slice.injEq] at hn1;obtain⟨rfl, -,rfl⟩:=hn1;obtain rfl:=Ael hn2;obtain rfl:i=0:=by simpa using hi
  refine Ad<|Aj Z<|Aa<|Ad<|Aj Z<|Ab Z<|w_q Z (v:=nV) ⟨none,0,0,0,0,0,Z,fun q=>absurd Z q,Z,Z⟩ ?_;refine Aa<|Ad<|Aj Z<|AI Z<|Ab Z<|Aa<|Ag<|Ad<|Ab Z<|AN Z Z<|Aa<|Ar Z (by omega)<|Ak<|Ad<|Aj Z<|AI Z<|Ab Z<|Aa<|Ag<|Ad<|Ab Z<|Ab Z<|AN Z Z<|Aa<|Aw Z (by omega)<|Ad<|Aj Z<|Aj Z<|Dj (R:=RBs) 0 Z Z ho Z (As.D2 (x:=y) Z hy) hC (by omega) (by simp) (by simp) (fun v' h' ho'=>?_);(refine AR<|Aa<|Ap ?_);exact Dc [v'] ⟨Z,trivial⟩ (Aeb _) ⟨Z,h',Z,ho'⟩
 ·cases hn1;have hcu:(cs.all (·.oneCell'))=true:=by
   rw[Aet];intro x hx;obtain⟨j,hj,rfl⟩:=Aga hx;have:=hC _ _ _ (h2 j (by omega) _ (Aed hj));simpa using this
  have hl7:∀j,j<xs.length→l[j]?=cs[j]?:=fun j hj=>by
   rw[←h7,Agh,if_pos (by omega)]
  refine Ad<|Aj Z<|Aa<|Ad<|Aj Z<|Ab Z<|Db (l:=i) (h:=xs.length) (m:=vc) Z (C3 Z Z hi) (fun o1 _=>?_);(refine Aa<|Ad<|Aj Z<|AI Z<|Ab Z<|Aa<|Ag<|Ad<|Ab Z<|AN Z Z<|Aa<|Ar Z (by omega)<|Ak<|Ad<|Aj Z<|AI Z<|Ab Z<|Aa<|Ag<|Ad<|Ab Z<|Ab Z<|AN Z Z<|Aa ?_);by_cases e:i=xs.length
  ·subst e;refine Aw Z (by omega)<|Ad<|Aj Z<|Aj Z<|Dj (R:=RBs) 0 Z Z ho Z (As.D2 (x:=y) Z hy) hC (by omega) (by simp;omega) (by simp;omega) (fun v' h' ho'=>?_);(refine AR<|Aa<|Ap ?_);exact Dc [v'] ⟨Z,trivial⟩ (Aeb _) ⟨Z,h',Z,by rw[Cb,Afq,Ahg];exact ho'⟩
  ·by_cases hc:vc<xs.length+1
   ·refine Ar Z (by omega)<|Ak<|Ag<|Ad<|Ab Z<|Ab Z<|AM Z Z (by omega) (by omega)<|Aj Z<|SM Z<|Bx Z Z<|Aa<|Aw Z (by omega)<|Ad<|Aj Z<|Ab Z<|Db (l:=0) (h:=i) (m:=vc) Z (Km Z Z (by omega)) (fun o2 ho2=>?_);obtain rfl:o2=0:=by rw[ho2 (by omega)]
    refine Ab Z<|Ab Z<|AM Z Z (by omega) (by omega)<|Ab Z<|CV Z Z (by omega) (by omega)<|Abv (m:=xs.length+1 - i) (Cz:=cs.take i) Z Z (by omega) (by omega) (by omega) (by omega) (by rw[Aer];omega) (fun j w hw=>?_) (fun b2 T2 c' h8 h9=>?_)
    ·rw[Agh] at hw;by_cases q:j<i
     ·rw[if_pos q,←hl7 j (by omega)] at hw;exact Al 1 Z (by rw[Agg];exact hw)
     ·rw[if_neg q] at hw;cases hw
    rw[show i - 0+(xs.length+1 - i)=xs.length+1 by omega] at h8⊢;have hl2:(cs.take i++Bq [nV] (c' - (i - 0))).length=c':=by rw[Aek,Aer];simp[Bq];omega
    obtain⟨l2,hl2e⟩:∃l2,l2=cs.take i++Bq [nV] (c' - (i - 0)):=⟨_,Z⟩
    have hl2t:∀j,j<i→l2[j]?=cs[j]?:=fun j hj=>by
     rw[hl2e,Afy (by rw[Aer];omega),Agh,if_pos hj]
    rw[←hl2e] at hl2⊢;refine Aj Z<|Aa<|Ad<|Aj Z<|Ab Z<|Db (l:=i) (h:=xs.length+1) (m:=c') Z (C3 Z Z (by omega)) (fun o3 ho3=>?_);obtain rfl:o3=0+i:=ho3 (by omega);(apply Aj;rfl);refine HZ 0 (news:=[u]) Z Z Z (by simp;omega) (by simpa using hC _ _ _ hy) (fun j w hw=>?_) (by simp;omega) ?_
    ·obtain rfl:j=0:=by
      have:=(Aeq.1 hw).1;simpa using this
     exact Al 1 Z hw
    refine Aa<|Ag<|Bw [] [bx b2 T2 (patch l2 (0+i) [u]),bx b T [u],bx b1 T1 l] Z ?_;refine Aj Z<|Ab Z<|Ab Z<|AM Z Z (by omega) (by omega)<|Db (l:=i+1) (h:=xs.length+1) (m:=c') Z (C3 Z Z (by omega)) (fun o4 ho4=>?_);obtain rfl:o4=0+(i+1):=ho4 (by omega);refine Aj Z<|Ab Z<|Db (l:=i) (h:=xs.length) (m:=vc) Z (C3 Z Z (by omega)) (fun o5 ho5=>?_);obtain rfl:o5=0+i:=ho5 (by omega);skip;refine HZ 0 (news:=cs.drop i) Z Z Z (by rw[Aen];omega) (Hz hcu) (fun j w hw=>?_) (by rw[Bt (by simp;omega),Aen];omega) ?_
    ·rw[Agb] at hw;have:=(Aeq.1 hw).1;exact Al 2 Z (by rw[Agg,hl7 _ (by omega)];exact hw)
    refine Aa<|Ad<|Aj Z<|Aj Z<|Aa<|Ap<|Dc [.slice (some ⟨b2,0,none⟩) (xs.length+1) c'] ⟨Z,trivial⟩ (L':=[bx b2 T2 (patch (patch l2 (0+i) [u]) (0+(i+1)) (cs.drop i))]) (Agi _ (Afg _)) ⟨Z,_,Z,As.ins hi hcl (BV.ins hcl (by omega) hi h8 h9 ?_ ?_) h2 hy⟩
    ·rw[Bt (by rw[Bt (by simp;omega),Aen];omega),Bt (by simp;omega)];omega
    ·exact Ve hcl (by omega) (by omega) hl2t
   ·have hlne:l≠[]:=by intro q;rw[q] at h6;simp at h6;omega
    refine Ar Z (by omega)<|Ak<|Ag<|Ad<|Ab Z<|Ab Z<|AM Z Z (by omega) (by omega)<|Aj Z<|SM Z<|Bx Z Z<|Aa<|Ar Z (by omega)<|Ak<|Ad<|Aj Z<|Ab Z<|Ab Z<|AM Z Z (by omega) (by omega)<|Db (l:=0) (h:=xs.length+1) (m:=vc) Z (Km Z (by omega) (by omega)) (fun o2 ho2=>?_);obtain rfl:o2=0:=by rw[ho2 (by omega)]
    refine Aj Z<|Aa<|Ag<|Ad<|Aj Z<|Aj Z<|Ab Z<|Ab Z<|AM Z Z (by omega) (by omega)<|Db (l:=i+1) (h:=xs.length+1 - 0) (m:=vc - 0) Z (C3 Z (by omega) (by omega)) (fun o3 ho3=>?_);skip;refine Abi 0 1 Z Z (by decide) Z Z hlne ?_;refine Bn Z<|Aa<|Bc Z<|Ag<|Bw [] [bx b T [u],bx b1 T1 l] Z ?_;refine Aj Z<|Ab Z<|Ab Z<|AM Z Z (by omega) (by omega)<|Db (l:=i+1) (h:=xs.length+1 - 0) (m:=vc - 0) Z (C3 Z (by omega) (by omega)) (fun o4 ho4=>?_);obtain rfl:o4=0+(i+1):=ho4 (by omega);refine Aj Z<|Ab Z<|Db (l:=i) (h:=xs.length+1 - 0) (m:=vc - 0) Z (C3 Z (by omega) (by omega)) (fun o5 ho5=>?_);obtain rfl:o5=0+i:=ho5 (by omega);skip;refine HZ 1 (news:=cs.drop i) Z Z Z (by rw[Aen];omega) (Hz hcu) (fun j w hw=>?_) (by rw[Aen];omega) ?_
    ·rw[Agb] at hw;have:=(Aeq.1 hw).1;exact Al 1 Z (by rw[Agg,hl7 _ (by omega)];exact hw)
    refine Aa<|Ad<|Aj Z<|Ab Z<|Db (l:=i) (h:=xs.length+1 - 0) (m:=vc - 0) Z (C3 Z (by omega) (by omega)) (fun o6 ho6=>?_);obtain rfl:o6=0+i:=ho6 (by omega);(apply Aj;rfl);refine HZ 1 (news:=[u]) Z Z Z (by simp;omega) (by simpa using hC _ _ _ hy) (fun j w hw=>?_) (by rw[Bt (by rw[Aen];omega)];simp;omega) ?_
    ·obtain rfl:j=0:=by
      have:=(Aeq.1 hw).1;simpa using this
     exact Al 0 Z hw
    refine Aa<|Ad<|Aj Z<|Aj Z<|Aa<|Ap<|Dc [.slice (some ⟨b1,0,none⟩) (xs.length+1 - 0) (vc - 0)] ⟨Z,trivial⟩ (L':=[bx b1 T1 (patch (patch l (0+(i+1)) (cs.drop i)) (0+i) [u])]) (List.Sublist.cons _ (Aeb _)) ⟨Z,_,Z,As.ins hi hcl (BV.ins hcl (by omega) hi (by omega) (by omega) ?_ ?_) h2 hy⟩
    ·rw[Bt (by rw[Bt (by rw[Aen];omega)];simp;omega),Bt (by rw[Aen];omega)];omega
    ·exact Uf hcl (by omega) (by omega) hl7
def Jk(a0:Nat):A0:=⟨95,[(.tmp 6)],(sR (o1 6 (.mv nS) .done) (sR (om 10 0<|om 11 1<|o1 12 (.sl 1 10 (some 11) none none) .done) (sR (om 13 2<|oL 14 13<|om 7 14 .done) (.seq (sR (om 15 7<|ob 16 .eql 15 z0 .done) (.cond 16 (sR (om 17 0<|om 6 17 .done) .ret) .skip)) (sR (om 18 0<|oL 19 18<|om 8 19 .done) (.seq (sR (om 20 1<|om 21 8<|ob 22 .eql 20 21 .done) (.cond 22 (sR (om 23 0<|om 24 2<|o1 25 (.app 1 8 [(vZ 0)] 23 24)<|om 6 25 .done) .ret) .skip)) (.seq (sR (om 26 8<|om 27 7<|ob 28 .add 26 27<|om 29 0<|o1 30 (.cap 29)<|ob 31 .gtr 28 30 .done) (.cond 31 (sR (om 32 0<|om 33 1<|o1 34 (.sl 1 32 none (some 33) none)<|om 35 8<|om 36 7<|ob 37 .add 35 36<|om 38 1<|ob 39 .sub 37 38<|o1 40 (.mop (.zap 1 8 [(vZ 0)] 34 39))<|om 9 40 .done) (sR (om 41 9<|om 42 1<|o1 43 (.sl 1 41 (some 42) none none)<|om 44 2<|o1 45 (.mop (.cpy 1 43 44)) .done) (.seq (.reg true (pm 46 9<|pm 47 1<|pm 48 7<|p1 49 (.bin .add 47 48)<|p1 50 (.sl 1 46 (some 49) none none)<|pm 51 0<|pm 52 1<|p1 53 (.sl 1 51 (some 52) none none)<|o1 54 (.mop (.cpy 1 50 53)) .done)) (sR (om 55 9<|om 6 55 .done) .ret)))) .skip)) (sR (om 56 0<|om 57 8<|om 58 7<|ob 59 .add 57 58<|o1 60 (.sl 1 56 none (some 59) none)<|om 0 60 .done) (.seq (sR (om 61 2<|om 62 0<|om 63 1<|om 64 7<|ob 65 .add 63 64<|o1 66 (.sl 1 62 (some 65) none none)<|o1 67 (.mop (.ovl 61 66))<|o1 68 (.un .not 67) .done) (.cond 68 (.seq (.reg true (pm 69 0<|pm 70 1<|pm 71 7<|p1 72 (.bin .add 70 71)<|p1 73 (.sl 1 69 (some 72) none none)<|pm 74 0<|pm 75 1<|p1 76 (.sl 1 74 (some 75) none none)<|o1 77 (.mop (.cpy 1 73 76)) .done)) (sR (om 78 0<|om 79 1<|o1 80 (.sl 1 78 (some 79) none none)<|om 81 2<|o1 82 (.mop (.cpy 1 80 81)) .done) (sR (om 83 0<|om 6 83 .done) .ret))) .skip)) (sR (om 84 0<|om 85 8<|o1 86 (.sl 1 84 (some 85) none none)<|om 87 2<|o1 88 (.mop (.cpy 1 86 87)) .done) (sR (om 89 0<|om 90 1<|o1 91 (.sl 1 89 (some 90) none none)<|om 92 7<|oc 93 a0 [91,92] .done) (sR (om 94 0<|om 6 94 .done) .ret))))))))))))⟩
def N8{P f f1}(hd:dec P f=some (Jk f1)):Iq Bh P f:=by
 intro d v xs h i b T u y ho hi hxl hy hC;refine AG hd (Aea Z) ?_;have ho':=ho;rw[As.one] at ho';obtain⟨cs,h1,h2⟩:=ho';have hcl:cs.length=xs.length:=by have:=h1.1;omega
 obtain⟨va,vc,rfl⟩:=ho.val;show gwp P _ _ _ _ _;obtain⟨-,h3,⟨hn1,hn2,rfl⟩|⟨b1,T1,l,c,hn1,rfl,h4,h5,h6,h7⟩⟩:=h1
 ·simp only[Value.slice.injEq] at hn1;obtain⟨rfl, -,rfl⟩:=hn1;obtain rfl:=Ael hn2;obtain rfl:i=0:=by simpa using hi
  refine Ad<|Aj Z<|Aa<|Ad<|Aj Z<|Ab Z<|w_q Z (v:=nV) ⟨none,0,0,0,0,0,Z,fun q=>absurd Z q,Z,Z⟩ ?_;refine Aa<|Ad<|Aj Z<|AI Z<|Ab Z<|Aa<|Ag<|Ad<|Ab Z<|AN Z Z<|Aa<|Ar Z (by omega)<|Ak<|Ad<|Aj Z<|AI Z<|Ab Z<|Aa<|Ag<|Ad<|Ab Z<|Ab Z<|AN Z Z<|Aa<|Aw Z (by omega)<|Ad<|Aj Z<|Aj Z<|Dj (R:=Bh) 0 Z Z ho Z (As.D2 (x:=y) Z hy) hC (by omega) (by simp) (by simp) (fun v' h' ho'=>?_);(refine AR<|Aa<|Ap ?_);exact Dc [v'] ⟨Z,trivial⟩ (Aeb _) ⟨Z,h',Z,ho'⟩
 ·cases hn1;have hcu:(cs.all (·.oneCell'))=true:=by
   rw[Aet];intro x hx;obtain⟨j,hj,rfl⟩:=Aga hx;have:=hC _ _ _ (h2 j (by omega) _ (Aed hj));simpa using this
  have hl7:∀j,j<xs.length→l[j]?=cs[j]?:=fun j hj=>by
   rw[←h7,Agh,if_pos (by omega)]
  refine Ad<|Aj Z<|Aa<|Ad<|Aj Z<|Ab Z<|Db (l:=i) (h:=xs.length) (m:=vc) Z (C3 Z Z hi) (fun o1 _=>?_);(refine Aa<|Ad<|Aj Z<|AI Z<|Ab Z<|Aa<|Ag<|Ad<|Ab Z<|AN Z Z<|Aa<|Ar Z (by omega)<|Ak<|Ad<|Aj Z<|AI Z<|Ab Z<|Aa<|Ag<|Ad<|Ab Z<|Ab Z<|AN Z Z<|Aa ?_);by_cases e:i=xs.length
  ·subst e;refine Aw Z (by omega)<|Ad<|Aj Z<|Aj Z<|Dj (R:=Bh) 0 Z Z ho Z (As.D2 (x:=y) Z hy) hC (by omega) (by simp;omega) (by simp;omega) (fun v' h' ho'=>?_);(refine AR<|Aa<|Ap ?_);exact Dc [v'] ⟨Z,trivial⟩ (Aeb _) ⟨Z,h',Z,by rw[Cb,Afq,Ahg];exact ho'⟩
  ·by_cases hc:vc<xs.length+1
   ·refine Ar Z (by omega)<|Ak<|Ag<|Ad<|Ab Z<|Ab Z<|AM Z Z (by omega) (by omega)<|Aj Z<|SM Z<|Bx Z Z<|Aa<|Aw Z (by omega)<|Ad<|Aj Z<|Ab Z<|Db (l:=0) (h:=i) (m:=vc) Z (Km Z Z (by omega)) (fun o2 ho2=>?_);obtain rfl:o2=0:=by rw[ho2 (by omega)]
    refine Ab Z<|Ab Z<|AM Z Z (by omega) (by omega)<|Ab Z<|CV Z Z (by omega) (by omega)<|Abv (m:=xs.length+1 - i) (Cz:=cs.take i) Z Z (by omega) (by omega) (by omega) (by omega) (by rw[Aer];omega) (fun j w hw=>?_) (fun b2 T2 c' h8 h9=>?_)
    ·rw[Agh] at hw;by_cases q:j<i
     ·rw[if_pos q,←hl7 j (by omega)] at hw;exact Al 1 Z (by rw[Agg];exact hw)
     ·rw[if_neg q] at hw;cases hw
    rw[show i - 0+(xs.length+1 - i)=xs.length+1 by omega] at h8⊢;have hl2:(cs.take i++Bq [vZ 0] (c' - (i - 0))).length=c':=by rw[Aek,Aer];simp[Bq];omega
    obtain⟨l2,hl2e⟩:∃l2,l2=cs.take i++Bq [vZ 0] (c' - (i - 0)):=⟨_,Z⟩
    have hl2t:∀j,j<i→l2[j]?=cs[j]?:=fun j hj=>by
     rw[hl2e,Afy (by rw[Aer];omega),Agh,if_pos hj]
    rw[←hl2e] at hl2⊢;refine Aj Z<|Aa<|Ad<|Aj Z<|Ab Z<|Db (l:=i) (h:=xs.length+1) (m:=c') Z (C3 Z Z (by omega)) (fun o3 ho3=>?_);obtain rfl:o3=0+i:=ho3 (by omega);(apply Aj;rfl);refine HZ 0 (news:=[u]) Z Z Z (by simp;omega) (by simpa using hC _ _ _ hy) (fun j w hw=>?_) (by simp;omega) ?_
    ·obtain rfl:j=0:=by
      have:=(Aeq.1 hw).1;simpa using this
     exact Al 1 Z hw
    refine Aa<|Ag<|Bw [] [bx b2 T2 (patch l2 (0+i) [u]),bx b T [u],bx b1 T1 l] Z ?_;refine Aj Z<|Ab Z<|Ab Z<|AM Z Z (by omega) (by omega)<|Db (l:=i+1) (h:=xs.length+1) (m:=c') Z (C3 Z Z (by omega)) (fun o4 ho4=>?_);obtain rfl:o4=0+(i+1):=ho4 (by omega);refine Aj Z<|Ab Z<|Db (l:=i) (h:=xs.length) (m:=vc) Z (C3 Z Z (by omega)) (fun o5 ho5=>?_);obtain rfl:o5=0+i:=ho5 (by omega);skip;refine HZ 0 (news:=cs.drop i) Z Z Z (by rw[Aen];omega) (Hz hcu) (fun j w hw=>?_) (by rw[Bt (by simp;omega),Aen];omega) ?_
    ·rw[Agb] at hw;have:=(Aeq.1 hw).1;exact Al 2 Z (by rw[Agg,hl7 _ (by omega)];exact hw)
    refine Aa<|Ad<|Aj Z<|Aj Z<|Aa<|Ap<|Dc [.slice (some ⟨b2,0,none⟩) (xs.length+1) c'] ⟨Z,trivial⟩ (L':=[bx b2 T2 (patch (patch l2 (0+i) [u]) (0+(i+1)) (cs.drop i))]) (Agi _ (Afg _)) ⟨Z,_,Z,As.ins hi hcl (BV.ins hcl (by omega) hi h8 h9 ?_ ?_) h2 hy⟩
    ·rw[Bt (by rw[Bt (by simp;omega),Aen];omega),Bt (by simp;omega)];omega
    ·exact Ve hcl (by omega) (by omega) hl2t
   ·have hlne:l≠[]:=by intro q;rw[q] at h6;simp at h6;omega
    refine Ar Z (by omega)<|Ak<|Ag<|Ad<|Ab Z<|Ab Z<|AM Z Z (by omega) (by omega)<|Aj Z<|SM Z<|Bx Z Z<|Aa<|Ar Z (by omega)<|Ak<|Ad<|Aj Z<|Ab Z<|Ab Z<|AM Z Z (by omega) (by omega)<|Db (l:=0) (h:=xs.length+1) (m:=vc) Z (Km Z (by omega) (by omega)) (fun o2 ho2=>?_);obtain rfl:o2=0:=by rw[ho2 (by omega)]
    refine Aj Z<|Aa<|Ag<|Ad<|Aj Z<|Aj Z<|Ab Z<|Ab Z<|AM Z Z (by omega) (by omega)<|Db (l:=i+1) (h:=xs.length+1 - 0) (m:=vc - 0) Z (C3 Z (by omega) (by omega)) (fun o3 ho3=>?_);skip;refine Abi 0 1 Z Z (by decide) Z Z hlne ?_;refine Bn Z<|Aa<|Bc Z<|Ag<|Bw [] [bx b T [u],bx b1 T1 l] Z ?_;refine Aj Z<|Ab Z<|Ab Z<|AM Z Z (by omega) (by omega)<|Db (l:=i+1) (h:=xs.length+1 - 0) (m:=vc - 0) Z (C3 Z (by omega) (by omega)) (fun o4 ho4=>?_);obtain rfl:o4=0+(i+1):=ho4 (by omega);refine Aj Z<|Ab Z<|Db (l:=i) (h:=xs.length+1 - 0) (m:=vc - 0) Z (C3 Z (by omega) (by omega)) (fun o5 ho5=>?_);obtain rfl:o5=0+i:=ho5 (by omega);skip;refine HZ 1 (news:=cs.drop i) Z Z Z (by rw[Aen];omega) (Hz hcu) (fun j w hw=>?_) (by rw[Aen];omega) ?_
    ·rw[Agb] at hw;have:=(Aeq.1 hw).1;exact Al 1 Z (by rw[Agg,hl7 _ (by omega)];exact hw)
    refine Aa<|Ad<|Aj Z<|Ab Z<|Db (l:=i) (h:=xs.length+1 - 0) (m:=vc - 0) Z (C3 Z (by omega) (by omega)) (fun o6 ho6=>?_);obtain rfl:o6=0+i:=ho6 (by omega);(apply Aj;rfl);refine HZ 1 (news:=[u]) Z Z Z (by simp;omega) (by simpa using hC _ _ _ hy) (fun j w hw=>?_) (by rw[Bt (by rw[Aen];omega)];simp;omega) ?_
    ·obtain rfl:j=0:=by
      have:=(Aeq.1 hw).1;simpa using this
     exact Al 0 Z hw
    refine Aa<|Ad<|Aj Z<|Aj Z<|Aa<|Ap<|Dc [.slice (some ⟨b1,0,none⟩) (xs.length+1 - 0) (vc - 0)] ⟨Z,trivial⟩ (L':=[bx b1 T1 (patch (patch l (0+(i+1)) (cs.drop i)) (0+i) [u])]) (List.Sublist.cons _ (Aeb _)) ⟨Z,_,Z,As.ins hi hcl (BV.ins hcl (by omega) hi (by omega) (by omega) ?_ ?_) h2 hy⟩
    ·rw[Bt (by rw[Bt (by rw[Aen];omega)];simp;omega),Bt (by rw[Aen];omega)];omega
    ·exact Uf hcl (by omega) (by omega) hl7
def Ix{α}(R:Ac→List Value→α→Prop)(P:Program)(f:FuncId):Prop:=∀{d v}{xs:List α}{h}{i:Nat}{j:Int},As 1 R d v xs h→i<xs.length→j=((i+1:Nat):Int)→xs.length≤1000000000000→FC R→
 AA P f [v,vZ i,vZ j] d [h] (Ret fun r d' L'=>d'=d∧∃h',L'=[h']∧As 1 R d r (xs.eraseIdx i) h')
def As.del{α:Type}{R:Ac→List Value→α→Prop}{d:Ac}{xs:List α}{cs l:List Value}{b c:Nat}{T:TypeId}{i:Nat}(hi:i<xs.length)(hcl:cs.length=xs.length)(hn:xs.length≤140737488355328)(h3:xs.length≤c)(h4:c≤9223372036854775807)(h5:c≤l.length)
  (h6:∀j,j<xs.length - 1→l[j]?=(cs.eraseIdx i)[j]?) (h2:∀i (hi:i<xs.length) u,cs[i]?=some u→R d [u] xs[i]):As 1 R d (.slice (some ⟨b,0,none⟩) (xs.length - 1) c) (xs.eraseIdx i) (bx b T l):=by
 have hel:(xs.eraseIdx i).length=xs.length - 1:=by rw[List.length_eraseIdx,if_pos hi]
 have hcl':(cs.eraseIdx i).length=xs.length - 1:=by rw[List.length_eraseIdx,if_pos (by omega),hcl]
 have ho:BV 1 (.slice (some ⟨b,0,none⟩) (xs.length - 1) c) (xs.length - 1) (cs.eraseIdx i) (bx b T l):=by
  refine BV.mk (by rw[hcl'];omega) (by omega) (by omega) h4 (by omega) ?_;apply Ahm;intro j;rw[hcl',Agh];by_cases hj:j<xs.length - 1
  ·rw[if_pos hj,h6 j hj]
  ·rw[if_neg hj,Afo (by omega)]
 rw[As.one]
 refine⟨cs.eraseIdx i,by rw[hel];exact ho,fun j hj u hu=>?_⟩
 ·have hx:(xs.eraseIdx i)[j]?=some (xs.eraseIdx i)[j]:=Aed (by omega)
  rw[List.getElem?_eraseIdx] at hu hx
  by_cases q:j<i
  ·rw[if_pos q] at hu hx
   rw[Aed (by omega)] at hx
   rw[←Option.some.inj hx];exact h2 j (by omega) u hu
  ·rw[if_neg q] at hu hx
   rw[Aed (by omega)] at hx
   rw[←Option.some.inj hx];exact h2 (j+1) (by omega) u hu
def Uw{l z}(hc:cs.length=n)(hi:i<n)(hl:n≤l.length)(h:∀j,j<n→l[j]?=cs[j]?)(j:Nat)(hj:j<n - 1):(patch (patch l (0+i) (cs.drop (i+1))) (n - 1) (Bq z 1))[j]?=(cs.eraseIdx i)[j]?:=by
 have e1:(patch l (0+i) (cs.drop (i+1))).length=l.length:=Bt (by rw[Aen];omega);have e2:(Bq z 1).length=1:=by simp[Bq]
 rw[CM (by rw[e1,e2];omega),if_neg (by omega),CM (by rw[Aen];omega),Aen,List.getElem?_eraseIdx];by_cases q:j<i
 ·rw[if_pos q,if_neg (by omega),h j (by omega)]
 ·rw[if_neg q,if_pos (by omega),Agb];congr 1;omega
def Ip:A0:=⟨33,[(.tmp 6)],(sR (o1 6 (.mv nS) .done) (sR (om 8 0<|om 9 1<|om 10 2<|om 11 0<|oL 12 11<|o1 13 (.sl 1 8 (some 9) (some 10) (some 12)) .done) (.seq (sR (om 14 1<|om 15 2<|ob 16 .eql 14 15 .done) (.cond 16 (sR (om 17 0<|om 6 17 .done) .ret) .skip)) (sR (om 18 0<|oL 19 18<|om 7 19 .done) (.seq (.reg true (pm 20 0<|pm 21 1<|p1 22 (.sl 1 20 none (some 21) none)<|pm 23 0<|pm 24 2<|p1 25 (.sl 1 23 (some 24) none none)<|o1 26 (.app 1 24 [nV] 22 25) (.bar (pm 0 26 .done)))) (sR (om 27 0<|om 28 0<|oL 29 28<|om 30 7<|o1 31 (.sl 1 27 (some 29) (some 30) none)<|o0 (.mop (.clz 1 [nV] 31)) .done) (sR (om 32 0<|om 6 32 .done) .ret)))))))⟩
def LM{P f}(hd:dec P f=some Ip):Ix RBs P f:=by
 intro d v xs h i jj ho hi hjj hxl hC;refine AG hd (Aea Z) ?_;have ho':=ho;rw[As.one] at ho';obtain⟨cs,h1,h2⟩:=ho';have hcl:cs.length=xs.length:=by have:=h1.1;omega
 obtain⟨va,vc,rfl⟩:=ho.val;show gwp P _ _ _ _ _;obtain⟨-,h3,⟨hn1,hn2,rfl⟩|⟨b1,T1,l,c,hn1,rfl,h4,h5,h6,h7⟩⟩:=h1
 ·omega
 ·cases hn1;have hcu:(cs.all (·.oneCell'))=true:=by
   rw[Aet];intro x hx;obtain⟨j,hj,rfl⟩:=Aga hx;have:=hC _ _ _ (h2 j (by omega) _ (Aed hj));simpa using this
  have hl7:∀j,j<xs.length→l[j]?=cs[j]?:=fun j hj=>by
   rw[←h7,Agh,if_pos (by omega)]
  refine Ad<|Aj Z<|Aa<|Ad<|Aj Z<|Ab Z<|Ab Z<|Aj Z<|AI Z<|Db (l:=i) (h:=i+1) (m:=xs.length) Z (Wx Z Z Z Z hjj Z (by omega) (by omega) (by omega)) (fun o1 _=>?_);refine Aa<|Ag<|Ad<|Ab Z<|Ab Z<|AN Z Z<|Aa<|Ar Z (by omega)<|Ak<|Ad<|Aj Z<|AI Z<|Ab Z<|Aa<|Ag<|Bw [] [bx b1 T1 l] Z ?_;refine Aj Z<|Ab Z<|Db (l:=0) (h:=i) (m:=vc) Z (Km Z Z (by omega)) (fun o2 ho2=>?_);obtain rfl:o2=0:=by rw[ho2 (by omega)]
  refine Aj Z<|Ab Z<|Db (l:=i+1) (h:=xs.length) (m:=vc) Z (C3 Z hjj (by omega)) (fun o3 ho3=>?_);skip;refine ZJ 0 (news:=cs.drop (i+1)) Z Z Z (by rw[Aen,hcl]) (Hz hcu) (fun j w hw=>?_) (by omega) (by omega) (by omega) ?_
  ·rw[Agb] at hw;have:=(Aeq.1 hw).1;obtain rfl:o3=0+(i+1):=ho3 (by omega);exact Al 0 Z (by rw[Agg,hl7 _ (by omega)];exact hw)
  rw[show i - 0+(xs.length - (i+1))=xs.length - 1 by omega,show 0+(i - 0)=0+i by omega];refine Cd<|Aj Z<|Aa<|Ad<|Aj Z<|Aj Z<|AI Z<|Ab Z<|Db (l:=xs.length - 1) (h:=xs.length) (m:=vc - 0) Z (W8 Z Z Z Z (by omega) (by omega)) (fun o4 ho4=>?_);obtain rfl:o4=0+(xs.length - 1):=ho4 (by omega);rw[show xs.length - (xs.length - 1)=1 by omega];refine Abf Z (.inr ⟨0,b1,_,T1,_,Z,Z,by rw[Bt (by rw[Aen];omega)];omega,?_⟩);refine Aa<|Ad<|Aj Z<|Aj Z<|Aa<|Ap<|Dc [.slice (some ⟨b1,0,none⟩) (xs.length - 1) (vc - 0)] ⟨Z,trivial⟩ (Aeb _) ⟨Z,_,Z,As.del hi hcl h3 (by omega) (by omega) ?_ ?_ h2⟩
  ·rw[Bt (by rw[Bt (by rw[Aen];omega)];simp[Bq];omega),Bt (by rw[Aen];omega)];omega
  ·rw[show 0+(xs.length - 1)=xs.length - 1 by omega];exact Uw hcl hi (by omega) hl7
def Jj:A0:=⟨33,[(.tmp 6)],(sR (o1 6 (.mv nS) .done) (sR (om 8 0<|om 9 1<|om 10 2<|om 11 0<|oL 12 11<|o1 13 (.sl 1 8 (some 9) (some 10) (some 12)) .done) (.seq (sR (om 14 1<|om 15 2<|ob 16 .eql 14 15 .done) (.cond 16 (sR (om 17 0<|om 6 17 .done) .ret) .skip)) (sR (om 18 0<|oL 19 18<|om 7 19 .done) (.seq (.reg true (pm 20 0<|pm 21 1<|p1 22 (.sl 1 20 none (some 21) none)<|pm 23 0<|pm 24 2<|p1 25 (.sl 1 23 (some 24) none none)<|o1 26 (.app 1 8 [(vZ 0)] 22 25) (.bar (pm 0 26 .done)))) (sR (om 27 0<|om 28 0<|oL 29 28<|om 30 7<|o1 31 (.sl 1 27 (some 29) (some 30) none)<|o0 (.mop (.clz 1 [(vZ 0)] 31)) .done) (sR (om 32 0<|om 6 32 .done) .ret)))))))⟩
def Ot{P f}(hd:dec P f=some Jj):Ix Bh P f:=by
 intro d v xs h i jj ho hi hjj hxl hC;refine AG hd (Aea Z) ?_;have ho':=ho;rw[As.one] at ho';obtain⟨cs,h1,h2⟩:=ho';have hcl:cs.length=xs.length:=by have:=h1.1;omega
 obtain⟨va,vc,rfl⟩:=ho.val;show gwp P _ _ _ _ _;obtain⟨-,h3,⟨hn1,hn2,rfl⟩|⟨b1,T1,l,c,hn1,rfl,h4,h5,h6,h7⟩⟩:=h1
 ·omega
 ·cases hn1;have hcu:(cs.all (·.oneCell'))=true:=by
   rw[Aet];intro x hx;obtain⟨j,hj,rfl⟩:=Aga hx;have:=hC _ _ _ (h2 j (by omega) _ (Aed hj));simpa using this
  have hl7:∀j,j<xs.length→l[j]?=cs[j]?:=fun j hj=>by
   rw[←h7,Agh,if_pos (by omega)]
  refine Ad<|Aj Z<|Aa<|Ad<|Aj Z<|Ab Z<|Ab Z<|Aj Z<|AI Z<|Db (l:=i) (h:=i+1) (m:=xs.length) Z (Wx Z Z Z Z hjj Z (by omega) (by omega) (by omega)) (fun o1 _=>?_);refine Aa<|Ag<|Ad<|Ab Z<|Ab Z<|AN Z Z<|Aa<|Ar Z (by omega)<|Ak<|Ad<|Aj Z<|AI Z<|Ab Z<|Aa<|Ag<|Bw [] [bx b1 T1 l] Z ?_;refine Aj Z<|Ab Z<|Db (l:=0) (h:=i) (m:=vc) Z (Km Z Z (by omega)) (fun o2 ho2=>?_);obtain rfl:o2=0:=by rw[ho2 (by omega)]
  refine Aj Z<|Ab Z<|Db (l:=i+1) (h:=xs.length) (m:=vc) Z (C3 Z hjj (by omega)) (fun o3 ho3=>?_);skip;refine ZJ 0 (news:=cs.drop (i+1)) Z Z Z (by rw[Aen,hcl]) (Hz hcu) (fun j w hw=>?_) (by omega) (by omega) (by omega) ?_
  ·rw[Agb] at hw;have:=(Aeq.1 hw).1;obtain rfl:o3=0+(i+1):=ho3 (by omega);exact Al 0 Z (by rw[Agg,hl7 _ (by omega)];exact hw)
  rw[show i - 0+(xs.length - (i+1))=xs.length - 1 by omega,show 0+(i - 0)=0+i by omega];refine Cd<|Aj Z<|Aa<|Ad<|Aj Z<|Aj Z<|AI Z<|Ab Z<|Db (l:=xs.length - 1) (h:=xs.length) (m:=vc - 0) Z (W8 Z Z Z Z (by omega) (by omega)) (fun o4 ho4=>?_);obtain rfl:o4=0+(xs.length - 1):=ho4 (by omega);rw[show xs.length - (xs.length - 1)=1 by omega];refine Abf Z (.inr ⟨0,b1,_,T1,_,Z,Z,by rw[Bt (by rw[Aen];omega)];omega,?_⟩);refine Aa<|Ad<|Aj Z<|Aj Z<|Aa<|Ap<|Dc [.slice (some ⟨b1,0,none⟩) (xs.length - 1) (vc - 0)] ⟨Z,trivial⟩ (Aeb _) ⟨Z,_,Z,As.del hi hcl h3 (by omega) (by omega) ?_ ?_ h2⟩
  ·rw[Bt (by rw[Bt (by rw[Aen];omega)];simp[Bq];omega),Bt (by rw[Aen];omega)];omega
  ·rw[show 0+(xs.length - 1)=xs.length - 1 by omega];exact Uw hcl hi (by omega) hl7
end Go.Gk
end
section
namespace Go.Gk
def Vs.app{d d' L L'}(h:Vs d L d' L')(M:List Ac):Vs d (L++M) d' (L'++M):=
 ⟨h.1,fun F W x=>by rw[Aeg] at x⊢;exact h.2 (M++F) W x⟩
section
variable {P:Program}{pan:List PanicEntry→AU}{Qn:Env→AU}{Ls L:List Ac}{ρ:Env}{d:Ac}{s:GS}{t:Nat}
def AY{f args R vs A}(l:List Ac)(hc:AA P f vs d A (Ret R))(hL:L=l++A)(ea:args.map (ev ρ)=vs)
  (h:∀v d' L',Le d d'→R v d' L'→gws P pan Qn s Ls (upd ρ t v) d' (l++L')):gws P pan Qn (.op false ⟨some t,none,.call f args⟩ s) Ls ρ d L:=by
 subst hL
 refine Ds hc Aei ea (fun v d' L' hl hr=>⟨d',l++L',Vs.perm Aei,h v d' L' hl hr⟩)
def B7{f args vs v A}(l:List Ac)(hc:Du P f vs d A v)(hL:L=l++A)(ea:args.map (ev ρ)=vs)(h:gws P pan Qn s Ls (upd ρ t v) d L):
  gws P pan Qn (.op false ⟨some t,none,.call f args⟩ s) Ls ρ d L:=
 AY l hc hL ea (fun r d' L' _ ⟨h1,h2,h3⟩=>by subst h1;subst h2;subst h3;rw[←hL];exact h)
end
end Go.Gk
namespace Go.Gk.Tre
open Go Go.Gk Go.Gk.Dev Go.Gk.Cch Go.Gk.Pgr Go.Gk.Chn Go.Gk.Node
def D4(d:Ac)(cs:List Value)(n:AK)(hk hv hi:Ac):Prop:=∃kv vv iv,cs=[.bool n.leaf,kv,vv,iv]∧As 1 RBs d kv n.keys hk∧As 1 RBs d vv n.vals hv∧As 1 Bh d iv n.kids hi
def D4.mono{d d' cs}{n:AK}{hk hv hi}(h:D4 d cs n hk hv hi)(hl:Le d d'):D4 d' cs n hk hv hi:=
 let ⟨kv,vv,iv,e,a,b,c⟩:=h;⟨kv,vv,iv,e,a.DI hl,b.DI hl,c.JF hl⟩
def D4.zero{d}:D4 d [.bool false,nV,nV,nV] H7 emp emp emp:=⟨_,_,_,Z,As.nil,As.nil,As.nil⟩
def D4.JD{d d1 cs}{n:AK}{hk hv hi}(o:D4 d cs n hk hv hi)(hl:Le d d1)(h1:Le hk d1)(h2:Le hv d1)(h3:Le hi d1):Cj d1 cs n:=by
 obtain⟨kv,vv,iv,rfl,a,b,c⟩:=o;exact⟨kv,vv,iv,Z,a.rsl C6 (by omega) hl h1,b.rsl C6 (by omega) hl h2,c.rsl B6 (by omega) hl h3⟩
def OB.grow{d d1:Ac}{v:Value}{xs:List (List UInt8)}{us:List Value}{h0:Ac}{hs:List Ac}(h1:BV 1 v xs.length us h0)(h2:∀i (hi:i<xs.length),∃u g,us[i]?=some u∧hs[i]?=some g∧As 1 AH d u xs[i] g)(hl:Le d d1)(hL:∀h∈hs,Le h d1):As 1 RBs d1 v xs h0:=by
 rw[As.one];refine⟨us,h1,fun i hi u hu=>?_⟩
 obtain⟨u',g,k1,k2,k3⟩:=h2 i hi;rw[hu] at k1;cases k1;exact⟨u,Z,k3.rsl AL (by omega) hl (hL _ (Agq k2))⟩
def DT.Abd{d cs}{n:AK}{L}(o:DT d cs n L):∃d' hk hv hi,Vs d L d' [hk,hv,hi]∧Le d d'∧D4 d' cs n hk hv hi:=by
 obtain⟨kv,vv,iv,Lk,Lv,hi,rfl,⟨us,h0,hs,a1,a2,a3,rfl⟩,⟨us',h0',hs',b1,b2,b3,rfl⟩,c,rfl⟩:=o;obtain⟨d',v1,v2,v3⟩:=Vs.HL d (hs++hs');refine⟨d',h0,h0',hi,?_,v2,kv,vv,iv,Z,OB.grow a1 a3 v2 (fun h hm=>v3 h (Afc _ hm)),OB.grow b1 b3 v2 (fun h hm=>v3 h (List.mem_append_right _ hm)),c.JF v2⟩
 have p:(h0::hs++(h0'::hs')++[hi]).Perm ((hs++hs')++[h0,h0',hi]):=by
  have e1:(h0::hs++(h0'::hs')++[hi])=h0::(hs++h0'::(hs'++[hi])):=by simp
  rw[e1];refine List.Perm.trans (Aem h0 (List.perm_middle)) ?_;have e2:(hs++hs')++[h0,h0',hi]=(hs++hs')++(h0::([h0']++[hi])):=Z;rw[e2];refine List.Perm.trans ?_ List.perm_middle.symm;refine Aem h0 ?_;rw[show(hs++hs')++([h0']++[hi])=(hs++hs')++(h0'::[hi]) from Z];refine List.Perm.trans ?_ List.perm_middle.symm;rw[Aeg]
 exact(Vs.perm p).trans (v1.app [h0,h0',hi])
def PgT(d:Ac)(s:PD)(dv pv:Value)(L:List Ac):Prop:=∃tc,Pg d {s with tc:=tc} dv pv L
def PgT.mono{d d' s dv pv L}(h:PgT d s dv pv L)(hl:Le d d'):PgT d' s dv pv L:=let ⟨tc,h⟩:=h;⟨tc,h.mono hl⟩
def PgT.of{d s dv pv L}(h:Pg d s dv pv L):PgT d s dv pv L:=⟨s.tc,h⟩
def PgT.ptr{d s dv pv L}(h:PgT d s dv pv L):∃b,pv=pZ b:=let ⟨_,h⟩:=h;h.ptr
def PgT.EL{d s dv pv L}(h:PgT d s dv pv L):Pgr.Good s:=by
 obtain⟨tc,h⟩:=h;have g:=h.EL;exact⟨g.one,g.len,g.inn,g.syn,g.kd⟩
def PgT.full{d s dv pv L}(h:PgT d s dv pv L){k:Int}(hk:Bs s k):(s.bytes k).length=256:=by
 obtain⟨tc,h⟩:=h;exact h.full (s:={s with tc:=tc}) hk
abbrev tb(bt:Nat)(Tt:TypeId)(pv:Value)(r h c:Int):Ac:=bx bt Tt [pv,.int .i64 r,.int .i64 h,.int .i64 c]
end Go.Gk.Tre
end
section
namespace Go.Gk.Tre
open Go Go.Gk Go.Gk.Dev Go.Gk.Cch Go.Gk.Pgr Go.Gk.Chn Go.Gk.Node
def D7(b:List UInt8):AK:=(Node.BT b).getD H7
def G0(b:List UInt8):Int:=if (Node.BT b).isSome then 0 else 200
def Bo(s:PD)(k:Int):AK×Int:=if Bs s k then(D7 (s.bytes k),G0 (s.bytes k)) else(H7,240)
def AX(s:PD)(k:Int)(h:Int):AK×Int:=((Bo s k).1,if (Bo s k).2=0∧(Bo s k).1.leaf≠decide (h=1) then 200 else(Bo s k).2)
def Fm(c:List UInt8):Bool:=decide (c.length=7)&& decide (c.getD 0 0=1)
def Fz(c:List UInt8):Nat:=(c.getD 1 0).toNat*256+(c.getD 2 0).toNat
def ED(c:List UInt8):Nat:=(((c.getD 3 0).toNat*256+(c.getD 4 0).toNat)*256+(c.getD 5 0).toNat)*256+(c.getD 6 0).toNat
def inB(c:List UInt8):Bool:=decide (0<c.length)&& decide (c.getD 0 0=0)
def Cu(s:PD)(c:List UInt8):List UInt8×Int:=if inB c then(c.drop 1,0) else if Fm c then(Chn.BT s (Fz c) (ED c)).2 else([],200)
def bI(x:Int):UInt8:=UInt8.ofNat (x % 256).toNat
def FM(h n:Int):List UInt8:=[1,bI (h / 256),bI h,bI (n / 16777216),bI (n / 65536),bI (n / 256),bI n]
def BR(s:PD)(v:List UInt8):PD×List UInt8×Int:=if v.length≤15 then(s,0::v,0) else((BK s v).1,FM (BK s v).2.1 v.length,(BK s v).2.2)
def BY(s:PD)(c:List UInt8):PD×Int:=if inB c then(s,0) else if Fm c then D8 s (Fz c) (ED c) else(s,200)
structure MdD where
 page:Int
 other:Int
 key:List UInt8
 size:Int
def Cq:MdD:=⟨0,0,[],0⟩
def Bb(s:PD)(page:Int)(n:AK):PD×Int×Int:=
 if Bp n then
  if 0≤page∧(s.put page (B4 n)).2≠240 then((s.put page (B4 n)).1,page,(s.put page (B4 n)).2)
  else if s.AV.2.2≠0 then(s.AV.1,0,s.AV.2.2)
  else if 0≤page then
   if (s.AV.1.drop page).2≠0 then((s.AV.1.drop page).1,0,(s.AV.1.drop page).2)
   else(((s.AV.1.drop page).1.put s.AV.2.1 (B4 n)).1,s.AV.2.1,((s.AV.1.drop page).1.put s.AV.2.1 (B4 n)).2)
  else((s.AV.1.put s.AV.2.1 (B4 n)).1,s.AV.2.1,(s.AV.1.put s.AV.2.1 (B4 n)).2)
 else(s,0,200)
def Bk(s:PD)(page:Int)(n:AK):PD×MdD×Int:=
 if Bp n then((Bb s page n).1,⟨(Bb s page n).2.1, -1,[],A9 n⟩,(Bb s page n).2.2)
 else if Dt n then
  let a:=Bb s page (A5 n)
  if a.2.2=0 then let b:=Bb a.1 (-1) (Be n);(b.1,⟨a.2.1,b.2.1,BM n,256⟩,b.2.2)
  else(a.1,Cq,a.2.2)
 else(s,Cq,200)
def Ct(s:PD)(page:Int)(n:AK)(i:Nat)(m:MdD):PD×MdD×Int:=
 if n.kids.getD i 0=m.page∧m.other<0 then(s,⟨page, -1,[],A9 n⟩,0)
 else if 0≤m.other then Bk s page {n with keys:=Cb n.keys i m.key,kids:=Cb (n.kids.set i m.page) (i+1) m.other}
 else Bk s page {n with kids:=n.kids.set i m.page}
def B9(s:PD)(page:Int)(key cell:List UInt8):Nat→PD×MdD×Bool×Int
 |0=>(s,Cq,false,200)
 |h+1=>
  let r:=AX s page (h+1:Nat)
  if r.2≠0 then(s,Cq,false,r.2) else
  let i:=(findD r.1 key).1
  if h=0 then
   if (findD r.1 key).2 then
    let u:=BY s (r.1.vals.getD i [])
    if u.2≠0 then(u.1,Cq,false,u.2) else
    let w:=Bk u.1 page {r.1 with vals:=r.1.vals.set i cell}
    (w.1,w.2.1,false,w.2.2)
   else
    let w:=Bk s page {r.1 with keys:=Cb r.1.keys i key,vals:=Cb r.1.vals i cell}
    (w.1,w.2.1,true,w.2.2)
  else
   let u:=B9 s (r.1.kids.getD i 0) key cell h
   if u.2.2.2≠0 then(u.1,Cq,false,u.2.2.2) else
   let w:=Ct u.1 page r.1 i u.2.1
   (w.1,w.2.1,u.2.2.1,w.2.2)
def DW(s:PD)(page:Int)(n:AK)(i0:Nat):PD×MdD×Int:=
 if n.keys.length=0 then(s,Cq,99999) else
 let i:=if i0=n.keys.length then i0 - 1 else i0
 let a:=Bo s (n.kids.getD i 0)
 if a.2≠0 then(s,Cq,a.2) else
 let b:=Bo s (n.kids.getD (i+1) 0)
 if b.2≠0 then(s,Cq,b.2) else
 if a.1.leaf≠b.1.leaf then(s,Cq,200) else
 let w:=Bk s (n.kids.getD i 0) (Cs a.1 b.1 (n.keys.getD i []))
 if w.2.2≠0 then(w.1,Cq,w.2.2) else
 let u:=w.1.drop (n.kids.getD (i+1) 0)
 if u.2≠0 then(u.1,Cq,u.2) else
 if 0≤w.2.1.other then Bk u.1 page {n with keys:=n.keys.set i w.2.1.key,kids:=(n.kids.set i w.2.1.page).set (i+1) w.2.1.other}
 else Bk u.1 page {n with keys:=n.keys.eraseIdx i,kids:=(n.kids.set i w.2.1.page).eraseIdx (i+1)}
def B3(s:PD)(page:Int)(key:List UInt8):Nat→PD×MdD×Bool×Int
 |0=>(s,Cq,false,200)
 |h+1=>
  let r:=AX s page (h+1:Nat)
  if r.2≠0 then(s,Cq,false,r.2) else
  let i:=(findD r.1 key).1
  if h=0 then
   if (findD r.1 key).2 then
    let u:=BY s (r.1.vals.getD i [])
    if u.2≠0 then(u.1,Cq,false,u.2) else
    let w:=Bk u.1 page {r.1 with keys:=r.1.keys.eraseIdx i,vals:=r.1.vals.eraseIdx i}
    (w.1,w.2.1,true,w.2.2)
   else(s,⟨page, -1,[],256⟩,false,0)
  else
   let u:=B3 s (r.1.kids.getD i 0) key h
   if u.2.2.2≠0∨u.2.2.1=false then(u.1,⟨page, -1,[],256⟩,u.2.2.1,u.2.2.2) else
   let w:=if u.2.1.other<0∧u.2.1.size<80 then DW u.1 page {r.1 with kids:=r.1.kids.set i u.2.1.page} i else Ct u.1 page r.1 i u.2.1
   (w.1,w.2.1,true,w.2.2)
structure TD where
 s:PD
 root:Int
 height:Nat
 count:Nat
def CU(t:TD)(m:MdD):TD×Int:=
 if m.other<0 then({t with root:=m.page},0)
 else
  let k:=Bb t.s (-1) ⟨false,[m.key],[],[m.page,m.other]⟩
  ({t with s:=k.1,root:=k.2.1,height:=t.height+1},k.2.2)
def DZ(t:TD):TD×Int:=
 let r:=Bo t.s t.root
 if r.2≠0∨r.1.keys≠[] then(t,r.2) else
 let u:=t.s.drop t.root
 if u.2≠0 then({t with s:=u.1},u.2) else
 ({t with s:=u.1,root:=if r.1.leaf then -1 else r.1.kids.getD 0 0,height:=t.height - 1},0)
def CT(t:TD)(key value:List UInt8):TD×Int:=
 let c:=BR t.s value
 if c.2.2≠0 then({t with s:=c.1},c.2.2) else
 if t.height=0 then
  let k:=Bb c.1 (-1) ⟨true,[key],[c.2.1],[]⟩
  (⟨k.1,k.2.1,1,1⟩,k.2.2)
 else
  let u:=B9 c.1 t.root key c.2.1 t.height
  if u.2.2.2≠0 then({t with s:=u.1},u.2.2.2) else
  CU {t with s:=u.1,count:=t.count+(if u.2.2.1 then 1 else 0)} u.2.1
def BX(t:TD)(key:List UInt8):TD×Bool×Int:=
 if t.height=0 then(t,false,0) else
 let u:=B3 t.s t.root key t.height
 if u.2.2.2≠0∨u.2.2.1=false then({t with s:=u.1},false,u.2.2.2) else
 let g:=CU {t with s:=u.1,count:=t.count - 1} u.2.1
 if g.2≠0 then(g.1,true,g.2) else
 ((DZ g.1).1,true,(DZ g.1).2)
def Cp(t:TD)(r:TD)(e:Int):TD:=if e=0 then r else{t with s:=r.s.back t.s.mark}
def E4(s:PD)(key:List UInt8):Int→Nat→List UInt8×Bool×Int
 |_,0=>([],false,0)
 |page,h+1=>
  let r:=AX s page (h+1:Nat)
  if r.2≠0 then([],false,r.2) else
  if h=0 then
   if (findD r.1 key).2 then((Cu s (r.1.vals.getD (findD r.1 key).1 [])).1,decide ((Cu s (r.1.vals.getD (findD r.1 key).1 [])).2=0),(Cu s (r.1.vals.getD (findD r.1 key).1 [])).2)
   else([],false,0)
  else E4 s key (r.1.kids.getD (findD r.1 key).1 0) h
def D3(c:List UInt8):Nat:=if inB c then 0 else AP (ED c)
def Hn(s:PD)(key:List UInt8):Int→Nat→Nat
 |_,0=>0
 |page,h+1=>
  let r:=AX s page (h+1:Nat)
  if h=0 then(if (findD r.1 key).2 then 1+D3 (r.1.vals.getD (findD r.1 key).1 []) else 1)
  else 1+Hn s key (r.1.kids.getD (findD r.1 key).1 0) h
def BZ(key:List UInt8):Int:=if key.length<1∨64<key.length then 2 else 0
end Go.Gk.Tre
end
section
namespace Go.Gk
open Go
section
section
variable {P:Program}{pan:List PanicEntry→AU}{Qn:Env→AU}{Ls L:List Ac}{ρ:Env}{d:Ac}{s:GS}{t:Nat}{tk:Bool}
def PA{x y k'}{a:Nat}(n m:Nat)(ex:ev ρ x=vZ (a:Int))(ey:ev ρ y=.int k' (n:Int))(hn:n≤32)(hm:m=a*2 ^ n)(ha:a≤65535)(h:gws P pan Qn s Ls (upd ρ t (vZ (m:Int))) d L):
  gws P pan Qn (.op tk ⟨some t,none,.bin .shl x y⟩ s) Ls ρ d L:=by
 refine C9 ?_ h
 have h1:min (Int.toNat (n:Int)) IntKind.i64.bits=n:=by simp[IntKind.bits];omega
 have h2:2 ^ n≤2 ^ 32:=Nat.pow_le_pow_right (by omega) hn
 have h3:a*2 ^ n≤65535*2 ^ 32:=Nat.mul_le_mul ha h2
 have e:(a:Int)*2 ^ n=((a*2 ^ n:Nat):Int):=by push_cast;rfl
 rw[ex,ey]
 simp only[C2,h1]
 rw[if_neg (by omega),e,DG (by omega) (by omega),hm]
def Qd{x y k'}{a:Int}(n:Nat)(m:Int)(ex:ev ρ x=vZ a)(ey:ev ρ y=.int k' (n:Int))(hn:n≤32)(_:0≤a)(hm:m=a / (2 ^ n:Nat))(h:gws P pan Qn s Ls (upd ρ t (vZ m)) d L):
  gws P pan Qn (.op tk ⟨some t,none,.bin .shr x y⟩ s) Ls ρ d L:=by
 refine C9 ?_ h
 have h1:min (Int.toNat (n:Int)) IntKind.i64.bits=n:=by simp[IntKind.bits];omega
 rw[ex,ey]
 simp only[C2,h1]
 rw[if_neg (by omega),hm]
 congr 2
 rw[Int.fdiv_eq_ediv_of_nonneg _ (by exact_mod_cast Aez _)]
 simp
def SL{x y}{a b:Nat}(n:Nat)(ex:ev ρ x=vZ ((a*2 ^ n:Nat):Int))(ey:ev ρ y=vZ (b:Int))(ha:a*2 ^ n<9223372036854775808)(hb:b<2 ^ n)(hs:a*2 ^ n+b<9223372036854775808)
  (h:gws P pan Qn s Ls (upd ρ t (vZ ((a*2 ^ n+b:Nat):Int))) d L):gws P pan Qn (.op tk ⟨some t,none,.bin .or x y⟩ s) Ls ρ d L:=by
 refine C9 ?_ h
 have hlt:b<9223372036854775808:=by omega
 have e:(BitVec.ofInt IntKind.i64.bits ((a*2 ^ n:Nat):Int)|||BitVec.ofInt IntKind.i64.bits ((b:Nat):Int)).toNat=a*2 ^ n+b:=by
  have h1:=Nat.shiftLeft_add_eq_or_of_lt (i:=n) hb a;rw[Nat.shiftLeft_eq] at h1;show((BitVec.ofInt 64 ((a*2 ^ n:Nat):Int):BitVec 64)|||(BitVec.ofInt 64 ((b:Nat):Int):BitVec 64)).toNat=_;rw[BitVec.toNat_or,BitVec.ofInt_natCast,BitVec.ofInt_natCast,BitVec.toNat_ofNat,BitVec.toNat_ofNat];rw[Ahl (by omega),Ahl (by omega)];exact h1.symm
 rw[ex,ey]
 simp only[C2,e]
 rw[DG (by omega) (by omega),if_neg (fun h=>h Z)]
def ZX{z x0 x1 x2 x3 x4 x5 x6}{a0 a1 a2 a3 a4 a5 a6:UInt8}(e0:ev ρ x0=Av a0)(e1:ev ρ x1=Av a1)(e2:ev ρ x2=Av a2)(e3:ev ρ x3=Av a3)(e4:ev ρ x4=Av a4)(e5:ev ρ x5=Av a5)(e6:ev ρ x6=Av a6)
  (h:∀b T,gws P pan Qn s Ls (upd ρ t (.slice (some ⟨b,0,none⟩) 7 7)) d (bx b T ([a0,a1,a2,a3,a4,a5,a6].map Av)::L)):gws P pan Qn (.op false ⟨some t,none,.bsl 7 1 [z] [(0,x0),(1,x1),(2,x2),(3,x3),(4,x4),(5,x5),(6,x6)]⟩ s) Ls ρ d L:=by
 have c:∀a:UInt8,(Av a).cells= #[Av a]:=fun _=>Z
 refine CZ (by omega) ?_ h
 simp[Instr.fill,Bq,List.range,List.range.loop,e0,c,e1,e2,e3,e4,e5,e6]
end
end
end Go.Gk
end
section
namespace Go.Gk.Tre
open Go Go.Gk Go.Gk.Dev Go.Gk.Cch Go.Gk.Pgr Go.Gk.Chn Go.Gk.Node
attribute [local irreducible] gwp gws xwp
def Hj(P:Program)(f:FuncId):Prop:=∀{d}{bt pb:Nat}{Tt}{r h c:Int}{L},Du P f [pZ bt] d (tb bt Tt (pZ pb) r h c::L) (.bool false)
def OR:A0:=⟨12,[(.tmp 2)],(sR (o1 2 (.mv (.const (.bool false))) .done) (sR (om 3 0<|o1 4 (.eqp false 3 (.const (.pointer none)))<|om 5 4<|gF 6 5 0<|oF 7 5 (.nilc 6)<|oF 8 5 (.fld 0 7)<|oF 9 5 (.ld none 8)<|oF 10 5 (.eqp false 9 (.const (.pointer none)))<|o1 11 (.pick 5 (.const (.bool true)) 10)<|om 2 11 .done) .ret))⟩
def S4{P f}(hd:dec P f=some OR):Hj P f:=by
 intro d bt pb Tt r h c L;refine AG hd (Aea Z) ?_;show gwp P _ _ _ _ _;(refine Ad<|Ae Z<|Aa<|Ad<|Am Z<|Cg Z Z<|Ae Z<|Af Z<|Am Z<|Af Z<|AF Z<|Af Z<|Ai Z<|Af Z<|Ah Z (Al 0 Z Z)<|Af Z<|Cg Z Z<|Au Z Z<|Ae Z<|Aa<|Ap ?_);exact BO Z (Aeb _) ⟨Z,Z,Z⟩
def Jh(P:Program)(f:FuncId):Prop:=∀{d}{bt pb:Nat}{Tt}{r h c:Int}{w key L},AJ d w key→Du P f [pZ bt,w] d (tb bt Tt (pZ pb) r h c::L) (vZ (BZ key))
def OH(a0:Nat):A0:=⟨17,[(.tmp 4)],(sR (o1 4 (.mv z0) .done) (.seq (.block 0 (sR (om 6 0<|oc 7 a0 [6]<|om 5 7 .done) (.cond 5 (sR (o1 4 (.mv z1) .done) .ret) (sR (om 9 1<|oL 10 9<|ob 11 .lss 10 z1<|om 12 11<|gF 13 12 1<|oF 14 12 (.len 13)<|oF 15 12 (.bin .gtr 14 (kZ 64))<|o1 16 (.pick 12 (.const (.bool true)) 15)<|om 8 16 .done) (.cond 8 (sR (o1 4 (.mv z2) .done) .ret) .skip))))) (sR (o1 4 (.mv z0) .done) .ret)))⟩
def WG{P f f1}(hd:dec P f=some (OH f1))(h1:Hj P f1):Jh P f:=by
 intro d bt pb Tt r h c w key L hw;refine AG hd (Aea Z) ?_;show gwp P _ _ _ _ _;refine Ad<|Ab Z<|Aa<|Ag<|Ax<|Ad<|Am Z<|B7 [] h1 Z Z ?_;by_cases e1:key.length<1
 ·have hk:BZ key=2:=by unfold BZ;rw[if_pos (.inl e1)]
  rw[hk];(refine Ae Z<|Aa<|AS Z<|Ad<|AR<|BI Z (by assumption)<|AB Z Z<|Ae Z<|A8 Z (by omega)<|An Z<|An Z<|An Z<|Ay Z Z<|Ae Z<|Aa<|Bc Z<|Ad<|Ab Z<|Aa<|Ap ?_);exact BO Z (Aeb _) ⟨Z,Z,Z⟩
 ·by_cases e2:64<key.length
  ·have hk:BZ key=2:=by unfold BZ;rw[if_pos (.inr e2)]
   rw[hk];(refine Ae Z<|Aa<|AS Z<|Ad<|AR<|BI Z (by assumption)<|AB Z Z<|Ae Z<|A3 Z (by omega)<|Af Z<|AR<|Af Z<|BI Z (by assumption)<|Af Z<|Bx Z Z<|Au Z Z<|Ae Z<|Aa<|Aw Z (by omega)<|Ad<|Ab Z<|Aa<|Ap ?_);exact BO Z (Aeb _) ⟨Z,Z,Z⟩
  ·have hk:BZ key=0:=by unfold BZ;rw[if_neg (by omega)]
   rw[hk];(refine Ae Z<|Aa<|AS Z<|Ad<|AR<|BI Z (by assumption)<|AB Z Z<|Ae Z<|A3 Z (by omega)<|Af Z<|AR<|Af Z<|BI Z (by assumption)<|Af Z<|Bx Z Z<|Au Z Z<|Ae Z<|Aa<|Ar Z (by omega)<|Ak<|Ad<|Ab Z<|Aa<|Ap ?_);exact BO Z (Aeb _) ⟨Z,Z,Z⟩
def IE(P:Program)(f:FuncId):Prop:=∀{d s dv pv L}{bt:Nat}{Tt}{r h c k:Int},Pg d s dv pv L→
 AA P f [pZ bt,vZ k] d (tb bt Tt pv r h c::L) (Ret fun v d' L'=>Le d d'∧∃cs hk hv hi L2 tc,v=.tuple #[.agg cs.toArray,vZ (Bo s k).2]∧L'=hk::hv::hi::tb bt Tt pv r h c::L2∧
  D4 d' cs (Bo s k).1 hk hv hi∧Pg d' {s with tc:=tc} dv pv L2∧((Bo s k).2=0→tc=s.tc+1))
def OP(a0 a1:Nat):A0:=⟨25,[(.cell 4 (some 4)),(.tmp 5)],(sR (o1 4 (.alo (.agg #[(.bool false),nV,nV,nV]))<|o1 5 (.mv z0) .done) (sR (om 9 0<|o1 10 (.nilc 9)<|oj 11 0 10<|ol 12 11<|om 13 1<|oc 14 a0 [12,13]<|om 8 14<|oe 15 8 0<|oe 16 8 1<|om 6 15<|om 7 16 .done) (.seq (sR (om 17 7<|ob 18 .neq 17 z0 .done) (.cond 18 (sR (o1 19 (.bld [(0,1),(1,1),(2,1),(3,1)] [(.bool false),nV,nV,nV] [])<|om 20 7<|o0 (.st 4 4 19)<|om 5 20 .done) .ret) .skip)) (sR (om 21 6<|oc 22 a1 [21]<|oe 23 22 0<|oe 24 22 1<|o0 (.st 4 4 23)<|om 5 24 .done) .ret))))⟩
set_option maxRecDepth 4000 in
def Td{P f f1 f2}(hd:dec P f=some (OP f1 f2))(h1:Fl P f1)(h2:MG P f2):IE P f:=by
 intro d s dv pv L bt Tt r h c k hp;obtain⟨bp,rfl⟩:=hp.ptr;refine AG hd (Aea Z) ?_;show gwp P _ _ _ _ _;apply Ag;apply AE;refine Dg (fun b4 T4=>?_);refine Ab Z<|Aa<|Ad<|Am Z<|AF Z<|Ai Z<|Ah Z (Al 1 Z Z)<|Ab Z<|AY [_,_] (h1.atT (k:=k) hp) Z Z (fun v d2 L2 hl ⟨a,q,tc,e1,hb,hp2,htc⟩=>?_);subst e1;by_cases hlv:Bs s k
 ·rw[OC hlv];rw[if_pos hlv] at htc;have hr:Bo s k=(D7 (s.bytes k),G0 (s.bytes k)):=by unfold Bo;rw[if_pos hlv]
  rw[hr];refine AT Z<|Ao Z Z<|Ao Z Z<|Aj Z<|Ab Z<|Aa<|Ag<|Ad<|Ab Z<|AO Z Z<|Aa<|Ar Z (by omega)<|Ak<|Ad<|Aj Z<|Bl Z (h2 hb) (fun u d3 L3 hl3 ⟨q0,cs,q1,q2⟩=>?_);subst q0;subst q1;obtain⟨d4,hk,hv,hi,v1,v2,v3⟩:=DT.Abd q2;have hcs:∃c1 c2 c3 c4,cs=[c1,c2,c3,c4]∧(cs.all (·.oneCell'))=true:=by
   obtain⟨kv,vv,iv,rfl,a1,a2,a3⟩:=v3;obtain⟨x1,x2,rfl⟩:=a1.val;obtain⟨y1,y2,rfl⟩:=a2.val;obtain⟨z1,z2,rfl⟩:=a3.val;exact⟨_,_,_,_,Z,Z⟩
  obtain⟨c1,c2,c3,c4,rfl,hc1⟩:=hcs;refine BS _ _ (Vs.app v1 _) ?_;refine Ao Z Z<|Ao Z Z<|Br 3 Z Z Z Z (Aef _) hc1 ?_;(refine Ab Z<|Aa<|Ap ?_);exact A4 [.agg [c1,c2,c3,c4].toArray,vZ (G0 (s.bytes k))] ⟨AW 3 Z Z Z,Aq Z,trivial⟩ (d':=d4) (L':=hk::hv::hi::tb bt Tt (pZ bp) r h c::L2) (Vs.drop (.cons_cons _ (.cons_cons _ (.cons_cons _ (.cons _ (Aeb _))))))
   ⟨hl.trans v2,_,hk,hv,hi,L2,tc,Z,Z,v3,hp2.mono v2,fun _=>htc⟩
 ·rw[(O8 hlv).1];rw[if_neg hlv] at htc;have hr:Bo s k=(H7,240):=by unfold Bo;rw[if_neg hlv]
  rw[hr];refine AT Z<|Ao Z Z<|Ao Z Z<|Aj Z<|Ab Z<|Aa<|Ag<|Ad<|Ab Z<|AO Z Z<|Aa<|Aw Z (by omega)<|Ad<|BJ Z<|Ab Z<|Br 0 Z Z Z Z (Aef _) Z ?_;(refine Ab Z<|Aa<|Ap ?_);exact A4 [.agg [.bool false,nV,nV,nV].toArray,vZ 240] ⟨AW 0 Z Z Z,Aq Z,trivial⟩ (d':=d2) (L':=emp::emp::emp::tb bt Tt (pZ bp) r h c::L2)
   ((Vs.drop (.cons _ (Aeb _))).trans (Vs.emp.trans (Vs.emp.trans Vs.emp)))
   ⟨hl,_,emp,emp,emp,L2,tc,Z,Z,D4.zero,hp2,fun q=>absurd q (by decide)⟩
def Hk(P:Program)(f:FuncId):Prop:=∀{d s dv pv L}{bt:Nat}{Tt}{r h c k x:Int},Pg d s dv pv L→
 AA P f [pZ bt,vZ k,vZ x] d (tb bt Tt pv r h c::L) (Ret fun v d' L'=>Le d d'∧∃cs hk hv hi L2 tc,v=.tuple #[.agg cs.toArray,vZ (AX s k x).2]∧L'=hk::hv::hi::tb bt Tt pv r h c::L2∧
  D4 d' cs (AX s k x).1 hk hv hi∧Pg d' {s with tc:=tc} dv pv L2∧((AX s k x).2=0→tc=s.tc+1))
def D4.cells{d cs}{n:AK}{hk hv hi}(o:D4 d cs n hk hv hi):∃ka kc va vc ia ic,cs=[.bool n.leaf,.slice ka n.keys.length kc,.slice va n.vals.length vc,.slice ia n.kids.length ic]:=by
 obtain⟨kv,vv,iv,rfl,a1,a2,a3⟩:=o;obtain⟨x1,x2,rfl⟩:=a1.val;obtain⟨y1,y2,rfl⟩:=a2.val;obtain⟨z1,z2,rfl⟩:=a3.val;exact⟨_,_,_,_,_,_,Z⟩
def NW(a0:Nat):A0:=⟨27,[(.cell 6 (some 4)),(.tmp 7)],(sR (o1 6 (.alo (.agg #[(.bool false),nV,nV,nV]))<|o1 7 (.mv z0) .done) (sR (om 11 0<|om 12 1<|oc 13 a0 [11,12]<|om 10 13<|oe 14 10 0<|oe 15 10 1<|o1 8 (.alo (.agg #[(.bool false),nV,nV,nV]))<|o0 (.st 4 8 14)<|om 9 15 .done) (.seq (sR (om 16 9<|ob 17 .eql 16 z0<|om 18 17<|oT 19 18 (.fld 0 8)<|oT 20 18 (.ld none 19)<|gT 21 18 2<|oT 22 18 (.bin .eql 21 z1)<|oT 23 18 (.eqb true 20 22)<|gP 24 18 23 .done) (.cond 24 (rG (o1 9 (.mv (kZ 200)) .done)) .skip)) (sR (o1 25 (.ld (some 4) 8)<|om 26 9<|o0 (.st 4 6 25)<|om 7 26 .done) .ret))))⟩
set_option maxRecDepth 4000 in
def RA{P f f1}(hd:dec P f=some (NW f1))(h1:IE P f1):Hk P f:=by
 intro d s dv pv L bt Tt r h c k x hp;refine AG hd (Aea Z) ?_;show gwp P _ _ _ _ _;apply Ag;apply AE;refine Dg (fun b6 T6=>?_);refine Ab Z<|Aa<|Ad<|Am Z<|Ab Z<|AY [_] (h1 (k:=k) hp) Z Z (fun v d2 L2 hl ⟨_,cs,hk,hv,hi,L3,tc,e1,e2,hn,hp2,htc⟩=>?_);subst e1;subst e2;have hn0:=hn;obtain⟨ka,kc,va,vc,ia,ic,rfl⟩:=hn.cells;(refine AT Z<|Ao Z Z<|Ao Z Z<|BP (fun _ _=>?_));rename_i b8 T8;refine Br 0 Z Z Z Z (Aef _) Z ?_;by_cases hz:(Bo s k).2=0
 ·by_cases hx:(Bo s k).1.leaf=decide (x=1)
  ·have hF:AX s k x=((Bo s k).1,0):=by unfold AX;rw[if_neg (fun q=>q.2 hx),hz]
   rw[hF,hz];have hxx:(true ^^((Bo s k).1.leaf==decide (x=1)))=false:=by rw[hx];simp
   (refine Ab Z<|Aa<|Ag<|Ad<|Ab Z<|AN Z Z<|Ae Z<|A8 Z (by omega)<|Af Z<|Ai Z<|Af Z<|Ah Z (Al 0 Z Z)<|Af Z<|Ab Z<|Af Z<|AN Z Z<|Af Z<|HF Z Z<|Ay Z Z<|Aa ?_;apply U7;rfl;(with_reducible assumption);refine Ak<|Ad<|Bf 0 Z Z Z<|Ab Z ?_);refine Br 1 Z Z Z Z (Aef _) Z ?_;(refine Ab Z<|Aa<|Ap ?_);exact A4 [.agg [.bool (Bo s k).1.leaf,.slice ka (Bo s k).1.keys.length kc,.slice va (Bo s k).1.vals.length vc,.slice ia (Bo s k).1.kids.length ic].toArray,vZ 0] ⟨AW 1 Z Z Z,Aq Z,trivial⟩ (d':=d2) (L':=hk::hv::hi::tb bt Tt pv r h c::L3) (Vs.drop (.cons _ (.cons _ (Aeb _)))) ⟨hl,_,hk,hv,hi,L3,tc,Z,Z,hn0,hp2,fun _=>htc hz⟩
  ·have hF:AX s k x=((Bo s k).1,200):=by unfold AX;rw[if_pos ⟨hz,hx⟩]
   rw[hF,hz];have hxx:(true ^^((Bo s k).1.leaf==decide (x=1)))=true:=by cases hb:(Bo s k).1.leaf<;>rw[hb] at hx<;>simp at hx⊢<;>omega
   (refine Ab Z<|Aa<|Ag<|Ad<|Ab Z<|AN Z Z<|Ae Z<|A8 Z (by omega)<|Af Z<|Ai Z<|Af Z<|Ah Z (Al 0 Z Z)<|Af Z<|Ab Z<|Af Z<|AN Z Z<|Af Z<|HF Z Z<|Ay Z Z<|Aa ?_;apply PR;rfl;(with_reducible assumption);refine AE<|Ab Z<|Aa<|Ad<|Bf 0 Z Z Z<|Ab Z ?_);refine Br 1 Z Z Z Z (Aef _) Z ?_;(refine Ab Z<|Aa<|Ap ?_);exact A4 [.agg [.bool (Bo s k).1.leaf,.slice ka (Bo s k).1.keys.length kc,.slice va (Bo s k).1.vals.length vc,.slice ia (Bo s k).1.kids.length ic].toArray,vZ 200] ⟨AW 1 Z Z Z,Aq Z,trivial⟩ (d':=d2) (L':=hk::hv::hi::tb bt Tt pv r h c::L3) (Vs.drop (.cons _ (.cons _ (Aeb _)))) ⟨hl,_,hk,hv,hi,L3,tc,Z,Z,hn0,hp2,fun q=>absurd (show(200:Int)=0 from q) (by decide)⟩
 ·have hF:AX s k x=((Bo s k).1,(Bo s k).2):=by unfold AX;rw[if_neg (fun q=>hz q.1)]
  rw[hF];refine Ab Z<|Aa<|Ag<|Ad<|Ab Z<|AN Z Z<|Ae Z<|A3 Z (by omega)<|An Z<|An Z<|An Z<|An Z<|An Z<|Au Z Z<|Aa<|AS Z<|Ak<|Ad<|Bf 0 Z Z Z<|Ab Z<|Br 1 Z Z Z Z (Aef _) Z ?_;(refine Ab Z<|Aa<|Ap ?_);exact A4 [.agg [.bool (Bo s k).1.leaf,.slice ka (Bo s k).1.keys.length kc,.slice va (Bo s k).1.vals.length vc,.slice ia (Bo s k).1.kids.length ic].toArray,vZ (Bo s k).2] ⟨AW 1 Z Z Z,Aq Z,trivial⟩ (d':=d2) (L':=hk::hv::hi::tb bt Tt pv r h c::L3) (Vs.drop (.cons _ (.cons _ (Aeb _)))) ⟨hl,_,hk,hv,hi,L3,tc,Z,Z,hn0,hp2,htc⟩
def Ic(P:Program)(f:FuncId):Prop:=∀{d w b},AJ d w b→CP P f [w] d (.tuple #[vZ (if Fm b then(Fz b:Int) else 0),vZ (if Fm b then(ED b:Int) else 0),.bool (Fm b)])
def Yl:A0:=⟨46,[(.tmp 2),(.tmp 3),(.tmp 4)],(sR (o1 2 (.mv z0)<|o1 3 (.mv z0)<|o1 4 (.mv (.const (.bool false))) .done) (.seq (sR (om 5 0<|oL 6 5<|ob 7 .neq 6 (kZ 7)<|om 8 7<|gF 9 8 0<|oF 10 8 (.idx 1 9 z0)<|oF 11 8 (.ld none 10)<|oF 12 8 (.bin .neq 11 (.const (.int .u8 1)))<|o1 13 (.pick 8 (.const (.bool true)) 12) .done) (.cond 13 (sR (o1 2 (.mv z0)<|o1 3 (.mv z0)<|o1 4 (.mv (.const (.bool false))) .done) .ret) .skip)) (.seq (.reg true (pm 14 0<|p1 15 (.idx 1 14 z1)<|pl 16 15<|p1 17 (.cvi .i64 16)<|p1 18 (.bin .shl 17 (.const (.int .u64 8)))<|pm 19 0<|p1 20 (.idx 1 19 z2)<|pl 21 20<|p1 22 (.cvi .i64 21)<|p1 23 (.bin .or 18 22)<|pm 24 0<|p1 25 (.idx 1 24 (kZ 3))<|pl 26 25<|p1 27 (.cvi .i64 26)<|p1 28 (.bin .shl 27 (.const (.int .u64 24)))<|pm 29 0<|p1 30 (.idx 1 29 (kZ 4))<|pl 31 30<|p1 32 (.cvi .i64 31)<|p1 33 (.bin .shl 32 (.const (.int .u64 16)))<|p1 34 (.bin .or 28 33)<|pm 35 0<|p1 36 (.idx 1 35 (kZ 5))<|pl 37 36<|p1 38 (.cvi .i64 37)<|p1 39 (.bin .shl 38 (.const (.int .u64 8)))<|p1 40 (.bin .or 34 39)<|pm 41 0<|p1 42 (.idx 1 41 (kZ 6))<|pl 43 42<|p1 44 (.cvi .i64 43)<|p1 45 (.bin .or 40 44)<|pm 2 23<|pm 3 45<|p1 4 (.mv (.const (.bool true))) .done)) .ret)))⟩
def CW{b:List UInt8}{i:Nat}(h:i<b.length):b.getD i 0=b[i]:=by rw[Aee,Aed h];rfl
set_option maxRecDepth 4000 in
def TU{P:Program}{f:FuncId}(hd:dec P f=some Yl):Ic P f:=by
 intro d w b hw;refine AG hd (Aea Z) ?_;show gwp P _ _ _ _ _;by_cases h7:b.length=7
 ·have g0:=CW (b:=b) (i:=0) (by omega);by_cases h1:b[0]'(by omega)=1
  ·have hF:Fm b=true:=by unfold Fm;rw[g0,h1,h7];rfl
   have hb0:(b[0]'(by omega)).toNat=1:=by rw[h1];rfl
   rw[hF];have l1:=UInt8.toNat_lt (b[1]'(by omega));have l2:=UInt8.toNat_lt (b[2]'(by omega));have l3:=UInt8.toNat_lt (b[3]'(by omega));have l4:=UInt8.toNat_lt (b[4]'(by omega));have l5:=UInt8.toNat_lt (b[5]'(by omega));have l6:=UInt8.toNat_lt (b[6]'(by omega));have eH:Fz b=(b[1]'(by omega)).toNat*2 ^ 8+(b[2]'(by omega)).toNat:=by unfold Fz;rw[CW (i:=1) (by omega),CW (i:=2) (by omega)]
   have eN:ED b=(((b[3]'(by omega)).toNat*2 ^ 8+(b[4]'(by omega)).toNat)*2 ^ 8+(b[5]'(by omega)).toNat)*2 ^ 8+(b[6]'(by omega)).toNat:=by unfold ED;rw[CW (i:=3) (by omega),CW (i:=4) (by omega),CW (i:=5) (by omega),CW (i:=6) (by omega)]
   rw[if_pos Z,if_pos Z,eH,eN];generalize e1:(b[1]'(by omega)).toNat=n1 at l1;generalize e2:(b[2]'(by omega)).toNat=n2 at l2;generalize e3:(b[3]'(by omega)).toNat=n3 at l3;generalize e4:(b[4]'(by omega)).toNat=n4 at l4;generalize e5:(b[5]'(by omega)).toNat=n5 at l5;generalize e6:(b[6]'(by omega)).toNat=n6 at l6;have e5':(b[4+1]'(by omega)).toNat=n5:=e5;have e6':(b[5+1]'(by omega)).toNat=n6:=e6;(refine Ad<|Ab Z<|Ab Z<|Ae Z<|Aa<|Ag<|Ad<|AR<|BI Z (by assumption)<|AO Z Z<|Ae Z<|A3 Z (by omega)<|Af Z<|AR<|Af Z<|Bg (m:=0) (sz:=1) (R:=AH) (by rfl) (by assumption) (by rfl) Z (by omega) ?_;rintro _ _ _ _ _ rfl;refine Af Z<|Ah Z (BQ (by assumption) Z)<|Af Z<|AO Z Z<|Au Z Z<|Aa<|Ar Z (by omega)<|Ak<|Ag<|Bv<|AR<|Bg (m:=1) (sz:=1) (R:=AH) (by rfl) (by assumption) (by rfl) Z (by omega) ?_;rintro _ _ _ _ _ rfl;refine Ah Z (BQ (by assumption) Z)<|Ep Z (by omega) (by omega) ?_);refine PA (a:=n1) 8 (n1*2 ^ 8) (congrArg (fun z:Nat=>Value.int .i64 z) e1) Z (by omega) Z (by omega) ?_;(refine AR<|Bg (m:=2) (sz:=1) (R:=AH) (by rfl) (by assumption) (by rfl) Z (by omega) ?_;rintro _ _ _ _ _ rfl;refine Ah Z (BQ (by assumption) Z)<|Ep Z (by omega) (by omega) ?_);refine SL (a:=n1) (b:=n2) 8 Z (congrArg (fun z:Nat=>Value.int .i64 z) e2) (by omega) (by omega) (by omega) ?_;(refine AR<|Bg (m:=3) (sz:=1) (R:=AH) (by rfl) (by assumption) (by rfl) Z (by omega) ?_;rintro _ _ _ _ _ rfl;refine Ah Z (BQ (by assumption) Z)<|Ep Z (by omega) (by omega) ?_);refine PA (a:=n3) 24 (n3*2 ^ 24) (congrArg (fun z:Nat=>Value.int .i64 z) e3) Z (by omega) Z (by omega) ?_;(refine AR<|Bg (m:=4) (sz:=1) (R:=AH) (by rfl) (by assumption) (by rfl) Z (by omega) ?_;rintro _ _ _ _ _ rfl;refine Ah Z (BQ (by assumption) Z)<|Ep Z (by omega) (by omega) ?_);refine PA (a:=n4) 16 (n4*2 ^ 16) (congrArg (fun z:Nat=>Value.int .i64 z) e4) Z (by omega) Z (by omega) ?_;refine SL (a:=n3) (b:=n4*2 ^ 16) 24 Z Z (by omega) (by omega) (by omega) ?_;(refine AR<|Bg (sz:=1) (R:=AH) (by rfl) (by assumption) (by rfl) (Ajt _ 1).symm (by omega) ?_;rintro _ _ _ _ _ rfl;refine Ah Z (BQ (by assumption) Z)<|Ep Z (by omega) (by omega) ?_);refine PA (a:=n5) 8 (n5*2 ^ 8) (congrArg (fun z:Nat=>Value.int .i64 z) e5') Z (by omega) Z (by omega) ?_;refine SL (a:=n3*2 ^ 8+n4) (b:=n5*2 ^ 8) 16 (congrArg (fun z:Nat=>Value.int .i64 z) (by omega)) Z (by omega) (by omega) (by omega) ?_;(refine AR<|Bg (sz:=1) (R:=AH) (by rfl) (by assumption) (by rfl) (Ajt _ 1).symm (by omega) ?_;rintro _ _ _ _ _ rfl;refine Ah Z (BQ (by assumption) Z)<|Ep Z (by omega) (by omega) ?_);refine SL (a:=(n3*2 ^ 8+n4)*2 ^ 8+n5) (b:=n6) 8 (congrArg (fun z:Nat=>Value.int .i64 z) (by omega)) (congrArg (fun z:Nat=>Value.int .i64 z) e6') (by omega) (by omega) (by omega) ?_;(refine Ab Z<|Ab Z<|Ae Z<|Aa<|Ap ?_);exact Dc [vZ _,vZ _,.bool true] (L':=[]) ⟨Aq Z,Aq Z,Aq Z,trivial⟩ (Afg _) ⟨Z,Z,Z⟩
  ·have hb0:(b[0]'(by omega)).toNat≠1:=fun q=>h1 (UInt8.toNat_inj.1 q);have hF:Fm b=false:=by unfold Fm;rw[g0];simp[h1]
   rw[hF];(refine Ad<|Ab Z<|Ab Z<|Ae Z<|Aa<|Ag<|Ad<|AR<|BI Z (by assumption)<|AO Z Z<|Ae Z<|A3 Z (by omega)<|Af Z<|AR<|Af Z<|Bg (m:=0) (sz:=1) (R:=AH) (by rfl) (by assumption) (by rfl) Z (by omega) ?_;rintro _ _ _ _ _ rfl;refine Af Z<|Ah Z (BQ (by assumption) Z)<|Af Z<|AO Z Z<|Au Z Z<|Aa<|Aw Z (by omega)<|Ad<|Ab Z<|Ab Z<|Ae Z<|Aa<|Ap ?_);exact Dc [vZ 0,vZ 0,.bool false] (L':=[]) ⟨Aq Z,Aq Z,Aq Z,trivial⟩ (Afg _) ⟨Z,Z,Z⟩
 ·have hF:Fm b=false:=by unfold Fm;simp[h7]
  rw[hF];(refine Ad<|Ab Z<|Ab Z<|Ae Z<|Aa<|Ag<|Ad<|AR<|BI Z (by assumption)<|AO Z Z<|Ae Z<|A8 Z (by omega)<|An Z<|An Z<|An Z<|An Z<|Ay Z Z<|Aa<|Bc Z<|Ad<|Ab Z<|Ab Z<|Ae Z<|Aa<|Ap ?_);exact Dc [vZ 0,vZ 0,.bool false] (L':=[]) ⟨Aq Z,Aq Z,Aq Z,trivial⟩ (Afg _) ⟨Z,Z,Z⟩
end Go.Gk.Tre
end
section
namespace Go.Gk.Chn
open Go Go.Gk Go.Gk.Dev Go.Gk.Cch Go.Gk.Pgr
variable{s s0 t:PD}{i:Nat}{x k:Int}{l:List Int}{b:List UInt8}
structure Tk (s0 s:PD) (l:List Int):Prop where
 frm:s.frm=s0.frm
 syn:s.syn=s0.syn
 round:s.round=s0.round
 len:s.kinds.length=s0.kinds.length
 kd:∀j,j<s0.kinds.length→s.kd j=if ((s0.frm+j:Nat):Int)∈l then 1 else s0.kd j
 was:∀k∈l,∃j,j<s0.kinds.length∧k=((s0.frm+j:Nat):Int)∧s0.kd j=0
 nd:l.Nodup
 fb:∀j,((s0.frm+j:Nat):Int)∉l→s.fb j=s0.fb j
 free:s.free+l.length=s0.free
def Tk.nil(s:PD):Tk s s []:=⟨Z,Z,Z,Z,fun j _=>(by simp),fun k hk=>(by cases hk),List.nodup_nil,fun _ _=>Z,Z⟩
def O9(hi:i<s.kinds.length):(s.kinds.set i x).countP (·==0)+(if s.kinds[i]=0 then 1 else 0)=s.free+(if x=0 then 1 else 0):=by
 rw[List.countP_set hi];have hp:s.kinds[i]=0→0<s.free:=fun h=>List.countP_pos_iff.2 ⟨_,Aey hi,by simp[h]⟩;have hf:s.free=s.kinds.countP (·==0):=Z;rw[hf] at hp⊢;by_cases h0:s.kinds[i]=0
 ·have:=hp h0;by_cases hx:x=0
  ·simp[h0,hx];omega
  ·simp[h0,hx];omega
 ·by_cases hx:x=0
  ·simp[h0,hx]
  ·simp[h0,hx]
def V7(h:Dk 0 l=none):l.countP (·==0)=0:=by
 rw[List.countP_eq_zero];intro a ha e;have:a=0:=by simpa using e
 subst this;clear e;induction l with
 |nil=>cases ha
 |cons y l ih=>
  rw[Dk] at h
  split at h
  ·cases h
  ·rename_i hne
   rcases List.mem_cons.1 ha with rfl|ha
   ·exact hne Z
   ·exact ih (by cases q:Dk 0 l with|none=>rfl|some j=>rw[q] at h;cases h) ha
def Tk.take(h:Tk s0 s l):(s.AV.2.2=0∧Tk s0 s.AV.1 (l++[s.AV.2.1]))∨(s.AV.2.2=190∧s.AV.1=s∧s.free=0):=by
 unfold PD.AV;cases hq:Dk 0 s.kinds with
 |none=>exact .inr ⟨Z,Z,V7 hq⟩
 |some i=>
  obtain⟨hi,h0⟩:=Gj hq
  refine .inl ⟨Z,?_⟩
  show Tk s0 (s.HX i) (l++[((s.frm+i:Nat):Int)])
  have hi0:i<s0.kinds.length:=by rw[←h.len];exact hi
  have hnot:((s0.frm+i:Nat):Int)∉l:=fun hm=>by
   have:=h.kd i hi0;rw[if_pos hm,Kq hi,h0] at this;cases this
  have h00:s0.kd i=0:=by
   have:=h.kd i hi0;rw[if_neg hnot,Kq hi,h0] at this;exact this.symm
  rw[h.frm]
  refine⟨h.frm,h.syn,h.round,by simp[PD.HX,h.len],fun j hj=>?_,fun k hk=>?_,?_,fun j hj=>?_,?_⟩
  ·show(s.kinds.set i 1).getD j 0=_
   rw[Dl hi]
   by_cases e:j=i
   ·subst e;rw[if_pos Z,if_pos (by simp)]
   ·rw[if_neg e,show s.kinds.getD j 0=s.kd j from Z,h.kd j hj]
    by_cases hm:((s0.frm+j:Nat):Int)∈l
    ·rw[if_pos hm,if_pos (Afc _ hm)]
    ·rw[if_neg hm,if_neg]
     intro hm'
     rcases Aej.1 hm' with q|q
     ·exact hm q
     ·have:=Aew.1 q;omega
  ·rcases Aej.1 hk with q|q
   ·exact h.was k q
   ·exact⟨i,hi0,Aew.1 q,h00⟩
  ·refine List.nodup_append.2 ⟨h.nd,by simp,fun a ha b hb=>?_⟩
   rw[Aew.1 hb]
   exact fun e=>hnot (e▸ha)
  ·show EE s.fb i JP j=s0.fb j
   have hne:j≠i:=fun e=>hj (by rw[e];simp)
   rw[EE,if_neg hne]
   exact h.fb j (fun q=>hj (Afc _ q))
  ·have hf:=O9 (s:=s) (i:=i) (x:=1) hi
   rw[if_pos h0,if_neg (by decide)] at hf
   have:=h.free
   show(s.kinds.set i 1).countP (·==0)+(l++[_]).length=s0.free
   rw[Aek,Ahe]
   omega
def Li:∀{n:Nat}{s}{l:List Int},Tk s0 s l→Tk s0 (B0 s l n).1 (B0 s l n).2.1∧(((B0 s l n).2.2=0∧n≤s.free)∨((B0 s l n).2.2=190∧s.free<n))
 |0,s,l,h=>⟨h,.inl ⟨Z,Aez _⟩⟩
 |n+1,s,l,h=>by
  rw[B0];rcases h.take with ⟨h1,h2⟩|⟨h1,h2,h3⟩
  ·rw[if_pos h1];obtain⟨k1,k2⟩:=Li (n:=n) h2;have hf:=h2.free;have hf0:=h.free;rw[Aek,Ahe] at hf;refine⟨k1,?_⟩
   rcases k2 with ⟨k2,k3⟩|⟨k2,k3⟩
   ·exact .inl ⟨k2,by omega⟩
   ·exact .inr ⟨k2,by omega⟩
  ·rw[if_neg (by rw[h1];decide)];simp only;rw[h2];exact⟨h,.inr ⟨h1,by omega⟩⟩
def ZO{c}(h0:0≤x)(h1:x<65536):((G9 (C7 x c):Nat):Int)=x:=by
 unfold G9 C7;simp only[Ahd,Agx,UInt8.toNat_ofNat'];omega
def YT{c}:((C7 x c).drop (2+c.length)).all (·==0)=true:=by
 unfold C7;rw[Nat.add_comm 2];show((c++Aeu (254 - c.length) 0).drop c.length).all (·==0)=true;rw[Aij];simp
def Aag{c}:((C7 x c).drop 2).take c.length=c:=by
 unfold C7;show(c++Aeu (254 - c.length) 0).take c.length=c;rw[List.take_left]
structure Gu (s:PD) (b:List UInt8) (l:List Int):Prop where
 len:l.length=AP b.length
 rng:∀k∈l,0≤k∧k<65535
 live:∀j (h:j<l.length),Bs s l[j]
 pg:∀j (h:j<l.length),s.bytes l[j]=C7 (l.getD (j+1) 65535) (BH b j)
def Jy:(BH b i).length=min 254 (b.length - i*254):=by unfold BH;rw[Aer,Aen]
def XB:b.take (i*254)++BH b i=b.take ((i+1)*254):=by
 unfold BH;rw[show(i+1)*254=i*254+254 by omega,List.take_add]
def IH(h:i<l.length):l.getD i x=l[i]:=by rw[Aee,Aed h];rfl
def OS(h:l.length≤i):l.getD i x=x:=by rw[Aee,Afo h];rfl
def On(h:Gu s b l):∀{m i:Nat},i+m=l.length→DL s b.length l.length (l.getD i 65535) (l.take i) (b.take (i*254)) m=(l,b,0)
 |0,i,hm=>by
  have hl:=h.len;rw[DL,Afu (by omega),Afu (by unfold AP at hl;omega)]
 |m+1,i,hm=>by
  have hi:i<l.length:=by omega
  have hl:=h.len;have hb:i*254≤b.length:=MV (by omega);rw[IH hi,DL,if_pos (h.live i hi),h.pg i hi];have hnx:0≤l.getD (i+1) 65535∧l.getD (i+1) 65535<65536:=by
   by_cases e:i+1<l.length
   ·rw[IH e];have:=h.rng _ (Aey e);omega
   ·rw[OS (by omega)];decide
  have hlk:=ZO (c:=BH b i) hnx.1 hnx.2;have htl:(l.take i).length=i:=by rw[Aer];omega
  have hc:(G9 (C7 (l.getD (i+1) 65535) (BH b i))=65535)=((l.take i).length+1=l.length):=by
   rw[htl];refine propext ⟨fun q=>?_,fun q=>?_⟩
   ·by_cases e:i+1<l.length
    ·rw[IH e] at hlk q;have:=h.rng _ (Aey e);rw[q] at hlk;omega
    ·omega
   ·rw[OS (by omega)] at hlk;rw[OS (by omega)];omega
  rw[if_pos hc];have hbt:(b.take (i*254)).length=i*254:=by rw[Aer];omega
  have hmn:min 254 (b.length - (b.take (i*254)).length)=(BH b i).length:=by rw[hbt,Jy]
  rw[hmn,YT,if_pos Z,Aag,XB,hlk,show l.take i++[l[i]]=l.take (i+1) from(Aes hi).symm];exact On h (by omega)
def RR{n:Nat}:1≤AP n:=by unfold AP;omega
def Ol(h:Gu s b l)(hb:b.length≤16384):BT s (l.getD 0 0) b.length=(l,b,0):=by
 unfold BT;rw[if_pos (by omega),Int.toNat_natCast,←h.len];have h0:0<l.length:=by rw[h.len];exact RR
 have:=On h (m:=l.length) (i:=0) (by omega);rw[IH h0] at this⊢;simpa using this
def Jw{b:Sec}(hk:s.kind k=1)(hb:b.length=256):(s.put k b).1={s with fb:=EE s.fb (k - s.frm).toNat b}:=by
 unfold PD.put;rw[if_pos hk,if_pos hb]
def Us{k':Int}{b:Sec}(hk:s.kind k=1)(hb:b.length=256):(s.put k b).1.kind k'=s.kind k':=by rw[Jw hk hb];rfl
def Mh{k':Int}{b:Sec}(hk:s.kind k=1)(hb:b.length=256):(s.put k b).1.bytes k'=if k'=k then b else s.bytes k':=by
 have hkk:=Us (k':=k') hk hb;unfold PD.bytes;rw[hkk,Jw hk hb];obtain⟨i,i1,rfl,i2,i3⟩:=C0 hk (by omega);by_cases e:k'=((s.frm+i:Nat):Int)
 ·subst e;rw[if_pos hk,if_pos Z];show EE s.fb _ b _=b;rw[EE,if_pos Z]
 ·rw[if_neg e];by_cases h1:s.kind k'=1
  ·rw[if_pos h1,if_pos h1];obtain⟨j,j1,rfl,j2,j3⟩:=C0 h1 (by omega);show EE s.fb _ b _=s.fb _;rw[EE,i3,j3,if_neg (fun q=>e (by rw[q]))]
  ·rw[if_neg h1,if_neg h1]
def FX:(C7 x (BH b i)).length=256:=by
 have:=Jy (b:=b) (i:=i);unfold C7;simp only[List.length_cons,Aek,Afk];omega
def YD(hn:l.Nodup){j:Nat}(hi:i<l.length)(hj:j<l.length)(e:l[i]=l[j]):i=j:=by
 rcases Nat.lt_trichotomy i j with h|h|h
 ·exact absurd e (Ahk.1 hn i j hi hj h)
 ·exact h
 ·exact absurd e.symm (Ahk.1 hn j i hj hi h)
structure Ng (s t:PD):Prop where
 frm:t.frm=s.frm
 kinds:t.kinds=s.kinds
 syn:t.syn=s.syn
 round:t.round=s.round
def Ng.refl(s:PD):Ng s s:=⟨Z,Z,Z,Z⟩
def Ng.kind(h:Ng s t)(k:Int):t.kind k=s.kind k:=by unfold PD.kind PD.kd;rw[h.frm,h.kinds]
def Ng.free(h:Ng s t):t.free=s.free:=by unfold PD.free;rw[h.kinds]
def WE{t:PD}{l:List Int}{b:List UInt8}(hf:∀k∈l,t.kind k=1)(hn:l.Nodup):∀{i:Nat},i≤l.length→Ng t (CX t l b i)∧
  (∀j (hj:j<l.length),j<i→(CX t l b i).bytes l[j]=C7 (l.getD (j+1) 65535) (BH b j))∧∀k,k∉l→(CX t l b i).bytes k=t.bytes k
 |0,_=>⟨Ng.refl t,fun j _ h=>absurd h (Ahc j),fun _ _=>Z⟩
 |i+1,hi=>by
  obtain⟨h1,h2,h3⟩:=WE (b:=b) hf hn (i:=i) (by omega);have hi':i<l.length:=by omega
  have hk:(CX t l b i).kind l[i]=1:=by rw[h1.kind];exact hf _ (Aey hi')
  rw[CX,IH hi'];refine⟨?_,fun j hj hji=>?_,fun k hkl=>?_⟩
  ·rw[Jw hk FX];exact⟨h1.frm,h1.kinds,h1.syn,h1.round⟩
  ·rw[Mh hk FX];by_cases e:j=i
   ·subst e;rw[if_pos Z]
   ·rw[if_neg (fun q=>e (YD hn hj hi' q))];exact h2 j hj (by omega)
  ·rw[Mh hk FX,if_neg (fun(q:k=l[i])=>hkl (by rw[q];exact Aey hi'))];exact h3 k hkl
def Tk.kind(h:Tk s0 s l)(k:Int):s.kind k=if k∈l then 1 else s0.kind k:=by
 unfold PD.kind;rw[h.frm,h.len];by_cases e:(s0.frm:Int)≤k∧k<(s0.frm:Int)+s0.kinds.length
 ·rw[if_pos e,if_pos e,h.kd _ (by omega),show((s0.frm+(k - s0.frm).toNat:Nat):Int)=k by omega]
 ·rw[if_neg e,if_neg e];rw[if_neg];intro hm;obtain⟨j,j1,j2, -⟩:=h.was k hm;omega
def Tk.not(h:Tk s0 s l)(hk:s0.kind k≠0):k∉l:=fun hm=>by
 obtain⟨j,j1,rfl,j3⟩:=h.was k hm;rw[Ns j1] at hk;exact hk j3
def Tk.bytes(h:Tk s0 s l)(hk:k∉l):s.bytes k=s0.bytes k:=by
 have hkk:=h.kind k;rw[if_neg hk] at hkk;unfold PD.bytes;rw[hkk,h.syn];by_cases h1:s0.kind k=1
 ·rw[if_pos h1,if_pos h1];obtain⟨j,j1,rfl,j2,j3⟩:=C0 h1 (by omega);rw[h.frm,j3];exact h.fb j hk
 ·rw[if_neg h1,if_neg h1]
def Zt(hG:Pgr.Good s)(hr:AP b.length≤s.free):∃t l,BK s b=(t,l.getD 0 0,0)∧Gu t b l∧(∀k∈l,t.kind k=1∧s.kind k=0)∧t.free+l.length=s.free∧l.length=AP b.length∧
  (∀k,k∉l→t.kind k=s.kind k∧t.bytes k=s.bytes k)∧l.Nodup:=by
 obtain⟨h1,h2⟩:=Li (n:=AP b.length) (Tk.nil s)
 have hz:(B0 s [] (AP b.length)).2.2=0:=by
  rcases h2 with ⟨q, -⟩|⟨-,q⟩
  ·exact q
  ·omega
 have ht:Bu s (AP b.length)=B0 s [] (AP b.length):=by unfold Bu;rw[if_pos hz]
 have hlen:(B0 s [] (AP b.length)).2.1.length=AP b.length:=by have:=Nf hz;simpa using this
 have hc:BK s b=(CX (B0 s [] (AP b.length)).1 (B0 s [] (AP b.length)).2.1 b (B0 s [] (AP b.length)).2.1.length,(B0 s [] (AP b.length)).2.1.getD 0 0,0):=by
  unfold BK;rw[ht];simp only[hz,if_true]
 rw[hc]
 generalize (B0 s [] (AP b.length)).1=t at h1
 generalize (B0 s [] (AP b.length)).2.1=l at h1 hlen
 have hf:∀k∈l,t.kind k=1:=fun k hk=>by rw[h1.kind,if_pos hk]
 obtain⟨p1,p2,p3⟩:=WE (b:=b) hf h1.nd (i:=l.length) (Aef _)
 refine⟨_,l,Z,⟨hlen,fun k hk=>?_,fun j hj=>?_,fun j hj=>p2 j hj hj⟩,fun k hk=>⟨by rw[p1.kind];exact hf k hk,?_⟩,by rw[p1.free];exact h1.free,hlen,fun k hk=>⟨?_,?_⟩,h1.nd⟩
 ·obtain⟨j,j1,rfl, -⟩:=h1.was k hk
  have:=hG.inn
  have:=hG.syn
  omega
 ·exact .inl (by rw[p1.kind];exact hf _ (Aey hj))
 ·obtain⟨j,j1,rfl,j3⟩:=h1.was k hk
  rw[Ns j1];exact j3
 ·rw[p1.kind,h1.kind,if_neg hk]
 ·rw[p3 k hk,h1.bytes hk]
def Gu.stay(h:Gu s b l)(hs:∀k∈l,t.kind k=s.kind k∧t.bytes k=s.bytes k):Gu t b l:=
 ⟨h.len,h.rng,fun j hj=>by unfold Bs;rw[(hs _ (Aey hj)).1];exact h.live j hj,fun j hj=>by rw[(hs _ (Aey hj)).2];exact h.pg j hj⟩
end Go.Gk.Chn
end
