/-
  Our own texts, one behind the other: GkNode6 GkNode7 GkNode8 GkNodeA GkNodeB GkNodeC GkNodeD GkNodeE GkNodeF GkNodeH GkNodeI GkNodeJ GkNodeK GkNodeG GkNodeL GkNodeM GkNodeO Gk42 GkIns GkTr0 GkTr1 GkHL GkHM GkHN GkHO GkTr3 Gk43.
-/
import Derived.Test.YteekdjalpmjdhaaGreatPrD
set_option linter.defProp false
open Nat renaming le_of_ble_eq_true→Ada,le_refl→Adi,zero_le→Aej,zero_add→Afj,mul_one→Afn,add_sub_cancel→Afw,mod_eq_of_lt→Agh,not_lt_zero→Agm,sub_self→Agy,min_eq_left→Ahn
open List.Sublist renaming refl→Adb,cons_cons→Afr
open Bool renaming and_eq_true→Adc,false_eq_true→Adk
open List renaming getElem?_eq_getElem→Ade,append_assoc→Adf,mem_append→Adg,getD_eq_getElem?_getD→Adh,length_append→Adj,perm_append_comm→Adl,length_cons→Adm,eq_nil_of_length_eq_zero→Adn,mem_cons_self→Ado,mem_cons_of_mem→Adp,mem_singleton→Adq,length_drop→Adr,getElem?_eq_some_iff→Adt,mem_cons→Adu,all_eq_true→Adv,mem_append_left→Adw,replicate→Adx,length_take→Adz,take_succ_eq_append_getElem→Aea,getElem_mem→Aec,sublist_cons_self→Aef,drop_eq_getElem_cons→Aei,getElem?_eq_none→Aes,length_replicate→Aet,getElem?_take_of_lt→Aew,cons_append→Aex,getElem_of_mem→Aez,getElem?_drop→Afe,getElem?_append_right→Aff,take_of_length_le→Afh,take_length→Afi,getElem?_append_left→Afk,nil_sublist→Afm,getElem?_take→Afp,mem_of_mem_drop→Aft,getD_cons_zero→Afx,getD_cons_succ→Afy,mem_of_getElem?→Agb,ext_getElem?→Agd,pairwise_iff_getElem→Agf,drop_length→Agj,length_singleton→Ags,getD→Aha,drop_succ_cons→Ahc,take_append_drop→Ahh,drop_left→Ahw,getElem_drop→Aie
open List.Perm renaming cons→Ads,swap→Aee
open Option renaming bind_some→Afg
section
namespace Go.Gk.Node
open Go Go.Gk
attribute [local irreducible] gwp gws
variable{P:Program}{f f1:FuncId}{d:Ac}{n:Az}
def F1(k:Int):List UInt8:=[UInt8.ofNat ((k / 256) % 256).toNat,UInt8.ofNat (k % 256).toNat]
def u8n(n:Nat):UInt8:=UInt8.ofNat ((n:Int) % 256).toNat
def tailD(n:Az)(k:Nat):List UInt8:=if n.leaf then u8n (Fg n k)::n.vals.getD k [] else F1 (n.kids.getD (k+1) 0)
def headD(n:Az):List UInt8:=[if n.leaf then 1 else 2,u8n n.keys.length]++(if n.leaf then [] else F1 (n.kids.getD 0 0))
def CF(n:Az):Nat→List UInt8
 |0=>headD n
 |k+1=>CF n k++(u8n (Dq n k)::n.keys.getD k [])++tailD n k
def Qy(n:Az):∀k,(CF n k).length=(if n.leaf then 2 else 4+2*k)+Bo n k:=by
 intro k;induction k with
 |zero=>simp only[CF,headD,Bo];split<;>simp[F1]
 |succ k ih=>
  simp only[CF,Adj,ih,Bo,tailD,D8,Dq,Fg]
  split<;>simp[F1]<;>omega
def Cm(n:Az):List UInt8:=CF n n.keys.length++Adx (256 - (CF n n.keys.length).length) 0
def Zo(n:Nat):Bq [Value.int .u8 0] n=Adx n (AA 0):=by
 unfold Bq;apply List.ext_getElem
 ·simp
 ·intro i h1 h2;simp[Nat.mod_one,AA]
def Ph(P:Program)(f:FuncId):Prop:=∀{d cs}{n:Az},CG d cs n→A0 n=true→AY n≤256→
 Av P f [.agg cs.toArray] d [] (Ret fun r d' L'=>d'=d∧∃h,L'=[h]∧EF 256 r (Cm n) h)
def EF.nil{N b:Nat}{T}:EF N (.slice (some ⟨b,0,none⟩) 0 N) [] (bx b T (Bq [Value.int .u8 0] (N*1))):=
 ⟨Aej _,b,T,rfl,by rw[Zo];simp⟩
def TR:A5:=⟨87,[(.tmp 2)],(sR (o1 1 (.box 0)<|o1 2 (.mv nS) .done) (sR (o1 6 (.mks 1 1 [(.int .u8 0)] z0 (kZ 256))<|om 3 6 .done) (sR (om 7 3<|oj 8 1 1<|ol 9 8<|oL 10 9<|o1 11 (.cvi .u8 10)<|o1 12 (.bsl 2 1 [(.int .u8 0)] [(0,(.const (.int .u8 2))),(1,11)])<|o1 13 (.app 1 1 [(.int .u8 0)] 7 12)<|om 3 13 .done) (.seq (sR (oj 14 0 1<|ol 15 14 .done) (.cond 15 (rG (om 16 3<|o1 17 (.idx 1 16 z0)<|o0 (.st 1 17 (.const (.int .u8 1))) .done)) (.reg true (pm 18 3<|p1 19 (.fld 3 1)<|pl 20 19<|p1 21 (.idx 1 20 z0)<|pl 22 21<|p1 23 (.bin .shr 22 (.const (.int .u64 8)))<|p1 24 (.cvi .u8 23)<|p1 25 (.fld 3 1)<|pl 26 25<|p1 27 (.idx 1 26 z0)<|pl 28 27<|p1 29 (.cvi .u8 28)<|o1 30 (.bsl 2 1 [(.int .u8 0)] [(0,24),(1,29)])<|o1 31 (.app 1 1 [(.int .u8 0)] 18 30) (.bar (pm 3 31 .done)))))) (.seq (sR (oj 32 1 1<|ol 33 32<|oL 34 33<|o1 35 (.mv z0) .done) (.block 0 (.loop (sR (ob 36 .lss 35 34 .done) (.seq (.cond 36 .skip (.exit 0)) (.seq (.block 1 (sR (om 37 35<|oI 38 1 33 35<|ol 39 38<|om 4 37<|om 5 39 .done) (sR (om 40 3<|om 41 5<|oL 42 41<|o1 43 (.cvi .u8 42)<|o1 44 (.bsl 1 1 [(.int .u8 0)] [(0,43)])<|o1 45 (.app 1 1 [(.int .u8 0)] 40 44)<|om 46 5<|o1 47 (.app 1 1 [(.int .u8 0)] 45 46)<|om 3 47 .done) (sR (oj 48 0 1<|ol 49 48 .done) (.cond 49 (.reg true (pm 50 3<|p1 51 (.fld 2 1)<|pl 52 51<|pm 53 4<|p1 54 (.idx 1 52 53)<|pl 55 54<|p1 56 (.len 55)<|p1 57 (.cvi .u8 56)<|p1 60 (.fld 2 1)<|pl 61 60<|pm 62 4<|p1 63 (.idx 1 61 62)<|pl 64 63<|o1 58 (.bsl 1 1 [(.int .u8 0)] [(0,57)])<|o1 59 (.app 1 1 [(.int .u8 0)] 50 58)<|o1 65 (.app 1 1 [(.int .u8 0)] 59 64) (.bar (pm 3 65 .done)))) (.reg true (pm 66 3<|p1 67 (.fld 3 1)<|pl 68 67<|pm 69 4<|p1 70 (.bin .add 69 z1)<|p1 71 (.idx 1 68 70)<|pl 72 71<|p1 73 (.bin .shr 72 (.const (.int .u64 8)))<|p1 74 (.cvi .u8 73)<|p1 75 (.fld 3 1)<|pl 76 75<|pm 77 4<|p1 78 (.bin .add 77 z1)<|p1 79 (.idx 1 76 78)<|pl 80 79<|p1 81 (.cvi .u8 80)<|o1 82 (.bsl 2 1 [(.int .u8 0)] [(0,74),(1,81)])<|o1 83 (.app 1 1 [(.int .u8 0)] 66 82) (.bar (pm 3 83 .done))))))))) (rG (ob 84 .add 35 z1<|om 35 84 .done)))))))) (sR (om 85 3<|o1 86 (.sl 1 85 none (some (kZ 256)) none)<|om 2 86 .done) .ret))))))⟩
def AaK(hd:dec P f=some TR):Ph P f:=by
 intro d cs n hn hs hz;have hlen:=Qy n;obtain⟨lf,ks,vs,is⟩:=n;obtain⟨kv,vv,iv,rfl,hk,hv,hiv⟩:∃kv vv iv,cs=[.bool lf,kv,vv,iv]∧Di d kv ks∧Di d vv vs∧C5 d iv is:=hn;refine AF hd (Ada rfl) ?_;obtain⟨ka,kc,kb,ko,rfl,kA,kS,kN,kl,km,kB,kx⟩:=hk;obtain⟨ia,ic,ib,io,rfl,iA,iS,iN,il,im,iB,ix⟩:=hiv;obtain⟨va,vc,vb,vo,rfl,vA,vS,vN,vl,vm,vB,vx⟩:=hv;show gwp P _ _ _ _ _;(refine Ad<|Cx rfl (fun _ _=>Al rfl<|Aa<|Ad ?_));rename_i b0 T0;refine HT (n:=0) (c:=256) rfl rfl (by omega) (by omega) (by omega) (fun b T=>?_);have hrow:EF 256 _ _ _:=EF.nil (N:=256) (b:=b) (T:=T);(refine Al rfl<|Aa<|Ad<|Al rfl<|Ai rfl<|Ag rfl (Aj 1 rfl rfl)<|AK rfl<|EE rfl ?_);refine B9 d [bx b0 T0 [.bool lf,.slice ka ks.length kc,.slice va vs.length vc,.slice ia is.length ic],bx b T (Bq [Value.int .u8 0] (256*1))] (Vs.perm (Aee _ _ _)) ?_;refine DE (cs:=[.int .u8 2,AA (u8n ks.length)]) (by omega) rfl (fun b2 T2=>?_);refine Ig 1 (news:=[2,u8n ks.length]) rfl rfl hrow rfl rfl rfl (by simp) (by omega) (fun v1 h1 hrow1=>?_);have hround:∀k,k<ks.length→(CF ⟨lf,ks,vs,is⟩ (k+1)).length≤256:=by
  intro k hk;have h1:=hlen (k+1);have h2:=GC ⟨lf,ks,vs,is⟩ (show k+1≤ks.length from hk);simp only[AY] at hz;simp only[A0,Adc] at hs;cases lf
  ·simp only[Adk,if_false,Adc,decide_eq_true_eq] at hs h1 hz;omega
  ·simp only[if_true] at hs h1 hz;omega
 cases lf
 ·obtain⟨hkl,hil,hio⟩:vs.length=0∧is.length=ks.length+1∧is.all Gj=true:=by
   simp only[A0,Adc,Adk,if_false,decide_eq_true_eq] at hs;exact⟨hs.2.1.1,hs.2.1.2,hs.2.2⟩
  have hki:∀i (h:i<is.length),0≤is[i]∧is[i]≤8191:=fun i h=>by
   have:=Adv.1 hio _ (Aec h);simpa [Gj] using this
  obtain⟨c0,hc0,hD0,⟨rfl,hr1,hr2⟩⟩:=ix 0 (by omega);replace hD0:=hD0.one;have hg0:is.getD 0 0=is[0]'(by omega):=by simp[show 0<is.length by omega]
  (refine AJ<|Aa<|Af<|Ad<|Ai rfl<|Ag rfl (Aj 0 rfl rfl)<|Aa<|AS rfl ?_);refine Oh [0] [1] rfl ?_;(refine AJ<|Ai rfl<|Ag rfl (Aj 0 rfl rfl)<|BG 0 rfl rfl rfl (by omega) (by assumption)<|Ag rfl (BN (by assumption))<|JG rfl rfl (by decide)<|EE rfl<|Ai rfl<|Ag rfl (Aj 0 rfl rfl)<|BG 0 rfl rfl rfl (by omega) (by assumption)<|Ag rfl (BN (by assumption))<|EE rfl ?_);refine DE (cs:=(F1 (is[0]'(by omega))).map AA) (by omega) rfl (fun b4 T4=>?_);refine Ig 0 (news:=F1 (is[0]'(by omega))) rfl rfl hrow1 rfl rfl rfl (by simp[F1]) (by omega) (fun v2 h2 hrow2=>?_);have hrow2':EF 256 v2 (CF ⟨false,ks,vs,is⟩ 0) h2:=by
   have e:CF ⟨false,ks,vs,is⟩ 0=[]++[2,u8n ks.length]++F1 (is[0]'(by omega)):=by simp[CF,headD,show 0<is.length by omega]
   rw[e];exact hrow2
  (refine Ch<|AJ<|Aa<|Af<|Ad<|Ai rfl<|Ag rfl (Aj 0 rfl rfl)<|AK rfl<|Ab rfl<|Aa<|Ay ?_);refine CB (α:=Nat×Value×Ac) (fun x=>[(1,pZ b0),(3,x.2.1),(33,.slice ka ks.length kc),(34,vZ ks.length),(35,vZ x.1)])
   (fun x d' L'=>d'=d∧L'=[bx b0 T0 [.bool false,.slice ka ks.length kc,.slice va vs.length vc,.slice ia is.length ic],x.2.2]∧x.1≤ks.length∧EF 256 x.2.1 (CF ⟨false,ks,vs,is⟩ x.1) x.2.2) (fun x=>ks.length - x.1) (0,v2,h2)
   ⟨rfl,rfl,rfl,rfl,rfl,trivial⟩ ⟨rfl,rfl,Aej _,hrow2'⟩ ?_
  rintro⟨k,v3,h3⟩ ρ d' L' ⟨hdd,hLL,hle,hrow3⟩;simp only at hLL hle hrow3;subst hdd;subst hLL;by_cases h:k<ks.length
  ·obtain⟨c0,hc0,hD1,⟨u0,rfl,hu0⟩⟩:=kx k h;replace hD1:=hD1.one;obtain⟨c1,hc1,hD2,⟨rfl,hs1,hs2⟩⟩:=ix (k+1) (by omega);replace hD2:=hD2.one;have hgk:ks.getD k []=ks[k]:=by simp[h]
   have hgi:is.getD (k+1) 0=is[k+1]'(by omega):=by simp[show k+1<is.length by omega]
   have hb:=hround k h;have hbe:CF ⟨false,ks,vs,is⟩ (k+1)=CF ⟨false,ks,vs,is⟩ k++[u8n ks[k].length]++ks[k]++F1 (is[k+1]'(by omega)):=by simp[CF,tailD,Dq,h,show k+1<is.length by omega]
   rw[hbe] at hb;simp only[Adj,Ags] at hb;(refine Ad<|AE rfl rfl<|Aa<|Af<|Ax rfl (by omega)<|Ak<|Af<|Ay<|Ad<|Ab rfl ?_;apply BG;rfl;rfl;rfl;omega;assumption;refine Ag rfl (BN (by assumption))<|Ab rfl<|AJ<|Aa<|Ad<|AJ<|AJ<|BL rfl (by assumption)<|EE rfl ?_);refine DE (cs:=[AA (u8n ks[k].length)]) (by omega) rfl (fun b4 T4=>?_);refine Ig 1 (news:=[u8n ks[k].length]) rfl rfl hrow3 rfl rfl rfl (by simp;omega) (by omega) (fun v4 h4 hrow4=>?_);(apply AJ);refine Td 1 (news:=ks[k]) rfl rfl hrow4 rfl (hu0.rdx _) (by simp;omega) (by omega) (fun v5 h5 hrow5=>?_);(refine AJ<|Aa<|Ad<|Ai rfl<|Ag rfl (Aj 0 rfl rfl)<|Aa<|AS rfl ?_);refine Oh [0] [1] rfl ?_;(refine AJ<|Ai rfl<|Ag rfl (Aj 0 rfl rfl)<|Ab rfl<|AL rfl rfl (by omega) (by omega) ?_);refine BG (k+1) rfl rfl (by omega) (by omega) iA ?_;(refine Ag rfl (BN (by assumption))<|JG rfl rfl (by decide)<|EE rfl<|Ai rfl<|Ag rfl (Aj 0 rfl rfl)<|Ab rfl<|AL rfl rfl (by omega) (by omega) ?_);refine BG (k+1) rfl rfl (by omega) (by omega) iA ?_;(refine Ag rfl (BN (by assumption))<|EE rfl ?_);refine DE (cs:=(F1 (is[k+1]'(by omega))).map AA) (by omega) rfl (fun b6 T6=>?_);refine Ig 0 (news:=F1 (is[k+1]'(by omega))) rfl rfl hrow5 rfl rfl rfl (by simp[F1] at hb⊢;omega) (by omega) (fun v6 h6 hrow6=>?_);(refine Ch<|AJ<|Aa<|AB<|AL rfl rfl (by omega) (by omega)<|Ab rfl<|Aa ?_);refine⟨(k+1,v6,h6),by simp;omega,⟨rfl,rfl,rfl,rfl,int_eq (by omega),trivial⟩,rfl,rfl,h,?_⟩
   simp only;rw[hbe];exact hrow6
  ·have e:k=ks.length:=by omega
   subst e;obtain⟨b7,rfl,hfull⟩:=hrow3.full;(refine Ad<|AE rfl rfl<|Aa<|Af<|Ar rfl (by omega)<|Bg<|Ad<|Al rfl ?_);refine ZT (l:=0) (h:=256) (m:=256) rfl rfl (by omega) ?_;(refine Al rfl<|Aa<|An ?_);exact BO (L':=[h3]) rfl (Aef _ _) ⟨rfl,h3,rfl,hfull⟩
 ·have hvl:vs.length=ks.length:=by
   simp only[A0,Adc,if_true,decide_eq_true_eq] at hs;exact hs.2.1.1
  obtain⟨_,b3,T3,rfl,rfl⟩:=hrow1;(refine Al rfl<|Aa<|Af<|Ad<|Ai rfl<|Ag rfl (Aj 0 rfl rfl)<|Aa<|Bj rfl<|AB<|Al rfl ?_);refine BG (b:=b3) (o:=0) 0 rfl rfl rfl (by simp) (SAd.some _ b3 0) ?_;refine BU (v:=.int .u8 1) 1 rfl rfl rfl rfl (by rw[Adj,Aet,List.length_map];exact Ada rfl) rfl ?_;have hrow2':EF 256 (.slice (some ⟨b3,0,none⟩) 2 256) (CF ⟨true,ks,vs,is⟩ 0) (bx b3 T3 (patch (([]++[2,u8n ks.length]).map AA++Adx (256 - ([]++[2,u8n ks.length]).length) (AA 0)) (0+0*1) (Value.int .u8 1).cells.toList)):=by
   refine⟨by simp[CF,headD],b3,T3,by simp[CF,headD],?_⟩
   congr 1
  (refine Aa<|Af<|Ad<|Ai rfl<|Ag rfl (Aj 0 rfl rfl)<|AK rfl<|Ab rfl<|Aa<|Ay ?_);refine CB (α:=Nat×Value×Ac) (fun x=>[(1,pZ b0),(3,x.2.1),(33,.slice ka ks.length kc),(34,vZ ks.length),(35,vZ x.1)])
   (fun x d' L'=>d'=d∧L'=[bx b0 T0 [.bool true,.slice ka ks.length kc,.slice va vs.length vc,.slice ia is.length ic],x.2.2]∧x.1≤ks.length∧EF 256 x.2.1 (CF ⟨true,ks,vs,is⟩ x.1) x.2.2) (fun x=>ks.length - x.1) (0,_,_)
   ⟨rfl,rfl,rfl,rfl,rfl,trivial⟩ ⟨rfl,rfl,Aej _,hrow2'⟩ ?_
  rintro⟨k,v3,h3⟩ ρ d' L' ⟨hdd,hLL,hle,hrow3⟩;simp only at hLL hle hrow3;subst hdd;subst hLL;by_cases h:k<ks.length
  ·obtain⟨c0,hc0,hD1,⟨u0,rfl,hu0⟩⟩:=kx k h;replace hD1:=hD1.one;obtain⟨c1,hc1,hD2,⟨u1,rfl,hu1⟩⟩:=vx k (by omega);replace hD2:=hD2.one;have hb:=hround k h;have hbe:CF ⟨true,ks,vs,is⟩ (k+1)=CF ⟨true,ks,vs,is⟩ k++[u8n ks[k].length]++ks[k]++[u8n (vs[k]'(by omega)).length]++vs[k]'(by omega):=by simp[CF,tailD,Dq,Fg,h,show k<vs.length by omega]
   rw[hbe] at hb;simp only[Adj,Ags] at hb;(refine Ad<|AE rfl rfl<|Aa<|Af<|Ax rfl (by omega)<|Ak<|Af<|Ay<|Ad<|Ab rfl ?_;apply BG;rfl;rfl;rfl;omega;assumption;refine Ag rfl (BN (by assumption))<|Ab rfl<|AJ<|Aa<|Ad<|AJ<|AJ<|BL rfl (by assumption)<|EE rfl ?_);refine DE (cs:=[AA (u8n ks[k].length)]) (by omega) rfl (fun b4 T4=>?_);refine Ig 1 (news:=[u8n ks[k].length]) rfl rfl hrow3 rfl rfl rfl (by simp;omega) (by omega) (fun v4 h4 hrow4=>?_);(apply AJ);refine Td 1 (news:=ks[k]) rfl rfl hrow4 rfl (hu0.rdx _) (by simp;omega) (by omega) (fun v5 h5 hrow5=>?_);(refine AJ<|Aa<|Ad<|Ai rfl<|Ag rfl (Aj 0 rfl rfl)<|Aa<|Bj rfl ?_);refine Oh [0] [1] rfl ?_;(refine AJ<|Ai rfl<|Ag rfl (Aj 0 rfl rfl)<|Ab rfl ?_;apply BG;rfl;rfl;rfl;omega;assumption;refine Ag rfl (BN (by assumption))<|BL rfl (by assumption)<|EE rfl<|Ai rfl<|Ag rfl (Aj 0 rfl rfl)<|Ab rfl ?_;apply BG;rfl;rfl;rfl;omega;assumption;apply Ag;rfl;exact BN (by assumption));refine DE (cs:=[AA (u8n (vs[k]'(by omega)).length)]) (by omega) rfl (fun b6 T6=>?_);refine Ig 0 (news:=[u8n (vs[k]'(by omega)).length]) rfl rfl hrow5 rfl rfl rfl (by simp;omega) (by omega) (fun v6 h6 hrow6=>?_);refine Td 0 (news:=vs[k]'(by omega)) rfl rfl hrow6 rfl (hu1.rdx _) (by simp;omega) (by omega) (fun v7 h7 hrow7=>?_);(refine Ch<|AJ<|Aa<|AB<|AL rfl rfl (by omega) (by omega)<|Ab rfl<|Aa ?_);refine⟨(k+1,v7,h7),by simp;omega,⟨rfl,rfl,rfl,rfl,int_eq (by omega),trivial⟩,rfl,rfl,h,?_⟩
   simp only;rw[hbe];exact hrow7
  ·have e:k=ks.length:=by omega
   subst e;obtain⟨b7,rfl,hfull⟩:=hrow3.full;(refine Ad<|AE rfl rfl<|Aa<|Af<|Ar rfl (by omega)<|Bg<|Ad<|Al rfl ?_);refine ZT (l:=0) (h:=256) (m:=256) rfl rfl (by omega) ?_;(refine Al rfl<|Aa<|An ?_);exact BO (L':=[h3]) rfl (Aef _ _) ⟨rfl,h3,rfl,hfull⟩
def My(P:Program)(f:FuncId):Prop:=∀{d cs}{n:Az},CG d cs n→AY n≤1000000000000→
 Av P f [.agg cs.toArray] d [] (Ret fun r d' L'=>d'=d∧((Bm n=true∧∃v h,r=.tuple #[v,vZ 0]∧L'=[h]∧EF 256 v (Cm n) h)∨(Bm n=false∧r=.tuple #[.slice none 0 0,vZ 200]∧L'=[])))
def S7(a0 a1:Nat):A5:=⟨9,[(.tmp 2),(.tmp 3)],(sR (o1 1 (.box 0)<|o1 2 (.mv nS)<|o1 3 (.mv z0) .done) (.seq (sR (o1 4 (.ld (some 4) 1)<|oc 5 a0 [4]<|o1 6 (.un .not 5) .done) (.cond 6 (sR (o1 2 (.mv nS)<|o1 3 (.mv (kZ 200)) .done) .ret) .skip)) (sR (o1 7 (.ld (some 4) 1)<|oc 8 a1 [7]<|om 2 8<|o1 3 (.mv z0) .done) .ret)))⟩
def ZF{f2}(hd:dec P f=some (S7 f1 f2))(h1:Jo P f1)(h2:Ph P f2):My P f:=by
 intro d cs n hn hb;refine AF hd (Ada rfl) ?_;have hn':=hn;obtain⟨kv,vv,iv,rfl,hk,hv,hiv⟩:∃kv vv iv,cs=[.bool n.leaf,kv,vv,iv]∧Di d kv n.keys∧Di d vv n.vals∧C5 d iv n.kids:=hn;show gwp P _ _ _ _ _;(refine Ad<|Cx rfl (fun _ _=>Al rfl<|Ab rfl<|Aa<|Af<|Ad<|Bh 0 rfl rfl rfl ?_));refine BS rfl (h1 hn' hb) ?_;cases hr:Bm n with
 |false=>
  (refine Bx rfl<|Aa<|Bj rfl<|Ad<|Al rfl<|Ab rfl<|Aa<|An ?_)
  exact RC rfl rfl ⟨rfl,.inr ⟨rfl,rfl,rfl⟩⟩
 |true=>
  have hr':=hr
  simp only[Bm,Adc,decide_eq_true_eq] at hr'
  (refine Bx rfl<|Aa<|AS rfl<|Ak<|Ad<|Bh 0 rfl rfl rfl ?_)
  refine Bl rfl (h2 hn' hr'.1 hr'.2) (fun r d' L' _ ⟨hdd,h,hL,hrow⟩=>?_)
  subst hdd;subst hL
  (refine AJ<|Ab rfl<|Aa<|An ?_)
  exact CO (L':=[h]) rfl rfl (by simp) ⟨rfl,.inl ⟨rfl,_,h,rfl,rfl,hrow⟩⟩
section
def CG.mono{d' cs}(h:CG d cs n)(hl:Le d d'):CG d' cs n:=
 let ⟨kv,vv,iv,e,h1,h2,h3⟩:=h
 ⟨kv,vv,iv,e,h1.mono hl,h2.mono hl,h3.mono hl⟩
attribute [local irreducible] Cm
end
section
instance:DecidableEq Az:=fun a b=>by
 obtain⟨a1,a2,a3,a4⟩:=a;obtain⟨b1,b2,b3,b4⟩:=b;simp only[Az.mk.injEq];exact inferInstance
def Aa1(hs:A0 n=true)(hz:AY n≤256):∀k,k≤n.keys.length→(CF n k).length≤256:=by
 intro k hk;have h1:=Qy n k;have h2:=GC n hk;simp only[AY] at hz;simp only[A0,Adc] at hs;cases h:n.leaf
 ·simp only[h,Adk,if_false,Adc,decide_eq_true_eq] at hs h1 hz;omega
 ·simp only[h,if_true] at hs h1 hz;omega
attribute [local irreducible] CF
end
def Vd(h:My P f){cs}(hn:CG d cs n)(hz:AY n≤1000000000000):
  Av P f [.agg cs.toArray] d [] (Ret fun r d' L'=>d'=d∧∃v g,r=.tuple #[v,vZ (if Bm n then 0 else 200)]∧L'=[g]∧Ap 1 AP d v (if Bm n then Cm n else []) g):=by
 refine(h hn hz).DL (fun v d' L' _ hr=>?_)
 rcases hr with ⟨hdd,⟨hR,v,g,hv,hL,hrow⟩|⟨hR,hv,hL⟩⟩
 ·subst hdd
  exact⟨d',L',Vs.refl _ _,rfl,v,g,by simp[hv,hR],hL,by simp only[hR,if_true];exact hrow.grow (by omega)⟩
 ·subst hdd;subst hL
  exact⟨d',[emp],Vs.emp,rfl,.slice none 0 0,emp,by simp[hv,hR],rfl,by simp only[hR];exact Ap.nil⟩
def Ds(d:Ac)(v:Value)(xs:List (List UInt8))(L:List Ac):Prop:=∃us h0 hs,BT 1 v xs.length us h0∧hs.length=xs.length∧
 (∀i (hi:i<xs.length),∃u g,us[i]?=some u∧hs[i]?=some g∧Ap 1 AP d u xs[i] g)∧L=h0::hs
def Ds.R0{d1 v xs L}(o:Ds d v xs L)(hl:Le d d1)(hL:∀h∈L,Le h d1):Di d1 v xs:=by
 obtain⟨us,h0,hs,h1,h2,h3,rfl⟩:=o;refine h1.Yi (hL _ (Ado ..)) rfl (fun i hi=>?_);obtain⟨u,g,k1,k2,k3⟩:=h3 i hi;exact⟨u,k1,u,rfl,k3.rsl A3 (by omega) hl (hL _ (Adp _ (Agb k2)))⟩
def Ds.val{v xs L}(o:Ds d v xs L):∃a c,v=.slice a xs.length c:=by
 obtain⟨us,h0,hs,h1,_⟩:=o;obtain⟨a,b,c,e,_⟩:=h1.slice;exact⟨a,c,e⟩
def RO(P:Program)(f:FuncId):Prop:=∀{d v xs},Di d v xs→xs.length≤1000000000→
 Av P f [v] d [] (Ret fun r d' L'=>d'=d∧Ds d r xs L')
def Ve(a0:Nat):A5:=⟨19,[(.tmp 2)],(sR (o1 2 (.mv nS) .done) (sR (o1 3 (.mv nS) .done) (.seq (sR (om 6 0<|oL 7 6<|o1 8 (.mv z0) .done) (.block 0 (.loop (sR (ob 9 .lss 8 7 .done) (.seq (.cond 9 .skip (.exit 0)) (.seq (.block 1 (sR (oI 10 1 6 8<|ol 11 10<|om 5 11 .done) (rG (om 12 3<|om 13 5<|oc 14 a0 [13]<|o1 15 (.bsl 1 1 [(.slice none 0 0)] [(0,14)])<|o1 16 (.app 1 24 [(.slice none 0 0)] 12 15)<|om 3 16 .done)))) (rG (ob 17 .add 8 z1<|om 8 17 .done)))))))) (sR (om 18 3<|om 2 18 .done) .ret))))⟩
def AbD(hd:dec P f=some (Ve f1))(h1:Ef AP 1 P f1):RO P f:=by
 intro d v xs hv hb;refine AF hd (Ada rfl) ?_;show gwp P _ _ _ _ _;apply Af;apply AB;refine B9 d [emp] Vs.emp ?_;(refine Al rfl<|Aa<|Ad<|Al rfl<|Aa<|Af<|Ad<|AJ<|BL rfl (by assumption)<|Ab rfl<|Aa<|Ay ?_);refine AaW (α:=Nat) (fun k w=>[(3,w),(6,v),(7,vZ xs.length),(8,vZ k)])
  (fun k w h0 d' L'=>d'=d∧k≤xs.length∧∃us hs,BT 1 w k us h0∧hs.length=k∧(∀i (hi:i<xs.length),i<k→∃u g,us[i]?=some u∧hs[i]?=some g∧Ap 1 AP d u xs[i] g)∧L'=h0::hs) (fun k=>xs.length - k) 0 (.slice none 0 0) emp
  ⟨rfl,rfl,rfl,rfl,trivial⟩ ⟨rfl,Aej _,[],[],BT.nil 1,rfl,fun i _ hi=>absurd hi (Agm i),rfl⟩ ?_
 rintro k w h0 ρ d' L' ⟨hdd,hk,us,hs,ho,hhl,hel,hL⟩;subst hdd;subst hL;(refine Ad<|AE rfl rfl<|Aa<|Af ?_);first|refine IL rfl (fun hc=>?_) (fun hc=>?_)|refine Mi rfl (fun hc=>?_) (fun hc=>?_)
 ·have hk1:k<xs.length:=by omega
  have hxl:xs[k].length*1≤140737488355328:=by
   obtain⟨a,c,b,o,e,_,_,_,_,_,_,h8⟩:=hv;obtain⟨cs,_,_,u,_,hu⟩:=h8 k hk1;have:=AM.B3 hu;omega
  (refine Ak<|Af<|Ay<|Ad<|BM (sz:=1) (R:=RBs) (by rfl) (by assumption) (by rfl) rfl (by omega) ?_;rintro _ _ _ _ _ ⟨_,rfl,_⟩;refine Ag rfl (B4 (by assumption) rfl)<|AJ<|Aa<|AB<|AJ<|AJ ?_);refine Bl rfl (h1 (xs:=xs[k]) (by assumption) hxl) (fun r d2 L2 _ ⟨hdd,g,hL,hg⟩=>?_);subst hdd;subst hL;obtain⟨a,c,rfl⟩:=hg.val;refine DE (cs:=[.slice a xs[k].length c]) (by omega) rfl (fun b8 T8=>?_);refine UE 1 rfl rfl ho rfl rfl rfl (by omega) (by omega) (by omega) (fun v5 h5 ho5=>?_);refine B9 _ (h5::(hs++[g])) (Vs.perm ((Aee _ _ _).trans ((List.perm_append_singleton g hs).symm.cons _))) ?_;(refine AJ<|Aa<|AB<|AL rfl rfl (by omega) (by omega)<|Ab rfl<|Aa ?_);refine⟨k+1,v5,h5,by omega,⟨rfl,rfl,rfl,int_eq (by omega),trivial⟩,rfl,hk1,_,_,ho5,by simp[hhl],fun i hi hik=>?_,rfl⟩
  have hul:us.length=k:=by have:=ho.1;omega
  by_cases e:i<k
  ·obtain⟨u,g',e1,e2,e3⟩:=hel i hi e;exact⟨u,g',by rw[Afk (by omega)];exact e1,by rw[Afk (by omega)];exact e2,e3⟩
  ·obtain rfl:i=k:=by omega
   exact⟨_,g,by rw[Aff (by omega),hul,Agy];rfl,by rw[Aff (by omega),hhl,Agy];rfl,hg⟩
 ·obtain rfl:k=xs.length:=by omega
  (refine Bg<|Ad<|AJ<|AJ<|Aa<|An ?_);exact BO rfl (Adb _) ⟨rfl,us,h0,hs,ho,hhl,fun i hi=>hel i hi hi,rfl⟩
def wD(n:Az)(i:Nat):Nat:=D8 n i+(if n.leaf then 0 else 2)
def Cw(n:Az):Nat→Nat
 |0=>0
 |k+1=>Cw n k+wD n k
def Aa8(n:Az):∀k,Cw n k≤Bo n k+2*k:=by
 intro k;induction k with
 |zero=>simp[Cw]
 |succ k ih=>simp only[Cw,Bo,wD];split<;>omega
def Ld(n:Az):∀{k m:Nat},k≤m→Cw n k≤Cw n m:=by
 intro k m h;induction h with
 |refl=>exact Adi _
 |step _ ih=>simp only[Cw];omega
def GQ(n:Az):Nat→Nat→Nat
 |0,a=>a
 |f+1,a=>if a<n.keys.length - 1∧2*Cw n a<Cw n n.keys.length then GQ n f (a+1) else a
def atD(n:Az):Nat:=GQ n n.keys.length 0
def WD(n:Az){a:Nat}(h:a<n.keys.length - 1)(h2:2*Cw n a<Cw n n.keys.length)(he:GQ n (n.keys.length - a) a=atD n):GQ n (n.keys.length - (a+1)) (a+1)=atD n:=by
 rw[←he,show n.keys.length - a=n.keys.length - (a+1)+1 by omega];rw[GQ,if_pos ⟨h,h2⟩]
def Q5(n:Az){a:Nat}(h:¬(a<n.keys.length - 1∧2*Cw n a<Cw n n.keys.length))(he:GQ n (n.keys.length - a) a=atD n):atD n=a:=by
 rw[←he];cases e:n.keys.length - a with
 |zero=>rfl
 |succ f=>rw[GQ,if_neg h]
def Dj(n:Az):Bool:=A0 n && decide ((if n.leaf then 2 else 3)≤n.keys.length)
def at2(n:Az):Nat:=max 2 (atD n)
def AZ(n:Az):Az:=if Dj n then(if n.leaf then⟨true,n.keys.take (atD n),n.vals.take (atD n),[]⟩ else⟨false,n.keys.take (at2 n - 1),[],n.kids.take (at2 n)⟩) else⟨false,[],[],[]⟩
def Bc(n:Az):Az:=if Dj n then(if n.leaf then⟨true,n.keys.drop (atD n),n.vals.drop (atD n),[]⟩ else⟨false,n.keys.drop (at2 n),[],n.kids.drop (at2 n)⟩) else⟨false,[],[],[]⟩
def BD(n:Az):List UInt8:=if Dj n then n.keys.getD (if n.leaf then atD n else at2 n - 1) [] else []
def Small(n:Az):Prop:=AY n≤1000000000000∧n.keys.length≤1000000000∧n.vals.length≤1000000000∧n.kids.length≤1000000000
def DT(d:Ac)(cs:List Value)(n:Az)(L:List Ac):Prop:=
 ∃kv vv iv Lk Lv hi,cs=[.bool n.leaf,kv,vv,iv]∧Ds d kv n.keys Lk∧Ds d vv n.vals Lv∧Ap 1 Bb d iv n.kids hi∧L=Lk++Lv++[hi]
def Ds.nil:Ds d (.slice none 0 0) [] [emp]:=⟨[],emp,[],BT.nil 1,rfl,fun i hi=>absurd hi (Agm i),rfl⟩
def DT.zero:DT d [.bool false,.slice none 0 0,.slice none 0 0,.slice none 0 0] ⟨false,[],[],[]⟩ [emp,emp,emp]:=⟨_,_,_,[emp],[emp],emp,rfl,Ds.nil,Ds.nil,Ap.nil,rfl⟩
def DT.IT{d1 cs L}(o:DT d cs n L)(hl:Le d d1)(hL:∀h∈L,Le h d1):CG d1 cs n:=by
 obtain⟨kv,vv,iv,Lk,Lv,hi,rfl,h1,h2,h3,rfl⟩:=o;exact⟨kv,vv,iv,rfl,h1.R0 hl (fun h hm=>hL h (by simp[hm])),h2.R0 hl (fun h hm=>hL h (by simp[hm])),h3.rsl B2 (by omega) hl (hL _ (by simp))⟩
def N8(P:Program)(f:FuncId):Prop:=∀{d cs}{n:Az}{b:Nat}{T},CG d cs n→AY n≤1000000000000→∀i,i<n.keys.length→
 Av P f [vZ i,pZ b] d [bx b T cs] (Ret fun r d' L'=>r=vZ (wD n i)∧d'=d∧L'=[bx b T cs])
def PR(a0:Nat):A5:=⟨13,[(.tmp 3)],(sR (o1 3 (.mv z0) .done) (.seq (sR (oj 4 0 1<|ol 5 4 .done) (.cond 5 (sR (o1 6 (.ld (some 4) 1)<|om 7 0<|oc 8 a0 [6,7]<|om 3 8 .done) .ret) .skip)) (sR (o1 9 (.ld (some 4) 1)<|om 10 0<|oc 11 a0 [9,10]<|ob 12 .add 11 z2<|om 3 12 .done) .ret)))⟩
def Wi(hd:dec P f=some (PR f1))(h1:OH P f1):N8 P f:=by
 intro d cs n b T hn hz i hi;have hcl:D8 n i≤1000000000000:=by
  have e1:Bo n (i+1)≤Bo n n.keys.length:=GC n hi;simp only[Bo] at e1;unfold AY at hz;omega
 have hn':=hn;obtain⟨kv,vv,iv,rfl,hk,hv,hiv⟩:=hn;refine AF hd (Ada rfl) ?_;show gwp P _ _ _ _ _;cases hlf:n.leaf
 ·rw[hlf] at hn';(refine Ad<|Ab rfl<|Aa<|Af<|Ad<|Ai rfl<|Ag rfl (Aj 0 rfl rfl)<|Aa<|AS rfl<|Ak<|Ad<|Bh 0 rfl rfl rfl<|Ab rfl ?_);refine BS rfl (h1 hn' i hi) ?_;(refine AL rfl rfl (by omega) (by omega)<|Ab rfl<|Aa<|An ?_);exact BO rfl (Adb _) ⟨int_eq (by simp[wD,hlf]),rfl,rfl⟩
 ·rw[hlf] at hn';(refine Ad<|Ab rfl<|Aa<|Af<|Ad<|Ai rfl<|Ag rfl (Aj 0 rfl rfl)<|Aa<|Bj rfl<|Ad<|Bh 0 rfl rfl rfl<|Ab rfl ?_);refine BS rfl (h1 hn' i hi) ?_;(refine Ab rfl<|Aa<|An ?_);exact BO rfl (Adb _) ⟨int_eq (by simp[wD,hlf]),rfl,rfl⟩
def Qs(P:Program)(f:FuncId):Prop:=∀{d cs}{n:Az},CG d cs n→Small n→
 Av P f [.agg cs.toArray] d [] (Ret fun r d' L'=>d'=d∧∃ca cb kv La Lb g,r=.tuple #[.agg ca.toArray,.agg cb.toArray,kv,vZ (if Dj n then 0 else 200)]∧L'=La++Lb++[g]∧DT d ca (AZ n) La∧DT d cb (Bc n) Lb∧Ap 1 AP d kv (BD n) g)
def Se(a0 a1 a2 a3 a4:Nat):A5:=⟨127,[(.cell 2 (some 4)),(.cell 3 (some 4)),(.tmp 4),(.tmp 5)],(sR (o1 1 (.box 0)<|o1 2 (.alo (.agg #[(.bool false),(.slice none 0 0),(.slice none 0 0),(.slice none 0 0)]))<|o1 3 (.alo (.agg #[(.bool false),(.slice none 0 0),(.slice none 0 0),(.slice none 0 0)]))<|o1 4 (.mv nS)<|o1 5 (.mv z0) .done) (sR (oj 13 1 1<|ol 14 13<|oL 15 14<|om 6 15 .done) (sR (o1 7 (.mv (kZ 3)) .done) (.seq (sR (oj 16 0 1<|ol 17 16 .done) (.cond 17 (rG (o1 7 (.mv z2) .done)) .skip)) (.seq (sR (o1 18 (.ld (some 4) 1)<|oc 19 a0 [18]<|o1 20 (.un .not 19)<|om 21 20<|gF 22 21 6<|gF 23 21 7<|oF 24 21 (.bin .lss 22 23)<|o1 25 (.pick 21 (.const (.bool true)) 24) .done) (.cond 25 (sR (o1 26 (.bld [(0,1),(1,1),(2,1),(3,1)] [(.bool false),(.slice none 0 0),(.slice none 0 0),(.slice none 0 0)] [])<|o1 27 (.bld [(0,1),(1,1),(2,1),(3,1)] [(.bool false),(.slice none 0 0),(.slice none 0 0),(.slice none 0 0)] [])<|o0 (.st 4 2 26)<|o0 (.st 4 3 27)<|o1 4 (.mv nS)<|o1 5 (.mv (kZ 200)) .done) .ret) .skip)) (sR (o1 28 (.mkf (.func a1) [] [1])<|om 8 28 .done) (sR (o1 9 (.mv z0) .done) (.seq (sR (om 29 6<|o1 30 (.mv z0) .done) (.block 0 (.loop (sR (ob 31 .lss 30 29 .done) (.seq (.cond 31 .skip (.exit 0)) (.seq (.block 1 (sR (om 32 30<|om 10 32 .done) (rG (om 33 9<|om 34 8<|om 35 10<|o1 36 (.callv 34 [35])<|ob 37 .add 33 36<|om 9 37 .done)))) (rG (ob 38 .add 30 z1<|om 30 38 .done)))))))) (sR (o1 11 (.mv z0)<|o1 12 (.mv z0) .done) (.seq (.block 2 (.loop (.seq (sR (om 39 11<|om 40 6<|ob 41 .sub 40 z1<|ob 42 .lss 39 41<|om 43 42<|gT 44 43 12<|oT 45 43 (.bin .mul z2 44)<|gT 46 43 9<|oT 47 43 (.bin .lss 45 46)<|gP 48 43 47 .done) (.cond 48 .skip (.exit 2))) (.block 3 (sR (om 49 12<|om 50 8<|om 51 11<|o1 52 (.callv 50 [51])<|ob 53 .add 49 52<|om 12 53 .done) (rG (om 54 11<|ob 55 .add 54 z1<|om 11 55 .done))))))) (.seq (sR (oj 56 0 1<|ol 57 56 .done) (.cond 57 (.seq (.reg true (p1 58 (.fld 1 1)<|pl 59 58<|pm 60 11<|pm 61 11<|p1 62 (.sl 1 59 none (some 60) (some 61))<|p1 64 (.fld 2 1)<|pl 65 64<|pm 66 11<|pm 67 11<|p1 68 (.sl 1 65 none (some 66) (some 67))<|oc 63 a2 [62]<|oc 69 a2 [68]<|p1 70 (.bld [(0,1),(1,1),(2,1),(3,1)] [(.bool false),(.slice none 0 0),(.slice none 0 0),(.slice none 0 0)] [(0,(.const (.bool true))),(1,63),(2,69)]) (.bar (o0 (.st 4 2 70) .done)))) (.seq (.reg true (p1 71 (.fld 1 1)<|pl 72 71<|pm 73 11<|p1 74 (.sl 1 72 (some 73) none none)<|p1 76 (.fld 2 1)<|pl 77 76<|pm 78 11<|p1 79 (.sl 1 77 (some 78) none none)<|oc 75 a2 [74]<|oc 80 a2 [79]<|p1 81 (.bld [(0,1),(1,1),(2,1),(3,1)] [(.bool false),(.slice none 0 0),(.slice none 0 0),(.slice none 0 0)] [(0,(.const (.bool true))),(1,75),(2,80)]) (.bar (o0 (.st 4 3 81) .done)))) (.seq (.reg true (p1 84 (.fld 1 1)<|pl 85 84<|pm 86 11<|p1 87 (.idx 1 85 86)<|pl 88 87 (.alt ⟨(some 82),none,(.ld (some 4) 2)⟩ (.alt ⟨(some 83),none,(.ld (some 4) 3)⟩ (oc 89 a3 [88] (o0 (.st 4 2 82) (o0 (.st 4 3 83) (pm 4 89 (p1 5 (.mv z0) .done))))) (oc 89 a3 [88] (.alt ⟨(some 83),none,(.ld (some 4) 3)⟩ (o0 (.st 4 2 82) (o0 (.st 4 3 83) (pm 4 89 (p1 5 (.mv z0) .done)))) (o0 (.st 4 2 82) (o1 83 (.ld (some 4) 3) (o0 (.st 4 3 83) (pm 4 89 (p1 5 (.mv z0) .done)))))))) (.alt ⟨(some 83),none,(.ld (some 4) 3)⟩ (.alt ⟨(some 82),none,(.ld (some 4) 2)⟩ (oc 89 a3 [88] (o0 (.st 4 2 82) (o0 (.st 4 3 83) (pm 4 89 (p1 5 (.mv z0) .done))))) (oc 89 a3 [88] (o1 82 (.ld (some 4) 2) (o0 (.st 4 2 82) (o0 (.st 4 3 83) (pm 4 89 (p1 5 (.mv z0) .done))))))) (oc 89 a3 [88] (.alt ⟨(some 82),none,(.ld (some 4) 2)⟩ (.alt ⟨(some 83),none,(.ld (some 4) 3)⟩ (o0 (.st 4 2 82) (o0 (.st 4 3 83) (pm 4 89 (p1 5 (.mv z0) .done)))) (o0 (.st 4 2 82) (o1 83 (.ld (some 4) 3) (o0 (.st 4 3 83) (pm 4 89 (p1 5 (.mv z0) .done)))))) (o1 83 (.ld (some 4) 3) (o1 82 (.ld (some 4) 2) (o0 (.st 4 2 82) (o0 (.st 4 3 83) (pm 4 89 (p1 5 (.mv z0) .done)))))))))))) .ret))) .skip)) (sR (om 90 11<|o1 91 (.mx2 z2 90)<|om 11 91 .done) (.seq (.reg true (p1 92 (.fld 1 1)<|pl 93 92<|pm 94 11<|p1 95 (.bin .sub 94 z1)<|pm 96 11<|p1 97 (.bin .sub 96 z1)<|p1 98 (.sl 1 93 none (some 95) (some 97))<|p1 100 (.fld 3 1)<|pl 101 100<|pm 102 11<|pm 103 11<|p1 104 (.sl 1 101 none (some 102) (some 103))<|oc 99 a2 [98]<|oc 105 a4 [104]<|p1 106 (.bld [(0,1),(1,1),(2,1),(3,1)] [(.bool false),(.slice none 0 0),(.slice none 0 0),(.slice none 0 0)] [(1,99),(3,105)]) (.bar (o0 (.st 4 2 106) .done)))) (.seq (.reg true (p1 107 (.fld 1 1)<|pl 108 107<|pm 109 11<|p1 110 (.sl 1 108 (some 109) none none)<|p1 112 (.fld 3 1)<|pl 113 112<|pm 114 11<|p1 115 (.sl 1 113 (some 114) none none)<|oc 111 a2 [110]<|oc 116 a4 [115]<|p1 117 (.bld [(0,1),(1,1),(2,1),(3,1)] [(.bool false),(.slice none 0 0),(.slice none 0 0),(.slice none 0 0)] [(1,111),(3,116)]) (.bar (o0 (.st 4 3 117) .done)))) (.seq (.reg true (p1 120 (.fld 1 1)<|pl 121 120<|pm 122 11<|p1 123 (.bin .sub 122 z1)<|p1 124 (.idx 1 121 123)<|pl 125 124 (.alt ⟨(some 118),none,(.ld (some 4) 2)⟩ (.alt ⟨(some 119),none,(.ld (some 4) 3)⟩ (oc 126 a3 [125] (o0 (.st 4 2 118) (o0 (.st 4 3 119) (pm 4 126 (p1 5 (.mv z0) .done))))) (oc 126 a3 [125] (.alt ⟨(some 119),none,(.ld (some 4) 3)⟩ (o0 (.st 4 2 118) (o0 (.st 4 3 119) (pm 4 126 (p1 5 (.mv z0) .done)))) (o0 (.st 4 2 118) (o1 119 (.ld (some 4) 3) (o0 (.st 4 3 119) (pm 4 126 (p1 5 (.mv z0) .done)))))))) (.alt ⟨(some 119),none,(.ld (some 4) 3)⟩ (.alt ⟨(some 118),none,(.ld (some 4) 2)⟩ (oc 126 a3 [125] (o0 (.st 4 2 118) (o0 (.st 4 3 119) (pm 4 126 (p1 5 (.mv z0) .done))))) (oc 126 a3 [125] (o1 118 (.ld (some 4) 2) (o0 (.st 4 2 118) (o0 (.st 4 3 119) (pm 4 126 (p1 5 (.mv z0) .done))))))) (oc 126 a3 [125] (.alt ⟨(some 118),none,(.ld (some 4) 2)⟩ (.alt ⟨(some 119),none,(.ld (some 4) 3)⟩ (o0 (.st 4 2 118) (o0 (.st 4 3 119) (pm 4 126 (p1 5 (.mv z0) .done)))) (o0 (.st 4 2 118) (o1 119 (.ld (some 4) 3) (o0 (.st 4 3 119) (pm 4 126 (p1 5 (.mv z0) .done)))))) (o1 119 (.ld (some 4) 3) (o1 118 (.ld (some 4) 2) (o0 (.st 4 2 118) (o0 (.st 4 3 119) (pm 4 126 (p1 5 (.mv z0) .done)))))))))))) .ret)))))))))))))))⟩
set_option maxHeartbeats 4000000 in
def YT{f2 f3 f4 f5}(hd:dec P f=some (Se f1 f2 f3 f4 f5))(h1:MM P f1)(h2:N8 P f2)(h3:RO P f3)(h4:Ef AP 1 P f4)(h5:Ef Bb 8 P f5):Qs P f:=by
 intro d cs n hn hsm;have hn':=hn;obtain⟨lf,ks,vs,is⟩:=n;obtain⟨kv,vv,iv,rfl,hk,hv,hiv⟩:∃kv vv iv,cs=[.bool lf,kv,vv,iv]∧Di d kv ks∧Di d vv vs∧C5 d iv is:=hn;obtain⟨hz,hb1,hb2,hb3⟩:=hsm;simp only at hb1 hb2 hb3;refine AF hd (Ada rfl) ?_;show gwp P _ _ _ _ _;apply Af;apply AB;(refine Cx rfl (fun _ _=>DW (fun _ _=>DW (fun _ _=>Al rfl<|Ab rfl<|Aa ?_))));rename_i b T b2 T2 b3 T3;apply Af;apply AB;refine Ab2 [2,0,1] rfl ?_;(refine Ai rfl<|Ag rfl (Aj 0 rfl rfl)<|BL rfl (by assumption)<|Ab rfl<|Aa ?_);apply Af;apply AB;(refine Ab rfl<|Aa ?_);have bad:Dj ⟨lf,ks,vs,is⟩=false→∀(ρ:Env) (Q:Cc),Q.ret=CI [.cell 2 (some 4),.cell 3 (some 4),.tmp 4,.tmp 5] (Ret fun r d' L'=>d'=d∧∃ca cb kv La Lb g,r=.tuple #[.agg ca.toArray,.agg cb.toArray,kv,vZ (if Dj ⟨lf,ks,vs,is⟩ then 0 else 200)]∧L'=La++Lb++[g]∧DT d ca (AZ ⟨lf,ks,vs,is⟩) La∧DT d cb (Bc ⟨lf,ks,vs,is⟩) Lb∧Ap 1 AP d kv (BD ⟨lf,ks,vs,is⟩) g)→
   ρ 2=pZ b2→ρ 3=pZ b3→ρ 4=.slice none 0 0→ρ 5=vZ 200→Q.ret ρ d [bx b T [.bool lf,kv,vv,iv],bx b3 T3 [.bool false,.slice none 0 0,.slice none 0 0,.slice none 0 0],bx b2 T2 [.bool false,.slice none 0 0,.slice none 0 0,.slice none 0 0]]:=by
  intro hc ρ Q hQ e2 e3 e4 e5
  rw[hQ]
  refine Bd [.agg [.bool false,.slice none 0 0,.slice none 0 0,.slice none 0 0].toArray,.agg [.bool false,.slice none 0 0,.slice none 0 0,.slice none 0 0].toArray,.slice none 0 0,vZ 200] (d':=d) (L':=[emp,emp,emp]++[emp,emp,emp]++[emp]) ⟨AV 2 e2 rfl rfl,AV 1 e3 rfl rfl,As e4,As e5,trivial⟩
   ((Vs.drop (Afm _)).trans (Vs.emp.trans (Vs.emp.trans (Vs.emp.trans (Vs.emp.trans (Vs.emp.trans (Vs.emp.trans Vs.emp))))))) ⟨rfl,_,_,_,_,_,emp,by rw[hc];rfl,rfl,?_⟩
  simp only[AZ,Bc,BD,hc]
  exact⟨DT.zero,DT.zero,Ap.nil⟩
 refine Gc (fun ρ d' L'=>d=d'∧ρ 1=pZ b∧ρ 2=pZ b2∧ρ 3=pZ b3∧ρ 6=vZ ks.length∧ρ 7=vZ (if lf then 2 else 3:Nat)∧L'=[bx b T [.bool lf,kv,vv,iv],bx b3 T3 [.bool false,.slice none 0 0,.slice none 0 0,.slice none 0 0],bx b2 T2 [.bool false,.slice none 0 0,.slice none 0 0,.slice none 0 0]]) ?_ ?_
 ·cases lf
  ·(refine Ad<|Ai rfl<|Ag rfl (Aj 0 rfl rfl)<|Aa<|AS rfl<|Ak ?_);exact⟨rfl,rfl,rfl,rfl,rfl,rfl,rfl⟩
  ·(refine Ad<|Ai rfl<|Ag rfl (Aj 0 rfl rfl)<|Aa<|Bj rfl<|AB<|Ab rfl<|Aa ?_);exact⟨rfl,rfl,rfl,rfl,rfl,rfl,rfl⟩
 rintro ρ d' L' ⟨hdd,e1,e2,e3,e6,e7,hL⟩;subst hdd;subst hL;obtain⟨lo,hlo⟩:∃lo:Nat,lo=if lf then 2 else 3:=⟨_,rfl⟩
 rw[←hlo] at e7;refine Dw [(1,pZ b),(2,pZ b2),(3,pZ b3),(6,vZ ks.length),(7,vZ lo)] ⟨e1,e2,e3,e6,e7,trivial⟩ ?_;refine Gc (fun ρ d' L'=>d=d'∧ρ 1=pZ b∧ρ 2=pZ b2∧ρ 3=pZ b3∧ρ 6=vZ ks.length∧Dj ⟨lf,ks,vs,is⟩=true∧L'=[bx b T [.bool lf,kv,vv,iv],bx b3 T3 [.bool false,.slice none 0 0,.slice none 0 0,.slice none 0 0],bx b2 T2 [.bool false,.slice none 0 0,.slice none 0 0,.slice none 0 0]]) ?_ ?_
 ·(refine Ad<|Bh 0 rfl rfl rfl ?_);refine BS rfl (h1 hn') ?_;cases hs:A0 ⟨lf,ks,vs,is⟩
  ·(refine Bx rfl<|Ae rfl<|Aq rfl<|Aq rfl<|Aq rfl<|AI rfl rfl<|Aa<|Bj rfl<|Ad<|BR rfl<|BR rfl ?_);refine BU 2 rfl rfl rfl rfl (by simp) rfl ?_;refine BU 1 rfl rfl rfl rfl (by simp) rfl ?_;(refine Al rfl<|Ab rfl<|Aa<|An ?_);exact bad (by simp[Dj,hs]) _ _ rfl rfl rfl rfl rfl
  by_cases hl:ks.length<lo
  ·(refine Bx rfl<|Ae rfl<|Ah rfl<|Ab rfl<|Ah rfl<|Ab rfl<|Ah rfl<|AE rfl rfl<|Aw rfl rfl<|Aa<|Ax rfl (by omega)<|Ad<|BR rfl<|BR rfl ?_);refine BU 2 rfl rfl rfl rfl (by simp) rfl ?_;refine BU 1 rfl rfl rfl rfl (by simp) rfl ?_;(refine Al rfl<|Ab rfl<|Aa<|An ?_);exact bad (by simp only[Dj,hs];rw[←hlo];simp;omega) _ _ rfl rfl rfl rfl rfl
  ·(refine Bx rfl<|Ae rfl<|Ah rfl<|Ab rfl<|Ah rfl<|Ab rfl<|Ah rfl<|AE rfl rfl<|Aw rfl rfl<|Aa<|Ar rfl (by omega)<|Ak ?_);exact⟨rfl,rfl,rfl,rfl,rfl,by simp only[Dj,hs];rw[←hlo];simp;omega,rfl⟩
 rintro ρ d' L' ⟨hdd,e1,e2,e3,e6,hcan,hL⟩;subst hdd;subst hL;refine Dw [(1,pZ b),(2,pZ b2),(3,pZ b3),(6,vZ ks.length)] ⟨e1,e2,e3,e6,trivial⟩ ?_;have hps:∀i,i≤ks.length→Cw ⟨lf,ks,vs,is⟩ i≤1002000000000:=fun i hi=>by
  have h1:=Ld ⟨lf,ks,vs,is⟩ hi;have h2:=Aa8 ⟨lf,ks,vs,is⟩ ks.length;simp only[AY] at hz;omega
 have hkl:ks.length≥2:=by
  simp only[Dj,Adc,decide_eq_true_eq] at hcan;have:=hcan.2;split at this<;>omega
 (refine Ad<|O5<|FQ rfl<|Aa<|Ad<|Ab rfl<|Aa<|Af<|Ad<|Ab rfl<|Ab rfl<|Aa<|Ay ?_);refine C8 (α:=Nat) (fun i=>[(1,pZ b),(2,pZ b2),(3,pZ b3),(6,vZ ks.length),(8,.func (.func f2) #[] #[pZ b]),(9,vZ (Cw ⟨lf,ks,vs,is⟩ i:Nat)),(29,vZ ks.length),(30,vZ i)]) (fun _=>[bx b T [.bool lf,kv,vv,iv],bx b3 T3 [.bool false,.slice none 0 0,.slice none 0 0,.slice none 0 0],bx b2 T2 [.bool false,.slice none 0 0,.slice none 0 0,.slice none 0 0]])
  (fun i=>i≤ks.length) (fun i=>ks.length - i) 0 ⟨rfl,rfl,rfl,rfl,rfl,rfl,rfl,rfl,trivial⟩ rfl (Aej _) ?_
 rintro i ρ hi;have hpi:=hps i hi;(refine Ad<|AE rfl rfl<|Aa<|Af ?_);first|refine IL rfl (fun hc=>?_) (fun hc=>?_)|refine Mi rfl (fun hc=>?_) (fun hc=>?_)
 ·have hi1:i<ks.length:=by omega
  have hpi1:=hps (i+1) hi1;simp only[Cw] at hpi1;(refine Ak<|Af<|Ay<|Ad<|Ab rfl<|Ab rfl<|Aa<|AB<|Ab rfl<|FQ rfl<|Ab rfl ?_);refine MP 1 rfl rfl (h2 hn' hz i hi1) (fun r d2 L2 _ ⟨hr,hdd,hL⟩=>?_);subst hr;subst hdd;subst hL;(refine AL rfl rfl (by omega) (by omega)<|Ab rfl<|Aa<|AB<|AL rfl rfl (by omega) (by omega)<|Ab rfl<|Aa ?_);exact⟨i+1,by omega,⟨rfl,rfl,rfl,rfl,rfl,int_eq (by simp only[Cw];omega),rfl,int_eq (by omega),trivial⟩,rfl,rfl,hi1⟩
 obtain rfl:i=ks.length:=by omega
 apply Bg;apply Af;apply AB;(refine Ab rfl<|Ab rfl<|Aa ?_);refine Gc (fun ρ d' L'=>d=d'∧ρ 1=pZ b∧ρ 2=pZ b2∧ρ 3=pZ b3∧L'=[bx b T [.bool lf,kv,vv,iv],bx b3 T3 [.bool false,.slice none 0 0,.slice none 0 0,.slice none 0 0],bx b2 T2 [.bool false,.slice none 0 0,.slice none 0 0,.slice none 0 0]]∧∃a,ρ 11=vZ (a:Nat)∧a≤ks.length - 1∧atD ⟨lf,ks,vs,is⟩=a) ?_ ?_
 ·(apply Ay);refine C8 (α:=Nat) (fun i=>[(1,pZ b),(2,pZ b2),(3,pZ b3),(6,vZ ks.length),(8,.func (.func f2) #[] #[pZ b]),(9,vZ (Cw ⟨lf,ks,vs,is⟩ ks.length:Nat)),(11,vZ i),(12,vZ (Cw ⟨lf,ks,vs,is⟩ i:Nat))]) (fun _=>[bx b T [.bool lf,kv,vv,iv],bx b3 T3 [.bool false,.slice none 0 0,.slice none 0 0,.slice none 0 0],bx b2 T2 [.bool false,.slice none 0 0,.slice none 0 0,.slice none 0 0]])
   (fun i=>i≤ks.length - 1∧GQ ⟨lf,ks,vs,is⟩ (ks.length - i) i=atD ⟨lf,ks,vs,is⟩) (fun i=>ks.length - i) 0 ⟨rfl,rfl,rfl,rfl,rfl,rfl,rfl,rfl,trivial⟩ rfl ⟨Aej _,rfl⟩ ?_
  rintro a ρ ⟨ha,hat⟩;have hpa:=hps a (by omega);have hpl:=hps ks.length (Adi _);by_cases hc1:a<ks.length - 1
  ·by_cases hc2:2*Cw ⟨lf,ks,vs,is⟩ a<Cw ⟨lf,ks,vs,is⟩ ks.length
   ·have hpa1:=hps (a+1) (by omega);simp only[Cw] at hpa1;(refine Af<|Ad<|Ab rfl<|Ab rfl<|C6 rfl rfl (by omega) (by omega)<|AE rfl rfl<|Ae rfl<|Bp rfl (by omega)<|Ah rfl<|Ab rfl<|Ah rfl<|M4 rfl rfl (by omega) (by omega)<|Ah rfl<|Ab rfl<|Ah rfl<|AE rfl rfl<|AI rfl rfl<|Aa<|Ax rfl (by omega)<|Ak<|Ay<|Ad<|Ab rfl<|FQ rfl<|Ab rfl ?_);refine MP 1 rfl rfl (h2 hn' hz a (show a<ks.length by omega)) (fun r d2 L2 _ ⟨hr,hdd,hL⟩=>?_);subst hr;subst hdd;subst hL;(refine AL rfl rfl (by omega) (by omega)<|Ab rfl<|Aa<|AB<|Ab rfl<|AL rfl rfl (by omega) (by omega)<|Ab rfl<|Aa ?_);exact⟨a+1,by omega,⟨rfl,rfl,rfl,rfl,rfl,rfl,int_eq (by omega),int_eq (by simp only[Cw];omega),trivial⟩,rfl,rfl,by omega,WD _ hc1 hc2 hat⟩
   ·have hatd:=Q5 _ (fun h=>hc2 h.2) hat;(refine Af<|Ad<|Ab rfl<|Ab rfl<|C6 rfl rfl (by omega) (by omega)<|AE rfl rfl<|Ae rfl<|Bp rfl (by omega)<|Ah rfl<|Ab rfl<|Ah rfl<|M4 rfl rfl (by omega) (by omega)<|Ah rfl<|Ab rfl<|Ah rfl<|AE rfl rfl<|AI rfl rfl<|Aa<|Ar rfl (by omega)<|Bg ?_);exact⟨rfl,rfl,rfl,rfl,rfl,a,rfl,ha,hatd⟩
  ·have hatd:=Q5 _ (fun h=>hc1 h.1) hat;(refine Af<|Ad<|Ab rfl<|Ab rfl<|C6 rfl rfl (by omega) (by omega)<|AE rfl rfl<|Ae rfl<|Bf rfl (by omega)<|Aq rfl<|Aq rfl<|Aq rfl<|Aq rfl<|Aw rfl rfl<|Aa<|AS rfl<|Bg ?_);exact⟨rfl,rfl,rfl,rfl,rfl,a,rfl,ha,hatd⟩
 rintro ρ d' L' ⟨hdd,e1,e2,e3,hL,a,e10,ha,hatd⟩;subst hdd;subst hL;refine Dw [(1,pZ b),(2,pZ b2),(3,pZ b3),(11,vZ a)] ⟨e1,e2,e3,e10,trivial⟩ ?_;(refine Af<|Ad<|Ai rfl<|Ag rfl (Aj 0 rfl rfl)<|Aa ?_);first|refine IL rfl (fun hl=>?_) (fun hl=>?_)|refine Mi rfl (fun hl=>?_) (fun hl=>?_)
 ·subst hl;have hvl:vs.length=ks.length:=by
   simp only[Dj,A0,Adc,if_true,decide_eq_true_eq] at hcan;exact hcan.1.2.1.1
  (refine Af<|Bu<|Ai rfl<|Ag rfl (Aj 0 rfl rfl)<|Ab rfl<|Ab rfl ?_);refine MW rfl hk rfl rfl rfl rfl (show a≤ks.length by omega) (fun v1 hv1=>?_);(refine Ai rfl<|Ag rfl (Aj 0 rfl rfl)<|Ab rfl<|Ab rfl ?_);refine MW rfl hv rfl rfl rfl rfl (show a≤vs.length by omega) (fun v2 hv2=>?_);refine Bl rfl (h3 hv1 (by simp;omega)) (fun u1 d1 Lk _ ⟨hdd,o1⟩=>?_);subst hdd;refine Bl rfl (h3 hv2 (by simp;omega)) (fun u2 d2 Lv _ ⟨hdd,o2⟩=>?_);subst hdd;obtain⟨a1,c1,rfl⟩:=o1.val;obtain⟨a2,c2,rfl⟩:=o2.val;refine BR (cs:=[.bool true,.slice a1 (ks.take a).length c1,.slice a2 (vs.take a).length c2,.slice none 0 0]) rfl ?_;(apply Ch);refine BU 2 rfl rfl rfl rfl (by simp) rfl ?_;(refine Aa<|Af<|Bu<|Ai rfl<|Ag rfl (Aj 0 rfl rfl)<|Ab rfl ?_);refine EU rfl hk rfl rfl (show a≤ks.length by omega) (fun v3 hv3=>?_);(refine Ai rfl<|Ag rfl (Aj 0 rfl rfl)<|Ab rfl ?_);refine EU rfl hv rfl rfl (show a≤vs.length by omega) (fun v4 hv4=>?_);refine Bl rfl (h3 hv3 (by simp;omega)) (fun u3 d3 Rk _ ⟨hdd,o3⟩=>?_);subst hdd;refine Bl rfl (h3 hv4 (by simp;omega)) (fun u4 d4 Rv _ ⟨hdd,o4⟩=>?_);subst hdd;obtain⟨a3,c3,rfl⟩:=o3.val;obtain⟨a4,c4,rfl⟩:=o4.val;refine BR (cs:=[.bool true,.slice a3 (ks.drop a).length c3,.slice a4 (vs.drop a).length c4,.slice none 0 0]) rfl ?_;(apply Ch);refine BU 1 rfl rfl rfl rfl (by simp) rfl ?_;have hk1:a<ks.length:=by omega
  (refine Aa<|Af ?_);refine Bv [bx b T [.bool true,kv,vv,iv]] (bx b3 T3 [.bool true,.slice a3 (ks.drop a).length c3,.slice a4 (vs.drop a).length c4,.slice none 0 0]::bx b2 T2 [.bool true,.slice a1 (ks.take a).length c1,.slice a2 (vs.take a).length c2,.slice none 0 0]::(Lv++(Lk++[])++(Rv++(Rk++[])))) rfl ?_;(refine Ai rfl<|Ag rfl (Aj 0 rfl rfl)<|Ab rfl<|BM (sz:=1) (R:=RBs) (by rfl) (by assumption) (by rfl) rfl (by omega) ?_;rintro _ _ _ _ _ ⟨_,rfl,_⟩;apply Ag;rfl;exact B4 (by assumption) rfl);rename_i w5 hw5 _ _;have hxl:(ks[a]).length*1≤140737488355328:=by have:=AM.B3 hw5;omega
  have hvs:∀(d:Ac) (g:Ac),Vs d (bx b T [.bool true,kv,vv,iv]::g::bx b3 T3 [.bool true,.slice a3 (ks.drop a).length c3,.slice a4 (vs.drop a).length c4,.slice none 0 0]::bx b2 T2 [.bool true,.slice a1 (ks.take a).length c1,.slice a2 (vs.take a).length c2,.slice none 0 0]::(Lv++(Lk++[])++(Rv++(Rk++[])))) d ((Lk++Lv++[emp])++(Rk++Rv++[emp])++[g]):=fun d g=>
   (Vs.emp.trans Vs.emp).trans (by simpa [Adf] using Vs.V4 [[emp],[emp],[bx b T [.bool true,kv,vv,iv]],[g],[bx b3 T3 [.bool true,.slice a3 (ks.drop a).length c3,.slice a4 (vs.drop a).length c4,.slice none 0 0]],[bx b2 T2 [.bool true,.slice a1 (ks.take a).length c1,.slice a2 (vs.take a).length c2,.slice none 0 0]],Lv,Lk,Rv,Rk] [7,6,0,9,8,1,3] [2,4,5] rfl)
  refine EK ?_ ?_
  ·apply Bh 2;rfl;rfl;rfl;refine EK ?_ ?_
   ·apply Bh 1;rfl;rfl;rfl;refine Bl rfl (h4 (xs:=ks[a]) hw5 hxl) (fun u5 d5 Lg _ ⟨hdd,g,hLg,hg⟩=>?_);subst hdd;subst hLg;refine BU 2 rfl rfl rfl rfl (by simp) rfl ?_;refine BU 1 rfl rfl rfl rfl (by simp) rfl ?_;apply AJ;apply Ab;rfl;apply A9;apply An;refine Bd [.agg [.bool true,.slice a1 (ks.take a).length c1,.slice a2 (vs.take a).length c2,.slice none 0 0].toArray,.agg [.bool true,.slice a3 (ks.drop a).length c3,.slice a4 (vs.drop a).length c4,.slice none 0 0].toArray,u5,vZ 0] (L':=(Lk++Lv++[emp])++(Rk++Rv++[emp])++[g]) ⟨AV 3 rfl rfl rfl,AV 2 rfl rfl rfl,As rfl,As rfl,trivial⟩ (hvs _ g) ⟨rfl,_,_,_,_,_,g,by rw[hcan];rfl,rfl,?_⟩;simp only[AZ,Bc,BD,hcan,if_true,hatd];exact⟨⟨_,_,_,Lk,Lv,emp,rfl,o1,o2,Ap.nil,rfl⟩,⟨_,_,_,Rk,Rv,emp,rfl,o3,o4,Ap.nil,rfl⟩,by simpa [hk1] using hg⟩
   ·refine Bl rfl (h4 (xs:=ks[a]) hw5 hxl) (fun u5 d5 Lg _ ⟨hdd,g,hLg,hg⟩=>?_);subst hdd;subst hLg;refine EK ?_ ?_
    ·apply Bh 2;rfl;rfl;rfl;refine BU 2 rfl rfl rfl rfl (by simp) rfl ?_;refine BU 1 rfl rfl rfl rfl (by simp) rfl ?_;apply AJ;apply Ab;rfl;apply A9;apply An;refine Bd [.agg [.bool true,.slice a1 (ks.take a).length c1,.slice a2 (vs.take a).length c2,.slice none 0 0].toArray,.agg [.bool true,.slice a3 (ks.drop a).length c3,.slice a4 (vs.drop a).length c4,.slice none 0 0].toArray,u5,vZ 0] (L':=(Lk++Lv++[emp])++(Rk++Rv++[emp])++[g]) ⟨AV 3 rfl rfl rfl,AV 2 rfl rfl rfl,As rfl,As rfl,trivial⟩ (hvs _ g) ⟨rfl,_,_,_,_,_,g,by rw[hcan];rfl,rfl,?_⟩;simp only[AZ,Bc,BD,hcan,if_true,hatd];exact⟨⟨_,_,_,Lk,Lv,emp,rfl,o1,o2,Ap.nil,rfl⟩,⟨_,_,_,Rk,Rv,emp,rfl,o3,o4,Ap.nil,rfl⟩,by simpa [hk1] using hg⟩
    ·refine BU 2 rfl rfl rfl rfl (by simp) rfl ?_;apply Bh 2;rfl;rfl;rfl;refine BU 1 rfl rfl rfl rfl (by simp) rfl ?_;apply AJ;apply Ab;rfl;apply A9;apply An;refine Bd [.agg [.bool true,.slice a1 (ks.take a).length c1,.slice a2 (vs.take a).length c2,.slice none 0 0].toArray,.agg [.bool true,.slice a3 (ks.drop a).length c3,.slice a4 (vs.drop a).length c4,.slice none 0 0].toArray,u5,vZ 0] (L':=(Lk++Lv++[emp])++(Rk++Rv++[emp])++[g]) ⟨AV 3 rfl rfl rfl,AV 2 rfl rfl rfl,As rfl,As rfl,trivial⟩ (hvs _ g) ⟨rfl,_,_,_,_,_,g,by rw[hcan];rfl,rfl,?_⟩;simp only[AZ,Bc,BD,hcan,if_true,hatd];exact⟨⟨_,_,_,Lk,Lv,emp,rfl,o1,o2,Ap.nil,rfl⟩,⟨_,_,_,Rk,Rv,emp,rfl,o3,o4,Ap.nil,rfl⟩,by simpa [hk1] using hg⟩
  ·refine EK ?_ ?_
   ·apply Bh 1;rfl;rfl;rfl;refine EK ?_ ?_
    ·apply Bh 2;rfl;rfl;rfl;refine Bl rfl (h4 (xs:=ks[a]) hw5 hxl) (fun u5 d5 Lg _ ⟨hdd,g,hLg,hg⟩=>?_);subst hdd;subst hLg;refine BU 2 rfl rfl rfl rfl (by simp) rfl ?_;refine BU 1 rfl rfl rfl rfl (by simp) rfl ?_;apply AJ;apply Ab;rfl;apply A9;apply An;refine Bd [.agg [.bool true,.slice a1 (ks.take a).length c1,.slice a2 (vs.take a).length c2,.slice none 0 0].toArray,.agg [.bool true,.slice a3 (ks.drop a).length c3,.slice a4 (vs.drop a).length c4,.slice none 0 0].toArray,u5,vZ 0] (L':=(Lk++Lv++[emp])++(Rk++Rv++[emp])++[g]) ⟨AV 3 rfl rfl rfl,AV 2 rfl rfl rfl,As rfl,As rfl,trivial⟩ (hvs _ g) ⟨rfl,_,_,_,_,_,g,by rw[hcan];rfl,rfl,?_⟩;simp only[AZ,Bc,BD,hcan,if_true,hatd];exact⟨⟨_,_,_,Lk,Lv,emp,rfl,o1,o2,Ap.nil,rfl⟩,⟨_,_,_,Rk,Rv,emp,rfl,o3,o4,Ap.nil,rfl⟩,by simpa [hk1] using hg⟩
    ·refine Bl rfl (h4 (xs:=ks[a]) hw5 hxl) (fun u5 d5 Lg _ ⟨hdd,g,hLg,hg⟩=>?_);subst hdd;subst hLg;apply Bh 3;rfl;rfl;rfl;refine BU 2 rfl rfl rfl rfl (by simp) rfl ?_;refine BU 1 rfl rfl rfl rfl (by simp) rfl ?_;apply AJ;apply Ab;rfl;apply A9;apply An;refine Bd [.agg [.bool true,.slice a1 (ks.take a).length c1,.slice a2 (vs.take a).length c2,.slice none 0 0].toArray,.agg [.bool true,.slice a3 (ks.drop a).length c3,.slice a4 (vs.drop a).length c4,.slice none 0 0].toArray,u5,vZ 0] (L':=(Lk++Lv++[emp])++(Rk++Rv++[emp])++[g]) ⟨AV 3 rfl rfl rfl,AV 2 rfl rfl rfl,As rfl,As rfl,trivial⟩ (hvs _ g) ⟨rfl,_,_,_,_,_,g,by rw[hcan];rfl,rfl,?_⟩;simp only[AZ,Bc,BD,hcan,if_true,hatd];exact⟨⟨_,_,_,Lk,Lv,emp,rfl,o1,o2,Ap.nil,rfl⟩,⟨_,_,_,Rk,Rv,emp,rfl,o3,o4,Ap.nil,rfl⟩,by simpa [hk1] using hg⟩
   ·refine Bl rfl (h4 (xs:=ks[a]) hw5 hxl) (fun u5 d5 Lg _ ⟨hdd,g,hLg,hg⟩=>?_);subst hdd;subst hLg;refine EK ?_ ?_
    ·apply Bh 3;rfl;rfl;rfl;refine EK ?_ ?_
     ·apply Bh 2;rfl;rfl;rfl;refine BU 2 rfl rfl rfl rfl (by simp) rfl ?_;refine BU 1 rfl rfl rfl rfl (by simp) rfl ?_;apply AJ;apply Ab;rfl;apply A9;apply An;refine Bd [.agg [.bool true,.slice a1 (ks.take a).length c1,.slice a2 (vs.take a).length c2,.slice none 0 0].toArray,.agg [.bool true,.slice a3 (ks.drop a).length c3,.slice a4 (vs.drop a).length c4,.slice none 0 0].toArray,u5,vZ 0] (L':=(Lk++Lv++[emp])++(Rk++Rv++[emp])++[g]) ⟨AV 3 rfl rfl rfl,AV 2 rfl rfl rfl,As rfl,As rfl,trivial⟩ (hvs _ g) ⟨rfl,_,_,_,_,_,g,by rw[hcan];rfl,rfl,?_⟩;simp only[AZ,Bc,BD,hcan,if_true,hatd];exact⟨⟨_,_,_,Lk,Lv,emp,rfl,o1,o2,Ap.nil,rfl⟩,⟨_,_,_,Rk,Rv,emp,rfl,o3,o4,Ap.nil,rfl⟩,by simpa [hk1] using hg⟩
     ·refine BU 2 rfl rfl rfl rfl (by simp) rfl ?_;apply Bh 2;rfl;rfl;rfl;refine BU 1 rfl rfl rfl rfl (by simp) rfl ?_;apply AJ;apply Ab;rfl;apply A9;apply An;refine Bd [.agg [.bool true,.slice a1 (ks.take a).length c1,.slice a2 (vs.take a).length c2,.slice none 0 0].toArray,.agg [.bool true,.slice a3 (ks.drop a).length c3,.slice a4 (vs.drop a).length c4,.slice none 0 0].toArray,u5,vZ 0] (L':=(Lk++Lv++[emp])++(Rk++Rv++[emp])++[g]) ⟨AV 3 rfl rfl rfl,AV 2 rfl rfl rfl,As rfl,As rfl,trivial⟩ (hvs _ g) ⟨rfl,_,_,_,_,_,g,by rw[hcan];rfl,rfl,?_⟩;simp only[AZ,Bc,BD,hcan,if_true,hatd];exact⟨⟨_,_,_,Lk,Lv,emp,rfl,o1,o2,Ap.nil,rfl⟩,⟨_,_,_,Rk,Rv,emp,rfl,o3,o4,Ap.nil,rfl⟩,by simpa [hk1] using hg⟩
    ·apply Bh 2;rfl;rfl;rfl;apply Bh 3;rfl;rfl;rfl;refine BU 2 rfl rfl rfl rfl (by simp) rfl ?_;refine BU 1 rfl rfl rfl rfl (by simp) rfl ?_;apply AJ;apply Ab;rfl;apply A9;apply An;refine Bd [.agg [.bool true,.slice a1 (ks.take a).length c1,.slice a2 (vs.take a).length c2,.slice none 0 0].toArray,.agg [.bool true,.slice a3 (ks.drop a).length c3,.slice a4 (vs.drop a).length c4,.slice none 0 0].toArray,u5,vZ 0] (L':=(Lk++Lv++[emp])++(Rk++Rv++[emp])++[g]) ⟨AV 3 rfl rfl rfl,AV 2 rfl rfl rfl,As rfl,As rfl,trivial⟩ (hvs _ g) ⟨rfl,_,_,_,_,_,g,by rw[hcan];rfl,rfl,?_⟩;simp only[AZ,Bc,BD,hcan,if_true,hatd];exact⟨⟨_,_,_,Lk,Lv,emp,rfl,o1,o2,Ap.nil,rfl⟩,⟨_,_,_,Rk,Rv,emp,rfl,o3,o4,Ap.nil,rfl⟩,by simpa [hk1] using hg⟩
 ·subst hl;have hil:is.length=ks.length+1:=by
   simp only[Dj,A0,Adc,Adk,if_false,decide_eq_true_eq] at hcan;exact hcan.1.2.1.2
  have hk3:3≤ks.length:=by
   simp only[Dj,Adc,Adk,if_false,decide_eq_true_eq] at hcan;exact hcan.2
  apply Ak;refine Gc (fun ρ d' L'=>d=d'∧ρ 1=pZ b∧ρ 2=pZ b2∧ρ 3=pZ b3∧L'=[bx b T [.bool false,kv,vv,iv],bx b3 T3 [.bool false,.slice none 0 0,.slice none 0 0,.slice none 0 0],bx b2 T2 [.bool false,.slice none 0 0,.slice none 0 0,.slice none 0 0]]∧ρ 11=vZ (at2 ⟨false,ks,vs,is⟩:Nat)) ?_ ?_
  ·(refine AB<|Ab rfl<|Z0 rfl rfl<|Ab rfl<|Aa ?_);exact⟨rfl,rfl,rfl,rfl,rfl,int_eq (by simp only[at2,hatd];omega)⟩
  rintro ρ d' L' ⟨hdd,e1,e2,e3,hL,e10⟩;subst hdd;subst hL;refine Dw [(1,pZ b),(2,pZ b2),(3,pZ b3),(11,vZ (at2 ⟨false,ks,vs,is⟩:Nat))] ⟨e1,e2,e3,e10,trivial⟩ ?_;obtain⟨m,hm⟩:∃m,at2 ⟨false,ks,vs,is⟩=m+1:=⟨at2 ⟨false,ks,vs,is⟩ - 1,by simp only[at2];omega⟩
  have hm2:m+1≤ks.length - 1:=by rw[←hm];simp only[at2,hatd];omega
  rw[hm];(refine Af<|Bu<|Ai rfl<|Ag rfl (Aj 0 rfl rfl)<|Ab rfl<|C6 rfl rfl (by omega) (by omega)<|Ab rfl<|C6 rfl rfl (by omega) (by omega) ?_);refine MW rfl hk rfl rfl (show((m+1:Nat):Int) - 1=(m:Int) by omega) (show((m+1:Nat):Int) - 1=(m:Int) by omega) (show m≤ks.length by omega) (fun v1 hv1=>?_);(refine Ai rfl<|Ag rfl (Aj 0 rfl rfl)<|Ab rfl<|Ab rfl ?_);refine MW rfl hiv rfl rfl rfl rfl (show m+1≤is.length by omega) (fun v2 hv2=>?_);refine Bl rfl (h3 hv1 (by simp;omega)) (fun u1 d1 Lk _ ⟨hdd,o1⟩=>?_);subst hdd;refine Bl rfl (h5 hv2 (by simp;omega)) (fun u2 d2 Lgl _ ⟨hdd,gl,hLgl,o2⟩=>?_);subst hdd;subst hLgl;obtain⟨a1,c1,rfl⟩:=o1.val;obtain⟨a2,c2,rfl⟩:=o2.val;refine BR (cs:=[.bool false,.slice a1 (ks.take m).length c1,.slice none 0 0,.slice a2 (is.take (m+1)).length c2]) rfl ?_;(apply Ch);refine BU 2 rfl rfl rfl rfl (by simp) rfl ?_;(refine Aa<|Af<|Bu<|Ai rfl<|Ag rfl (Aj 0 rfl rfl)<|Ab rfl ?_);refine EU rfl hk rfl rfl (show m+1≤ks.length by omega) (fun v3 hv3=>?_);(refine Ai rfl<|Ag rfl (Aj 0 rfl rfl)<|Ab rfl ?_);refine EU rfl hiv rfl rfl (show m+1≤is.length by omega) (fun v4 hv4=>?_);refine Bl rfl (h3 hv3 (by simp;omega)) (fun u3 d3 Rk _ ⟨hdd,o3⟩=>?_);subst hdd;refine Bl rfl (h5 hv4 (by simp;omega)) (fun u4 d4 Lgr _ ⟨hdd,gr,hLgr,o4⟩=>?_);subst hdd;subst hLgr;obtain⟨a3,c3,rfl⟩:=o3.val;obtain⟨a4,c4,rfl⟩:=o4.val;refine BR (cs:=[.bool false,.slice a3 (ks.drop (m+1)).length c3,.slice none 0 0,.slice a4 (is.drop (m+1)).length c4]) rfl ?_;(apply Ch);refine BU 1 rfl rfl rfl rfl (by simp) rfl ?_;have hk1:m<ks.length:=by omega
  (refine Aa<|Af ?_);refine Bv [bx b T [.bool false,kv,vv,iv]] (bx b3 T3 [.bool false,.slice a3 (ks.drop (m+1)).length c3,.slice none 0 0,.slice a4 (is.drop (m+1)).length c4]::bx b2 T2 [.bool false,.slice a1 (ks.take m).length c1,.slice none 0 0,.slice a2 (is.take (m+1)).length c2]::((gl::(Lk++[]))++(gr::(Rk++[])))) rfl ?_;(refine Ai rfl<|Ag rfl (Aj 0 rfl rfl)<|Ab rfl<|C6 rfl rfl (by omega) (by omega) ?_);refine BM (sz:=1) (R:=RBs) (m:=m) rfl hk rfl (by omega) hk1 ?_;rintro b5 o5 _ _ hD5 ⟨w5,rfl,hw5⟩;(apply Ag;rfl;exact B4 (by assumption) rfl);have hxl:(ks[m]).length*1≤140737488355328:=by have:=AM.B3 hw5;omega
  have hvs:∀(d:Ac) (g:Ac),Vs d (bx b T [.bool false,kv,vv,iv]::g::bx b3 T3 [.bool false,.slice a3 (ks.drop (m+1)).length c3,.slice none 0 0,.slice a4 (is.drop (m+1)).length c4]::bx b2 T2 [.bool false,.slice a1 (ks.take m).length c1,.slice none 0 0,.slice a2 (is.take (m+1)).length c2]::((gl::(Lk++[]))++(gr::(Rk++[])))) d ((Lk++[emp]++[gl])++(Rk++[emp]++[gr])++[g]):=fun d g=>
   (Vs.emp.trans Vs.emp).trans (by simpa [Adf] using Vs.V4 [[emp],[emp],[bx b T [.bool false,kv,vv,iv]],[g],[bx b3 T3 [.bool false,.slice a3 (ks.drop (m+1)).length c3,.slice none 0 0,.slice a4 (is.drop (m+1)).length c4]],[bx b2 T2 [.bool false,.slice a1 (ks.take m).length c1,.slice none 0 0,.slice a2 (is.take (m+1)).length c2]],[gl],Lk,[gr],Rk] [7,0,6,9,1,8,3] [2,4,5] rfl)
  refine EK ?_ ?_
  ·apply Bh 2;rfl;rfl;rfl;refine EK ?_ ?_
   ·apply Bh 1;rfl;rfl;rfl;refine Bl rfl (h4 (xs:=ks[m]) hw5 hxl) (fun u5 d5 Lg _ ⟨hdd,g,hLg,hg⟩=>?_);subst hdd;subst hLg;refine BU 2 rfl rfl rfl rfl (by simp) rfl ?_;refine BU 1 rfl rfl rfl rfl (by simp) rfl ?_;apply AJ;apply Ab;rfl;apply A9;apply An;refine Bd [.agg [.bool false,.slice a1 (ks.take m).length c1,.slice none 0 0,.slice a2 (is.take (m+1)).length c2].toArray,.agg [.bool false,.slice a3 (ks.drop (m+1)).length c3,.slice none 0 0,.slice a4 (is.drop (m+1)).length c4].toArray,u5,vZ 0] (L':=(Lk++[emp]++[gl])++(Rk++[emp]++[gr])++[g]) ⟨AV 3 rfl rfl rfl,AV 2 rfl rfl rfl,As rfl,As rfl,trivial⟩ (hvs _ g) ⟨rfl,_,_,_,_,_,g,by rw[hcan];rfl,rfl,?_⟩;simp only[AZ,Bc,BD,hcan,if_true,hm,Adk,if_false,Afw];exact⟨⟨_,_,_,Lk,[emp],gl,rfl,o1,Ds.nil,o2,rfl⟩,⟨_,_,_,Rk,[emp],gr,rfl,o3,Ds.nil,o4,rfl⟩,by simpa [hk1] using hg⟩
   ·refine Bl rfl (h4 (xs:=ks[m]) hw5 hxl) (fun u5 d5 Lg _ ⟨hdd,g,hLg,hg⟩=>?_);subst hdd;subst hLg;refine EK ?_ ?_
    ·apply Bh 2;rfl;rfl;rfl;refine BU 2 rfl rfl rfl rfl (by simp) rfl ?_;refine BU 1 rfl rfl rfl rfl (by simp) rfl ?_;apply AJ;apply Ab;rfl;apply A9;apply An;refine Bd [.agg [.bool false,.slice a1 (ks.take m).length c1,.slice none 0 0,.slice a2 (is.take (m+1)).length c2].toArray,.agg [.bool false,.slice a3 (ks.drop (m+1)).length c3,.slice none 0 0,.slice a4 (is.drop (m+1)).length c4].toArray,u5,vZ 0] (L':=(Lk++[emp]++[gl])++(Rk++[emp]++[gr])++[g]) ⟨AV 3 rfl rfl rfl,AV 2 rfl rfl rfl,As rfl,As rfl,trivial⟩ (hvs _ g) ⟨rfl,_,_,_,_,_,g,by rw[hcan];rfl,rfl,?_⟩;simp only[AZ,Bc,BD,hcan,if_true,hm,Adk,if_false,Afw];exact⟨⟨_,_,_,Lk,[emp],gl,rfl,o1,Ds.nil,o2,rfl⟩,⟨_,_,_,Rk,[emp],gr,rfl,o3,Ds.nil,o4,rfl⟩,by simpa [hk1] using hg⟩
    ·refine BU 2 rfl rfl rfl rfl (by simp) rfl ?_;apply Bh 2;rfl;rfl;rfl;refine BU 1 rfl rfl rfl rfl (by simp) rfl ?_;apply AJ;apply Ab;rfl;apply A9;apply An;refine Bd [.agg [.bool false,.slice a1 (ks.take m).length c1,.slice none 0 0,.slice a2 (is.take (m+1)).length c2].toArray,.agg [.bool false,.slice a3 (ks.drop (m+1)).length c3,.slice none 0 0,.slice a4 (is.drop (m+1)).length c4].toArray,u5,vZ 0] (L':=(Lk++[emp]++[gl])++(Rk++[emp]++[gr])++[g]) ⟨AV 3 rfl rfl rfl,AV 2 rfl rfl rfl,As rfl,As rfl,trivial⟩ (hvs _ g) ⟨rfl,_,_,_,_,_,g,by rw[hcan];rfl,rfl,?_⟩;simp only[AZ,Bc,BD,hcan,if_true,hm,Adk,if_false,Afw];exact⟨⟨_,_,_,Lk,[emp],gl,rfl,o1,Ds.nil,o2,rfl⟩,⟨_,_,_,Rk,[emp],gr,rfl,o3,Ds.nil,o4,rfl⟩,by simpa [hk1] using hg⟩
  ·refine EK ?_ ?_
   ·apply Bh 1;rfl;rfl;rfl;refine EK ?_ ?_
    ·apply Bh 2;rfl;rfl;rfl;refine Bl rfl (h4 (xs:=ks[m]) hw5 hxl) (fun u5 d5 Lg _ ⟨hdd,g,hLg,hg⟩=>?_);subst hdd;subst hLg;refine BU 2 rfl rfl rfl rfl (by simp) rfl ?_;refine BU 1 rfl rfl rfl rfl (by simp) rfl ?_;apply AJ;apply Ab;rfl;apply A9;apply An;refine Bd [.agg [.bool false,.slice a1 (ks.take m).length c1,.slice none 0 0,.slice a2 (is.take (m+1)).length c2].toArray,.agg [.bool false,.slice a3 (ks.drop (m+1)).length c3,.slice none 0 0,.slice a4 (is.drop (m+1)).length c4].toArray,u5,vZ 0] (L':=(Lk++[emp]++[gl])++(Rk++[emp]++[gr])++[g]) ⟨AV 3 rfl rfl rfl,AV 2 rfl rfl rfl,As rfl,As rfl,trivial⟩ (hvs _ g) ⟨rfl,_,_,_,_,_,g,by rw[hcan];rfl,rfl,?_⟩;simp only[AZ,Bc,BD,hcan,if_true,hm,Adk,if_false,Afw];exact⟨⟨_,_,_,Lk,[emp],gl,rfl,o1,Ds.nil,o2,rfl⟩,⟨_,_,_,Rk,[emp],gr,rfl,o3,Ds.nil,o4,rfl⟩,by simpa [hk1] using hg⟩
    ·refine Bl rfl (h4 (xs:=ks[m]) hw5 hxl) (fun u5 d5 Lg _ ⟨hdd,g,hLg,hg⟩=>?_);subst hdd;subst hLg;apply Bh 3;rfl;rfl;rfl;refine BU 2 rfl rfl rfl rfl (by simp) rfl ?_;refine BU 1 rfl rfl rfl rfl (by simp) rfl ?_;apply AJ;apply Ab;rfl;apply A9;apply An;refine Bd [.agg [.bool false,.slice a1 (ks.take m).length c1,.slice none 0 0,.slice a2 (is.take (m+1)).length c2].toArray,.agg [.bool false,.slice a3 (ks.drop (m+1)).length c3,.slice none 0 0,.slice a4 (is.drop (m+1)).length c4].toArray,u5,vZ 0] (L':=(Lk++[emp]++[gl])++(Rk++[emp]++[gr])++[g]) ⟨AV 3 rfl rfl rfl,AV 2 rfl rfl rfl,As rfl,As rfl,trivial⟩ (hvs _ g) ⟨rfl,_,_,_,_,_,g,by rw[hcan];rfl,rfl,?_⟩;simp only[AZ,Bc,BD,hcan,if_true,hm,Adk,if_false,Afw];exact⟨⟨_,_,_,Lk,[emp],gl,rfl,o1,Ds.nil,o2,rfl⟩,⟨_,_,_,Rk,[emp],gr,rfl,o3,Ds.nil,o4,rfl⟩,by simpa [hk1] using hg⟩
   ·refine Bl rfl (h4 (xs:=ks[m]) hw5 hxl) (fun u5 d5 Lg _ ⟨hdd,g,hLg,hg⟩=>?_);subst hdd;subst hLg;refine EK ?_ ?_
    ·apply Bh 3;rfl;rfl;rfl;refine EK ?_ ?_
     ·apply Bh 2;rfl;rfl;rfl;refine BU 2 rfl rfl rfl rfl (by simp) rfl ?_;refine BU 1 rfl rfl rfl rfl (by simp) rfl ?_;apply AJ;apply Ab;rfl;apply A9;apply An;refine Bd [.agg [.bool false,.slice a1 (ks.take m).length c1,.slice none 0 0,.slice a2 (is.take (m+1)).length c2].toArray,.agg [.bool false,.slice a3 (ks.drop (m+1)).length c3,.slice none 0 0,.slice a4 (is.drop (m+1)).length c4].toArray,u5,vZ 0] (L':=(Lk++[emp]++[gl])++(Rk++[emp]++[gr])++[g]) ⟨AV 3 rfl rfl rfl,AV 2 rfl rfl rfl,As rfl,As rfl,trivial⟩ (hvs _ g) ⟨rfl,_,_,_,_,_,g,by rw[hcan];rfl,rfl,?_⟩;simp only[AZ,Bc,BD,hcan,if_true,hm,Adk,if_false,Afw];exact⟨⟨_,_,_,Lk,[emp],gl,rfl,o1,Ds.nil,o2,rfl⟩,⟨_,_,_,Rk,[emp],gr,rfl,o3,Ds.nil,o4,rfl⟩,by simpa [hk1] using hg⟩
     ·refine BU 2 rfl rfl rfl rfl (by simp) rfl ?_;apply Bh 2;rfl;rfl;rfl;refine BU 1 rfl rfl rfl rfl (by simp) rfl ?_;apply AJ;apply Ab;rfl;apply A9;apply An;refine Bd [.agg [.bool false,.slice a1 (ks.take m).length c1,.slice none 0 0,.slice a2 (is.take (m+1)).length c2].toArray,.agg [.bool false,.slice a3 (ks.drop (m+1)).length c3,.slice none 0 0,.slice a4 (is.drop (m+1)).length c4].toArray,u5,vZ 0] (L':=(Lk++[emp]++[gl])++(Rk++[emp]++[gr])++[g]) ⟨AV 3 rfl rfl rfl,AV 2 rfl rfl rfl,As rfl,As rfl,trivial⟩ (hvs _ g) ⟨rfl,_,_,_,_,_,g,by rw[hcan];rfl,rfl,?_⟩;simp only[AZ,Bc,BD,hcan,if_true,hm,Adk,if_false,Afw];exact⟨⟨_,_,_,Lk,[emp],gl,rfl,o1,Ds.nil,o2,rfl⟩,⟨_,_,_,Rk,[emp],gr,rfl,o3,Ds.nil,o4,rfl⟩,by simpa [hk1] using hg⟩
    ·apply Bh 2;rfl;rfl;rfl;apply Bh 3;rfl;rfl;rfl;refine BU 2 rfl rfl rfl rfl (by simp) rfl ?_;refine BU 1 rfl rfl rfl rfl (by simp) rfl ?_;apply AJ;apply Ab;rfl;apply A9;apply An;refine Bd [.agg [.bool false,.slice a1 (ks.take m).length c1,.slice none 0 0,.slice a2 (is.take (m+1)).length c2].toArray,.agg [.bool false,.slice a3 (ks.drop (m+1)).length c3,.slice none 0 0,.slice a4 (is.drop (m+1)).length c4].toArray,u5,vZ 0] (L':=(Lk++[emp]++[gl])++(Rk++[emp]++[gr])++[g]) ⟨AV 3 rfl rfl rfl,AV 2 rfl rfl rfl,As rfl,As rfl,trivial⟩ (hvs _ g) ⟨rfl,_,_,_,_,_,g,by rw[hcan];rfl,rfl,?_⟩;simp only[AZ,Bc,BD,hcan,if_true,hm,Adk,if_false,Afw];exact⟨⟨_,_,_,Lk,[emp],gl,rfl,o1,Ds.nil,o2,rfl⟩,⟨_,_,_,Rk,[emp],gr,rfl,o3,Ds.nil,o4,rfl⟩,by simpa [hk1] using hg⟩
end Go.Gk.Node
end
section
namespace Go.Gk.Node
open Go Go.Gk
section
attribute [local irreducible] gwp gws
end
end Go.Gk.Node
end
section
namespace Go.Gk.Node
open Go Go.Gk
attribute [local irreducible] gwp gws
variable{f f1:FuncId}{lf:Bool}
def F8(P:Program)(f:FuncId):Prop:=∀{d}{b:Nat}{T v l},AM d v l→∀n:Nat,n≤255→
 Av P f [pZ b,vZ n] d [bx b T [v]] (Ret fun r d' L'=>d'=d∧((l.length<n∧r=.tuple #[.slice none 0 0,.bool false]∧L'=[bx b T [v]])∨
  (n≤l.length∧∃u v' g,r=.tuple #[u,.bool true]∧L'=[g,bx b T [v']]∧Ap 1 AP d u (l.take n) g∧AM d v' (l.drop n))))
def TW(a0:Nat):A5:=⟨27,[(.tmp 4),(.tmp 5)],(sR (o1 4 (.mv nS)<|o1 5 (.mv (.const (.bool false))) .done) (.seq (sR (om 7 1<|om 8 0<|o1 9 (.nilc 8)<|ol 10 9<|oL 11 10<|ob 12 .gtr 7 11 .done) (.cond 12 (sR (o1 4 (.mv nS)<|o1 5 (.mv (.const (.bool false))) .done) .ret) .skip)) (sR (om 13 0<|o1 14 (.nilc 13)<|ol 15 14<|om 16 1<|o1 17 (.sl 1 15 none (some 16) none)<|oc 18 a0 [17]<|om 6 18 .done) (sR (om 19 0<|om 20 0<|o1 21 (.nilc 20)<|ol 22 21<|om 23 1<|o1 24 (.sl 1 22 (some 23) none none)<|o1 25 (.nilc 19)<|o0 (.st 1 25 24) .done) (sR (om 26 6<|om 4 26<|o1 5 (.mv (.const (.bool true))) .done) .ret)))))⟩
def PT{P}(hd:dec P f=some (TW f1))(h1:Ef AP 1 P f1):F8 P f:=by
 intro d b T v l hv n hn;have hll:=AM.B3 hv;refine AF hd (Ada rfl) ?_;show gwp P _ _ _ _ _;(refine Ad<|Al rfl<|Ae rfl<|Aa<|Af<|Ad<|Ab rfl<|Am rfl<|Au rfl<|Ag rfl (Aj 0 rfl rfl)<|BL rfl (by assumption)<|BW rfl rfl<|Aa ?_);first|refine IL rfl (fun hc=>?_) (fun hc=>?_)|refine Mi rfl (fun hc=>?_) (fun hc=>?_)
 ·(refine Ad<|Al rfl<|Ae rfl<|Aa<|An ?_);exact CO (L':=[bx b T [v]]) rfl rfl (Adb _) ⟨rfl,.inl ⟨by omega,rfl,rfl⟩⟩
 ·(refine Ak<|Ad<|Am rfl<|Au rfl<|Ag rfl (Aj 0 rfl rfl)<|Ab rfl ?_);refine Po rfl hv rfl rfl (show n≤l.length by omega) (fun v1 hv1=>?_);refine Bl rfl (h1 hv1 (by simp;omega)) (fun u d1 L1 _ ⟨hdd,g,hL,hg⟩=>?_);subst hdd;subst hL;(refine AJ<|Aa<|Ad<|Am rfl<|Am rfl<|Au rfl<|Ag rfl (Aj 1 rfl rfl)<|Ab rfl ?_);refine EU rfl hv rfl rfl (show n≤l.length by omega) (fun v2 hv2=>?_);obtain⟨a2,c2,rfl⟩:=RSl.val hv2;(apply Au;rfl);refine BU 1 rfl rfl rfl rfl (by simp) rfl ?_;(refine Aa<|Ad<|AJ<|AJ<|Ae rfl<|Aa<|An ?_);exact CO (L':=[g,bx b T [.slice a2 (l.drop n).length c2]]) rfl rfl (Adb _) ⟨rfl,.inr ⟨by omega,_,_,_,rfl,rfl,hg,hv2⟩⟩
def F6:List UInt8→Option (List UInt8×List UInt8)
 |[]=>none
 |x::r=>if r.length<x.toNat then none else some (r.take x.toNat,r.drop x.toNat)
def Qk(P:Program)(f:FuncId):Prop:=∀{d}{b:Nat}{T v l},AM d v l→
 Av P f [pZ b] d [bx b T [v]] (Ret fun r d' L'=>d'=d∧((F6 l=none∧r=.tuple #[.slice none 0 0,.bool false]∧∃v',L'=[bx b T [v']])∨
  (∃x rest u v' g,F6 l=some (x,rest)∧r=.tuple #[u,.bool true]∧L'=[g,bx b T [v']]∧Ap 1 AP d u x g∧AM d v' rest)))
def RX(a0:Nat):A5:=⟨21,[(.tmp 2),(.tmp 3)],(sR (o1 2 (.mv nS)<|o1 3 (.mv (.const (.bool false))) .done) (sR (om 7 0<|oc 8 a0 [7,z1]<|om 6 8<|oe 9 6 0<|oe 10 6 1<|om 4 9<|om 5 10 .done) (.seq (sR (om 11 5<|o1 12 (.un .not 11) .done) (.cond 12 (sR (o1 2 (.mv nS)<|o1 3 (.mv (.const (.bool false))) .done) .ret) .skip)) (sR (om 13 0<|om 14 4<|o1 15 (.idx 1 14 z0)<|ol 16 15<|o1 17 (.cvi .i64 16)<|oc 18 a0 [13,17]<|oe 19 18 0<|oe 20 18 1<|om 2 19<|om 3 20 .done) .ret))))⟩
def YH{P}(hd:dec P f=some (RX f1))(h1:F8 P f1):Qk P f:=by
 intro d b T v l hv;refine AF hd (Ada rfl) ?_;show gwp P _ _ _ _ _;(refine Ad<|Al rfl<|Ae rfl<|Aa<|Ad<|Am rfl ?_);refine Fv 1 rfl (h1 hv 1 (by omega)) (fun r d1 L1 _ ⟨hdd,hr⟩=>?_);subst hdd;rcases hr with ⟨hl,hr,hL⟩|⟨hl,u,v',g,hr,hL,hg,hv'⟩
 ·subst hr;subst hL;obtain rfl:l=[]:=Adn (by omega);(refine AU rfl<|Ao rfl rfl<|Ao rfl rfl<|Al rfl<|Ae rfl<|Aa<|Af<|Ad<|Ae rfl<|Bx rfl<|Aa<|Bj rfl<|Ad<|Al rfl<|Ae rfl<|Aa<|An ?_);exact CO (L':=[bx b T [v]]) rfl rfl (Adb _) ⟨rfl,.inl ⟨rfl,rfl,v,rfl⟩⟩
 ·subst hr;subst hL;cases l with
  |nil=>simp at hl
  |cons x l=>
   have hx:x.toNat<256:=UInt8.toNat_lt x
   obtain⟨gb,gT,gl,gc,e1,rfl,hop⟩:=hg.MY (m:=0) (by simp)
   subst e1
   have hg0:gl[0]?=some (AA x):=by simpa using hop.2.1
   (refine AU rfl<|Ao rfl rfl<|Ao rfl rfl<|Al rfl<|Ae rfl<|Aa<|Af<|Ad<|Ae rfl<|Bx rfl<|Aa<|AS rfl<|Ak<|Ad<|Am rfl<|Al rfl ?_)
   refine K1 0 rfl rfl rfl (by simp) ?_
   (apply Ag;rfl;exact Aj 0 rfl hg0)
   (apply Es;rfl;omega;omega)
   refine B9 _ [bx b T [v']] (Vs.drop (Aef _ _)) ?_
   refine Fv 1 rfl (h1 hv' x.toNat (by omega)) (fun r d2 L2 _ ⟨hdd,hr⟩=>?_)
   subst hdd
   have hv2:(List.drop 1 (x::l))=l:=rfl
   rw[hv2] at hr
   rcases hr with ⟨hl2,hr,hL⟩|⟨hl2,u2,v2,g2,hr,hL,hg2,hv2'⟩
   ·subst hr;subst hL
    (refine Ao rfl rfl<|Ao rfl rfl<|Al rfl<|Ae rfl<|Aa<|An ?_)
    exact CO (L':=[bx b T [v']]) rfl rfl (Adb _) ⟨rfl,.inl ⟨by simp[F6,hl2],rfl,v',rfl⟩⟩
   ·subst hr;subst hL
    (refine Ao rfl rfl<|Ao rfl rfl<|AJ<|Ae rfl<|Aa<|An ?_)
    exact CO (L':=[g2,bx b T [v2]]) rfl rfl (Adb _) ⟨rfl,.inr ⟨l.take x.toNat,l.drop x.toNat,u2,v2,g2,by simp[F6];omega,rfl,rfl,hg2,hv2'⟩⟩
def Kh:List UInt8→Option (Nat×List UInt8)
 |a::b::r=>some (a.toNat*256+b.toNat,r)
 |_=>none
def Wf(P:Program)(f:FuncId):Prop:=∀{d}{b:Nat}{T v l},AM d v l→
 Av P f [pZ b] d [bx b T [v]] (Ret fun r d' L'=>d'=d∧((Kh l=none∧r=.tuple #[vZ 0,.bool false]∧∃v',L'=[bx b T [v']])∨
  (∃x rest v',Kh l=some (x,rest)∧r=.tuple #[vZ (x:Nat),.bool true]∧L'=[bx b T [v']]∧AM d v' rest)))
def VT(a0:Nat):A5:=⟨23,[(.tmp 2),(.tmp 3)],(sR (o1 2 (.mv z0)<|o1 3 (.mv (.const (.bool false))) .done) (sR (om 7 0<|oc 8 a0 [7,z2]<|om 6 8<|oe 9 6 0<|oe 10 6 1<|om 4 9<|om 5 10 .done) (.seq (sR (om 11 5<|o1 12 (.un .not 11) .done) (.cond 12 (sR (o1 2 (.mv z0)<|o1 3 (.mv (.const (.bool false))) .done) .ret) .skip)) (.seq (.reg true (pm 13 4<|p1 14 (.idx 1 13 z0)<|pl 15 14<|p1 16 (.cvi .i64 15)<|p1 17 (.bin .shl 16 (.const (.int .u64 8)))<|pm 18 4<|p1 19 (.idx 1 18 z1)<|pl 20 19<|p1 21 (.cvi .i64 20)<|p1 22 (.bin .or 17 21) (.bar (pm 2 22 (p1 3 (.mv (.const (.bool true))) .done))))) .ret))))⟩
def AbS{P}(hd:dec P f=some (VT f1))(h1:F8 P f1):Wf P f:=by
 intro d b T v l hv;refine AF hd (Ada rfl) ?_;show gwp P _ _ _ _ _;(refine Ad<|Ab rfl<|Ae rfl<|Aa<|Ad<|Am rfl ?_);refine Fv 1 rfl (h1 hv 2 (by omega)) (fun r d1 L1 _ ⟨hdd,hr⟩=>?_);subst hdd;rcases hr with ⟨hl,hr,hL⟩|⟨hl,u,v',g,hr,hL,hg,hv'⟩
 ·subst hr;subst hL;have hk:Kh l=none:=by
   match l,hl with
   |[],_=>rfl
   |[a],_=>rfl
  (refine AU rfl<|Ao rfl rfl<|Ao rfl rfl<|Al rfl<|Ae rfl<|Aa<|Af<|Ad<|Ae rfl<|Bx rfl<|Aa<|Bj rfl<|Ad<|Ab rfl<|Ae rfl<|Aa<|An ?_);exact CO (L':=[bx b T [v]]) rfl rfl (Adb _) ⟨rfl,.inl ⟨hk,rfl,v,rfl⟩⟩
 ·subst hr;subst hL;match l,hl,hg,hv' with
  |x::y::l,hl,hg,hv'=>
   have hx:x.toNat<256:=UInt8.toNat_lt x
   have hy:y.toNat<256:=UInt8.toNat_lt y
   have hop1:=hg.MY (m:=1) (by simp)
   obtain⟨gb,gT,gl,gc,e1,rfl,hop⟩:=hg.MY (m:=0) (by simp)
   subst e1
   have hg0:gl[0]?=some (AA x):=by simpa using hop.2.1
   have hg1:gl[1]?=some (AA y):=by
    obtain⟨gb1,gT1,gl1,gc1,e2,e3,hop1⟩:=hop1;have h4:=congrFun (congrFun e3 gb1) (.cells gl1.toArray gT1 (0,0));have h5:bx gb1 gT1 gl1 gb1 (.cells gl1.toArray gT1 (0,0)):=Cv _ _;rw[←h4] at h5;have h6:=(G4 h5).2;simp only[Obj.cells.injEq] at h6;have h7:gl1=gl:=by have:=congrArg Array.toList h6.1;simpa using this
    rw[←h7];simpa using hop1.2.1
   (refine AU rfl<|Ao rfl rfl<|Ao rfl rfl<|Al rfl<|Ae rfl<|Aa<|Af<|Ad<|Ae rfl<|Bx rfl<|Aa<|AS rfl<|Ak<|Af<|Bu<|Al rfl ?_)
   refine K1 0 rfl rfl rfl (by simp) ?_
   (apply Ag;rfl;exact Aj 0 rfl hg0)
   (apply Es;rfl;omega;omega)
   refine R6 (a:=x.toNat) rfl rfl (by omega) ?_
   (apply Al;rfl)
   refine K1 1 rfl rfl rfl (by simp) ?_
   (apply Ag;rfl;exact Aj 0 rfl hg1)
   (apply Es;rfl;omega;omega)
   refine Rw (a:=x.toNat) (b:=y.toNat) rfl rfl (by omega) hy ?_
   (refine Ch<|Ab rfl<|Ae rfl<|Aa<|An ?_)
   exact CO (L':=[bx b T [v']]) rfl rfl (Aef _ _) ⟨rfl,.inr ⟨_,l,v',rfl,rfl,rfl,hv'⟩⟩
section
def CT(lf:Bool)(l0:List UInt8)(is0:List Int):Nat→Option (List (List UInt8)×List (List UInt8)×List Int×List UInt8)
 |0=>some ([],[],is0,l0)
 |k+1=>match CT lf l0 is0 k with
  |none=>none
  |some (ks,vs,is,l)=>match F6 l with
   |none=>none
   |some (x,l1)=>match lf with
    |true=>match F6 l1 with
     |none=>none
     |some (y,l2)=>some (ks++[x],vs++[y],is,l2)
    |false=>match Kh l1 with
     |none=>none
     |some (m,l2)=>some (ks++[x],vs,is++[(m:Int)],l2)
def Uq{l0}{is0:List Int}{k:Nat}(h:CT lf l0 is0 k=none):∀{m:Nat},k≤m→CT lf l0 is0 m=none:=by
 intro m hm;induction hm with
 |refl=>exact h
 |step _ ih=>simp[CT,ih]
def F3(lf:Bool)(l:List UInt8):Option (List Int×List UInt8):=match lf with
 |true=>some ([],l)
 |false=>match Kh l with
  |none=>none
  |some (m,r)=>some ([(m:Int)],r)
def Fp(b:List UInt8):Option Az:=
 match F3 (b.getD 0 0==1) (b.drop 2) with
 |none=>none
 |some (is0,l0)=>match CT (b.getD 0 0==1) l0 is0 (b.getD 1 0).toNat with
  |none=>none
  |some (ks,vs,is,_)=>some ⟨b.getD 0 0==1,ks,vs,is⟩
def O6{l0}{is0:List Int}:∀{k:Nat}{ks vs is l},CT lf l0 is0 k=some (ks,vs,is,l)→ks.length=k∧vs.length≤k∧is.length≤is0.length+k:=by
 intro k;induction k with
 |zero=>intro ks vs is l h;simp only[CT,Option.some.injEq,Prod.mk.injEq] at h;obtain⟨rfl,rfl,rfl,rfl⟩:=h;simp
 |succ k ih=>
  intro ks vs is l h
  simp only[CT] at h
  split at h
  ·cases h
  ·rename_i ks' vs' is' l' e
   have:=ih e
   split at h
   ·cases h
   ·split at h
    ·split at h
     ·cases h
     ·simp only[Option.some.injEq,Prod.mk.injEq] at h;obtain⟨rfl,rfl,rfl,rfl⟩:=h;simp;omega
    ·split at h
     ·cases h
     ·simp only[Option.some.injEq,Prod.mk.injEq] at h;obtain⟨rfl,rfl,rfl,rfl⟩:=h;simp;omega
def OB(d:Ac)(v:Value)(xs:List (List UInt8))(h0:Ac)(hs:List Ac):Prop:=∃us,BT 1 v xs.length us h0∧hs.length=xs.length∧∀i (hi:i<xs.length),∃u g,us[i]?=some u∧hs[i]?=some g∧Ap 1 AP d u xs[i] g
def OB.nil{d}:OB d (.slice none 0 0) [] emp []:=⟨[],BT.nil 1,rfl,fun i hi=>absurd hi (Agm i)⟩
def OB.YQ{d v xs h0 hs}(o:OB d v xs h0 hs):Ds d v xs (h0::hs):=let ⟨us,a,b,c⟩:=o;⟨us,h0,hs,a,b,c,rfl⟩
def OB.val{d v xs h0 hs}(o:OB d v xs h0 hs):∃a c,v=.slice a xs.length c:=o.YQ.val
section
variable {P:Program}{pan:List PanicEntry→AR}{Qn:Env→AR}{Ls L:List Ac}{ρ:Env}{d:Ac}{s:GS}{t:Nat}
def Ur{by_:Nat}{z x y}(i:Nat){v xs h0 hs}{b:Nat}{T u g l}(ex:ev ρ x=v)(hi:L[i]?=some h0)(o:OB d v xs h0 hs)
  (ey:ev ρ y=.slice (some ⟨b,0,none⟩) 1 1) (og:Ap 1 AP d u l g) (hm:xs.length+1≤140737488355328) (hb:(xs.length+1)*by_≤140737488355328)
  (k:∀v' h',OB d v' (xs++[l]) h' (hs++[g])→gws P pan Qn s Ls (upd ρ t v') d (L.set i h')):gws P pan Qn (.op false ⟨some t,none,.app 1 by_ z x y⟩ s) Ls ρ d (bx b T [u]::L):=by
 obtain⟨us,o1,o2,o3⟩:=o
 have hul:=o1.1
 obtain⟨a,c,rfl⟩:=og.val
 refine UE i ex hi o1 ey rfl rfl (by omega) hm hb (fun v' h' o'=>k v' h' ⟨us++[.slice a l.length c],by simpa using o',by simp[o2],fun j hj=>?_⟩)
 by_cases e:j<xs.length
 ·obtain⟨u',g',e1,e2,e3⟩:=o3 j e
  exact⟨u',g',by rw[Afk (by omega)];exact e1,by rw[Afk (by omega)];exact e2,by rw[List.getElem_append_left e];exact e3⟩
 ·obtain rfl:j=xs.length:=by simp at hj;omega
  exact⟨.slice a l.length c,g,by rw[Aff (by omega),hul,Afn,Agy];rfl,by rw[Aff (by omega),o2,Agy];rfl,by rw[List.getElem_append_right (Adi _)];simpa using og⟩
end
def Uw{l r}{x:Nat}(h:Kh l=some (x,r)):x≤65535:=by
 match l,h with
 |a::b::l,h=>
  simp only[Kh,Option.some.injEq,Prod.mk.injEq] at h
  have:=a.toNat_lt
  have:=b.toNat_lt
  omega
def Qq(P:Program)(f:FuncId):Prop:=∀{d v l},AM d v l→2≤l.length→
 Av P f [v] d [] (Ret fun r d' L'=>d'=d∧((∃cs:List Value,Fp l=none∧r=.tuple #[.agg cs.toArray,.bool false]∧cs.length=4∧(cs.all (·.oneCell'))=true∧L'=[])∨
  (∃(cs:List Value) (n:Az),Fp l=some n∧r=.tuple #[.agg cs.toArray,.bool true]∧DT d cs n L')))
def SW(a0 a1:Nat):A5:=⟨85,[(.cell 2 (some 4)),(.tmp 3)],(sR (o1 2 (.alo (.agg #[(.bool false),(.slice none 0 0),(.slice none 0 0),(.slice none 0 0)]))<|o1 3 (.mv (.const (.bool false))) .done) (sR (om 14 0<|o1 15 (.idx 1 14 z0)<|ol 16 15<|ob 17 .eql 16 (.const (.int .u8 1))<|o1 18 (.bld [(0,1),(1,1),(2,1),(3,1)] [(.bool false),(.slice none 0 0),(.slice none 0 0),(.slice none 0 0)] [(0,17)])<|o1 4 (.alo (.agg #[(.bool false),(.slice none 0 0),(.slice none 0 0),(.slice none 0 0)]))<|o0 (.st 4 4 18) .done) (sR (om 19 0<|o1 20 (.sl 1 19 (some z2) none none)<|o1 5 (.alo (.slice none 0 0))<|o0 (.st 1 5 20) .done) (.seq (sR (oj 21 0 4<|ol 22 21<|o1 23 (.un .not 22) .done) (.cond 23 (sR (oc 25 a0 [5]<|om 24 25<|oe 26 24 0<|oe 27 24 1<|om 6 26<|om 7 27 .done) (.seq (sR (om 28 7<|o1 29 (.un .not 28) .done) (.cond 29 (sR (o1 30 (.ld (some 4) 4)<|o0 (.st 4 2 30)<|o1 3 (.mv (.const (.bool false))) .done) .ret) .skip)) (rG (oj 31 3 4<|ol 32 31<|om 33 6<|o1 34 (.bsl 1 1 [(vZ 0)] [(0,33)])<|o1 35 (.app 1 8 [(vZ 0)] 32 34)<|oj 36 3 4<|o0 (.st 1 36 35) .done)))) .skip)) (.seq (sR (om 37 0<|o1 38 (.idx 1 37 z1)<|ol 39 38<|o1 40 (.mv (.const (.int .u8 0))) .done) (.block 0 (.loop (sR (ob 41 .lss 40 39 .done) (.seq (.cond 41 .skip (.exit 0)) (.seq (.block 1 (sR (oc 43 a1 [5]<|om 42 43<|oe 44 42 0<|oe 45 42 1<|om 8 44<|om 9 45 .done) (.seq (sR (om 46 9<|o1 47 (.un .not 46) .done) (.cond 47 (sR (o1 48 (.ld (some 4) 4)<|o0 (.st 4 2 48)<|o1 3 (.mv (.const (.bool false))) .done) .ret) .skip)) (sR (oj 49 1 4<|ol 50 49<|om 51 8<|o1 52 (.bsl 1 1 [(.slice none 0 0)] [(0,51)])<|o1 53 (.app 1 24 [(.slice none 0 0)] 50 52)<|oj 54 1 4<|o0 (.st 1 54 53) .done) (sR (oj 55 0 4<|ol 56 55 .done) (.cond 56 (sR (oc 58 a1 [5]<|om 57 58<|oe 59 57 0<|oe 60 57 1<|om 10 59<|om 11 60 .done) (.seq (sR (om 61 11<|o1 62 (.un .not 61) .done) (.cond 62 (sR (o1 63 (.ld (some 4) 4)<|o0 (.st 4 2 63)<|o1 3 (.mv (.const (.bool false))) .done) .ret) .skip)) (rG (oj 64 2 4<|ol 65 64<|om 66 10<|o1 67 (.bsl 1 1 [(.slice none 0 0)] [(0,66)])<|o1 68 (.app 1 24 [(.slice none 0 0)] 65 67)<|oj 69 2 4<|o0 (.st 1 69 68) .done)))) (sR (oc 71 a0 [5]<|om 70 71<|oe 72 70 0<|oe 73 70 1<|om 12 72<|om 13 73 .done) (.seq (sR (om 74 13<|o1 75 (.un .not 74) .done) (.cond 75 (sR (o1 76 (.ld (some 4) 4)<|o0 (.st 4 2 76)<|o1 3 (.mv (.const (.bool false))) .done) .ret) .skip)) (rG (oj 77 3 4<|ol 78 77<|om 79 12<|o1 80 (.bsl 1 1 [(vZ 0)] [(0,79)])<|o1 81 (.app 1 8 [(vZ 0)] 78 80)<|oj 82 3 4<|o0 (.st 1 82 81) .done)))))))))) (rG (ob 83 .add 40 (.const (.int .u8 1))<|om 40 83 .done)))))))) (sR (o1 84 (.ld (some 4) 4)<|o0 (.st 4 2 84)<|o1 3 (.mv (.const (.bool true))) .done) .ret))))))⟩
set_option maxHeartbeats 1000000 in
def Zm{P f2}(hd:dec P f=some (SW f1 f2))(h1:Wf P f1)(h2:Qk P f2):Qq P f:=by
 intro d v l hv hl;refine AF hd (Ada rfl) ?_;have hll:=AM.B3 hv;obtain⟨lf,hlf⟩:∃lf:Bool,lf=(l.getD 0 0==1):=⟨_,rfl⟩
 have hlf':decide (((l[0]'(by omega)).toNat:Int)=1)=lf:=by
  rw[hlf];have:l.getD 0 0=l[0]'(by omega):=by simp[show 0<l.length by omega]
  rw[this,Bool.eq_iff_iff];simp only[decide_eq_true_eq,beq_iff_eq];constructor
  ·intro h;exact UInt8.toNat_inj.1 (by simpa using (by omega:(l[0]'(by omega)).toNat=1))
  ·intro h;rw[h];rfl
 show gwp P _ _ _ _ _;(refine Ad<|DW (fun _ _=>Ae rfl<|Aa<|Ad<|AJ<|BM (m:=0) (sz:=1) (R:=AP) (by rfl) (by assumption) (by rfl) rfl (by omega) ?_);rintro _ _ _ _ _ rfl;refine Ag rfl (B4 (by assumption) rfl)<|AO rfl rfl<|BR rfl<|DW (fun _ _=>?_));rw[hlf'];skip;rename_i b2 T2 _ _ _ _ b4 T4;refine BU 0 rfl rfl rfl rfl (by simp[Value.cells]) rfl ?_;(refine Aa<|Ad<|AJ ?_);refine EU rfl hv rfl rfl hl (fun lv hlv=>?_);obtain⟨la,lc,rfl⟩:=RSl.val hlv;(apply DW;intro _ _);rename_i b5 T5;refine BU 0 rfl rfl rfl rfl (by simp[Value.cells]) rfl ?_;refine VY d [bx b5 T5 [.slice la (l.drop 2).length lc],bx b4 T4 [.bool lf,.slice none 0 0,.slice none 0 0,.slice none 0 0],bx b2 T2 [.bool false,.slice none 0 0,.slice none 0 0,.slice none 0 0],emp,emp,emp] ((Vs.emp.trans (Vs.emp.trans Vs.emp)).trans (Vs.pick [3,4,5,0,1,2] rfl)) ?_;refine Gc (fun ρ d' L'=>d'=d∧BI ρ [(0,v),(2,pZ b2),(4,pZ b4),(5,pZ b5)]∧∃is0 l0 ia ic lv hi,F3 lf (l.drop 2)=some (is0,l0)∧is0.length≤1∧Ap 1 Bb d (.slice ia is0.length ic) is0 hi∧AM d lv l0∧L'=[bx b5 T5 [lv],bx b4 T4 [.bool lf,.slice none 0 0,.slice none 0 0,.slice ia is0.length ic],bx b2 T2 [.bool false,.slice none 0 0,.slice none 0 0,.slice none 0 0],emp,emp,hi]) ?_ ?_
 ·cases lf with
  |true=>
   (refine Ad<|Ai rfl<|Ag rfl (Aj 1 rfl rfl)<|Bx rfl<|Aa<|AS rfl<|Ak ?_)
   exact⟨rfl,⟨rfl,rfl,rfl,rfl,trivial⟩,[],l.drop 2,none,0,_,emp,rfl,by simp,Ap.nil,hlv,rfl⟩
  |false=>
   (refine Ad<|Ai rfl<|Ag rfl (Aj 1 rfl rfl)<|Bx rfl<|Aa<|Bj rfl<|Ad ?_)
   refine Fv 1 rfl (h1 hlv) (fun r d1 L1 _ ⟨hdd,hr⟩=>?_)
   subst hdd
   rcases hr with ⟨hk,hr,v',hL⟩|⟨x,rest,v',hk,hr,hL,hv'⟩
   ·subst hr;subst hL
    (refine AU rfl<|Ao rfl rfl<|Ao rfl rfl<|Ab rfl<|Ae rfl<|Aa<|Af<|Ad<|Ae rfl<|Bx rfl<|Aa<|Bj rfl<|Ad<|Bh 1 rfl rfl rfl ?_)
    refine BU 2 rfl rfl rfl rfl (by simp) rfl ?_
    (refine Ae rfl<|Aa<|An ?_)
    exact EY [.agg [.bool false,.slice none 0 0,.slice none 0 0,.slice none 0 0].toArray,.bool false] ⟨AV 2 rfl rfl rfl,As rfl,trivial⟩ (Afm _) ⟨rfl,.inl ⟨_,by simp only[Fp,←hlf];simp[F3,hk],rfl,rfl,rfl,rfl⟩⟩
   ·subst hr;subst hL
    (refine AU rfl<|Ao rfl rfl<|Ao rfl rfl<|Ab rfl<|Ae rfl<|Aa<|Af<|Ad<|Ae rfl<|Bx rfl<|Aa<|AS rfl<|Ak<|AB<|Ai rfl<|Ag rfl (Aj 1 rfl rfl)<|Ab rfl ?_)
    refine DE (cs:=[vZ (x:Nat)]) (by omega) rfl (fun b8 T8=>?_)
    have hx:=Uw hk
    refine D1 (R:=Bb) (xs:=[]) 5 rfl rfl Ap.nil rfl (Ap.Ep rfl ⟨rfl,by omega,by omega⟩) CX (by omega) (by simp) (by simp) (fun v8 h8 o8=>?_)
    obtain⟨a8,c8,rfl⟩:=o8.val
    (apply Ai;rfl)
    refine BU 1 rfl rfl rfl rfl (by simp) rfl ?_
    (apply Aa)
    exact⟨rfl,⟨rfl,rfl,rfl,rfl,trivial⟩,[(x:Int)],rest,a8,c8,v',h8,by simp[F3,hk],by simp,o8,hv',rfl⟩
 ·rintro ρ d' L' ⟨hdd,hsl,is0,l0,ia,ic,lv,hi,hst,his,oi,hlv,hL⟩;subst hdd;subst hL;refine Dw _ hsl ?_;(refine Af<|Ad<|AJ<|BM (sz:=1) (R:=AP) (by rfl) (by assumption) (by rfl) (Int.natCast_add _ 1).symm (by omega) ?_;rintro _ _ _ _ _ rfl;refine Ag rfl (B4 (by assumption) rfl)<|Ab rfl<|Aa<|Ay ?_);have hm:=UInt8.toNat_lt (l[1]'hl);have hg1:l.getD 1 0=l[1]'hl:=by simp[show 1<l.length by omega]
  have hpn:∀k,k≤(l[1]'hl).toNat→CT lf l0 is0 k=none→Fp l=none:=by
   intro k hk h;simp only[Fp,←hlf,hst,hg1,Uq h hk]
  refine CB (α:=Nat) (fun k=>[(2,pZ b2),(4,pZ b4),(5,pZ b5),(39,AA (l[1]'hl)),(40,.int .u8 k)])
   (fun k d1 L'=>d'=d1∧k≤(l[1]'hl).toNat∧∃ks vs is l' ka kc va vc ia ic lv hk hks hv hvs hi,CT lf l0 is0 k=some (ks,vs,is,l')∧OB d' (.slice ka ks.length kc) ks hk hks∧OB d' (.slice va vs.length vc) vs hv hvs∧Ap 1 Bb d' (.slice ia is.length ic) is hi∧AM d' lv l'∧
    L'=[bx b5 T5 [lv],bx b4 T4 [.bool lf,.slice ka ks.length kc,.slice va vs.length vc,.slice ia is.length ic],bx b2 T2 [.bool false,.slice none 0 0,.slice none 0 0,.slice none 0 0],hk,hv,hi]++(hks++hvs)) (fun k=>(l[1]'hl).toNat - k) 0
   ⟨rfl,rfl,rfl,rfl,rfl,trivial⟩ ⟨rfl,Aej _,[],[],is0,l0,none,0,none,0,ia,ic,lv,emp,[],emp,[],hi,rfl,OB.nil,OB.nil,oi,hlv,rfl⟩ ?_
  clear hlv oi;rintro k ρ d1 L' ⟨hdd,hk,ks,vs,is,l',ka,kc,va,vc,ia,ic,lv,hkb,hks,hvb,hvs,hi,hit,ok,ov,oi,hlv,hL⟩;subst hdd;subst hL;have hlen:=O6 hit;(refine Ad<|AE rfl rfl<|Aa<|Af ?_);first|refine IL rfl (fun hc=>?_) (fun hc=>?_)|refine Mi rfl (fun hc=>?_) (fun hc=>?_)
  ·have hk1:k<(l[1]'hl).toNat:=by omega
   (refine Ak<|Af<|Ay<|Ad ?_);refine Fv 1 rfl (h2 hlv) (fun r d1 L1 _ ⟨hdd,hr⟩=>?_);subst hdd;rcases hr with ⟨hp,hr,v',hL⟩|⟨x,l1,u,v',g,hp,hr,hL,og,hlv1⟩
   ·subst hr;subst hL;(refine AU rfl<|Ao rfl rfl<|Ao rfl rfl<|Al rfl<|Ae rfl<|Aa<|Af<|Ad<|Ae rfl<|Bx rfl<|Aa<|Bj rfl<|Ad<|Bh 1 rfl rfl rfl ?_);refine BU 2 rfl rfl rfl rfl (by simp) rfl ?_;(refine Ae rfl<|Aa<|An ?_);exact EY [.agg [.bool lf,.slice ka ks.length kc,.slice va vs.length vc,.slice ia is.length ic].toArray,.bool false] ⟨AV 2 rfl rfl rfl,As rfl,trivial⟩ (Afm _) ⟨rfl,.inl ⟨_,hpn (k+1) (by omega) (by simp[CT,hit,hp]),rfl,rfl,rfl,rfl⟩⟩
   ·subst hr;subst hL;obtain⟨ua,uc,rfl⟩:=og.val;(refine AU rfl<|Ao rfl rfl<|Ao rfl rfl<|Al rfl<|Ae rfl<|Aa<|Af<|Ad<|Ae rfl<|Bx rfl<|Aa<|AS rfl<|Ak<|Ad<|Ai rfl<|Ag rfl (Aj 2 rfl rfl)<|Al rfl ?_);refine DE (cs:=[.slice ua x.length uc]) (by omega) rfl (fun b8 T8=>?_);refine Ur 4 rfl rfl ok rfl og (by omega) (by omega) (fun v8 h8 ok'=>?_);obtain⟨a8,c8,rfl⟩:=ok'.val;(apply Ai;rfl);refine BU 2 rfl rfl rfl rfl (by simp) rfl ?_;refine VY _ ([bx b5 T5 [v'],bx b4 T4 [.bool lf,.slice a8 (ks++[x]).length c8,.slice va vs.length vc,.slice ia is.length ic],bx b2 T2 [.bool false,.slice none 0 0,.slice none 0 0,.slice none 0 0],h8,hvb,hi]++((hks++[g])++hvs)) (Vs.SA [[g],[bx b5 T5 [v']],[bx b4 T4 [.bool lf,.slice a8 (ks++[x]).length c8,.slice va vs.length vc,.slice ia is.length ic]],[bx b2 T2 [.bool false,.slice none 0 0,.slice none 0 0,.slice none 0 0]],[h8],[hvb],[hi],hks,hvs] [1,2,3,4,5,6,7,0,8] [] rfl rfl (by simp)) ?_;cases lf with
    |true=>
     (refine Ad<|Ai rfl<|Ag rfl (Aj 1 rfl rfl)<|Aa<|Bj rfl<|Ad ?_)
     refine Fv 1 rfl (h2 hlv1) (fun r d1 L1 _ ⟨hdd,hr⟩=>?_)
     subst hdd
     rcases hr with ⟨hp2,hr,v2,hL⟩|⟨y,l2,u2,v2,g2,hp2,hr,hL,og2,hlv2⟩
     ·subst hr;subst hL
      (refine AU rfl<|Ao rfl rfl<|Ao rfl rfl<|Al rfl<|Ae rfl<|Aa<|Af<|Ad<|Ae rfl<|Bx rfl<|Aa<|Bj rfl<|Ad<|Bh 1 rfl rfl rfl ?_)
      refine BU 2 rfl rfl rfl rfl (by simp) rfl ?_
      (refine Ae rfl<|Aa<|An ?_)
      exact EY [.agg [.bool true,.slice a8 (ks++[x]).length c8,.slice va vs.length vc,.slice ia is.length ic].toArray,.bool false] ⟨AV 2 rfl rfl rfl,As rfl,trivial⟩ (Afm _) ⟨rfl,.inl ⟨_,hpn (k+1) (by omega) (by simp[CT,hit,hp,hp2]),rfl,rfl,rfl,rfl⟩⟩
     ·subst hr;subst hL
      obtain⟨ua2,uc2,rfl⟩:=og2.val
      (refine AU rfl<|Ao rfl rfl<|Ao rfl rfl<|Al rfl<|Ae rfl<|Aa<|Af<|Ad<|Ae rfl<|Bx rfl<|Aa<|AS rfl<|Ak<|AB<|Ai rfl<|Ag rfl (Aj 2 rfl rfl)<|Al rfl ?_)
      refine DE (cs:=[.slice ua2 y.length uc2]) (by omega) rfl (fun b9 T9=>?_)
      refine Ur 5 rfl rfl ov rfl og2 (by omega) (by omega) (fun v9 h9 ov'=>?_)
      obtain⟨a9,c9,rfl⟩:=ov'.val
      (apply Ai;rfl)
      refine BU 2 rfl rfl rfl rfl (by simp) rfl ?_
      refine VY _ ([bx b5 T5 [v2],bx b4 T4 [.bool true,.slice a8 (ks++[x]).length c8,.slice a9 (vs++[y]).length c9,.slice ia is.length ic],bx b2 T2 [.bool false,.slice none 0 0,.slice none 0 0,.slice none 0 0],h8,h9,hi]++((hks++[g])++(hvs++[g2]))) (Vs.SA [[g2],[bx b5 T5 [v2]],[bx b4 T4 [.bool true,.slice a8 (ks++[x]).length c8,.slice a9 (vs++[y]).length c9,.slice ia is.length ic]],[bx b2 T2 [.bool false,.slice none 0 0,.slice none 0 0,.slice none 0 0]],[h8],[h9],[hi],hks++[g],hvs] [1,2,3,4,5,6,7,8,0] [] rfl rfl (by simp)) ?_
      (apply AB)
      refine XG rfl rfl (by omega) (by omega) ?_
      (refine Ab rfl<|Aa ?_)
      exact⟨k+1,by omega,⟨rfl,rfl,rfl,rfl,int_eq (by omega),trivial⟩,rfl,hk1,ks++[x],vs++[y],is,l2,a8,c8,a9,c9,ia,ic,v2,h8,hks++[g],h9,hvs++[g2],hi,by simp[CT,hit,hp,hp2],ok',ov',oi,hlv2,rfl⟩
    |false=>
     (refine Ad<|Ai rfl<|Ag rfl (Aj 1 rfl rfl)<|Aa<|AS rfl<|Ad ?_)
     refine Fv 1 rfl (h1 hlv1) (fun r d1 L1 _ ⟨hdd,hr⟩=>?_)
     subst hdd
     rcases hr with ⟨hp2,hr,v2,hL⟩|⟨y,l2,v2,hp2,hr,hL,hlv2⟩
     ·subst hr;subst hL
      (refine AU rfl<|Ao rfl rfl<|Ao rfl rfl<|Ab rfl<|Ae rfl<|Aa<|Af<|Ad<|Ae rfl<|Bx rfl<|Aa<|Bj rfl<|Ad<|Bh 1 rfl rfl rfl ?_)
      refine BU 2 rfl rfl rfl rfl (by simp) rfl ?_
      (refine Ae rfl<|Aa<|An ?_)
      exact EY [.agg [.bool false,.slice a8 (ks++[x]).length c8,.slice va vs.length vc,.slice ia is.length ic].toArray,.bool false] ⟨AV 2 rfl rfl rfl,As rfl,trivial⟩ (Afm _) ⟨rfl,.inl ⟨_,hpn (k+1) (by omega) (by simp[CT,hit,hp,hp2]),rfl,rfl,rfl,rfl⟩⟩
     ·subst hr;subst hL
      have hy:=Uw hp2
      (refine AU rfl<|Ao rfl rfl<|Ao rfl rfl<|Ab rfl<|Ae rfl<|Aa<|Af<|Ad<|Ae rfl<|Bx rfl<|Aa<|AS rfl<|Ak<|AB<|Ai rfl<|Ag rfl (Aj 1 rfl rfl)<|Ab rfl ?_)
      refine DE (cs:=[vZ (y:Nat)]) (by omega) rfl (fun b9 T9=>?_)
      refine D1 (R:=Bb) 5 rfl rfl oi rfl (Ap.Ep rfl ⟨rfl,by omega,by omega⟩) CX (by omega) (by simp;omega) (by simp;omega) (fun v9 h9 oi'=>?_)
      obtain⟨a9,c9,rfl⟩:=oi'.val
      (apply Ai;rfl)
      refine BU 1 rfl rfl rfl rfl (by simp) rfl ?_
      (refine Aa<|AB ?_)
      refine XG rfl rfl (by omega) (by omega) ?_
      (refine Ab rfl<|Aa ?_)
      exact⟨k+1,by omega,⟨rfl,rfl,rfl,rfl,int_eq (by omega),trivial⟩,rfl,hk1,ks++[x],vs,is++[(y:Int)],l2,a8,c8,va,vc,a9,c9,v2,h8,hks++[g],hvb,hvs,h9,by simp[CT,hit,hp,hp2],ok',ov,oi',hlv2,rfl⟩
  ·obtain rfl:k=(l[1]'hl).toNat:=by omega
   (refine Bg<|Ad<|Bh 1 rfl rfl rfl ?_);refine BU 2 rfl rfl rfl rfl (by simp) rfl ?_;(refine Ae rfl<|Aa<|An ?_);refine Bd [.agg [.bool lf,.slice ka ks.length kc,.slice va vs.length vc,.slice ia is.length ic].toArray,.bool true] (L':=(hkb::hks)++(hvb::hvs)++[hi]) ⟨AV 2 rfl rfl rfl,As rfl,trivial⟩ (Vs.SA [[bx b5 T5 [lv]],[bx b4 T4 [.bool lf,.slice ka ks.length kc,.slice va vs.length vc,.slice ia is.length ic]],[bx b2 T2 [.bool lf,.slice ka ks.length kc,.slice va vs.length vc,.slice ia is.length ic]],[hkb],[hvb],[hi],hks,hvs] [3,6,4,7,5] [0,1,2] rfl rfl (by simp)) ⟨rfl,.inr ⟨_,⟨lf,ks,vs,is⟩,?_,rfl,_,_,_,_,_,_,rfl,ok.YQ,ov.YQ,oi,rfl⟩⟩;simp only[Fp,←hlf,hst,hg1,hit]
end
def JW:Az:=⟨false,[],[],[]⟩
def Bw(b:List UInt8):Option Az:=if b.length=256 then
  match Fp b with
  |some n=>if Bm n=true∧Cm n=b then some n else none
  |none=>none
 else none
def Rc{l x r}(h:F6 l=some (x,r)):x.length≤255:=by
 match l,h with
 |a::l,h=>
  simp only[F6] at h
  split at h
  ·cases h
  ·simp only[Option.some.injEq,Prod.mk.injEq] at h
   obtain⟨rfl,_⟩:=h
   have:=a.toNat_lt
   simp;omega
def RW{l0}{is0:List Int}:∀{k:Nat}{ks vs is l},CT lf l0 is0 k=some (ks,vs,is,l)→(∀x∈ks,x.length≤255)∧(∀x∈vs,x.length≤255):=by
 intro k;induction k with
 |zero=>intro ks vs is l h;simp only[CT,Option.some.injEq,Prod.mk.injEq] at h;obtain⟨rfl,rfl,rfl,rfl⟩:=h;simp
 |succ k ih=>
  intro ks vs is l h
  simp only[CT] at h
  split at h
  ·cases h
  ·rename_i ks' vs' is' l' e
   have:=ih e
   split at h
   ·cases h
   ·rename_i x l1 hp
    have hx:=Rc hp
    split at h
    ·split at h
     ·cases h
     ·rename_i y l2 hp2
      have hy:=Rc hp2
      simp only[Option.some.injEq,Prod.mk.injEq] at h;obtain⟨rfl,rfl,rfl,rfl⟩:=h
      refine⟨fun z hz=>?_,fun z hz=>?_⟩
      ·rcases Adg.1 hz with hz|hz
       ·exact this.1 z hz
       ·rw[Adq.1 hz];exact hx
      ·rcases Adg.1 hz with hz|hz
       ·exact this.2 z hz
       ·rw[Adq.1 hz];exact hy
    ·split at h
     ·cases h
     ·simp only[Option.some.injEq,Prod.mk.injEq] at h;obtain⟨rfl,rfl,rfl,rfl⟩:=h
      refine⟨fun z hz=>?_,this.2⟩
      rcases Adg.1 hz with hz|hz
      ·exact this.1 z hz
      ·rw[Adq.1 hz];exact hx
def Pt{l:List (List UInt8)}(h:∀x∈l,x.length≤255)(i:Nat):(l.getD i []).length≤255:=by
 by_cases hi:i<l.length
 ·simp only[Aha,Ade hi,Option.getD_some];exact h _ (Aec hi)
 ·simp[Aha,Aes (Nat.le_of_not_lt hi)]
def We{n:Az}(hk:∀x∈n.keys,x.length≤255)(hv:∀x∈n.vals,x.length≤255):∀k,Bo n k≤1000*k:=by
 intro k;induction k with
 |zero=>simp[Bo]
 |succ k ih=>
  have h1:=Pt hk k
  have h2:=Pt hv k
  simp only[Bo,D8,Dq,Fg]
  split<;>omega
def Vx{l is r}(h:F3 lf l=some (is,r)):is.length≤1:=by
 cases lf<;>simp only[F3] at h
 ·split at h
  ·cases h
  ·simp only[Option.some.injEq,Prod.mk.injEq] at h;obtain⟨rfl,_⟩:=h;simp
 ·simp only[Option.some.injEq,Prod.mk.injEq] at h;obtain⟨rfl,_⟩:=h;simp
def Uk{b}{n:Az}(h:Fp b=some n):AY n≤1000000000000:=by
 simp only[Fp] at h;split at h
 ·cases h
 ·rename_i is0 l0 h0;split at h
  ·cases h
  ·rename_i ks vs is l hi;simp only[Option.some.injEq] at h;subst h;have h1:=RW hi;have h2:=O6 hi;have h3:=We (n:=⟨b.getD 0 0==1,ks,vs,is⟩) h1.1 h1.2 ks.length;have h4:=(b.getD 1 0).toNat_lt;have h5:=Vx h0;simp only[AY];split<;>omega
def Sp(P:Program)(f:FuncId):Prop:=∀{d v b},AM d v b→
 Av P f [v] d [] (Ret fun r d' L'=>d'=d∧∃cs,r=.tuple #[.agg cs.toArray,vZ (if (Bw b).isSome then 0 else 200)]∧DT d cs ((Bw b).getD JW) L')
def Up(a0 a1 a2 a3:Nat):A5:=⟨31,[(.cell 2 (some 4)),(.tmp 3)],(sR (o1 2 (.alo (.agg #[(.bool false),(.slice none 0 0),(.slice none 0 0),(.slice none 0 0)]))<|o1 3 (.mv z0) .done) (.seq (sR (om 6 0<|oL 7 6<|ob 8 .neq 7 (kZ 256) .done) (.cond 8 (sR (o1 9 (.bld [(0,1),(1,1),(2,1),(3,1)] [(.bool false),(.slice none 0 0),(.slice none 0 0),(.slice none 0 0)] [])<|o0 (.st 4 2 9)<|o1 3 (.mv (kZ 200)) .done) .ret) .skip)) (sR (om 11 0<|oc 12 a0 [11]<|om 10 12<|oe 13 10 0<|oe 14 10 1<|o1 4 (.alo (.agg #[(.bool false),(.slice none 0 0),(.slice none 0 0),(.slice none 0 0)]))<|o0 (.st 4 4 13)<|om 5 14 .done) (.seq (sR (om 15 5<|o1 16 (.un .not 15)<|om 17 16<|oF 18 17 (.ld (some 4) 4)<|oF 19 17 (.call a1 [18])<|oF 20 17 (.un .not 19)<|o1 21 (.pick 17 (.const (.bool true)) 20)<|om 22 21<|oF 23 22 (.ld (some 4) 4)<|oF 24 22 (.call a2 [23])<|gF 25 22 0<|oF 26 22 (.call a3 [24,25])<|oF 27 22 (.un .not 26)<|o1 28 (.pick 22 (.const (.bool true)) 27) .done) (.cond 28 (sR (o1 29 (.bld [(0,1),(1,1),(2,1),(3,1)] [(.bool false),(.slice none 0 0),(.slice none 0 0),(.slice none 0 0)] [])<|o0 (.st 4 2 29)<|o1 3 (.mv (kZ 200)) .done) .ret) .skip)) (sR (o1 30 (.ld (some 4) 4)<|o0 (.st 4 2 30)<|o1 3 (.mv z0) .done) .ret)))))⟩
def Aak{P f2 f3 f4}(hd:dec P f=some (Up f1 f2 f3 f4))(h1:Qq P f1)(h2:Jo P f2)(h3:Ph P f3)(h4:MC P f4):Sp P f:=by
 intro d v b hv;refine AF hd (Ada rfl) ?_;show gwp P _ _ _ _ _;(refine Ad<|DW (fun _ _=>Ab rfl<|Aa<|Af<|Ad<|AJ<|BL rfl (by assumption)<|AN rfl rfl<|Aa ?_));rename_i b2 T2;have hbad:∀{ρ d' L},d'=d→Bw b=none→ρ 2=pZ b2→ρ 3=vZ 200→(∃i:Nat,L[i]?=some (bx b2 T2 [.bool false,.slice none 0 0,.slice none 0 0,.slice none 0 0]))→
   CI [.cell 2 (some 4),.tmp 3] (Ret fun r d' L'=>d'=d∧∃cs,r=.tuple #[.agg cs.toArray,vZ (if (Bw b).isSome then 0 else 200)]∧DT d cs ((Bw b).getD JW) L') ρ d' L:=by
  intro ρ d' L hdd hr e2 e3 ⟨i,hi⟩
  subst hdd
  refine Bd [.agg [.bool false,.slice none 0 0,.slice none 0 0,.slice none 0 0].toArray,vZ 200] (L':=[emp,emp,emp]) ⟨AV i e2 hi rfl,As e3,trivial⟩ ((Vs.drop (Afm _)).trans (Vs.emp.trans (Vs.emp.trans Vs.emp))) ⟨rfl,[.bool false,.slice none 0 0,.slice none 0 0,.slice none 0 0],?_,?_⟩
  ·rw[hr];rfl
  ·rw[hr];exact DT.zero
 first|refine IL rfl (fun hc=>?_) (fun hc=>?_)|refine Mi rfl (fun hc=>?_) (fun hc=>?_)
 ·(refine Ad<|BR rfl ?_);refine BU 0 rfl rfl rfl rfl (by simp[Value.cells]) rfl ?_;(refine Ab rfl<|Aa<|An ?_);exact hbad rfl (by simp[Bw,show b.length≠256 by omega]) rfl rfl ⟨0,rfl⟩
 ·have hbl:b.length=256:=by omega
  (refine Ak<|Ad<|AJ ?_);refine Bl rfl (h1 hv (by omega)) (fun r d1 L1 _ ⟨hdd,hr⟩=>?_);subst hdd;rcases hr with ⟨cs,hp,hr,hcl,hc1,hL⟩|⟨cs,n,hp,hr,ho⟩
  ·subst hr;subst hL;have hcs:∃c1 c2 c3 c4,cs=[c1,c2,c3,c4]:=by
    match cs,hcl with
    |[a,b,c,e],_=>exact⟨a,b,c,e,rfl⟩
   obtain⟨c1,c2,c3,c4,rfl⟩:=hcs;(refine AU rfl<|Ao rfl rfl<|Ao rfl rfl<|DW (fun _ _=>?_));refine BU 0 rfl rfl rfl rfl (by simp[Value.cells]) hc1 ?_;(refine Ae rfl<|Aa<|Af<|Ad<|Ae rfl<|Bx rfl<|Ae rfl<|Aq rfl<|Aq rfl<|Aq rfl<|AI rfl rfl<|Ae rfl<|Aq rfl<|Aq rfl<|Aq rfl<|Aq rfl<|Aq rfl<|AI rfl rfl<|Aa<|Bj rfl<|Ad<|BR rfl ?_);refine BU 1 rfl rfl rfl rfl (by simp[Value.cells]) rfl ?_;(refine Ab rfl<|Aa<|An ?_);exact hbad rfl (by simp[Bw,hp]) rfl rfl ⟨1,rfl⟩
  ·subst hr;have ho':=ho;obtain⟨kv,vv,iv,Lk,Lv,hi,rfl,ok,ov,oi,rfl⟩:=ho';obtain⟨ka,kc,rfl⟩:=ok.val;obtain⟨va,vc,rfl⟩:=ov.val;obtain⟨ia,ic,rfl⟩:=oi.val;have hsz:=Uk hp;refine B9 _ (bx b2 T2 [.bool false,.slice none 0 0,.slice none 0 0,.slice none 0 0]::(Lk++Lv++[hi])) (Vs.perm Adl) ?_;(refine AU rfl<|Ao rfl rfl<|Ao rfl rfl<|DW (fun _ _=>?_));rename_i b4 T4;refine A6 0 [.bool n.leaf,.slice ka n.keys.length kc,.slice va n.vals.length vc,.slice ia n.kids.length ic] rfl rfl rfl rfl (by simp[Value.cells]) rfl rfl ?_;(refine Ae rfl<|Aa<|Af<|Ad<|Ae rfl<|Bx rfl<|Ae rfl<|Ah rfl<|Bh 0 rfl rfl rfl<|Ah rfl ?_);have hrn:∀d2,Le d1 d2→(∀k∈(bx b4 T4 [.bool n.leaf,.slice ka n.keys.length kc,.slice va n.vals.length vc,.slice ia n.kids.length ic]::bx b2 T2 [.bool false,.slice none 0 0,.slice none 0 0,.slice none 0 0]::(Lk++Lv++[hi])),Le k d2)→CG d2 [.bool n.leaf,.slice ka n.keys.length kc,.slice va n.vals.length vc,.slice ia n.kids.length ic] n:=
    fun d1 hl hk=>ho.IT hl (fun h hm=>hk h (Adp _ (Adp _ hm)))
   refine Jy rfl (fun d1 hl hk=>h2 (hrn d1 hl hk) hsz) ?_;cases hr:Bm n with
   |false=>
    (refine Ah rfl<|Bx rfl<|Aw rfl rfl<|Ae rfl<|Aq rfl<|Aq rfl<|Aq rfl<|Aq rfl<|Aq rfl<|AI rfl rfl<|Aa<|Bj rfl<|Ad<|BR rfl ?_)
    refine A6 1 [.bool false,.slice none 0 0,.slice none 0 0,.slice none 0 0] rfl rfl rfl rfl (by simp) rfl rfl ?_
    (refine Ab rfl<|Aa<|An ?_)
    exact hbad rfl (by simp[Bw,hp,hr]) rfl rfl ⟨1,rfl⟩
   |true=>
    have hr':=hr
    simp only[Bm,Adc,decide_eq_true_eq] at hr'
    (refine Ah rfl<|Bx rfl<|Aw rfl rfl<|Ae rfl<|Ah rfl<|Bh 0 rfl rfl rfl<|Ah rfl ?_)
    refine JA (Q:=fun r L'=>∃h,L'=[h]∧EF 256 r (Cm n) h) rfl (fun d1 hl hk=>(h3 (hrn d1 hl hk) hr'.1 hr'.2).mono (fun e d' L' _ h=>by
     cases e with
     |returned v=>exact h
     |panicked c=>exact h
     |outgrown=>exact h)) (fun r L' ⟨h,hL,hrow⟩=>?_)
    subst hL
    (refine Ah rfl<|AJ<|Ah rfl ?_)
    refine Jy rfl (fun d1 hl hk=>h4 (hrow.bytes (hk h (Ado ..)) (by omega)) (hv.mono hl)) ?_
    by_cases hpg:Cm n=b
    ·rw[decide_eq_true hpg]
     (refine Ah rfl<|Bx rfl<|Aw rfl rfl<|Aa<|AS rfl<|Ak<|Ad<|Bh 1 rfl rfl rfl ?_)
     refine A6 2 [.bool n.leaf,.slice ka n.keys.length kc,.slice va n.vals.length vc,.slice ia n.kids.length ic] rfl rfl rfl rfl (by simp) rfl rfl ?_
     (refine Ab rfl<|Aa<|An ?_)
     refine Bd [.agg [.bool n.leaf,.slice ka n.keys.length kc,.slice va n.vals.length vc,.slice ia n.kids.length ic].toArray,vZ 0] (L':=Lk++Lv++[hi]) ⟨AV 2 rfl rfl rfl,As rfl,trivial⟩
      (Vs.drop ((Aef _ _).trans ((Aef _ _).trans (Aef _ _)))) ⟨rfl,[.bool n.leaf,.slice ka n.keys.length kc,.slice va n.vals.length vc,.slice ia n.kids.length ic],?_,?_⟩
     ·have:Bw b=some n:=by simp[Bw,hbl,hp,hr,hpg]
      rw[this];rfl
     ·have:Bw b=some n:=by simp[Bw,hbl,hp,hr,hpg]
      rw[this];exact ho
    ·rw[decide_eq_false hpg]
     (refine Ah rfl<|Bx rfl<|Aw rfl rfl<|Aa<|Bj rfl<|Ad<|BR rfl ?_)
     refine A6 2 [.bool false,.slice none 0 0,.slice none 0 0,.slice none 0 0] rfl rfl rfl rfl (by simp) rfl rfl ?_
     (refine Ab rfl<|Aa<|An ?_)
     exact hbad rfl (by simp[Bw,hp,hpg]) rfl rfl ⟨2,rfl⟩
def Qc(b:List UInt8)(a:Int):Option (List UInt8×Nat):=if a<0 then none else
 match b[a.toNat]? with
 |none=>none
 |some k=>if a.toNat+1+k.toNat>b.length then none else some ((b.drop (a.toNat+1)).take k.toNat,a.toNat+1+k.toNat)
def AaP{b x}{a:Int}{e:Nat}(h:Qc b a=some (x,e)):e≤b.length:=by
 simp only[Qc] at h;split at h
 ·cases h
 ·split at h
  ·cases h
  ·split at h
   ·cases h
   ·simp only[Option.some.injEq,Prod.mk.injEq] at h;omega
def Z5(P:Program)(f:FuncId):Prop:=∀{d v b},AM d v b→b.length≤1000→∀a:Int, -1≤a→a≤1000→
 Av P f [v,vZ a] d [] (Ret fun r d' L'=>d'=d∧((Qc b a=none∧r=.tuple #[.slice none 0 0,vZ (-1)]∧L'=[])∨
  ∃x e u g,Qc b a=some (x,e)∧r=.tuple #[u,vZ (e:Nat)]∧L'=[g]∧Ap 1 AP d u x g))
def Z5.data{P}(h:Z5 P f){d v b}(hv:AM d v b)(hb:b.length≤1000){a:Int}(h1: -1≤a)(h2:a≤1000):
  Av P f [v,vZ a] d [] (Ret fun r d' L'=>L'=[]∧∃ua uc x a',r=.tuple #[.slice ua x.length uc,vZ a']∧AM d' (.slice ua x.length uc) x∧ -1≤a'∧a'≤b.length∧((a'= -1∧Qc b a=none)∨∃e:Nat,a'=e∧Qc b a=some (x,e))):=by
 refine(h hv hb a h1 h2).DL (fun r d' L' hl ⟨hdd,hr⟩=>?_)
 rcases hr with ⟨e1,rfl,rfl⟩|⟨x,e,u,g,e1,rfl,rfl,hg⟩
 ·exact⟨d',[],Vs.refl _ _,rfl,none,0,[], -1,rfl,RSl.nil,by omega,by omega,.inl ⟨rfl,e1⟩⟩
 ·subst hdd
  obtain⟨ua,uc,rfl⟩:=hg.val
  have:=AaP e1
  exact⟨Gk.join d' g,[],Vs.freeze,rfl,ua,uc,x,e,rfl,hg.rsl A3 (by omega) (Le.AG _ _) (Le.Ba _ _),by omega,by omega,.inr ⟨e,rfl,e1⟩⟩
end Go.Gk.Node
end
section
namespace Go.Gk.Node
open Go Go.Gk
section
attribute [local irreducible] gwp gws
end
end Go.Gk.Node
end
section
namespace Go.Gk.Node
open Go Go.Gk
attribute [local irreducible] gwp gws
variable{n:Az}{k:Nat}
def Ds.mono{d d' v xs L}(o:Ds d v xs L)(hl:Le d d'):Ds d' v xs L:=
 let ⟨us,h0,hs,h1,h2,h3,h4⟩:=o
 ⟨us,h0,hs,h1,h2,fun i hi=>let ⟨u,g,k1,k2,k3⟩:=h3 i hi;⟨u,g,k1,k2,Ap.mono (R:=AP) A3 k3 hl⟩,h4⟩
def DT.mono{d d' cs L}(o:DT d cs n L)(hl:Le d d'):DT d' cs n L:=
 let ⟨kv,vv,iv,Lk,Lv,hi,e,h1,h2,h3,h4⟩:=o
 ⟨kv,vv,iv,Lk,Lv,hi,e,h1.mono hl,h2.mono hl,h3.Hk hl,h4⟩
def Qb{n:Nat}(h:n≤255):(u8n n).toNat=n:=by
 simp only[u8n];have:((n:Int) % 256).toNat=n:=by omega
 rw[this];simp;omega
def NU{x r}(h:x.length≤255):F6 (u8n x.length::(x++r))=some (x,r):=by
 simp only[F6,Qb h];rw[if_neg (by simp)];simp
def Uz{k:Int}{r}(h0:0≤k)(h1:k≤8191):Kh (F1 k++r)=some (k.toNat,r):=by
 simp only[F1,Aex,List.nil_append,Kh,Option.some.injEq,Prod.mk.injEq,and_true];have e1:((k / 256) % 256).toNat=(k / 256).toNat:=by omega
 rw[e1];have e2:(k / 256).toNat<256:=by omega
 have e3:(k % 256).toNat<256:=by omega
 have e4:∀x,x<256→(UInt8.ofNat x).toNat=x:=fun x hx=>by simp;omega
 rw[e4 _ e2,e4 _ e3];omega
def Sh(n:Az)(k:Nat):∀j,∃T,CF n (k+j)=CF n k++T
 |0=>⟨[],by simp⟩
 |j+1=>by
  obtain⟨T,h⟩:=Sh n k j;exact⟨T++((u8n (Dq n (k+j))::n.keys.getD (k+j) [])++tailD n (k+j)),by show CF n (k+j)++_++_=_;rw[h];simp only[Adf];rfl⟩
def S8(n:Az)(hk:k≤n.keys.length):∃T,Cm n=CF n k++T:=by
 obtain⟨T,h⟩:=Sh n k (n.keys.length - k);rw[show k+(n.keys.length - k)=n.keys.length by omega] at h;exact⟨T++_,by rw[Cm,h,Adf]⟩
def Xq(n:Az)(hk:k<n.keys.length):(Cm n).drop (CF n k).length=(u8n (Dq n k)::n.keys.getD k [])++(tailD n k++(Cm n).drop (CF n (k+1)).length):=by
 obtain⟨T,h⟩:=S8 n (k:=k+1) hk;rw[h];have e:CF n (k+1)=CF n k++((u8n (Dq n k)::n.keys.getD k [])++tailD n k):=by simp only[CF,Adf]
 rw[Ahw,e,Adf,Ahw,Adf]
def Jw(n:Az):∀k,k≤Bo n k
 |0=>Adi _
 |k+1=>by have:=Jw n k;simp only[Bo,D8];split<;>omega
def TG{ks}(h:Du ks ks.length=true)(hk:k<ks.length):ks[k].length≤64:=by
 have:=KS h hk;simp only[kOk,Adc,decide_eq_true_eq] at this;have e:ks.getD k []=ks[k]:=by simp[hk]
 rw[e] at this;exact this.1.2
def FG(hr:Bm n=true):(Cm n).length=256:=by
 simp only[Bm,Adc,decide_eq_true_eq] at hr;have:=Aa1 hr.1 hr.2 n.keys.length (Adi _);simp only[Cm,Adj,Aet];omega
def Vk(hr:Bm n=true):Fp (Cm n)=some n:=by
 have hr':=hr;simp only[Bm,Adc,decide_eq_true_eq] at hr';obtain⟨hs,hz⟩:=hr';have hm:n.keys.length≤255:=by
  have:=Jw n n.keys.length;simp only[AY] at hz;omega
 obtain⟨T0,hT0⟩:=S8 n (k:=0) (Aej _);have hstep:=fun k hk=>Xq n (k:=k) hk;have hd0:(Cm n).drop (CF n 0).length=T0:=by rw[hT0,Ahw]
 obtain⟨lf,ks,vs,is⟩:=n;have hs':=hs;simp only[A0,Adc] at hs';have hk:=fun k (hk:k<ks.length)=>TG hs'.1 hk;simp only at hm hT0 hstep hd0 hs';have hkl:∀k,k<ks.length→Dq ⟨lf,ks,vs,is⟩ k=(ks.getD k []).length:=fun _ _=>rfl;cases lf with
 |true=>
  have h2:=hs'.2
  simp only[if_true,Adc,decide_eq_true_eq,Adv] at h2
  obtain⟨⟨hvl,hil⟩,hva⟩:=h2
  obtain rfl:is=[]:=Adn hil
  have hpg:Cm ⟨true,ks,vs,[]⟩=1::u8n ks.length::T0:=hT0
  have items:∀k,k≤ks.length→CT true T0 [] k=some (ks.take k,vs.take k,[],(Cm ⟨true,ks,vs,[]⟩).drop (CF ⟨true,ks,vs,[]⟩ k).length):=by
   intro k;induction k with
   |zero=>intro _;simp[CT,hd0]
   |succ k ih=>
    intro hk1
    have e1:ks.getD k []=ks[k]'(by omega):=by simp[show k<ks.length by omega]
    have e2:vs.getD k []=vs[k]'(by omega):=by simp[show k<vs.length by omega]
    have e3:(vs[k]'(by omega)).length≤16:=by
     have:=hva _ (Aec (show k<vs.length by omega));simpa [HS] using this
    simp only[CT,ih (by omega)]
    rw[hstep k (by omega)]
    have:=hk k (by omega)
    rw[hkl k (by omega),e1,Aex,NU (by omega)]
    simp only[tailD,if_true,Fg,e2]
    rw[Aex,NU (by omega)]
    simp only[Option.some.injEq,Prod.mk.injEq,and_true]
    exact⟨(Aea _).symm,(Aea _).symm⟩
  have h3:=items ks.length (Adi _)
  simp only[Fp,hpg,Afx,Afy,Ahc,List.drop_zero]
  show(match F3 true T0 with|none=>none|some (is0,l0)=>_)=_
  simp only[F3,Qb hm]
  rw[hpg] at h3
  show(match CT true T0 [] ks.length with|none=>none|some (a,b,c,_)=>some (⟨true,a,b,c⟩:Az))=_
  rw[h3]
  simp only[Afi]
  rw[Afh (by omega)]
 |false=>
  have h2:=hs'.2
  simp only[Adk,if_false,Adc,decide_eq_true_eq,Adv] at h2
  obtain⟨⟨hvl,hil⟩,hia⟩:=h2
  obtain rfl:vs=[]:=Adn hvl
  have hkid:∀k (h:k<is.length),0≤is[k]∧is[k]≤8191:=fun k h=>by
   have:=hia _ (Aec h);simpa [Gj] using this
  have hpg:Cm ⟨false,ks,[],is⟩=2::u8n ks.length::(F1 (is.getD 0 0)++T0):=hT0
  have e0:is.getD 0 0=is[0]'(by omega):=by simp[show 0<is.length by omega]
  have items:∀k,k≤ks.length→CT false T0 [is[0]'(by omega)] k=some (ks.take k,[],is.take (k+1),(Cm ⟨false,ks,[],is⟩).drop (CF ⟨false,ks,[],is⟩ k).length):=by
   intro k;induction k with
   |zero=>
    intro _
    have:is.take 1=[is[0]'(by omega)]:=by rw[Aea (by omega)];simp
    simp[CT,hd0,this]
   |succ k ih=>
    intro hk1
    have e1:ks.getD k []=ks[k]'(by omega):=by simp[show k<ks.length by omega]
    have e2:is.getD (k+1) 0=is[k+1]'(by omega):=by simp[show k+1<is.length by omega]
    have e3:=hkid (k+1) (by omega)
    simp only[CT,ih (by omega)]
    rw[hstep k (by omega)]
    have:=hk k (by omega)
    rw[hkl k (by omega),e1,Aex,NU (by omega)]
    simp only[tailD,Adk,if_false,e2]
    rw[Uz e3.1 e3.2]
    simp only[Option.some.injEq,Prod.mk.injEq,and_true,true_and]
    refine⟨(Aea _).symm,?_⟩
    rw[Int.toNat_of_nonneg e3.1]
    exact(Aea _).symm
  have h3:=items ks.length (Adi _)
  have e4:=hkid 0 (by omega)
  simp only[Fp,hpg,Afx,Afy,Ahc,List.drop_zero]
  show(match F3 false (F1 (is.getD 0 0)++T0) with|none=>none|some (is0,l0)=>_)=_
  simp only[F3,e0,Uz e4.1 e4.2,Qb hm]
  rw[hpg] at h3
  rw[Int.toNat_of_nonneg e4.1]
  show(match CT false T0 [is[0]] ks.length with|none=>none|some (a,b,c,_)=>some (⟨false,a,b,c⟩:Az))=_
  rw[h3]
  simp only[Afi]
  rw[Afh (by omega)]
def Xd(hr:Bm n=true):Bw (Cm n)=some n:=by
 unfold Bw;rw[if_pos (FG hr),Vk hr];exact if_pos ⟨hr,rfl⟩
def OG{b}(h:Bw b=some n):Bm n=true∧Cm n=b:=by
 unfold Bw at h;split at h
 ·split at h
  ·split at h
   ·rename_i h1;cases h;exact h1
   ·cases h
  ·cases h
 ·cases h
def G9{α}(R:Ac→List Value→α→Prop)(P:Program)(f:FuncId):Prop:=∀{d v w}{xs ys:List α},RSl 1 R d v xs→RSl 1 R d w ys→xs.length≤1000000001→ys.length≤1000000001→
 Av P f [v,w] d [] (Ret fun r d' L'=>d'=d∧∃h,L'=[h]∧Ap 1 R d r (xs++ys) h)
def LS:A5:=⟨15,[(.tmp 4)],(sR (o1 4 (.mv nS) .done) (sR (om 5 0<|oL 6 5<|om 7 1<|oL 8 7<|ob 9 .add 6 8<|o1 10 (.mks 1 24 [(.slice none 0 0)] z0 9)<|om 11 0<|o1 12 (.app 1 24 [(.slice none 0 0)] 10 11)<|om 13 1<|o1 14 (.app 1 24 [(.slice none 0 0)] 12 13)<|om 4 14 .done) .ret))⟩
def Uj{P f}(hd:dec P f=some LS):G9 RBs P f:=by
 intro d v w xs ys hv hw hx hy;obtain⟨a,c,rfl⟩:=RSl.val hv;obtain⟨a2,c2,rfl⟩:=RSl.val hw;refine AF hd (Ada rfl) ?_;show gwp P _ _ _ _ _;(refine Ad<|Al rfl<|Aa<|Ad<|Al rfl<|AK rfl<|Al rfl<|AK rfl<|AL rfl rfl (by omega) (by omega) ?_);refine HT (n:=0) (c:=xs.length+ys.length) rfl (int_eq (by omega)) (by omega) (by omega) (by omega) (fun b8 T8=>?_);(apply Al;rfl);have o0:Ap 1 RBs d (.slice (some ⟨b8,0,none⟩) 0 (xs.length+ys.length)) [] (bx b8 T8 (Bq [.slice none 0 0] ((xs.length+ys.length)*1))):=
  ⟨[],BT.mk rfl (by simp) (Aej _) (by omega) (by simp[Bq]) rfl,fun i hi=>absurd hi (Agm i)⟩
 refine EL (xs:=[]) (ys:=xs) 0 rfl rfl o0 rfl (RSl.src (R:=RBs) (xs:=xs) hv FL (by omega) _) (by omega) (by simp;omega) (by simp;omega) (fun v5 h5 hrow5=>?_);(apply Al;rfl);refine EL (xs:=[]++xs) (ys:=ys) 0 rfl rfl hrow5 rfl (RSl.src (R:=RBs) (xs:=ys) hw FL (by omega) _) (by omega) (by simp;omega) (by simp;omega) (fun v6 h6 hrow6=>?_);(refine AJ<|Aa<|An ?_);exact BO (L':=[h6]) rfl (Adb _) ⟨rfl,h6,rfl,hrow6⟩
def Nl:A5:=⟨15,[(.tmp 4)],(sR (o1 4 (.mv nS) .done) (sR (om 5 0<|oL 6 5<|om 7 1<|oL 8 7<|ob 9 .add 6 8<|o1 10 (.mks 1 8 [(vZ 0)] z0 9)<|om 11 0<|o1 12 (.app 1 8 [(vZ 0)] 10 11)<|om 13 1<|o1 14 (.app 1 8 [(vZ 0)] 12 13)<|om 4 14 .done) .ret))⟩
def Vz{P f}(hd:dec P f=some Nl):G9 Bb P f:=by
 intro d v w xs ys hv hw hx hy;obtain⟨a,c,rfl⟩:=RSl.val hv;obtain⟨a2,c2,rfl⟩:=RSl.val hw;refine AF hd (Ada rfl) ?_;show gwp P _ _ _ _ _;(refine Ad<|Al rfl<|Aa<|Ad<|Al rfl<|AK rfl<|Al rfl<|AK rfl<|AL rfl rfl (by omega) (by omega) ?_);refine HT (n:=0) (c:=xs.length+ys.length) rfl (int_eq (by omega)) (by omega) (by omega) (by omega) (fun b8 T8=>?_);(apply Al;rfl);have o0:Ap 1 Bb d (.slice (some ⟨b8,0,none⟩) 0 (xs.length+ys.length)) [] (bx b8 T8 (Bq [vZ 0] ((xs.length+ys.length)*1))):=
  ⟨[],BT.mk rfl (by simp) (Aej _) (by omega) (by simp[Bq]) rfl,fun i hi=>absurd hi (Agm i)⟩
 refine EL (xs:=[]) (ys:=xs) 0 rfl rfl o0 rfl (RSl.src (R:=Bb) (xs:=xs) hv CX (by omega) _) (by omega) (by simp;omega) (by simp;omega) (fun v5 h5 hrow5=>?_);(apply Al;rfl);refine EL (xs:=[]++xs) (ys:=ys) 0 rfl rfl hrow5 rfl (RSl.src (R:=Bb) (xs:=ys) hw CX (by omega) _) (by omega) (by simp;omega) (by simp;omega) (fun v6 h6 hrow6=>?_);(refine AJ<|Aa<|An ?_);exact BO (L':=[h6]) rfl (Adb _) ⟨rfl,h6,rfl,hrow6⟩
def BE(a b:Az)(key:List UInt8):Az:=if a.leaf then⟨true,a.keys++b.keys,a.vals++b.vals,[]⟩ else⟨false,a.keys++[key]++b.keys,[],a.kids++b.kids⟩
def TJ(P:Program)(f:FuncId):Prop:=∀{d ca cb kv}{a b:Az}{key},CG d ca a→CG d cb b→AM d kv key→a.keys.length+b.keys.length≤100000000→a.vals.length+b.vals.length≤100000000→a.kids.length+b.kids.length≤100000000→
 Av P f [.agg ca.toArray,.agg cb.toArray,kv] d [] (Ret fun r d' L'=>L'=[]∧∃cs,r=.agg cs.toArray∧CG d' cs (BE a b key))
def Ub(a0 a1 a2:Nat):A5:=⟨37,[(.cell 6 (some 4))],(sR (o1 3 (.box 0)<|o1 4 (.box 1)<|o1 6 (.alo (.agg #[(.bool false),(.slice none 0 0),(.slice none 0 0),(.slice none 0 0)])) .done) (.seq (sR (oj 7 0 3<|ol 8 7 .done) (.cond 8 (.seq (.reg true (p1 9 (.fld 1 3)<|pl 10 9<|p1 11 (.fld 1 4)<|pl 12 11<|p1 15 (.fld 2 3)<|pl 16 15<|p1 17 (.fld 2 4)<|pl 18 17<|oc 13 a0 [10,12]<|oc 14 a1 [13]<|oc 19 a0 [16,18]<|oc 20 a1 [19]<|p1 21 (.bld [(0,1),(1,1),(2,1),(3,1)] [(.bool false),(.slice none 0 0),(.slice none 0 0),(.slice none 0 0)] [(0,(.const (.bool true))),(1,14),(2,20)]) (.bar (o0 (.st 4 6 21) .done)))) .ret) .skip)) (.seq (.reg true (p1 22 (.fld 1 3)<|pl 23 22<|pm 24 2<|p1 27 (.fld 1 4)<|pl 28 27<|p1 31 (.fld 3 3)<|pl 32 31<|p1 33 (.fld 3 4)<|pl 34 33<|o1 25 (.bsl 1 1 [(.slice none 0 0)] [(0,24)])<|oc 26 a0 [23,25]<|oc 29 a0 [26,28]<|oc 30 a1 [29]<|oc 35 a2 [32,34]<|p1 36 (.bld [(0,1),(1,1),(2,1),(3,1)] [(.bool false),(.slice none 0 0),(.slice none 0 0),(.slice none 0 0)] [(1,30),(3,35)]) (.bar (o0 (.st 4 6 36) .done)))) .ret)))⟩
def Aat{P f f1 f2 f3}(hd:dec P f=some (Ub f1 f2 f3))(h1:G9 RBs P f1)(h2:RO P f2)(h3:G9 Bb P f3):TJ P f:=by
 intro d ca cb kv a b key ha hb hk hb1 hb2 hb3;obtain⟨ak,av,ai,rfl,ak1,av1,ai1⟩:=ha;obtain⟨bk,bv,bi,rfl,bk1,bv1,bi1⟩:=hb;refine AF hd (Ada rfl) ?_;obtain⟨aka,akc,rfl⟩:=RSl.val ak1;obtain⟨ava,avc,rfl⟩:=RSl.val av1;obtain⟨aia,aic,rfl⟩:=RSl.val ai1;obtain⟨bka,bkc,rfl⟩:=RSl.val bk1;obtain⟨bva,bvc,rfl⟩:=RSl.val bv1;obtain⟨bia,bic,rfl⟩:=RSl.val bi1;obtain⟨ka,kc,rfl⟩:=RSl.val hk;show gwp P _ _ _ _ _;apply Af;apply AB;refine Cx (l:=[.bool a.leaf,.slice aka a.keys.length akc,.slice ava a.vals.length avc,.slice aia a.kids.length aic]) rfl (fun b3 T3=>?_);refine Cx (l:=[.bool b.leaf,.slice bka b.keys.length bkc,.slice bva b.vals.length bvc,.slice bia b.kids.length bic]) rfl (fun b4 T4=>?_);(refine DW (fun _ _=>Aa<|Af<|Ad<|Ai rfl<|Ag rfl (Aj 2 rfl rfl)<|Aa ?_));rename_i b6 T6;cases hlf:a.leaf with
 |true=>
  (refine Bj rfl<|Af<|Bu<|Ai rfl<|Ag rfl (Aj 2 rfl rfl)<|Ai rfl<|Ag rfl (Aj 1 rfl rfl)<|Ai rfl<|Ag rfl (Aj 2 rfl rfl)<|Ai rfl<|Ag rfl (Aj 1 rfl rfl) ?_)
  refine Bl rfl (h1 ak1 bk1 (by omega) (by omega)) (fun r d1 L1 _ ⟨hdd,g,hL,og⟩=>?_)
  subst hdd;subst hL
  refine MB (fun d2 hl2 hg2=>?_)
  have r1:=og.rsl Fa (by omega) hl2 hg2
  refine Bl rfl (h2 r1 (by simp;omega)) (fun r d3 L3 _ ⟨hdd,o3⟩=>?_)
  subst hdd
  refine SS (fun d4 hl4 hg4=>?_)
  have r3:=o3.R0 hl4 (fun h hm=>hg4 h (Adw _ hm))
  refine Bl rfl (h1 (Di.mono av1 (hl2.trans hl4)) (Di.mono bv1 (hl2.trans hl4)) (by omega) (by omega)) (fun r d5 L5 _ ⟨hdd,g5,hL,og5⟩=>?_)
  subst hdd;subst hL
  refine MB (fun d6 hl6 hg6=>?_)
  have r5:=og5.rsl Fa (by omega) hl6 hg6
  refine Bl rfl (h2 r5 (by simp;omega)) (fun r d7 L7 _ ⟨hdd,o7⟩=>?_)
  subst hdd
  obtain⟨o3a,o3c,rfl⟩:=o3.val
  obtain⟨o7a,o7c,rfl⟩:=o7.val
  refine BR (cs:=[.bool true,.slice o3a (a.keys++b.keys).length o3c,.slice o7a (a.vals++b.vals).length o7c,.slice none 0 0]) rfl ?_
  (apply Ch)
  refine A6 0 [.bool true,.slice o3a (a.keys++b.keys).length o3c,.slice o7a (a.vals++b.vals).length o7c,.slice none 0 0] rfl rfl rfl rfl (by simp[Value.cells]) rfl rfl ?_
  (refine Aa<|An ?_)
  refine AbH [.agg [.bool true,.slice o3a (a.keys++b.keys).length o3c,.slice o7a (a.vals++b.vals).length o7c,.slice none 0 0].toArray] ⟨AV 0 rfl rfl rfl,trivial⟩ (fun d8 hl8 hg8=>⟨rfl,_,rfl,?_⟩)
  refine⟨.slice o3a (a.keys++b.keys).length o3c,.slice o7a (a.vals++b.vals).length o7c,.slice none 0 0,by simp[BE,hlf],?_,?_,?_⟩
  ·simp only[BE,hlf,if_true];exact Di.mono r3 (hl6.trans hl8)
  ·simp only[BE,hlf,if_true];exact o7.R0 hl8 (fun h hm=>hg8 h (by simp[hm]))
  ·simp only[BE,hlf,if_true];exact RSl.nil
 |false=>
  (refine AS rfl<|Ak<|Af ?_)
  refine Bu ?_
  (refine Ai rfl<|Ag rfl (Aj 2 rfl rfl)<|Al rfl<|Ai rfl<|Ag rfl (Aj 1 rfl rfl)<|Ai rfl<|Ag rfl (Aj 2 rfl rfl)<|Ai rfl<|Ag rfl (Aj 1 rfl rfl) ?_)
  refine DE (cs:=[.slice ka key.length kc]) (by omega) rfl (fun b8 T8=>?_)
  refine MB (fun d0 hl0 hg0=>?_)
  have r0:=Abl hg0 (hk.mono hl0)
  refine Bl rfl (h1 (Di.mono ak1 hl0) r0 (by omega) (by simp)) (fun r d1 L1 _ ⟨hdd,g,hL,og⟩=>?_)
  subst hdd;subst hL
  refine MB (fun d2 hl2 hg2=>?_)
  have r1:=og.rsl Fa (by omega) hl2 hg2
  refine Bl rfl (h1 r1 (Di.mono bk1 (hl0.trans hl2)) (by simp;omega) (by omega)) (fun r d3 L3 _ ⟨hdd,g3,hL,og3⟩=>?_)
  subst hdd;subst hL
  refine MB (fun d4 hl4 hg4=>?_)
  have r3:=og3.rsl Fa (by omega) hl4 hg4
  refine Bl rfl (h2 r3 (by simp;omega)) (fun r d5 L5 _ ⟨hdd,o5⟩=>?_)
  subst hdd
  refine SS (fun d6 hl6 hg6=>?_)
  have r5:=o5.R0 hl6 (fun h hm=>hg6 h (Adw _ hm))
  refine Bl rfl (h3 (C5.mono ai1 (hl0.trans (hl2.trans (hl4.trans hl6)))) (C5.mono bi1 (hl0.trans (hl2.trans (hl4.trans hl6)))) (by omega) (by omega)) (fun r d7 L7 _ ⟨hdd,g7,hL,og7⟩=>?_)
  subst hdd;subst hL
  obtain⟨o5a,o5c,rfl⟩:=o5.val
  obtain⟨o7a,o7c,rfl⟩:=og7.val
  refine BR (cs:=[.bool false,.slice o5a (a.keys++[key]++b.keys).length o5c,.slice none 0 0,.slice o7a (a.kids++b.kids).length o7c]) rfl ?_
  (apply Ch)
  refine A6 0 [.bool false,.slice o5a (a.keys++[key]++b.keys).length o5c,.slice none 0 0,.slice o7a (a.kids++b.kids).length o7c] rfl rfl rfl rfl (by simp[Value.cells]) rfl rfl ?_
  (refine Aa<|An ?_)
  refine AbH [.agg [.bool false,.slice o5a (a.keys++[key]++b.keys).length o5c,.slice none 0 0,.slice o7a (a.kids++b.kids).length o7c].toArray] ⟨AV 0 rfl rfl rfl,trivial⟩ (fun d8 hl8 hg8=>⟨rfl,_,rfl,?_⟩)
  refine⟨.slice o5a (a.keys++[key]++b.keys).length o5c,.slice none 0 0,.slice o7a (a.kids++b.kids).length o7c,by simp[BE,hlf],?_,?_,?_⟩
  ·simp only[BE,hlf,Adk,if_false];exact Di.mono r5 hl8
  ·simp only[BE,hlf,Adk,if_false];exact RSl.nil
  ·simp only[BE,hlf,Adk,if_false];exact og7.rsl B2 (by omega) hl8 (hg8 _ (by simp))
def G0{ks}:∀{m:Nat},Du ks m=true↔∀k,k<m→kOk ks k=true
 |0=>⟨fun _ k h=>by omega,fun _=>rfl⟩
 |m+1=>by
  simp only[Du,Adc];rw[G0 (m:=m)];constructor
  ·intro ⟨h1,h2⟩ k hk;by_cases e:k=m
   ·subst e;exact h2
   ·exact h1 k (by omega)
  ·exact fun h=>⟨fun k hk=>h k (by omega),h m (by omega)⟩
def No{ks}(h:Du ks ks.length=true)(a:Nat):Du (ks.take a) (ks.take a).length=true:=by
 rw[G0] at h⊢;intro k hk;simp only[Adz] at hk;have:=h k (by omega);have e:∀j,j≤k→(ks.take a).getD j []=ks.getD j []:=fun j hj=>by
  simp[Aha,Aew (show j<a by omega)]
 simpa only[kOk,e k (Adi _),e (k - 1) (by omega)] using this
def Nr{ks}(h:Du ks ks.length=true)(a:Nat):Du (ks.drop a) (ks.drop a).length=true:=by
 rw[G0] at h⊢;intro k hk;simp only[Adr] at hk;have:=h (a+k) (by omega);have e:∀j,(ks.drop a).getD j []=ks.getD (a+j) []:=fun j=>by simp[Aha,Afe]
 simp only[kOk,e,Adc,Bool.or_eq_true,beq_iff_eq] at this⊢;refine⟨this.1,?_⟩
 by_cases h0:k=0
 ·exact .inl h0
 ·refine .inr ?_;rcases this.2 with h1|h1
  ·omega
  ·rwa [show a+(k - 1)=a+k - 1 by omega]
def Ht(n n':Az)(hl:n'.leaf=n.leaf){a:Nat}(hk:∀j,j<a→Dq n' j=Dq n j)(hv:n.leaf=true→∀j,j<a→Fg n' j=Fg n j):∀k,k≤a→Bo n' k=Bo n k
 |0,_=>rfl
 |k+1,h=>by
  simp only[Bo,Ht n n' hl hk hv k (by omega),D8,hl,hk k (by omega)];cases e:n.leaf
  ·simp
  ·simp[hv e k (by omega)]
def HB(n n':Az)(hl:n'.leaf=n.leaf){a:Nat}(hk:∀j,Dq n' j=Dq n (a+j))(hv:n.leaf=true→∀j,Fg n' j=Fg n (a+j)):∀k,Bo n' k+Bo n a=Bo n (a+k)
 |0=>by simp[Bo]
 |k+1=>by
  have:=HB n n' hl hk hv k;show Bo n' k+D8 n' k+Bo n a=Bo n (a+k)+D8 n (a+k);simp only[D8,hl,hk k];cases e:n.leaf
  ·simp only[Adk,if_false];omega
  ·simp only[if_true,hv e k];omega
def QV(n:Az):∀f a,a≤n.keys.length - 1→n.keys.length≤a+f→(∀j,j<a→2*Cw n j<Cw n n.keys.length)→
  GQ n f a≤n.keys.length - 1∧(∀j,j<GQ n f a→2*Cw n j<Cw n n.keys.length)∧(GQ n f a=n.keys.length - 1∨Cw n n.keys.length≤2*Cw n (GQ n f a))
 |0,a,h1,h2,h3=>⟨h1,h3,.inl (by simp only[GQ];omega)⟩
 |f+1,a,h1,h2,h3=>by
  simp only[GQ];split
  ·rename_i h;refine QV n f (a+1) (by omega) (by omega) (fun j hj=>?_);by_cases e:j=a
   ·subst e;exact h.2
   ·exact h3 j (by omega)
  ·rename_i h;refine⟨h1,h3,?_⟩
   by_cases e:a=n.keys.length - 1
   ·exact .inl e
   ·exact .inr (by omega)
def N4(n:Az):atD n≤n.keys.length - 1∧(∀j,j<atD n→2*Cw n j<Cw n n.keys.length)∧(atD n=n.keys.length - 1∨Cw n n.keys.length≤2*Cw n (atD n)):=
 QV n _ 0 (Aej _) (by omega) (fun j hj=>by omega)
def Aau(hs:A0 n=true)(hk:k<n.keys.length):D8 n k≤if n.leaf then 82 else 65:=by
 simp only[A0,Adc] at hs;have h1:=TG hs.1 hk;have e1:Dq n k=n.keys[k].length:=by simp[Dq,hk]
 simp only[D8];cases hlf:n.leaf with
 |false=>simp only[Adk,if_false];omega
 |true=>
  have h2:=hs.2
  simp only[hlf,if_true,Adc,decide_eq_true_eq,Adv] at h2
  have hv:k<n.vals.length:=by omega
  have h3:=h2.2 _ (Aec hv)
  simp only[HS,decide_eq_true_eq] at h3
  have e2:Fg n k=n.vals[k].length:=by simp[Fg,hv]
  simp only[if_true];omega
def Sg(hs:A0 n=true)(hk:k<n.keys.length):Cw n (k+1)≤Cw n k+if n.leaf then 82 else 67:=by
 have:=Aau hs hk;simp only[Cw,wD];cases hlf:n.leaf<;>simp only[hlf,if_true,Adk,if_false] at this⊢<;>omega
def QO(h:n.leaf=true):∀k,Cw n k=Bo n k
 |0=>rfl
 |k+1=>by simp only[Cw,Bo,wD,h,if_true,QO h k];omega
def PA(h:n.leaf=false):∀k,Cw n k=Bo n k+2*k
 |0=>rfl
 |k+1=>by simp only[Cw,Bo,wD,h,Adk,if_false,PA h k];omega
def Aca(n:Az)(k:Nat):1≤wD n k:=by simp only[wD,D8];split<;>omega
def Q8{α}{p:α→Bool}{xs:List α}(h:xs.all p=true)(a:Nat):(xs.take a).all p=true:=by
 rw[Adv] at h⊢;exact fun x hx=>h x (List.mem_of_mem_take hx)
def QN{α}{p:α→Bool}{xs:List α}(h:xs.all p=true)(a:Nat):(xs.drop a).all p=true:=by
 rw[Adv] at h⊢;exact fun x hx=>h x (Aft hx)
def getD_take{l:List (List UInt8)}{a j:Nat}(h:j<a):(l.take a).getD j []=l.getD j []:=by simp[Aha,Aew h]
def Gw{l:List (List UInt8)}{a j:Nat}:(l.drop a).getD j []=l.getD (a+j) []:=by simp[Aha,Afe]
structure Pl (n:Az):Prop where
 r1:Bm (AZ n)=true
 r2:Bm (Bc n)=true
 n1:0<(AZ n).keys.length
 n2:0<(Bc n).keys.length
 lo:∀i (h:i<(AZ n).keys.length),Op.bytesLess (AZ n).keys[i] (BD n)=true
 hi:∀i (h:i<(Bc n).keys.length),Op.bytesLess (BD n) (Bc n).keys[i]=true∨((Bc n).keys[i]=BD n∧n.leaf=true)
 all:BE (AZ n) (Bc n) (BD n)=n
def PU{n:Az}(hz:AY n≤if n.leaf=true then 340 else 440)(hc:Dj n=true):Pl n:=by
 have hc':=hc;simp only[Dj,Adc,decide_eq_true_eq] at hc';obtain⟨hs,hm⟩:=hc';have hs':=hs;simp only[A0,Adc] at hs';obtain⟨hks,hrest⟩:=hs';obtain⟨ha1,ha2,ha3⟩:=N4 n;have hpos:0<Cw n n.keys.length:=by
  have h0:0<n.keys.length:=by split at hm<;>omega
  have:=Ld n (k:=1) (m:=n.keys.length) h0;have:=Aca n 0;simp only[Cw] at*;omega
 have hstep:=fun k hk=>Sg hs (k:=k) hk;have hrise:=fun j i hj hi=>KQ hks (j:=j) (i:=i) hj hi;cases hlf:n.leaf with
 |true=>
  simp only[hlf,if_true] at hm hrest hz
  simp only[Adc,decide_eq_true_eq] at hrest
  obtain⟨⟨hvl,hil⟩,hva⟩:=hrest
  have eL:AZ n=⟨true,n.keys.take (atD n),n.vals.take (atD n),[]⟩:=by simp[AZ,hc,hlf]
  have eR:Bc n=⟨true,n.keys.drop (atD n),n.vals.drop (atD n),[]⟩:=by simp[Bc,hc,hlf]
  have eK:BD n=n.keys[atD n]'(by omega):=by simp[BD,hc,hlf,show atD n<n.keys.length by omega]
  have h1:1≤atD n:=by
   rcases ha3 with h|h
   ·omega
   ·by_cases e:atD n=0
    ·rw[e] at h;simp only[Cw] at h;omega
    ·omega
  have hall:AY n=2+Bo n n.keys.length:=by simp[AY,hlf]
  have hp:=QO hlf
  have hb:=hstep (atD n - 1) (by omega)
  rw[show atD n - 1+1=atD n by omega,hlf,if_pos rfl] at hb
  have hb2:=ha2 (atD n - 1) (by omega)
  have hcl:Bo (AZ n) (AZ n).keys.length=Bo n (atD n):=by
   rw[eL];simp only[Adz,Ahn (show atD n≤n.keys.length by omega)];exact Ht n _ hlf.symm (a:=atD n) (fun j hj=>by simp only[Dq,getD_take hj]) (fun _ j hj=>by simp only[Fg,getD_take hj]) _ (Adi _)
  have hcr:Bo (Bc n) (Bc n).keys.length+Bo n (atD n)=Bo n n.keys.length:=by
   rw[eR];simp only[Adr];have:=HB n ⟨true,n.keys.drop (atD n),n.vals.drop (atD n),[]⟩ hlf.symm (a:=atD n) (fun j=>by simp only[Dq,Gw]) (fun _ j=>by simp only[Fg,Gw]) (n.keys.length - atD n);rw[this];congr 1;omega
  refine⟨?_,?_,?_,?_,?_,?_,?_⟩
  ·simp only[Bm,Adc,decide_eq_true_eq]
   refine⟨?_,?_⟩
   ·rw[eL];simp only[A0,if_true,Adc,decide_eq_true_eq]
    exact⟨No hks _,⟨by simp[hvl],rfl⟩,Q8 hva _⟩
   ·have:AY (AZ n)=2+Bo (AZ n) (AZ n).keys.length:=by rw[eL];simp[AY]
    rw[this,hcl,←hp]
    rw[hp n.keys.length] at hb2
    omega
  ·simp only[Bm,Adc,decide_eq_true_eq]
   refine⟨?_,?_⟩
   ·rw[eR];simp only[A0,if_true,Adc,decide_eq_true_eq]
    exact⟨Nr hks _,⟨by simp[hvl],rfl⟩,QN hva _⟩
   ·have:AY (Bc n)=2+Bo (Bc n) (Bc n).keys.length:=by rw[eR];simp[AY]
    rw[this]
    rcases ha3 with h|h
    ·have h5:=hstep (atD n) (by omega)
     rw[hlf,if_pos rfl,show atD n+1=n.keys.length by omega,hp,hp] at h5
     omega
    ·rw[hp,hp] at h;omega
  ·rw[eL];simp;omega
  ·rw[eR];simp;omega
  ·intro i hi
   simp only[eL,eK] at hi⊢
   simp only[Adz] at hi
   simp only[List.getElem_take]
   exact hrise _ _ (by omega) (by omega)
  ·intro i hi
   simp only[eR,eK] at hi⊢
   simp only[Adr] at hi
   simp only[Aie]
   by_cases h0:i=0
   ·subst h0;exact .inr ⟨rfl,hlf⟩
   ·exact .inl (hrise (atD n+i) (atD n) (by omega) (by omega))
  ·rw[eL,eR]
   obtain⟨lf,ks,vs,is⟩:=n
   simp only at hlf hil
   obtain rfl:=Adn hil
   subst hlf
   simp[BE]
 |false=>
  simp only[hlf,Adk,if_false] at hm hrest hz
  simp only[Adc,decide_eq_true_eq] at hrest
  obtain⟨⟨hvl,hil⟩,hia⟩:=hrest
  have ha4:at2 n≤n.keys.length - 1:=by simp only[at2];omega
  have ha5:2≤at2 n:=by simp only[at2];omega
  have ha6:atD n≤at2 n:=by simp only[at2];omega
  have eL:AZ n=⟨false,n.keys.take (at2 n - 1),[],n.kids.take (at2 n)⟩:=by simp[AZ,hc,hlf]
  have eR:Bc n=⟨false,n.keys.drop (at2 n),[],n.kids.drop (at2 n)⟩:=by simp[Bc,hc,hlf]
  have eK:BD n=n.keys[at2 n - 1]'(by omega):=by simp[BD,hc,hlf,show at2 n - 1<n.keys.length by omega]
  have hall:AY n=2+2*(n.keys.length+1)+Bo n n.keys.length:=by simp only[AY,hlf,Adk,if_false,hil]
  have hp:=PA hlf
  have hpm:=hp n.keys.length
  have hcl:Bo (AZ n) (AZ n).keys.length=Bo n (at2 n - 1):=by
   rw[eL];simp only[Adz,Ahn (show at2 n - 1≤n.keys.length by omega)];exact Ht n _ hlf.symm (a:=at2 n - 1) (fun j hj=>by simp only[Dq,getD_take hj]) (fun h=>by rw[hlf] at h;cases h) _ (Adi _)
  have hcr:Bo (Bc n) (Bc n).keys.length+Bo n (at2 n)=Bo n n.keys.length:=by
   rw[eR];simp only[Adr];have:=HB n ⟨false,n.keys.drop (at2 n),[],n.kids.drop (at2 n)⟩ hlf.symm (a:=at2 n) (fun j=>by simp only[Dq,Gw]) (fun h=>by rw[hlf] at h;cases h) (n.keys.length - at2 n);rw[this];congr 1;omega
  refine⟨?_,?_,?_,?_,?_,?_,?_⟩
  ·simp only[Bm,Adc,decide_eq_true_eq]
   refine⟨?_,?_⟩
   ·rw[eL];simp only[A0,Adk,if_false,Adc,decide_eq_true_eq]
    exact⟨No hks _,⟨rfl,by simp only[Adz];omega⟩,Q8 hia _⟩
   ·have:AY (AZ n)=2+2*at2 n+Bo (AZ n) (AZ n).keys.length:=by
     rw[eL];simp only[AY,Adk,if_false,Adz,Ahn (show at2 n≤n.kids.length by omega)]
    rw[this,hcl]
    have h7:=hp (at2 n - 1)
    by_cases h8:at2 n=2
    ·have h9:=hstep 0 (by omega)
     simp only[hlf,Adk,if_false,Cw] at h9
     have h10:=hp 1
     simp only[Cw] at h10
     rw[h8] at h7⊢
     simp only[Nat.reduceSub,Cw] at h7⊢
     omega
    ·have h9:=ha2 (at2 n - 1) (by simp only[at2] at h8⊢;omega)
     omega
  ·simp only[Bm,Adc,decide_eq_true_eq]
   refine⟨?_,?_⟩
   ·rw[eR];simp only[A0,Adk,if_false,Adc,decide_eq_true_eq]
    exact⟨Nr hks _,⟨rfl,by simp only[Adr];omega⟩,QN hia _⟩
   ·have:AY (Bc n)=2+2*(n.kids.length - at2 n)+Bo (Bc n) (Bc n).keys.length:=by
     rw[eR];simp only[AY,Adk,if_false,Adr]
    rw[this]
    have h7:=hp (at2 n)
    rcases ha3 with h|h
    ·have h8:at2 n=n.keys.length - 1:=by omega
     have h5:=hstep (at2 n) (by omega)
     simp only[hlf,Adk,if_false] at h5
     rw[show at2 n+1=n.keys.length by omega] at h5
     omega
    ·have h5:=Ld n ha6
     omega
  ·rw[eL];simp;omega
  ·rw[eR];simp;omega
  ·intro i hi
   simp only[eL,eK] at hi⊢
   simp only[Adz] at hi
   simp only[List.getElem_take]
   exact hrise _ _ (by omega) (by omega)
  ·intro i hi
   simp only[eR,eK] at hi⊢
   simp only[Adr] at hi
   simp only[Aie]
   exact .inl (hrise (at2 n+i) (at2 n - 1) (by omega) (by omega))
  ·have hk1:n.keys.take (at2 n - 1)++[n.keys[at2 n - 1]'(by omega)]++n.keys.drop (at2 n)=n.keys:=by
    rw[←Aea,show at2 n - 1+1=at2 n by omega,Ahh]
   rw[eL,eR,eK]
   simp only[BE,Adk,if_false]
   rw[hk1,Ahh]
   obtain⟨lf,ks,vs,is⟩:=n
   simp only at hlf hvl⊢
   obtain rfl:=Adn hvl
   subst hlf;rfl
end Go.Gk.Node
end
section
namespace Go.Gk
open Go
variable{x:Operand}{j:Int}
section
section
variable {P:Program}{pan:List PanicEntry→AR}{Qn:Env→AR}{Ls L:List Ac}{ρ:Env}{d:Ac}{s:GS}{t:Nat}{tk:Bool}
def C3{b o n c l h m:Nat}{lo hi mx:Option Operand}(ex:ev ρ x=.slice (some ⟨b,o,none⟩) n c)(hc:D3 n c (lo.map (ev ρ)) (hi.map (ev ρ)) (mx.map (ev ρ))=some (l,h,m))
  (k:∀o',(m≠l→o'=o+l)→gws P pan Qn s Ls (upd ρ t (.slice (some ⟨b,o',none⟩) (h - l) (m - l))) d L):gws P pan Qn (.op tk ⟨some t,none,.sl 1 x lo hi mx⟩ s) Ls ρ d L:=by
 by_cases hml:m=l
 ·refine w_q rfl (v:=.slice (some ⟨b,o,none⟩) (h - l) (m - l)) ⟨some ⟨b,o,none⟩,n,c,l,h,m,ex,fun q=>absurd hml q,hc,by rw[if_pos hml]⟩ (k o (fun q=>absurd hml q))
 ·refine w_q rfl (v:=.slice (some ⟨b,o+l,none⟩) (h - l) (m - l)) ⟨some ⟨b,o,none⟩,n,c,l,h,m,ex,fun _ a' ha=>by cases ha;rfl,hc,by rw[if_neg hml];simp⟩ (k (o+l) (fun _=>rfl))
def CY{n c:Nat}{v k}{i:Nat}(ev:v=.int k j)(hj:j=(i:Int))(hi:i≤n):D3 n c (some v) none none=some (i,n,c):=by
 subst ev;subst hj;simp only[D3,Hf,GH,Hb,Option.isSome_none,Adk,if_false,Afg,bnd];rw[if_pos (by omega)];simp
def Jv{n c:Nat}{v k}{i:Nat}(ev:v=.int k j)(hj:j=(i:Int))(hi:i≤c):D3 n c none (some v) none=some (0,i,c):=by
 subst ev;subst hj;simp only[D3,Hf,GH,Hb,Afg,Option.map_some,bnd];rw[if_pos (by omega)];simp
def U0{n c:Nat}{v w k k'}{j':Int}{i i':Nat}(ev:v=.int k j)(ew:w=.int k' j')(hj:j=(i:Int))(hj':j'=(i':Int))(hi:i≤i')(hi':i'≤c):D3 n c (some v) (some w) none=some (i,i',c):=by
 subst ev;subst hj;subst ew;subst hj';simp only[D3,Hf,GH,Hb,Afg,bnd];rw[if_pos (by omega),Afg,if_pos (by omega)];simp
def U1{n c:Nat}{v w u k k' k''}{j' j'':Int}{i i' i'':Nat}(ev:v=.int k j)(ew:w=.int k' j')(eu:u=.int k'' j'')(hj:j=(i:Int))(hj':j'=(i':Int))(hj'':j''=(i'':Int))(hi:i≤i')(hi':i'≤i'')(hi'':i''≤c):
  D3 n c (some v) (some w) (some u)=some (i,i',i''):=by
 subst ev;subst hj;subst ew;subst hj';subst eu;subst hj''
 simp only[D3,Hf,GH,Hb,bnd]
 rw[if_pos (by omega),Afg,if_pos (by omega),Afg,if_pos (by omega)];simp
def ZP{by_:Nat}{z y}{b o n c m:Nat}{B5}(ex:ev ρ x=.slice (some ⟨b,o,none⟩) n c)(ey:ev ρ y=vZ j)(hj:j=(m:Int))(hlt:c<n+m)(hmax:n+m≤140737488355328)(hb:(n+m)*by_≤140737488355328)(hl:B5.length=n)
  (ho:∀i u,B5[i]?=some u→HC d (Ls++L++L) ⟨b,o+i,none⟩ u)
  (k:∀b T c',n+m≤c'→c'≤9223372036854775807→gws P pan Qn s Ls (upd ρ t (.slice (some ⟨b,0,none⟩) (n+m) c')) d (bx b T (B5++Bq z (c' - n))::L)):gws P pan Qn (.op false ⟨some t,none,.mop (.zap 1 by_ z x y)⟩ s) Ls ρ d L:=by
 subst hj
 refine⟨d,L,Vs.refl d L,?_⟩
 simp only[gop,gi,mi,maxLen]
 refine⟨_,n,c,m,B5,ex,ey,hlt,by omega,by simpa using hb,by simpa using hl,(fun q=>by cases q),fun a' ha i u hu=>by cases ha;rw[Addr.add_lit];exact ho i u hu,fun b T c' h1 h2=>⟨_,_,Vs.refl _ _,?_⟩⟩
 rw[Afn]
 exact k b T c' h1 h2
def Aai{z}{t:Option Nat}{a}{n c:Nat}(ex:ev ρ x=.slice a n c) (k:(n=0∧gws P pan Qn s Ls (put ρ t (.tuple #[])) d L)∨∃i b o T l,a=some ⟨b,o,none⟩∧L[i]?=some (bx b T l)∧o+n≤l.length∧
  gws P pan Qn s Ls (put ρ t (.tuple #[])) d (L.set i (bx b T (patch l o (Bq z n))))):gws P pan Qn (.op false ⟨t,none,.mop (.clz 1 z x)⟩ s) Ls ρ d L:=by
 refine⟨d,L,Vs.refl d L,?_⟩
 simp only[gop,gi,mi,Afn]
 refine⟨a,n,c,ex,?_⟩
 rcases k with ⟨h1,h2⟩|⟨i,b,o,T,l,h1,h2,h3,h4⟩
 ·exact .inl ⟨h1,_,_,Vs.refl _ _,h2⟩
 ·exact .inr ⟨i,b,o,T,l,h1,h2,h3,_,_,Vs.refl _ _,h4⟩
def Aag{y}{b o n c b' o' n' c':Nat}(i j:Nat){T T' l l'}(ex:ev ρ x=.slice (some ⟨b,o,none⟩) n c)(ey:ev ρ y=.slice (some ⟨b',o',none⟩) n' c')(hij:i≠j)(hi:L[i]?=some (bx b T l))(hj:L[j]?=some (bx b' T' l'))(hl:l'≠[])
  (k:gws P pan Qn s Ls (upd ρ t (.bool false)) d L):gws P pan Qn (.op false ⟨some t,none,.mop (.ovl x y)⟩ s) Ls ρ d L:=by
 refine⟨d,L,Vs.refl d L,?_⟩
 simp only[gop,gi,mi]
 exact⟨_,n,c,_,n',c',ex,ey,⟨_,_,Vs.refl _ _,k⟩,.inr (.inr ⟨i,j,b,o,T,l,b',o',T',l',rfl,rfl,hij,hi,hj,hl⟩)⟩
def Hx{y}{t:Option Nat}(i:Nat){b o n c b' o' m xc:Nat}{T l news}(ex:ev ρ x=.slice (some ⟨b,o,none⟩) n c)(ey:ev ρ y=.slice (some ⟨b',o',none⟩) m xc)(hi:L[i]?=some (bx b T l))(hl:news.length=min m n)(h1:(news.all (·.oneCell'))=true)
  (hx:∀j u,news[j]?=some u→HC d (Ls++L++L) ⟨b',o'+j,none⟩ u) (ho:o+news.length≤l.length) (k:gws P pan Qn s Ls (put ρ t (vZ ((min m n:Nat):Int))) d (L.set i (bx b T (patch l o news)))):
  gws P pan Qn (.op false ⟨t,none,.mop (.cpy 1 x y)⟩ s) Ls ρ d L:=by
 refine⟨d,L,Vs.refl d L,?_⟩
 simp only[gop,gi,mi]
 exact⟨_,n,c,_,m,xc,news,ex,ey,by simpa using hl,h1,(fun q=>by cases q),fun a' ha j u hu=>by cases ha;rw[Addr.add_lit];exact hx j u hu,.inr ⟨i,b,o,T,l,rfl,hi,ho,_,_,Vs.refl _ _,k⟩⟩
def Acu{l}(ex:ev ρ x=Bt l)(hl:l.length≤140737488355328)(k:∀v d',Le d d'→(∃a c,v=.slice a l.length c)→(∃b c cs,v=.slice (some ⟨b,0,none⟩) l.length c∧l.length≤c∧c≤9223372036854775807∧DCs d' b 0 cs∧cs.length=c∧cs.take l.length=l.map AA)→gws P pan Qn s Ls (upd ρ t v) d' L):
  gws P pan Qn (.op false ⟨some t,none,.mop (.s2b x)⟩ s) Ls ρ d L:=by
 refine⟨d,L,Vs.refl d L,?_⟩
 simp only[gop,gi,mi]
 refine⟨l,ex,hl,fun b T fr c h1 h2=>⟨_,_,Vs.freeze,?_⟩⟩
 refine k _ _ (Le.AG _ _) ⟨_,_,rfl⟩ ⟨b,c,l.map AA++Adx (c - l.length) (.int .u8 0),rfl,h1,h2,⟨_,T,fr,.inr (Cv _ _),fun i u hu=>?_⟩,by simp;omega,by simp⟩
 rw[Afj]
 simpa using hu
end
section
variable {P:Program}{pan:List PanicEntry→AR}{Qn:Env→AR}{Ls L:List Ac}{ρ:Env}{d:Ac}{s:GS}{t:Nat}
def Wl{by_:Nat}{z y}(i:Nat){b o n c b' o' m xc:Nat}{T l news}(ex:ev ρ x=.slice (some ⟨b,o,none⟩) n c)(ey:ev ρ y=.slice (some ⟨b',o',none⟩) m xc)(hi:L[i]?=some (bx b T l))(hl:news.length=m)(h1:(news.all (·.oneCell'))=true)
  (hx:∀j u,news[j]?=some u→HC d (Ls++L++L) ⟨b',o'+j,none⟩ u) (hle:n+m≤c) (hc:c≤9223372036854775807) (ho:o+(n+m)≤l.length) (k:gws P pan Qn s Ls (upd ρ t (.slice (some ⟨b,o,none⟩) (n+m) c)) d (L.set i (bx b T (patch l (o+n) news)))):
  gws P pan Qn (.op false ⟨some t,none,.app 1 by_ z x y⟩ s) Ls ρ d L:=by
 refine⟨d,L,Vs.refl d L,?_⟩
 simp only[gop,gi,maxLen,Afn]
 exact⟨_,n,c,_,m,xc,news,ex,ey,hl,h1,(fun q=>by cases q),fun a' ha j u hu=>by cases ha;rw[Addr.add_lit];exact hx j u hu,by omega,hc,fun _=>.inr ⟨i,b,o,T,l,rfl,hi,ho,_,_,Vs.refl _ _,k⟩,fun q=>by omega⟩
end
end
end Go.Gk
end
section
namespace Go.Gk
open Go
attribute [local irreducible] gwp gws
variable{α:Type}{d:Ac}{i n:Nat}{cs:List Value}
def Ap.one{R v}{xs:List α}{h}:Ap 1 R d v xs h↔∃cs,BT 1 v xs.length cs h∧∀i (hi:i<xs.length) u,cs[i]?=some u→R d [u] xs[i]:=by
 constructor
 ·rintro⟨cs,h1,h2⟩;refine⟨cs,h1,fun i hi u hu=>?_⟩
  have:=h2 i hi;unfold chunk at this;rw[Afn,Aei (by have:=h1.1;omega),List.take_succ_cons,List.take_zero] at this;obtain⟨hlt,rfl⟩:=Adt.1 hu;exact this
 ·rintro⟨cs,h1,h2⟩;refine⟨cs,h1,fun i hi=>?_⟩
  have hl:i<cs.length:=by have:=h1.1;omega
  unfold chunk;rw[Afn,Aei hl,List.take_succ_cons,List.take_zero];exact h2 i hi cs[i] (Ade hl)
def B1{α}(xs:List α)(i:Nat)(y:α):List α:=xs.take i++y::xs.drop i
def Fk{xs:List α}{y:α}(h:i≤xs.length):(B1 xs i y).length=xs.length+1:=by unfold B1;simp;omega
def MQ{xs:List α}{j:Nat}{y:α}(h:i≤xs.length):(B1 xs i y)[j]?=if j<i then xs[j]? else if j=i then some y else xs[j - 1]?:=by
 unfold B1;by_cases h1:j<i
 ·rw[if_pos h1,Afk (by simp;omega),Afp,if_pos h1]
 ·rw[if_neg h1,Aff (by simp;omega)];have hl:(xs.take i).length=i:=by simp;omega
  rw[hl];by_cases h2:j=i
  ·subst h2;simp
  ·rw[if_neg h2];obtain⟨m,hm⟩:∃m,j - i=m+1:=⟨j - i - 1,by omega⟩
   rw[hm,List.getElem?_cons_succ,Afe];congr 1;omega
def BT.ins{c b:Nat}{T l u}(hc:cs.length=n)(hn:n+1≤140737488355328)(hi:i≤n)(h3:n+1≤c)(h4:c≤9223372036854775807)(h5:c≤l.length)(h6:∀j,j<n+1→l[j]?=(B1 cs i u)[j]?):
  BT 1 (.slice (some ⟨b,0,none⟩) (n+1) c) (n+1) (B1 cs i u) (bx b T l):=by
 have hil:(B1 cs i u).length=n+1:=by rw[Fk (by omega),hc]
 refine BT.mk (by rw[hil];omega) hn h3 h4 (by omega) ?_
 apply Agd
 intro j
 rw[hil,Afp]
 by_cases hj:j<n+1
 ·rw[if_pos hj,h6 j hj]
 ·rw[if_neg hj,Aes (by omega)]
def Ap.ins{R v}{xs:List α}{h u}{y:α}(hi:i≤xs.length)(hcl:cs.length=xs.length)(h1:BT 1 v (xs.length+1) (B1 cs i u) h)(h2:∀i (hi:i<xs.length) u,cs[i]?=some u→R d [u] xs[i])(h3:R d [u] y):Ap 1 R d v (B1 xs i y) h:=by
 rw[Ap.one];refine⟨B1 cs i u,by rw[Fk hi];exact h1,fun j hj w hw=>?_⟩
 have hx:(B1 xs i y)[j]?=some (B1 xs i y)[j]:=Ade hj;rw[MQ (by omega)] at hw;rw[MQ hi] at hx;rw[Fk hi] at hj;by_cases q1:j<i
 ·rw[if_pos q1] at hw hx;have:=h2 j (by omega) w hw;rw[Ade (by omega)] at hx;rw[←Option.some.inj hx];exact this
 ·rw[if_neg q1] at hw hx;by_cases q2:j=i
  ·rw[if_pos q2] at hw hx;rw[←Option.some.inj hx,←Option.some.inj hw];exact h3
  ·rw[if_neg q2] at hw hx;have:=h2 (j - 1) (by omega) w hw;rw[Ade (by omega)] at hx;rw[←Option.some.inj hx];exact this
def Hg{p:Value→Bool}(h:cs.all p=true):(cs.drop i).all p=true:=by
 rw[Adv] at h⊢;exact fun x hx=>h x (Aft hx)
def SZ{l u}(hc:cs.length=n)(hi:i<n)(hl:n+1≤l.length)(h:∀j,j<i→l[j]?=cs[j]?)(j:Nat)(hj:j<n+1):(patch (patch l (0+i) [u]) (0+(i+1)) (cs.drop i))[j]?=(B1 cs i u)[j]?:=by
 have e1:(patch l (0+i) [u]).length=l.length:=By (by simp;omega);rw[CL (by rw[e1,Adr];omega),CL (by simp;omega),MQ (by omega),Adr];by_cases q1:j<i
 ·rw[if_pos q1,if_neg (by omega),if_neg (by simp;omega),h j q1]
 ·rw[if_neg q1];by_cases q2:j=i
  ·subst q2;rw[if_pos rfl,if_neg (by omega),if_pos (by simp)];simp
  ·rw[if_neg q2,if_pos (by omega),Afe];congr 1;omega
def Tw{l u}(hc:cs.length=n)(hi:i<n)(hl:n+1≤l.length)(h:∀j,j<n→l[j]?=cs[j]?)(j:Nat)(hj:j<n+1):(patch (patch l (0+(i+1)) (cs.drop i)) (0+i) [u])[j]?=(B1 cs i u)[j]?:=by
 have e1:(patch l (0+(i+1)) (cs.drop i)).length=l.length:=By (by rw[Adr];omega);rw[CL (by rw[e1];simp;omega),CL (by rw[Adr];omega),MQ (by omega),Adr];by_cases q1:j<i
 ·rw[if_pos q1,if_neg (by simp;omega),if_neg (by omega),h j (by omega)]
 ·rw[if_neg q1];by_cases q2:j=i
  ·subst q2;rw[if_pos rfl,if_pos (by simp)];simp
  ·rw[if_neg q2,if_neg (by simp;omega),if_pos (by omega),Afe];congr 1;omega
def Ks{α}(R:Ac→List Value→α→Prop)(P:Program)(f:FuncId):Prop:=∀{d v}{xs:List α}{h}{i b:Nat}{T u}{y:α},Ap 1 R d v xs h→i≤xs.length→xs.length≤1000000000000→R d [u] y→FZ R→
 Av P f [v,vZ i,.slice (some ⟨b,0,none⟩) 1 1] d [bx b T [u],h] (Ret fun r d' L'=>d'=d∧∃h',L'=[h']∧Ap 1 R d r (B1 xs i y) h')
def HR(a0:Nat):A5:=⟨95,[(.tmp 6)],(sR (o1 6 (.mv nS) .done) (sR (om 10 0<|om 11 1<|o1 12 (.sl 1 10 (some 11) none none) .done) (sR (om 13 2<|oL 14 13<|om 7 14 .done) (.seq (sR (om 15 7<|ob 16 .eql 15 z0 .done) (.cond 16 (sR (om 17 0<|om 6 17 .done) .ret) .skip)) (sR (om 18 0<|oL 19 18<|om 8 19 .done) (.seq (sR (om 20 1<|om 21 8<|ob 22 .eql 20 21 .done) (.cond 22 (sR (om 23 0<|om 24 2<|o1 25 (.app 1 24 [(.slice none 0 0)] 23 24)<|om 6 25 .done) .ret) .skip)) (.seq (sR (om 26 8<|om 27 7<|ob 28 .add 26 27<|om 29 0<|o1 30 (.cap 29)<|ob 31 .gtr 28 30 .done) (.cond 31 (sR (om 32 0<|om 33 1<|o1 34 (.sl 1 32 none (some 33) none)<|om 35 8<|om 36 7<|ob 37 .add 35 36<|om 38 1<|ob 39 .sub 37 38<|o1 40 (.mop (.zap 1 24 [(.slice none 0 0)] 34 39))<|om 9 40 .done) (sR (om 41 9<|om 42 1<|o1 43 (.sl 1 41 (some 42) none none)<|om 44 2<|o1 45 (.mop (.cpy 1 43 44)) .done) (.seq (.reg true (pm 46 9<|pm 47 1<|pm 48 7<|p1 49 (.bin .add 47 48)<|p1 50 (.sl 1 46 (some 49) none none)<|pm 51 0<|pm 52 1<|p1 53 (.sl 1 51 (some 52) none none)<|o1 54 (.mop (.cpy 1 50 53)) .done)) (sR (om 55 9<|om 6 55 .done) .ret)))) .skip)) (sR (om 56 0<|om 57 8<|om 58 7<|ob 59 .add 57 58<|o1 60 (.sl 1 56 none (some 59) none)<|om 0 60 .done) (.seq (sR (om 61 2<|om 62 0<|om 63 1<|om 64 7<|ob 65 .add 63 64<|o1 66 (.sl 1 62 (some 65) none none)<|o1 67 (.mop (.ovl 61 66))<|o1 68 (.un .not 67) .done) (.cond 68 (.seq (.reg true (pm 69 0<|pm 70 1<|pm 71 7<|p1 72 (.bin .add 70 71)<|p1 73 (.sl 1 69 (some 72) none none)<|pm 74 0<|pm 75 1<|p1 76 (.sl 1 74 (some 75) none none)<|o1 77 (.mop (.cpy 1 73 76)) .done)) (sR (om 78 0<|om 79 1<|o1 80 (.sl 1 78 (some 79) none none)<|om 81 2<|o1 82 (.mop (.cpy 1 80 81)) .done) (sR (om 83 0<|om 6 83 .done) .ret))) .skip)) (sR (om 84 0<|om 85 8<|o1 86 (.sl 1 84 (some 85) none none)<|om 87 2<|o1 88 (.mop (.cpy 1 86 87)) .done) (sR (om 89 0<|om 90 1<|o1 91 (.sl 1 89 (some 90) none none)<|om 92 7<|oc 93 a0 [91,92] .done) (sR (om 94 0<|om 6 94 .done) .ret))))))))))))⟩
def Rs{P f f1}(hd:dec P f=some (HR f1)):Ks RBs P f:=by
 intro d v xs h i b T u y ho hi hxl hy hC;refine AF hd (Ada rfl) ?_;have ho':=ho;rw[Ap.one] at ho';obtain⟨cs,h1,h2⟩:=ho';have hcl:cs.length=xs.length:=by have:=h1.1;omega
 obtain⟨va,vc,rfl⟩:=ho.val;show gwp P _ _ _ _ _;obtain⟨-,h3,⟨hn1,hn2,rfl⟩|⟨b1,T1,l,c,hn1,rfl,h4,h5,h6,h7⟩⟩:=h1
 ·simp only[Value.slice.injEq] at hn1;obtain⟨rfl, -,rfl⟩:=hn1;obtain rfl:=Adn hn2;obtain rfl:i=0:=by simpa using hi
  (refine Ad<|Al rfl<|Aa<|Ad<|Al rfl<|Ab rfl ?_);refine w_q rfl (v:=.slice none 0 0) ⟨none,0,0,0,0,0,rfl,fun q=>absurd rfl q,rfl,rfl⟩ ?_;(refine Aa<|Ad<|Al rfl<|AK rfl<|Ab rfl<|Aa<|Af<|Ad<|Ab rfl<|AO rfl rfl<|Aa<|Ar rfl (by omega)<|Ak<|Ad<|Al rfl<|AK rfl<|Ab rfl<|Aa<|Af<|Ad<|Ab rfl<|Ab rfl<|AO rfl rfl<|Aa<|Ax rfl (by omega)<|Ad<|Al rfl<|Al rfl ?_);refine D1 (R:=RBs) 0 rfl rfl ho rfl (Ap.Ep (x:=y) rfl hy) hC (by omega) (by simp) (by simp) (fun v' h' ho'=>?_);(refine AJ<|Aa<|An ?_);exact EY [v'] ⟨rfl,trivial⟩ (Adb _) ⟨rfl,h',rfl,ho'⟩
 ·cases hn1;have hcu:(cs.all (·.oneCell'))=true:=by
   rw[Adv];intro x hx;obtain⟨j,hj,rfl⟩:=Aez hx;have:=hC _ _ _ (h2 j (by omega) _ (Ade hj));simpa using this
  have hl7:∀j,j<xs.length→l[j]?=cs[j]?:=fun j hj=>by
   rw[←h7,Afp,if_pos (by omega)]
  (refine Ad<|Al rfl<|Aa<|Ad<|Al rfl<|Ab rfl ?_);refine C3 (l:=i) (h:=xs.length) (m:=vc) rfl (CY rfl rfl hi) (fun o1 _=>?_);(refine Aa<|Ad<|Al rfl<|AK rfl<|Ab rfl<|Aa<|Af<|Ad<|Ab rfl<|AO rfl rfl<|Aa<|Ar rfl (by omega)<|Ak<|Ad<|Al rfl<|AK rfl<|Ab rfl<|Aa<|Af<|Ad<|Ab rfl<|Ab rfl<|AO rfl rfl<|Aa ?_);by_cases e:i=xs.length
  ·subst e;(refine Ax rfl (by omega)<|Ad<|Al rfl<|Al rfl ?_);refine D1 (R:=RBs) 0 rfl rfl ho rfl (Ap.Ep (x:=y) rfl hy) hC (by omega) (by simp;omega) (by simp;omega) (fun v' h' ho'=>?_);(refine AJ<|Aa<|An ?_);exact EY [v'] ⟨rfl,trivial⟩ (Adb _) ⟨rfl,h',rfl,by rw[B1,Afi,Agj];exact ho'⟩
  ·by_cases hc:vc<xs.length+1
   ·(refine Ar rfl (by omega)<|Ak<|Af<|Ad<|Ab rfl<|Ab rfl<|AL rfl rfl (by omega) (by omega)<|Al rfl<|RR rfl<|BW rfl rfl<|Aa<|Ax rfl (by omega)<|Ad<|Al rfl<|Ab rfl ?_);refine C3 (l:=0) (h:=i) (m:=vc) rfl (Jv rfl rfl (by omega)) (fun o2 ho2=>?_);obtain rfl:o2=0:=by rw[ho2 (by omega)]
    (refine Ab rfl<|Ab rfl<|AL rfl rfl (by omega) (by omega)<|Ab rfl<|C6 rfl rfl (by omega) (by omega) ?_);refine ZP (m:=xs.length+1 - i) (B5:=cs.take i) rfl rfl (by omega) (by omega) (by omega) (by omega) (by rw[Adz];omega) (fun j w hw=>?_) (fun b2 T2 c' h8 h9=>?_)
    ·rw[Afp] at hw;by_cases q:j<i
     ·rw[if_pos q,←hl7 j (by omega)] at hw;exact Aj 1 rfl (by rw[Afj];exact hw)
     ·rw[if_neg q] at hw;cases hw
    rw[show i - 0+(xs.length+1 - i)=xs.length+1 by omega] at h8⊢;have hl2:(cs.take i++Bq [.slice none 0 0] (c' - (i - 0))).length=c':=by rw[Adj,Adz];simp[Bq];omega
    obtain⟨l2,hl2e⟩:∃l2,l2=cs.take i++Bq [.slice none 0 0] (c' - (i - 0)):=⟨_,rfl⟩
    have hl2t:∀j,j<i→l2[j]?=cs[j]?:=fun j hj=>by
     rw[hl2e,Afk (by rw[Adz];omega),Afp,if_pos hj]
    rw[←hl2e] at hl2⊢;(refine Al rfl<|Aa<|Ad<|Al rfl<|Ab rfl ?_);refine C3 (l:=i) (h:=xs.length+1) (m:=c') rfl (CY rfl rfl (by omega)) (fun o3 ho3=>?_);obtain rfl:o3=0+i:=ho3 (by omega);(apply Al;rfl);refine Hx 0 (news:=[u]) rfl rfl rfl (by simp;omega) (by simpa using hC _ _ _ hy) (fun j w hw=>?_) (by simp;omega) ?_
    ·obtain rfl:j=0:=by
      have:=(Adt.1 hw).1;simpa using this
     exact Aj 1 rfl hw
    (refine Aa<|Af ?_);refine Bv [] [bx b2 T2 (patch l2 (0+i) [u]),bx b T [u],bx b1 T1 l] rfl ?_;(refine Al rfl<|Ab rfl<|Ab rfl<|AL rfl rfl (by omega) (by omega) ?_);refine C3 (l:=i+1) (h:=xs.length+1) (m:=c') rfl (CY rfl rfl (by omega)) (fun o4 ho4=>?_);obtain rfl:o4=0+(i+1):=ho4 (by omega);(refine Al rfl<|Ab rfl ?_);refine C3 (l:=i) (h:=xs.length) (m:=vc) rfl (CY rfl rfl (by omega)) (fun o5 ho5=>?_);obtain rfl:o5=0+i:=ho5 (by omega);skip;refine Hx 0 (news:=cs.drop i) rfl rfl rfl (by rw[Adr];omega) (Hg hcu) (fun j w hw=>?_) (by rw[By (by simp;omega),Adr];omega) ?_
    ·rw[Afe] at hw;have:=(Adt.1 hw).1;exact Aj 2 rfl (by rw[Afj,hl7 _ (by omega)];exact hw)
    (refine Aa<|Ad<|Al rfl<|Al rfl<|Aa<|An ?_);refine EY [.slice (some ⟨b2,0,none⟩) (xs.length+1) c'] ⟨rfl,trivial⟩ (L':=[bx b2 T2 (patch (patch l2 (0+i) [u]) (0+(i+1)) (cs.drop i))]) (Afr _ (Afm _)) ⟨rfl,_,rfl,Ap.ins hi hcl (BT.ins hcl (by omega) hi h8 h9 ?_ ?_) h2 hy⟩
    ·rw[By (by rw[By (by simp;omega),Adr];omega),By (by simp;omega)];omega
    ·exact SZ hcl (by omega) (by omega) hl2t
   ·have hlne:l≠[]:=by intro q;rw[q] at h6;simp at h6;omega
    (refine Ar rfl (by omega)<|Ak<|Af<|Ad<|Ab rfl<|Ab rfl<|AL rfl rfl (by omega) (by omega)<|Al rfl<|RR rfl<|BW rfl rfl<|Aa<|Ar rfl (by omega)<|Ak<|Ad<|Al rfl<|Ab rfl<|Ab rfl<|AL rfl rfl (by omega) (by omega) ?_);refine C3 (l:=0) (h:=xs.length+1) (m:=vc) rfl (Jv rfl (by omega) (by omega)) (fun o2 ho2=>?_);obtain rfl:o2=0:=by rw[ho2 (by omega)]
    (refine Al rfl<|Aa<|Af<|Ad<|Al rfl<|Al rfl<|Ab rfl<|Ab rfl<|AL rfl rfl (by omega) (by omega) ?_);refine C3 (l:=i+1) (h:=xs.length+1 - 0) (m:=vc - 0) rfl (CY rfl (by omega) (by omega)) (fun o3 ho3=>?_);skip;refine Aag 0 1 rfl rfl (by decide) rfl rfl hlne ?_;(refine Bx rfl<|Aa<|Bj rfl<|Af ?_);refine Bv [] [bx b T [u],bx b1 T1 l] rfl ?_;(refine Al rfl<|Ab rfl<|Ab rfl<|AL rfl rfl (by omega) (by omega) ?_);refine C3 (l:=i+1) (h:=xs.length+1 - 0) (m:=vc - 0) rfl (CY rfl (by omega) (by omega)) (fun o4 ho4=>?_);obtain rfl:o4=0+(i+1):=ho4 (by omega);(refine Al rfl<|Ab rfl ?_);refine C3 (l:=i) (h:=xs.length+1 - 0) (m:=vc - 0) rfl (CY rfl (by omega) (by omega)) (fun o5 ho5=>?_);obtain rfl:o5=0+i:=ho5 (by omega);skip;refine Hx 1 (news:=cs.drop i) rfl rfl rfl (by rw[Adr];omega) (Hg hcu) (fun j w hw=>?_) (by rw[Adr];omega) ?_
    ·rw[Afe] at hw;have:=(Adt.1 hw).1;exact Aj 1 rfl (by rw[Afj,hl7 _ (by omega)];exact hw)
    (refine Aa<|Ad<|Al rfl<|Ab rfl ?_);refine C3 (l:=i) (h:=xs.length+1 - 0) (m:=vc - 0) rfl (CY rfl (by omega) (by omega)) (fun o6 ho6=>?_);obtain rfl:o6=0+i:=ho6 (by omega);(apply Al;rfl);refine Hx 1 (news:=[u]) rfl rfl rfl (by simp;omega) (by simpa using hC _ _ _ hy) (fun j w hw=>?_) (by rw[By (by rw[Adr];omega)];simp;omega) ?_
    ·obtain rfl:j=0:=by
      have:=(Adt.1 hw).1;simpa using this
     exact Aj 0 rfl hw
    (refine Aa<|Ad<|Al rfl<|Al rfl<|Aa<|An ?_);refine EY [.slice (some ⟨b1,0,none⟩) (xs.length+1 - 0) (vc - 0)] ⟨rfl,trivial⟩ (L':=[bx b1 T1 (patch (patch l (0+(i+1)) (cs.drop i)) (0+i) [u])]) (List.Sublist.cons _ (Adb _)) ⟨rfl,_,rfl,Ap.ins hi hcl (BT.ins hcl (by omega) hi (by omega) (by omega) ?_ ?_) h2 hy⟩
    ·rw[By (by rw[By (by rw[Adr];omega)];simp;omega),By (by rw[Adr];omega)];omega
    ·exact Tw hcl (by omega) (by omega) hl7
def II(a0:Nat):A5:=⟨95,[(.tmp 6)],(sR (o1 6 (.mv nS) .done) (sR (om 10 0<|om 11 1<|o1 12 (.sl 1 10 (some 11) none none) .done) (sR (om 13 2<|oL 14 13<|om 7 14 .done) (.seq (sR (om 15 7<|ob 16 .eql 15 z0 .done) (.cond 16 (sR (om 17 0<|om 6 17 .done) .ret) .skip)) (sR (om 18 0<|oL 19 18<|om 8 19 .done) (.seq (sR (om 20 1<|om 21 8<|ob 22 .eql 20 21 .done) (.cond 22 (sR (om 23 0<|om 24 2<|o1 25 (.app 1 8 [(vZ 0)] 23 24)<|om 6 25 .done) .ret) .skip)) (.seq (sR (om 26 8<|om 27 7<|ob 28 .add 26 27<|om 29 0<|o1 30 (.cap 29)<|ob 31 .gtr 28 30 .done) (.cond 31 (sR (om 32 0<|om 33 1<|o1 34 (.sl 1 32 none (some 33) none)<|om 35 8<|om 36 7<|ob 37 .add 35 36<|om 38 1<|ob 39 .sub 37 38<|o1 40 (.mop (.zap 1 8 [(vZ 0)] 34 39))<|om 9 40 .done) (sR (om 41 9<|om 42 1<|o1 43 (.sl 1 41 (some 42) none none)<|om 44 2<|o1 45 (.mop (.cpy 1 43 44)) .done) (.seq (.reg true (pm 46 9<|pm 47 1<|pm 48 7<|p1 49 (.bin .add 47 48)<|p1 50 (.sl 1 46 (some 49) none none)<|pm 51 0<|pm 52 1<|p1 53 (.sl 1 51 (some 52) none none)<|o1 54 (.mop (.cpy 1 50 53)) .done)) (sR (om 55 9<|om 6 55 .done) .ret)))) .skip)) (sR (om 56 0<|om 57 8<|om 58 7<|ob 59 .add 57 58<|o1 60 (.sl 1 56 none (some 59) none)<|om 0 60 .done) (.seq (sR (om 61 2<|om 62 0<|om 63 1<|om 64 7<|ob 65 .add 63 64<|o1 66 (.sl 1 62 (some 65) none none)<|o1 67 (.mop (.ovl 61 66))<|o1 68 (.un .not 67) .done) (.cond 68 (.seq (.reg true (pm 69 0<|pm 70 1<|pm 71 7<|p1 72 (.bin .add 70 71)<|p1 73 (.sl 1 69 (some 72) none none)<|pm 74 0<|pm 75 1<|p1 76 (.sl 1 74 (some 75) none none)<|o1 77 (.mop (.cpy 1 73 76)) .done)) (sR (om 78 0<|om 79 1<|o1 80 (.sl 1 78 (some 79) none none)<|om 81 2<|o1 82 (.mop (.cpy 1 80 81)) .done) (sR (om 83 0<|om 6 83 .done) .ret))) .skip)) (sR (om 84 0<|om 85 8<|o1 86 (.sl 1 84 (some 85) none none)<|om 87 2<|o1 88 (.mop (.cpy 1 86 87)) .done) (sR (om 89 0<|om 90 1<|o1 91 (.sl 1 89 (some 90) none none)<|om 92 7<|oc 93 a0 [91,92] .done) (sR (om 94 0<|om 6 94 .done) .ret))))))))))))⟩
def Um{P f f1}(hd:dec P f=some (II f1)):Ks Bb P f:=by
 intro d v xs h i b T u y ho hi hxl hy hC;refine AF hd (Ada rfl) ?_;have ho':=ho;rw[Ap.one] at ho';obtain⟨cs,h1,h2⟩:=ho';have hcl:cs.length=xs.length:=by have:=h1.1;omega
 obtain⟨va,vc,rfl⟩:=ho.val;show gwp P _ _ _ _ _;obtain⟨-,h3,⟨hn1,hn2,rfl⟩|⟨b1,T1,l,c,hn1,rfl,h4,h5,h6,h7⟩⟩:=h1
 ·simp only[Value.slice.injEq] at hn1;obtain⟨rfl, -,rfl⟩:=hn1;obtain rfl:=Adn hn2;obtain rfl:i=0:=by simpa using hi
  (refine Ad<|Al rfl<|Aa<|Ad<|Al rfl<|Ab rfl ?_);refine w_q rfl (v:=.slice none 0 0) ⟨none,0,0,0,0,0,rfl,fun q=>absurd rfl q,rfl,rfl⟩ ?_;(refine Aa<|Ad<|Al rfl<|AK rfl<|Ab rfl<|Aa<|Af<|Ad<|Ab rfl<|AO rfl rfl<|Aa<|Ar rfl (by omega)<|Ak<|Ad<|Al rfl<|AK rfl<|Ab rfl<|Aa<|Af<|Ad<|Ab rfl<|Ab rfl<|AO rfl rfl<|Aa<|Ax rfl (by omega)<|Ad<|Al rfl<|Al rfl ?_);refine D1 (R:=Bb) 0 rfl rfl ho rfl (Ap.Ep (x:=y) rfl hy) hC (by omega) (by simp) (by simp) (fun v' h' ho'=>?_);(refine AJ<|Aa<|An ?_);exact EY [v'] ⟨rfl,trivial⟩ (Adb _) ⟨rfl,h',rfl,ho'⟩
 ·cases hn1;have hcu:(cs.all (·.oneCell'))=true:=by
   rw[Adv];intro x hx;obtain⟨j,hj,rfl⟩:=Aez hx;have:=hC _ _ _ (h2 j (by omega) _ (Ade hj));simpa using this
  have hl7:∀j,j<xs.length→l[j]?=cs[j]?:=fun j hj=>by
   rw[←h7,Afp,if_pos (by omega)]
  (refine Ad<|Al rfl<|Aa<|Ad<|Al rfl<|Ab rfl ?_);refine C3 (l:=i) (h:=xs.length) (m:=vc) rfl (CY rfl rfl hi) (fun o1 _=>?_);(refine Aa<|Ad<|Al rfl<|AK rfl<|Ab rfl<|Aa<|Af<|Ad<|Ab rfl<|AO rfl rfl<|Aa<|Ar rfl (by omega)<|Ak<|Ad<|Al rfl<|AK rfl<|Ab rfl<|Aa<|Af<|Ad<|Ab rfl<|Ab rfl<|AO rfl rfl<|Aa ?_);by_cases e:i=xs.length
  ·subst e;(refine Ax rfl (by omega)<|Ad<|Al rfl<|Al rfl ?_);refine D1 (R:=Bb) 0 rfl rfl ho rfl (Ap.Ep (x:=y) rfl hy) hC (by omega) (by simp;omega) (by simp;omega) (fun v' h' ho'=>?_);(refine AJ<|Aa<|An ?_);exact EY [v'] ⟨rfl,trivial⟩ (Adb _) ⟨rfl,h',rfl,by rw[B1,Afi,Agj];exact ho'⟩
  ·by_cases hc:vc<xs.length+1
   ·(refine Ar rfl (by omega)<|Ak<|Af<|Ad<|Ab rfl<|Ab rfl<|AL rfl rfl (by omega) (by omega)<|Al rfl<|RR rfl<|BW rfl rfl<|Aa<|Ax rfl (by omega)<|Ad<|Al rfl<|Ab rfl ?_);refine C3 (l:=0) (h:=i) (m:=vc) rfl (Jv rfl rfl (by omega)) (fun o2 ho2=>?_);obtain rfl:o2=0:=by rw[ho2 (by omega)]
    (refine Ab rfl<|Ab rfl<|AL rfl rfl (by omega) (by omega)<|Ab rfl<|C6 rfl rfl (by omega) (by omega) ?_);refine ZP (m:=xs.length+1 - i) (B5:=cs.take i) rfl rfl (by omega) (by omega) (by omega) (by omega) (by rw[Adz];omega) (fun j w hw=>?_) (fun b2 T2 c' h8 h9=>?_)
    ·rw[Afp] at hw;by_cases q:j<i
     ·rw[if_pos q,←hl7 j (by omega)] at hw;exact Aj 1 rfl (by rw[Afj];exact hw)
     ·rw[if_neg q] at hw;cases hw
    rw[show i - 0+(xs.length+1 - i)=xs.length+1 by omega] at h8⊢;have hl2:(cs.take i++Bq [vZ 0] (c' - (i - 0))).length=c':=by rw[Adj,Adz];simp[Bq];omega
    obtain⟨l2,hl2e⟩:∃l2,l2=cs.take i++Bq [vZ 0] (c' - (i - 0)):=⟨_,rfl⟩
    have hl2t:∀j,j<i→l2[j]?=cs[j]?:=fun j hj=>by
     rw[hl2e,Afk (by rw[Adz];omega),Afp,if_pos hj]
    rw[←hl2e] at hl2⊢;(refine Al rfl<|Aa<|Ad<|Al rfl<|Ab rfl ?_);refine C3 (l:=i) (h:=xs.length+1) (m:=c') rfl (CY rfl rfl (by omega)) (fun o3 ho3=>?_);obtain rfl:o3=0+i:=ho3 (by omega);(apply Al;rfl);refine Hx 0 (news:=[u]) rfl rfl rfl (by simp;omega) (by simpa using hC _ _ _ hy) (fun j w hw=>?_) (by simp;omega) ?_
    ·obtain rfl:j=0:=by
      have:=(Adt.1 hw).1;simpa using this
     exact Aj 1 rfl hw
    (refine Aa<|Af ?_);refine Bv [] [bx b2 T2 (patch l2 (0+i) [u]),bx b T [u],bx b1 T1 l] rfl ?_;(refine Al rfl<|Ab rfl<|Ab rfl<|AL rfl rfl (by omega) (by omega) ?_);refine C3 (l:=i+1) (h:=xs.length+1) (m:=c') rfl (CY rfl rfl (by omega)) (fun o4 ho4=>?_);obtain rfl:o4=0+(i+1):=ho4 (by omega);(refine Al rfl<|Ab rfl ?_);refine C3 (l:=i) (h:=xs.length) (m:=vc) rfl (CY rfl rfl (by omega)) (fun o5 ho5=>?_);obtain rfl:o5=0+i:=ho5 (by omega);skip;refine Hx 0 (news:=cs.drop i) rfl rfl rfl (by rw[Adr];omega) (Hg hcu) (fun j w hw=>?_) (by rw[By (by simp;omega),Adr];omega) ?_
    ·rw[Afe] at hw;have:=(Adt.1 hw).1;exact Aj 2 rfl (by rw[Afj,hl7 _ (by omega)];exact hw)
    (refine Aa<|Ad<|Al rfl<|Al rfl<|Aa<|An ?_);refine EY [.slice (some ⟨b2,0,none⟩) (xs.length+1) c'] ⟨rfl,trivial⟩ (L':=[bx b2 T2 (patch (patch l2 (0+i) [u]) (0+(i+1)) (cs.drop i))]) (Afr _ (Afm _)) ⟨rfl,_,rfl,Ap.ins hi hcl (BT.ins hcl (by omega) hi h8 h9 ?_ ?_) h2 hy⟩
    ·rw[By (by rw[By (by simp;omega),Adr];omega),By (by simp;omega)];omega
    ·exact SZ hcl (by omega) (by omega) hl2t
   ·have hlne:l≠[]:=by intro q;rw[q] at h6;simp at h6;omega
    (refine Ar rfl (by omega)<|Ak<|Af<|Ad<|Ab rfl<|Ab rfl<|AL rfl rfl (by omega) (by omega)<|Al rfl<|RR rfl<|BW rfl rfl<|Aa<|Ar rfl (by omega)<|Ak<|Ad<|Al rfl<|Ab rfl<|Ab rfl<|AL rfl rfl (by omega) (by omega) ?_);refine C3 (l:=0) (h:=xs.length+1) (m:=vc) rfl (Jv rfl (by omega) (by omega)) (fun o2 ho2=>?_);obtain rfl:o2=0:=by rw[ho2 (by omega)]
    (refine Al rfl<|Aa<|Af<|Ad<|Al rfl<|Al rfl<|Ab rfl<|Ab rfl<|AL rfl rfl (by omega) (by omega) ?_);refine C3 (l:=i+1) (h:=xs.length+1 - 0) (m:=vc - 0) rfl (CY rfl (by omega) (by omega)) (fun o3 ho3=>?_);skip;refine Aag 0 1 rfl rfl (by decide) rfl rfl hlne ?_;(refine Bx rfl<|Aa<|Bj rfl<|Af ?_);refine Bv [] [bx b T [u],bx b1 T1 l] rfl ?_;(refine Al rfl<|Ab rfl<|Ab rfl<|AL rfl rfl (by omega) (by omega) ?_);refine C3 (l:=i+1) (h:=xs.length+1 - 0) (m:=vc - 0) rfl (CY rfl (by omega) (by omega)) (fun o4 ho4=>?_);obtain rfl:o4=0+(i+1):=ho4 (by omega);(refine Al rfl<|Ab rfl ?_);refine C3 (l:=i) (h:=xs.length+1 - 0) (m:=vc - 0) rfl (CY rfl (by omega) (by omega)) (fun o5 ho5=>?_);obtain rfl:o5=0+i:=ho5 (by omega);skip;refine Hx 1 (news:=cs.drop i) rfl rfl rfl (by rw[Adr];omega) (Hg hcu) (fun j w hw=>?_) (by rw[Adr];omega) ?_
    ·rw[Afe] at hw;have:=(Adt.1 hw).1;exact Aj 1 rfl (by rw[Afj,hl7 _ (by omega)];exact hw)
    (refine Aa<|Ad<|Al rfl<|Ab rfl ?_);refine C3 (l:=i) (h:=xs.length+1 - 0) (m:=vc - 0) rfl (CY rfl (by omega) (by omega)) (fun o6 ho6=>?_);obtain rfl:o6=0+i:=ho6 (by omega);(apply Al;rfl);refine Hx 1 (news:=[u]) rfl rfl rfl (by simp;omega) (by simpa using hC _ _ _ hy) (fun j w hw=>?_) (by rw[By (by rw[Adr];omega)];simp;omega) ?_
    ·obtain rfl:j=0:=by
      have:=(Adt.1 hw).1;simpa using this
     exact Aj 0 rfl hw
    (refine Aa<|Ad<|Al rfl<|Al rfl<|Aa<|An ?_);refine EY [.slice (some ⟨b1,0,none⟩) (xs.length+1 - 0) (vc - 0)] ⟨rfl,trivial⟩ (L':=[bx b1 T1 (patch (patch l (0+(i+1)) (cs.drop i)) (0+i) [u])]) (List.Sublist.cons _ (Adb _)) ⟨rfl,_,rfl,Ap.ins hi hcl (BT.ins hcl (by omega) hi (by omega) (by omega) ?_ ?_) h2 hy⟩
    ·rw[By (by rw[By (by rw[Adr];omega)];simp;omega),By (by rw[Adr];omega)];omega
    ·exact Tw hcl (by omega) (by omega) hl7
def Ky{α}(R:Ac→List Value→α→Prop)(P:Program)(f:FuncId):Prop:=∀{d v}{xs:List α}{h}{i:Nat}{j:Int},Ap 1 R d v xs h→i<xs.length→j=((i+1:Nat):Int)→xs.length≤1000000000000→FZ R→
 Av P f [v,vZ i,vZ j] d [h] (Ret fun r d' L'=>d'=d∧∃h',L'=[h']∧Ap 1 R d r (xs.eraseIdx i) h')
def Ap.del{R}{xs:List α}{l}{b c:Nat}{T}(hi:i<xs.length)(hcl:cs.length=xs.length)(hn:xs.length≤140737488355328)(h3:xs.length≤c)(h4:c≤9223372036854775807)(h5:c≤l.length)
  (h6:∀j,j<xs.length - 1→l[j]?=(cs.eraseIdx i)[j]?) (h2:∀i (hi:i<xs.length) u,cs[i]?=some u→R d [u] xs[i]):Ap 1 R d (.slice (some ⟨b,0,none⟩) (xs.length - 1) c) (xs.eraseIdx i) (bx b T l):=by
 have hel:(xs.eraseIdx i).length=xs.length - 1:=by rw[List.length_eraseIdx,if_pos hi]
 have hcl':(cs.eraseIdx i).length=xs.length - 1:=by rw[List.length_eraseIdx,if_pos (by omega),hcl]
 have ho:BT 1 (.slice (some ⟨b,0,none⟩) (xs.length - 1) c) (xs.length - 1) (cs.eraseIdx i) (bx b T l):=by
  refine BT.mk (by rw[hcl'];omega) (by omega) (by omega) h4 (by omega) ?_;apply Agd;intro j;rw[hcl',Afp];by_cases hj:j<xs.length - 1
  ·rw[if_pos hj,h6 j hj]
  ·rw[if_neg hj,Aes (by omega)]
 rw[Ap.one]
 refine⟨cs.eraseIdx i,by rw[hel];exact ho,fun j hj u hu=>?_⟩
 ·have hx:(xs.eraseIdx i)[j]?=some (xs.eraseIdx i)[j]:=Ade (by omega)
  rw[List.getElem?_eraseIdx] at hu hx
  by_cases q:j<i
  ·rw[if_pos q] at hu hx
   rw[Ade (by omega)] at hx
   rw[←Option.some.inj hx];exact h2 j (by omega) u hu
  ·rw[if_neg q] at hu hx
   rw[Ade (by omega)] at hx
   rw[←Option.some.inj hx];exact h2 (j+1) (by omega) u hu
def Te{l z}(hc:cs.length=n)(hi:i<n)(hl:n≤l.length)(h:∀j,j<n→l[j]?=cs[j]?)(j:Nat)(hj:j<n - 1):(patch (patch l (0+i) (cs.drop (i+1))) (n - 1) (Bq z 1))[j]?=(cs.eraseIdx i)[j]?:=by
 have e1:(patch l (0+i) (cs.drop (i+1))).length=l.length:=By (by rw[Adr];omega);have e2:(Bq z 1).length=1:=by simp[Bq]
 rw[CL (by rw[e1,e2];omega),if_neg (by omega),CL (by rw[Adr];omega),Adr,List.getElem?_eraseIdx];by_cases q:j<i
 ·rw[if_pos q,if_neg (by omega),h j (by omega)]
 ·rw[if_neg q,if_pos (by omega),Afe];congr 1;omega
def HN:A5:=⟨33,[(.tmp 6)],(sR (o1 6 (.mv nS) .done) (sR (om 8 0<|om 9 1<|om 10 2<|om 11 0<|oL 12 11<|o1 13 (.sl 1 8 (some 9) (some 10) (some 12)) .done) (.seq (sR (om 14 1<|om 15 2<|ob 16 .eql 14 15 .done) (.cond 16 (sR (om 17 0<|om 6 17 .done) .ret) .skip)) (sR (om 18 0<|oL 19 18<|om 7 19 .done) (.seq (.reg true (pm 20 0<|pm 21 1<|p1 22 (.sl 1 20 none (some 21) none)<|pm 23 0<|pm 24 2<|p1 25 (.sl 1 23 (some 24) none none)<|o1 26 (.app 1 24 [(.slice none 0 0)] 22 25) (.bar (pm 0 26 .done)))) (sR (om 27 0<|om 28 0<|oL 29 28<|om 30 7<|o1 31 (.sl 1 27 (some 29) (some 30) none)<|o0 (.mop (.clz 1 [(.slice none 0 0)] 31)) .done) (sR (om 32 0<|om 6 32 .done) .ret)))))))⟩
def Rn{P f}(hd:dec P f=some HN):Ky RBs P f:=by
 intro d v xs h i jj ho hi hjj hxl hC;refine AF hd (Ada rfl) ?_;have ho':=ho;rw[Ap.one] at ho';obtain⟨cs,h1,h2⟩:=ho';have hcl:cs.length=xs.length:=by have:=h1.1;omega
 obtain⟨va,vc,rfl⟩:=ho.val;show gwp P _ _ _ _ _;obtain⟨-,h3,⟨hn1,hn2,rfl⟩|⟨b1,T1,l,c,hn1,rfl,h4,h5,h6,h7⟩⟩:=h1
 ·omega
 ·cases hn1;have hcu:(cs.all (·.oneCell'))=true:=by
   rw[Adv];intro x hx;obtain⟨j,hj,rfl⟩:=Aez hx;have:=hC _ _ _ (h2 j (by omega) _ (Ade hj));simpa using this
  have hl7:∀j,j<xs.length→l[j]?=cs[j]?:=fun j hj=>by
   rw[←h7,Afp,if_pos (by omega)]
  (refine Ad<|Al rfl<|Aa<|Ad<|Al rfl<|Ab rfl<|Ab rfl<|Al rfl<|AK rfl ?_);refine C3 (l:=i) (h:=i+1) (m:=xs.length) rfl (U1 rfl rfl rfl rfl hjj rfl (by omega) (by omega) (by omega)) (fun o1 _=>?_);(refine Aa<|Af<|Ad<|Ab rfl<|Ab rfl<|AO rfl rfl<|Aa<|Ar rfl (by omega)<|Ak<|Ad<|Al rfl<|AK rfl<|Ab rfl<|Aa<|Af ?_);refine Bv [] [bx b1 T1 l] rfl ?_;(refine Al rfl<|Ab rfl ?_);refine C3 (l:=0) (h:=i) (m:=vc) rfl (Jv rfl rfl (by omega)) (fun o2 ho2=>?_);obtain rfl:o2=0:=by rw[ho2 (by omega)]
  (refine Al rfl<|Ab rfl ?_);refine C3 (l:=i+1) (h:=xs.length) (m:=vc) rfl (CY rfl hjj (by omega)) (fun o3 ho3=>?_);skip;refine Wl 0 (news:=cs.drop (i+1)) rfl rfl rfl (by rw[Adr,hcl]) (Hg hcu) (fun j w hw=>?_) (by omega) (by omega) (by omega) ?_
  ·rw[Afe] at hw;have:=(Adt.1 hw).1;obtain rfl:o3=0+(i+1):=ho3 (by omega);exact Aj 0 rfl (by rw[Afj,hl7 _ (by omega)];exact hw)
  rw[show i - 0+(xs.length - (i+1))=xs.length - 1 by omega,show 0+(i - 0)=0+i by omega];(refine Ch<|Al rfl<|Aa<|Ad<|Al rfl<|Al rfl<|AK rfl<|Ab rfl ?_);refine C3 (l:=xs.length - 1) (h:=xs.length) (m:=vc - 0) rfl (U0 rfl rfl rfl rfl (by omega) (by omega)) (fun o4 ho4=>?_);obtain rfl:o4=0+(xs.length - 1):=ho4 (by omega);rw[show xs.length - (xs.length - 1)=1 by omega];refine Aai rfl (.inr ⟨0,b1,_,T1,_,rfl,rfl,by rw[By (by rw[Adr];omega)];omega,?_⟩);(refine Aa<|Ad<|Al rfl<|Al rfl<|Aa<|An ?_);refine EY [.slice (some ⟨b1,0,none⟩) (xs.length - 1) (vc - 0)] ⟨rfl,trivial⟩ (Adb _) ⟨rfl,_,rfl,Ap.del hi hcl h3 (by omega) (by omega) ?_ ?_ h2⟩
  ·rw[By (by rw[By (by rw[Adr];omega)];simp[Bq];omega),By (by rw[Adr];omega)];omega
  ·rw[show 0+(xs.length - 1)=xs.length - 1 by omega];exact Te hcl hi (by omega) hl7
def IH:A5:=⟨33,[(.tmp 6)],(sR (o1 6 (.mv nS) .done) (sR (om 8 0<|om 9 1<|om 10 2<|om 11 0<|oL 12 11<|o1 13 (.sl 1 8 (some 9) (some 10) (some 12)) .done) (.seq (sR (om 14 1<|om 15 2<|ob 16 .eql 14 15 .done) (.cond 16 (sR (om 17 0<|om 6 17 .done) .ret) .skip)) (sR (om 18 0<|oL 19 18<|om 7 19 .done) (.seq (.reg true (pm 20 0<|pm 21 1<|p1 22 (.sl 1 20 none (some 21) none)<|pm 23 0<|pm 24 2<|p1 25 (.sl 1 23 (some 24) none none)<|o1 26 (.app 1 8 [(vZ 0)] 22 25) (.bar (pm 0 26 .done)))) (sR (om 27 0<|om 28 0<|oL 29 28<|om 30 7<|o1 31 (.sl 1 27 (some 29) (some 30) none)<|o0 (.mop (.clz 1 [(vZ 0)] 31)) .done) (sR (om 32 0<|om 6 32 .done) .ret)))))))⟩
def TV{P f}(hd:dec P f=some IH):Ky Bb P f:=by
 intro d v xs h i jj ho hi hjj hxl hC;refine AF hd (Ada rfl) ?_;have ho':=ho;rw[Ap.one] at ho';obtain⟨cs,h1,h2⟩:=ho';have hcl:cs.length=xs.length:=by have:=h1.1;omega
 obtain⟨va,vc,rfl⟩:=ho.val;show gwp P _ _ _ _ _;obtain⟨-,h3,⟨hn1,hn2,rfl⟩|⟨b1,T1,l,c,hn1,rfl,h4,h5,h6,h7⟩⟩:=h1
 ·omega
 ·cases hn1;have hcu:(cs.all (·.oneCell'))=true:=by
   rw[Adv];intro x hx;obtain⟨j,hj,rfl⟩:=Aez hx;have:=hC _ _ _ (h2 j (by omega) _ (Ade hj));simpa using this
  have hl7:∀j,j<xs.length→l[j]?=cs[j]?:=fun j hj=>by
   rw[←h7,Afp,if_pos (by omega)]
  (refine Ad<|Al rfl<|Aa<|Ad<|Al rfl<|Ab rfl<|Ab rfl<|Al rfl<|AK rfl ?_);refine C3 (l:=i) (h:=i+1) (m:=xs.length) rfl (U1 rfl rfl rfl rfl hjj rfl (by omega) (by omega) (by omega)) (fun o1 _=>?_);(refine Aa<|Af<|Ad<|Ab rfl<|Ab rfl<|AO rfl rfl<|Aa<|Ar rfl (by omega)<|Ak<|Ad<|Al rfl<|AK rfl<|Ab rfl<|Aa<|Af ?_);refine Bv [] [bx b1 T1 l] rfl ?_;(refine Al rfl<|Ab rfl ?_);refine C3 (l:=0) (h:=i) (m:=vc) rfl (Jv rfl rfl (by omega)) (fun o2 ho2=>?_);obtain rfl:o2=0:=by rw[ho2 (by omega)]
  (refine Al rfl<|Ab rfl ?_);refine C3 (l:=i+1) (h:=xs.length) (m:=vc) rfl (CY rfl hjj (by omega)) (fun o3 ho3=>?_);skip;refine Wl 0 (news:=cs.drop (i+1)) rfl rfl rfl (by rw[Adr,hcl]) (Hg hcu) (fun j w hw=>?_) (by omega) (by omega) (by omega) ?_
  ·rw[Afe] at hw;have:=(Adt.1 hw).1;obtain rfl:o3=0+(i+1):=ho3 (by omega);exact Aj 0 rfl (by rw[Afj,hl7 _ (by omega)];exact hw)
  rw[show i - 0+(xs.length - (i+1))=xs.length - 1 by omega,show 0+(i - 0)=0+i by omega];(refine Ch<|Al rfl<|Aa<|Ad<|Al rfl<|Al rfl<|AK rfl<|Ab rfl ?_);refine C3 (l:=xs.length - 1) (h:=xs.length) (m:=vc - 0) rfl (U0 rfl rfl rfl rfl (by omega) (by omega)) (fun o4 ho4=>?_);obtain rfl:o4=0+(xs.length - 1):=ho4 (by omega);rw[show xs.length - (xs.length - 1)=1 by omega];refine Aai rfl (.inr ⟨0,b1,_,T1,_,rfl,rfl,by rw[By (by rw[Adr];omega)];omega,?_⟩);(refine Aa<|Ad<|Al rfl<|Al rfl<|Aa<|An ?_);refine EY [.slice (some ⟨b1,0,none⟩) (xs.length - 1) (vc - 0)] ⟨rfl,trivial⟩ (Adb _) ⟨rfl,_,rfl,Ap.del hi hcl h3 (by omega) (by omega) ?_ ?_ h2⟩
  ·rw[By (by rw[By (by rw[Adr];omega)];simp[Bq];omega),By (by rw[Adr];omega)];omega
  ·rw[show 0+(xs.length - 1)=xs.length - 1 by omega];exact Te hcl hi (by omega) hl7
end Go.Gk
end
section
namespace Go.Gk
def Vs.app{d d' L L'}(h:Vs d L d' L')(M:List Ac):Vs d (L++M) d' (L'++M):=
 ⟨h.1,fun F W x=>by rw[Adf] at x⊢;exact h.2 (M++F) W x⟩
section
variable {P:Program}{pan:List PanicEntry→AR}{Qn:Env→AR}{Ls L:List Ac}{ρ:Env}{d:Ac}{s:GS}{t:Nat}
def A7{f args R vs A}(l:List Ac)(hc:Av P f vs d A (Ret R))(hL:L=l++A)(ea:args.map (ev ρ)=vs)
  (h:∀v d' L',Le d d'→R v d' L'→gws P pan Qn s Ls (upd ρ t v) d' (l++L')):gws P pan Qn (.op false ⟨some t,none,.call f args⟩ s) Ls ρ d L:=by
 subst hL
 refine Dh hc Adl ea (fun v d' L' hl hr=>⟨d',l++L',Vs.perm Adl,h v d' L' hl hr⟩)
def Ci{f args vs v A}(l:List Ac)(hc:CV P f vs d A v)(hL:L=l++A)(ea:args.map (ev ρ)=vs)(h:gws P pan Qn s Ls (upd ρ t v) d L):
  gws P pan Qn (.op false ⟨some t,none,.call f args⟩ s) Ls ρ d L:=
 A7 l hc hL ea (fun r d' L' _ ⟨h1,h2,h3⟩=>by subst h1;subst h2;subst h3;rw[←hL];exact h)
end
end Go.Gk
namespace Go.Gk.Tre
open Go Go.Gk Go.Gk.Dev Go.Gk.Cch Go.Gk.Pgr Go.Gk.Chn Go.Gk.Node
def DU(d:Ac)(cs:List Value)(n:Az)(hk hv hi:Ac):Prop:=∃kv vv iv,cs=[.bool n.leaf,kv,vv,iv]∧Ap 1 RBs d kv n.keys hk∧Ap 1 RBs d vv n.vals hv∧Ap 1 Bb d iv n.kids hi
def DU.mono{d d' cs}{n:Az}{hk hv hi}(h:DU d cs n hk hv hi)(hl:Le d d'):DU d' cs n hk hv hi:=
 let ⟨kv,vv,iv,e,a,b,c⟩:=h;⟨kv,vv,iv,e,a.En hl,b.En hl,c.Hk hl⟩
def DU.zero{d}:DU d [.bool false,.slice none 0 0,.slice none 0 0,.slice none 0 0] JW emp emp emp:=⟨_,_,_,rfl,Ap.nil,Ap.nil,Ap.nil⟩
def DU.IT{d d1 cs}{n:Az}{hk hv hi}(o:DU d cs n hk hv hi)(hl:Le d d1)(h1:Le hk d1)(h2:Le hv d1)(h3:Le hi d1):CG d1 cs n:=by
 obtain⟨kv,vv,iv,rfl,a,b,c⟩:=o;exact⟨kv,vv,iv,rfl,a.rsl Fa (by omega) hl h1,b.rsl Fa (by omega) hl h2,c.rsl B2 (by omega) hl h3⟩
def OB.grow{d d1:Ac}{v:Value}{xs:List (List UInt8)}{us:List Value}{h0:Ac}{hs:List Ac}(h1:BT 1 v xs.length us h0)(h2:∀i (hi:i<xs.length),∃u g,us[i]?=some u∧hs[i]?=some g∧Ap 1 AP d u xs[i] g)(hl:Le d d1)(hL:∀h∈hs,Le h d1):Ap 1 RBs d1 v xs h0:=by
 rw[Ap.one];refine⟨us,h1,fun i hi u hu=>?_⟩
 obtain⟨u',g,k1,k2,k3⟩:=h2 i hi;rw[hu] at k1;cases k1;exact⟨u,rfl,k3.rsl A3 (by omega) hl (hL _ (Agb k2))⟩
def DT.AcG{d cs}{n:Az}{L}(o:DT d cs n L):∃d' hk hv hi,Vs d L d' [hk,hv,hi]∧Le d d'∧DU d' cs n hk hv hi:=by
 obtain⟨kv,vv,iv,Lk,Lv,hi,rfl,⟨us,h0,hs,a1,a2,a3,rfl⟩,⟨us',h0',hs',b1,b2,b3,rfl⟩,c,rfl⟩:=o;obtain⟨d',v1,v2,v3⟩:=Vs.IG d (hs++hs');refine⟨d',h0,h0',hi,?_,v2,kv,vv,iv,rfl,OB.grow a1 a3 v2 (fun h hm=>v3 h (Adw _ hm)),OB.grow b1 b3 v2 (fun h hm=>v3 h (List.mem_append_right _ hm)),c.Hk v2⟩
 have p:(h0::hs++(h0'::hs')++[hi]).Perm ((hs++hs')++[h0,h0',hi]):=by
  have e1:(h0::hs++(h0'::hs')++[hi])=h0::(hs++h0'::(hs'++[hi])):=by simp
  rw[e1];refine List.Perm.trans (Ads h0 (List.perm_middle)) ?_;have e2:(hs++hs')++[h0,h0',hi]=(hs++hs')++(h0::([h0']++[hi])):=rfl;rw[e2];refine List.Perm.trans ?_ List.perm_middle.symm;refine Ads h0 ?_;rw[show(hs++hs')++([h0']++[hi])=(hs++hs')++(h0'::[hi]) from rfl];refine List.Perm.trans ?_ List.perm_middle.symm;rw[Adf]
 exact(Vs.perm p).trans (v1.app [h0,h0',hi])
def PgT(d:Ac)(s:PD)(dv pv:Value)(L:List Ac):Prop:=∃tc,Pg d {s with tc:=tc} dv pv L
def PgT.mono{d d' s dv pv L}(h:PgT d s dv pv L)(hl:Le d d'):PgT d' s dv pv L:=let ⟨tc,h⟩:=h;⟨tc,h.mono hl⟩
def PgT.of{d s dv pv L}(h:Pg d s dv pv L):PgT d s dv pv L:=⟨s.tc,h⟩
def PgT.ptr{d s dv pv L}(h:PgT d s dv pv L):∃b,pv=pZ b:=let ⟨_,h⟩:=h;h.ptr
def PgT.Fm{d s dv pv L}(h:PgT d s dv pv L):Pgr.Good s:=by
 obtain⟨tc,h⟩:=h;have g:=h.Fm;exact⟨g.one,g.len,g.inn,g.syn,g.kd⟩
def PgT.full{d s dv pv L}(h:PgT d s dv pv L){k:Int}(hk:A4 s k):(s.bytes k).length=256:=by
 obtain⟨tc,h⟩:=h;exact h.full (s:={s with tc:=tc}) hk
abbrev tb(bt:Nat)(Tt:TypeId)(pv:Value)(r h c:Int):Ac:=bx bt Tt [pv,.int .i64 r,.int .i64 h,.int .i64 c]
end Go.Gk.Tre
end
section
namespace Go.Gk.Tre
open Go Go.Gk Go.Gk.Dev Go.Gk.Cch Go.Gk.Pgr Go.Gk.Chn Go.Gk.Node
def O4(b:List UInt8):Az:=(Node.Bw b).getD JW
def PB(b:List UInt8):Int:=if (Node.Bw b).isSome then 0 else 200
def Bk(s:PD)(k:Int):Az×Int:=if A4 s k then(O4 (s.bytes k),PB (s.bytes k)) else(JW,240)
def AT(s:PD)(k:Int)(h:Int):Az×Int:=((Bk s k).1,if (Bk s k).2=0∧(Bk s k).1.leaf≠decide (h=1) then 200 else(Bk s k).2)
def Ex(c:List UInt8):Bool:=decide (c.length=7)&& decide (c.getD 0 0=1)
def DR(c:List UInt8):Nat:=(c.getD 1 0).toNat*256+(c.getD 2 0).toNat
def Dt(c:List UInt8):Nat:=(((c.getD 3 0).toNat*256+(c.getD 4 0).toNat)*256+(c.getD 5 0).toNat)*256+(c.getD 6 0).toNat
def inB(c:List UInt8):Bool:=decide (0<c.length)&& decide (c.getD 0 0=0)
def DQ(s:PD)(c:List UInt8):List UInt8×Int:=if inB c then(c.drop 1,0) else if Ex c then(Chn.Bw s (DR c) (Dt c)).2 else([],200)
def bI(x:Int):UInt8:=UInt8.ofNat (x % 256).toNat
def Gu(h n:Int):List UInt8:=[1,bI (h / 256),bI h,bI (n / 16777216),bI (n / 65536),bI (n / 256),bI n]
def BZ(s:PD)(v:List UInt8):PD×List UInt8×Int:=if v.length≤15 then(s,0::v,0) else((Cd s v).1,Gu (Cd s v).2.1 v.length,(Cd s v).2.2)
def BP(s:PD)(c:List UInt8):PD×Int:=if inB c then(s,0) else if Ex c then DZ s (DR c) (Dt c) else(s,200)
structure MdD where
 page:Int
 other:Int
 key:List UInt8
 size:Int
def Co:MdD:=⟨0,0,[],0⟩
def Br(s:PD)(page:Int)(n:Az):PD×Int×Int:=
 if Bm n then
  if 0≤page∧(s.put page (Cm n)).2≠240 then((s.put page (Cm n)).1,page,(s.put page (Cm n)).2)
  else if s.AX.2.2≠0 then(s.AX.1,0,s.AX.2.2)
  else if 0≤page then
   if (s.AX.1.drop page).2≠0 then((s.AX.1.drop page).1,0,(s.AX.1.drop page).2)
   else(((s.AX.1.drop page).1.put s.AX.2.1 (Cm n)).1,s.AX.2.1,((s.AX.1.drop page).1.put s.AX.2.1 (Cm n)).2)
  else((s.AX.1.put s.AX.2.1 (Cm n)).1,s.AX.2.1,(s.AX.1.put s.AX.2.1 (Cm n)).2)
 else(s,0,200)
def AW(s:PD)(page:Int)(n:Az):PD×MdD×Int:=
 if Bm n then((Br s page n).1,⟨(Br s page n).2.1, -1,[],AY n⟩,(Br s page n).2.2)
 else if Dj n then
  let a:=Br s page (AZ n)
  if a.2.2=0 then let b:=Br a.1 (-1) (Bc n);(b.1,⟨a.2.1,b.2.1,BD n,256⟩,b.2.2)
  else(a.1,Co,a.2.2)
 else(s,Co,200)
def BJ(s:PD)(page:Int)(n:Az)(i:Nat)(m:MdD):PD×MdD×Int:=
 if n.kids.getD i 0=m.page∧m.other<0 then(s,⟨page, -1,[],AY n⟩,0)
 else if 0≤m.other then AW s page {n with keys:=B1 n.keys i m.key,kids:=B1 (n.kids.set i m.page) (i+1) m.other}
 else AW s page {n with kids:=n.kids.set i m.page}
def Cb(s:PD)(page:Int)(key cell:List UInt8):Nat→PD×MdD×Bool×Int
 |0=>(s,Co,false,200)
 |h+1=>
  let r:=AT s page (h+1:Nat)
  if r.2≠0 then(s,Co,false,r.2) else
  let i:=(findD r.1 key).1
  if h=0 then
   if (findD r.1 key).2 then
    let u:=BP s (r.1.vals.getD i [])
    if u.2≠0 then(u.1,Co,false,u.2) else
    let w:=AW u.1 page {r.1 with vals:=r.1.vals.set i cell}
    (w.1,w.2.1,false,w.2.2)
   else
    let w:=AW s page {r.1 with keys:=B1 r.1.keys i key,vals:=B1 r.1.vals i cell}
    (w.1,w.2.1,true,w.2.2)
  else
   let u:=Cb s (r.1.kids.getD i 0) key cell h
   if u.2.2.2≠0 then(u.1,Co,false,u.2.2.2) else
   let w:=BJ u.1 page r.1 i u.2.1
   (w.1,w.2.1,u.2.2.1,w.2.2)
def C1(s:PD)(page:Int)(n:Az)(i0:Nat):PD×MdD×Int:=
 if n.keys.length=0 then(s,Co,99999) else
 let i:=if i0=n.keys.length then i0 - 1 else i0
 let a:=Bk s (n.kids.getD i 0)
 if a.2≠0 then(s,Co,a.2) else
 let b:=Bk s (n.kids.getD (i+1) 0)
 if b.2≠0 then(s,Co,b.2) else
 if a.1.leaf≠b.1.leaf then(s,Co,200) else
 let w:=AW s (n.kids.getD i 0) (BE a.1 b.1 (n.keys.getD i []))
 if w.2.2≠0 then(w.1,Co,w.2.2) else
 let u:=w.1.drop (n.kids.getD (i+1) 0)
 if u.2≠0 then(u.1,Co,u.2) else
 if 0≤w.2.1.other then AW u.1 page {n with keys:=n.keys.set i w.2.1.key,kids:=(n.kids.set i w.2.1.page).set (i+1) w.2.1.other}
 else AW u.1 page {n with keys:=n.keys.eraseIdx i,kids:=(n.kids.set i w.2.1.page).eraseIdx (i+1)}
def BK(s:PD)(page:Int)(key:List UInt8):Nat→PD×MdD×Bool×Int
 |0=>(s,Co,false,200)
 |h+1=>
  let r:=AT s page (h+1:Nat)
  if r.2≠0 then(s,Co,false,r.2) else
  let i:=(findD r.1 key).1
  if h=0 then
   if (findD r.1 key).2 then
    let u:=BP s (r.1.vals.getD i [])
    if u.2≠0 then(u.1,Co,false,u.2) else
    let w:=AW u.1 page {r.1 with keys:=r.1.keys.eraseIdx i,vals:=r.1.vals.eraseIdx i}
    (w.1,w.2.1,true,w.2.2)
   else(s,⟨page, -1,[],256⟩,false,0)
  else
   let u:=BK s (r.1.kids.getD i 0) key h
   if u.2.2.2≠0∨u.2.2.1=false then(u.1,⟨page, -1,[],256⟩,u.2.2.1,u.2.2.2) else
   let w:=if u.2.1.other<0∧u.2.1.size<80 then C1 u.1 page {r.1 with kids:=r.1.kids.set i u.2.1.page} i else BJ u.1 page r.1 i u.2.1
   (w.1,w.2.1,true,w.2.2)
structure TD where
 s:PD
 root:Int
 height:Nat
 count:Nat
def CP(t:TD)(m:MdD):TD×Int:=
 if m.other<0 then({t with root:=m.page},0)
 else
  let k:=Br t.s (-1) ⟨false,[m.key],[],[m.page,m.other]⟩
  ({t with s:=k.1,root:=k.2.1,height:=t.height+1},k.2.2)
def CH(t:TD):TD×Int:=
 let r:=Bk t.s t.root
 if r.2≠0∨r.1.keys≠[] then(t,r.2) else
 let u:=t.s.drop t.root
 if u.2≠0 then({t with s:=u.1},u.2) else
 ({t with s:=u.1,root:=if r.1.leaf then -1 else r.1.kids.getD 0 0,height:=t.height - 1},0)
def CU(t:TD)(key value:List UInt8):TD×Int:=
 let c:=BZ t.s value
 if c.2.2≠0 then({t with s:=c.1},c.2.2) else
 if t.height=0 then
  let k:=Br c.1 (-1) ⟨true,[key],[c.2.1],[]⟩
  (⟨k.1,k.2.1,1,1⟩,k.2.2)
 else
  let u:=Cb c.1 t.root key c.2.1 t.height
  if u.2.2.2≠0 then({t with s:=u.1},u.2.2.2) else
  CP {t with s:=u.1,count:=t.count+(if u.2.2.1 then 1 else 0)} u.2.1
def BF(t:TD)(key:List UInt8):TD×Bool×Int:=
 if t.height=0 then(t,false,0) else
 let u:=BK t.s t.root key t.height
 if u.2.2.2≠0∨u.2.2.1=false then({t with s:=u.1},false,u.2.2.2) else
 let g:=CP {t with s:=u.1,count:=t.count - 1} u.2.1
 if g.2≠0 then(g.1,true,g.2) else
 ((CH g.1).1,true,(CH g.1).2)
def B8(t:TD)(r:TD)(e:Int):TD:=if e=0 then r else{t with s:=r.s.back t.s.mark}
def EW(s:PD)(key:List UInt8):Int→Nat→List UInt8×Bool×Int
 |_,0=>([],false,0)
 |page,h+1=>
  let r:=AT s page (h+1:Nat)
  if r.2≠0 then([],false,r.2) else
  if h=0 then
   if (findD r.1 key).2 then((DQ s (r.1.vals.getD (findD r.1 key).1 [])).1,decide ((DQ s (r.1.vals.getD (findD r.1 key).1 [])).2=0),(DQ s (r.1.vals.getD (findD r.1 key).1 [])).2)
   else([],false,0)
  else EW s key (r.1.kids.getD (findD r.1 key).1 0) h
def Gs(c:List UInt8):Nat:=if inB c then 0 else AQ (Dt c)
def He(s:PD)(key:List UInt8):Int→Nat→Nat
 |_,0=>0
 |page,h+1=>
  let r:=AT s page (h+1:Nat)
  if h=0 then(if (findD r.1 key).2 then 1+Gs (r.1.vals.getD (findD r.1 key).1 []) else 1)
  else 1+He s key (r.1.kids.getD (findD r.1 key).1 0) h
def BV(key:List UInt8):Int:=if key.length<1∨64<key.length then 2 else 0
end Go.Gk.Tre
end
section
namespace Go.Gk.Chn
open Go Go.Gk Go.Gk.Dev Go.Gk.Cch Go.Gk.Pgr
variable{s s0 t:PD}{i:Nat}{x k:Int}{l:List Int}{b:List UInt8}
structure Tk (s0 s:PD) (l:List Int):Prop where
 frm:s.frm=s0.frm
 syn:s.syn=s0.syn
 round:s.round=s0.round
 len:s.kinds.length=s0.kinds.length
 kd:∀j,j<s0.kinds.length→s.kd j=if ((s0.frm+j:Nat):Int)∈l then 1 else s0.kd j
 was:∀k∈l,∃j,j<s0.kinds.length∧k=((s0.frm+j:Nat):Int)∧s0.kd j=0
 nd:l.Nodup
 fb:∀j,((s0.frm+j:Nat):Int)∉l→s.fb j=s0.fb j
 free:s.free+l.length=s0.free
def Tk.nil(s:PD):Tk s s []:=⟨rfl,rfl,rfl,rfl,fun j _=>(by simp),fun k hk=>(by cases hk),List.nodup_nil,fun _ _=>rfl,rfl⟩
def NP(hi:i<s.kinds.length):(s.kinds.set i x).countP (·==0)+(if s.kinds[i]=0 then 1 else 0)=s.free+(if x=0 then 1 else 0):=by
 rw[List.countP_set hi];have hp:s.kinds[i]=0→0<s.free:=fun h=>List.countP_pos_iff.2 ⟨_,Aec hi,by simp[h]⟩;have hf:s.free=s.kinds.countP (·==0):=rfl;rw[hf] at hp⊢;by_cases h0:s.kinds[i]=0
 ·have:=hp h0;by_cases hx:x=0
  ·simp[h0,hx];omega
  ·simp[h0,hx];omega
 ·by_cases hx:x=0
  ·simp[h0,hx]
  ·simp[h0,hx]
def Uf(h:Db 0 l=none):l.countP (·==0)=0:=by
 rw[List.countP_eq_zero];intro a ha e;have:a=0:=by simpa using e
 subst this;clear e;induction l with
 |nil=>cases ha
 |cons y l ih=>
  rw[Db] at h
  split at h
  ·cases h
  ·rename_i hne
   rcases Adu.1 ha with rfl|ha
   ·exact hne rfl
   ·exact ih (by cases q:Db 0 l with|none=>rfl|some j=>rw[q] at h;cases h) ha
def Tk.take(h:Tk s0 s l):(s.AX.2.2=0∧Tk s0 s.AX.1 (l++[s.AX.2.1]))∨(s.AX.2.2=190∧s.AX.1=s∧s.free=0):=by
 unfold PD.AX;cases hq:Db 0 s.kinds with
 |none=>exact .inr ⟨rfl,rfl,Uf hq⟩
 |some i=>
  obtain⟨hi,h0⟩:=F9 hq
  refine .inl ⟨rfl,?_⟩
  show Tk s0 (s.Hy i) (l++[((s.frm+i:Nat):Int)])
  have hi0:i<s0.kinds.length:=by rw[←h.len];exact hi
  have hnot:((s0.frm+i:Nat):Int)∉l:=fun hm=>by
   have:=h.kd i hi0;rw[if_pos hm,GJ hi,h0] at this;cases this
  have h00:s0.kd i=0:=by
   have:=h.kd i hi0;rw[if_neg hnot,GJ hi,h0] at this;exact this.symm
  rw[h.frm]
  refine⟨h.frm,h.syn,h.round,by simp[PD.Hy,h.len],fun j hj=>?_,fun k hk=>?_,?_,fun j hj=>?_,?_⟩
  ·show(s.kinds.set i 1).getD j 0=_
   rw[De hi]
   by_cases e:j=i
   ·subst e;rw[if_pos rfl,if_pos (by simp)]
   ·rw[if_neg e,show s.kinds.getD j 0=s.kd j from rfl,h.kd j hj]
    by_cases hm:((s0.frm+j:Nat):Int)∈l
    ·rw[if_pos hm,if_pos (Adw _ hm)]
    ·rw[if_neg hm,if_neg]
     intro hm'
     rcases Adg.1 hm' with q|q
     ·exact hm q
     ·have:=Adq.1 q;omega
  ·rcases Adg.1 hk with q|q
   ·exact h.was k q
   ·exact⟨i,hi0,Adq.1 q,h00⟩
  ·refine List.nodup_append.2 ⟨h.nd,by simp,fun a ha b hb=>?_⟩
   rw[Adq.1 hb]
   exact fun e=>hnot (e▸ha)
  ·show EA s.fb i I8 j=s0.fb j
   have hne:j≠i:=fun e=>hj (by rw[e];simp)
   rw[EA,if_neg hne]
   exact h.fb j (fun q=>hj (Adw _ q))
  ·have hf:=NP (s:=s) (i:=i) (x:=1) hi
   rw[if_pos h0,if_neg (by decide)] at hf
   have:=h.free
   show(s.kinds.set i 1).countP (·==0)+(l++[_]).length=s0.free
   rw[Adj,Ags]
   omega
def Kl:∀{n:Nat}{s}{l:List Int},Tk s0 s l→Tk s0 (BY s l n).1 (BY s l n).2.1∧(((BY s l n).2.2=0∧n≤s.free)∨((BY s l n).2.2=190∧s.free<n))
 |0,s,l,h=>⟨h,.inl ⟨rfl,Aej _⟩⟩
 |n+1,s,l,h=>by
  rw[BY];rcases h.take with ⟨h1,h2⟩|⟨h1,h2,h3⟩
  ·rw[if_pos h1];obtain⟨k1,k2⟩:=Kl (n:=n) h2;have hf:=h2.free;have hf0:=h.free;rw[Adj,Ags] at hf;refine⟨k1,?_⟩
   rcases k2 with ⟨k2,k3⟩|⟨k2,k3⟩
   ·exact .inl ⟨k2,by omega⟩
   ·exact .inr ⟨k2,by omega⟩
  ·rw[if_neg (by rw[h1];decide)];simp only;rw[h2];exact⟨h,.inr ⟨h1,by omega⟩⟩
def W3{c}(h0:0≤x)(h1:x<65536):((GY (Eg x c):Nat):Int)=x:=by
 unfold GY Eg;simp only[Afx,Afy,UInt8.toNat_ofNat'];omega
def Ws{c}:((Eg x c).drop (2+c.length)).all (·==0)=true:=by
 unfold Eg;rw[Nat.add_comm 2];show((c++Adx (254 - c.length) 0).drop c.length).all (·==0)=true;rw[Ahw];simp
def Yk{c}:((Eg x c).drop 2).take c.length=c:=by
 unfold Eg;show(c++Adx (254 - c.length) 0).take c.length=c;rw[List.take_left]
structure Gf (s:PD) (b:List UInt8) (l:List Int):Prop where
 len:l.length=AQ b.length
 rng:∀k∈l,0≤k∧k<65535
 live:∀j (h:j<l.length),A4 s l[j]
 pg:∀j (h:j<l.length),s.bytes l[j]=Eg (l.getD (j+1) 65535) (Cr b j)
def IP:(Cr b i).length=min 254 (b.length - i*254):=by unfold Cr;rw[Adz,Adr]
def VO:b.take (i*254)++Cr b i=b.take ((i+1)*254):=by
 unfold Cr;rw[show(i+1)*254=i*254+254 by omega,List.take_add]
def Ic(h:i<l.length):l.getD i x=l[i]:=by rw[Adh,Ade h];rfl
def NH(h:l.length≤i):l.getD i x=x:=by rw[Adh,Aes h];rfl
def Nx(h:Gf s b l):∀{m i:Nat},i+m=l.length→DG s b.length l.length (l.getD i 65535) (l.take i) (b.take (i*254)) m=(l,b,0)
 |0,i,hm=>by
  have hl:=h.len;rw[DG,Afh (by omega),Afh (by unfold AQ at hl;omega)]
 |m+1,i,hm=>by
  have hi:i<l.length:=by omega
  have hl:=h.len;have hb:i*254≤b.length:=Q3 (by omega);rw[Ic hi,DG,if_pos (h.live i hi),h.pg i hi];have hnx:0≤l.getD (i+1) 65535∧l.getD (i+1) 65535<65536:=by
   by_cases e:i+1<l.length
   ·rw[Ic e];have:=h.rng _ (Aec e);omega
   ·rw[NH (by omega)];decide
  have hlk:=W3 (c:=Cr b i) hnx.1 hnx.2;have htl:(l.take i).length=i:=by rw[Adz];omega
  have hc:(GY (Eg (l.getD (i+1) 65535) (Cr b i))=65535)=((l.take i).length+1=l.length):=by
   rw[htl];refine propext ⟨fun q=>?_,fun q=>?_⟩
   ·by_cases e:i+1<l.length
    ·rw[Ic e] at hlk q;have:=h.rng _ (Aec e);rw[q] at hlk;omega
    ·omega
   ·rw[NH (by omega)] at hlk;rw[NH (by omega)];omega
  rw[if_pos hc];have hbt:(b.take (i*254)).length=i*254:=by rw[Adz];omega
  have hmn:min 254 (b.length - (b.take (i*254)).length)=(Cr b i).length:=by rw[hbt,IP]
  rw[hmn,Ws,if_pos rfl,Yk,VO,hlk,show l.take i++[l[i]]=l.take (i+1) from(Aea hi).symm];exact Nx h (by omega)
def Rf{n:Nat}:1≤AQ n:=by unfold AQ;omega
def Ji(h:Gf s b l)(hb:b.length≤16384):Bw s (l.getD 0 0) b.length=(l,b,0):=by
 unfold Bw;rw[if_pos (by omega),Int.toNat_natCast,←h.len];have h0:0<l.length:=by rw[h.len];exact Rf
 have:=Nx h (m:=l.length) (i:=0) (by omega);rw[Ic h0] at this⊢;simpa using this
def IU{b:Sec}(hk:s.kind k=1)(hb:b.length=256):(s.put k b).1={s with fb:=EA s.fb (k - s.frm).toNat b}:=by
 unfold PD.put;rw[if_pos hk,if_pos hb]
def S2{k':Int}{b:Sec}(hk:s.kind k=1)(hb:b.length=256):(s.put k b).1.kind k'=s.kind k':=by rw[IU hk hb];rfl
def LF{k':Int}{b:Sec}(hk:s.kind k=1)(hb:b.length=256):(s.put k b).1.bytes k'=if k'=k then b else s.bytes k':=by
 have hkk:=S2 (k':=k') hk hb;unfold PD.bytes;rw[hkk,IU hk hb];obtain⟨i,i1,rfl,i2,i3⟩:=CA hk (by omega);by_cases e:k'=((s.frm+i:Nat):Int)
 ·subst e;rw[if_pos hk,if_pos rfl];show EA s.fb _ b _=b;rw[EA,if_pos rfl]
 ·rw[if_neg e];by_cases h1:s.kind k'=1
  ·rw[if_pos h1,if_pos h1];obtain⟨j,j1,rfl,j2,j3⟩:=CA h1 (by omega);show EA s.fb _ b _=s.fb _;rw[EA,i3,j3,if_neg (fun q=>e (by rw[q]))]
  ·rw[if_neg h1,if_neg h1]
def FG:(Eg x (Cr b i)).length=256:=by
 have:=IP (b:=b) (i:=i);unfold Eg;simp only[Adm,Adj,Aet];omega
def WB(hn:l.Nodup){j:Nat}(hi:i<l.length)(hj:j<l.length)(e:l[i]=l[j]):i=j:=by
 rcases Nat.lt_trichotomy i j with h|h|h
 ·exact absurd e (Agf.1 hn i j hi hj h)
 ·exact h
 ·exact absurd e.symm (Agf.1 hn j i hj hi h)
structure Li (s t:PD):Prop where
 frm:t.frm=s.frm
 kinds:t.kinds=s.kinds
 syn:t.syn=s.syn
 round:t.round=s.round
def Li.refl(s:PD):Li s s:=⟨rfl,rfl,rfl,rfl⟩
def Li.kind(h:Li s t)(k:Int):t.kind k=s.kind k:=by unfold PD.kind PD.kd;rw[h.frm,h.kinds]
def Li.free(h:Li s t):t.free=s.free:=by unfold PD.free;rw[h.kinds]
def UT{t:PD}{l:List Int}{b:List UInt8}(hf:∀k∈l,t.kind k=1)(hn:l.Nodup):∀{i:Nat},i≤l.length→Li t (DH t l b i)∧
  (∀j (hj:j<l.length),j<i→(DH t l b i).bytes l[j]=Eg (l.getD (j+1) 65535) (Cr b j))∧∀k,k∉l→(DH t l b i).bytes k=t.bytes k
 |0,_=>⟨Li.refl t,fun j _ h=>absurd h (Agm j),fun _ _=>rfl⟩
 |i+1,hi=>by
  obtain⟨h1,h2,h3⟩:=UT (b:=b) hf hn (i:=i) (by omega);have hi':i<l.length:=by omega
  have hk:(DH t l b i).kind l[i]=1:=by rw[h1.kind];exact hf _ (Aec hi')
  rw[DH,Ic hi'];refine⟨?_,fun j hj hji=>?_,fun k hkl=>?_⟩
  ·rw[IU hk FG];exact⟨h1.frm,h1.kinds,h1.syn,h1.round⟩
  ·rw[LF hk FG];by_cases e:j=i
   ·subst e;rw[if_pos rfl]
   ·rw[if_neg (fun q=>e (WB hn hj hi' q))];exact h2 j hj (by omega)
  ·rw[LF hk FG,if_neg (fun(q:k=l[i])=>hkl (by rw[q];exact Aec hi'))];exact h3 k hkl
def Tk.kind(h:Tk s0 s l)(k:Int):s.kind k=if k∈l then 1 else s0.kind k:=by
 unfold PD.kind;rw[h.frm,h.len];by_cases e:(s0.frm:Int)≤k∧k<(s0.frm:Int)+s0.kinds.length
 ·rw[if_pos e,if_pos e,h.kd _ (by omega),show((s0.frm+(k - s0.frm).toNat:Nat):Int)=k by omega]
 ·rw[if_neg e,if_neg e];rw[if_neg];intro hm;obtain⟨j,j1,j2, -⟩:=h.was k hm;omega
def Tk.not(h:Tk s0 s l)(hk:s0.kind k≠0):k∉l:=fun hm=>by
 obtain⟨j,j1,rfl,j3⟩:=h.was k hm;rw[GB j1] at hk;exact hk j3
def Tk.bytes(h:Tk s0 s l)(hk:k∉l):s.bytes k=s0.bytes k:=by
 have hkk:=h.kind k;rw[if_neg hk] at hkk;unfold PD.bytes;rw[hkk,h.syn];by_cases h1:s0.kind k=1
 ·rw[if_pos h1,if_pos h1];obtain⟨j,j1,rfl,j2,j3⟩:=CA h1 (by omega);rw[h.frm,j3];exact h.fb j hk
 ·rw[if_neg h1,if_neg h1]
def Xl(hG:Pgr.Good s)(hr:AQ b.length≤s.free):∃t l,Cd s b=(t,l.getD 0 0,0)∧Gf t b l∧(∀k∈l,t.kind k=1∧s.kind k=0)∧t.free+l.length=s.free∧l.length=AQ b.length∧
  (∀k,k∉l→t.kind k=s.kind k∧t.bytes k=s.bytes k)∧l.Nodup:=by
 obtain⟨h1,h2⟩:=Kl (n:=AQ b.length) (Tk.nil s)
 have hz:(BY s [] (AQ b.length)).2.2=0:=by
  rcases h2 with ⟨q, -⟩|⟨-,q⟩
  ·exact q
  ·omega
 have ht:BC s (AQ b.length)=BY s [] (AQ b.length):=by unfold BC;rw[if_pos hz]
 have hlen:(BY s [] (AQ b.length)).2.1.length=AQ b.length:=by have:=Ma hz;simpa using this
 have hc:Cd s b=(DH (BY s [] (AQ b.length)).1 (BY s [] (AQ b.length)).2.1 b (BY s [] (AQ b.length)).2.1.length,(BY s [] (AQ b.length)).2.1.getD 0 0,0):=by
  unfold Cd;rw[ht];simp only[hz,if_true]
 rw[hc]
 generalize (BY s [] (AQ b.length)).1=t at h1
 generalize (BY s [] (AQ b.length)).2.1=l at h1 hlen
 have hf:∀k∈l,t.kind k=1:=fun k hk=>by rw[h1.kind,if_pos hk]
 obtain⟨p1,p2,p3⟩:=UT (b:=b) hf h1.nd (i:=l.length) (Adi _)
 refine⟨_,l,rfl,⟨hlen,fun k hk=>?_,fun j hj=>?_,fun j hj=>p2 j hj hj⟩,fun k hk=>⟨by rw[p1.kind];exact hf k hk,?_⟩,by rw[p1.free];exact h1.free,hlen,fun k hk=>⟨?_,?_⟩,h1.nd⟩
 ·obtain⟨j,j1,rfl, -⟩:=h1.was k hk
  have:=hG.inn
  have:=hG.syn
  omega
 ·exact .inl (by rw[p1.kind];exact hf _ (Aec hj))
 ·obtain⟨j,j1,rfl,j3⟩:=h1.was k hk
  rw[GB j1];exact j3
 ·rw[p1.kind,h1.kind,if_neg hk]
 ·rw[p3 k hk,h1.bytes hk]
def Gf.stay(h:Gf s b l)(hs:∀k∈l,t.kind k=s.kind k∧t.bytes k=s.bytes k):Gf t b l:=
 ⟨h.len,h.rng,fun j hj=>by unfold A4;rw[(hs _ (Aec hj)).1];exact h.live j hj,fun j hj=>by rw[(hs _ (Aec hj)).2];exact h.pg j hj⟩
def J9(hi:i<s.kinds.length)(hk:s.kd i=1):s.drop ((s.frm+i:Nat):Int)=({s with kinds:=s.kinds.set i 0},0):=by
 unfold PD.drop;rw[if_pos (by rw[GB hi];exact hk),show(((s.frm+i:Nat):Int) - s.frm).toNat=i by omega]
def I1(hi:i<s.kinds.length)(hk:s.kd i=1):(s.drop ((s.frm+i:Nat):Int)).1.kind k=if k=((s.frm+i:Nat):Int) then 0 else s.kind k:=by
 rw[J9 hi hk];by_cases e:k=((s.frm+i:Nat):Int)
 ·subst e;rw[if_pos rfl];have:i<({s with kinds:=s.kinds.set i 0}:PD).kinds.length:=by simpa using hi
  rw[show((s.frm+i:Nat):Int)=((({s with kinds:=s.kinds.set i 0}:PD).frm+i:Nat):Int) from rfl,GB this];show(s.kinds.set i 0).getD i 0=0;rw[De hi,if_pos rfl]
 ·rw[if_neg e];unfold PD.kind;simp only[List.length_set];by_cases q:(s.frm:Int)≤k∧k<(s.frm:Int)+s.kinds.length
  ·rw[if_pos q,if_pos q];show(s.kinds.set i 0).getD _ 0=s.kinds.getD _ 0;rw[De hi,if_neg (by omega)]
  ·rw[if_neg q,if_neg q]
def Vb(hi:i<s.kinds.length)(hk:s.kd i=1)(e:k≠((s.frm+i:Nat):Int)):(s.drop ((s.frm+i:Nat):Int)).1.bytes k=s.bytes k:=by
 have h:=I1 (k:=k) hi hk;rw[if_neg e] at h;unfold PD.bytes;rw[h,J9 hi hk]
def Ta:∀{l:List Int}{s},(∀k∈l,s.kind k=1)→l.Nodup→(DF s l).free=s.free+l.length∧DI s l=(DF s l,0)∧(∀k∈l,(DF s l).kind k=0)∧∀k,k∉l→(DF s l).kind k=s.kind k∧(DF s l).bytes k=s.bytes k
 |[],s,_,_=>⟨rfl,rfl,fun k h=>(by cases h),fun _ _=>⟨rfl,rfl⟩⟩
 |k::l,s,hf,hn=>by
  obtain⟨hnk,hn'⟩:=List.nodup_cons.1 hn;obtain⟨i,hi,rfl,hki, -⟩:=CA (hf k (Ado ..)) (by omega);have hd:=J9 hi hki;have hf':∀k'∈l,(s.drop ((s.frm+i:Nat):Int)).1.kind k'=1:=fun k' hk'=>by
   rw[I1 hi hki,if_neg (fun(q:k'=((s.frm+i:Nat):Int))=>hnk (by rw[←q];exact hk'))];exact hf k' (Adp _ hk')
  obtain⟨h1,h2,h3,h4⟩:=Ta hf' hn';have e:DF s (((s.frm+i:Nat):Int)::l)=DF (s.drop ((s.frm+i:Nat):Int)).1 l:=by simp[DF]
  have hfr:(s.drop ((s.frm+i:Nat):Int)).1.free=s.free+1:=by
   rw[hd];have:=NP (s:=s) (i:=i) (x:=0) hi;rw[if_neg (by rw[←GJ hi,hki];decide),if_pos rfl] at this;exact this
  rw[e];refine⟨by rw[h1,hfr,Adm];omega,?_,fun k' hk'=>?_,fun k' hk'=>?_⟩
  ·rw[DI,if_pos (by rw[hd]),h2]
  ·by_cases q:k'∈l
   ·exact h3 k' q
   ·rcases Adu.1 hk' with rfl|hk'
    ·rw[(h4 _ q).1,I1 hi hki,if_pos rfl]
    ·exact absurd hk' q
  ·have q1:k'∉l:=fun q=>hk' (Adp _ q);have q2:k'≠((s.frm+i:Nat):Int):=fun q=>hk' (by rw[q];exact Ado ..);obtain⟨j1,j2⟩:=h4 k' q1;exact⟨by rw[j1,I1 hi hki,if_neg q2],by rw[j2,Vb hi hki q2]⟩
def Wn(hr:s.free<AQ b.length):∃t,Cd s b=(t,0,190)∧t.free=s.free:=by
 obtain⟨h1,h2⟩:=Kl (n:=AQ b.length) (Tk.nil s);have hz:(BY s [] (AQ b.length)).2.2=190:=by
  rcases h2 with ⟨-,q⟩|⟨q, -⟩
  ·omega
  ·exact q
 have ht:BC s (AQ b.length)=(DF (BY s [] (AQ b.length)).1 (BY s [] (AQ b.length)).2.1,[],190):=by unfold BC;rw[if_neg (by rw[hz];decide),hz]
 refine⟨DF (BY s [] (AQ b.length)).1 (BY s [] (AQ b.length)).2.1,?_,?_⟩
 ·unfold Cd;rw[ht];rfl
 ·obtain⟨q, -⟩:=Ta (s:=(BY s [] (AQ b.length)).1) (l:=(BY s [] (AQ b.length)).2.1) (fun k hk=>by rw[h1.kind,if_pos hk]) h1.nd;rw[q];exact h1.free
end Go.Gk.Chn
end
section
namespace Go.Gk.Tre
open Go Go.Gk Go.Gk.Dev Go.Gk.Cch Go.Gk.Pgr Go.Gk.Chn Go.Gk.Node
variable{n:Nat}{k size:Int}
section
abbrev wtc(s:PD)(n:Nat):PD:={s with tc:=n}
def Abj{s}:(wtc s n).kind k=s.kind k:=rfl
def XY{s}{b:Sec}:(wtc s n).put k b=(wtc (s.put k b).1 n,(s.put k b).2):=by
 unfold PD.put;rw[Abj];by_cases h1:s.kind k=1
 ·by_cases h2:b.length=256
  ·simp only[if_pos h1,if_pos h2]
  ·simp only[if_pos h1,if_neg h2]
 ·simp only[if_neg h1]
def UW{s}:(wtc s n).AX=(wtc s.AX.1 n,s.AX.2):=by
 unfold PD.AX;show(match Db 0 s.kinds with|some i=>_|none=>_)=_;cases Db 0 s.kinds<;>rfl
def OD{s}:(wtc s n).drop k=(wtc (s.drop k).1 n,(s.drop k).2):=UJ
def Sn:∀{m:Nat}{s}{l:List Int},BY (wtc s n) l m=(wtc (BY s l m).1 n,(BY s l m).2)
 |0,s,l=>rfl
 |m+1,s,l=>by
  rw[BY,BY,UW];by_cases h:s.AX.2.2=0
  ·rw[if_pos h,if_pos h];exact Sn
  ·rw[if_neg h,if_neg h]
def TH:∀{l:List Int}{s},DF (wtc s n) l=wtc (DF s l) n
 |[],s=>rfl
 |k::l,s=>by
  show DF ((wtc s n).drop k).1 l=wtc (DF (s.drop k).1 l) n;rw[OD];exact TH
def XW{m:Nat}{s}:Chn.BC (wtc s n) m=(wtc (Chn.BC s m).1 n,(Chn.BC s m).2):=by
 unfold Chn.BC;rw[Sn];by_cases h:(BY s [] m).2.2=0
 ·rw[if_pos h,if_pos h]
 ·rw[if_neg h,if_neg h,TH]
def UB{s}{l:List Int}{b}:∀{i:Nat},Chn.DH (wtc s n) l b i=wtc (Chn.DH s l b i) n
 |0=>rfl
 |i+1=>by rw[Chn.DH,Chn.DH,UB,XY]
def S5{s b}:Cd (wtc s n) b=(wtc (Cd s b).1 n,(Cd s b).2):=by
 unfold Cd;rw[XW];simp only;by_cases h:(Chn.BC s (AQ b.length)).2.2=0
 ·rw[if_pos h,if_pos h,UB]
 ·rw[if_neg h,if_neg h]
def QH:∀{l:List Int}{s},DI (wtc s n) l=(wtc (DI s l).1 n,(DI s l).2)
 |[],s=>rfl
 |k::l,s=>by
  rw[DI,DI,OD];by_cases h:(s.drop k).2=0
  ·rw[if_pos h,if_pos h];exact QH
  ·rw[if_neg h,if_neg h]
def NS{s}:Chn.Bw (wtc s n) k size=Chn.Bw s k size:=by
 have h:∀{m:Nat}{N:Nat}{z:Nat}{k:Int}{l:List Int}{o},DG (wtc s n) z N k l o m=DG s z N k l o m:=by
  intro m;induction m with
  |zero=>intros;rfl
  |succ m ih=>
   intro N z k l o
   rw[DG,DG]
   show(if A4 s k then if (GY (s.bytes k)=65535)=(l.length+1=N) then if ((s.bytes k).drop _).all _ then DG (wtc s n) _ _ _ _ _ _ else _ else _ else _)=_
   simp only[ih]
   rfl
 unfold Chn.Bw;simp only[h]
def Wz{s}:DZ (wtc s n) k size=(wtc (DZ s k size).1 n,(DZ s k size).2):=by
 unfold DZ;rw[NS];by_cases h:(Chn.Bw s k size).2.2=0
 ·rw[if_pos h,if_pos h,QH]
 ·rw[if_neg h,if_neg h]
section
variable {P:Program}{f:FuncId}{d:Ac}{s:PD}{dv pv:Value}{L:List Ac}
def PgT.mk(h:Pg d (wtc s n) dv pv L):PgT d s dv pv L:=⟨n,h⟩
def Y8(h:O8 P f)(hp:PgT d s dv pv L){w}{b:Sec}(hb:AM d w b):Av P f [pv,vZ k,w] d L (Ret fun r d' L'=>r=vZ (s.put k b).2∧PgT d' (s.put k b).1 dv pv L'):=by
 obtain⟨n,hp⟩:=hp;refine Av.DL (h (k:=k) hp hb) (fun r d' L' _ ⟨h1,h2⟩=>⟨d',L',Vs.refl _ _,?_⟩);rw[XY] at h1 h2;exact⟨h1,n,h2⟩
def ZQ(h:Pgr.F8 P f)(hp:PgT d s dv pv L):Av P f [pv] d L (Ret fun r d' L'=>r=.tuple #[vZ s.AX.2.1,vZ s.AX.2.2]∧PgT d' s.AX.1 dv pv L'):=by
 obtain⟨n,hp⟩:=hp;refine Av.DL (h hp) (fun r d' L' _ ⟨h1,h2⟩=>⟨d',L',Vs.refl _ _,?_⟩);rw[UW] at h1 h2;exact⟨h1,n,h2⟩
def Vt(h:GZ P f)(hp:PgT d s dv pv L):Av P f [pv,vZ k] d L (Ret fun r d' L'=>r=vZ (s.drop k).2∧PgT d' (s.drop k).1 dv pv L'):=by
 obtain⟨n,hp⟩:=hp;refine Av.DL (h (k:=k) hp) (fun r d' L' _ ⟨h1,h2⟩=>⟨d',L',Vs.refl _ _,?_⟩);rw[OD] at h1 h2;exact⟨h1,n,h2⟩
def Wv(h:MF P f)(hp:PgT d s dv pv L):
  Av P f [pv,vZ k,vZ size] d L (Ret fun r d' L'=>Le d d'∧r=vZ (DZ s k size).2∧PgT d' (DZ s k size).1 dv pv L'):=by
 obtain⟨n,hp⟩:=hp
 refine Av.DL (h (k:=k) (size:=size) hp) (fun r d' L' _ ⟨h0,h1,tc,h2⟩=>⟨d',L',Vs.refl _ _,?_⟩)
 rw[Wz] at h1 h2;exact⟨h0,h1,tc,h2⟩
def Acf(h:ML P f)(hp:PgT d s dv pv L):
  Av P f [pv,vZ k,vZ size] d L (Ret fun r d' L'=>Le d d'∧∃w,r=.tuple #[w,vZ (Chn.Bw s k size).2.2]∧C5 d' w (Chn.Bw s k size).1∧PgT d' s dv pv L'):=by
 obtain⟨n,hp⟩:=hp
 refine Av.DL (h (k:=k) (size:=size) hp) (fun r d' L' _ ⟨h0,w,tc,h1,h2,h3⟩=>⟨d',L',Vs.refl _ _,?_⟩)
 rw[NS] at h1 h2;exact⟨h0,w,h1,h2,tc,h3⟩
end
end
end Go.Gk.Tre
end
section
namespace Go.Gk
open Go
section
section
variable {P:Program}{pan:List PanicEntry→AR}{Qn:Env→AR}{Ls L:List Ac}{ρ:Env}{d:Ac}{s:GS}{t:Nat}{tk:Bool}
def OZ{x y k'}{a:Nat}(n m:Nat)(ex:ev ρ x=vZ (a:Int))(ey:ev ρ y=.int k' (n:Int))(hn:n≤32)(hm:m=a*2 ^ n)(ha:a≤65535)(h:gws P pan Qn s Ls (upd ρ t (vZ (m:Int))) d L):
  gws P pan Qn (.op tk ⟨some t,none,.bin .shl x y⟩ s) Ls ρ d L:=by
 refine Dl ?_ h
 have h1:min (Int.toNat (n:Int)) IntKind.i64.bits=n:=by simp[IntKind.bits];omega
 have h2:2 ^ n≤2 ^ 32:=Nat.pow_le_pow_right (by omega) hn
 have h3:a*2 ^ n≤65535*2 ^ 32:=Nat.mul_le_mul ha h2
 have e:(a:Int)*2 ^ n=((a*2 ^ n:Nat):Int):=by push_cast;rfl
 rw[ex,ey]
 simp only[C7,h1]
 rw[if_neg (by omega),e,DO (by omega) (by omega),hm]
def XC{x y k'}{a:Int}(n:Nat)(m:Int)(ex:ev ρ x=vZ a)(ey:ev ρ y=.int k' (n:Int))(hn:n≤32)(_:0≤a)(hm:m=a / (2 ^ n:Nat))(h:gws P pan Qn s Ls (upd ρ t (vZ m)) d L):
  gws P pan Qn (.op tk ⟨some t,none,.bin .shr x y⟩ s) Ls ρ d L:=by
 refine Dl ?_ h
 have h1:min (Int.toNat (n:Int)) IntKind.i64.bits=n:=by simp[IntKind.bits];omega
 rw[ex,ey]
 simp only[C7,h1]
 rw[if_neg (by omega),hm]
 congr 2
 rw[Int.fdiv_eq_ediv_of_nonneg _ (by exact_mod_cast Aej _)]
 simp
def RK{x y}{a b:Nat}(n:Nat)(ex:ev ρ x=vZ ((a*2 ^ n:Nat):Int))(ey:ev ρ y=vZ (b:Int))(ha:a*2 ^ n<9223372036854775808)(hb:b<2 ^ n)(hs:a*2 ^ n+b<9223372036854775808)
  (h:gws P pan Qn s Ls (upd ρ t (vZ ((a*2 ^ n+b:Nat):Int))) d L):gws P pan Qn (.op tk ⟨some t,none,.bin .or x y⟩ s) Ls ρ d L:=by
 refine Dl ?_ h
 have hlt:b<9223372036854775808:=by omega
 have e:(BitVec.ofInt IntKind.i64.bits ((a*2 ^ n:Nat):Int)|||BitVec.ofInt IntKind.i64.bits ((b:Nat):Int)).toNat=a*2 ^ n+b:=by
  have h1:=Nat.shiftLeft_add_eq_or_of_lt (i:=n) hb a;rw[Nat.shiftLeft_eq] at h1;show((BitVec.ofInt 64 ((a*2 ^ n:Nat):Int):BitVec 64)|||(BitVec.ofInt 64 ((b:Nat):Int):BitVec 64)).toNat=_;rw[BitVec.toNat_or,BitVec.ofInt_natCast,BitVec.ofInt_natCast,BitVec.toNat_ofNat,BitVec.toNat_ofNat];rw[Agh (by omega),Agh (by omega)];exact h1.symm
 rw[ex,ey]
 simp only[C7,e]
 rw[DO (by omega) (by omega),if_neg (fun h=>h rfl)]
def AbK{z x0 x1 x2 x3 x4 x5 x6}{a0 a1 a2 a3 a4 a5 a6:UInt8}(e0:ev ρ x0=AA a0)(e1:ev ρ x1=AA a1)(e2:ev ρ x2=AA a2)(e3:ev ρ x3=AA a3)(e4:ev ρ x4=AA a4)(e5:ev ρ x5=AA a5)(e6:ev ρ x6=AA a6)
  (h:∀b T,gws P pan Qn s Ls (upd ρ t (.slice (some ⟨b,0,none⟩) 7 7)) d (bx b T ([a0,a1,a2,a3,a4,a5,a6].map AA)::L)):gws P pan Qn (.op false ⟨some t,none,.bsl 7 1 [z] [(0,x0),(1,x1),(2,x2),(3,x3),(4,x4),(5,x5),(6,x6)]⟩ s) Ls ρ d L:=by
 have c:∀a:UInt8,(AA a).cells= #[AA a]:=fun _=>rfl
 refine DE (by omega) ?_ h
 simp[Instr.fill,Bq,List.range,List.range.loop,e0,c,e1,e2,e3,e4,e5,e6]
end
end
end Go.Gk
end
