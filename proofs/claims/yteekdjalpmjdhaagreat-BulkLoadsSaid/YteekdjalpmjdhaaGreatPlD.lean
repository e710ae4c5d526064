/-
  Our own texts, one behind the other: GkPg4 GkPg5 GkC5 GkPg6 GkPg7 GkPg8 GkPgL GkPgM Gk28 Gk29 Gk40 GkH1 GkH2 GkH3 GkH4 GkH5 GkNode1 GkNode2 GkNode3 GkNode4 GkNode5 GkNode6 GkNode7 GkNode8 GkNodeA GkNodeB GkNodeC GkNodeD GkNodeE GkNodeF GkNodeH GkNodeI GkNodeJ GkNodeK GkNodeG.
-/
import Derived.Recover
import Derived.BigFrame
import Derived.Test.YteekdjalpmjdhaaGreatPlC
set_option linter.defProp false
set_option linter.unusedVariables false
set_option linter.unusedSimpArgs false
open Nat renaming le_of_ble_eq_true→Aca,le_refl→Acj,zero_le→Adf,le_trans→Aeq,not_lt_zero→Aez,le_of_not_lt→Agh,add_sub_cancel→Agk,sub_self→Ahb
open Bool renaming and_eq_true→Acb,false_eq_true→Ack,or_eq_true→Adu,not_eq_true→Afg,false_or→Agt,not_eq_false'→Agx,eq_iff_iff→Ahc
open List.Sublist renaming refl→Acd
open List renaming getElem?_eq_getElem→Acf,getD_eq_getElem?_getD→Acg,mem_append→Ach,length_append→Aci,eq_nil_of_length_eq_zero→Acl,mem_cons_self→Acm,perm_append_comm→Acn,mem_cons_of_mem→Aco,take_succ_eq_append_getElem→Acp,replicate→Acq,length_take→Acs,all_eq_true→Acv,length_cons→Acx,getElem_mem→Acz,sublist_cons_self→Ade,range→Adg,mem_singleton→Adh,nil_sublist→Adj,append_nil→Adm,length_replicate→Adn,length_map→Adq,nil_append→Adr,getElem?_eq_none→Adx,take_length→Aec,perm_append_comm_assoc→Aeh,getElem?_append_right→Aeo,map_cons→Aet,getElem?_append_left→Aex,length_singleton→Afa,getD→Aga,getElem_drop→Agr
open List.Perm renaming cons→Acr,swap→Adb
open Option renaming map_eq_some_iff→Ado
open Int renaming tdiv_eq_ediv_of_nonneg→Ahe
section
namespace Go.Gk.Pgr
open Go Go.Gk Go.Gk.Dev Go.Gk.Cch Go.Gk.Node
attribute [local irreducible] gwp gws xwp
variable{f1:FuncId}{d:Ab}
def NU(P:Program)(f:FuncId):Prop:=∀{d s dv pv L},Pg d s dv pv L→C2 P f [pv] d L (vZ s.free)
def Lb(a0:Nat):A3:=⟨24,[(.tmp 2)],(sR (o1 2 (.mv z0) .done) (sR (o1 3 (.mv z0) .done) (.seq (sR (om 6 0<|oc 7 a0 [6]<|o1 8 (.un .not 7) .done) (.cond 8 (sR (om 9 0<|o1 10 (.nilc 9)<|oj 11 3 10<|ol 12 11<|oL 13 12<|o1 14 (.mv z0) .done) (.block 0 (.loop (sR (ob 15 .lss 14 13 .done) (.seq (.cond 15 .skip (.exit 0)) (.seq (.block 1 (sR (oI 16 1 12 14<|ol 17 16<|om 5 17 .done) (sR (om 18 5<|ob 19 .eql 18 z0 .done) (.cond 19 (rG (om 20 3<|ob 21 .add 20 z1<|om 3 21 .done)) .skip)))) (rG (ob 22 .add 14 z1<|om 14 22 .done)))))))) .skip)) (sR (om 23 3<|om 2 23 .done) .ret))))⟩
def Z6{P f}(hd:dec P f=some (Lb f1))(h1:FB P f1):NU P f:=by
 intro d s dv pv L hp;obtain⟨b,T,cv,bk,cp,hk,mb,ms,clk,c,LC,LD,bd,rfl,rfl,rfl,hg,hm,hC,hD,hc,hG⟩:=hp;have hlen:=hG.len;have hone:=hG.one;refine AK hd (Aca Z) ?_;show gwp P _ _ _ _ _;refine Ad<|Ac Z<|Aa<|Ad<|Ac Z<|Aa<|Ag<|Ad<|Ah Z<|Di (A:=[_]) (B:=_::_::(LC++LD)) Z Z h1 ?_;refine Bd Z<|Aa<|A8 Z<|Ad<|Ah Z<|AJ Z<|Aj Z<|Ai Z (Aq 0 Z Z)<|AO Z<|Ac Z<|Aa<|Az<|DO (α:=Nat) (fun i=>[(3,vZ ((s.kinds.take i).countP (·==0))),(12,.slice (some ⟨bk,0,none⟩) s.kinds.length cp),(13,vZ s.kinds.length),(14,vZ i)])
  (fun i=>bx b T [pZ bd,cv,vZ s.frm,.slice (some ⟨bk,0,none⟩) s.kinds.length cp,.map (some mb),vZ (wr s.round),vZ (wr s.tc)]::hk::mpI mb ms clk::(LC++LD))
  (fun i=>i≤s.kinds.length) (fun i=>s.kinds.length - i) 0 ⟨Z,Z,Z,Z,trivial⟩ Z (by omega) ?_
 rintro i ρ hi;by_cases e:i<s.kinds.length
 ·obtain⟨b1,T1,l1,c1,cs,q1,rfl,hcl,hcs,hle,⟨rfl,hb1,hb2⟩, -⟩:=An.at (by omega) hg e;cases q1;have c0:=hcs 0 _ Z;have hn:(s.kinds.take (i+1)).countP (·==0)=(s.kinds.take i).countP (·==0)+(if s.kinds[i]=0 then 1 else 0):=by
   rw[Acp e,List.countP_append];simp[List.countP_cons,List.countP_nil]
  have hcb:(s.kinds.take i).countP (·==0)≤8192:=Aeq List.countP_le_length (by rw[Acs];omega);by_cases h0:s.kinds[i]=0
  ·rw[if_pos h0] at hn;(refine Ad<|AA Z Z<|Aa<|Ag<|AF Z (by omega)<|Al<|Ag<|Az<|Ad<|CK _ Z Z Z (by omega)<|Ai Z (Aq 1 Z (by assumption))<|Ac Z<|Aa<|Ad<|Ac Z<|AT Z Z<|Aa<|AF Z (by omega)<|AI<|Ac Z<|AY Z Z (by omega) (by omega)<|Ac Z<|Aa<|AI<|AY Z Z (by omega) (by omega)<|Ac Z<|Aa ?_);exact⟨i+1,by omega,⟨by show Value.int _ _=Value.int _ _;rw[hn];rfl,Z,Z,Z,trivial⟩,Z,Z,e⟩
  ·rw[if_neg h0] at hn;(refine Ad<|AA Z Z<|Aa<|Ag<|AF Z (by omega)<|Al<|Ag<|Az<|Ad<|CK _ Z Z Z (by omega)<|Ai Z (Aq 1 Z (by assumption))<|Ac Z<|Aa<|Ad<|Ac Z<|AT Z Z<|Aa<|Aw Z (by omega)<|Al<|AI<|AY Z Z (by omega) (by omega)<|Ac Z<|Aa ?_);exact⟨i+1,by omega,⟨by show Value.int _ _=Value.int _ _;rw[hn];rfl,Z,Z,Z,trivial⟩,Z,Z,e⟩
 ·have:i=s.kinds.length:=by omega
  subst this;(refine Ad<|AA Z Z<|Aa<|Ag<|Aw Z (by omega)<|Ba<|Ad<|Ac Z<|Ac Z<|Aa<|Ao ?_);rw[show s.free=(s.kinds.take s.kinds.length).countP (·==0) by rw[Aec];rfl];exact Jt Z (Acd _)
def R5(P:Program)(f:FuncId):Prop:=∀{d}{syn:List Sec}{dv cv lv LC LD}{m frm n:Nat}{live:List Nat},Dv d ⟨syn,[]⟩ dv LD→Ca d ⟨Acq m fz,Adg m,0,0,0⟩ dv cv LC→1≤m→m≤64→1≤n→frm+n≤syn.length→syn.length≤8192→live.Nodup→(∀k∈live,k<n)→
 Dt d lv (live.map fun k=>((frm+k:Nat):Int))→AB P f [dv,cv,vZ frm,vZ n,lv] d (LC++LD) (Ret fun r d' L'=>∃pv,r=.tuple #[pv,vZ 0]∧Le d d'∧Pg d' ⟨frm,Dc n live,fun _=>[],syn,0,0⟩ dv pv L')
def Se(a0 a1 a2:Nat):A3:=⟨74,[(.tmp 10),(.tmp 11)],(sR (o1 10 (.mv (.const (.pointer none)))<|o1 11 (.mv z0) .done) (sR (om 16 0<|oc 17 a0 [16]<|om 12 17 .done) (.seq (.block 0 (sR (om 19 12<|ob 20 .eql 19 z0<|om 21 20<|gF 22 21 1<|oF 23 21 (.call a1 [22])<|oF 24 21 (.len 23)<|oF 25 21 (.bin .eql 24 z0)<|o1 26 (.pick 21 (.const (.bool true)) 25)<|om 18 26 .done) (.cond 18 (sR (o1 10 (.mv (.const (.pointer none)))<|o1 11 (.mv z1) .done) .ret) (sR (om 28 2<|ob 29 .lss 28 z0<|om 30 29<|gF 31 30 3<|oF 32 30 (.bin .lss 31 z1)<|o1 33 (.pick 30 (.const (.bool true)) 32)<|om 34 33<|gF 35 34 2<|gF 36 34 12<|oF 37 34 (.bin .gtr 35 36)<|o1 38 (.pick 34 (.const (.bool true)) 37)<|om 39 38<|gF 40 39 3<|gF 41 39 12<|gF 42 39 2<|oF 43 39 (.bin .sub 41 42)<|oF 44 39 (.bin .gtr 40 43)<|o1 45 (.pick 39 (.const (.bool true)) 44)<|om 27 45 .done) (.cond 27 (sR (o1 10 (.mv (.const (.pointer none)))<|o1 11 (.mv z2) .done) .ret) .skip))))) (sR (om 46 0<|om 47 1<|om 48 2<|om 49 3<|o1 50 (.mks 1 8 [(vZ 0)] 49 49)<|o1 51 (.mop .mk)<|o1 52 (.bld [(0,1),(1,1),(2,1),(3,1),(4,1),(5,1),(6,1)] [(.pointer none),(.pointer none),(vZ 0),nV,(.map none),(vZ 0),(vZ 0)] [(0,46),(1,47),(2,48),(3,50),(4,51)])<|o1 53 (.box 52)<|om 13 53 .done) (.seq (sR (om 54 4<|oL 55 54<|o1 56 (.mv z0) .done) (.block 1 (.loop (sR (ob 57 .lss 56 55 .done) (.seq (.cond 57 .skip (.exit 1)) (.seq (.block 2 (sR (oI 58 1 54 56<|ol 59 58<|om 15 59 .done) (.seq (sR (om 60 13<|om 61 15<|oc 62 a2 [60,61]<|ob 63 .neq 62 z0 .done) (.cond 63 (sR (o1 10 (.mv (.const (.pointer none)))<|o1 11 (.mv z2) .done) .ret) .skip)) (rG (om 64 13<|o1 65 (.nilc 64)<|oj 66 3 65<|ol 67 66<|om 68 15<|om 69 2<|ob 70 .sub 68 69<|oI 71 1 67 70<|o0 (.st 1 71 z2) .done))))) (rG (ob 72 .add 56 z1<|om 56 72 .done)))))))) (sR (om 73 13<|om 10 73<|o1 11 (.mv z0) .done) .ret))))))⟩
set_option maxRecDepth 4000 in
set_option maxHeartbeats 1000000 in
def Zi{P f f2 f3}(hd:dec P f=some (Se f1 f2 f3))(h1:HK P f1)(h2:IU P f2)(h3:IL P f3):R5 P f:=by
 intro d syn dv cv lv LC LD m frm n live hD hC hm1 hm2 hn hfn hs8 hnd hlv hl;obtain⟨bd,rfl⟩:∃bd,dv=pZ bd:=let ⟨b,_,_,_,_,_,_,h,_⟩:=hD;⟨b,h⟩
 obtain⟨bc,rfl⟩:∃bc,cv=pZ bc:=let ⟨b,_,_,_,_,_,_,_,_,h,_⟩:=hC;⟨b,h⟩
 obtain⟨xs,hxs⟩:∃xs,xs=live.map fun k=>((frm+k:Nat):Int):=⟨_,Z⟩
 rw[←hxs] at hl;have hll:=hl.Bt;have hxl:xs.length=live.length:=by rw[hxs,Adq]
 refine AK hd (Aca Z) ?_;show gwp P _ _ _ _ _;(refine Ad<|Ah Z<|Ac Z<|Aa<|Ad<|Ah Z ?_);have hsz:C2 P f1 [pZ bd] d LD (vZ syn.length):=h1 hD;refine Lz (A:=LD) (B:=LC) Acn Z hsz ?_;have hn0:syn.length≠0:=by omega
 refine Ac Z<|Aa<|Ag<|Az<|Ad<|Ac Z<|AT Z Z<|Af Z<|A1 Z (by omega)<|Ae Z<|Ah Z<|Ae Z<|EP (A:=LC) (B:=LD) Z Z (h2 hC (fun f hf=>by rw[(List.mem_replicate.1 hf).2];decide)) (fun v d1 L1 hl1 ⟨e1,e2⟩=>?_);subst e1;have hhl:(DK ⟨Acq m fz,Adg m,0,0,0⟩).length=m:=by simp[DK]
 obtain⟨ah,ch,rfl⟩:=RSl.val e2;rw[hhl] at e2⊢;have hm0:m≠0:=by omega
 have hC1:=hC.mono hl1;have hD1:=hD.mono hl1;have hl':=RSl.mono (R:=A7) BE hl hl1;refine Ae Z<|AO Z<|Ae Z<|AT Z Z<|Av Z Z<|Af Z<|Aa<|Aw Z (by omega)<|Ad<|Ac Z<|AA Z Z<|Af Z<|A1 Z (by omega)<|Ae Z<|Ac Z<|Ae Z<|AA Z Z<|Av Z Z<|Af Z<|A1 Z (by omega)<|Ae Z<|Ac Z<|Ae Z<|Ac Z<|Ae Z<|Bb Z Z<|Av Z Z<|Af Z<|A1 Z (by omega)<|Ae Z<|Ac Z<|Ae Z<|Ac Z<|Ae Z<|Ac Z<|Ae Z<|CP Z Z (by omega) (by omega)<|Ae Z<|Bb Z Z<|Av Z Z<|Af Z<|Aa<|Aw Z (by omega)<|Al<|Ad<|Ah Z<|Ah Z<|Ac Z<|Ac Z<|JO (n:=n) (c:=n) Z Z (Acj _) (by omega) (by omega) (fun bk T0=>?_);refine YJ kI (id:Value→Value) (fun mb=>?_);refine Ch (cs:=[pZ bd,pZ bc,vZ frm,.slice (some ⟨bk,0,none⟩) n n,.map (some mb),vZ 0,vZ 0]) Z ?_;refine CC Z (fun b T=>?_);have hg:An 1 A7 d1 (.slice (some ⟨bk,0,none⟩) n n) (Dc n []) (bx bk T0 (Bm [vZ 0] (n*1))):=An.zero Z (by omega) ⟨Z,by omega,by omega⟩ (by omega);refine BA d1 (_::bx bk T0 (Bm [vZ 0] (n*1))::mpI mb [] 0::(L1++LD)) (Vs.perm (Acr _ (Adb _ _ _))) ?_;refine Ah Z<|Aa<|Ag<|Ad<|AQ<|Bv Z (by assumption)<|Ac Z<|Aa<|Az<|DO (α:=Nat×Ab) (fun x=>[(2,vZ frm),(13,pZ b),(54,lv),(55,vZ xs.length),(56,vZ x.1)])
  (fun x=>bx b T [pZ bd,pZ bc,vZ frm,.slice (some ⟨bk,0,none⟩) n n,.map (some mb),vZ 0,vZ 0]::x.2::mpI mb [] 0::(L1++LD))
  (fun x=>x.1≤live.length∧An 1 A7 d1 (.slice (some ⟨bk,0,none⟩) n n) (Dc n (live.take x.1)) x.2) (fun x=>live.length - x.1) (0,bx bk T0 (Bm [vZ 0] (n*1))) ⟨Z,Z,Z,Z,Z,trivial⟩ Z ⟨by simp only;omega,hg⟩ ?_
 rintro⟨i,hk⟩ ρ ⟨hi,hgi⟩;simp only at hi hgi⊢;have hln:=Gc (n:=n) (l:=live.take i);by_cases e:i<live.length
 ·have hin:live[i]<n:=hlv _ (Acz e);have hnot:live[i]∉live.take i:=fun hm=>by
   obtain⟨j,hj,hjj⟩:=List.getElem_of_mem hm;rw[Acs] at hj;rw[List.getElem_take] at hjj;exact List.pairwise_iff_getElem.1 hnd j i (by omega) e (by omega) hjj
  have h0:(Dc n (live.take i)).getD live[i] 0=0:=by rw[Ja,if_neg (fun q=>hnot q.2)]
  obtain⟨b1,T1,l1,c1,cs,q1,rfl,hcl,hcs,hle, -,hset⟩:=An.at (by omega) hgi (m:=live[i]) (by omega);rw[hln] at q1;cases q1;have e':i<xs.length:=by omega
  have hxi:xs[i]=((frm+live[i]:Nat):Int):=by subst hxs;simp
  have hnx:Dc n (live.take (i+1))=(Dc n (live.take i)).set live[i] 2:=by rw[Acp e,Ug]
  have hkv:G5 frm (Dc n (live.take i)) xs[i]=0:=by
   rw[hxi];unfold G5;rw[hln,if_pos (by omega),show(((frm+live[i]:Nat):Int) - (frm:Int)).toNat=live[i] by omega,h0]
  have hgl:An 1 A7 d1 (.slice (some ⟨bk,0,none⟩) (Dc n (live.take i)).length n) (Dc n (live.take i)) (bx bk T1 l1):=by rw[hln];exact hgi
  have hkr:=fun{b:Nat}{T x0 x1 x4 x5 x6}=>h3 (k:=xs[i]) (frm:=frm) (b:=b) (T:=T) (x0:=x0) (x1:=x1) (x4:=x4) (x5:=x5) (x6:=x6) hgl (by omega);rw[hln,hkv] at hkr;(refine Ad<|AA Z Z<|Aa<|Ag<|AF Z (by omega)<|Al<|Ag<|Az<|Ad<|A0 (sz:=1) (R:=A7) (by rfl) (by assumption) (by rfl) Z (by omega) ?_;rintro _ _ _ _ _ ⟨rfl,_,_⟩;refine Ai Z (Bp (by assumption) Z)<|Ac Z<|Aa<|Ag<|Ad<|Ah Z<|Ac Z ?_);refine Di (A:=[_,_]) (B:=_::(L1++LD)) Z Z hkr ?_;refine AW Z Z<|Aa<|Aw Z (by omega)<|Al<|AI<|Ah Z<|AJ Z<|Aj Z<|Ai Z (Aq 0 Z Z)<|Ac Z<|Ac Z<|CP Z Z (by omega) (by omega)<|CK live[i] Z Z (by rw[hxi];omega) hin ?_;skip;refine Bg 1 (patch l1 (live[i]*1) [vZ 2]) Z Z Z Z hle Z Z ?_;(refine Aa<|AI<|AY Z Z (by omega) (by omega)<|Ac Z<|Aa ?_);exact⟨(i+1,_),by simp only;omega,⟨Z,Z,Z,Z,Z,trivial⟩,Z,Z,e,by rw[hnx];exact hset [vZ 2] 2 Z ⟨Z,by omega,by omega⟩⟩
 ·have:i=live.length:=by omega
  subst this;rw[Aec] at hgi hln;have e':¬live.length<xs.length:=by omega
  (refine Ad<|AA Z Z<|Aa<|Ag<|Aw Z (by omega)<|Ba<|Ad<|Ah Z<|Ah Z<|Ac Z<|Aa<|Ao ?_);have hP:=Pg.mk (d:=d1) (s:=⟨frm,Dc n live,fun _=>[],syn,0,0⟩) (b:=b) (T:=T) (cv:=pZ bc) (bk:=bk) (cp:=n) (mb:=mb) (clk:=0) (c:=⟨Acq m fz,Adg m,0,0,0⟩) (LC:=L1) (LD:=LD) (bd:=bd) hln
   hgi (ms:=[]) (fun j hj hj1=>by
    have h0:(Dc n live).getD j 0=1:=hj1;rw[Ja] at h0;split at h0<;>cases h0) hC1 hD1 (CZ.new hm1 hm2) (Good.new hn hfn hs8)
  exact Cw Z Z (Acd _) ⟨_,Z,hl1,hP⟩
def Le.dcs{b:Nat}{T l}(h:Le (bx b T l) d):DCs d b 0 l:=⟨_,_,_,h b _ (B2 _ _),fun i u hi=>by simpa using hi⟩
def Vs.ZN{a b c L}:Vs d (a::b::c::L) (join (join (join d a) b) c) L:=Vs.freeze.trans (Vs.freeze.trans Vs.freeze)
def An.VG{d' v}{xs:List Int}{h}(o:An 1 A7 d v xs h):An 1 A7 d' v xs h:=let ⟨cs,h1,h2⟩:=o;⟨cs,h1,h2⟩
def Mk(d:Ab)(m:MD)(frm:Nat)(pv v:Value):Prop:=∃bm bk cp mq ms clk,v=pZ bm∧DCs d bm 0 [pv,vZ (wr m.round),.slice (some ⟨bk,0,none⟩) m.kinds.length cp,.map (some mq)]∧RSl 1 A7 d (.slice (some ⟨bk,0,none⟩) m.kinds.length cp) m.kinds∧
 Le (mpI mq ms clk) d∧LQ d frm m.kinds m.fb ms
def Mk.mono{d'}{m:MD}{frm:Nat}{pv v}(h:Mk d m frm pv v)(hl:Le d d'):Mk d' m frm pv v:=
 let ⟨bm,bk,cp,mq,ms,clk,h1,h2,h3,h4,h5⟩:=h
 ⟨bm,bk,cp,mq,ms,clk,h1,h2.mono hl,RSl.mono (R:=A7) BE h3 hl,h4.trans hl,h5.mono hl⟩
def WB(x a b c:Ab)(L:List Ab):(x::a::b::c::L).Perm (a::b::c::x::L):=
 (Adb a x _).trans (Acr _ ((Adb b x _).trans (Acr _ (Adb c x _))))
def HQ(P:Program)(f:FuncId):Prop:=∀{d s dv pv L},Pg d s dv pv L→AB P f [pv] d L (Ret fun r d' L'=>L'=L∧Le d d'∧Mk d' s.mark s.frm pv r)
def Ky(a0 a1 a2:Nat):A3:=⟨22,[(.tmp 2)],(sR (o1 2 (.mv (.const (.pointer none))) .done) (.seq (sR (om 3 0<|oc 4 a0 [3] .done) (.cond 4 (sR (o1 2 (.mv (.const (.pointer none))) .done) .ret) .skip)) (.seq (.reg true (pm 5 0<|pm 6 0<|p1 7 (.nilc 6)<|p1 8 (.fld 5 7)<|pl 9 8<|pm 10 0<|p1 11 (.nilc 10)<|p1 12 (.fld 3 11)<|pl 13 12<|pm 15 0<|p1 16 (.nilc 15)<|p1 17 (.fld 4 16)<|pl 18 17<|oc 14 a1 [13]<|oc 19 a2 [18]<|p1 20 (.bld [(0,1),(1,1),(2,1),(3,1)] [(.pointer none),(vZ 0),nV,(.map none)] [(0,5),(1,9),(2,14),(3,19)])<|o1 21 (.box 20) (.bar (pm 2 21 .done)))) .ret)))⟩
set_option maxRecDepth 4000 in
set_option maxHeartbeats 1000000 in
def ZQ{P f f2 f3}(hd:dec P f=some (Ky f1 f2 f3))(h1:FB P f1)(h2:Fh A7 8 P f2)(h3:Ho P f3):HQ P f:=by
 intro d s dv pv L hp;obtain⟨b,T,cv,bk,cp,hk,mb,ms,clk,c,LC,LD,bd,rfl,rfl,rfl,hg,hm,hC,hD,hc,hG⟩:=hp;have hlen:=hG.len;have hone:=hG.one;refine AK hd (Aca Z) ?_;show gwp P _ _ _ _ _;refine Ad<|Ah Z<|Aa<|Ag<|Ad<|Ah Z<|Di (A:=[_]) (B:=_::_::(LC++LD)) Z Z h1 ?_;refine Aa<|AS Z<|Al<|Ag<|BX [_] (hk::mpI mb ms clk::(LC++LD)) Z ?_;refine Ah Z<|Ah Z<|AJ Z<|Aj Z<|Ai Z (Aq 0 Z Z)<|Ah Z<|AJ Z<|Aj Z<|Ai Z (Aq 0 Z Z)<|Ah Z<|AJ Z<|Aj Z<|Ai Z (Aq 0 Z Z)<|IQ (Q:=fun v L'=>∃h,L'=[h]∧An 1 A7 d v s.kinds h) Z (fun d1 hl1 hk1=>?_) (fun v L1 ⟨h,e1,hrow⟩=>?_)
 ·exact AB.EF (h2 (xs:=s.kinds) (An.rsl (R:=A7) hg BE (by omega) hl1 (hk1 _ (Acm ..))) (by omega)) (fun r d' L' _ ⟨q1,h,q2,q3⟩=>⟨d',L',Vs.refl _ _,q1,h,q2,An.VG q3⟩)
 subst e1;skip;refine IQ (Q:=fun v L'=>∃q,v=.map (some q)∧L'=[mpI q ms clk]) Z (fun d1 hl1 hk1=>h3 (hk1 _ (by simp))) (fun v1 L1 ⟨q,e1,e2⟩=>?_);subst e1;subst e2;obtain⟨b1,T1,l1,c1,cs,q1, -, -, -, -, -, -⟩:=An.at (m:=0) (by omega) hrow (by omega);subst q1;refine Ch (cs:=[pZ b,vZ (wr s.round),.slice (some ⟨b1,0,none⟩) s.kinds.length c1,.map (some q)]) Z ?_;refine CC Z (fun bm Tm=>?_);refine Du<|Ah Z<|Aa<|Ao<|A9 [pZ bm] ⟨Z,trivial⟩ (L':=bx b T [pZ bd,cv,vZ s.frm,.slice (some ⟨bk,0,none⟩) s.kinds.length cp,.map (some mb),vZ (wr s.round),vZ (wr s.tc)]::hk::mpI mb ms clk::(LC++LD))
  ((Vs.perm (WB _ _ _ _ _)).trans Vs.ZN) ⟨Z,?_,bm,b1,c1,q,ms,clk,Z,?_,?_,?_,?_⟩
 ·exact((Le.Au _ _).trans (Le.Au _ _)).trans (Le.Au _ _)
 ·exact Le.dcs (((Le.AZ _ _).trans (Le.Au _ _)).trans (Le.Au _ _))
 ·exact An.rsl (R:=A7) (sz:=1) hrow BE (by omega) (((Le.Au _ _).trans (Le.Au _ _)).trans (Le.Au _ _)) (Le.AZ _ _)
 ·exact(Le.AZ _ _).trans (Le.Au _ _)
 ·exact hm.mono (((Le.Au _ _).trans (Le.Au _ _)).trans (Le.Au _ _))
def Y8{a b x e f R}:Vs d (a::b::x::e::f::R) d (x::b::a::R):=
 (Vs.drop (.cons_cons _ (.cons_cons _ (.cons_cons _ (.cons _ (.cons _ (Acd _))))))).trans (Vs.perm ((Acr _ (Adb x b R)).trans ((Adb x a (b::R)).trans (Acr _ (Adb b a R)))))
def Ot(P:Program)(f:FuncId):Prop:=∀{d s dv pv v L}{m:MD},Pg d s dv pv L→Mk d m s.frm pv v→(wr m.round=wr s.round→Og m.kinds s.kinds∧∀i,0≤m.kinds.getD i 0∧m.kinds.getD i 0≤3)→
 AB P f [pv,v] d L (Ret fun r d' L'=>d'=d∧(wr m.round=wr s.round→r=vZ 0∧Pg d (s.back m) dv pv L')∧(wr m.round≠wr s.round→r=vZ 2∧Pg d s dv pv L'))
def Ku(a0 a1 a2:Nat):A3:=⟨46,[(.tmp 4)],(sR (o1 4 (.mv z0) .done) (.seq (.block 0 (sR (om 6 0<|oc 7 a0 [6]<|om 8 7<|gF 9 8 1<|oF 10 8 (.eqp false 9 (.const (.pointer none)))<|o1 11 (.pick 8 (.const (.bool true)) 10)<|om 5 11 .done) (.cond 5 (sR (o1 4 (.mv z1) .done) .ret) (.seq (.reg true (pm 13 1<|p1 14 (.nilc 13)<|p1 15 (.fld 0 14)<|pl 16 15<|pm 17 0<|p1 18 (.eqp true 16 17)<|pm 19 18 (.op true ⟨(some 20),(some (19,false)),(.mv 1)⟩ (.op true ⟨(some 21),(some (19,false)),(.nilc 20)⟩ (.op true ⟨(some 22),(some (19,false)),(.fld 1 21)⟩ (.op true ⟨(some 23),(some (19,false)),(.ld none 22)⟩ (.op true ⟨(some 24),(some (19,false)),(.mv 0)⟩ (.op true ⟨(some 25),(some (19,false)),(.nilc 24)⟩ (.op true ⟨(some 26),(some (19,false)),(.fld 5 25)⟩ (.op true ⟨(some 27),(some (19,false)),(.ld none 26)⟩ (.op true ⟨(some 28),(some (19,false)),(.bin .neq 23 27)⟩ (p1 29 (.pick 19 (.const (.bool true)) 28) (pm 12 29 .done))))))))))))) (.cond 12 (sR (o1 4 (.mv z2) .done) .ret) .skip))))) (.seq (.reg true (pm 30 0<|pm 31 0<|pm 32 1<|p1 33 (.nilc 32)<|p1 34 (.fld 2 33)<|pl 35 34<|pm 37 1<|p1 38 (.nilc 37)<|p1 39 (.fld 3 38)<|pl 40 39<|oc 36 a1 [35]<|oc 41 a2 [40]<|p1 42 (.nilc 30)<|p1 43 (.fld 3 42)<|o0 (.st 1 43 36)<|p1 44 (.nilc 31)<|p1 45 (.fld 4 44)<|o0 (.st 1 45 41) .done)) (sR (o1 4 (.mv z0) .done) .ret))))⟩
set_option maxRecDepth 4000 in
set_option maxHeartbeats 1000000 in
def Aal{P f f2 f3}(hd:dec P f=some (Ku f1 f2 f3))(h1:FB P f1)(h2:Fh A7 8 P f2)(h3:Ho P f3):Ot P f:=by
 intro d s dv pv v L m hp hmk hor;have hp0:=hp;obtain⟨b,T,cv,bk,cp,hk,mb,ms,clk,c,LC,LD,bd,rfl,rfl,rfl,hg,hm,hC,hD,hc,hG⟩:=hp;obtain⟨bm,bmk,mcp,mq,mms,mclk,rfl,hmd,hmr,hml,hmm⟩:=hmk;have hlen:=hG.len;have hone:=hG.one;refine AK hd (Aca Z) ?_;show gwp P _ _ _ _ _;refine Ad<|Ac Z<|Aa<|Ag<|Az<|Ad<|Ah Z<|Di (A:=[_]) (B:=_::_::(LC++LD)) Z Z h1 ?_;refine Af Z<|Ae Z<|Ah Z<|Ae Z<|BZ Z Z<|Av Z Z<|Af Z<|Aa<|AS Z<|Ag<|BX [_] (hk::mpI mb ms clk::(LC++LD)) Z ?_;refine Ah Z<|AJ Z<|Aj Z<|Ai Z (Bf (by assumption) Z)<|Ah Z<|Aa8 Z Z ?_;by_cases hw:wr m.round=wr s.round
 ·obtain⟨hog,hrng⟩:=hor hw;have hol:=hog.1;refine Af Z<|Ae Z<|Ah Z<|Ae Z<|AJ Z<|Ae Z<|Aj Z<|Ae Z<|Ai Z (Bf (by assumption) Z)<|Ae Z<|Ah Z<|Ae Z<|AJ Z<|Ae Z<|Aj Z<|Ae Z<|Ai Z (Aq 0 Z Z)<|Ae Z<|AW Z Z<|Av Z Z<|Af Z<|By<|Aw Z (by omega)<|Al<|Ag<|BX [] (bx b T [pZ bd,cv,vZ s.frm,.slice (some ⟨bk,0,none⟩) s.kinds.length cp,.map (some mb),vZ (wr s.round),vZ (wr s.tc)]::hk::mpI mb ms clk::(LC++LD)) Z ?_;refine Ah Z<|Ah Z<|Ah Z<|AJ Z<|Aj Z<|Ai Z (Bf (by assumption) Z)<|Ah Z<|AJ Z<|Aj Z<|Ai Z (Bf (by assumption) Z)<|IQ (Q:=fun v L'=>∃h,L'=[h]∧An 1 A7 d v m.kinds h) Z (fun d1 hl1 hk1=>AB.EF (h2 (xs:=m.kinds) (RSl.mono (R:=A7) BE hmr hl1) (by omega)) (fun r d' L' _ ⟨q1,h,q2,q3⟩=>⟨d',L',Vs.refl _ _,q1,h,q2,An.VG q3⟩)) (fun v L1 ⟨h,e1,hrow⟩=>?_);subst e1;refine IQ (Q:=fun v L'=>∃q,v=.map (some q)∧L'=[mpI q mms mclk]) Z (fun d1 hl1 hk1=>h3 (hml.trans hl1)) (fun v1 L1 ⟨q,e1,e2⟩=>?_);subst e1;subst e2;obtain⟨b1,T1,l1,c1,cs,q1, -, -, -, -, -, -⟩:=An.at (m:=0) (by omega) hrow (by omega);subst q1;refine AJ Z<|Aj Z<|Bg 2 [pZ bd,cv,vZ s.frm,.slice (some ⟨b1,0,none⟩) m.kinds.length c1,.map (some mb),vZ (wr s.round),vZ (wr s.tc)] Z Z Z Z (Aca Z) Z Z ?_;refine AJ Z<|Aj Z<|Bg 2 [pZ bd,cv,vZ s.frm,.slice (some ⟨b1,0,none⟩) m.kinds.length c1,.map (some q),vZ (wr s.round),vZ (wr s.tc)] Z Z Z Z (Aca Z) Z Z ?_;have hP:=Pg.mk (d:=d) (s:=s.back m) (b:=b) (T:=T) (cv:=cv) (bk:=b1) (cp:=c1) (mb:=q) (ms:=mms) (clk:=mclk) (c:=c) (LC:=LC) (LD:=LD) (bd:=bd) Z hrow hmm hC hD (hc.to Z Z hog)
   ⟨by show 1≤m.kinds.length;omega,by show m.kinds.length≤8192;omega,by show s.frm+m.kinds.length≤s.syn.length;rw[hol];exact hG.inn,hG.syn,hrng⟩
  (refine Aa<|Ad<|Ac Z<|Aa<|Ao ?_);exact A9 [vZ 0] ⟨Z,trivial⟩ Y8 ⟨Z,fun _=>⟨Z,hP⟩,fun e=>absurd hw e⟩
 ·(refine Af Z<|Ae Z<|Ah Z<|Ae Z<|AJ Z<|Ae Z<|Aj Z<|Ae Z<|Ai Z (Bf (by assumption) Z)<|Ae Z<|Ah Z<|Ae Z<|AJ Z<|Ae Z<|Aj Z<|Ae Z<|Ai Z (Aq 0 Z Z)<|Ae Z<|AW Z Z<|Av Z Z<|Af Z<|By<|AF Z (by omega)<|Ad<|Ac Z<|Aa<|Ao ?_);exact Ci Z (Acd _) ⟨Z,fun e=>absurd e hw,fun _=>⟨Z,hp0⟩⟩
end Go.Gk.Pgr
end
section
namespace Go.Gk.Cch
open Go Go.Gk Go.Gk.Dev
attribute [local irreducible] gwp gws xwp
section
def Cov(d:Ab)(c:CD)(D:E0)(cv:Value)(L:List Ab):Prop:=∃dv LC LD,L=LC++LD∧Ca d c dv cv LC∧Dv d D dv LD
def Cov.mono{d d'}{c:CD}{D:E0}{cv L}(h:Cov d c D cv L)(hl:Le d d'):Cov d' c D cv L:=
 let ⟨dv,LC,LD,h1,h2,h3⟩:=h
 ⟨dv,LC,LD,h1,h2.mono hl,h3.mono hl⟩
def Cov.ptr{d}{c:CD}{D:E0}{cv L}(h:Cov d c D cv L):∃b,cv=pZ b:=by
 obtain⟨dv,LC,LD,rfl,⟨b, -, -, -, -, -, -, -, -,h, -⟩, -⟩:=h;exact⟨b,h⟩
section
variable {P:Program}{f:FuncId}{d:Ab}{c:CD}{D:E0}{cv:Value}{L:List Ab}{k:Nat}
def KJ.cov(h:KJ P f)(hc:Cov d c D cv L)(hp:Kj c 4611686018427387904)(hk:k<D.syn.length):
  AB P f [cv,vZ k] d L (Ret fun r d' L'=>Cov d' (EB (D.cur k) c k).1 D cv L'∧Aaw d' r (EB (D.cur k) c k).2):=by
 obtain⟨dv,LC,LD,rfl,h1,h2⟩:=hc
 refine(h h1 h2 hp hk).mono (fun e d' L' hl hr=>?_)
 cases e with
 |returned v=>obtain⟨LC',LD',rfl,g1,g2,g3⟩:=hr;exact⟨⟨dv,LC',LD',Z,g1,g2⟩,g3⟩
 |panicked c=>exact hr
 |outgrown=>exact hr
def K3{args A B R R'}(h:AB P f args d A (Ret R))(hR:∀v d' A',Le d d'→R v d' A'→R' v d' (A'++B)):AB P f args d (A++B) (Ret R'):=by
 refine(h.frame B).mono (fun e d' L' hl hr=>?_);obtain⟨A',rfl,hr⟩:=hr;cases e with
 |returned v=>exact hR v d' A' hl hr
 |panicked c=>exact hr
 |outgrown=>exact hr
def HW.cov(h:HW P f)(hc:Cov d c D cv L)(hp:Kj c 4611686018427387904):
  AB P f [cv,vZ k] d L (Ret fun r d' L'=>r=vZ (CJ c k).2∧Cov d' (CJ c k).1 D cv L'):=by
 obtain⟨dv,LC,LD,rfl,h1,h2⟩:=hc
 exact K3 (h (k:=k) h1 hp) (fun v d' A' hl ⟨g1,g2,g3⟩=>⟨g2,dv,A',LD,Z,g3.mono (by rw[g1];exact Le.refl _),h2.mono hl⟩)
def PO.cov(h:PO P f)(hc:Cov d c D cv L)(hp:∀i,findF k c.fr=some i→c.free.length<c.fr.length):
  AB P f [cv,vZ k] d L (Ret fun r d' L'=>r=vZ (LL c k).2∧Cov d' (LL c k).1 D cv L'):=by
 obtain⟨dv,LC,LD,rfl,h1,h2⟩:=hc
 exact K3 (h (k:=k) h1 hp) (fun v d' A' hl ⟨g1,g2,g3⟩=>⟨g2,dv,A',LD,Z,g3.mono (by rw[g1];exact Le.refl _),h2.mono hl⟩)
def IU.cov(h:IU P f)(hc:Cov d c D cv L)(hs:∀f∈c.fr,f.sec≤8192):AB P f [cv] d L (Ret fun r d' L'=>L'=L∧Dt d' r (DK c)):=by
 obtain⟨dv,LC,LD,rfl,h1,h2⟩:=hc;exact K3 (h h1 hs) (fun v d' A' hl ⟨g1,g2⟩=>⟨by rw[g1],g2⟩)
def Wq.cov(h:Wq P f)(hc:Cov d c D cv L):C2 P f [cv] d L (vZ (wr c.hits)):=by
 obtain⟨dv,LC,LD,rfl,h1,h2⟩:=hc;exact K3 (h h1) (fun v d' A' hl ⟨g1,g2,g3⟩=>⟨g1,g2,by rw[g3]⟩)
def QJ.cov(h:QJ P f)(hc:Cov d c D cv L):C2 P f [cv] d L (vZ (wr c.miss)):=by
 obtain⟨dv,LC,LD,rfl,h1,h2⟩:=hc;exact K3 (h h1) (fun v d' A' hl ⟨g1,g2,g3⟩=>⟨g1,g2,by rw[g3]⟩)
end
end
end Go.Gk.Cch
end
section
namespace Go.Gk.Pgr
open Go Go.Gk Go.Gk.Dev Go.Gk.Cch Go.Gk.Node
section
attribute [local irreducible] gwp gws xwp
end
section
attribute [local irreducible] gwp gws xwp
end
end Go.Gk.Pgr
end
section
namespace Go.Gk.Pgr
open Go Go.Gk Go.Gk.Dev Go.Gk.Cch Go.Gk.Node
attribute [local irreducible] gwp gws xwp
section
section
variable {P:Program}{pan:List PanicEntry→AL}{Qn:Env→AL}{Ls L:List Ab}{ρ:Env}{d:Ab}{s:GS}{t:Nat}{tk:Bool}
end
structure AD where
 kind:Int
 k:Int
 by_:UInt8
abbrev Y6(b:UInt8):Sec:=Acq 256 b
def PD.act(s:PD)(a:AD):PD:=
 if a.kind=0 then(if s.AR.2.2=0 then(s.AR.1.put s.AR.2.1 (Y6 a.by_)).1 else s.AR.1)
 else if a.kind=1 then(s.put (2+a.k % 8) (Y6 a.by_)).1
 else if a.kind=3 then(s.drop (2+a.k % 8)).1
 else if a.kind=4 then s.flush
 else s
def PD.run(s:PD)(l:List AD):PD:=l.foldl PD.act s
end
end Go.Gk.Pgr
end
section
namespace Go.Gk.Pgr
open Go Go.Gk Go.Gk.Dev Go.Gk.Cch
variable{s t:PD}{i:Nat}{k:Int}{d:Ab}
structure AG (s t:PD):Prop where
 frm:t.frm=s.frm
 len:t.kinds.length=s.kinds.length
 syn:t.syn.length=s.syn.length
 old:∀i,2≤s.kd i→2≤t.kd i
 new:∀i,2≤t.kd i→2≤s.kd i
 sec:∀i,2≤s.kd i→t.syn.getD (s.frm+i) []=s.syn.getD (s.frm+i) []
 round:t.round=s.round
def AG.refl(s:PD):AG s s:=⟨Z,Z,Z,fun _ h=>h,fun _ h=>h,fun _ _=>Z,Z⟩
def AG.trans{u}(h:AG s t)(k:AG t u):AG s u:=
 ⟨k.frm.trans h.frm,k.len.trans h.len,k.syn.trans h.syn,fun i hi=>k.old i (h.old i hi),fun i hi=>h.new i (k.new i hi),fun i hi=>by have:=k.sec i (h.old i hi);rw[h.frm] at this;exact this.trans (h.sec i hi),k.round.trans h.round⟩
def AG.set{x:Int}{fb:Nat→Sec}(h:2≤s.kd i↔2≤x):AG s {s with kinds:=s.kinds.set i x,fb:=fb}:=by
 have key:∀j,2≤s.kd j↔2≤(s.kinds.set i x).getD j 0:=fun j=>by
  by_cases hi:i<s.kinds.length
  ·rw[Dg hi];by_cases e:j=i
   ·subst e;rw[if_pos Z];exact h
   ·rw[if_neg e]
  ·rw[List.set_eq_of_length_le (by omega)]
 exact⟨Z,by simp,Z,fun j hj=>(key j).1 hj,fun j hj=>(key j).2 hj,fun _ _=>Z,Z⟩
def AG.fb{fb:Nat→Sec}:AG s {s with fb:=fb}:=⟨Z,Z,Z,fun _ h=>h,fun _ h=>h,fun _ _=>Z,Z⟩
def AG.tc{tc:Nat}:AG s {s with tc:=tc}:=⟨Z,Z,Z,fun _ h=>h,fun _ h=>h,fun _ _=>Z,Z⟩
def AG.AR(s:PD):AG s s.AR.1:=by
 unfold PD.AR;cases h:CH 0 s.kinds with
 |none=>exact AG.refl s
 |some i=>
  obtain⟨h1,h2⟩:=FQ h
  exact AG.set (by rw[K4 h1,h2];decide)
def AG.put(s:PD)(k:Int)(b:Sec):AG s (s.put k b).1:=by
 unfold PD.put;split
 ·split
  ·exact AG.fb
  ·exact AG.refl s
 ·exact AG.refl s
def AG.drop(s:PD)(k:Int):AG s (s.drop k).1:=by
 unfold PD.drop;split
 ·rename_i h;obtain⟨i,h1,rfl,h2,h3⟩:=Cu h (by omega);rw[h3];exact AG.set (by rw[h2];decide)
 ·split
  ·rename_i h;obtain⟨i,h1,rfl,h2,h3⟩:=Cu h (by omega);rw[h3];exact AG.set (by rw[h2];decide)
  ·exact AG.refl s
def QR(h:s.kd i≠1):s.flush.syn.getD (s.frm+i) []=s.syn.getD (s.frm+i) []:=by
 refine Kw (fun w hw e=>?_);obtain⟨j,h4,h5,rfl⟩:=JC hw;simp only at e;rw[show j=i by omega] at h5;exact h h5
def AG.flush(s:PD):AG s s.flush:=⟨Z,Z,FI _ _,fun _ h=>h,fun _ h=>h,fun i hi=>QR (by omega),Z⟩
def AG.act(s:PD)(a:AD):AG s (s.act a):=by
 unfold PD.act;split
 ·split
  ·exact(AG.AR s).trans (AG.put _ _ _)
  ·exact AG.AR s
 ·split
  ·exact AG.put _ _ _
  ·split
   ·exact AG.drop _ _
   ·split
    ·exact AG.flush s
    ·exact AG.refl s
def AG.run(l:List AD):∀s:PD,AG s (s.run l):=by
 induction l with
 |nil=>exact fun s=>AG.refl s
 |cons a l ih=>exact fun s=>(AG.act s a).trans (ih (s.act a))
def AG.Aa0(h:AG s t)(hk:s.kind k=2):t.syn.getD k.toNat []=s.syn.getD k.toNat []:=by
 obtain⟨i,h1,rfl,h2,h3⟩:=Cu hk (by omega);exact h.sec i (by omega)
def Dv.sec{D:E0}{v L}(h:Dv d D v L){k:Nat}(hk:k<D.syn.length):(D.syn.getD k []).length=256:=by
 obtain⟨b,T,vs,vo,r,hs,ho, -, -,h3, -⟩:=h;obtain⟨cs,h1,h2⟩:=h3;rw[Acg,Acf hk];exact(h2 k hk).2
def Pg.dev{dv pv L}(h:Pg d s dv pv L):∃A LD,L=A++LD∧Dv d ⟨s.syn,[]⟩ dv LD:=by
 obtain⟨b,T,cv,bk,cp,hk,mb,ms,clk,c,LC,LD,bd,h1,h2,h3,h4,h5,h6,h7,h8,h9⟩:=h;exact⟨_::hk::mpI mb ms clk::LC,LD,h3,h7⟩
def AG.og(h:AG s t):Og s.kinds t.kinds:=⟨h.len.symm,fun i=>⟨h.old i,h.new i⟩⟩
def AG.back(h:AG s t):AG s (t.back s.mark):=⟨h.frm,Z,h.syn,fun _ q=>q,fun _ q=>q,h.sec,h.round⟩
def PD.bytes(s:PD)(k:Int):Sec:=if s.kind k=1 then s.fb (k - s.frm).toNat else if s.kind k=2 then s.syn.getD k.toNat [] else []
def PD.HN(s:PD)(k:Int):Int:=if s.kind k=1 then 0 else if s.kind k=2 then 0 else 240
def Kc(h:AG s t)(k:Int):(t.back s.mark).kind k=s.kind k:=by
 unfold PD.kind;rw[show(t.back s.mark).frm=s.frm from h.frm];rfl
def Ud(h:AG s t)(k:Int):(t.back s.mark).bytes k=s.bytes k:=by
 have hk:=Kc h k;unfold PD.bytes;rw[hk];by_cases h1:s.kind k=1
 ·rw[if_pos h1,if_pos h1,show(t.back s.mark).frm=s.frm from h.frm];rfl
 ·rw[if_neg h1,if_neg h1];by_cases h2:s.kind k=2
  ·rw[if_pos h2,if_pos h2];exact h.Aa0 h2
  ·rw[if_neg h2,if_neg h2]
def eb(x:Int):UInt8:=UInt8.ofNat (x % 256).toNat
def PD.Qh(s:PD)(n:Nat):List UInt8:=(Adg n).flatMap fun(k:Nat)=>s.bytes (k:Int)++[eb (s.HN (k:Int))]
def PD.look(s:PD):List UInt8:=s.Qh 12++s.Cn.map eb++[eb s.free]
def Ry{n:Nat}:PD.bytes {s with tc:=n} k=s.bytes k:=Z
def ZR{n:Nat}:PD.HN {s with tc:=n} k=s.HN k:=Z
def Is(h:s.kind k=2):s.bytes k=s.syn.getD k.toNat []:=by unfold PD.bytes;rw[if_neg (by omega),if_pos h]
def E7.at{P f}(h:E7 P f){dv pv L}(hp:Pg d s dv pv L):
  AB P f [pv,vZ k] d L (Ret fun r d' L'=>∃a c tc,r=.tuple #[.slice a (s.bytes k).length c,vZ (s.HN k)]∧AH d' (.slice a (s.bytes k).length c) (s.bytes k)∧Pg d' {s with tc:=tc} dv pv L'):=by
 refine AB.EF (h (k:=k) hp) (fun r d' L' _ ⟨⟨q,q1,q2⟩,q3⟩=>⟨d',L',Vs.refl _ _,?_⟩)
 subst q1
 unfold PD.bytes PD.HN
 unfold PD.get at q2 q3⊢
 by_cases h1:s.kind k=1
 ·simp only[if_pos h1] at q2 q3⊢
  obtain⟨a,c,rfl⟩:=RSl.val q2
  exact⟨a,c,_,Z,q2,q3⟩
 ·by_cases h2:s.kind k=2
  ·simp only[if_neg h1,if_pos h2] at q2 q3⊢
   obtain⟨a,c,rfl⟩:=RSl.val q2
   exact⟨a,c,_,Z,q2,q3⟩
  ·simp only[if_neg h1,if_neg h2] at q2 q3⊢
   obtain rfl:q=nV:=q2
   exact⟨none,0,s.tc,Z,RSl.nil,q3⟩
def PT{l:List Sec}{j:Nat}{x:Sec}(hi:i<l.length):(l.set i x).getD j []=if j=i then x else l.getD j []:=by
 simp only[Acg,List.getElem?_set];by_cases e:i=j
 ·subst e;simp[hi]
 ·rw[if_neg e,if_neg (fun h=>e h.symm)]
def JS(hin:s.frm+s.kinds.length≤s.syn.length)(h1:s.kd i=1):∀{n:Nat},n≤s.kinds.length→i<n→(synced (s.writes n) s.syn).getD (s.frm+i) []=s.fb i
 |n+1,hn,hi=>by
  rw[PD.writes];by_cases e:i=n
  ·subst e;rw[if_pos h1,Mc,PT (by rw[FI];omega),if_pos Z]
  ·have ih:=JS hin h1 (n:=n) (by omega) (by omega);split
   ·rw[Mc,PT (by rw[FI];omega),if_neg (by omega)];exact ih
   ·rw[Adm];exact ih
abbrev PD.fin(s:PD):PD:=s.flush.done
def Rs:s.fin.kind k=Fk (s.kind k):=by
 unfold PD.kind;have h1:s.fin.frm=s.frm:=Z;have h2:s.fin.kinds.length=s.kinds.length:=by simp[PD.fin,PD.done,PD.flush]
 rw[h1,h2];split
 ·show(s.kinds.map Fk).getD _ 0=_;rw[getD_map]
 ·rfl
def Pb(hG:Good s):s.fin.bytes k=s.bytes k:=by
 have hk:=Rs (s:=s) (k:=k);have hrng:s.kind k= -1∨(0≤s.kind k∧s.kind k≤3):=by
  unfold PD.kind;split
  ·exact .inr (hG.kd _)
  ·exact .inl Z
 have hin:=hG.inn;by_cases h1:s.kind k=1
 ·rw[h1] at hk;have hk2:s.fin.kind k=2:=hk;rw[Is hk2];obtain⟨i,i1,rfl,i2,i3⟩:=Cu h1 (by omega);have:s.bytes ((s.frm+i:Nat):Int)=s.fb i:=by unfold PD.bytes;rw[if_pos h1,i3]
  rw[this];exact JS hin i2 (Acj _) i1
 ·by_cases h2:s.kind k=2
  ·rw[h2] at hk;have hk2:s.fin.kind k=2:=hk;rw[Is hk2,Is h2];obtain⟨i,i1,rfl,i2,i3⟩:=Cu h2 (by omega);exact QR (by omega)
  ·have h3:s.fin.kind k≠1∧s.fin.kind k≠2:=by
    rw[hk];unfold Fk;by_cases q:s.kind k=3
    ·rw[if_pos q];omega
    ·rw[if_neg q,if_neg h1];omega
   unfold PD.bytes;rw[if_neg h3.1,if_neg h3.2,if_neg h1,if_neg h2]
def Pg.full{dv pv L}(h:Pg d s dv pv L)(hk:s.kind k=1∨s.kind k=2):(s.bytes k).length=256:=by
 have hG:=h.GL;obtain⟨A,LD, -,hD⟩:=h.dev;obtain⟨b,T,cv,bk,cp,hkk,mb,ms,clk,c,LC,LD,bd,h1,h2,h3,h4,h5, -⟩:=h;have hin:=hG.inn;rcases hk with hk|hk
 ·obtain⟨i,i1,rfl,i2,i3⟩:=Cu hk (by omega);obtain⟨v, -, -,q⟩:=h5 i i1 i2;unfold PD.bytes;rw[if_pos hk,i3];exact q
 ·obtain⟨i,i1,rfl,i2,i3⟩:=Cu hk (by omega);rw[Is hk];exact Dv.sec hD (show((s.frm+i:Nat):Int).toNat<s.syn.length by omega)
def Uz(h1:s.kind k≠1)(h2:s.kind k≠2):s.bytes k=[]:=by unfold PD.bytes;rw[if_neg h1,if_neg h2]
def AaK(hG:Good s):s.fin.kd i=0∨s.fin.kd i=2:=by
 show(s.kinds.map Fk).getD i 0=0∨(s.kinds.map Fk).getD i 0=2;rw[getD_map];have h:0≤s.kinds.getD i 0∧s.kinds.getD i 0≤3:=hG.kd i;unfold Fk;by_cases q:s.kinds.getD i 0=3
 ·rw[if_pos q];omega
 ·rw[if_neg q];by_cases q1:s.kinds.getD i 0=1
  ·rw[if_pos q1];omega
  ·rw[if_neg q1];omega
end Go.Gk.Pgr
end
section
namespace Go.Gk
open Go
variable{n:Nat}{d:Ab}
section
def LF(X:List Nat)(a0 a:Act):Prop:=∀t,t∉X→a.tmps[t]?=a0.tmps[t]?
def LF.put{X:List Nat}{a0 a:Act}(h:LF X a0 a){dst:Option Nat}(hd:∀t,dst=some t→t∈X)(v:Value):LF X a0 (a.put dst v):=by
 intro t ht;cases dst with
 |none=>exact h t ht
 |some d=>
  have hne:d≠t:=fun e=>ht (e▸hd d Z)
  show(a.tmps.setIfInBounds d v)[t]?=_
  rw[Array.getElem?_setIfInBounds,if_neg hne]
  exact h t ht
def LF.defer{X:List Nat}{a0 a:Act}(h:LF X a0 a)(l:List Deferred):LF X a0 {a with defers:=l}:=h
section
variable {P:Program}{ops:Array Oper}{Q:Exit→Act→World→Prop}{X:List Nat}{a0:Act}
end
def JI:Code→List Nat
 |.region _ ops _=>ops.toList.filterMap (·.dst)
 |.seq a b=>JI a++JI b
 |.cond _ a b=>JI a++JI b
 |.block _ a=>JI a
 |.loop a=>JI a
 |_=>[]
end
section
structure Qr where
 n:Nat
 res:List F1
 a:BT
 fd:Nat
 g:FuncId
 caps:List Nat
 c:BT
def KU(n:Nat):List Operand→Option (List Nat)
 |[]=>some []
 |.tmp t::l=>if t<n then(KU n l).map (t:: ·) else none
 |_::_=>none
def AbN:F1→Nat
 |.tmp t=>t
 |.cell t _=>t
def UD(n:Nat)(ops:List Oper):Option (Nat×FuncId×List Nat):=
 match ops with
 |[o1,o2]=>match o1.dst,o1.op,o1.guard,o2.dst,o2.op,o2.guard with
  |some fd,.makeFunc (.func g) first caps,none,none,.defer ⟨.value (.tmp fd'),args,_⟩,none=>
   if first.size=0∧args.size=0∧fd=fd'∧fd<n then(KU n caps.toList).map fun cs=>(fd,g,cs) else none
  |_,_,_,_,_,_=>none
 |_=>none
def Ye(pr:Bool)(P:Program)(f:FuncId):Option Qr:=
 match P.funcs[f]? with
 |some fn=>
  if fn.name== "runtime.NumGoroutine" || !P.follows .mixedOrders then none else
  match fn.body with
  |some (.seq a (.seq (.region _ ops false) c))=>
   match UD fn.ntmps ops.toList,fn.results.toList.mapM (HT P fn.ntmps) with
   |some (fd,g,cs),some rs=>if rs.all (fun r=> !(JI c).contains (AbN r)) then some ⟨fn.ntmps,rs,Ej pr P fn.ntmps a,fd,g,cs,Ej pr P fn.ntmps c⟩ else none
   |_,_=>none
  |_=>none
 |none=>none
def QX{args}(ha:args.length≤n):({tmps:=args.toArray++Array.replicate (n - args.toArray.size) undef,defers:=[]}:Act)=act n (GW args) []:=by
 simp only[act,Act.mk.injEq,and_true];apply Array.ext
 ·simp at ha⊢;omega
 ·intro i h1 h2;simp only[Array.getElem_ofFn,GW];by_cases hi:i<args.length
  ·rw[Array.getElem_append_left (by simpa using hi)];simp[hi]
  ·rw[Array.getElem_append_right (by simpa using hi)];simp[Aga,Adx (Agh hi)]
def Xt{P}{fn:Func}{rs:List F1}(hr:fn.results.toList.mapM (HT P n)=some rs){ρ ds L F W}(hOk:Ok (d::(L++F)) W){vs}(h:Gq ρ (HC d L) rs vs):
  (results fn (act n ρ ds).tmps).run P W=.ok (J1 vs) W:=by
 have hl:∀a v,HC d L a v→W.cell? a=some v:=fun a v hc=>hc.cell hOk.head (fun q hq=>hOk.2 q (by simp[hq]))
 have:=GY (P:=P) (n:=n) (ρ:=ρ) (ds:=ds) hl fn.results.toList rs vs hr h
 rw[Ht,Array.mapM_eq_mapM_toList]
 simp only[Sem.run_bind,Sem.run_map,this,Result.andThen,Sem.run_pure]
 cases vs with
 |nil=>rfl
 |cons v vs=>cases vs with
  |nil=>rfl
  |cons v' vs=>rfl
def Mq{ρ ds}:∀{l}{cs:List Nat},KU n l=some cs→l.map (act n ρ ds).eval=cs.map ρ
 |[],cs,h=>by cases h;rfl
 |.tmp t::l,cs,h=>by
  simp only[KU] at h;split at h<;>try cases h
  rename_i ht;simp only[Ado] at h;obtain⟨cs',h,rfl⟩:=h;have e:(act n ρ ds).eval (.tmp t)=ρ t:=A2 (x:=.tmp t) (by simpa [DM] using ht);simp only[Aet,e,Mq h]
 |.const _::l,cs,h=>by cases h
 |.global _::l,cs,h=>by cases h
 |.func _::l,cs,h=>by cases h
section
variable {pr:Bool}{P:Program}
def Ob(K:Ab→List Ab→Prop):BK:={n:=fun _=>K,ret:=fun _=>K,ex:=fun _ _ _ _=>False,pan:=fun _ _ _=>False}
def GB(g:FuncId)(caps:List Value):Value:=.func (.func g) #[] caps.toArray
def UE{ops}{r:Nat×FuncId×List Nat}(h:UD n ops.toList=some r):∃o1 o2 caps ats,ops= #[o1,o2]∧o1.dst=some r.1∧o1.op=.makeFunc (.func r.2.1) #[] caps∧o1.guard=none∧o2.dst=none∧o2.op=.defer ⟨.value (.tmp r.1), #[],ats⟩∧o2.guard=none∧r.1<n∧KU n caps.toList=some r.2.2:=by
 obtain⟨ops⟩:=ops;simp only[UD] at h;split at h<;>try cases h
 rename_i o1 o2;split at h<;>try cases h
 rename_i h1 h2 h3 h4 h5 h6;split at h<;>try cases h
 rename_i hc;obtain⟨k1,k2,k3,k4⟩:=hc;simp only[Ado] at h;obtain⟨cs,hcs,rfl⟩:=h;subst k3;have k1:=Array.eq_empty_of_size_eq_zero k1;have k2:=Array.eq_empty_of_size_eq_zero k2;subst k1;subst k2;exact⟨o1,o2,_,_,by simp_all,h1,h2,h3,h4,h5,h6,k4,hcs⟩
end
end
section
section
variable {pr:Bool}{P:Program}
def P7{f}{g:A3}(hd:K8 pr P f=some g)(hr:g.res=[]){args}(ha:args.length≤g.n){F W L}{K:Ab→List Ab→Prop}
  (h:gwp P g.code (Ob K) (GW args) d L) (hOk:Ok (d::(L++F)) W):
  CallsD P f args.toArray .returning W fun e u' w'=>(∃r,e=.returned r)∧u'=.returning∧∃d' L',Ok (d'::(L'++F)) w'∧Le d d'∧AG W w'∧K d' L':=by
 simp only[K8] at hd
 split at hd<;>try cases hd
 rename_i fn hf
 split at hd<;>try cases hd
 rename_i hn
 split at hd<;>try cases hd
 rename_i c hb
 rw[Ado] at hd
 obtain⟨rs,hrs,rfl⟩:=hd
 simp only at hr
 subst hr
 have hz:fn.results.size=0:=by
  have:fn.results.toList.length=0:=by
   cases e:fn.results.toList with
   |nil=>rfl
   |cons r l=>
    rw[e,List.mapM_cons] at hrs
    simp only[Option.bind_eq_bind,Option.bind_eq_some_iff,Option.pure_def] at hrs
    obtain⟨_,_,_,_,hh⟩:=hrs
    cases hh
  simpa using this
 simp only[Adu,not_or,Afg,Agx] at hn
 refine callsD_of_wpS hf hb fun c₀ cs hu=>?_
 rw[QX ha]
 refine wpS_of_wp (wp_mono (Ha (ds:=[]) (F:=F) (W0:=W) (d0:=d) (by simpa using hn.2) c _ _ d L W h hOk (Le.refl d) (AG.refl W)) ?_)
 have hres:∀(tm:Array Value) (w:World),(results fn tm).run P w=.ok (.tuple #[]) w:=by
  intro tm w;have:fn.results= #[]:=Array.eq_empty_of_size_eq_zero hz;rw[Ht,Array.mapM_eq_mapM_toList,this];simp
 intro e a w hq
 cases e with
 |normal=>
  obtain⟨ρ,d',L',rfl,k1,k2,k3,k4⟩:=hq
  exact⟨Z,.returning,by cases c₀;simp_all,_,hres _ _,⟨_,Z⟩,Z,d',L',k1,k2,k3,k4⟩
 |ret=>
  obtain⟨ρ,d',L',rfl,k1,k2,k3,k4⟩:=hq
  exact⟨Z,.returning,by cases c₀;simp_all,_,hres _ _,⟨_,Z⟩,Z,d',L',k1,k2,k3,k4⟩
 |panic c=>obtain⟨_,_,_,_,_,_,hh⟩:=hq;exact hh.elim
 |exit i=>obtain⟨_,_,_,_,_,_,_,hh⟩:=hq;exact hh.elim
 |goto l=>exact hq.elim
 |outgrown=>exact hq.elim
def AbO(P:Program)(res:List F1)(v:A3)(R:Ending→Ab→List Ab→Prop)(caps:List Value):BK:=
 {n:=fun ρ d L=>gwp P v.code (Ob (Ct res R ρ)) (GW caps) d L,ret:=fun ρ d L=>gwp P v.code (Ob (Ct res R ρ)) (GW caps) d L,ex:=fun _ _ _ _=>False,pan:=fun _ _ _=>False}
def YW(P:Program)(g:Qr)(v:A3)(R:Ending→Ab→List Ab→Prop):BK:=
 {n:=fun ρ d L=>gwp P g.c (AbO P g.res v R (g.caps.map ρ)) (upd ρ g.fd (GB g.g (g.caps.map ρ))) d L,
  ret:=fun _ _ _=>False,ex:=fun _ _ _ _=>False,pan:=fun _ _ _=>False}
def WD{pr':Bool}{f}{g:Qr}{v:A3}(hd:Ye pr P f=some g)(hv:K8 pr' P g.g=some v)(hvr:v.res=[]){args}(ha:args.length≤g.n)(hcl:g.caps.length≤v.n){L R}
  (h:gwp P g.a (YW P g v R) (GW args) d L):AB P f args d L R:=by
 simp only[Ye] at hd
 split at hd<;>try cases hd
 rename_i fn hf
 split at hd<;>try cases hd
 rename_i hn
 split at hd<;>try cases hd
 rename_i A id ops C hb
 split at hd<;>try cases hd
 rename_i fd gg cs rs hdf hrs
 split at hd<;>cases hd
 rename_i hall
 simp only[Adu,not_or,Afg,Agx] at hn
 have hm:P.follows .mixedOrders=true:=by simpa using hn.2
 obtain⟨o1,o2,caps,ats,rfl,h1,h2,h3,h4,h5,h6,h7,h8⟩:=UE hdf
 simp only at h1 h2 h5 h7 h8 hv hcl ha h
 have hvc:Mt P gg:=by
  have hv':=hv;simp only[K8] at hv';split at hv'<;>try cases hv'
  rename_i fn' hf';split at hv'<;>try cases hv'
  rename_i hn';split at hv'<;>try cases hv'
  rename_i hb';simp only[Adu,not_or,Afg,Agx] at hn';exact⟨fn',hf',by rw[hb'];rfl,hn'.1⟩
 refine⟨⟨fn,hf,by rw[hb];rfl,hn.1⟩,fun F W hOk=>?_⟩
 refine calls_of_wp_defers hf hb ?_
 rw[QX ha]
 refine wp_seq (wp_mono (Ha (ds:=[]) (F:=F) (W0:=W) (d0:=d) hm A _ _ d L W h hOk (Le.refl d) (AG.refl W)) ?_)
 intro e a w hq
 cases e with
 |panic c=>obtain⟨_,_,_,_,_,_,hh⟩:=hq;exact hh.elim
 |exit i=>obtain⟨_,_,_,_,_,_,_,hh⟩:=hq;exact hh.elim
 |ret=>obtain⟨_,_,_,_,_,_,_,hh⟩:=hq;exact hh.elim
 |goto l=>exact hq.elim
 |outgrown=>exact hq.elim
 |normal=>
 obtain⟨ρ,d1,L1,rfl,k1,k2,k3,k4⟩:=hq
 simp only[YW] at k4
 refine wp_seq (wp_region ?_)
 have l:Adg (#[o1,o2]:Array Oper).size=[0,1]:=Z
 rw[l]
 have g0:(#[o1,o2]:Array Oper)[0]?=some o1:=Z
 have g1:(#[o1,o2]:Array Oper)[1]?=some o2:=Z
 have e1:∀ys,Region.wanted o1 ys=true:=fun ys=>by simp[Region.wanted,h3]
 have e2:∀ys,Region.wanted o2 ys=true:=fun ys=>by simp[Region.wanted,h6]
 have hcv:caps.map (act fn.ntmps ρ []).eval=(cs.map ρ).toArray:=by
  have:=Mq (ρ:=ρ) (ds:=[]) h8;exact Array.ext' (by rw[Array.toList_map,this])
 have x1:∀w,(execOp (act fn.ntmps ρ []).eval o1).run P w=.ok (.value (GB gg (cs.map ρ))) w:=by
  intro w;simp[execOp,h2,Instr.makeFunc,hcv,GB]
 have hfd:(act fn.ntmps (upd ρ fd (GB gg (cs.map ρ))) []).eval (.tmp fd)=GB gg (cs.map ρ):=by
  rw[A2 (x:=.tmp fd) (by simpa [DM] using h7)];simp[ev,upd]
 have x2:∀w,(execOp (act fn.ntmps (upd ρ fd (GB gg (cs.map ρ))) []).eval o2).run P w=.ok (.defer {target:=.fn (.func gg) (cs.map ρ).toArray,args:= #[]}) w:=by
  intro w;generalize (act fn.ntmps (upd ρ fd (GB gg (cs.map ρ))) []).eval=e at hfd;simp[execOp,h5,resolve,hfd,GB,Deferred.ofValue]
 have p1:(act fn.ntmps ρ []).put o1.dst (GB gg (cs.map ρ))=act fn.ntmps (upd ρ fd (GB gg (cs.map ρ))) []:=by
  rw[h1,Fa (d:=some fd) (fun _ e=>by cases e;exact h7)];rfl
 simp only[wpOps_cons,wpOp,g0,e1,if_true]
 refine .inl ?_
 simp only[Oper.wp,x1,Oper.upon,p1,wpOps_cons,wpOp,g1,e2,if_true]
 refine .inl ?_
 simp only[x2,h4]
 show Code.wp P C _ (act fn.ntmps (upd ρ fd (GB gg (cs.map ρ))) [{target:=.fn (.func gg) (cs.map ρ).toArray,args:= #[]}]) w
 have hlen:(cs.map ρ).length≤v.n:=by simpa using hcl
 have hinv:∀w,(invoke (.fn (.func gg) (cs.map ρ).toArray) #[]).run P w=.ok (.enter gg (cs.map ρ).toArray) w:=by
  intro w;simp[invoke,Fs hvc]
 generalize hD:(⟨.fn (.func gg) (cs.map ρ).toArray, #[]⟩:Deferred)=D
 refine wp_mono (Ha (ds:=[D]) (F:=F) (W0:=W) (d0:=d) hm C _ _ d1 L1 w k4 k1 k2 k3) ?_
 subst hD
 have fin:∀a w,(∃ρ' d' L',a=act fn.ntmps ρ' [⟨.fn (.func gg) (cs.map ρ).toArray, #[]⟩]∧Ok (d'::(L'++F)) w∧Le d d'∧AG W w∧gwp P v.code (Ob (Ct rs R ρ')) (GW (cs.map ρ)) d' L')→
   Leaves P fn a.tmps (fun e W'=>∃d' L',Ok (d'::(L'++F)) W'∧Le d d'∧AG W W'∧R e d' L') a.defers .returning w:=by
  rintro a w ⟨ρ',d',L',rfl,j1,j2,j3,j4⟩
  refine leaves_cons (by simp) (hinv w) ((P7 hv hvr hlen j4 j1).mono ?_)
  rintro e u' w' ⟨⟨r,rfl⟩,rfl,d2,L2,q1,q2,q3,vs,q4,d3,L3,q5,q6⟩
  exact⟨J1 vs,Xt hrs q1 q4,d3,L3,q5.2 F w' q1,(j2.trans q2).trans q5.1,j3.trans q3,q6⟩
 intro e a w hq
 cases e with
 |normal=>exact fin a w hq
 |ret=>exact fin a w hq
 |panic c=>obtain⟨_,_,_,_,_,_,hh⟩:=hq;exact hh.elim
 |exit i=>obtain⟨_,_,_,_,_,_,_,hh⟩:=hq;exact hh.elim
 |goto l=>exact hq.elim
 |outgrown=>exact hq.elim
end
end
end Go.Gk
end
section
namespace Go.Gk.Chn
open Go Go.Gk Go.Gk.Dev Go.Gk.Cch Go.Gk.Pgr Go.Gk.Node
attribute [local irreducible] gwp gws xwp
def BB(s:PD)(l:List Int):Nat→PD×List Int×Int
 |0=>(s,l,0)
 |n+1=>if s.AR.2.2=0 then BB s.AR.1 (l++[s.AR.2.1]) n else(s.AR.1,l,s.AR.2.2)
def C5(s:PD)(l:List Int):PD:=l.foldl (fun s k=>(s.drop k).1) s
def Bi(s:PD)(n:Nat):PD×List Int×Int:=if (BB s [] n).2.2=0 then BB s [] n else(C5 (BB s [] n).1 (BB s [] n).2.1,[],(BB s [] n).2.2)
def WL{s}(hG:Pgr.Good s):0≤s.AR.2.1∧s.AR.2.1≤16384:=by
 unfold PD.AR;cases h:CH 0 s.kinds with
 |none=>show 0≤(0:Int)∧(0:Int)≤16384;decide
 |some i=>
  obtain⟨h1, -⟩:=FQ h
  have:=hG.inn
  have:=hG.syn
  show 0≤((s.frm+i:Nat):Int)∧((s.frm+i:Nat):Int)≤16384
  omega
def O4(P:Program)(f:FuncId):Prop:=∀{d s dv pv L}{n:Nat},Pg d s dv pv L→n≤8192→
 AB P f [pv,vZ n] d L (Ret fun r d' L'=>Le d d'∧∃v,r=.tuple #[v,vZ (Bi s n).2.2]∧Dt d' v (Bi s n).2.1∧Pg d' (Bi s n).1 dv pv L')
def XZ(d a b c h:Ab)(L:List Ab):Vs d (a::b::c::h::L) (join d h) L:=(Vs.drop (.cons _ (.cons _ (.cons _ (Acd _))))).trans Vs.freeze
def UF{s}{l:List Int}{k:Int}:C5 s (l++[k])=((C5 s l).drop k).1:=by simp[C5]
def P9(a0 a1:Nat):Qr:=⟨27,[(.cell 4 none),(.cell 5 none)],(rG (o1 2 (.box 0)<|o1 4 (.alo nV)<|o1 5 (.alo (vZ 0)) .done)),8,a0,[5,4,2],(.seq (sR (om 9 1<|o1 10 (.mv z0) .done) (.block 0 (.loop (sR (ob 11 .lss 10 9 .done) (.seq (.cond 11 .skip (.exit 0)) (.seq (.block 1 (sR (ol 13 2<|oc 14 a1 [13]<|om 12 14<|oe 15 12 0<|oe 16 12 1<|om 6 15<|om 7 16 .done) (.seq (sR (om 17 7<|ob 18 .neq 17 z0 .done) (.cond 18 (sR (ol 19 4<|om 20 7<|o0 (.st 1 4 19)<|o0 (.st 1 5 20) .done) .ret) .skip)) (rG (ol 21 4<|om 22 6<|o1 23 (.bsl 1 1 [(vZ 0)] [(0,22)])<|o1 24 (.app 1 8 [(vZ 0)] 21 23)<|o0 (.st 1 4 24) .done))))) (rG (ob 25 .add 10 z1<|om 10 25 .done)))))))) (sR (ol 26 4<|o0 (.st 1 4 26)<|o0 (.st 1 5 z0) .done) .ret))⟩
def It(a0:Nat):A3:=⟨17,[],(sR (ol 5 0<|ob 6 .neq 5 z0 .done) (.cond 6 (.seq (sR (ol 7 1<|oL 8 7<|o1 9 (.mv z0) .done) (.block 0 (.loop (sR (ob 10 .lss 9 8 .done) (.seq (.cond 10 .skip (.exit 0)) (.seq (.block 1 (sR (oI 11 1 7 9<|ol 12 11<|om 4 12 .done) (rG (ol 13 2<|om 14 4<|oc 15 a0 [13,14] .done)))) (rG (ob 16 .add 9 z1<|om 9 16 .done)))))))) (rG (o0 (.st 1 1 nS) .done))) .skip))⟩
def Sd(P:Program)(f:FuncId):Prop:=∃f3,dec P f=some (It f3)∧NK P f3
def Zz{P f f3}(hd:dec P f=some (It f3))(h:NK P f3):Sd P f:=⟨f3,hd,h⟩
set_option maxRecDepth 4000 in
set_option maxHeartbeats 1000000 in
def Xb{P f f1 f2}(hd:Ye false P f=some (P9 f1 f2))(h0:Sd P f1)(h1:FO P f2):O4 P f:=by
 obtain⟨f3,hv,h2⟩:=h0;intro d s dv pv L n hp hn;obtain⟨bp,rfl⟩:=hp.ptr;refine WD hd hv Z (Aca Z) (Aca Z) ?_;show gwp P _ _ _ _ _;(apply AI);refine GJ Z (fun b2 T2=>?_);refine Dj (fun b4 T4=>?_);refine Dj (fun b5 T5=>?_);refine Gi ⟨d,bx b5 T5 [vZ 0]::bx b4 T4 [nV]::bx b2 T2 [pZ bp]::emp::L,(Vs.emp (L:=_)).trans (Vs.perm ((Adb _ _ _).trans (Acr _ ((Adb _ _ _).trans (Acr _ (Adb _ _ _)))))),?_⟩;show gwp P _ _ _ _ _;refine Ag<|Ad<|Ac Z<|Ac Z<|Aa<|Az<|BM (α:=Nat×PD×List Int×Option Addr×Nat) (fun x=>[(2,pZ b2),(4,pZ b4),(5,pZ b5),(9,vZ n),(10,vZ x.1)])
  (fun x d' L'=>Le d d'∧x.1≤n∧BB s [] n=BB x.2.1 x.2.2.1 (n - x.1)∧x.2.2.1.length=x.1∧∃hv L3,L'=bx b5 T5 [vZ 0]::bx b4 T4 [.slice x.2.2.2.1 x.2.2.1.length x.2.2.2.2]::bx b2 T2 [pZ bp]::hv::L3∧
   An 1 A7 d' (.slice x.2.2.2.1 x.2.2.1.length x.2.2.2.2) x.2.2.1 hv∧Pg d' x.2.1 dv (pZ bp) L3)
  (fun x=>n - x.1) (0,s,[],none,0) ⟨Z,Z,Z,Z,Z,trivial⟩ ⟨Le.refl _,Adf _,Z,Z,emp,L,Z,An.nil,hp⟩ ?_
 rintro⟨i,s1,l,va,vc⟩ ρ d' L' ⟨hle,hi,hT,hll,hv,L3,rfl,hrow,hp1⟩;simp only at hi hT hll hrow hp1⊢;by_cases e:i<n
 ·have hni:n - i=(n - (i+1))+1:=by omega
  rw[hni,BB] at hT;refine Ad<|AA Z Z<|Aa<|Ag<|AF Z (by omega)<|Al<|Ag<|Az<|Ad<|Ai Z (Aq 2 Z Z)<|HG (h1 hp1) (Acn (l₁:=[_,_,_,_])) Z (fun u d2 L2 hl2 ⟨q1,hp2⟩=>?_);subst q1;refine⟨d2,_::_::_::_::L2,Vs.perm (Acn (l₂:=[_,_,_,_])),?_⟩
  have hrow2:An 1 A7 d2 (.slice va l.length vc) l hv:=An.mono (R:=A7) BE hrow hl2;by_cases hz:s1.AR.2.2=0
  ·rw[if_pos hz] at hT;(refine AU Z<|Ap Z Z<|Ap Z Z<|Ac Z<|Ac Z<|Aa<|Ag<|Ad<|Ac Z<|AW Z Z<|Aa<|Aw Z (by omega)<|Al<|AI<|Ai Z (Aq 1 Z Z)<|Ac Z ?_);have hrg:=WL hp1.GL;refine Db (v0:=vZ s1.AR.2.1) Z Z (fun b3 T3=>?_);refine Ep (R:=A7) 3 Z Z hrow2 Z (An.D7 (x:=s1.AR.2.1) Z ⟨Z,by omega,by omega⟩) D2 (by omega) (by simp;omega) (by simp;omega) (fun v' h' ho'=>?_);obtain⟨va',vc',rfl⟩:=ho'.val;refine Bg 1 [.slice va' (l++[s1.AR.2.1]).length vc'] Z Z Z Z (Acj _) Z Z ?_;(refine Aa<|AI<|AY Z Z (by omega) (by omega)<|Ac Z<|Aa ?_);exact⟨(i+1,s1.AR.1,l++[s1.AR.2.1],va',vc'),by simp only;omega,⟨Z,Z,Z,Z,Z,trivial⟩,hle.trans hl2,e,hT,by simp only[Aci,Acx,List.length_nil];omega,h',L2,Z,ho',hp2⟩
  ·rw[if_neg hz] at hT;refine AU Z<|Ap Z Z<|Ap Z Z<|Ac Z<|Ac Z<|Aa<|Ag<|Ad<|Ac Z<|AW Z Z<|Aa<|AF Z (by omega)<|Ad<|Ai Z (Aq 1 Z Z)<|Ac Z<|Bg 1 [.slice va l.length vc] Z Z Z Z (Acj _) Z Z ?_;refine Bg 0 [vZ s1.AR.2.2] Z Z Z Z (Acj _) Z Z ?_;have hF:Bi s n=(C5 s1.AR.1 l,[],s1.AR.2.2):=by unfold Bi;rw[hT,if_neg hz]
   rw[hF];have hbl:(s1.AR.1).kinds.length≤8192:=hp2.GL.len;(refine Aa<|Ao<|Ad<|Ai Z (Aq 0 Z Z)<|AW Z Z<|Aa<|AF Z (by omega)<|Ag<|Ad<|Ai Z (Aq 1 Z Z)<|AO Z<|Ac Z<|Aa<|Az ?_);show gwp P _ _ _ _ _;skip;refine BM (α:=Nat) (fun i=>[(1,pZ b4),(2,pZ b2),(7,.slice va l.length vc),(8,vZ l.length),(9,vZ i)])
    (fun i d' L'=>Le d2 d'∧i≤l.length∧∃L4,L'=bx b5 T5 [vZ s1.AR.2.2]::bx b4 T4 [.slice va l.length vc]::bx b2 T2 [pZ bp]::hv::L4∧Pg d' (C5 s1.AR.1 (l.take i)) dv (pZ bp) L4)
    (fun i=>l.length - i) 0 ⟨Z,Z,Z,Z,Z,trivial⟩ ⟨Le.refl _,Adf _,L2,Z,hp2⟩ ?_
   rintro j ρ d' L' ⟨hle',hj,L4,rfl,hp4⟩;by_cases ej:j<l.length
   ·have hn':C5 s1.AR.1 (l.take (j+1))=((C5 s1.AR.1 (l.take j)).drop l[j]).1:=by rw[Acp ej,UF]
    obtain⟨b1,T1,l1,c1,cs,q1,rfl,hcl,hcs,hle1,⟨rfl,hb1,hb2⟩, -⟩:=An.at (by omega) hrow ej;cases q1;have c0:=hcs 0 _ Z;refine Ad<|AA Z Z<|Aa<|Ag<|AF Z (by omega)<|Al<|Ag<|Az<|Ad<|CK _ Z Z Z (by omega)<|Ai Z (Aq 3 Z (by assumption))<|Ac Z<|Aa<|AI<|Ai Z (Aq 2 Z Z)<|Ac Z<|HG (h2 (k:=l[j]) hp4) (Acn (l₁:=[_,_,_,_])) Z (fun u d5 L5 hl5 ⟨q1,hp5⟩=>?_);subst q1;refine⟨d5,_::_::_::_::L5,Vs.perm (Acn (l₂:=[_,_,_,_])),?_⟩
    (refine Aa<|AI<|AY Z Z (by omega) (by omega)<|Ac Z<|Aa ?_);exact⟨j+1,by omega,⟨Z,Z,Z,Z,Z,trivial⟩,hle'.trans hl5,ej,L5,Z,by rw[hn'];exact hp5⟩
   ·have:j=l.length:=by omega
    subst this;rw[Aec] at hp4;refine Ad<|AA Z Z<|Aa<|Ag<|Aw Z (by omega)<|Ba<|AI<|Bg 1 [nV] Z Z Z Z (Acj _) Z Z ?_;(apply Aa);exact A9 [nV,vZ s1.AR.2.2] ⟨⟨_,_,Z,Aq 1 Z Z⟩,⟨_,_,Z,Aq 0 Z Z⟩,trivial⟩ (d':=d') (L':=L4) (Vs.drop (.cons _ (.cons _ (.cons _ (.cons _ (Acd _)))))) ⟨(hle.trans hl2).trans hle',_,Z,RSl.nil,hp4⟩
 ·have:i=n:=by omega
  subst this;rw[Ahb,BB] at hT;have hF:Bi s i=(s1,l,0):=by unfold Bi;rw[hT,if_pos Z]
  rw[hF];refine Ad<|AA Z Z<|Aa<|Ag<|Aw Z (by omega)<|Ba<|Ad<|Ai Z (Aq 1 Z Z)<|Bg 1 [.slice va l.length vc] Z Z Z Z (Acj _) Z Z ?_;refine Bg 0 [vZ 0] Z Z Z Z (Acj _) Z Z ?_;(refine Aa<|Ao<|Ad<|Ai Z (Aq 0 Z Z)<|AW Z Z<|Aa<|Aw Z (by omega)<|Al ?_);exact A9 [.slice va l.length vc,vZ 0] ⟨⟨_,_,Z,Aq 1 Z Z⟩,⟨_,_,Z,Aq 0 Z Z⟩,trivial⟩ (d':=join d' hv) (L':=L3) (XZ _ _ _ _ _ _) ⟨hle.trans (Le.Au _ _),_,Z,An.rsl (R:=A7) (sz:=1) hrow BE (by omega) (Le.Au _ _) (Le.AZ _ _),hp1.mono (Le.Au _ _)⟩
end Go.Gk.Chn
end
section
namespace Go.Gk.Chn
open Go Go.Gk Go.Gk.Dev Go.Gk.Cch Go.Gk.Pgr Go.Gk.Node
variable{f:FuncId}
section
section
variable {P:Program}{pan:List PanicEntry→AL}{Qn:Env→AL}{Ls L:List Ab}{ρ:Env}{d:Ab}{s:GS}{t:Nat}{tk:Bool}
def Vi{x y}{b o n c i:Nat}{T ls w l}{t:Option Nat}(ex:ev ρ x=.slice (some ⟨b,o,none⟩) n c)(ey:ev ρ y=w)(hw:AH d w l)(hi:L[i]?=some (bx b T ls))(hn:o+n≤ls.length)
  (h:gws P pan Qn s Ls (put ρ t (vZ ((min l.length n:Nat):Int))) d (L.set i (bx b T (patch ls o ((l.take n).map As))))):gws P pan Qn (.op false ⟨t,none,.mop (.cpy 1 x y)⟩ s) Ls ρ d L:=by
 obtain⟨a,c',b',o',rfl,h2,h3,h4,h5,h6,h7,h8⟩:=hw
 refine⟨d,L,Vs.refl d L,?_⟩
 simp only[gop,gi,mi]
 refine⟨_,n,c,a,l.length,c',(l.take n).map As,ex,ey,by simp[Nat.min_comm],CS _,fun e=>?_,fun a' ha j u hu=>?_,.inr ⟨i,b,o,T,ls,Z,hi,by simp;omega,d,_,Vs.refl d _,h⟩⟩
 ·have:l=[]:=Acl (by have:=h4 e;omega)
  subst this;simp
 ·rw[List.getElem?_map,List.getElem?_take] at hu
  split at hu
  ·cases q:l[j]? with
   |none=>rw[q] at hu;cases hu
   |some y=>
    rw[q] at hu
    cases hu
    obtain⟨hj,rfl⟩:=List.getElem?_eq_some_iff.1 q
    obtain⟨cs,j1,j2,j3⟩:=h8 j hj
    obtain rfl:=j3
    have ha2:=h2 (by omega)
    rw[ha] at ha2
    cases ha2
    have h9:=j2.at (i:=0) Z
    have h0:HC d (Ls++L++L) ⟨b',o'+j,none⟩ (As l[j]):=BH (by simpa using h9)
    have ea:(⟨b',o',none⟩:Addr).add j=⟨b',o'+j,none⟩:=by
     unfold Addr.add;simp
    rw[ea];exact h0
  ·cases hu
def Pt{x y}{b len:Nat}{kk}(k:Nat)(ex:ev ρ x=pZ b)(ey:ev ρ y=.int kk (k:Nat))(hk:k<len)(h:gws P pan Qn s Ls (upd ρ t (.slice (some ⟨b,k,none⟩) (len - k) (len - k))) d L):
  gws P pan Qn (.op tk ⟨some t,none,.sla len 1 x (some y) none none⟩ s) Ls ρ d L:=by
 refine w_q Z ⟨b,0,k,len,len,ex,?_,Z⟩ ?_
 ·simp only[Gy,MQ,KX,M4,Option.bind_some,Option.map_some,Option.map_none,ey,bnd]
  have:k≤len:=by omega
  simp[this]
 ·rw[if_neg (by omega)];simpa using h
def Rw{x}{b len:Nat}(ex:ev ρ x=pZ b)(hk:0<len)(h:gws P pan Qn s Ls (upd ρ t (.slice (some ⟨b,0,none⟩) len len)) d L):
  gws P pan Qn (.op tk ⟨some t,none,.sla len 1 x none none none⟩ s) Ls ρ d L:=by
 refine w_q Z ⟨b,0,0,len,len,ex,?_,Z⟩ ?_
 ·simp[Gy,MQ,KX,M4]
 ·rw[if_neg (by omega)];simpa using h
end
attribute [local irreducible] gwp gws xwp
def AM(n:Nat):Nat:=max 1 ((n+253) / 254)
def F8(P:Program)(f:FuncId):Prop:=∀{d}{n:Nat},n≤1000000→Cy P f [vZ n] d (vZ (AM n))
def Qa:A3:=⟨10,[(.tmp 2)],(sR (o1 2 (.mv z0) .done) (.seq (sR (om 3 0<|ob 4 .lss 3 z0 .done) (.cond 4 (sR (o1 2 (.mv z0) .done) .ret) .skip)) (sR (om 5 0<|ob 6 .sub 5 z1<|ob 7 .quo 6 (kZ 254)<|ob 8 .add 7 z1<|o1 9 (.mx2 z1 8)<|om 2 9 .done) .ret)))⟩
def XN{n:Nat}:max (1:Int) (((n:Int) - 1).tdiv 254+1)=(AM n:Nat):=by
 unfold AM;by_cases h:n=0
 ·subst h;rfl
 ·have h1:((n:Int) - 1).tdiv 254=((n:Int) - 1) / 254:=Ahe (by omega);rw[h1];omega
def XM{P}(hd:dec P f=some Qa):F8 P f:=by
 intro d n hn;refine AK hd (Aca Z) ?_;show gwp P _ _ _ _ _;have hb: -1≤((n:Int) - 1).tdiv 254∧((n:Int) - 1).tdiv 254≤1000000:=by
  by_cases h:n=0
  ·subst h;decide
  ·rw[Ahe (by omega)];omega
 refine Ad<|Ac Z<|Aa<|Ag<|Ad<|Ac Z<|AA Z Z<|Aa<|Aw Z (by omega)<|Al<|Ad<|Ac Z<|CP Z Z (by omega) (by omega)<|AaM Z Z (by omega) (by omega) (by omega)<|AY Z Z (by omega) (by omega)<|Abu Z Z<|Ac Z<|Aa<|Ao<|Hx Z ?_;rw[XN]
def DP(next:Int)(c:List UInt8):Sec:=UInt8.ofNat (next / 256 % 256).toNat::UInt8.ofNat (next % 256).toNat::(c++Acq (254 - c.length) 0)
def NP(x y:UInt8){c}(_:c.length≤254):patch (patch (patch DS 0 [As x]) 1 [As y]) 2 (c.map As)=(x::y::(c++Acq (254 - c.length) 0)).map As:=by
 have hz:DS=As 0::As 0::Acq 254 (As 0):=Z;have e1:patch (As 0::As 0::Acq 254 (As 0)) 0 [As x]=As x::As 0::Acq 254 (As 0):=Z;have e2:patch (As x::As 0::Acq 254 (As 0)) 1 [As y]=As x::As y::Acq 254 (As 0):=Z;rw[hz,e1,e2];unfold patch;rw[Adq,Nat.add_comm 2];show As x::As y::(c.map As++(Acq 254 (As 0)).drop c.length)=_;rw[List.drop_replicate,Aet,Aet,List.map_append,List.map_replicate]
def BW(b:List UInt8)(i:Nat):List UInt8:=(b.drop (i*254)).take 254
def C8(s:PD)(l:List Int)(b:List UInt8):Nat→PD
 |0=>s
 |i+1=>((C8 s l b i).put (l.getD i 0) (DP (l.getD (i+1) 65535) (BW b i))).1
def B1(s:PD)(b:List UInt8):PD×Int×Int:=
 let t:=Bi s (AM b.length)
 if t.2.2=0 then(C8 t.1 t.2.1 b t.2.1.length,t.2.1.getD 0 0,0) else(t.1,0,t.2.2)
def KG:∀{n:Nat}{s}{l:List Int},(BB s l n).2.2=0→(BB s l n).2.1.length=l.length+n
 |0,s,l,_=>rfl
 |n+1,s,l,h=>by
  rw[BB] at h⊢;split at h
  ·rename_i e;rw[if_pos e,KG h];simp;omega
  ·rename_i e;exact absurd h e
def WH{s}{n:Nat}(h:(Bi s n).2.2=0):(Bi s n).2.1.length=n:=by
 unfold Bi at h⊢;split
 ·rename_i e;have:=KG (s:=s) e;simpa using this
 ·rename_i e;rw[if_neg e] at h;exact absurd h e
def PL{n i:Nat}(h:i<AM n):i*254≤n:=by unfold AM at h;omega
def Nz(P:Program)(f:FuncId):Prop:=∀{d s dv pv bv L b},Pg d s dv pv L→AH d bv b→b.length≤16384→
 AB P f [pv,bv] d L (Ret fun r d' L'=>Le d d'∧r=.tuple #[vZ (B1 s b).2.1,vZ (B1 s b).2.2]∧Pg d' (B1 s b).1 dv pv L')
def SM(a0 a1 a2:Nat):A3:=⟨64,[(.tmp 4),(.tmp 5)],(sR (o1 4 (.mv z0)<|o1 5 (.mv z0) .done) (.seq (sR (om 12 1<|oL 13 12<|ob 14 .gtr 13 (kZ 16384) .done) (.cond 14 (sR (o1 4 (.mv z0)<|o1 5 (.mv (kZ 3)) .done) .ret) .skip)) (sR (om 16 0<|om 17 1<|oL 18 17<|oc 19 a0 [18]<|oc 20 a1 [16,19]<|om 15 20<|oe 21 15 0<|oe 22 15 1<|om 6 21<|om 7 22 .done) (.seq (sR (om 23 7<|ob 24 .neq 23 z0 .done) (.cond 24 (sR (om 25 7<|o1 4 (.mv z0)<|om 5 25 .done) .ret) .skip)) (.seq (sR (om 26 6<|oL 27 26<|o1 28 (.mv z0) .done) (.block 0 (.loop (sR (ob 29 .lss 28 27 .done) (.seq (.cond 29 .skip (.exit 0)) (.seq (.block 1 (sR (om 30 28<|oI 31 1 26 28<|ol 32 31<|om 8 30<|om 9 32 .done) (sR (o1 10 (.mv (kZ 65535)) .done) (.seq (sR (om 33 8<|ob 34 .add 33 z1<|om 35 6<|oL 36 35<|ob 37 .lss 34 36 .done) (.cond 37 (rG (om 38 6<|om 39 8<|ob 40 .add 39 z1<|oI 41 1 38 40<|ol 42 41<|om 10 42 .done)) .skip)) (sR (o1 11 (.alo (.agg DS.toArray)) .done) (sR (om 43 10<|ob 44 .shr 43 (.const (.int .u64 8))<|o1 45 (.cvi .u8 44)<|om 46 10<|o1 47 (.cvi .u8 46)<|o1 48 (.idxa 256 1 11 z0)<|o0 (.st 1 48 45)<|o1 49 (.idxa 256 1 11 z1)<|o0 (.st 1 49 47) .done) (.seq (.reg true (p1 50 (.sla 256 1 11 (some z2) none none)<|pm 51 1<|pm 52 8<|p1 53 (.bin .mul 52 (kZ 254))<|p1 54 (.sl 1 51 (some 53) none none)<|o1 55 (.mop (.cpy 1 50 54)) .done)) (rG (om 56 0<|om 57 9<|o1 58 (.sla 256 1 11 none none none)<|oc 59 a2 [56,57,58] .done))))))))) (rG (ob 60 .add 28 z1<|om 28 60 .done)))))))) (sR (om 61 6<|o1 62 (.idx 1 61 z0)<|ol 63 62<|om 4 63<|o1 5 (.mv z0) .done) .ret))))))⟩
set_option maxRecDepth 4000 in
set_option maxHeartbeats 1000000 in
def ZB{P f1 f2 f3}(hd:dec P f=some (SM f1 f2 f3))(h1:F8 P f1)(h2:O4 P f2)(h3:N9 P f3):Nz P f:=by
 intro d s dv pv bv L b hp hb hbl;obtain⟨bp,rfl⟩:=hp.ptr;have hpn:1≤AM b.length∧AM b.length≤8192:=by unfold AM;omega
 refine AK hd (Aca Z) ?_;show gwp P _ _ _ _ _;refine Ad<|Ac Z<|Ac Z<|Aa<|Ag<|Ad<|AQ<|Bv Z (by assumption)<|Bb Z Z<|Aa<|Aw Z (by omega)<|Al<|Ad<|Ah Z<|AQ<|Bv Z (by assumption)<|CF Z (h1 (n:=b.length) (by omega)) (fun u d1 L1 _ ⟨e1,e2,e3⟩=>?_);subst e1;subst e2;subst e3;rw[Adr];refine Cz (h2 hp hpn.2) Z (fun u d2 L2 hl2 ⟨_,v,e1,hv,hp2⟩=>?_);subst e1;by_cases hz:(Bi s (AM b.length)).2.2=0
 ·have hF:B1 s b=(C8 (Bi s (AM b.length)).1 (Bi s (AM b.length)).2.1 b (Bi s (AM b.length)).2.1.length,(Bi s (AM b.length)).2.1.getD 0 0,0):=by unfold B1;simp only[hz,if_true]
  rw[hF,hz];have hlen:=WH hz;generalize (Bi s (AM b.length)).2.1=l at hv hlen;generalize (Bi s (AM b.length)).1=t at hp2;have hll:=hv.Bt;refine AU Z<|Ap Z Z<|Ap Z Z<|AQ<|Ac Z<|Aa<|Ag<|Ad<|Ac Z<|AW Z Z<|Aa<|Aw Z (by omega)<|Al<|Ag<|Ad<|AQ<|Bv Z (by assumption)<|Ac Z<|Aa<|Az<|BM (α:=Nat) (fun i=>[(0,pZ bp),(1,bv),(6,v),(26,v),(27,vZ l.length),(28,vZ i)])
   (fun i d' L'=>Le d2 d'∧i≤l.length∧Pg d' (C8 t l b i) dv (pZ bp) L') (fun i=>l.length - i) 0 ⟨Z,Z,Z,Z,Z,Z,trivial⟩ ⟨Le.refl _,Adf _,hp2⟩ ?_
  rintro i ρ d' L' ⟨hle,hi,hp'⟩;have hv':=RSl.mono (R:=A7) BE hv hle;have hb':=RSl.mono (R:=AE) AP hb (hl2.trans hle);by_cases e:i<l.length
  ·have him:i*254≤b.length:=PL (by omega);by_cases en:i+1<l.length
   ·have hput:C8 t l b (i+1)=((C8 t l b i).put l[i] (DP l[i+1] (BW b i))).1:=by
     rw[C8,show l.getD i 0=l[i] by rw[Acg,Acf e];rfl,show l.getD (i+1) 65535=l[i+1] by rw[Acg,Acf en];rfl]
    (refine Ad<|AA Z Z<|Aa<|Ag<|AF Z (by omega)<|Al<|Ag<|Az<|Ad<|Ac Z<|A0 (sz:=1) (R:=A7) (by rfl) (by assumption) (by rfl) Z (by omega) ?_;rintro _ _ _ _ _ ⟨rfl,_,_⟩;refine Ai Z (Bp (by assumption) Z)<|Ac Z<|Ac Z<|Aa<|Ad<|Ac Z<|Aa<|Ag<|Ad<|Ac Z<|AY Z Z (by omega) (by omega)<|AQ<|Bv Z (by assumption)<|AA Z Z<|Aa<|AF Z (by omega)<|AI<|AQ<|Ac Z<|AY Z Z (by omega) (by omega)<|A0 (sz:=1) (R:=A7) (by rfl) (by assumption) (by rfl) Z (by omega) ?_;rintro _ _ _ _ _ ⟨rfl,_,_⟩;refine Ai Z (Bp (by assumption) Z)<|Ac Z<|Aa<|Ad<|Da (fun _ _=>Aa<|Ad<|Ac Z<|IY Z Z (by decide)<|Ed Z<|Ac Z<|Ed Z ?_));rename_i b11 T11;refine Oe 0 Z Z Z (by omega) ?_;refine Bg 0 (patch DS 0 [As (UInt8.ofNat (l[i+1] / 256 % 256).toNat)]) Z Z Z Z (by rw[EA];decide) Z Z ?_;have hl1:(patch DS 0 [As (UInt8.ofNat (l[i+1] / 256 % 256).toNat)]).length=256:=by rw[Ey (by rw[EA];simp)];exact EA
    refine Oe 1 Z Z Z (by omega) ?_;refine Bg 0 (patch (patch DS 0 [As (UInt8.ofNat (l[i+1] / 256 % 256).toNat)]) 1 [As (UInt8.ofNat (l[i+1] % 256).toNat)]) Z Z Z Z (by rw[hl1];decide) Z Z ?_;have hl2':(patch (patch DS 0 [As (UInt8.ofNat (l[i+1] / 256 % 256).toNat)]) 1 [As (UInt8.ofNat (l[i+1] % 256).toNat)]).length=256:=by rw[Ey (by rw[hl1];simp)];exact hl1
    refine Aa<|Ag<|BX [] (bx b11 T11 (patch (patch DS 0 [As (UInt8.ofNat (l[i+1] / 256 % 256).toNat)]) 1 [As (UInt8.ofNat (l[i+1] % 256).toNat)])::L') Z ?_;refine Pt 2 Z Z (by omega) ?_;refine AQ<|Ac Z<|UQ Z Z (by omega) (by omega)<|F6 (R:=AE) (sz:=1) (n:=i*254) Z hb' Z (by omega) him (fun w hw=>?_);refine Vi (i:=0) Z Z hw Z (by rw[hl2'];omega) ?_;have hpp:=NP (UInt8.ofNat (l[i+1] / 256 % 256).toNat) (UInt8.ofNat (l[i+1] % 256).toNat) (c:=BW b i) (by unfold BW;rw[Acs];omega);refine Aa<|AI<|Ah Z<|Ac Z<|Rw Z (by omega) ?_;have hpl:(DP l[i+1] (BW b i)).length=256:=by
     have:(BW b i).length≤254:=by unfold BW;rw[Acs];omega
     unfold DP;simp only[Acx,Aci,Adn];omega
    refine BA (join d' (bx b11 T11 (patch (patch (patch DS 0 [As (UInt8.ofNat (l[i+1] / 256 % 256).toNat)]) 1 [As (UInt8.ofNat (l[i+1] % 256).toNat)]) 2 ((BW b i).map As)))) L' Vs.freeze ?_;have hlj:Le d' (join d' (bx b11 T11 (patch (patch (patch DS 0 [As (UInt8.ofNat (l[i+1] / 256 % 256).toNat)]) 1 [As (UInt8.ofNat (l[i+1] % 256).toNat)]) 2 ((BW b i).map As)))):=Le.Au _ _;have hB:AH (join d' (bx b11 T11 (patch (patch (patch DS 0 [As (UInt8.ofNat (l[i+1] / 256 % 256).toNat)]) 1 [As (UInt8.ofNat (l[i+1] % 256).toNat)]) 2 ((BW b i).map As)))) (.slice (some ⟨b11,0,none⟩) 256 256) (DP l[i+1] (BW b i)):=
     An.rsl (R:=AE) (sz:=1) (An.XR (d:=d') hpp hpl.symm (Aeq (Nat.le_of_eq hpl) (by decide))) AP (by omega) (Le.Au _ _) (Le.AZ _ _)
    refine Cz (h3 (k:=l[i]) (hp'.mono hlj) hB) Z (fun u d5 L5 hl5 ⟨q1,hp5⟩=>?_);(refine Aa<|AI<|AY Z Z (by omega) (by omega)<|Ac Z<|Aa ?_);exact⟨i+1,by omega,⟨Z,Z,Z,Z,Z,Z,trivial⟩,(hle.trans hlj).trans hl5,e,by rw[hput];exact hp5⟩
   ·have hput:C8 t l b (i+1)=((C8 t l b i).put l[i] (DP (65535:Int) (BW b i))).1:=by
     rw[C8,show l.getD i 0=l[i] by rw[Acg,Acf e];rfl,show l.getD (i+1) 65535=(65535:Int) by rw[Acg,Adx (by omega)];rfl]
    (refine Ad<|AA Z Z<|Aa<|Ag<|AF Z (by omega)<|Al<|Ag<|Az<|Ad<|Ac Z<|A0 (sz:=1) (R:=A7) (by rfl) (by assumption) (by rfl) Z (by omega) ?_;rintro _ _ _ _ _ ⟨rfl,_,_⟩;refine Ai Z (Bp (by assumption) Z)<|Ac Z<|Ac Z<|Aa<|Ad<|Ac Z<|Aa<|Ag<|Ad<|Ac Z<|AY Z Z (by omega) (by omega)<|AQ<|Bv Z (by assumption)<|AA Z Z<|Aa<|Aw Z (by omega)<|Al<|Ad<|Da (fun _ _=>Aa<|Ad<|Ac Z<|IY Z Z (by decide)<|Ed Z<|Ac Z<|Ed Z ?_));rename_i b11 T11;refine Oe 0 Z Z Z (by omega) ?_;refine Bg 0 (patch DS 0 [As (UInt8.ofNat ((65535:Int) / 256 % 256).toNat)]) Z Z Z Z (by rw[EA];decide) Z Z ?_;have hl1:(patch DS 0 [As (UInt8.ofNat ((65535:Int) / 256 % 256).toNat)]).length=256:=by rw[Ey (by rw[EA];simp)];exact EA
    refine Oe 1 Z Z Z (by omega) ?_;refine Bg 0 (patch (patch DS 0 [As (UInt8.ofNat ((65535:Int) / 256 % 256).toNat)]) 1 [As (UInt8.ofNat ((65535:Int) % 256).toNat)]) Z Z Z Z (by rw[hl1];decide) Z Z ?_;have hl2':(patch (patch DS 0 [As (UInt8.ofNat ((65535:Int) / 256 % 256).toNat)]) 1 [As (UInt8.ofNat ((65535:Int) % 256).toNat)]).length=256:=by rw[Ey (by rw[hl1];simp)];exact hl1
    refine Aa<|Ag<|BX [] (bx b11 T11 (patch (patch DS 0 [As (UInt8.ofNat ((65535:Int) / 256 % 256).toNat)]) 1 [As (UInt8.ofNat ((65535:Int) % 256).toNat)])::L') Z ?_;refine Pt 2 Z Z (by omega) ?_;refine AQ<|Ac Z<|UQ Z Z (by omega) (by omega)<|F6 (R:=AE) (sz:=1) (n:=i*254) Z hb' Z (by omega) him (fun w hw=>?_);refine Vi (i:=0) Z Z hw Z (by rw[hl2'];omega) ?_;have hpp:=NP (UInt8.ofNat ((65535:Int) / 256 % 256).toNat) (UInt8.ofNat ((65535:Int) % 256).toNat) (c:=BW b i) (by unfold BW;rw[Acs];omega);refine Aa<|AI<|Ah Z<|Ac Z<|Rw Z (by omega) ?_;have hpl:(DP (65535:Int) (BW b i)).length=256:=by
     have:(BW b i).length≤254:=by unfold BW;rw[Acs];omega
     unfold DP;simp only[Acx,Aci,Adn];omega
    refine BA (join d' (bx b11 T11 (patch (patch (patch DS 0 [As (UInt8.ofNat ((65535:Int) / 256 % 256).toNat)]) 1 [As (UInt8.ofNat ((65535:Int) % 256).toNat)]) 2 ((BW b i).map As)))) L' Vs.freeze ?_;have hlj:Le d' (join d' (bx b11 T11 (patch (patch (patch DS 0 [As (UInt8.ofNat ((65535:Int) / 256 % 256).toNat)]) 1 [As (UInt8.ofNat ((65535:Int) % 256).toNat)]) 2 ((BW b i).map As)))):=Le.Au _ _;have hB:AH (join d' (bx b11 T11 (patch (patch (patch DS 0 [As (UInt8.ofNat ((65535:Int) / 256 % 256).toNat)]) 1 [As (UInt8.ofNat ((65535:Int) % 256).toNat)]) 2 ((BW b i).map As)))) (.slice (some ⟨b11,0,none⟩) 256 256) (DP (65535:Int) (BW b i)):=
     An.rsl (R:=AE) (sz:=1) (An.XR (d:=d') hpp hpl.symm (Aeq (Nat.le_of_eq hpl) (by decide))) AP (by omega) (Le.Au _ _) (Le.AZ _ _)
    refine Cz (h3 (k:=l[i]) (hp'.mono hlj) hB) Z (fun u d5 L5 hl5 ⟨q1,hp5⟩=>?_);(refine Aa<|AI<|AY Z Z (by omega) (by omega)<|Ac Z<|Aa ?_);exact⟨i+1,by omega,⟨Z,Z,Z,Z,Z,Z,trivial⟩,(hle.trans hlj).trans hl5,e,by rw[hput];exact hp5⟩
  ·have:i=l.length:=by omega
   subst this;have h0:0<l.length:=by omega
   have hg0:l.getD 0 0=l[0]:=by rw[Acg,Acf h0];rfl
   rw[hg0];(refine Ad<|AA Z Z<|Aa<|Ag<|Aw Z (by omega)<|Ba<|Ad<|AQ<|A0 (sz:=1) (R:=A7) (by rfl) (by assumption) (by rfl) Z (by omega) ?_;rintro _ _ _ _ _ ⟨rfl,_,_⟩;refine Ai Z (Bp (by assumption) Z)<|Ac Z<|Ac Z<|Aa<|Ao ?_);exact Cw Z Z (Acd _) ⟨hl2.trans hle,Z,hp'⟩
 ·have hF:B1 s b=((Bi s (AM b.length)).1,0,(Bi s (AM b.length)).2.2):=by unfold B1;simp only[hz,if_false]
  rw[hF];(refine AU Z<|Ap Z Z<|Ap Z Z<|AQ<|Ac Z<|Aa<|Ag<|Ad<|Ac Z<|AW Z Z<|Aa<|AF Z (by omega)<|Ad<|Ac Z<|Ac Z<|Ac Z<|Aa<|Ao ?_);exact Cw Z Z (Acd _) ⟨hl2,Z,hp2⟩
end
section
section
variable {P:Program}{pan:List PanicEntry→AL}{Qn:Env→AL}{Ls L:List Ab}{ρ:Env}{d:Ab}{s:GS}{t:Nat}{tk:Bool}
def or8{a b:Nat}(ha:a<256)(hb:b<256):IntKind.i64.wrap ((BitVec.ofInt 64 ((a*256:Nat):Int)|||BitVec.ofInt 64 (b:Int)).toNat:Int)=((a*256+b:Nat):Int):=by
 have h:(BitVec.ofInt 64 ((a*256:Nat):Int)|||BitVec.ofInt 64 (b:Int)).toNat=a*256+b:=by
  rw[BitVec.toNat_or,BitVec.toNat_ofInt,BitVec.toNat_ofInt];have e1:(((a*256:Nat):Int) % ((2 ^ 64:Nat):Int)).toNat=2 ^ 8*a:=by omega
  have e2:((b:Int) % ((2 ^ 64:Nat):Int)).toNat=b:=by omega
  rw[e1,e2,←Nat.two_pow_add_eq_or_of_lt (by omega)];omega
 rw[h,CM (by omega) (by omega)]
def Qq{x y}{a b:Nat}(ex:ev ρ x=vZ ((a*256:Nat):Int))(ey:ev ρ y=vZ (b:Int))(ha:a<256)(hb:b<256)(h:gws P pan Qn s Ls (upd ρ t (vZ ((a*256+b:Nat):Int))) d L):
  gws P pan Qn (.op tk ⟨some t,none,.bin .or x y⟩ s) Ls ρ d L:=by
 refine w_q Z (show CL .or (ev ρ x) (ev ρ y)=some (vZ ((a*256+b:Nat):Int)) from ?_) h
 rw[ex,ey]
 exact congrArg (fun z=>some (Value.int .i64 z)) (or8 ha hb)
end
attribute [local irreducible] gwp gws xwp
def Gu(b:Sec):Nat:=(b.getD 0 0).toNat*256+(b.getD 1 0).toNat
def hdF(s:PD)(h:Int):Nat→Int
 |0=>h
 |i+1=>(Gu (s.bytes (hdF s h i)):Nat)
def A6(s:PD)(k:Int):Prop:=s.kind k=1∨s.kind k=2
instance (s:PD) (k:Int):Decidable (A6 s k):=inferInstanceAs (Decidable (_∨_))
def MV{s}{k:Int}(h:A6 s k):s.HN k=0:=by
 unfold PD.HN;by_cases h1:s.kind k=1
 ·rw[if_pos h1]
 ·rw[if_neg h1,if_pos (h.resolve_left h1)]
def MB{s}{k:Int}(h:¬A6 s k):s.HN k=240∧s.bytes k=[]:=by
 unfold A6 at h;have h1:s.kind k≠1:=fun q=>h (.inl q);have h2:s.kind k≠2:=fun q=>h (.inr q);exact⟨by unfold PD.HN;rw[if_neg h1,if_neg h2],Uz h1 h2⟩
def _root_.Go.Gk.Pgr.E7.atT{P}(h:E7 P f){d s dv pv L}{k:Int}(hp:Pg d s dv pv L):
  AB P f [pv,vZ k] d L (Ret fun r d' L'=>∃a c tc,r=.tuple #[.slice a (s.bytes k).length c,vZ (s.HN k)]∧AH d' (.slice a (s.bytes k).length c) (s.bytes k)∧Pg d' {s with tc:=tc} dv pv L'∧tc=if A6 s k then s.tc+1 else s.tc):=by
 refine AB.EF (h (k:=k) hp) (fun r d' L' _ ⟨⟨q,q1,q2⟩,q3⟩=>⟨d',L',Vs.refl _ _,?_⟩)
 subst q1
 unfold PD.bytes PD.HN A6
 unfold PD.get at q2 q3⊢
 by_cases h1:s.kind k=1
 ·simp only[if_pos h1] at q2 q3⊢
  obtain⟨a,c,rfl⟩:=RSl.val q2
  exact⟨a,c,_,Z,q2,q3,(if_pos (.inl h1)).symm⟩
 ·by_cases h2:s.kind k=2
  ·simp only[if_neg h1,if_pos h2] at q2 q3⊢
   obtain⟨a,c,rfl⟩:=RSl.val q2
   exact⟨a,c,_,Z,q2,q3,(if_pos (.inr h2)).symm⟩
  ·simp only[if_neg h1,if_neg h2] at q2 q3⊢
   obtain rfl:q=nV:=q2
   exact⟨none,0,s.tc,Z,RSl.nil,q3,(if_neg (fun q=>q.elim h1 h2)).symm⟩
def SN(x:Ab)(A R:List Ab):(A++(x::R)).Perm (R++(x::A)):=List.perm_append_comm.trans List.perm_middle.symm
def RR(d x:Ab)(A R:List Ab):Vs d (R++(x::A)) d (A++R):=(Vs.perm (List.perm_middle.trans (Acr x Acn))).trans (Vs.drop (Ade _ _))
def Sr(x:Ab)(A R:List Ab):(R++(x::A)).Perm (x::(A++R)):=List.perm_middle.trans (Acr x Acn)
def Fj(a0 a1:Nat):G1:=(.mk 39 [] (.seq (.g (rG (ol 7 1<|oc 8 a0 [7]<|o1 9 (.mv z0) .done))) (.block 0 (.loop (.seq (.g (rG (ob 10 .lss 9 8 .done))) (.seq (.g (.cond 10 .skip (.exit 0))) (.seq (.block 1 (.seq (.g (rG (ol 12 2<|ol 13 3<|oc 14 a1 [12,13]<|om 11 14<|oe 15 11 0<|oe 16 11 1<|om 5 15<|om 6 16 .done))) (.seq (.seq (.g (rG (om 17 6<|ob 18 .neq 17 z0 .done))) (.cond 18 (.seq (.yl (om 19 0<|om 20 6<|o1 21 (.un .neg 20) .done) (some 22) 19 [21,nS] .done) (.g .ret)) (.g .skip))) (.seq (.seq (.yl (om 23 0<|ol 24 3<|om 25 5 .done) (some 26) 23 [24,25] (o1 27 (.un .not 26) .done)) (.g (.cond 27 .ret .skip))) (.g (.reg true (pm 28 5<|p1 29 (.idx 1 28 z0)<|pl 30 29<|p1 31 (.cvi .i64 30)<|p1 32 (.bin .shl 31 (.const (.int .u64 8)))<|pm 33 5<|p1 34 (.idx 1 33 z1)<|pl 35 34<|p1 36 (.cvi .i64 35)<|p1 37 (.bin .or 32 36) (.bar (o0 (.st 1 3 37) .done))))))))) (.g (rG (ob 38 .add 9 z1<|om 9 38 .done))))))))))
set_option maxRecDepth 4000 in
set_option maxHeartbeats 1000000 in
def VR{P f1 f2}(hd:Fm true false P f=some (Fj f1 f2))(h1:F8 P f1)(h2:E7 P f2){s dv pv LP}{bz bq bh l n:Nat}{Th}{h:Int}{rc:Loop}(J:Nat→Ab→List Ab→Prop)(Jf:Loop→Ab→List Ab→Prop){d E}
  (hp:Pg d s dv pv LP) (hz:DC d bz 0 (vZ n)) (hq:DC d bq 0 pv) (hn:n≤16384) (h0:J 0 d E) (hJm:∀{i:Nat}{d d' E},Le d d'→J i d E→J i d' E)
  (hlive:∀i,i<AM n→∀d1 E1 v,Le d d1→J i d1 E1→A6 s (hdF s h i)→AH d1 v (s.bytes (hdF s h i))→IM P l [vZ (hdF s h i),v] d1 (sg l (.loop rc)::E1)
   (fun u d' L'=>(u=.bool true∧∃E',L'=sg l (.loop rc)::E'∧J (i+1) d' E')∨(u=.bool false∧∃rc' E',L'=sg l (.loop rc')::E'∧Jf rc' d' E')))
  (hdead:∀i,i<AM n→∀d1 E1,Le d d1→J i d1 E1→¬A6 s (hdF s h i)→IM P l [vZ (-240),nV] d1 (sg l (.loop rc)::E1)
   (fun u d' L'=>u=.bool false∧∃rc' E',L'=sg l (.loop rc')::E'∧Jf rc' d' E')):
  AB P f [.func (.yield l) #[] #[],pZ bz,pZ bq,pZ bh] d (bx bh Th [vZ h]::(LP++(sg l (.loop rc)::E)))
   (Ret fun _ d' L'=>∃LP' E' rc' tc,L'=LP'++(sg l (.loop rc')::E')∧Pg d' {s with tc:=tc} dv pv LP'∧((rc'=rc∧tc=s.tc+AM n∧J (AM n) d' E')∨Jf rc' d' E')):=by
 obtain⟨bp,rfl⟩:=hp.ptr
 have hpn:AM n≤8192:=by unfold AM;omega
 refine EU hd (Aca Z) ?_
 show xwp P _ _ _ _ _
 (apply BD;apply x_g;apply AI;apply Ai;rfl;exact BH (by assumption))
 refine EP (A:=[]) (B:=bx bh Th [vZ h]::(LP++(sg l (.loop rc)::E))) Z Z (h1 (n:=n) (by omega)) (fun u d1 L1 _ ⟨e1,e2,e3⟩=>?_)
 subst e1;subst e2;subst e3
 rw[Adr]
 (refine Ac Z<|Aa ?_;apply Gd)
 refine Ow (α:=Nat) (fun i=>[(0,.func (.yield l) #[] #[]),(2,pZ bq),(3,pZ bh),(8,vZ (AM n)),(9,vZ i)])
  (fun i d' L'=>Le d1 d'∧i≤AM n∧∃LP' E' tc,L'=bx bh Th [vZ (hdF s h i)]::(LP'++(sg l (.loop rc)::E'))∧Pg d' {s with tc:=tc} dv (pZ bp) LP'∧tc=s.tc+i∧J i d' E')
  (fun i=>AM n - i) 0 ⟨Z,Z,Z,Z,Z,trivial⟩ ⟨Le.refl _,Adf _,LP,E,s.tc,Z,hp,Z,h0⟩ ?_
 rintro i ρ d' L' ⟨hle,hi,LP',E',tc,rfl,hp',htc,hJ⟩
 have hq':=hq.mono hle
 by_cases e:i<AM n
 ·(apply BD;apply x_g;apply AI;apply AA;rfl;rfl;apply Aa;apply BD;apply x_g;refine AF Z (by omega) ?_;apply Al;apply BD;apply Gd;apply BD;apply x_g;apply AI;apply Ai;rfl;exact BH (by assumption);apply Ai;rfl;exact Aq 0 Z Z)
  refine HG (h2.atT (k:=hdF s h i) hp') (Aeh [_] LP' _) Z (fun u d7 L7 hl7 ⟨qa,qc,tc',q1,q2,q3,q4⟩=>?_)
  rw[Ry,ZR] at q1
  rw[Ry] at q2
  subst q1
  refine⟨d7,(sg l (.loop rc)::E')++(bx bh Th [vZ (hdF s h i)]::L7),Vs.perm (SN _ _ _),?_⟩
  by_cases hlv:A6 s (hdF s h i)
  ·rw[MV hlv]
   (refine AU Z<|Ap Z Z<|Ap Z Z<|Ak Z<|Ac Z<|Aa ?_;apply BD;apply BD;apply x_g;refine AI<|Ac Z<|AW Z Z<|Aa ?_;apply Y3;rfl;apply x_g;apply Al;apply BD;apply BD;apply X9;apply Gv;rfl)
   refine Ai (v:=vZ (hdF s h i)) Z (Aq (T:=Th) (l:=[vZ (hdF s h i)]) (E'.length+1) (by simp[lk]) Z) ?_
   (refine Ak Z<|Aa ?_)
   refine OS _ _ Z Z Z (hlive i e d7 E' _ (hle.trans hl7) (hJm hl7 hJ) hlv q2) (fun u d8 L8 hl8 hr8=>?_)
   rcases hr8 with ⟨rfl,E8,rfl,hJ8⟩|⟨rfl,rc8,E8,rfl,hJ8⟩
   ·refine BA d8 (bx bh Th [vZ (hdF s h i)]::(L7++(sg l (.loop rc)::E8))) (Vs.perm (Sr _ _ _)) ?_
    have hfl:(s.bytes (hdF s h i)).length=256:=hp.full hlv
    have q8:AH d8 (.slice qa (s.bytes (hdF s h i)).length qc) (s.bytes (hdF s h i)):=RSl.mono (R:=AE) AP q2 hl8
    have g0:(s.bytes (hdF s h i)).getD 0 0=(s.bytes (hdF s h i))[0]:=by rw[Acg,Acf (by omega)];rfl
    have g1:(s.bytes (hdF s h i)).getD 1 0=(s.bytes (hdF s h i))[1]:=by rw[Acg,Acf (by omega)];rfl
    have l0:=UInt8.toNat_lt (s.bytes (hdF s h i))[0]
    have l1:=UInt8.toNat_lt (s.bytes (hdF s h i))[1]
    have hnx:hdF s h (i+1)=(((s.bytes (hdF s h i))[0].toNat*256+(s.bytes (hdF s h i))[1].toNat:Nat):Int):=by rw[hdF,Gu,g0,g1]
    (refine Bd Z<|Aa ?_;apply x_g;refine AS Z<|Al ?_;apply x_g;refine C1<|Ak Z<|A0 (m:=0) (sz:=1) (R:=AE) (by rfl) (by assumption) (by rfl) Z (by omega) ?_;rintro _ _ _ _ _ rfl;refine Ai Z (Bp (by assumption) Z)<|DR Z (by omega) (by omega) ?_)
    refine RS (a:=(s.bytes (hdF s h i))[0].toNat) Z Z (by omega) ?_
    (refine Ak Z<|A0 (m:=1) (sz:=1) (R:=AE) (by rfl) (by assumption) (by rfl) Z (by omega) ?_;rintro _ _ _ _ _ rfl;refine Ai Z (Bp (by assumption) Z)<|DR Z (by omega) (by omega) ?_)
    refine Qq (a:=(s.bytes (hdF s h i))[0].toNat) (b:=(s.bytes (hdF s h i))[1].toNat) Z Z l0 l1 ?_
    (apply Du)
    refine Bg 0 [vZ (((s.bytes (hdF s h i))[0].toNat*256+(s.bytes (hdF s h i))[1].toNat:Nat):Int)] Z Z Z Z (Acj _) Z Z ?_
    (apply Aa;apply x_g;refine AI<|AY Z Z (by omega) (by omega)<|Ac Z<|Aa ?_)
    exact⟨i+1,by omega,⟨Z,Z,Z,Z,Z,trivial⟩,(hle.trans hl7).trans hl8,e,L7,E8,tc',by rw[hnx];exact congrArg (List.cons _) (Adm _),q3.mono hl8,by have q4':tc'=tc+1:=q4.trans (if_pos hlv);omega,hJ8⟩
   ·(refine Bd Z<|Aa ?_;apply x_g;refine A8 Z<|Ao ?_)
    exact A9 [] trivial (d':=d8) (L':=L7++(sg l (.loop rc8)::E8)) (RR _ _ _ _) ⟨L7,E8,rc8,_,Z,q3.mono hl8,.inr hJ8⟩
  ·obtain⟨x1,x2⟩:=MB hlv
   rw[x1]
   (refine AU Z<|Ap Z Z<|Ap Z Z<|Ak Z<|Ac Z<|Aa ?_;apply BD;apply BD;apply x_g;refine AI<|Ac Z<|AW Z Z<|Aa ?_;apply Abf;rfl;apply BD;apply X9;refine Gv Z<|Ac Z<|YS Z (by omega) (by omega)<|Aa ?_)
   refine OS _ _ Z Z Z (hdead i e d7 E' (hle.trans hl7) (hJm hl7 hJ) hlv) (fun u d8 L8 hl8 hr8=>?_)
   obtain⟨rfl,rc8,E8,rfl,hJ8⟩:=hr8
   (apply Aa;apply x_g;apply Ao)
   exact A9 [] trivial (d':=d8) (L':=L7++(sg l (.loop rc8)::E8)) (RR _ _ _ _) ⟨L7,E8,rc8,_,Z,q3.mono hl8,.inr hJ8⟩
 ·have:i=AM n:=by omega
  subst this
  (apply BD;apply x_g;apply AI;apply AA;rfl;rfl;apply Aa;apply BD;apply x_g;refine Aw Z (by omega) ?_;apply Ba)
  exact Dr [] trivial (Ade _ _) ⟨LP',E',rc,tc,Z,hp',.inl ⟨Z,htc,hJ⟩⟩
def Hj(a0:Nat):G1:=(.mk 8 [(.tmp 6)] (.g (sR (o1 3 (.box 0)<|o1 4 (.box 1)<|o1 5 (.box 2)<|o1 6 (.mv (.const .nilFunc)) .done) (sR (o1 7 (.mkf (.func a0) [] [5,3,4])<|om 6 7 .done) .ret))))
def Yn{P f1}(hd:Fm true false P f=some (Hj f1)){d}{b:Nat}{h n:Int}:AB P f [pZ b,vZ h,vZ n] d [] (Ret fun r d' L'=>∃bz bq bh Th,r=.func (.func f1) #[] #[pZ bz,pZ bq,pZ bh]∧
  DC d' bz 0 (vZ n)∧DC d' bq 0 (pZ b)∧L'=[bx bh Th [vZ h]]):=by
 refine EU hd (Aca Z) ?_
 show xwp P _ _ _ _ _
 (apply x_g;apply Ag;apply AI)
 refine GJ Z (fun bq Tq=>?_)
 refine GJ Z (fun bh Th=>?_)
 refine GJ Z (fun bz Tz=>?_)
 (refine AQ<|Aa<|Ad<|Ub<|Gv Z<|Aa<|Ao ?_)
 exact A9 [.func (.func f1) #[] #[pZ bz,pZ bq,pZ bh]] ⟨Z,trivial⟩ (d':=join (join d (bx bz Tz [vZ n])) (bx bq Tq [pZ b])) (L':=[bx bh Th [vZ h]])
  ((Vs.perm (Acr _ (Adb _ _ _))).trans (Vs.freeze.trans Vs.freeze)) ⟨bz,bq,bh,Th,Z,(Le.dcs ((Le.AZ _ _).trans (Le.Au _ _))).at (i:=0) Z,(Le.dcs (Le.AZ _ _)).at (i:=0) Z,Z⟩
end
end Go.Gk.Chn
end
section
namespace Go.Gk.Chn
open Go Go.Gk Go.Gk.Dev Go.Gk.Cch Go.Gk.Pgr Go.Gk.Node
attribute [local irreducible] gwp gws xwp
variable{f f1:FuncId}
def CA(s:PD)(size n:Nat)(k:Int)(l:List Int)(out:List UInt8):Nat→List Int×List UInt8×Int
 |0=>(l,out,0)
 |m+1=>
  if A6 s k then
   if (Gu (s.bytes k)=65535)=(l.length+1=n) then
    if ((s.bytes k).drop (2+min 254 (size - out.length))).all (·==0) then
     CA s size n (Gu (s.bytes k):Nat) (l++[k]) (out++((s.bytes k).drop 2).take (min 254 (size - out.length))) m
    else([],[],200)
   else([],[],200)
  else([],[],240)
def Bq(s:PD)(k:Int)(size:Int):List Int×List UInt8×Int:=if 0≤size∧size≤16384 then CA s size.toNat (AM size.toNat) k [] [] (AM size.toNat) else([],[],2)
def RJ(s:PD)(n:Nat)(k:Int)(b5 b6 b7 b8 b9 b10:Nat)(T5 T6 T7 T8 T9 T10:TypeId)(i:Nat)(d:Ab)(E:List Ab):Prop:=∃l out la lc oa oc hl ho,
 E=[bx b10 T10 [.slice oa (List.length (α:=UInt8) out) oc],bx b9 T9 [.slice la (List.length (α:=Int) l) lc],bx b8 T8 [vZ 0],bx b7 T7 [nV],bx b6 T6 [nV],bx b5 T5 [vZ n],ho,hl]∧
 An 1 A7 d (.slice la l.length lc) l hl∧An 1 AE d (.slice oa out.length oc) out ho∧l.length=i∧out.length≤n∧CA s n (AM n) k [] [] (AM n)=CA s n (AM n) (hdF s k i) l out (AM n - i)
def RF(rc:Loop)(s:PD)(n:Nat)(k:Int)(b6 b7 b8:Nat)(T6 T7 T8:TypeId)(rc':Loop)(_:Ab)(E:List Ab):Prop:=
 rc'={rc with state:=.done,pending:=some .ret}∧∃e x y R,CA s n (AM n) k [] [] (AM n)=([],[],e)∧e≠0∧E=x::y::bx b8 T8 [vZ e]::bx b7 T7 [nV]::bx b6 T6 [nV]::R
def Lg(P:Program)(f:FuncId):Prop:=∀{d s dv pv L}{k size:Int},Pg d s dv pv L→
 AB P f [pv,vZ k,vZ size] d L (Ret fun r d' L'=>Le d d'∧∃v w tc,r=.tuple #[v,w,vZ (Bq s k size).2.2]∧Dt d' v (Bq s k size).1∧AH d' w (Bq s k size).2.1∧Pg d' {s with tc:=tc} dv pv L'∧((Bq s k size).2.2=0→tc=s.tc+AM size.toNat))
def WS{a m N:Nat}(h:(a=65535)=(m=N)):(true ^^(decide ((a:Int)=65535)==decide ((m:Int)=(N:Int))))=false:=by
 rw[show decide ((a:Int)=65535)=decide (a=65535) from decide_eq_decide.2 (by omega),show decide ((m:Int)=(N:Int))=decide (m=N) from decide_eq_decide.2 (by omega),show decide (a=65535)=decide (m=N) from decide_eq_decide.2 (by rw[h])];simp
def WA{a m N:Nat}(h:¬((a=65535)=(m=N))):(true ^^(decide ((a:Int)=65535)==decide ((m:Int)=(N:Int))))=true:=by
 rw[show decide ((a:Int)=65535)=decide (a=65535) from decide_eq_decide.2 (by omega),show decide ((m:Int)=(N:Int))=decide (m=N) from decide_eq_decide.2 (by omega)];have:decide (a=65535)≠decide (m=N):=fun e=>h (propext (decide_eq_decide.1 e));simp[this]
def Wm(g h:Ab)(E L:List Ab):(g::([h]++(E++L))).Perm (h::(L++(g::E))):=
 (Adb h g (E++L)).trans (Acr h ((Acr g Acn).trans List.perm_middle.symm))
def ZC(d a b c x y z o h:Ab)(L:List Ab):Vs d (a::b::c::x::y::z::o::h::L) (join (join d o) h) L:=
 (Vs.drop (.cons _ (.cons _ (.cons _ (.cons _ (.cons _ (.cons _ (Acd _)))))))).trans (Vs.freeze.trans Vs.freeze)
def MN(P:Program)(f:FuncId):Prop:=∃f1 f2 f3,Fm true false P f=some (Hj f1)∧Fm true false P f1=some (Fj f2 f3)∧F8 P f2∧E7 P f3
def Yq(P:Program)(f:FuncId):Prop:=∃f2 f3,Fm true false P f=some (Fj f2 f3)∧F8 P f2∧E7 P f3
def AbF{P f2 f3}(hd:Fm true false P f=some (Fj f2 f3))(h1:F8 P f2)(h2:E7 P f3):Yq P f:=⟨f2,f3,hd,h1,h2⟩
def Vg{P}(hd:Fm true false P f=some (Hj f1))(h:Yq P f1):MN P f:=let ⟨f2,f3,h1,h2,h3⟩:=h;⟨f1,f2,f3,hd,h1,h2,h3⟩
def RM(a0 a1:Nat):G1:=(.mk 80 [(.cell 6 none),(.cell 7 none),(.cell 8 none)] (.seq (.g (rG (o1 5 (.box 2)<|o1 6 (.alo nV)<|o1 7 (.alo nV)<|o1 8 (.alo (vZ 0)) .done))) (.seq (.g (sR (ol 17 5<|ob 18 .lss 17 z0<|om 19 18<|oF 20 19 (.ld none 5)<|oF 21 19 (.bin .gtr 20 (kZ 16384))<|o1 22 (.pick 19 (.const (.bool true)) 21) .done) (.cond 22 (sR (o0 (.st 1 6 nS)<|o0 (.st 1 7 nS)<|o0 (.st 1 8 z2) .done) .ret) .skip))) (.seq (.g (rG (o1 9 (.alo nV) .done))) (.seq (.g (rG (o1 10 (.alo nV) .done))) (.seq (.seq (.g (rG (om 23 0<|om 24 1<|ol 25 5<|oc 26 a0 [23,24,25] .done))) (.block 0 (.rf 26 [27,28] (sR (om 11 27 .done) (rG (om 12 28 .done))) (.block 1 (.seq (sR (om 29 12<|o1 30 (.eqs false 29 nS) .done) (.cond 30 (sR (om 31 11<|o1 32 (.un .neg 31)<|o0 (.st 1 6 nS)<|o0 (.st 1 7 nS)<|o0 (.st 1 8 32) .done) .ret) .skip)) (sR (ol 33 9<|om 34 11<|o1 35 (.bsl 1 1 [(vZ 0)] [(0,34)])<|o1 36 (.app 1 8 [(vZ 0)] 33 35)<|o0 (.st 1 9 36) .done) (.seq (.reg true (pm 37 12<|p1 38 (.idx 1 37 z0)<|pl 39 38<|p1 40 (.cvi .i64 39)<|p1 41 (.bin .shl 40 (.const (.int .u64 8)))<|pm 42 12<|p1 43 (.idx 1 42 z1)<|pl 44 43<|p1 45 (.cvi .i64 44)<|p1 46 (.bin .or 41 45) (.bar (pm 13 46 .done)))) (.seq (.seq (.reg true (pm 47 13<|p1 48 (.bin .eql 47 (kZ 65535))<|pl 49 9<|p1 50 (.len 49)<|pl 51 5<|oc 52 a1 [51]<|p1 53 (.bin .eql 50 52)<|p1 54 (.eqb true 48 53) .done)) (.cond 54 (sR (o0 (.st 1 6 nS)<|o0 (.st 1 7 nS)<|o0 (.st 1 8 (kZ 200)) .done) .ret) .skip)) (sR (ol 55 5<|ol 56 10<|oL 57 56<|ob 58 .sub 55 57<|o1 59 (.mn2 (kZ 254) 58)<|om 14 59 .done) (.seq (sR (om 60 12<|om 61 14<|ob 62 .add z2 61<|o1 63 (.sl 1 60 (some 62) none none)<|oL 64 63<|o1 65 (.mv z0) .done) (.block 2 (.loop (sR (ob 66 .lss 65 64 .done) (.seq (.cond 66 .skip (.exit 2)) (.seq (.block 3 (sR (oI 67 1 63 65<|ol 68 67<|om 16 68 .done) (sR (om 69 16<|ob 70 .neq 69 (.const (.int .u8 0)) .done) (.cond 70 (sR (o0 (.st 1 6 nS)<|o0 (.st 1 7 nS)<|o0 (.st 1 8 (kZ 200)) .done) .ret) .skip)))) (rG (ob 71 .add 65 z1<|om 65 71 .done)))))))) (.reg true (pm 73 12<|pm 74 14<|p1 75 (.bin .add z2 74)<|p1 76 (.sl 1 73 (some z2) (some 75) none)<|ol 72 10<|o1 77 (.app 1 1 [(.int .u8 0)] 72 76) (.bar (o0 (.st 1 10 77) .done)))))))))))))) (.g (.seq (.reg true (pl 78 9<|pl 79 10<|o0 (.st 1 6 78)<|o0 (.st 1 7 79)<|o0 (.st 1 8 z0) .done)) .ret))))))))
set_option maxRecDepth 4000 in
set_option maxHeartbeats 2000000 in
def Yx{P f2}(hd:Fm false false P f=some (RM f1 f2))(h1:MN P f1)(h2:F8 P f2):Lg P f:=by
 obtain⟨f3,f4,f5,g1,g2,g3,g4⟩:=h1;intro d s dv pv L k size hp;obtain⟨bp,rfl⟩:=hp.ptr;refine EU hd (Aca Z) ?_;show xwp P _ _ _ _ _;(apply BD;apply x_g;apply AI);refine GJ Z (fun b5 T5=>?_);refine Dj (fun b6 T6=>?_);refine Dj (fun b7 T7=>?_);refine Dj (fun b8 T8=>?_);refine Gi ⟨d,bx b8 T8 [vZ 0]::bx b7 T7 [nV]::bx b6 T6 [nV]::bx b5 T5 [vZ size]::L,Vs.refl _ _,?_⟩;by_cases hsz:0≤size∧size≤16384
 ·obtain⟨n,rfl⟩:∃n:Nat,size=n:=⟨size.toNat,by omega⟩
  have hn:n≤16384:=by omega
  have hF:Bq s k n=CA s n (AM n) k [] [] (AM n):=by unfold Bq;rw[if_pos hsz];rfl
  rw[hF];(apply BD;apply x_g;apply Ag;apply AI;apply Ai;rfl;exact Aq 3 Z Z;apply AA;rfl;rfl;apply Af;rfl;refine A1 Z (by omega) ?_;apply Ae;rfl;apply Ai;rfl;exact Aq 3 Z Z;apply Ae;rfl;apply Bb;rfl;rfl;apply Av;rfl;rfl;apply Aa;refine Aw Z (by omega) ?_;apply Al;apply BD;apply x_g;apply AI;apply Dj;intro _ _;apply Aa;apply BD;apply x_g;apply AI;apply Dj;intro _ _;apply Aa;apply BD;apply BD;apply x_g;apply AI;apply Ah;rfl;apply Ac;rfl;apply Ai;rfl;exact Aq 5 Z Z);rename_i b9 T9 b10 T10;refine BA d (bx b10 T10 [nV]::bx b9 T9 [nV]::bx b8 T8 [vZ 0]::bx b7 T7 [nV]::bx b6 T6 [nV]::bx b5 T5 [vZ n]::emp::emp::L)
   ((Vs.emp.trans Vs.emp).trans (Vs.perm (Aeh [emp,emp] [_,_,_,_,_,_] L))) ?_
  refine EP (A:=[]) (B:=bx b10 T10 [nV]::bx b9 T9 [nV]::bx b8 T8 [vZ 0]::bx b7 T7 [nV]::bx b6 T6 [nV]::bx b5 T5 [vZ n]::emp::emp::L) Z Z (Yn g1 (h:=k) (n:=n)) (fun u d1 L1 hl1 ⟨bz,bq,bh,Th,e1,hz,hq,e2⟩=>?_);subst e1;subst e2;(apply Aa;apply Gd);refine Aa7 Z (fun l rc hrec hst hpd=>?_);refine AB.reorder (L1:=bx bh Th [vZ k]::(L++(sg l (.loop rc)::[bx b10 T10 [nV],bx b9 T9 [nV],bx b8 T8 [vZ 0],bx b7 T7 [nV],bx b6 T6 [nV],bx b5 T5 [vZ n],emp,emp]))) ?_ (AB.EF
   (VR g2 g3 g4 (rc:=rc) (l:=l) (RJ s n k b5 b6 b7 b8 b9 b10 T5 T6 T7 T8 T9 T10) (RF rc s n k b6 b7 b8 T6 T7 T8) (hp.mono hl1) hz hq hn ?_ ?_ ?_ ?_) ?_)
  ·exact Wm _ _ [_,_,_,_,_,_,_,_] L
  ·exact⟨[],[],none,0,none,0,emp,emp,Z,An.nil,An.nil,Z,Adf _,Z⟩
  ·rintro i d2 d3 E hle ⟨l1,o1,la,lc,oa,oc,hl,ho,q1,q2,q3,q4,q5,q6⟩;exact⟨l1,o1,la,lc,oa,oc,hl,ho,q1,An.mono (R:=A7) BE q2 hle,An.mono (R:=AE) AP q3 hle,q4,q5,q6⟩
  ·rintro i hi d2 E2 v hle ⟨l1,o1,la,lc,oa,oc,hl,ho,rfl,q2,q3,q4,q5,q6⟩ hlv hv;refine K5 hrec hst Z ?_;have hfl:(s.bytes (hdF s k i)).length=256:=hp.full hlv;have hv0:=hv;obtain⟨va,vc,vb,vo,rfl,w2, -, -, -, -, -,w8⟩:=hv;obtain rfl:va=some ⟨vb,vo,none⟩:=w2 (by omega);have dd0:DCs d2 vb (vo+0*1) [As (s.bytes (hdF s k i))[0]]:=by
    obtain⟨cs,c1,c2,c3⟩:=w8 0 (by omega);rw[show cs=[As (s.bytes (hdF s k i))[0]] from c3] at c2;exact c2
   have dd1:DCs d2 vb (vo+1*1) [As (s.bytes (hdF s k i))[1]]:=by
    obtain⟨cs,c1,c2,c3⟩:=w8 1 (by omega);rw[show cs=[As (s.bytes (hdF s k i))[1]] from c3] at c2;exact c2
   have hkr:0≤hdF s k i∧hdF s k i≤16384:=by
    have:=hp.GL.inn;have:=hp.GL.syn;rcases hlv with q|q<;>(obtain⟨j,j1,j2, -, -⟩:=Cu q (by omega);omega)
   have q4':=q4;have hpn:AM n≤8192:=by unfold AM;omega
   refine Ad<|Ac Z<|Aa<|AI<|Ak Z<|Aa<|Az<|Ag<|Ad<|Ak Z<|Kk Z Z<|Aa<|AS Z<|Al<|Ad<|Ai Z (Aq 1 Z Z)<|Ac Z<|Db (v0:=vZ (hdF s k i)) Z Z (fun b3 T3=>?_);refine Ep (R:=A7) 7 Z Z q2 Z (An.D7 (x:=hdF s k i) Z ⟨Z,by omega,by omega⟩) D2 (by omega) (by simp;omega) (by simp;omega) (fun v' h' ho'=>?_);obtain⟨la',lc',rfl⟩:=ho'.val;refine Bg 1 [.slice la' (l1++[hdF s k i]).length lc'] Z Z Z Z (Acj _) Z Z ?_;have g0:(s.bytes (hdF s k i)).getD 0 0=(s.bytes (hdF s k i))[0]:=by rw[Acg,Acf (by omega)];rfl
   have g1':(s.bytes (hdF s k i)).getD 1 0=(s.bytes (hdF s k i))[1]:=by rw[Acg,Acf (by omega)];rfl
   have l0:=UInt8.toNat_lt (s.bytes (hdF s k i))[0];have l1':=UInt8.toNat_lt (s.bytes (hdF s k i))[1];have hlk:Gu (s.bytes (hdF s k i))=(s.bytes (hdF s k i))[0].toNat*256+(s.bytes (hdF s k i))[1].toNat:=by rw[Gu,g0,g1']
   refine Aa<|Ag<|C1<|Ak Z<|Cc 0 Z Z Z (by omega) (by assumption)<|Ai Z (Bf (by assumption) Z)<|DR Z (by omega) (by omega)<|RS (a:=(s.bytes (hdF s k i))[0].toNat) Z Z (by omega) ?_;(refine Ak Z<|A0 (m:=1) (sz:=1) (R:=AE) (by rfl) (by assumption) (by rfl) Z (by omega) ?_;rintro _ _ _ _ _ rfl;refine Ai Z (Bp (by assumption) Z)<|DR Z (by omega) (by omega) ?_);refine Qq (a:=(s.bytes (hdF s k i))[0].toNat) (b:=(s.bytes (hdF s k i))[1].toNat) Z Z l0 l1' ?_;rw[←hlk];refine Du<|Ac Z<|Aa<|Ag<|Ag<|C1<|Ac Z<|AT Z Z<|Ai Z (Aq 1 Z Z)<|AO Z<|Ai Z (Aq 5 Z Z)<|CF Z (h2 (n:=n) (by omega)) (fun u d3 L3 _ ⟨e1,e2,e3⟩=>?_);subst e1;subst e2;subst e3;rw[Adr];have hl1':(l1++[hdF s k i]).length=l1.length+1:=by simp
   have hst':AM n - i=(AM n - (i+1))+1:=by omega
   (refine AT Z Z<|Oq Z Z<|By ?_);by_cases hh:(Gu (s.bytes (hdF s k i))=65535)=(l1.length+1=AM n)
   ·refine AS (congrArg Value.bool (WS (by rw[hl1'];exact hh))) ?_;have ht2:2+min 254 (n - o1.length)≤(s.bytes (hdF s k i)).length:=by omega
    refine Al<|Ad<|Ai Z (Aq 5 Z Z)<|Ai Z (Aq 0 Z Z)<|AO Z<|CP Z Z (by omega) (by omega)<|Abg Z Z<|Ac Z<|Aa<|Ag<|Ad<|Ak Z<|Ac Z<|AY Z Z (by omega) (by omega)<|F6 (R:=AE) (sz:=1) (n:=2+min 254 (n - o1.length)) Z hv0 Z (by omega) ht2 (fun vz hvz=>?_);obtain⟨zs,hzs⟩:∃zs,zs=(s.bytes (hdF s k i)).drop (2+min 254 (n - o1.length)):=⟨_,Z⟩
    rw[←hzs] at hvz;have hzl:=hvz.Bt;refine Bv Z (by assumption)<|Ac Z<|Aa<|Az<|DO (α:=Nat) (fun j=>[(6,pZ b6),(7,pZ b7),(8,pZ b8),(10,pZ b10),(12,.slice (some ⟨vb,vo,none⟩) (s.bytes (hdF s k i)).length vc),(14,vZ ((min 254 (n - o1.length):Nat):Int)),(63,vz),(64,vZ zs.length),(65,vZ j)])
     (fun _=>[bx b10 T10 [.slice oa o1.length oc],bx b9 T9 [.slice la' (l1++[hdF s k i]).length lc'],bx b8 T8 [vZ 0],bx b7 T7 [nV],bx b6 T6 [nV],bx b5 T5 [vZ n],ho,h'])
     (fun j=>j≤zs.length∧(zs.take j).all (·==0)=true) (fun j=>zs.length - j) 0 ⟨Z,Z,Z,Z,Z,by show Value.int _ _=Value.int _ _;congr 1;omega,Z,Z,Z,trivial⟩ Z ⟨Adf _,Z⟩ ?_
    rintro j ρ ⟨hj,hja⟩;by_cases ej:j<zs.length
    ·have hjn:(zs.take (j+1)).all (·==0)=((zs.take j).all (·==0)&&(zs[j]==0)):=by rw[Acp ej,List.all_append];simp
     by_cases hz0:zs[j]=0
     ·have hz1:zs[j].toNat=0:=by rw[hz0];rfl
      (refine Ad<|AA Z Z<|Aa<|Ag<|AF Z (by omega)<|Al<|Ag<|Az<|Ad<|A0 (sz:=1) (R:=AE) (by rfl) (by assumption) (by rfl) Z (by omega) ?_;rintro _ _ _ _ _ rfl;refine Ai Z (Bp (by assumption) Z)<|Ac Z<|Aa<|Ad<|Ac Z<|AW Z Z<|Aa<|Aw Z (by omega)<|Al<|AI<|AY Z Z (by omega) (by omega)<|Ac Z<|Aa ?_);exact⟨j+1,by omega,⟨Z,Z,Z,Z,Z,Z,Z,Z,Z,trivial⟩,Z,Z,ej,by rw[hjn,hja,hz0];rfl⟩
     ·have hz1:zs[j].toNat≠0:=fun q=>hz0 (UInt8.toNat_inj.1 q);have hrd:CA s n (AM n) k [] [] (AM n)=([],[],200):=by
       rw[q6,hst',CA,if_pos hlv,if_pos hh,if_neg];rw[←hzs];intro hall;exact hz0 (by simpa using Acv.1 hall _ (Acz ej))
      (refine Ad<|AA Z Z<|Aa<|Ag<|AF Z (by omega)<|Al<|Ag<|Az<|Ad<|A0 (sz:=1) (R:=AE) (by rfl) (by assumption) (by rfl) Z (by omega) ?_;rintro _ _ _ _ _ rfl;refine Ai Z (Bp (by assumption) Z)<|Ac Z<|Aa<|Ad<|Ac Z<|AW Z Z<|Aa<|AF Z (by omega)<|Ad ?_);refine Bg 4 [nV] Z Z Z Z (Acj _) Z Z ?_;refine Bg 3 [nV] Z Z Z Z (Acj _) Z Z ?_;refine Bg 2 [vZ 200] Z Z Z Z (Acj _) Z Z ?_;(refine Aa<|Ao ?_);exact Or.inr ⟨Z,_,_,Z,Z,200,_,_,_,hrd,(by decide),Z⟩
    ·have:j=zs.length:=by omega
     subst this;rw[Aec,hzs] at hja;have hstep:CA s n (AM n) k [] [] (AM n)=CA s n (AM n) (hdF s k (i+1)) (l1++[hdF s k i]) (o1++((s.bytes (hdF s k i)).drop 2).take (min 254 (n - o1.length))) (AM n - (i+1)):=by
      rw[q6,hst',CA,if_pos hlv,if_pos hh,if_pos hja];rfl
     have htl:(((s.bytes (hdF s k i)).drop 2).take (min 254 (n - o1.length))).length=min 254 (n - o1.length):=by rw[Acs,List.length_drop];omega
     (refine Ad<|AA Z Z<|Aa<|Ag<|Aw Z (by omega)<|Ba ?_);show gwp P _ _ _ _ _;skip;refine BX [] [bx b10 T10 [.slice oa o1.length oc],bx b9 T9 [.slice la' (l1++[hdF s k i]).length lc'],bx b8 T8 [vZ 0],bx b7 T7 [nV],bx b6 T6 [nV],bx b5 T5 [vZ n],ho,h'] Z ?_;refine Ak Z<|Ac Z<|AY Z Z (by omega) (by omega)<|ZD (R:=AE) (sz:=1) (n:=2) (m:=2+min 254 (n - o1.length)) Z hv0 Z Z Z (by omega) (by omega) ht2 (fun vm hvm=>?_);rw[Nat.add_sub_cancel_left] at hvm;(apply Ai;rfl;exact Aq 0 Z Z);refine I1 (R:=AE) 6 Z Z q3 Z (RSl.src hvm EX (by omega) _) (by omega) (by rw[htl];omega) (by rw[htl];omega) (fun v'' h'' ho''=>?_);obtain⟨oa',oc',rfl⟩:=ho''.val;(apply Du);refine Bg 0 [.slice oa' (o1++((s.bytes (hdF s k i)).drop 2).take (min 254 (n - o1.length))).length oc'] Z Z Z Z (Acj _) Z Z ?_;(apply Aa);exact Or.inl ⟨Z,[bx b10 T10 [.slice oa' (o1++((s.bytes (hdF s k i)).drop 2).take (min 254 (n - o1.length))).length oc'],bx b9 T9 [.slice la' (l1++[hdF s k i]).length lc'],bx b8 T8 [vZ 0],bx b7 T7 [nV],bx b6 T6 [nV],bx b5 T5 [vZ n],h'',h'],by rw[S4 hst hpd];rfl,l1++[hdF s k i],_,la',lc',oa',oc',h',h'',Z,ho',ho'',by rw[hl1',q4],by rw[Aci,htl];omega,hstep⟩
   ·have hrd:CA s n (AM n) k [] [] (AM n)=([],[],200):=by rw[q6,hst',CA,if_pos hlv,if_neg hh]
    refine A8 (congrArg Value.bool (WA (by rw[hl1'];exact hh))) ?_;refine Ad<|Bg 4 [nV] Z Z Z Z (Acj _) Z Z ?_;refine Bg 3 [nV] Z Z Z Z (Acj _) Z Z ?_;refine Bg 2 [vZ 200] Z Z Z Z (Acj _) Z Z ?_;(refine Aa<|Ao ?_);exact Or.inr ⟨Z,_,_,Z,Z,200,_,_,_,hrd,(by decide),Z⟩
  ·rintro i hi d2 E2 hle ⟨l1,o1,la,lc,oa,oc,hl,ho,rfl,q2,q3,q4,q5,q6⟩ hlv;refine K5 hrec hst Z ?_;have hrd:CA s n (AM n) k [] [] (AM n)=([],[],240):=by
    rw[q6,show AM n - i=(AM n - (i+1))+1 by omega,CA,if_neg hlv]
   refine Ad<|Ac Z<|Aa<|AI<|Ak Z<|Aa<|Az<|Ag<|Ad<|Ak Z<|NT Z Z<|Aa<|A8 Z<|Ad<|Ac Z<|YS Z (by omega) (by omega)<|Bg 4 [nV] Z Z Z Z (Acj _) Z Z ?_;refine Bg 3 [nV] Z Z Z Z (Acj _) Z Z ?_;refine Bg 2 [vZ 240] Z Z Z Z (Acj _) Z Z ?_;(refine Aa<|Ao ?_);exact⟨Z,_,_,Z,Z,240,_,_,_,hrd,(by decide),Z⟩
  ·rintro u d3 L3 hl3 ⟨LP',E',rc',tc,rfl,hp3,h⟩;refine⟨d3,sg l (.loop rc')::(E'++LP'),Vs.perm Acn,rc',_,Z,?_⟩
   rcases h with ⟨rfl,htc,l1,o1,la,lc,oa,oc,hl,ho,rfl,q2,q3,q4,q5,q6⟩|⟨rfl,e,x,y,R,hrd,hne,rfl⟩
   ·refine⟨(by rw[hst];intro q;cases q),?_⟩
    rw[hpd];have hll:=q2.Bt;rw[Ahb,CA] at q6;rw[q6];show xwp P _ _ _ _ _;(apply x_g;apply Ag);refine BX [_,_] (bx b8 T8 [vZ 0]::bx b7 T7 [nV]::bx b6 T6 [nV]::bx b5 T5 [vZ n]::ho::hl::LP') Z ?_;refine Ai Z (Aq 1 Z Z)<|Ai Z (Aq 0 Z Z)<|Bg 2 [.slice la l1.length lc] Z Z Z Z (Acj _) Z Z ?_;skip;refine Bg 1 [.slice oa o1.length oc] Z Z Z Z (Acj _) Z Z ?_;skip;refine Bg 0 [vZ 0] Z Z Z Z (Acj _) Z Z ?_;(refine By<|Ao ?_);exact A9 [.slice la l1.length lc,.slice oa o1.length oc,vZ 0] ⟨⟨_,_,Z,Aq 4 Z Z⟩,⟨_,_,Z,Aq 3 Z Z⟩,⟨_,_,Z,Aq 2 Z Z⟩,trivial⟩ (d':=join (join d3 ho) hl) (L':=LP') (ZC _ _ _ _ _ _ _ _ _ _)
     ⟨(hl1.trans hl3).trans ((Le.Au _ _).trans (Le.Au _ _)),_,_,tc,Z,An.rsl (R:=A7) (sz:=1) q2 BE (by omega) ((Le.Au _ _).trans (Le.Au _ _)) (Le.AZ _ _),
      An.rsl (R:=AE) (sz:=1) q3 AP (by omega) ((Le.Au _ _).trans (Le.Au _ _)) ((Le.AZ _ _).trans (Le.Au _ _)),hp3.mono ((Le.Au _ _).trans (Le.Au _ _)),fun _=>htc⟩
   ·refine⟨(by intro q;cases q),?_⟩
    rw[hrd];exact A9 [nV,nV,vZ e] ⟨⟨_,_,Z,Aq 4 Z Z⟩,⟨_,_,Z,Aq 3 Z Z⟩,⟨_,_,Z,Aq 2 Z Z⟩,trivial⟩ (d':=d3) (L':=LP') (Vs.drop (List.sublist_append_right _ _)) ⟨hl1.trans hl3,_,_,tc,Z,RSl.nil,RSl.nil,hp3,fun q=>absurd q hne⟩
 ·have hF:Bq s k size=([],[],2):=by unfold Bq;rw[if_neg hsz]
  rw[hF];by_cases hneg:size<0
  ·(apply BD;apply x_g;apply Ag;apply AI;apply Ai;rfl;exact Aq 3 Z Z;apply AA;rfl;rfl;apply Af;rfl;refine A4 Z (by omega) ?_;apply Am;rfl;apply Am;rfl;apply Ay;rfl;rfl;apply Aa;apply A8;rfl;apply Ag;apply AI);refine Bg 2 [nV] Z Z Z Z (Acj _) Z Z ?_;refine Bg 1 [nV] Z Z Z Z (Acj _) Z Z ?_;refine Bg 0 [vZ 2] Z Z Z Z (Acj _) Z Z ?_;(refine Aa<|Ao ?_);exact A9 [nV,nV,vZ 2] ⟨⟨_,_,Z,Aq 2 Z Z⟩,⟨_,_,Z,Aq 1 Z Z⟩,⟨_,_,Z,Aq 0 Z Z⟩,trivial⟩ (d':=d) (L':=L) (Vs.drop (.cons _ (.cons _ (.cons _ (.cons _ (Acd _)))))) ⟨Le.refl _,_,_,s.tc,Z,RSl.nil,RSl.nil,hp,fun q=>absurd q (by decide)⟩
  ·have hbig:16384<size:=by omega
   (apply BD;apply x_g;apply Ag;apply AI;apply Ai;rfl;exact Aq 3 Z Z;apply AA;rfl;rfl;apply Af;rfl;refine A1 Z (by omega) ?_;apply Ae;rfl;apply Ai;rfl;exact Aq 3 Z Z;apply Ae;rfl;apply Bb;rfl;rfl;apply Av;rfl;rfl;apply Aa;refine AF Z (by omega) ?_;apply Ag;apply AI);refine Bg 2 [nV] Z Z Z Z (Acj _) Z Z ?_;refine Bg 1 [nV] Z Z Z Z (Acj _) Z Z ?_;refine Bg 0 [vZ 2] Z Z Z Z (Acj _) Z Z ?_;(refine Aa<|Ao ?_);exact A9 [nV,nV,vZ 2] ⟨⟨_,_,Z,Aq 2 Z Z⟩,⟨_,_,Z,Aq 1 Z Z⟩,⟨_,_,Z,Aq 0 Z Z⟩,trivial⟩ (d':=d) (L':=L) (Vs.drop (.cons _ (.cons _ (.cons _ (.cons _ (Acd _)))))) ⟨Le.refl _,_,_,s.tc,Z,RSl.nil,RSl.nil,hp,fun q=>absurd q (by decide)⟩
def Ln(P:Program)(f:FuncId):Prop:=∀{d s dv pv L}{k size:Int},Pg d s dv pv L→
 AB P f [pv,vZ k,vZ size] d L (Ret fun r d' L'=>Le d d'∧∃w tc,r=.tuple #[w,vZ (Bq s k size).2.2]∧AH d' w (Bq s k size).2.1∧Pg d' {s with tc:=tc} dv pv L'∧((Bq s k size).2.2=0→tc=s.tc+AM size.toNat))
def Sj(a0:Nat):A3:=⟨21,[(.tmp 6),(.tmp 7)],(sR (o1 6 (.mv nS)<|o1 7 (.mv z0) .done) (sR (om 12 0<|om 13 1<|om 14 2<|oc 15 a0 [12,13,14]<|om 11 15<|oe 16 11 0<|oe 17 11 1<|oe 18 11 2<|om 8 16<|om 9 17<|om 10 18 .done) (sR (om 19 9<|om 20 10<|om 6 19<|om 7 20 .done) .ret)))⟩
def XA{P}(hd:dec P f=some (Sj f1))(h1:Lg P f1):Ln P f:=by
 intro d s dv pv L k size hp;obtain⟨bp,rfl⟩:=hp.ptr;refine AK hd (Aca Z) ?_;show gwp P _ _ _ _ _;refine Ad<|Ak Z<|Ac Z<|Aa<|Ad<|Ah Z<|Ac Z<|Ac Z<|Cz (h1 (k:=k) (size:=size) hp) Z (fun u d2 L2 hl2 ⟨_,v,w,tc,e1,hv,hw,hp2,htc⟩=>?_);subst e1;(refine AU Z<|Ap Z Z<|Ap Z Z<|Ap Z Z<|AQ<|AQ<|Ac Z<|Aa<|Ad<|AQ<|Ac Z<|AQ<|Ac Z<|Aa<|Ao ?_);exact Cw Z Z (Acd _) ⟨hl2,w,tc,Z,hw,hp2,htc⟩
def OL(P:Program)(f:FuncId):Prop:=∀{d s dv pv L}{k size:Int},Pg d s dv pv L→
 AB P f [pv,vZ k,vZ size] d L (Ret fun r d' L'=>Le d d'∧∃w tc,r=.tuple #[w,vZ (Bq s k size).2.2]∧Dt d' w (Bq s k size).1∧Pg d' {s with tc:=tc} dv pv L')
def QV(a0:Nat):A3:=⟨21,[(.tmp 6),(.tmp 7)],(sR (o1 6 (.mv nS)<|o1 7 (.mv z0) .done) (sR (om 12 0<|om 13 1<|om 14 2<|oc 15 a0 [12,13,14]<|om 11 15<|oe 16 11 0<|oe 17 11 1<|oe 18 11 2<|om 8 16<|om 9 17<|om 10 18 .done) (sR (om 19 8<|om 20 10<|om 6 19<|om 7 20 .done) .ret)))⟩
def X3{P}(hd:dec P f=some (QV f1))(h1:Lg P f1):OL P f:=by
 intro d s dv pv L k size hp;obtain⟨bp,rfl⟩:=hp.ptr;refine AK hd (Aca Z) ?_;show gwp P _ _ _ _ _;refine Ad<|Ak Z<|Ac Z<|Aa<|Ad<|Ah Z<|Ac Z<|Ac Z<|Cz (h1 (k:=k) (size:=size) hp) Z (fun u d2 L2 hl2 ⟨_,v,w,tc,e1,hv,hw,hp2,htc⟩=>?_);subst e1;(refine AU Z<|Ap Z Z<|Ap Z Z<|Ap Z Z<|AQ<|AQ<|Ac Z<|Aa<|Ad<|AQ<|Ac Z<|AQ<|Ac Z<|Aa<|Ao ?_);exact Cw Z Z (Acd _) ⟨hl2,v,tc,Z,hv,hp2⟩
def GH(s:PD):List Int→PD×Int
 |[]=>(s,0)
 |k::l=>if (s.drop k).2=0 then GH (s.drop k).1 l else((s.drop k).1,(s.drop k).2)
def NM(s:PD)(k size:Int):PD×Int:=if (Bq s k size).2.2=0 then GH s (Bq s k size).1 else(s,(Bq s k size).2.2)
def ZG{s:PD}{n:Nat}{k:Int}:PD.drop {s with tc:=n} k=({(s.drop k).1 with tc:=n},(s.drop k).2):=by
 unfold PD.drop;show(if s.kind k=1 then _ else if s.kind k=2 then _ else _)=_;by_cases h1:s.kind k=1
 ·simp only[if_pos h1]
 ·by_cases h2:s.kind k=2
  ·simp only[if_neg h1,if_pos h2]
  ·simp only[if_neg h1,if_neg h2]
end Go.Gk.Chn
end
section
namespace Go.Gk.Node
open Go Go.Gk
attribute [local irreducible] gwp gws
variable{P:Program}{f f1 f2:FuncId}{α:Type}{d:Ab}
structure Ax where
 leaf:Bool
 keys:List (List UInt8)
 vals:List (List UInt8)
 kids:List Int
def CO(d:Ab)(cs:List Value)(n:Ax):Prop:=
 ∃kv vv iv,cs=[.bool n.leaf,kv,vv,iv]∧Dp d kv n.keys∧Dp d vv n.vals∧Dt d iv n.kids
def DW(n:Ax)(i:Nat):Nat:=(n.keys.getD i []).length
def FA(n:Ax)(i:Nat):Nat:=(n.vals.getD i []).length
def Ec(n:Ax)(i:Nat):Nat:=if n.leaf then 2+DW n i+FA n i else 1+DW n i
def Qv(P:Program)(f:FuncId):Prop:=∀{d cs}{n:Ax},CO d cs n→∀i:Nat,i<n.keys.length→Cy P f [.agg cs.toArray,vZ i] d (vZ (Ec n i))
def Mu:A3:=⟨44,[(.tmp 4)],(sR (o1 2 (.box 0)<|o1 4 (.mv z0) .done) (.seq (sR (oj 5 0 2<|ol 6 5<|om 7 6<|gT 8 7 1<|oT 9 7 (.fld 2 2)<|oT 10 7 (.ld none 9)<|oT 11 7 (.len 10)<|oT 12 7 (.bin .lss 8 11)<|gP 13 7 12 .done) (.cond 13 (.seq (.reg true (p1 14 (.fld 1 2)<|pl 15 14<|pm 16 1<|p1 17 (.idx 1 15 16)<|pl 18 17<|p1 19 (.len 18)<|p1 20 (.bin .add z2 19)<|p1 21 (.fld 2 2)<|pl 22 21<|pm 23 1<|p1 24 (.idx 1 22 23)<|pl 25 24<|p1 26 (.len 25)<|p1 27 (.bin .add 20 26) (.bar (pm 4 27 .done)))) .ret) .skip)) (.seq (sR (oj 28 0 2<|ol 29 28 .done) (.cond 29 (sR (oj 30 1 2<|ol 31 30<|om 32 1<|oI 33 1 31 32<|ol 34 33<|oL 35 34<|ob 36 .add z2 35<|om 4 36 .done) .ret) .skip)) (sR (oj 37 1 2<|ol 38 37<|om 39 1<|oI 40 1 38 39<|ol 41 40<|oL 42 41<|ob 43 .add z1 42<|om 4 43 .done) .ret))))⟩
def Zn(hd:dec P f=some Mu):Qv P f:=by
 intro d cs n hn i hi;obtain⟨lf,ks,vs,is⟩:=n;obtain⟨kv,vv,iv,rfl,hk,hv,hiv⟩:∃kv vv iv,cs=[.bool lf,kv,vv,iv]∧Dp d kv ks∧Dp d vv vs∧Dt d iv is:=hn;simp only at hi;refine AK hd (Aca Z) ?_;obtain⟨ka,kc,kb,ko,rfl,kA,kS,kN,kl,km,kB,kx⟩:=hk;obtain⟨va,vc,vb,vo,rfl,vA,vS,vN,vl,vm,vB,vx⟩:=hv;obtain⟨c0,hc0,hD0,⟨u0,rfl,hu0⟩⟩:=kx i hi;replace hD0:=hD0.one;obtain⟨ua,uc,ub,uo,rfl,uA,uS,uN,ul,um,uB,ux⟩:=hu0;dsimp only[Ec,DW,FA] at*;have hkl:(ks.getD i []).length=ks[i].length:=by simp[hi]
 rw[hkl];cases lf
 ·show gwp P _ _ _ _ _;(refine Ad<|CC Z (fun _ _=>Ac Z<|Aa<|Ag<|Ad<|Aj Z<|Ai Z (Aq 0 Z Z)<|Af Z<|Am Z<|Am Z<|Am Z<|Am Z<|Am Z<|Av Z Z<|Aa<|AS Z<|Al<|Ag<|Ad<|Aj Z<|Ai Z (Aq 0 Z Z)<|Aa<|AS Z<|Al<|Ad<|Aj Z<|Ai Z (Aq 0 Z Z)<|Ac Z ?_);apply Cc;rfl;rfl;rfl;omega;assumption;refine Ai Z (BH (by assumption))<|AO Z<|AY Z Z (by omega) (by omega)<|Ac Z<|Aa<|Ao ?_);(apply Hx;rfl);simp
 ·by_cases hv:i<vs.length
  ·obtain⟨c1,hc1,hD1,⟨u1,rfl,hu1⟩⟩:=vx i hv;replace hD1:=hD1.one;obtain⟨wa,wc,wb,wo,rfl,wA,wS,wN,wl,wm,wB,wx⟩:=hu1;show gwp P _ _ _ _ _;(refine Ad<|CC Z (fun _ _=>Ac Z<|Aa<|Ag<|Ad<|Aj Z<|Ai Z (Aq 0 Z Z)<|Af Z<|Ae Z<|Ac Z<|Ae Z<|Aj Z<|Ae Z<|Ai Z (Aq 0 Z Z)<|Ae Z<|AO Z<|Ae Z<|AA Z Z<|Ay Z Z<|Aa<|AF Z (by omega)<|Ag<|C1<|Aj Z<|Ai Z (Aq 0 Z Z)<|Ac Z ?_);apply Cc;rfl;rfl;rfl;omega;assumption;refine Ai Z (BH (by assumption))<|AO Z<|AY Z Z (by omega) (by omega)<|Aj Z<|Ai Z (Aq 0 Z Z)<|Ac Z ?_;apply Cc;rfl;rfl;rfl;omega;assumption;refine Ai Z (BH (by assumption))<|AO Z<|AY Z Z (by omega) (by omega)<|Du<|Ac Z<|Aa<|Ao ?_);(apply Hx;rfl);simp[hv]
  ·show gwp P _ _ _ _ _;(refine Ad<|CC Z (fun _ _=>Ac Z<|Aa<|Ag<|Ad<|Aj Z<|Ai Z (Aq 0 Z Z)<|Af Z<|Ae Z<|Ac Z<|Ae Z<|Aj Z<|Ae Z<|Ai Z (Aq 0 Z Z)<|Ae Z<|AO Z<|Ae Z<|AA Z Z<|Ay Z Z<|Aa<|Aw Z (by omega)<|Al<|Ag<|Ad<|Aj Z<|Ai Z (Aq 0 Z Z)<|Aa<|A8 Z<|Ad<|Aj Z<|Ai Z (Aq 0 Z Z)<|Ac Z ?_);apply Cc;rfl;rfl;rfl;omega;assumption;refine Ai Z (BH (by assumption))<|AO Z<|AY Z Z (by omega) (by omega)<|Ac Z<|Aa<|Ao ?_);(apply Hx;rfl);simp[Adx (Agh hv)]
def Bx(n:Ax):Nat→Nat
 |0=>0
 |k+1=>Bx n k+Ec n k
def KB(n:Ax):∀{k m:Nat},k≤m→Bx n k≤Bx n m:=by
 intro k m h;induction h with
 |refl=>exact Acj _
 |step _ ih=>simp only[Bx];omega
def Bc(n:Ax):Nat:=2+(if n.leaf then 0 else 2*n.kids.length)+Bx n n.keys.length
def R6(P:Program)(f:FuncId):Prop:=∀{d cs}{n:Ax},CO d cs n→Bc n≤1000000000000→Cy P f [.agg cs.toArray] d (vZ (Bc n))
def Sn(a0:Nat):A3:=⟨27,[(.tmp 2)],(sR (o1 1 (.box 0)<|o1 2 (.mv z0) .done) (sR (o1 3 (.mv z2) .done) (.seq (sR (oj 5 0 1<|ol 6 5<|o1 7 (.un .not 6) .done) (.cond 7 (rG (om 8 3<|oj 9 3 1<|ol 10 9<|oL 11 10<|ob 12 .mul z2 11<|ob 13 .add 8 12<|om 3 13 .done)) .skip)) (.seq (sR (oj 14 1 1<|ol 15 14<|oL 16 15<|o1 17 (.mv z0) .done) (.block 0 (.loop (sR (ob 18 .lss 17 16 .done) (.seq (.cond 18 .skip (.exit 0)) (.seq (.block 1 (sR (om 19 17<|om 4 19 .done) (rG (om 20 3<|o1 21 (.ld (some 4) 1)<|om 22 4<|oc 23 a0 [21,22]<|ob 24 .add 20 23<|om 3 24 .done)))) (rG (ob 25 .add 17 z1<|om 17 25 .done)))))))) (sR (om 26 3<|om 2 26 .done) .ret)))))⟩
def Z3{fc}(hd:dec P f=some (Sn fc))(hc:Qv P fc):R6 P f:=by
 intro d cs n hn hb;have hn':=hn;obtain⟨lf,ks,vs,is⟩:=n;obtain⟨kv,vv,iv,rfl,hk,hv,hiv⟩:∃kv vv iv,cs=[.bool lf,kv,vv,iv]∧Dp d kv ks∧Dp d vv vs∧Dt d iv is:=hn;refine AK hd (Aca Z) ?_;obtain⟨ka,kc,kb,ko,rfl,kA,kS,kN,kl,km,kB,kx⟩:=hk;obtain⟨ia,ic,ib,io,rfl,iA,iS,iN,il,im,iB,ix⟩:=hiv;have hm:∀k,k≤ks.length→Bx ⟨lf,ks,vs,is⟩ k≤Bx ⟨lf,ks,vs,is⟩ ks.length:=fun k hk=>KB _ hk;simp only[Bc] at hb⊢;show gwp P _ _ _ _ _;cases lf
 ·obtain⟨z,hz⟩:∃z,z=2+(if false then 0 else 2*is.length):=⟨_,Z⟩
  simp only[Ack,if_false] at hz hb;(refine Ad<|CC Z (fun _ _=>Ac Z<|Aa<|Ad<|Ac Z<|Aa<|Ag<|Ad<|Aj Z<|Ai Z (Aq 0 Z Z)<|Bd Z<|Aa<|A8 Z<|AI<|Ac Z<|Aj Z<|Ai Z (Aq 0 Z Z)<|AO Z<|UQ Z Z (by omega) (by omega)<|AY Z Z (by omega) (by omega)<|Ac Z<|Aa<|Ag<|Ad<|Aj Z<|Ai Z (Aq 0 Z Z)<|AO Z<|Ac Z<|Aa<|Az ?_));rename_i b T;refine DO (α:=Nat) (fun k=>[(1,pZ b),(3,vZ (z+Bx ⟨false,ks,vs,is⟩ k:Nat)),(16,vZ ks.length),(17,vZ k)])
   (fun _=>[bx b T [.bool false,.slice ka ks.length kc,vv,.slice ia is.length ic]]) (fun k=>k≤ks.length) (fun k=>ks.length - k) 0 ⟨Z,int_eq (by simp[Bx,hz]),Z,Z,trivial⟩ Z (Adf _) ?_
  intro k ρ hk;have h1:=hm k hk;by_cases h:k<ks.length
  ·have h2:=hm (k+1) h;simp only[Bx] at h1 h2 hb;refine Ad<|AA Z Z<|Aa<|Ag<|AF Z (by omega)<|Al<|Ag<|Az<|Ad<|Ac Z<|Ac Z<|Aa<|AI<|Ac Z<|Cg 0 Z Z Z<|Ac Z<|Br Z (hc hn' k h) ?_;(refine AY Z Z (by omega) (by omega)<|Ac Z<|Aa<|AI<|AY Z Z (by omega) (by omega)<|Ac Z<|Aa ?_);exact⟨k+1,by omega,⟨Z,int_eq (by simp[Bx];omega),Z,Z,trivial⟩,Z,Z,h⟩
  ·have e:k=ks.length:=by omega
   subst e;(refine Ad<|AA Z Z<|Aa<|Ag<|Aw Z (by omega)<|Ba<|Ad<|Ac Z<|Ac Z<|Aa<|Ao ?_);(apply Hx;rfl);simp;omega
 ·obtain⟨z,hz⟩:∃z,z=2+(if true then 0 else 2*is.length):=⟨_,Z⟩
  simp only[if_true] at hz hb;(refine Ad<|CC Z (fun _ _=>Ac Z<|Aa<|Ad<|Ac Z<|Aa<|Ag<|Ad<|Aj Z<|Ai Z (Aq 0 Z Z)<|Bd Z<|Aa<|AS Z<|Al<|Ag<|Ad<|Aj Z<|Ai Z (Aq 0 Z Z)<|AO Z<|Ac Z<|Aa<|Az ?_));rename_i b T;refine DO (α:=Nat) (fun k=>[(1,pZ b),(3,vZ (z+Bx ⟨true,ks,vs,is⟩ k:Nat)),(16,vZ ks.length),(17,vZ k)])
   (fun _=>[bx b T [.bool true,.slice ka ks.length kc,vv,.slice ia is.length ic]]) (fun k=>k≤ks.length) (fun k=>ks.length - k) 0 ⟨Z,int_eq (by simp[Bx,hz]),Z,Z,trivial⟩ Z (Adf _) ?_
  intro k ρ hk;have h1:=hm k hk;by_cases h:k<ks.length
  ·have h2:=hm (k+1) h;simp only[Bx] at h1 h2 hb;refine Ad<|AA Z Z<|Aa<|Ag<|AF Z (by omega)<|Al<|Ag<|Az<|Ad<|Ac Z<|Ac Z<|Aa<|AI<|Ac Z<|Cg 0 Z Z Z<|Ac Z<|Br Z (hc hn' k h) ?_;(refine AY Z Z (by omega) (by omega)<|Ac Z<|Aa<|AI<|AY Z Z (by omega) (by omega)<|Ac Z<|Aa ?_);exact⟨k+1,by omega,⟨Z,int_eq (by simp[Bx];omega),Z,Z,trivial⟩,Z,Z,h⟩
  ·have e:k=ks.length:=by omega
   subst e;(refine Ad<|AA Z Z<|Aa<|Ag<|Aw Z (by omega)<|Ba<|Ad<|Ac Z<|Ac Z<|Aa<|Ao ?_);(apply Hx;rfl);simp;omega
variable{n:Ax}
def kOk(ks:List (List UInt8))(i:Nat):Bool:=decide (1≤(ks.getD i []).length)&& decide ((ks.getD i []).length≤64)&&(i==0||Op.bytesLess (ks.getD (i - 1) []) (ks.getD i []))
def CI(ks:List (List UInt8)):Nat→Bool
 |0=>true
 |k+1=>CI ks k && kOk ks k
def H2{ks}{k:Nat}(h:kOk ks k=false):∀{m:Nat},k<m→CI ks m=false:=by
 intro m hm;induction hm with
 |refl=>simp[CI,h]
 |step _ ih=>simp[CI,ih]
def GZ(v:List UInt8):Bool:=decide (v.length≤16)
def FY(k:Int):Bool:=decide (0≤k∧k≤8191)
def AX(n:Ax):Bool:=CI n.keys n.keys.length &&(if n.leaf then decide (n.vals.length=n.keys.length)&& decide (n.kids.length=0)&& n.vals.all GZ
 else decide (n.vals.length=0)&& decide (n.kids.length=n.keys.length+1)&& n.kids.all FY)
def Ox(P:Program)(f:FuncId):Prop:=∀{d cs}{n:Ax},CO d cs n→Cy P f [.agg cs.toArray] d (.bool (AX n))
def E9(P:Program)(f:FuncId):Prop:=∀{α:Type}{R:Ab→List Value→α→Prop}{d:Ab}{v:Value}{xs:List α}{g:FuncId}{p:α→Bool},RSl 1 R d v xs→(∀u x,R d [u] x→Cy P g [u] d (.bool (p x)))→
 AB P f [v,.func (.func g) #[] #[]] d [] (Ret fun r d' L'=>∃z:Int,r=vZ z∧(0≤z↔xs.any p=true)∧d'=d∧L'=[])
def D5(P:Program)(f:FuncId):Prop:=∀{α:Type}{R:Ab→List Value→α→Prop}{d:Ab}{v:Value}{xs:List α}{g:FuncId}{p:α→Bool},RSl 1 R d v xs→(∀u x,R d [u] x→Cy P g [u] d (.bool (p x)))→
 Cy P f [v,.func (.func g) #[] #[]] d (.bool (xs.any p))
def Ft(P:Program)(f:FuncId):Prop:=∀{d u v a b},AH d u a→AH d v b→Cy P f [u,v] d (vZ (Lib.compareBytes a b))
def Rh{p:α→Bool}{xs:List α}{i:Nat}(hi:i<xs.length)(h:(xs.take i).any p=false)(hx:p xs[i]=false):(xs.take (i+1)).any p=false:=by
 rw[Acp hi,List.any_append,h];simp[hx]
def Vy{p:α→Bool}{xs:List α}{i:Nat}(hi:i<xs.length)(hx:p xs[i]=true):xs.any p=true:=List.any_eq_true.2 ⟨xs[i],Acz hi,hx⟩
def GQ:A3:=⟨19,[(.tmp 4)],(sR (o1 4 (.mv z0) .done) (.seq (sR (om 6 0<|oL 7 6<|o1 8 (.mv z0) .done) (.block 0 (.loop (sR (ob 9 .lss 8 7 .done) (.seq (.cond 9 .skip (.exit 0)) (.seq (.block 1 (sR (om 10 8<|om 5 10 .done) (sR (om 11 1<|om 12 0<|om 13 5<|oI 14 1 12 13<|ol 15 14<|o1 16 (.callv 11 [15]) .done) (.cond 16 (sR (om 17 5<|om 4 17 .done) .ret) .skip)))) (rG (ob 18 .add 8 z1<|om 8 18 .done)))))))) (sR (o1 4 (.mv (kZ (-1))) .done) .ret)))⟩
def JV(hd:dec P f=some GQ):E9 P f:=by
 intro α R d v xs g p hv hp;refine AK hd (Aca Z) ?_;obtain⟨xa,xc,xb,xo,rfl,xA,xS,xN,xl,xm,xB,xx⟩:=hv;show gwp P _ _ _ _ _;refine Ad<|Ac Z<|Aa<|Ag<|Ad<|Ak Z<|AO Z<|Ac Z<|Aa<|Az<|DO (α:=Nat) (fun k=>[(0,.slice xa xs.length xc),(1,.func (.func g) #[] #[]),(7,vZ xs.length),(8,vZ k)])
  (fun _=>[]) (fun k=>k≤xs.length∧(xs.take k).any p=false) (fun k=>xs.length - k) 0 ⟨Z,Z,Z,Z,trivial⟩ Z ⟨Adf _,by simp⟩ ?_
 rintro k ρ ⟨hle,hk⟩;by_cases h:k<xs.length
 ·obtain⟨c0,hc0,hD0,hR0⟩:=xx k h;obtain⟨u,rfl⟩:∃u,c0=[u]:=by
   match c0,hc0 with|[u],_=>exact⟨u,Z⟩
  replace hD0:=hD0.one;(refine Ad<|AA Z Z<|Aa<|Ag<|AF Z (by omega)<|Al<|Ag<|Az<|Ad<|Ac Z<|Ac Z<|Aa<|Ad<|Gv Z<|Ak Z<|Ac Z ?_;apply Cc;rfl;rfl;rfl;omega;assumption;apply Ai;rfl;exact BH (by assumption));refine SS Z Z (hp u _ hR0) ?_;cases hx:p xs[k] with
  |true=>
   (refine Aa<|A8 Z<|Ad<|Ac Z<|Ac Z<|Aa<|Ao ?_)
   exact Lh Z ⟨k,Z,by simp[Vy h hx],Z,Z⟩
  |false=>
   (refine Aa<|AS Z<|Al<|AI<|AY Z Z (by omega) (by omega)<|Ac Z<|Aa ?_)
   exact⟨k+1,by omega,⟨Z,Z,Z,int_eq (by omega),trivial⟩,Z,Z,by omega,Rh h hk hx⟩
 ·have e:k=xs.length:=by omega
  subst e;rw[Aec] at hk;(refine Ad<|AA Z Z<|Aa<|Ag<|Aw Z (by omega)<|Ba<|Ad<|Ac Z<|Aa<|Ao ?_);exact Lh Z ⟨-1,Z,by simp[hk],Z,Z⟩
def Gl(a0:Nat):A3:=⟨9,[(.tmp 4)],(sR (o1 4 (.mv (.const (.bool false))) .done) (sR (om 5 0<|om 6 1<|oc 7 a0 [5,6]<|ob 8 .geq 7 z0<|om 4 8 .done) .ret))⟩
def Iy(hd:dec P f=some (Gl f1))(h1:E9 P f1):D5 P f:=by
 intro α R d v xs g p hv hp;refine AK hd (Aca Z) ?_;show gwp P _ _ _ _ _;refine Ad<|Af Z<|Aa<|Ad<|AQ<|Gv Z<|CF Z (h1 hv hp) (fun r d' L' _ ⟨z,hr,hz,hd',hL⟩=>?_);subst hr;subst hd';subst hL;(refine Ds Z Z<|Af Z<|Aa<|Ao ?_);(apply Ee;rfl);cases h:xs.any p
 ·have:¬0≤z:=fun h0=>by rw[hz.1 h0] at h;cases h
  simpa using this
 ·simpa using hz.2 h
def Hh:A3:=⟨19,[(.tmp 4)],(sR (o1 4 (.mv z0) .done) (.seq (sR (om 6 0<|oL 7 6<|o1 8 (.mv z0) .done) (.block 0 (.loop (sR (ob 9 .lss 8 7 .done) (.seq (.cond 9 .skip (.exit 0)) (.seq (.block 1 (sR (om 10 8<|om 5 10 .done) (sR (om 11 1<|om 12 0<|om 13 5<|oI 14 1 12 13<|ol 15 14<|o1 16 (.callv 11 [15]) .done) (.cond 16 (sR (om 17 5<|om 4 17 .done) .ret) .skip)))) (rG (ob 18 .add 8 z1<|om 8 18 .done)))))))) (sR (o1 4 (.mv (kZ (-1))) .done) .ret)))⟩
def Ma(hd:dec P f=some Hh):E9 P f:=by
 intro α R d v xs g p hv hp;refine AK hd (Aca Z) ?_;obtain⟨xa,xc,xb,xo,rfl,xA,xS,xN,xl,xm,xB,xx⟩:=hv;show gwp P _ _ _ _ _;refine Ad<|Ac Z<|Aa<|Ag<|Ad<|Ak Z<|AO Z<|Ac Z<|Aa<|Az<|DO (α:=Nat) (fun k=>[(0,.slice xa xs.length xc),(1,.func (.func g) #[] #[]),(7,vZ xs.length),(8,vZ k)])
  (fun _=>[]) (fun k=>k≤xs.length∧(xs.take k).any p=false) (fun k=>xs.length - k) 0 ⟨Z,Z,Z,Z,trivial⟩ Z ⟨Adf _,by simp⟩ ?_
 rintro k ρ ⟨hle,hk⟩;by_cases h:k<xs.length
 ·obtain⟨c0,hc0,hD0,hR0⟩:=xx k h;obtain⟨u,rfl⟩:∃u,c0=[u]:=by
   match c0,hc0 with|[u],_=>exact⟨u,Z⟩
  replace hD0:=hD0.one;(refine Ad<|AA Z Z<|Aa<|Ag<|AF Z (by omega)<|Al<|Ag<|Az<|Ad<|Ac Z<|Ac Z<|Aa<|Ad<|Gv Z<|Ak Z<|Ac Z ?_;apply Cc;rfl;rfl;rfl;omega;assumption;apply Ai;rfl;exact BH (by assumption));refine SS Z Z (hp u _ hR0) ?_;cases hx:p xs[k] with
  |true=>
   (refine Aa<|A8 Z<|Ad<|Ac Z<|Ac Z<|Aa<|Ao ?_)
   exact Lh Z ⟨k,Z,by simp[Vy h hx],Z,Z⟩
  |false=>
   (refine Aa<|AS Z<|Al<|AI<|AY Z Z (by omega) (by omega)<|Ac Z<|Aa ?_)
   exact⟨k+1,by omega,⟨Z,Z,Z,int_eq (by omega),trivial⟩,Z,Z,by omega,Rh h hk hx⟩
 ·have e:k=xs.length:=by omega
  subst e;rw[Aec] at hk;(refine Ad<|AA Z Z<|Aa<|Ag<|Aw Z (by omega)<|Ba<|Ad<|Ac Z<|Aa<|Ao ?_);exact Lh Z ⟨-1,Z,by simp[hk],Z,Z⟩
def GM(a0:Nat):A3:=⟨9,[(.tmp 4)],(sR (o1 4 (.mv (.const (.bool false))) .done) (sR (om 5 0<|om 6 1<|oc 7 a0 [5,6]<|ob 8 .geq 7 z0<|om 4 8 .done) .ret))⟩
def Jk(hd:dec P f=some (GM f1))(h1:E9 P f1):D5 P f:=by
 intro α R d v xs g p hv hp;refine AK hd (Aca Z) ?_;show gwp P _ _ _ _ _;refine Ad<|Af Z<|Aa<|Ad<|AQ<|Gv Z<|CF Z (h1 hv hp) (fun r d' L' _ ⟨z,hr,hz,hd',hL⟩=>?_);subst hr;subst hd';subst hL;(refine Ds Z Z<|Af Z<|Aa<|Ao ?_);(apply Ee;rfl);cases h:xs.any p
 ·have:¬0≤z:=fun h0=>by rw[hz.1 h0] at h;cases h
  simpa using this
 ·simpa using hz.2 h
def N0:A3:=⟨8,[(.tmp 4)],(sR (o1 4 (.mv z0) .done) (sR (om 5 0<|om 6 1<|o1 7 (.bcmp 5 6)<|om 4 7 .done) .ret))⟩
def Ul(hd:dec P f=some N0):Ft P f:=by
 intro d u v a b hu hv;refine AK hd (Aca Z) ?_;show gwp P _ _ _ _ _;(refine Ad<|Ac Z<|Aa<|Ad<|AQ<|AQ<|Zm Z Z (by assumption) (by assumption)<|Ac Z<|Aa<|Ao ?_);(apply Hx;rfl);rfl
def I3:A3:=⟨6,[(.tmp 2)],(sR (o1 2 (.mv (.const (.bool false))) .done) (sR (om 3 0<|oL 4 3<|ob 5 .gtr 4 (kZ 16)<|om 2 5 .done) .ret))⟩
def Wh(hd:dec P f=some I3){u l}(hu:RBs d [u] l):Cy P f [u] d (.bool (!GZ l)):=by
 obtain⟨u',e,hu⟩:=hu;cases e;refine AK hd (Aca Z) ?_;show gwp P _ _ _ _ _;(refine Ad<|Af Z<|Aa<|Ad<|AQ<|Bv Z (by assumption)<|Bb Z Z<|Af Z<|Aa<|Ao ?_);(apply Ee;rfl);(rw[Ahc];simp[GZ];omega)
def IZ:A3:=⟨9,[(.tmp 2)],(sR (o1 2 (.mv (.const (.bool false))) .done) (sR (om 3 0<|ob 4 .lss 3 z0<|om 5 4<|gF 6 5 0<|oF 7 5 (.bin .geq 6 (kZ 8192))<|o1 8 (.pick 5 (.const (.bool true)) 7)<|om 2 8 .done) .ret))⟩
def WC(hd:dec P f=some IZ){u}{k:Int}(hu:A7 d [u] k):Cy P f [u] d (.bool (!FY k)):=by
 obtain⟨e,h1,h2⟩:=hu;cases e;refine AK hd (Aca Z) ?_;show gwp P _ _ _ _ _;by_cases h:k<0
 ·(refine Ad<|Af Z<|Aa<|Ad<|Ac Z<|AA Z Z<|Af Z<|A4 Z (by omega)<|Am Z<|Am Z<|Ay Z Z<|Af Z<|Aa<|Ao ?_);(apply Ee;rfl);(rw[Ahc];simp[FY];omega)
 ·by_cases h':k≥8192
  ·(refine Ad<|Af Z<|Aa<|Ad<|Ac Z<|AA Z Z<|Af Z<|A1 Z (by omega)<|Ae Z<|Ac Z<|Ae Z<|Ds Z Z<|Av Z Z<|Af Z<|Aa<|Ao ?_);(apply Ee;rfl);(rw[Ahc];simp[FY];omega)
  ·(refine Ad<|Af Z<|Aa<|Ad<|Ac Z<|AA Z Z<|Af Z<|A1 Z (by omega)<|Ae Z<|Ac Z<|Ae Z<|Ds Z Z<|Av Z Z<|Af Z<|Aa<|Ao ?_);(apply Ee;rfl);(rw[Ahc];simp[FY];omega)
def Q3(a0 a1 a2 a3 a4:Nat):A3:=⟨78,[(.tmp 2)],(sR (o1 1 (.box 0)<|o1 2 (.mv (.const (.bool false))) .done) (.seq (sR (oj 5 1 1<|ol 6 5<|oL 7 6<|o1 8 (.mv z0) .done) (.block 0 (.loop (sR (ob 9 .lss 8 7 .done) (.seq (.cond 9 .skip (.exit 0)) (.seq (.block 1 (sR (om 10 8<|oI 11 1 6 8<|ol 12 11<|om 3 10<|om 4 12 .done) (sR (om 13 4<|oL 14 13<|ob 15 .lss 14 z1<|om 16 15<|gF 17 16 4<|oF 18 16 (.len 17)<|oF 19 16 (.bin .gtr 18 (kZ 64))<|o1 20 (.pick 16 (.const (.bool true)) 19)<|om 21 20<|gF 22 21 3<|oF 23 21 (.bin .gtr 22 z0)<|gF 24 21 23<|oT 25 24 (.fld 1 1)<|oT 26 24 (.ld none 25)<|gT 27 24 3<|oT 28 24 (.bin .sub 27 z1)<|oT 29 24 (.idx 1 26 28)<|oT 30 24 (.ld none 29)<|gT 31 24 4<|oT 32 24 (.call a0 [30,31])<|oT 33 24 (.bin .geq 32 z0)<|oF 34 21 (.pick 24 33 (.const (.bool false)))<|o1 35 (.pick 21 (.const (.bool true)) 34) .done) (.cond 35 (sR (o1 2 (.mv (.const (.bool false))) .done) .ret) .skip)))) (rG (ob 36 .add 8 z1<|om 8 36 .done)))))))) (.seq (sR (oj 37 0 1<|ol 38 37 .done) (.cond 38 (sR (oj 39 2 1<|ol 40 39<|oL 41 40<|oj 42 1 1<|ol 43 42<|oL 44 43<|ob 45 .eql 41 44<|om 46 45<|oT 47 46 (.fld 3 1)<|oT 48 46 (.ld none 47)<|oT 49 46 (.len 48)<|oT 50 46 (.bin .eql 49 z0)<|gP 51 46 50<|om 52 51<|oT 53 52 (.fld 2 1)<|oT 54 52 (.ld none 53)<|oT 55 52 (.call a1 [54,(.func a2)])<|oT 56 52 (.un .not 55)<|gP 57 52 56<|om 2 57 .done) .ret) .skip)) (sR (oj 58 2 1<|ol 59 58<|oL 60 59<|ob 61 .eql 60 z0<|om 62 61<|oT 63 62 (.fld 3 1)<|oT 64 62 (.ld none 63)<|oT 65 62 (.len 64)<|oT 66 62 (.fld 1 1)<|oT 67 62 (.ld none 66)<|oT 68 62 (.len 67)<|oT 69 62 (.bin .add 68 z1)<|oT 70 62 (.bin .eql 65 69)<|gP 71 62 70<|om 72 71<|oT 73 72 (.fld 3 1)<|oT 74 72 (.ld none 73)<|oT 75 72 (.call a3 [74,(.func a4)])<|oT 76 72 (.un .not 75)<|gP 77 72 76<|om 2 77 .done) .ret))))⟩
def Yb{f3 f4 f5}(hd:dec P f=some (Q3 f1 f2 f3 f4 f5))(h1:Ft P f1)(h2:D5 P f2)(h3:dec P f3=some I3)(h4:D5 P f4)(h5:dec P f5=some IZ):Ox P f:=by
 intro d cs n hn;obtain⟨lf,ks,vs,is⟩:=n;obtain⟨kv,vv,iv,rfl,hk,hv,hiv⟩:∃kv vv iv,cs=[.bool lf,kv,vv,iv]∧Dp d kv ks∧Dp d vv vs∧Dt d iv is:=hn;refine AK hd (Aca Z) ?_;have hv':=hv;have hiv':=hiv;obtain⟨ka,kc,kb,ko,rfl,kA,kS,kN,kl,km,kB,kx⟩:=hk;show gwp P _ _ _ _ _;(refine Ad<|CC Z (fun _ _=>Af Z<|Aa<|Ag<|Ad<|Aj Z<|Ai Z (Aq 0 Z Z)<|AO Z<|Ac Z<|Aa<|Az ?_));rename_i b T;refine DO (α:=Nat) (fun k=>[(1,pZ b),(6,.slice ka ks.length kc),(7,vZ ks.length),(8,vZ k)])
  (fun _=>[bx b T [.bool lf,.slice ka ks.length kc,vv,iv]]) (fun k=>k≤ks.length∧CI ks k=true) (fun k=>ks.length - k) 0 ⟨Z,Z,Z,Z,trivial⟩ Z ⟨Adf _,Z⟩ ?_
 rintro k ρ ⟨hle,hok⟩;by_cases h:k<ks.length
 ·obtain⟨c0,hc0,hD0,⟨u0,rfl,hu0⟩⟩:=kx k h;replace hD0:=hD0.one;have hkl:ks.getD k []=ks[k]:=by simp[h]
  have hnext:kOk ks k=true→∃x',ks.length - x'<ks.length - k∧x'=k+1∧(x'≤ks.length∧CI ks x'=true):=fun hk=>⟨k+1,by omega,Z,by omega,by simp[CI,hok,hk]⟩
  by_cases h1':ks[k].length<1
  ·have hf:kOk ks k=false:=by rw[kOk,hkl];simp;omega
   (refine Ad<|AA Z Z<|Aa<|Ag<|AF Z (by omega)<|Al<|Ag<|Az<|Ad<|Ac Z ?_;apply Cc;rfl;rfl;rfl;omega;assumption;refine Ai Z (BH (by assumption))<|Ac Z<|AQ<|Aa<|Ad<|AQ<|Bv Z (by assumption)<|AA Z Z<|Af Z<|A4 Z (by omega)<|Am Z<|Am Z<|Am Z<|Ay Z Z<|Af Z<|Am Z<|Am Z<|Am Z<|Bo Z<|Bo Z<|Bo Z<|Bo Z<|Bo Z<|Bo Z<|Bo Z<|Bo Z<|Bo Z<|Am Z<|Ay Z Z<|Aa<|A8 Z<|Ad<|Af Z<|Aa<|Ao ?_);(apply Ee;rfl);simp[AX,H2 hf h]
  ·by_cases h2':ks[k].length>64
   ·have hf:kOk ks k=false:=by rw[kOk,hkl];simp;omega
    (refine Ad<|AA Z Z<|Aa<|Ag<|AF Z (by omega)<|Al<|Ag<|Az<|Ad<|Ac Z ?_;apply Cc;rfl;rfl;rfl;omega;assumption;refine Ai Z (BH (by assumption))<|Ac Z<|AQ<|Aa<|Ad<|AQ<|Bv Z (by assumption)<|AA Z Z<|Af Z<|A1 Z (by omega)<|Ae Z<|AQ<|Ae Z<|Bv Z (by assumption)<|Ae Z<|Bb Z Z<|Av Z Z<|Af Z<|A4 Z (by omega)<|Am Z<|Am Z<|Am Z<|Bo Z<|Bo Z<|Bo Z<|Bo Z<|Bo Z<|Bo Z<|Bo Z<|Bo Z<|Bo Z<|Am Z<|Ay Z Z<|Aa<|A8 Z<|Ad<|Af Z<|Aa<|Ao ?_);(apply Ee;rfl);simp[AX,H2 hf h]
   ·cases k with
    |zero=>
     (refine Ad<|AA Z Z<|Aa<|Ag<|AF Z (by omega)<|Al<|Ag<|Az<|Ad<|Ac Z ?_;apply Cc;rfl;rfl;rfl;omega;assumption;refine Ai Z (BH (by assumption))<|Ac Z<|AQ<|Aa<|Ad<|AQ<|Bv Z (by assumption)<|AA Z Z<|Af Z<|A1 Z (by omega)<|Ae Z<|AQ<|Ae Z<|Bv Z (by assumption)<|Ae Z<|Bb Z Z<|Av Z Z<|Af Z<|A1 Z (by omega)<|Ae Z<|Ac Z<|Ae Z<|Bb Z Z<|Ae Z<|Af Z<|Am Z<|Am Z<|Am Z<|Am Z<|Am Z<|Am Z<|Am Z<|Am Z<|Am Z<|Ae Z<|Av Z Z<|Av Z Z<|Aa<|AS Z<|Al<|AI<|AY Z Z (by omega) (by omega)<|Ac Z<|Aa ?_)
     obtain⟨x',e1,rfl,e2⟩:=hnext (by rw[kOk,hkl];simp;omega)
     exact⟨_,e1,⟨Z,Z,Z,int_eq (by omega),trivial⟩,Z,Z,e2⟩
    |succ j=>
     obtain⟨c1,hc1,hD1,⟨u1,rfl,hu1⟩⟩:=kx j (by omega)
     replace hD1:=hD1.one
     have hjl:ks.getD j []=ks[j]:=by simp[show j<ks.length by omega]
     have hc:=EN ks[j] ks[j+1]
     cases hb:Op.bytesLess ks[j] ks[j+1] with
     |true=>
      have hb':Lib.compareBytes ks[j] ks[j+1]<0:=hc.2 hb
      (refine Ad<|AA Z Z<|Aa<|Ag<|AF Z (by omega)<|Al<|Ag<|Az<|Ad<|Ac Z ?_;apply Cc;rfl;rfl;rfl;omega;assumption;refine Ai Z (BH (by assumption))<|Ac Z<|AQ<|Aa<|Ad<|AQ<|Bv Z (by assumption)<|AA Z Z<|Af Z<|A1 Z (by omega)<|Ae Z<|AQ<|Ae Z<|Bv Z (by assumption)<|Ae Z<|Bb Z Z<|Av Z Z<|Af Z<|A1 Z (by omega)<|Ae Z<|Ac Z<|Ae Z<|Bb Z Z<|Ae Z<|Af Z<|A4 Z (by omega)<|Ae Z<|Aj Z<|Ae Z<|Ai Z (Aq 0 Z Z)<|Ae Z<|Ac Z<|Ae Z<|CP Z Z (by omega) (by omega)<|Ae Z ?_)
      refine Cc j Z Z (by omega) (by omega) kA ?_
      (refine Ae Z<|Ai Z (BH (by assumption))<|Ae Z<|AQ<|Ae Z ?_)
      refine Br Z (h1 hu1 hu0) ?_
      (refine Ae Z<|Ds Z Z<|Ae Z<|Ay Z Z<|Av Z Z<|Aa<|Aw Z (by omega)<|Al<|AI<|AY Z Z (by omega) (by omega)<|Ac Z<|Aa ?_)
      obtain⟨x',e1,rfl,e2⟩:=hnext (by rw[kOk,hkl,Agk,hjl,hb];simp;omega)
      exact⟨_,e1,⟨Z,Z,Z,int_eq (by omega),trivial⟩,Z,Z,e2⟩
     |false=>
      have hb':¬Lib.compareBytes ks[j] ks[j+1]<0:=fun h0=>by rw[hc.1 h0] at hb;cases hb
      have hf:kOk ks (j+1)=false:=by rw[kOk,hkl,Agk,hjl,hb];simp
      (refine Ad<|AA Z Z<|Aa<|Ag<|AF Z (by omega)<|Al<|Ag<|Az<|Ad<|Ac Z ?_;apply Cc;rfl;rfl;rfl;omega;assumption;refine Ai Z (BH (by assumption))<|Ac Z<|AQ<|Aa<|Ad<|AQ<|Bv Z (by assumption)<|AA Z Z<|Af Z<|A1 Z (by omega)<|Ae Z<|AQ<|Ae Z<|Bv Z (by assumption)<|Ae Z<|Bb Z Z<|Av Z Z<|Af Z<|A1 Z (by omega)<|Ae Z<|Ac Z<|Ae Z<|Bb Z Z<|Ae Z<|Af Z<|A4 Z (by omega)<|Ae Z<|Aj Z<|Ae Z<|Ai Z (Aq 0 Z Z)<|Ae Z<|Ac Z<|Ae Z<|CP Z Z (by omega) (by omega)<|Ae Z ?_)
      refine Cc j Z Z (by omega) (by omega) kA ?_
      (refine Ae Z<|Ai Z (BH (by assumption))<|Ae Z<|AQ<|Ae Z ?_)
      refine Br Z (h1 hu1 hu0) ?_
      (refine Ae Z<|Ds Z Z<|Ae Z<|Ay Z Z<|Av Z Z<|Aa<|AF Z (by omega)<|Ad<|Af Z<|Aa<|Ao ?_)
      (apply Ee;rfl)
      simp[AX,H2 hf h]
 ·have e:k=ks.length:=by omega
  subst e;have ea:∀l:List (List UInt8),(!l.any fun v=> !GZ v)=l.all GZ:=fun l=>by simp[List.any_eq_not_all_not]
  have ei:∀l:List Int,(!l.any fun v=> !FY v)=l.all FY:=fun l=>by simp[List.any_eq_not_all_not]
  cases lf
  ·by_cases h1':vs.length=0
   ·by_cases h2':is.length=ks.length+1
    ·refine Ad<|AA Z Z<|Aa<|Ag<|Aw Z (by omega)<|Ba<|Ag<|Ad<|Aj Z<|Ai Z (Aq 0 Z Z)<|Aa<|AS Z<|Al<|Ad<|Aj Z<|Ai Z (Aq 0 Z Z)<|Bv Z (by assumption)<|AT Z Z<|Af Z<|A4 Z (by omega)<|Ae Z<|Aj Z<|Ae Z<|Ai Z (Aq 0 Z Z)<|Ae Z<|Bv Z (by assumption)<|Ae Z<|Aj Z<|Ae Z<|Ai Z (Aq 0 Z Z)<|Ae Z<|AO Z<|Ae Z<|AY Z Z (by omega) (by omega)<|Ae Z<|AT Z Z<|Ay Z Z<|Af Z<|A4 Z (by omega)<|Ae Z<|Aj Z<|Ae Z<|Ai Z (Aq 0 Z Z)<|Ae Z<|Br Z (h4 hiv' (fun u x hx=>WC h5 hx)) ?_;(refine Ae Z<|Bd Z<|Ay Z Z<|Af Z<|Aa<|Ao ?_);(apply Ee;rfl);rw[ei];simp[AX,hok,h1',h2']
    ·(refine Ad<|AA Z Z<|Aa<|Ag<|Aw Z (by omega)<|Ba<|Ag<|Ad<|Aj Z<|Ai Z (Aq 0 Z Z)<|Aa<|AS Z<|Al<|Ad<|Aj Z<|Ai Z (Aq 0 Z Z)<|Bv Z (by assumption)<|AT Z Z<|Af Z<|A4 Z (by omega)<|Ae Z<|Aj Z<|Ae Z<|Ai Z (Aq 0 Z Z)<|Ae Z<|Bv Z (by assumption)<|Ae Z<|Aj Z<|Ae Z<|Ai Z (Aq 0 Z Z)<|Ae Z<|AO Z<|Ae Z<|AY Z Z (by omega) (by omega)<|Ae Z<|AT Z Z<|Ay Z Z<|Af Z<|A1 Z (by omega)<|Am Z<|Am Z<|Am Z<|Am Z<|Av Z Z<|Af Z<|Aa<|Ao ?_);(apply Ee;rfl);(first|(simp[AX,hok,h1',h2'];done)|(simp[AX,hok,h1',h2'];omega))
   ·(refine Ad<|AA Z Z<|Aa<|Ag<|Aw Z (by omega)<|Ba<|Ag<|Ad<|Aj Z<|Ai Z (Aq 0 Z Z)<|Aa<|AS Z<|Al<|Ad<|Aj Z<|Ai Z (Aq 0 Z Z)<|Bv Z (by assumption)<|AT Z Z<|Af Z<|A1 Z (by omega)<|Am Z<|Am Z<|Am Z<|Am Z<|Am Z<|Am Z<|Am Z<|Am Z<|Av Z Z<|Af Z<|Am Z<|Am Z<|Am Z<|Am Z<|Av Z Z<|Af Z<|Aa<|Ao ?_);(apply Ee;rfl);(first|(simp[AX,hok,h1'];done)|(simp[AX,hok,h1'];omega))
  ·by_cases h2':vs.length=ks.length
   ·by_cases h1':is.length=0
    ·refine Ad<|AA Z Z<|Aa<|Ag<|Aw Z (by omega)<|Ba<|Ag<|Ad<|Aj Z<|Ai Z (Aq 0 Z Z)<|Aa<|A8 Z<|Ad<|Aj Z<|Ai Z (Aq 0 Z Z)<|Bv Z (by assumption)<|Aj Z<|Ai Z (Aq 0 Z Z)<|AO Z<|AT Z Z<|Af Z<|A4 Z (by omega)<|Ae Z<|Aj Z<|Ae Z<|Ai Z (Aq 0 Z Z)<|Ae Z<|Bv Z (by assumption)<|Ae Z<|AT Z Z<|Ay Z Z<|Af Z<|A4 Z (by omega)<|Ae Z<|Aj Z<|Ae Z<|Ai Z (Aq 0 Z Z)<|Ae Z<|Br Z (h2 hv' (fun u x hx=>Wh h3 hx)) ?_;(refine Ae Z<|Bd Z<|Ay Z Z<|Af Z<|Aa<|Ao ?_);(apply Ee;rfl);rw[ea];simp[AX,hok,h1',h2']
    ·(refine Ad<|AA Z Z<|Aa<|Ag<|Aw Z (by omega)<|Ba<|Ag<|Ad<|Aj Z<|Ai Z (Aq 0 Z Z)<|Aa<|A8 Z<|Ad<|Aj Z<|Ai Z (Aq 0 Z Z)<|Bv Z (by assumption)<|Aj Z<|Ai Z (Aq 0 Z Z)<|AO Z<|AT Z Z<|Af Z<|A4 Z (by omega)<|Ae Z<|Aj Z<|Ae Z<|Ai Z (Aq 0 Z Z)<|Ae Z<|Bv Z (by assumption)<|Ae Z<|AT Z Z<|Ay Z Z<|Af Z<|A1 Z (by omega)<|Am Z<|Am Z<|Am Z<|Am Z<|Av Z Z<|Af Z<|Aa<|Ao ?_);(apply Ee;rfl);(first|(simp[AX,hok,h1',h2'];done)|(simp[AX,hok,h1',h2'];omega))
   ·(refine Ad<|AA Z Z<|Aa<|Ag<|Aw Z (by omega)<|Ba<|Ag<|Ad<|Aj Z<|Ai Z (Aq 0 Z Z)<|Aa<|A8 Z<|Ad<|Aj Z<|Ai Z (Aq 0 Z Z)<|Bv Z (by assumption)<|Aj Z<|Ai Z (Aq 0 Z Z)<|AO Z<|AT Z Z<|Af Z<|A1 Z (by omega)<|Am Z<|Am Z<|Am Z<|Am Z<|Av Z Z<|Af Z<|Am Z<|Am Z<|Am Z<|Am Z<|Av Z Z<|Af Z<|Aa<|Ao ?_);(apply Ee;rfl);(first|(simp[AX,hok,h2'];done)|(simp[AX,hok,h2'];omega))
def AV(n:Ax):Bool:=AX n && decide (Bc n≤256)
def HF(P:Program)(f:FuncId):Prop:=∀{d cs}{n:Ax},CO d cs n→Bc n≤1000000000000→Cy P f [.agg cs.toArray] d (.bool (AV n))
def RP(a0 a1:Nat):A3:=⟨10,[(.tmp 2)],(sR (o1 1 (.box 0)<|o1 2 (.mv (.const (.bool false))) .done) (sR (o1 3 (.ld (some 4) 1)<|oc 4 a0 [3]<|om 5 4<|oT 6 5 (.ld (some 4) 1)<|oT 7 5 (.call a1 [6])<|oT 8 5 (.bin .leq 7 (kZ 256))<|gP 9 5 8<|om 2 9 .done) .ret))⟩
def Nc(hd:dec P f=some (RP f1 f2))(h1:Ox P f1)(h2:R6 P f2):HF P f:=by
 intro d cs n hn hb;refine AK hd (Aca Z) ?_;have hn':=hn;obtain⟨kv,vv,iv,rfl,hk,hv,hiv⟩:∃kv vv iv,cs=[.bool n.leaf,kv,vv,iv]∧Dp d kv n.keys∧Dp d vv n.vals∧Dt d iv n.kids:=hn;show gwp P _ _ _ _ _;(refine Ad<|CC Z (fun _ _=>Af Z<|Aa<|Ad<|Cg 0 Z Z Z ?_));refine Br Z (h1 hn') ?_;cases hs:AX n with
 |false=>
  (refine Af Z<|Am Z<|Am Z<|Am Z<|Av Z Z<|Af Z<|Aa<|Ao ?_)
  (apply Ee;rfl)
  simp[AV,hs]
 |true=>
  (refine Af Z<|Ae Z<|Cg 0 Z Z Z<|Ae Z ?_)
  refine Br Z (h2 hn' hb) ?_
  (refine Ae Z<|Gt Z Z<|Ay Z Z<|Af Z<|Aa<|Ao ?_)
  (apply Ee;rfl)
  (rw[Ahc];simp[AV,hs];omega)
def HS{α:Type}{p:α→Bool}:∀{l:List α}{i:Nat},i≤l.length→(∀j (h:j<l.length),j<i→p l[j]=true)→(∀h:i<l.length,p l[i]=false)→(l.takeWhile p).length=i
 |[],i,hi,_,_=>by simp at hi;subst hi;rfl
 |a::l,0,_,_,h=>by
  have:=h (by simp);simp at this;simp[List.takeWhile,this]
 |a::l,i+1,hi,h1,h2=>by
  have ha:p a=true:=h1 0 (by simp) (by omega);have:=HS (p:=p) (l:=l) (i:=i) (by simpa using hi) (fun j h hj=>by have:=h1 (j+1) (by simpa using h) (by omega);simpa using this) (fun h=>by have:=h2 (by simpa using h);simpa using this);simp[List.takeWhile,ha,this]
def YZ{p:α→Bool}:∀{l:List α}{j:Nat}(hj:j<l.length),j<(l.takeWhile p).length→p l[j]=true
 |[],j,hj,_=>by simp at hj
 |a::l,j,hj,h=>by
  simp only[List.takeWhile_cons] at h;by_cases ha:p a=true
  ·cases j with
   |zero=>exact ha
   |succ j=>simp only[ha,if_true,Acx] at h;exact YZ (l:=l) (by simpa using hj) (by omega)
  ·simp[ha] at h
def Tg{p:α→Bool}:∀{l:List α}{i:Nat}(_:i=(l.takeWhile p).length) (hi:i<l.length),p l[i]=false
 |[],i,_,hi=>by simp at hi
 |a::l,i,e,hi=>by
  simp only[List.takeWhile_cons] at e;by_cases ha:p a=true
  ·simp only[ha,if_true,Acx] at e;subst e;exact Tg (l:=l) Z (by simpa using hi)
  ·simp[ha] at e;subst e;simpa using ha
def YV{α:Type}{p:α→Bool}:∀(l:List α),(l.takeWhile p).length≤l.length
 |[]=>by simp
 |a::l=>by
  simp only[List.takeWhile];split
  ·have:=YV (p:=p) l;simp;omega
  ·simp
def leB(a b:List UInt8):Bool:=Op.bytesLess a b||decide (a=b)
def Ll(P:Program)(f:FuncId):Prop:=∀{d u v a b},AH d u a→AH d v b→Cy P f [u,v] d (.bool (decide (a=b)))
def P5:A3:=⟨10,[(.tmp 4)],(sR (o1 4 (.mv (.const (.bool false))) .done) (sR (om 5 0<|o1 6 (.b2s 5)<|om 7 1<|o1 8 (.b2s 7)<|ob 9 .eql 6 8<|om 4 9 .done) .ret))⟩
def XL(hd:dec P f=some P5):Ll P f:=by
 intro d u v a b hu hv;refine AK hd (Aca Z) ?_;show gwp P _ _ _ _ _;(refine Ad<|Af Z<|Aa<|Ad<|AQ<|FU Z (by assumption)<|AQ<|FU Z (by assumption)<|YF Z Z<|Af Z<|Aa<|Ao ?_);(apply Ee;rfl);rfl
def low(n:Ax)(key:List UInt8):Nat:=(n.keys.takeWhile (Op.bytesLess · key)).length
def findD(n:Ax)(key:List UInt8):Nat×Bool:=
 if n.leaf then(low n key,decide (low n key<n.keys.length)&& decide (n.keys.getD (low n key) []=key)) else(low n key+((n.keys.drop (low n key)).takeWhile (fun k=>decide (k=key))).length,false)
def Wl(n:Ax)(key:List UInt8):Nat×Bool:=
 if n.leaf then(low n key,decide (low n key<n.keys.length)&& decide (n.keys.getD (low n key) []=key)) else((n.keys.takeWhile (leB · key)).length,false)
def Nx(P:Program)(f:FuncId)(F:Ax→List UInt8→Nat×Bool):Prop:=∀{d cs}{n:Ax}{v key},CO d cs n→AH d v key→
 Cy P f [.agg cs.toArray,v] d (.tuple #[vZ (F n key).1,.bool (F n key).2])
def Sm(a0 a1:Nat):A3:=⟨60,[(.tmp 4),(.tmp 5)],(sR (o1 2 (.box 0)<|o1 4 (.mv z0)<|o1 5 (.mv (.const (.bool false))) .done) (sR (o1 6 (.mv z0) .done) (.seq (.block 0 (.loop (.seq (sR (om 8 6<|oj 9 1 2<|ol 10 9<|oL 11 10<|ob 12 .lss 8 11<|om 13 12<|oT 14 13 (.fld 1 2)<|oT 15 13 (.ld none 14)<|gT 16 13 6<|oT 17 13 (.idx 1 15 16)<|oT 18 13 (.ld none 17)<|gT 19 13 1<|oT 20 13 (.call a0 [18,19])<|oT 21 13 (.bin .lss 20 z0)<|gP 22 13 21 .done) (.cond 22 .skip (.exit 0))) (.block 1 (rG (om 23 6<|ob 24 .add 23 z1<|om 6 24 .done)))))) (sR (om 25 6<|oj 26 1 2<|ol 27 26<|oL 28 27<|ob 29 .lss 25 28<|om 30 29<|oT 31 30 (.fld 1 2)<|oT 32 30 (.ld none 31)<|gT 33 30 6<|oT 34 30 (.idx 1 32 33)<|oT 35 30 (.ld none 34)<|gT 36 30 1<|oT 37 30 (.call a1 [35,36])<|gP 38 30 37<|om 7 38 .done) (.seq (sR (oj 39 0 2<|ol 40 39 .done) (.cond 40 (sR (om 41 6<|om 42 7<|om 4 41<|om 5 42 .done) .ret) .skip)) (.seq (.block 2 (.loop (.seq (sR (om 43 6<|oj 44 1 2<|ol 45 44<|oL 46 45<|ob 47 .lss 43 46<|om 48 47<|oT 49 48 (.fld 1 2)<|oT 50 48 (.ld none 49)<|gT 51 48 6<|oT 52 48 (.idx 1 50 51)<|oT 53 48 (.ld none 52)<|gT 54 48 1<|oT 55 48 (.call a1 [53,54])<|gP 56 48 55 .done) (.cond 56 .skip (.exit 2))) (.block 3 (rG (om 57 6<|ob 58 .add 57 z1<|om 6 58 .done)))))) (sR (om 59 6<|om 4 59<|o1 5 (.mv (.const (.bool false))) .done) .ret)))))))⟩
def ZW(hd:dec P f=some (Sm f1 f2))(h1:Ft P f1)(h2:Ll P f2):Nx P f findD:=by
 intro d cs n v key hn hkey;obtain⟨lf,ks,vs,is⟩:=n;obtain⟨kv,vv,iv,rfl,hk,hv,hiv⟩:∃kv vv iv,cs=[.bool lf,kv,vv,iv]∧Dp d kv ks∧Dp d vv vs∧Dt d iv is:=hn;refine AK hd (Aca Z) ?_;obtain⟨ka,kc,kb,ko,rfl,kA,kS,kN,kl,km,kB,kx⟩:=hk;show gwp P _ _ _ _ _;(refine Ad<|CC Z (fun _ _=>Ac Z<|Af Z<|Aa<|Ad<|Ac Z<|Aa<|Ag<|Az ?_));rename_i b T;refine DO (α:=Nat) (fun k=>[(1,v),(2,pZ b),(6,vZ k)])
  (fun _=>[bx b T [.bool lf,.slice ka ks.length kc,vv,iv]]) (fun k=>k≤ks.length∧∀j (h:j<ks.length),j<k→Op.bytesLess ks[j] key=true) (fun k=>ks.length - k) 0 ⟨Z,Z,Z,trivial⟩ Z ⟨Adf _,fun j _ h=>by omega⟩ ?_
 rintro k ρ ⟨hle,hlt⟩;have hstop:(∀h:k<ks.length,Op.bytesLess ks[k] key=false)→low ⟨lf,ks,vs,is⟩ key=k:=fun h=>HS hle hlt h;by_cases h:k<ks.length
 ·obtain⟨c0,hc0,hD0,⟨u0,rfl,hu0⟩⟩:=kx k h;replace hD0:=hD0.one;have hc:=EN ks[k] key;cases hb:Op.bytesLess ks[k] key with
  |true=>
   have hb':Lib.compareBytes ks[k] key<0:=hc.2 hb
   (refine Ag<|Ad<|Ac Z<|Aj Z<|Ai Z (Aq 0 Z Z)<|AO Z<|AA Z Z<|Af Z<|A4 Z (by omega)<|Ae Z<|Aj Z<|Ae Z<|Ai Z (Aq 0 Z Z)<|Ae Z<|Ac Z<|Ae Z ?_;apply Cc;rfl;rfl;rfl;omega;assumption;refine Ae Z<|Ai Z (BH (by assumption))<|Ae Z<|AQ<|Ae Z ?_)
   refine Br Z (h1 hu0 hkey) ?_
   (refine Ae Z<|AA Z Z<|Ay Z Z<|Aa<|AF Z (by omega)<|Al<|Az<|AI<|Ac Z<|AY Z Z (by omega) (by omega)<|Ac Z<|Aa ?_)
   refine⟨k+1,by omega,⟨Z,Z,int_eq (by omega),trivial⟩,Z,Z,by omega,fun j hj hjk=>?_⟩
   by_cases e:j=k
   ·subst e;exact hb
   ·exact hlt j hj (by omega)
  |false=>
   have hb':¬Lib.compareBytes ks[k] key<0:=fun h0=>by rw[hc.1 h0] at hb;cases hb
   have hl:=hstop (fun _=>hb)
   cases lf
   ·(refine Ag<|Ad<|Ac Z<|Aj Z<|Ai Z (Aq 0 Z Z)<|AO Z<|AA Z Z<|Af Z<|A4 Z (by omega)<|Ae Z<|Aj Z<|Ae Z<|Ai Z (Aq 0 Z Z)<|Ae Z<|Ac Z<|Ae Z ?_;apply Cc;rfl;rfl;rfl;omega;assumption;refine Ae Z<|Ai Z (BH (by assumption))<|Ae Z<|AQ<|Ae Z ?_)
    refine Br Z (h1 hu0 hkey) ?_
    (refine Ae Z<|AA Z Z<|Ay Z Z<|Aa<|Aw Z (by omega)<|Ba<|Ad<|Ac Z<|Aj Z<|Ai Z (Aq 0 Z Z)<|AO Z<|AA Z Z<|Af Z<|A4 Z (by omega)<|Ae Z<|Aj Z<|Ae Z<|Ai Z (Aq 0 Z Z)<|Ae Z<|Ac Z<|Ae Z ?_;apply Cc;rfl;rfl;rfl;omega;assumption;refine Ae Z<|Ai Z (BH (by assumption))<|Ae Z<|AQ<|Ae Z ?_)
    refine Br Z (h2 hu0 hkey) ?_
    (refine Ay Z Z<|Af Z<|Aa<|Ag<|Ad<|Aj Z<|Ai Z (Aq 0 Z Z)<|Aa<|AS Z<|Al<|Ag<|Az ?_)
    refine DO (α:=Nat) (fun j=>[(1,v),(2,pZ b),(6,vZ j)])
     (fun _=>[bx b T [.bool false,.slice ka ks.length kc,vv,iv]]) (fun j=>k≤j∧j≤ks.length∧∀m (h:m<ks.length),k≤m→m<j→ks[m]=key) (fun j=>ks.length - j) k ⟨Z,Z,int_eq (by omega),trivial⟩ Z ⟨Acj _,by omega,fun m _ h1 h2=>by omega⟩ ?_
    rintro j ρ ⟨hkj,hjl,hje⟩
    have hfin:(∀h:j<ks.length,¬ks[j]=key)→findD ⟨false,ks,vs,is⟩ key=(j,false):=fun hs=>by
     have:((ks.drop k).takeWhile (fun k=>decide (k=key))).length=j - k:=HS (by simp;omega) (fun m hm hmj=>by
      have:=hje (k+m) (by simp at hm;omega) (by omega) (by omega);simpa using this) (fun hm=>by
      have:=hs (by simp at hm;omega);simp only[Agr,show k+(j - k)=j by omega];simpa using this)
     simp only[findD,hl,Ack,if_false,this];rw[show k+(j - k)=j by omega]
    by_cases h7:j<ks.length
    ·obtain⟨c1,hc1,hD1,⟨u1,rfl,hu1⟩⟩:=kx j h7
     replace hD1:=hD1.one
     by_cases h8:ks[j]=key
     ·have h9:decide (ks[j]=key)=true:=by simp[h8]
      (refine Ag<|Ad<|Ac Z<|Aj Z<|Ai Z (Aq 0 Z Z)<|AO Z<|AA Z Z<|Af Z<|A4 Z (by omega)<|Ae Z<|Aj Z<|Ae Z<|Ai Z (Aq 0 Z Z)<|Ae Z<|Ac Z<|Ae Z ?_;apply Cc;rfl;rfl;rfl;omega;assumption;refine Ae Z<|Ai Z (BH (by assumption))<|Ae Z<|AQ<|Ae Z ?_)
      refine Br Z (h2 hu1 hkey) ?_
      (refine Ay Z Z<|Aa<|AF Z (by omega)<|Al<|Az<|AI<|Ac Z<|AY Z Z (by omega) (by omega)<|Ac Z<|Aa ?_)
      refine⟨j+1,by omega,⟨Z,Z,int_eq (by omega),trivial⟩,Z,Z,by omega,by omega,fun m hm h1' h2'=>?_⟩
      by_cases e:m=j
      ·subst e;exact h8
      ·exact hje m hm h1' (by omega)
     ·have h9:decide (ks[j]=key)=false:=by simp[h8]
      (refine Ag<|Ad<|Ac Z<|Aj Z<|Ai Z (Aq 0 Z Z)<|AO Z<|AA Z Z<|Af Z<|A4 Z (by omega)<|Ae Z<|Aj Z<|Ae Z<|Ai Z (Aq 0 Z Z)<|Ae Z<|Ac Z<|Ae Z ?_;apply Cc;rfl;rfl;rfl;omega;assumption;refine Ae Z<|Ai Z (BH (by assumption))<|Ae Z<|AQ<|Ae Z ?_)
      refine Br Z (h2 hu1 hkey) ?_
      (refine Ay Z Z<|Aa<|Aw Z (by omega)<|Ba<|Ad<|Ac Z<|Ac Z<|Af Z<|Aa<|Ao ?_)
      refine Qt Z Z ⟨?_,Z,Z⟩
      (rw[hfin (fun _=>h8)];rfl)
    ·have e':j=ks.length:=by omega
     subst e'
     (refine Ag<|Ad<|Ac Z<|Aj Z<|Ai Z (Aq 0 Z Z)<|AO Z<|AA Z Z<|Af Z<|A1 Z (by omega)<|Am Z<|Am Z<|Am Z<|Am Z<|Am Z<|Am Z<|Am Z<|Av Z Z<|Aa<|AS Z<|Ba<|Ad<|Ac Z<|Ac Z<|Af Z<|Aa<|Ao ?_)
     refine Qt Z Z ⟨?_,Z,Z⟩
     (rw[hfin (fun h=>absurd h (Nat.lt_irrefl _))];rfl)
   ·(refine Ag<|Ad<|Ac Z<|Aj Z<|Ai Z (Aq 0 Z Z)<|AO Z<|AA Z Z<|Af Z<|A4 Z (by omega)<|Ae Z<|Aj Z<|Ae Z<|Ai Z (Aq 0 Z Z)<|Ae Z<|Ac Z<|Ae Z ?_;apply Cc;rfl;rfl;rfl;omega;assumption;refine Ae Z<|Ai Z (BH (by assumption))<|Ae Z<|AQ<|Ae Z ?_)
    refine Br Z (h1 hu0 hkey) ?_
    (refine Ae Z<|AA Z Z<|Ay Z Z<|Aa<|Aw Z (by omega)<|Ba<|Ad<|Ac Z<|Aj Z<|Ai Z (Aq 0 Z Z)<|AO Z<|AA Z Z<|Af Z<|A4 Z (by omega)<|Ae Z<|Aj Z<|Ae Z<|Ai Z (Aq 0 Z Z)<|Ae Z<|Ac Z<|Ae Z ?_;apply Cc;rfl;rfl;rfl;omega;assumption;refine Ae Z<|Ai Z (BH (by assumption))<|Ae Z<|AQ<|Ae Z ?_)
    refine Br Z (h2 hu0 hkey) ?_
    (refine Ay Z Z<|Af Z<|Aa<|Ag<|Ad<|Aj Z<|Ai Z (Aq 0 Z Z)<|Aa<|A8 Z<|Ad<|Ac Z<|Af Z<|Ac Z<|Af Z<|Aa<|Ao ?_)
    apply Qu
    rfl
    rfl
    ·simp[findD,hl]
    ·simp[findD,hl,h]
 ·have e:k=ks.length:=by omega
  subst e;have hl:=hstop (fun h=>absurd h (Nat.lt_irrefl _));cases lf
  ·refine Ag<|Ad<|Ac Z<|Aj Z<|Ai Z (Aq 0 Z Z)<|AO Z<|AA Z Z<|Af Z<|A1 Z (by omega)<|Am Z<|Am Z<|Am Z<|Am Z<|Am Z<|Am Z<|Am Z<|Am Z<|Av Z Z<|Aa<|AS Z<|Ba<|Ad<|Ac Z<|Aj Z<|Ai Z (Aq 0 Z Z)<|AO Z<|AA Z Z<|Af Z<|A1 Z (by omega)<|Am Z<|Am Z<|Am Z<|Am Z<|Am Z<|Am Z<|Am Z<|Av Z Z<|Af Z<|Aa<|Ag<|Ad<|Aj Z<|Ai Z (Aq 0 Z Z)<|Aa<|AS Z<|Al<|Ag<|Az<|DO (α:=Unit) (fun j=>[(1,v),(2,pZ b),(6,vZ ks.length)])
    (fun _=>[bx b T [.bool false,.slice ka ks.length kc,vv,iv]]) (fun _=>True) (fun _=>0) () ⟨Z,Z,Z,trivial⟩ Z trivial ?_
   intro _ ρ _;(refine Ag<|Ad<|Ac Z<|Aj Z<|Ai Z (Aq 0 Z Z)<|AO Z<|AA Z Z<|Af Z<|A1 Z (by omega)<|Am Z<|Am Z<|Am Z<|Am Z<|Am Z<|Am Z<|Am Z<|Av Z Z<|Aa<|AS Z<|Ba<|Ad<|Ac Z<|Ac Z<|Af Z<|Aa<|Ao ?_);apply Qu;rfl;rfl
   ·simp[findD,hl]
   ·simp[findD,hl]
  ·(refine Ag<|Ad<|Ac Z<|Aj Z<|Ai Z (Aq 0 Z Z)<|AO Z<|AA Z Z<|Af Z<|A1 Z (by omega)<|Am Z<|Am Z<|Am Z<|Am Z<|Am Z<|Am Z<|Am Z<|Am Z<|Av Z Z<|Aa<|AS Z<|Ba<|Ad<|Ac Z<|Aj Z<|Ai Z (Aq 0 Z Z)<|AO Z<|AA Z Z<|Af Z<|A1 Z (by omega)<|Am Z<|Am Z<|Am Z<|Am Z<|Am Z<|Am Z<|Am Z<|Av Z Z<|Af Z<|Aa<|Ag<|Ad<|Aj Z<|Ai Z (Aq 0 Z Z)<|Aa<|A8 Z<|Ad<|Ac Z<|Af Z<|Ac Z<|Af Z<|Aa<|Ao ?_);apply Qu;rfl;rfl
   ·simp[findD,hl]
   ·simp[findD,hl]
def Kz{ks}:∀{m k:Nat},CI ks m=true→k<m→kOk ks k=true
 |0,_,_,h=>by omega
 |m+1,k,h,hk=>by
  simp only[CI,Acb] at h;by_cases e:k=m
  ·subst e;exact h.2
  ·exact Kz h.1 (by omega)
def Kx{ks}(h:CI ks ks.length=true):∀{j i:Nat}(hj:j<ks.length) (hi:i<j),Op.bytesLess (ks[i]'(by omega)) ks[j]=true:=by
 intro j;induction j with
 |zero=>intro i _ hi;omega
 |succ j ih=>
  intro i hj hi
  have hk:=Kz h hj
  simp only[kOk,Acb,Adu,beq_iff_eq,Agk] at hk
  have h1:Op.bytesLess ks[j] ks[j+1]=true:=by
   rcases hk.2 with e|e
   ·omega
   ·simpa [show j<ks.length by omega,hj] using e
  by_cases e:i=j
  ·subst e;exact h1
  ·exact Jv (ih (by omega) (by omega)) h1
def find_eq(n:Ax)(key:List UInt8)(h:AX n=true):findD n key=Wl n key:=by
 obtain⟨lf,ks,vs,is⟩:=n;unfold findD Wl;cases lf with
 |true=>rfl
 |false=>
  simp only[Ack,if_false,Prod.mk.injEq,and_true]
  have hk:CI ks ks.length=true:=by simp only[AX,Acb] at h;exact h.1
  have rise:=fun{j i:Nat}(hj:j<ks.length) (hi:i<j)=>Kx hk hj hi
  have hl:low ⟨false,ks,vs,is⟩ key≤ks.length:=YV ks
  obtain⟨A,hA⟩:∃A,A=low ⟨false,ks,vs,is⟩ key:=⟨_,Z⟩
  rw[←hA] at hl⊢
  have below:∀j (hj:j<ks.length),j<A→Op.bytesLess ks[j] key=true:=fun j hj hjA=>YZ (p:=(Op.bytesLess · key)) hj (by rw[hA] at hjA;exact hjA)
  have stop:∀h:A<ks.length,Op.bytesLess ks[A] key=false:=fun h=>Tg (p:=(Op.bytesLess · key)) hA h
  have les:∀{a b},Op.bytesLess a b=true→leB a b=true:=fun h=>by simp[leB,h]
  by_cases he:∃h:A<ks.length,ks[A]=key
  ·obtain⟨h,he⟩:=he
   have h1:((ks.drop A).takeWhile (fun k=>decide (k=key))).length=1:=HS (by simp;omega) (fun m hm hm1=>by
    obtain rfl:m=0:=by omega
    simpa using he) (fun hm=>by
    have hm':A+1<ks.length:=by simp at hm;omega
    have:=rise hm' (i:=A) (by omega);rw[he] at this;simp only[Agr,decide_eq_false_iff_not];intro e;rw[e,Ev] at this;cases this)
   have h2:(ks.takeWhile (leB · key)).length=A+1:=HS h (fun j hj hjA=>by
    by_cases e:j=A
    ·subst e;simp[leB,he]
    ·exact les (below j hj (by omega))) (fun hm=>by
    have:=rise hm (i:=A) (by omega);rw[he] at this;have h3:=Xj this;simp only[leB,h3,Agt,decide_eq_false_iff_not];intro e;rw[e,Ev] at this;cases this)
   rw[h1,h2]
  ·have h1:((ks.drop A).takeWhile (fun k=>decide (k=key))).length=0:=HS (by omega) (fun m _ hm=>by omega) (fun hm=>by
    have hm':A<ks.length:=by simp at hm;omega
    simp only[Agr,decide_eq_false_iff_not,Nat.add_zero];intro e;exact he ⟨hm',e⟩)
   have h2:(ks.takeWhile (leB · key)).length=A:=HS hl (fun j hj hjA=>les (below j hj hjA)) (fun hm=>by
    simp only[leB,stop hm,Agt,decide_eq_false_iff_not];intro e;exact he ⟨hm,e⟩)
   rw[h1,h2];rfl
def FK(k:Int):List UInt8:=[UInt8.ofNat ((k / 256) % 256).toNat,UInt8.ofNat (k % 256).toNat]
def u8n(n:Nat):UInt8:=UInt8.ofNat ((n:Int) % 256).toNat
def tailD(n:Ax)(k:Nat):List UInt8:=if n.leaf then u8n (FA n k)::n.vals.getD k [] else FK (n.kids.getD (k+1) 0)
def headD(n:Ax):List UInt8:=[if n.leaf then 1 else 2,u8n n.keys.length]++(if n.leaf then [] else FK (n.kids.getD 0 0))
def B4(n:Ax):Nat→List UInt8
 |0=>headD n
 |k+1=>B4 n k++(u8n (DW n k)::n.keys.getD k [])++tailD n k
def Pk(n:Ax):∀k,(B4 n k).length=(if n.leaf then 2 else 4+2*k)+Bx n k:=by
 intro k;induction k with
 |zero=>simp only[B4,headD,Bx];split<;>simp[FK]
 |succ k ih=>
  simp only[B4,Aci,ih,Bx,tailD,Ec,DW,FA]
  split<;>simp[FK]<;>omega
def B8(n:Ax):List UInt8:=B4 n n.keys.length++Acq (256 - (B4 n n.keys.length).length) 0
def X5(n:Nat):Bm [Value.int .u8 0] n=Acq n (As 0):=by
 unfold Bm;apply List.ext_getElem
 ·simp
 ·intro i h1 h2;simp[Nat.mod_one,As]
def Oj(P:Program)(f:FuncId):Prop:=∀{d cs}{n:Ax},CO d cs n→AX n=true→Bc n≤256→
 AB P f [.agg cs.toArray] d [] (Ret fun r d' L'=>d'=d∧∃h,L'=[h]∧Eh 256 r (B8 n) h)
def Eh.nil{N b:Nat}{T}:Eh N (.slice (some ⟨b,0,none⟩) 0 N) [] (bx b T (Bm [Value.int .u8 0] (N*1))):=
 ⟨Adf _,b,T,Z,by rw[X5];simp⟩
def Sq:A3:=⟨87,[(.tmp 2)],(sR (o1 1 (.box 0)<|o1 2 (.mv nS) .done) (sR (o1 6 (.mks 1 1 [(.int .u8 0)] z0 (kZ 256))<|om 3 6 .done) (sR (om 7 3<|oj 8 1 1<|ol 9 8<|oL 10 9<|o1 11 (.cvi .u8 10)<|o1 12 (.bsl 2 1 [(.int .u8 0)] [(0,(.const (.int .u8 2))),(1,11)])<|o1 13 (.app 1 1 [(.int .u8 0)] 7 12)<|om 3 13 .done) (.seq (sR (oj 14 0 1<|ol 15 14 .done) (.cond 15 (rG (om 16 3<|o1 17 (.idx 1 16 z0)<|o0 (.st 1 17 (.const (.int .u8 1))) .done)) (.reg true (pm 18 3<|p1 19 (.fld 3 1)<|pl 20 19<|p1 21 (.idx 1 20 z0)<|pl 22 21<|p1 23 (.bin .shr 22 (.const (.int .u64 8)))<|p1 24 (.cvi .u8 23)<|p1 25 (.fld 3 1)<|pl 26 25<|p1 27 (.idx 1 26 z0)<|pl 28 27<|p1 29 (.cvi .u8 28)<|o1 30 (.bsl 2 1 [(.int .u8 0)] [(0,24),(1,29)])<|o1 31 (.app 1 1 [(.int .u8 0)] 18 30) (.bar (pm 3 31 .done)))))) (.seq (sR (oj 32 1 1<|ol 33 32<|oL 34 33<|o1 35 (.mv z0) .done) (.block 0 (.loop (sR (ob 36 .lss 35 34 .done) (.seq (.cond 36 .skip (.exit 0)) (.seq (.block 1 (sR (om 37 35<|oI 38 1 33 35<|ol 39 38<|om 4 37<|om 5 39 .done) (sR (om 40 3<|om 41 5<|oL 42 41<|o1 43 (.cvi .u8 42)<|o1 44 (.bsl 1 1 [(.int .u8 0)] [(0,43)])<|o1 45 (.app 1 1 [(.int .u8 0)] 40 44)<|om 46 5<|o1 47 (.app 1 1 [(.int .u8 0)] 45 46)<|om 3 47 .done) (sR (oj 48 0 1<|ol 49 48 .done) (.cond 49 (.reg true (pm 50 3<|p1 51 (.fld 2 1)<|pl 52 51<|pm 53 4<|p1 54 (.idx 1 52 53)<|pl 55 54<|p1 56 (.len 55)<|p1 57 (.cvi .u8 56)<|p1 60 (.fld 2 1)<|pl 61 60<|pm 62 4<|p1 63 (.idx 1 61 62)<|pl 64 63<|o1 58 (.bsl 1 1 [(.int .u8 0)] [(0,57)])<|o1 59 (.app 1 1 [(.int .u8 0)] 50 58)<|o1 65 (.app 1 1 [(.int .u8 0)] 59 64) (.bar (pm 3 65 .done)))) (.reg true (pm 66 3<|p1 67 (.fld 3 1)<|pl 68 67<|pm 69 4<|p1 70 (.bin .add 69 z1)<|p1 71 (.idx 1 68 70)<|pl 72 71<|p1 73 (.bin .shr 72 (.const (.int .u64 8)))<|p1 74 (.cvi .u8 73)<|p1 75 (.fld 3 1)<|pl 76 75<|pm 77 4<|p1 78 (.bin .add 77 z1)<|p1 79 (.idx 1 76 78)<|pl 80 79<|p1 81 (.cvi .u8 80)<|o1 82 (.bsl 2 1 [(.int .u8 0)] [(0,74),(1,81)])<|o1 83 (.app 1 1 [(.int .u8 0)] 66 82) (.bar (pm 3 83 .done))))))))) (rG (ob 84 .add 35 z1<|om 35 84 .done)))))))) (sR (om 85 3<|o1 86 (.sl 1 85 none (some (kZ 256)) none)<|om 2 86 .done) .ret))))))⟩
def Zt(hd:dec P f=some Sq):Oj P f:=by
 intro d cs n hn hs hz;have hlen:=Pk n;obtain⟨lf,ks,vs,is⟩:=n;obtain⟨kv,vv,iv,rfl,hk,hv,hiv⟩:∃kv vv iv,cs=[.bool lf,kv,vv,iv]∧Dp d kv ks∧Dp d vv vs∧Dt d iv is:=hn;refine AK hd (Aca Z) ?_;obtain⟨ka,kc,kb,ko,rfl,kA,kS,kN,kl,km,kB,kx⟩:=hk;obtain⟨ia,ic,ib,io,rfl,iA,iS,iN,il,im,iB,ix⟩:=hiv;obtain⟨va,vc,vb,vo,rfl,vA,vS,vN,vl,vm,vB,vx⟩:=hv;show gwp P _ _ _ _ _;(refine Ad<|CC Z (fun _ _=>Ak Z<|Aa<|Ad ?_));rename_i b0 T0;refine JO (n:=0) (c:=256) Z Z (by omega) (by omega) (by omega) (fun b T=>?_);have hrow:Eh 256 _ _ _:=Eh.nil (N:=256) (b:=b) (T:=T);(refine Ak Z<|Aa<|Ad<|Ak Z<|Aj Z<|Ai Z (Aq 1 Z Z)<|AO Z<|Ed Z ?_);refine BA d [bx b0 T0 [.bool lf,.slice ka ks.length kc,.slice va vs.length vc,.slice ia is.length ic],bx b T (Bm [Value.int .u8 0] (256*1))] (Vs.perm (Adb _ _ _)) ?_;refine De (cs:=[.int .u8 2,As (u8n ks.length)]) (by omega) Z (fun b2 T2=>?_);refine Hz 1 (news:=[2,u8n ks.length]) Z Z hrow Z Z Z (by simp) (by omega) (fun v1 h1 hrow1=>?_);have hround:∀k,k<ks.length→(B4 ⟨lf,ks,vs,is⟩ (k+1)).length≤256:=by
  intro k hk;have h1:=hlen (k+1);have h2:=KB ⟨lf,ks,vs,is⟩ (show k+1≤ks.length from hk);simp only[Bc] at hz;simp only[AX,Acb] at hs;cases lf
  ·simp only[Ack,if_false,Acb,decide_eq_true_eq] at hs h1 hz;omega
  ·simp only[if_true] at hs h1 hz;omega
 cases lf
 ·obtain⟨hkl,hil,hio⟩:vs.length=0∧is.length=ks.length+1∧is.all FY=true:=by
   simp only[AX,Acb,Ack,if_false,decide_eq_true_eq] at hs;exact⟨hs.2.1.1,hs.2.1.2,hs.2.2⟩
  have hki:∀i (h:i<is.length),0≤is[i]∧is[i]≤8191:=fun i h=>by
   have:=Acv.1 hio _ (Acz h);simpa [FY] using this
  obtain⟨c0,hc0,hD0,⟨rfl,hr1,hr2⟩⟩:=ix 0 (by omega);replace hD0:=hD0.one;have hg0:is.getD 0 0=is[0]'(by omega):=by simp[show 0<is.length by omega]
  (refine AQ<|Aa<|Ag<|Ad<|Aj Z<|Ai Z (Aq 0 Z Z)<|Aa<|AS Z ?_);refine MS [0] [1] Z ?_;(refine AQ<|Aj Z<|Ai Z (Aq 0 Z Z)<|Cc 0 Z Z Z (by omega) (by assumption)<|Ai Z (BH (by assumption))<|IY Z Z (by decide)<|Ed Z<|Aj Z<|Ai Z (Aq 0 Z Z)<|Cc 0 Z Z Z (by omega) (by assumption)<|Ai Z (BH (by assumption))<|Ed Z ?_);refine De (cs:=(FK (is[0]'(by omega))).map As) (by omega) Z (fun b4 T4=>?_);refine Hz 0 (news:=FK (is[0]'(by omega))) Z Z hrow1 Z Z Z (by simp[FK]) (by omega) (fun v2 h2 hrow2=>?_);have hrow2':Eh 256 v2 (B4 ⟨false,ks,vs,is⟩ 0) h2:=by
   have e:B4 ⟨false,ks,vs,is⟩ 0=[]++[2,u8n ks.length]++FK (is[0]'(by omega)):=by simp[B4,headD,show 0<is.length by omega]
   rw[e];exact hrow2
  (refine Du<|AQ<|Aa<|Ag<|Ad<|Aj Z<|Ai Z (Aq 0 Z Z)<|AO Z<|Ac Z<|Aa<|Az ?_);refine BM (α:=Nat×Value×Ab) (fun x=>[(1,pZ b0),(3,x.2.1),(33,.slice ka ks.length kc),(34,vZ ks.length),(35,vZ x.1)])
   (fun x d' L'=>d'=d∧L'=[bx b0 T0 [.bool false,.slice ka ks.length kc,.slice va vs.length vc,.slice ia is.length ic],x.2.2]∧x.1≤ks.length∧Eh 256 x.2.1 (B4 ⟨false,ks,vs,is⟩ x.1) x.2.2) (fun x=>ks.length - x.1) (0,v2,h2)
   ⟨Z,Z,Z,Z,Z,trivial⟩ ⟨Z,Z,Adf _,hrow2'⟩ ?_
  rintro⟨k,v3,h3⟩ ρ d' L' ⟨hdd,hLL,hle,hrow3⟩;simp only at hLL hle hrow3;subst hdd;subst hLL;by_cases h:k<ks.length
  ·obtain⟨c0,hc0,hD1,⟨u0,rfl,hu0⟩⟩:=kx k h;replace hD1:=hD1.one;obtain⟨c1,hc1,hD2,⟨rfl,hs1,hs2⟩⟩:=ix (k+1) (by omega);replace hD2:=hD2.one;have hgk:ks.getD k []=ks[k]:=by simp[h]
   have hgi:is.getD (k+1) 0=is[k+1]'(by omega):=by simp[show k+1<is.length by omega]
   have hb:=hround k h;have hbe:B4 ⟨false,ks,vs,is⟩ (k+1)=B4 ⟨false,ks,vs,is⟩ k++[u8n ks[k].length]++ks[k]++FK (is[k+1]'(by omega)):=by simp[B4,tailD,DW,h,show k+1<is.length by omega]
   rw[hbe] at hb;simp only[Aci,Afa] at hb;(refine Ad<|AA Z Z<|Aa<|Ag<|AF Z (by omega)<|Al<|Ag<|Az<|Ad<|Ac Z ?_;apply Cc;rfl;rfl;rfl;omega;assumption;refine Ai Z (BH (by assumption))<|Ac Z<|AQ<|Aa<|Ad<|AQ<|AQ<|Bv Z (by assumption)<|Ed Z ?_);refine De (cs:=[As (u8n ks[k].length)]) (by omega) Z (fun b4 T4=>?_);refine Hz 1 (news:=[u8n ks[k].length]) Z Z hrow3 Z Z Z (by simp;omega) (by omega) (fun v4 h4 hrow4=>?_);(apply AQ);refine QP 1 (news:=ks[k]) Z Z hrow4 Z (hu0.rdx _) (by simp;omega) (by omega) (fun v5 h5 hrow5=>?_);(refine AQ<|Aa<|Ad<|Aj Z<|Ai Z (Aq 0 Z Z)<|Aa<|AS Z ?_);refine MS [0] [1] Z ?_;(refine AQ<|Aj Z<|Ai Z (Aq 0 Z Z)<|Ac Z<|AY Z Z (by omega) (by omega) ?_);refine Cc (k+1) Z Z (by omega) (by omega) iA ?_;(refine Ai Z (BH (by assumption))<|IY Z Z (by decide)<|Ed Z<|Aj Z<|Ai Z (Aq 0 Z Z)<|Ac Z<|AY Z Z (by omega) (by omega) ?_);refine Cc (k+1) Z Z (by omega) (by omega) iA ?_;(refine Ai Z (BH (by assumption))<|Ed Z ?_);refine De (cs:=(FK (is[k+1]'(by omega))).map As) (by omega) Z (fun b6 T6=>?_);refine Hz 0 (news:=FK (is[k+1]'(by omega))) Z Z hrow5 Z Z Z (by simp[FK] at hb⊢;omega) (by omega) (fun v6 h6 hrow6=>?_);(refine Du<|AQ<|Aa<|AI<|AY Z Z (by omega) (by omega)<|Ac Z<|Aa ?_);refine⟨(k+1,v6,h6),by simp;omega,⟨Z,Z,Z,Z,int_eq (by omega),trivial⟩,Z,Z,h,?_⟩
   simp only;rw[hbe];exact hrow6
  ·have e:k=ks.length:=by omega
   subst e;obtain⟨b7,rfl,hfull⟩:=hrow3.full;(refine Ad<|AA Z Z<|Aa<|Ag<|Aw Z (by omega)<|Ba<|Ad<|Ak Z ?_);refine YX (l:=0) (h:=256) (m:=256) Z Z (by omega) ?_;(refine Ak Z<|Aa<|Ao ?_);exact Ci (L':=[h3]) Z (Ade _ _) ⟨Z,h3,Z,hfull⟩
 ·have hvl:vs.length=ks.length:=by
   simp only[AX,Acb,if_true,decide_eq_true_eq] at hs;exact hs.2.1.1
  obtain⟨_,b3,T3,rfl,rfl⟩:=hrow1;(refine Ak Z<|Aa<|Ag<|Ad<|Aj Z<|Ai Z (Aq 0 Z Z)<|Aa<|A8 Z<|AI<|Ak Z ?_);refine Cc (b:=b3) (o:=0) 0 Z Z Z (by simp) (SAd.some _ b3 0) ?_;refine EW (v:=.int .u8 1) 1 Z Z Z Z (by rw[Aci,Adn,Adq];exact Aca Z) Z ?_;have hrow2':Eh 256 (.slice (some ⟨b3,0,none⟩) 2 256) (B4 ⟨true,ks,vs,is⟩ 0) (bx b3 T3 (patch (([]++[2,u8n ks.length]).map As++Acq (256 - ([]++[2,u8n ks.length]).length) (As 0)) (0+0*1) (Value.int .u8 1).cells.toList)):=by
   refine⟨by simp[B4,headD],b3,T3,by simp[B4,headD],?_⟩
   congr 1
  (refine Aa<|Ag<|Ad<|Aj Z<|Ai Z (Aq 0 Z Z)<|AO Z<|Ac Z<|Aa<|Az ?_);refine BM (α:=Nat×Value×Ab) (fun x=>[(1,pZ b0),(3,x.2.1),(33,.slice ka ks.length kc),(34,vZ ks.length),(35,vZ x.1)])
   (fun x d' L'=>d'=d∧L'=[bx b0 T0 [.bool true,.slice ka ks.length kc,.slice va vs.length vc,.slice ia is.length ic],x.2.2]∧x.1≤ks.length∧Eh 256 x.2.1 (B4 ⟨true,ks,vs,is⟩ x.1) x.2.2) (fun x=>ks.length - x.1) (0,_,_)
   ⟨Z,Z,Z,Z,Z,trivial⟩ ⟨Z,Z,Adf _,hrow2'⟩ ?_
  rintro⟨k,v3,h3⟩ ρ d' L' ⟨hdd,hLL,hle,hrow3⟩;simp only at hLL hle hrow3;subst hdd;subst hLL;by_cases h:k<ks.length
  ·obtain⟨c0,hc0,hD1,⟨u0,rfl,hu0⟩⟩:=kx k h;replace hD1:=hD1.one;obtain⟨c1,hc1,hD2,⟨u1,rfl,hu1⟩⟩:=vx k (by omega);replace hD2:=hD2.one;have hb:=hround k h;have hbe:B4 ⟨true,ks,vs,is⟩ (k+1)=B4 ⟨true,ks,vs,is⟩ k++[u8n ks[k].length]++ks[k]++[u8n (vs[k]'(by omega)).length]++vs[k]'(by omega):=by simp[B4,tailD,DW,FA,h,show k<vs.length by omega]
   rw[hbe] at hb;simp only[Aci,Afa] at hb;(refine Ad<|AA Z Z<|Aa<|Ag<|AF Z (by omega)<|Al<|Ag<|Az<|Ad<|Ac Z ?_;apply Cc;rfl;rfl;rfl;omega;assumption;refine Ai Z (BH (by assumption))<|Ac Z<|AQ<|Aa<|Ad<|AQ<|AQ<|Bv Z (by assumption)<|Ed Z ?_);refine De (cs:=[As (u8n ks[k].length)]) (by omega) Z (fun b4 T4=>?_);refine Hz 1 (news:=[u8n ks[k].length]) Z Z hrow3 Z Z Z (by simp;omega) (by omega) (fun v4 h4 hrow4=>?_);(apply AQ);refine QP 1 (news:=ks[k]) Z Z hrow4 Z (hu0.rdx _) (by simp;omega) (by omega) (fun v5 h5 hrow5=>?_);(refine AQ<|Aa<|Ad<|Aj Z<|Ai Z (Aq 0 Z Z)<|Aa<|A8 Z ?_);refine MS [0] [1] Z ?_;(refine AQ<|Aj Z<|Ai Z (Aq 0 Z Z)<|Ac Z ?_;apply Cc;rfl;rfl;rfl;omega;assumption;refine Ai Z (BH (by assumption))<|Bv Z (by assumption)<|Ed Z<|Aj Z<|Ai Z (Aq 0 Z Z)<|Ac Z ?_;apply Cc;rfl;rfl;rfl;omega;assumption;apply Ai;rfl;exact BH (by assumption));refine De (cs:=[As (u8n (vs[k]'(by omega)).length)]) (by omega) Z (fun b6 T6=>?_);refine Hz 0 (news:=[u8n (vs[k]'(by omega)).length]) Z Z hrow5 Z Z Z (by simp;omega) (by omega) (fun v6 h6 hrow6=>?_);refine QP 0 (news:=vs[k]'(by omega)) Z Z hrow6 Z (hu1.rdx _) (by simp;omega) (by omega) (fun v7 h7 hrow7=>?_);(refine Du<|AQ<|Aa<|AI<|AY Z Z (by omega) (by omega)<|Ac Z<|Aa ?_);refine⟨(k+1,v7,h7),by simp;omega,⟨Z,Z,Z,Z,int_eq (by omega),trivial⟩,Z,Z,h,?_⟩
   simp only;rw[hbe];exact hrow7
  ·have e:k=ks.length:=by omega
   subst e;obtain⟨b7,rfl,hfull⟩:=hrow3.full;(refine Ad<|AA Z Z<|Aa<|Ag<|Aw Z (by omega)<|Ba<|Ad<|Ak Z ?_);refine YX (l:=0) (h:=256) (m:=256) Z Z (by omega) ?_;(refine Ak Z<|Aa<|Ao ?_);exact Ci (L':=[h3]) Z (Ade _ _) ⟨Z,h3,Z,hfull⟩
def LJ(P:Program)(f:FuncId):Prop:=∀{d cs}{n:Ax},CO d cs n→Bc n≤1000000000000→
 AB P f [.agg cs.toArray] d [] (Ret fun r d' L'=>d'=d∧((AV n=true∧∃v h,r=.tuple #[v,vZ 0]∧L'=[h]∧Eh 256 v (B8 n) h)∨(AV n=false∧r=.tuple #[nV,vZ 200]∧L'=[])))
def Qz(a0 a1:Nat):A3:=⟨9,[(.tmp 2),(.tmp 3)],(sR (o1 1 (.box 0)<|o1 2 (.mv nS)<|o1 3 (.mv z0) .done) (.seq (sR (o1 4 (.ld (some 4) 1)<|oc 5 a0 [4]<|o1 6 (.un .not 5) .done) (.cond 6 (sR (o1 2 (.mv nS)<|o1 3 (.mv (kZ 200)) .done) .ret) .skip)) (sR (o1 7 (.ld (some 4) 1)<|oc 8 a1 [7]<|om 2 8<|o1 3 (.mv z0) .done) .ret)))⟩
def XI(hd:dec P f=some (Qz f1 f2))(h1:HF P f1)(h2:Oj P f2):LJ P f:=by
 intro d cs n hn hb;refine AK hd (Aca Z) ?_;have hn':=hn;obtain⟨kv,vv,iv,rfl,hk,hv,hiv⟩:∃kv vv iv,cs=[.bool n.leaf,kv,vv,iv]∧Dp d kv n.keys∧Dp d vv n.vals∧Dt d iv n.kids:=hn;show gwp P _ _ _ _ _;(refine Ad<|CC Z (fun _ _=>Ak Z<|Ac Z<|Aa<|Ag<|Ad<|Cg 0 Z Z Z ?_));refine Br Z (h1 hn' hb) ?_;cases hr:AV n with
 |false=>
  (refine Bd Z<|Aa<|A8 Z<|Ad<|Ak Z<|Ac Z<|Aa<|Ao ?_)
  exact Qt Z Z ⟨Z,.inr ⟨Z,Z,Z⟩⟩
 |true=>
  have hr':=hr
  simp only[AV,Acb,decide_eq_true_eq] at hr'
  (refine Bd Z<|Aa<|AS Z<|Al<|Ad<|Cg 0 Z Z Z ?_)
  refine CF Z (h2 hn' hr'.1 hr'.2) (fun r d' L' _ ⟨hdd,h,hL,hrow⟩=>?_)
  subst hdd;subst hL
  (refine AQ<|Ac Z<|Aa<|Ao ?_)
  exact Cw (L':=[h]) Z Z (by simp) ⟨Z,.inl ⟨Z,_,h,Z,Z,hrow⟩⟩
section
def CO.mono{d' cs}(h:CO d cs n)(hl:Le d d'):CO d' cs n:=
 let ⟨kv,vv,iv,e,h1,h2,h3⟩:=h
 ⟨kv,vv,iv,e,h1.mono hl,h2.mono hl,h3.mono hl⟩
attribute [local irreducible] B8
end
section
instance:DecidableEq Ax:=fun a b=>by
 obtain⟨a1,a2,a3,a4⟩:=a;obtain⟨b1,b2,b3,b4⟩:=b;simp only[Ax.mk.injEq];exact inferInstance
def Zv(hs:AX n=true)(hz:Bc n≤256):∀k,k≤n.keys.length→(B4 n k).length≤256:=by
 intro k hk;have h1:=Pk n k;have h2:=KB n hk;simp only[Bc] at hz;simp only[AX,Acb] at hs;cases h:n.leaf
 ·simp only[h,Ack,if_false,Acb,decide_eq_true_eq] at hs h1 hz;omega
 ·simp only[h,if_true] at hs h1 hz;omega
attribute [local irreducible] B4
end
def Ux(h:LJ P f){cs}(hn:CO d cs n)(hz:Bc n≤1000000000000):
  AB P f [.agg cs.toArray] d [] (Ret fun r d' L'=>d'=d∧∃v g,r=.tuple #[v,vZ (if AV n then 0 else 200)]∧L'=[g]∧An 1 AE d v (if AV n then B8 n else []) g):=by
 refine(h hn hz).EF (fun v d' L' _ hr=>?_)
 rcases hr with ⟨hdd,⟨hR,v,g,hv,hL,hrow⟩|⟨hR,hv,hL⟩⟩
 ·subst hdd
  exact⟨d',L',Vs.refl _ _,Z,v,g,by simp[hv,hR],hL,by simp only[hR,if_true];exact hrow.grow (by omega)⟩
 ·subst hdd;subst hL
  exact⟨d',[emp],Vs.emp,Z,nV,emp,by simp[hv,hR],Z,by simp only[hR];exact An.nil⟩
def Gm(d:Ab)(v:Value)(xs:List (List UInt8))(L:List Ab):Prop:=∃us h0 hs,Bu 1 v xs.length us h0∧hs.length=xs.length∧
 (∀i (hi:i<xs.length),∃u g,us[i]?=some u∧hs[i]?=some g∧An 1 AE d u xs[i] g)∧L=h0::hs
def Gm.AaC{d1 v xs L}(o:Gm d v xs L)(hl:Le d d1)(hL:∀h∈L,Le h d1):Dp d1 v xs:=by
 obtain⟨us,h0,hs,h1,h2,h3,rfl⟩:=o;refine h1.AaB (hL _ (Acm ..)) Z (fun i hi=>?_);obtain⟨u,g,k1,k2,k3⟩:=h3 i hi;exact⟨u,k1,u,Z,k3.rsl AP (by omega) hl (hL _ (Aco _ (List.mem_of_getElem? k2)))⟩
def Gm.val{v xs L}(o:Gm d v xs L):∃a c,v=.slice a xs.length c:=by
 obtain⟨us,h0,hs,h1,_⟩:=o;obtain⟨a,b,c,e,_⟩:=h1.slice;exact⟨a,c,e⟩
def wD(n:Ax)(i:Nat):Nat:=Ec n i+(if n.leaf then 0 else 2)
def Df(n:Ax):Nat→Nat
 |0=>0
 |k+1=>Df n k+wD n k
def PI(n:Ax):∀{k m:Nat},k≤m→Df n k≤Df n m:=by
 intro k m h;induction h with
 |refl=>exact Acj _
 |step _ ih=>simp only[Df];omega
def J5(n:Ax):Nat→Nat→Nat
 |0,a=>a
 |f+1,a=>if a<n.keys.length - 1∧2*Df n a<Df n n.keys.length then J5 n f (a+1) else a
def atD(n:Ax):Nat:=J5 n n.keys.length 0
def F7(n:Ax):Bool:=AX n && decide ((if n.leaf then 2 else 3)≤n.keys.length)
def at2(n:Ax):Nat:=max 2 (atD n)
def BJ(n:Ax):Ax:=if F7 n then(if n.leaf then⟨true,n.keys.take (atD n),n.vals.take (atD n),[]⟩ else⟨false,n.keys.take (at2 n - 1),[],n.kids.take (at2 n)⟩) else⟨false,[],[],[]⟩
def B0(n:Ax):Ax:=if F7 n then(if n.leaf then⟨true,n.keys.drop (atD n),n.vals.drop (atD n),[]⟩ else⟨false,n.keys.drop (at2 n),[],n.kids.drop (at2 n)⟩) else⟨false,[],[],[]⟩
def CE(n:Ax):List UInt8:=if F7 n then n.keys.getD (if n.leaf then atD n else at2 n - 1) [] else []
def Small(n:Ax):Prop:=Bc n≤1000000000000∧n.keys.length≤1000000000∧n.vals.length≤1000000000∧n.kids.length≤1000000000
def EZ(d:Ab)(cs:List Value)(n:Ax)(L:List Ab):Prop:=
 ∃kv vv iv Lk Lv hi,cs=[.bool n.leaf,kv,vv,iv]∧Gm d kv n.keys Lk∧Gm d vv n.vals Lv∧An 1 A7 d iv n.kids hi∧L=Lk++Lv++[hi]
def Gm.nil:Gm d nV [] [emp]:=⟨[],emp,[],Bu.nil 1,Z,fun i hi=>absurd hi (Aez i),Z⟩
def EZ.zero:EZ d [.bool false,nV,nV,nV] ⟨false,[],[],[]⟩ [emp,emp,emp]:=⟨_,_,_,[emp],[emp],emp,Z,Gm.nil,Gm.nil,An.nil,Z⟩
def EZ.Uh{d1 cs L}(o:EZ d cs n L)(hl:Le d d1)(hL:∀h∈L,Le h d1):CO d1 cs n:=by
 obtain⟨kv,vv,iv,Lk,Lv,hi,rfl,h1,h2,h3,rfl⟩:=o;exact⟨kv,vv,iv,Z,h1.AaC hl (fun h hm=>hL h (by simp[hm])),h2.AaC hl (fun h hm=>hL h (by simp[hm])),h3.rsl BE (by omega) hl (hL _ (by simp))⟩
end Go.Gk.Node
end
section
namespace Go.Gk.Node
open Go Go.Gk
section
attribute [local irreducible] gwp gws
end
end Go.Gk.Node
end
section
namespace Go.Gk.Node
open Go Go.Gk
attribute [local irreducible] gwp gws
variable{f f1:FuncId}{lf:Bool}
def FO(P:Program)(f:FuncId):Prop:=∀{d}{b:Nat}{T v l},AH d v l→∀n:Nat,n≤255→
 AB P f [pZ b,vZ n] d [bx b T [v]] (Ret fun r d' L'=>d'=d∧((l.length<n∧r=.tuple #[nV,.bool false]∧L'=[bx b T [v]])∨
  (n≤l.length∧∃u v' g,r=.tuple #[u,.bool true]∧L'=[g,bx b T [v']]∧An 1 AE d u (l.take n) g∧AH d v' (l.drop n))))
def Sf(a0:Nat):A3:=⟨27,[(.tmp 4),(.tmp 5)],(sR (o1 4 (.mv nS)<|o1 5 (.mv (.const (.bool false))) .done) (.seq (sR (om 7 1<|om 8 0<|o1 9 (.nilc 8)<|ol 10 9<|oL 11 10<|ob 12 .gtr 7 11 .done) (.cond 12 (sR (o1 4 (.mv nS)<|o1 5 (.mv (.const (.bool false))) .done) .ret) .skip)) (sR (om 13 0<|o1 14 (.nilc 13)<|ol 15 14<|om 16 1<|o1 17 (.sl 1 15 none (some 16) none)<|oc 18 a0 [17]<|om 6 18 .done) (sR (om 19 0<|om 20 0<|o1 21 (.nilc 20)<|ol 22 21<|om 23 1<|o1 24 (.sl 1 22 (some 23) none none)<|o1 25 (.nilc 19)<|o0 (.st 1 25 24) .done) (sR (om 26 6<|om 4 26<|o1 5 (.mv (.const (.bool true))) .done) .ret)))))⟩
def OC{P}(hd:dec P f=some (Sf f1))(h1:Fh AE 1 P f1):FO P f:=by
 intro d b T v l hv n hn;have hll:=AH.Bt hv;refine AK hd (Aca Z) ?_;show gwp P _ _ _ _ _;(refine Ad<|Ak Z<|Af Z<|Aa<|Ag<|Ad<|Ac Z<|Ah Z<|AJ Z<|Ai Z (Aq 0 Z Z)<|Bv Z (by assumption)<|Bb Z Z<|Aa ?_);first|refine Qb rfl (fun hc=>?_) (fun hc=>?_)|refine Vd rfl (fun hc=>?_) (fun hc=>?_)
 ·(refine Ad<|Ak Z<|Af Z<|Aa<|Ao ?_);exact Cw (L':=[bx b T [v]]) Z Z (Acd _) ⟨Z,.inl ⟨by omega,Z,Z⟩⟩
 ·refine Al<|Ad<|Ah Z<|AJ Z<|Ai Z (Aq 0 Z Z)<|Ac Z<|Oi Z hv Z Z (show n≤l.length by omega) (fun v1 hv1=>?_);refine CF Z (h1 hv1 (by simp;omega)) (fun u d1 L1 _ ⟨hdd,g,hL,hg⟩=>?_);subst hdd;subst hL;refine AQ<|Aa<|Ad<|Ah Z<|Ah Z<|AJ Z<|Ai Z (Aq 1 Z Z)<|Ac Z<|F6 Z hv Z Z (show n≤l.length by omega) (fun v2 hv2=>?_);obtain⟨a2,c2,rfl⟩:=RSl.val hv2;(apply AJ;rfl);refine EW 1 Z Z Z Z (by simp) Z ?_;(refine Aa<|Ad<|AQ<|AQ<|Af Z<|Aa<|Ao ?_);exact Cw (L':=[g,bx b T [.slice a2 (l.drop n).length c2]]) Z Z (Acd _) ⟨Z,.inr ⟨by omega,_,_,_,Z,Z,hg,hv2⟩⟩
def FP:List UInt8→Option (List UInt8×List UInt8)
 |[]=>none
 |x::r=>if r.length<x.toNat then none else some (r.take x.toNat,r.drop x.toNat)
def OI(P:Program)(f:FuncId):Prop:=∀{d}{b:Nat}{T v l},AH d v l→
 AB P f [pZ b] d [bx b T [v]] (Ret fun r d' L'=>d'=d∧((FP l=none∧r=.tuple #[nV,.bool false]∧∃v',L'=[bx b T [v']])∨
  (∃x rest u v' g,FP l=some (x,rest)∧r=.tuple #[u,.bool true]∧L'=[g,bx b T [v']]∧An 1 AE d u x g∧AH d v' rest)))
def R1(a0:Nat):A3:=⟨21,[(.tmp 2),(.tmp 3)],(sR (o1 2 (.mv nS)<|o1 3 (.mv (.const (.bool false))) .done) (sR (om 7 0<|oc 8 a0 [7,z1]<|om 6 8<|oe 9 6 0<|oe 10 6 1<|om 4 9<|om 5 10 .done) (.seq (sR (om 11 5<|o1 12 (.un .not 11) .done) (.cond 12 (sR (o1 2 (.mv nS)<|o1 3 (.mv (.const (.bool false))) .done) .ret) .skip)) (sR (om 13 0<|om 14 4<|o1 15 (.idx 1 14 z0)<|ol 16 15<|o1 17 (.cvi .i64 16)<|oc 18 a0 [13,17]<|oe 19 18 0<|oe 20 18 1<|om 2 19<|om 3 20 .done) .ret))))⟩
def Yw{P}(hd:dec P f=some (R1 f1))(h1:FO P f1):OI P f:=by
 intro d b T v l hv;refine AK hd (Aca Z) ?_;show gwp P _ _ _ _ _;refine Ad<|Ak Z<|Af Z<|Aa<|Ad<|Ah Z<|Fb 1 Z (h1 hv 1 (by omega)) (fun r d1 L1 _ ⟨hdd,hr⟩=>?_);subst hdd;rcases hr with ⟨hl,hr,hL⟩|⟨hl,u,v',g,hr,hL,hg,hv'⟩
 ·subst hr;subst hL;obtain rfl:l=[]:=Acl (by omega);(refine AU Z<|Ap Z Z<|Ap Z Z<|Ak Z<|Af Z<|Aa<|Ag<|Ad<|Af Z<|Bd Z<|Aa<|A8 Z<|Ad<|Ak Z<|Af Z<|Aa<|Ao ?_);exact Cw (L':=[bx b T [v]]) Z Z (Acd _) ⟨Z,.inl ⟨Z,Z,v,Z⟩⟩
 ·subst hr;subst hL;cases l with
  |nil=>simp at hl
  |cons x l=>
   have hx:x.toNat<256:=UInt8.toNat_lt x
   obtain⟨gb,gT,gl,gc,e1,rfl,hop⟩:=hg.CB (m:=0) (by simp)
   subst e1
   have hg0:gl[0]?=some (As x):=by simpa using hop.2.1
   (refine AU Z<|Ap Z Z<|Ap Z Z<|Ak Z<|Af Z<|Aa<|Ag<|Ad<|Af Z<|Bd Z<|Aa<|AS Z<|Al<|Ad<|Ah Z<|Ak Z ?_)
   refine Rt 0 Z Z Z (by simp) ?_
   (apply Ai;rfl;exact Aq 0 Z hg0)
   (apply DR;rfl;omega;omega)
   refine BA _ [bx b T [v']] (Vs.drop (Ade _ _)) ?_
   refine Fb 1 Z (h1 hv' x.toNat (by omega)) (fun r d2 L2 _ ⟨hdd,hr⟩=>?_)
   subst hdd
   have hv2:(List.drop 1 (x::l))=l:=Z
   rw[hv2] at hr
   rcases hr with ⟨hl2,hr,hL⟩|⟨hl2,u2,v2,g2,hr,hL,hg2,hv2'⟩
   ·subst hr;subst hL
    (refine Ap Z Z<|Ap Z Z<|Ak Z<|Af Z<|Aa<|Ao ?_)
    exact Cw (L':=[bx b T [v']]) Z Z (Acd _) ⟨Z,.inl ⟨by simp[FP,hl2],Z,v',Z⟩⟩
   ·subst hr;subst hL
    (refine Ap Z Z<|Ap Z Z<|AQ<|Af Z<|Aa<|Ao ?_)
    exact Cw (L':=[g2,bx b T [v2]]) Z Z (Acd _) ⟨Z,.inr ⟨l.take x.toNat,l.drop x.toNat,u2,v2,g2,by simp[FP];omega,Z,Z,hg2,hv2'⟩⟩
def Jg:List UInt8→Option (Nat×List UInt8)
 |a::b::r=>some (a.toNat*256+b.toNat,r)
 |_=>none
def Uu(P:Program)(f:FuncId):Prop:=∀{d}{b:Nat}{T v l},AH d v l→
 AB P f [pZ b] d [bx b T [v]] (Ret fun r d' L'=>d'=d∧((Jg l=none∧r=.tuple #[vZ 0,.bool false]∧∃v',L'=[bx b T [v']])∨
  (∃x rest v',Jg l=some (x,rest)∧r=.tuple #[vZ (x:Nat),.bool true]∧L'=[bx b T [v']]∧AH d v' rest)))
def TV(a0:Nat):A3:=⟨23,[(.tmp 2),(.tmp 3)],(sR (o1 2 (.mv z0)<|o1 3 (.mv (.const (.bool false))) .done) (sR (om 7 0<|oc 8 a0 [7,z2]<|om 6 8<|oe 9 6 0<|oe 10 6 1<|om 4 9<|om 5 10 .done) (.seq (sR (om 11 5<|o1 12 (.un .not 11) .done) (.cond 12 (sR (o1 2 (.mv z0)<|o1 3 (.mv (.const (.bool false))) .done) .ret) .skip)) (.seq (.reg true (pm 13 4<|p1 14 (.idx 1 13 z0)<|pl 15 14<|p1 16 (.cvi .i64 15)<|p1 17 (.bin .shl 16 (.const (.int .u64 8)))<|pm 18 4<|p1 19 (.idx 1 18 z1)<|pl 20 19<|p1 21 (.cvi .i64 20)<|p1 22 (.bin .or 17 21) (.bar (pm 2 22 (p1 3 (.mv (.const (.bool true))) .done))))) .ret))))⟩
def AaG{P}(hd:dec P f=some (TV f1))(h1:FO P f1):Uu P f:=by
 intro d b T v l hv;refine AK hd (Aca Z) ?_;show gwp P _ _ _ _ _;refine Ad<|Ac Z<|Af Z<|Aa<|Ad<|Ah Z<|Fb 1 Z (h1 hv 2 (by omega)) (fun r d1 L1 _ ⟨hdd,hr⟩=>?_);subst hdd;rcases hr with ⟨hl,hr,hL⟩|⟨hl,u,v',g,hr,hL,hg,hv'⟩
 ·subst hr;subst hL;have hk:Jg l=none:=by
   match l,hl with
   |[],_=>rfl
   |[a],_=>rfl
  (refine AU Z<|Ap Z Z<|Ap Z Z<|Ak Z<|Af Z<|Aa<|Ag<|Ad<|Af Z<|Bd Z<|Aa<|A8 Z<|Ad<|Ac Z<|Af Z<|Aa<|Ao ?_);exact Cw (L':=[bx b T [v]]) Z Z (Acd _) ⟨Z,.inl ⟨hk,Z,v,Z⟩⟩
 ·subst hr;subst hL;match l,hl,hg,hv' with
  |x::y::l,hl,hg,hv'=>
   have hx:x.toNat<256:=UInt8.toNat_lt x
   have hy:y.toNat<256:=UInt8.toNat_lt y
   have hop1:=hg.CB (m:=1) (by simp)
   obtain⟨gb,gT,gl,gc,e1,rfl,hop⟩:=hg.CB (m:=0) (by simp)
   subst e1
   have hg0:gl[0]?=some (As x):=by simpa using hop.2.1
   have hg1:gl[1]?=some (As y):=by
    obtain⟨gb1,gT1,gl1,gc1,e2,e3,hop1⟩:=hop1;have h4:=congrFun (congrFun e3 gb1) (.cells gl1.toArray gT1 (0,0));have h5:bx gb1 gT1 gl1 gb1 (.cells gl1.toArray gT1 (0,0)):=B2 _ _;rw[←h4] at h5;have h6:=(GV h5).2;simp only[Obj.cells.injEq] at h6;have h7:gl1=gl:=by have:=congrArg Array.toList h6.1;simpa using this
    rw[←h7];simpa using hop1.2.1
   (refine AU Z<|Ap Z Z<|Ap Z Z<|Ak Z<|Af Z<|Aa<|Ag<|Ad<|Af Z<|Bd Z<|Aa<|AS Z<|Al<|Ag<|C1<|Ak Z ?_)
   refine Rt 0 Z Z Z (by simp) ?_
   (apply Ai;rfl;exact Aq 0 Z hg0)
   (apply DR;rfl;omega;omega)
   refine RS (a:=x.toNat) Z Z (by omega) ?_
   (apply Ak;rfl)
   refine Rt 1 Z Z Z (by simp) ?_
   (apply Ai;rfl;exact Aq 0 Z hg1)
   (apply DR;rfl;omega;omega)
   refine Qq (a:=x.toNat) (b:=y.toNat) Z Z (by omega) hy ?_
   (refine Du<|Ac Z<|Af Z<|Aa<|Ao ?_)
   exact Cw (L':=[bx b T [v']]) Z Z (Ade _ _) ⟨Z,.inr ⟨_,l,v',Z,Z,Z,hv'⟩⟩
section
def Cj(lf:Bool)(l0:List UInt8)(is0:List Int):Nat→Option (List (List UInt8)×List (List UInt8)×List Int×List UInt8)
 |0=>some ([],[],is0,l0)
 |k+1=>match Cj lf l0 is0 k with
  |none=>none
  |some (ks,vs,is,l)=>match FP l with
   |none=>none
   |some (x,l1)=>match lf with
    |true=>match FP l1 with
     |none=>none
     |some (y,l2)=>some (ks++[x],vs++[y],is,l2)
    |false=>match Jg l1 with
     |none=>none
     |some (m,l2)=>some (ks++[x],vs,is++[(m:Int)],l2)
def Ss{l0}{is0:List Int}{k:Nat}(h:Cj lf l0 is0 k=none):∀{m:Nat},k≤m→Cj lf l0 is0 m=none:=by
 intro m hm;induction hm with
 |refl=>exact h
 |step _ ih=>simp[Cj,ih]
def FT(lf:Bool)(l:List UInt8):Option (List Int×List UInt8):=match lf with
 |true=>some ([],l)
 |false=>match Jg l with
  |none=>none
  |some (m,r)=>some ([(m:Int)],r)
def E4(b:List UInt8):Option Ax:=
 match FT (b.getD 0 0==1) (b.drop 2) with
 |none=>none
 |some (is0,l0)=>match Cj (b.getD 0 0==1) l0 is0 (b.getD 1 0).toNat with
  |none=>none
  |some (ks,vs,is,_)=>some ⟨b.getD 0 0==1,ks,vs,is⟩
def Oo{l0}{is0:List Int}:∀{k:Nat}{ks vs is l},Cj lf l0 is0 k=some (ks,vs,is,l)→ks.length=k∧vs.length≤k∧is.length≤is0.length+k:=by
 intro k;induction k with
 |zero=>intro ks vs is l h;simp only[Cj,Option.some.injEq,Prod.mk.injEq] at h;obtain⟨rfl,rfl,rfl,rfl⟩:=h;simp
 |succ k ih=>
  intro ks vs is l h
  simp only[Cj] at h
  split at h
  ·cases h
  ·rename_i ks' vs' is' l' e
   have:=ih e
   split at h
   ·cases h
   ·split at h
    ·split at h
     ·cases h
     ·simp only[Option.some.injEq,Prod.mk.injEq] at h;obtain⟨rfl,rfl,rfl,rfl⟩:=h;simp;omega
    ·split at h
     ·cases h
     ·simp only[Option.some.injEq,Prod.mk.injEq] at h;obtain⟨rfl,rfl,rfl,rfl⟩:=h;simp;omega
def OB(d:Ab)(v:Value)(xs:List (List UInt8))(h0:Ab)(hs:List Ab):Prop:=∃us,Bu 1 v xs.length us h0∧hs.length=xs.length∧∀i (hi:i<xs.length),∃u g,us[i]?=some u∧hs[i]?=some g∧An 1 AE d u xs[i] g
def OB.nil{d}:OB d nV [] emp []:=⟨[],Bu.nil 1,Z,fun i hi=>absurd hi (Aez i)⟩
def OB.X0{d v xs h0 hs}(o:OB d v xs h0 hs):Gm d v xs (h0::hs):=let ⟨us,a,b,c⟩:=o;⟨us,h0,hs,a,b,c,Z⟩
def OB.val{d v xs h0 hs}(o:OB d v xs h0 hs):∃a c,v=.slice a xs.length c:=o.X0.val
section
variable {P:Program}{pan:List PanicEntry→AL}{Qn:Env→AL}{Ls L:List Ab}{ρ:Env}{d:Ab}{s:GS}{t:Nat}
def SX{by_:Nat}{z x y}(i:Nat){v xs h0 hs}{b:Nat}{T u g l}(ex:ev ρ x=v)(hi:L[i]?=some h0)(o:OB d v xs h0 hs)
  (ey:ev ρ y=.slice (some ⟨b,0,none⟩) 1 1) (og:An 1 AE d u l g) (hm:xs.length+1≤140737488355328) (hb:(xs.length+1)*by_≤140737488355328)
  (k:∀v' h',OB d v' (xs++[l]) h' (hs++[g])→gws P pan Qn s Ls (upd ρ t v') d (L.set i h')):gws P pan Qn (.op false ⟨some t,none,.app 1 by_ z x y⟩ s) Ls ρ d (bx b T [u]::L):=by
 obtain⟨us,o1,o2,o3⟩:=o
 have hul:=o1.1
 obtain⟨a,c,rfl⟩:=og.val
 refine Zl i ex hi o1 ey Z Z (by omega) hm hb (fun v' h' o'=>k v' h' ⟨us++[.slice a l.length c],by simpa using o',by simp[o2],fun j hj=>?_⟩)
 by_cases e:j<xs.length
 ·obtain⟨u',g',e1,e2,e3⟩:=o3 j e
  exact⟨u',g',by rw[Aex (by omega)];exact e1,by rw[Aex (by omega)];exact e2,by rw[List.getElem_append_left e];exact e3⟩
 ·obtain rfl:j=xs.length:=by simp at hj;omega
  exact⟨.slice a l.length c,g,by rw[Aeo (by omega),hul,Nat.mul_one,Ahb];rfl,by rw[Aeo (by omega),o2,Ahb];rfl,by rw[List.getElem_append_right (Acj _)];simpa using og⟩
end
def SV{l r}{x:Nat}(h:Jg l=some (x,r)):x≤65535:=by
 match l,h with
 |a::b::l,h=>
  simp only[Jg,Option.some.injEq,Prod.mk.injEq] at h
  have:=a.toNat_lt
  have:=b.toNat_lt
  omega
def O1(P:Program)(f:FuncId):Prop:=∀{d v l},AH d v l→2≤l.length→
 AB P f [v] d [] (Ret fun r d' L'=>d'=d∧((∃cs:List Value,E4 l=none∧r=.tuple #[.agg cs.toArray,.bool false]∧cs.length=4∧(cs.all (·.oneCell'))=true∧L'=[])∨
  (∃(cs:List Value) (n:Ax),E4 l=some n∧r=.tuple #[.agg cs.toArray,.bool true]∧EZ d cs n L')))
def QQ(a0 a1:Nat):A3:=⟨85,[(.cell 2 (some 4)),(.tmp 3)],(sR (o1 2 (.alo (.agg #[(.bool false),nV,nV,nV]))<|o1 3 (.mv (.const (.bool false))) .done) (sR (om 14 0<|o1 15 (.idx 1 14 z0)<|ol 16 15<|ob 17 .eql 16 (.const (.int .u8 1))<|o1 18 (.bld [(0,1),(1,1),(2,1),(3,1)] [(.bool false),nV,nV,nV] [(0,17)])<|o1 4 (.alo (.agg #[(.bool false),nV,nV,nV]))<|o0 (.st 4 4 18) .done) (sR (om 19 0<|o1 20 (.sl 1 19 (some z2) none none)<|o1 5 (.alo nV)<|o0 (.st 1 5 20) .done) (.seq (sR (oj 21 0 4<|ol 22 21<|o1 23 (.un .not 22) .done) (.cond 23 (sR (oc 25 a0 [5]<|om 24 25<|oe 26 24 0<|oe 27 24 1<|om 6 26<|om 7 27 .done) (.seq (sR (om 28 7<|o1 29 (.un .not 28) .done) (.cond 29 (sR (o1 30 (.ld (some 4) 4)<|o0 (.st 4 2 30)<|o1 3 (.mv (.const (.bool false))) .done) .ret) .skip)) (rG (oj 31 3 4<|ol 32 31<|om 33 6<|o1 34 (.bsl 1 1 [(vZ 0)] [(0,33)])<|o1 35 (.app 1 8 [(vZ 0)] 32 34)<|oj 36 3 4<|o0 (.st 1 36 35) .done)))) .skip)) (.seq (sR (om 37 0<|o1 38 (.idx 1 37 z1)<|ol 39 38<|o1 40 (.mv (.const (.int .u8 0))) .done) (.block 0 (.loop (sR (ob 41 .lss 40 39 .done) (.seq (.cond 41 .skip (.exit 0)) (.seq (.block 1 (sR (oc 43 a1 [5]<|om 42 43<|oe 44 42 0<|oe 45 42 1<|om 8 44<|om 9 45 .done) (.seq (sR (om 46 9<|o1 47 (.un .not 46) .done) (.cond 47 (sR (o1 48 (.ld (some 4) 4)<|o0 (.st 4 2 48)<|o1 3 (.mv (.const (.bool false))) .done) .ret) .skip)) (sR (oj 49 1 4<|ol 50 49<|om 51 8<|o1 52 (.bsl 1 1 [nV] [(0,51)])<|o1 53 (.app 1 24 [nV] 50 52)<|oj 54 1 4<|o0 (.st 1 54 53) .done) (sR (oj 55 0 4<|ol 56 55 .done) (.cond 56 (sR (oc 58 a1 [5]<|om 57 58<|oe 59 57 0<|oe 60 57 1<|om 10 59<|om 11 60 .done) (.seq (sR (om 61 11<|o1 62 (.un .not 61) .done) (.cond 62 (sR (o1 63 (.ld (some 4) 4)<|o0 (.st 4 2 63)<|o1 3 (.mv (.const (.bool false))) .done) .ret) .skip)) (rG (oj 64 2 4<|ol 65 64<|om 66 10<|o1 67 (.bsl 1 1 [nV] [(0,66)])<|o1 68 (.app 1 24 [nV] 65 67)<|oj 69 2 4<|o0 (.st 1 69 68) .done)))) (sR (oc 71 a0 [5]<|om 70 71<|oe 72 70 0<|oe 73 70 1<|om 12 72<|om 13 73 .done) (.seq (sR (om 74 13<|o1 75 (.un .not 74) .done) (.cond 75 (sR (o1 76 (.ld (some 4) 4)<|o0 (.st 4 2 76)<|o1 3 (.mv (.const (.bool false))) .done) .ret) .skip)) (rG (oj 77 3 4<|ol 78 77<|om 79 12<|o1 80 (.bsl 1 1 [(vZ 0)] [(0,79)])<|o1 81 (.app 1 8 [(vZ 0)] 78 80)<|oj 82 3 4<|o0 (.st 1 82 81) .done)))))))))) (rG (ob 83 .add 40 (.const (.int .u8 1))<|om 40 83 .done)))))))) (sR (o1 84 (.ld (some 4) 4)<|o0 (.st 4 2 84)<|o1 3 (.mv (.const (.bool true))) .done) .ret))))))⟩
set_option maxHeartbeats 1000000 in
def XO{P f2}(hd:dec P f=some (QQ f1 f2))(h1:Uu P f1)(h2:OI P f2):O1 P f:=by
 intro d v l hv hl;refine AK hd (Aca Z) ?_;have hll:=AH.Bt hv;obtain⟨lf,hlf⟩:∃lf:Bool,lf=(l.getD 0 0==1):=⟨_,Z⟩
 have hlf':decide (((l[0]'(by omega)).toNat:Int)=1)=lf:=by
  rw[hlf];have:l.getD 0 0=l[0]'(by omega):=by simp[show 0<l.length by omega]
  rw[this,Ahc];simp only[decide_eq_true_eq,beq_iff_eq];constructor
  ·intro h;exact UInt8.toNat_inj.1 (by simpa using (by omega:(l[0]'(by omega)).toNat=1))
  ·intro h;rw[h];rfl
 show gwp P _ _ _ _ _;(refine Ad<|Dj (fun _ _=>Af Z<|Aa<|Ad<|AQ<|A0 (m:=0) (sz:=1) (R:=AE) (by rfl) (by assumption) (by rfl) Z (by omega) ?_);rintro _ _ _ _ _ rfl;refine Ai Z (Bp (by assumption) Z)<|AT Z Z<|Ch Z<|Dj (fun _ _=>?_));rw[hlf'];skip;rename_i b2 T2 _ _ _ _ b4 T4;refine EW 0 Z Z Z Z (by simp[Value.cells]) Z ?_;refine Aa<|Ad<|AQ<|F6 Z hv Z Z hl (fun lv hlv=>?_);obtain⟨la,lc,rfl⟩:=RSl.val hlv;(apply Dj;intro _ _);rename_i b5 T5;refine EW 0 Z Z Z Z (by simp[Value.cells]) Z ?_;refine Um d [bx b5 T5 [.slice la (l.drop 2).length lc],bx b4 T4 [.bool lf,nV,nV,nV],bx b2 T2 [.bool false,nV,nV,nV],emp,emp,emp] ((Vs.emp.trans (Vs.emp.trans Vs.emp)).trans (Vs.pick [3,4,5,0,1,2] Z)) ?_;refine NX (fun ρ d' L'=>d'=d∧Bk ρ [(0,v),(2,pZ b2),(4,pZ b4),(5,pZ b5)]∧∃is0 l0 ia ic lv hi,FT lf (l.drop 2)=some (is0,l0)∧is0.length≤1∧An 1 A7 d (.slice ia is0.length ic) is0 hi∧AH d lv l0∧L'=[bx b5 T5 [lv],bx b4 T4 [.bool lf,nV,nV,.slice ia is0.length ic],bx b2 T2 [.bool false,nV,nV,nV],emp,emp,hi]) ?_ ?_
 ·cases lf with
  |true=>
   (refine Ad<|Aj Z<|Ai Z (Aq 1 Z Z)<|Bd Z<|Aa<|AS Z<|Al ?_)
   exact⟨Z,⟨Z,Z,Z,Z,trivial⟩,[],l.drop 2,none,0,_,emp,Z,by simp,An.nil,hlv,Z⟩
  |false=>
   (refine Ad<|Aj Z<|Ai Z (Aq 1 Z Z)<|Bd Z<|Aa<|A8 Z<|Ad ?_)
   refine Fb 1 Z (h1 hlv) (fun r d1 L1 _ ⟨hdd,hr⟩=>?_)
   subst hdd
   rcases hr with ⟨hk,hr,v',hL⟩|⟨x,rest,v',hk,hr,hL,hv'⟩
   ·subst hr;subst hL
    (refine AU Z<|Ap Z Z<|Ap Z Z<|Ac Z<|Af Z<|Aa<|Ag<|Ad<|Af Z<|Bd Z<|Aa<|A8 Z<|Ad<|Cg 1 Z Z Z ?_)
    refine EW 2 Z Z Z Z (by simp) Z ?_
    (refine Af Z<|Aa<|Ao ?_)
    exact Dr [.agg [.bool false,nV,nV,nV].toArray,.bool false] ⟨Co 2 Z Z Z,Ar Z,trivial⟩ (Adj _) ⟨Z,.inl ⟨_,by simp only[E4,←hlf];simp[FT,hk],Z,Z,Z,Z⟩⟩
   ·subst hr;subst hL
    (refine AU Z<|Ap Z Z<|Ap Z Z<|Ac Z<|Af Z<|Aa<|Ag<|Ad<|Af Z<|Bd Z<|Aa<|AS Z<|Al<|AI<|Aj Z<|Ai Z (Aq 1 Z Z)<|Ac Z ?_)
    refine De (cs:=[vZ (x:Nat)]) (by omega) Z (fun b8 T8=>?_)
    have hx:=SV hk
    refine Ep (R:=A7) (xs:=[]) 5 Z Z An.nil Z (An.D7 Z ⟨Z,by omega,by omega⟩) D2 (by omega) (by simp) (by simp) (fun v8 h8 o8=>?_)
    obtain⟨a8,c8,rfl⟩:=o8.val
    (apply Aj;rfl)
    refine EW 1 Z Z Z Z (by simp) Z ?_
    (apply Aa)
    exact⟨Z,⟨Z,Z,Z,Z,trivial⟩,[(x:Int)],rest,a8,c8,v',h8,by simp[FT,hk],by simp,o8,hv',Z⟩
 ·rintro ρ d' L' ⟨hdd,hsl,is0,l0,ia,ic,lv,hi,hst,his,oi,hlv,hL⟩;subst hdd;subst hL;refine CY _ hsl ?_;(refine Ag<|Ad<|AQ<|A0 (sz:=1) (R:=AE) (by rfl) (by assumption) (by rfl) (Int.natCast_add _ 1).symm (by omega) ?_;rintro _ _ _ _ _ rfl;refine Ai Z (Bp (by assumption) Z)<|Ac Z<|Aa<|Az ?_);have hm:=UInt8.toNat_lt (l[1]'hl);have hg1:l.getD 1 0=l[1]'hl:=by simp[show 1<l.length by omega]
  have hpn:∀k,k≤(l[1]'hl).toNat→Cj lf l0 is0 k=none→E4 l=none:=by
   intro k hk h;simp only[E4,←hlf,hst,hg1,Ss h hk]
  refine BM (α:=Nat) (fun k=>[(2,pZ b2),(4,pZ b4),(5,pZ b5),(39,As (l[1]'hl)),(40,.int .u8 k)])
   (fun k d1 L'=>d'=d1∧k≤(l[1]'hl).toNat∧∃ks vs is l' ka kc va vc ia ic lv hk hks hv hvs hi,Cj lf l0 is0 k=some (ks,vs,is,l')∧OB d' (.slice ka ks.length kc) ks hk hks∧OB d' (.slice va vs.length vc) vs hv hvs∧An 1 A7 d' (.slice ia is.length ic) is hi∧AH d' lv l'∧
    L'=[bx b5 T5 [lv],bx b4 T4 [.bool lf,.slice ka ks.length kc,.slice va vs.length vc,.slice ia is.length ic],bx b2 T2 [.bool false,nV,nV,nV],hk,hv,hi]++(hks++hvs)) (fun k=>(l[1]'hl).toNat - k) 0
   ⟨Z,Z,Z,Z,Z,trivial⟩ ⟨Z,Adf _,[],[],is0,l0,none,0,none,0,ia,ic,lv,emp,[],emp,[],hi,Z,OB.nil,OB.nil,oi,hlv,Z⟩ ?_
  clear hlv oi;rintro k ρ d1 L' ⟨hdd,hk,ks,vs,is,l',ka,kc,va,vc,ia,ic,lv,hkb,hks,hvb,hvs,hi,hit,ok,ov,oi,hlv,hL⟩;subst hdd;subst hL;have hlen:=Oo hit;(refine Ad<|AA Z Z<|Aa<|Ag ?_);first|refine Qb rfl (fun hc=>?_) (fun hc=>?_)|refine Vd rfl (fun hc=>?_) (fun hc=>?_)
  ·have hk1:k<(l[1]'hl).toNat:=by omega
   refine Al<|Ag<|Az<|Ad<|Fb 1 Z (h2 hlv) (fun r d1 L1 _ ⟨hdd,hr⟩=>?_);subst hdd;rcases hr with ⟨hp,hr,v',hL⟩|⟨x,l1,u,v',g,hp,hr,hL,og,hlv1⟩
   ·subst hr;subst hL;refine AU Z<|Ap Z Z<|Ap Z Z<|Ak Z<|Af Z<|Aa<|Ag<|Ad<|Af Z<|Bd Z<|Aa<|A8 Z<|Ad<|Cg 1 Z Z Z<|EW 2 Z Z Z Z (by simp) Z ?_;(refine Af Z<|Aa<|Ao ?_);exact Dr [.agg [.bool lf,.slice ka ks.length kc,.slice va vs.length vc,.slice ia is.length ic].toArray,.bool false] ⟨Co 2 Z Z Z,Ar Z,trivial⟩ (Adj _) ⟨Z,.inl ⟨_,hpn (k+1) (by omega) (by simp[Cj,hit,hp]),Z,Z,Z,Z⟩⟩
   ·subst hr;subst hL;obtain⟨ua,uc,rfl⟩:=og.val;refine AU Z<|Ap Z Z<|Ap Z Z<|Ak Z<|Af Z<|Aa<|Ag<|Ad<|Af Z<|Bd Z<|Aa<|AS Z<|Al<|Ad<|Aj Z<|Ai Z (Aq 2 Z Z)<|Ak Z<|De (cs:=[.slice ua x.length uc]) (by omega) Z (fun b8 T8=>?_);refine SX 4 Z Z ok Z og (by omega) (by omega) (fun v8 h8 ok'=>?_);obtain⟨a8,c8,rfl⟩:=ok'.val;(apply Aj;rfl);refine EW 2 Z Z Z Z (by simp) Z ?_;refine Um _ ([bx b5 T5 [v'],bx b4 T4 [.bool lf,.slice a8 (ks++[x]).length c8,.slice va vs.length vc,.slice ia is.length ic],bx b2 T2 [.bool false,nV,nV,nV],h8,hvb,hi]++((hks++[g])++hvs)) (Vs.RD [[g],[bx b5 T5 [v']],[bx b4 T4 [.bool lf,.slice a8 (ks++[x]).length c8,.slice va vs.length vc,.slice ia is.length ic]],[bx b2 T2 [.bool false,nV,nV,nV]],[h8],[hvb],[hi],hks,hvs] [1,2,3,4,5,6,7,0,8] [] Z Z (by simp)) ?_;cases lf with
    |true=>
     (refine Ad<|Aj Z<|Ai Z (Aq 1 Z Z)<|Aa<|A8 Z<|Ad ?_)
     refine Fb 1 Z (h2 hlv1) (fun r d1 L1 _ ⟨hdd,hr⟩=>?_)
     subst hdd
     rcases hr with ⟨hp2,hr,v2,hL⟩|⟨y,l2,u2,v2,g2,hp2,hr,hL,og2,hlv2⟩
     ·subst hr;subst hL
      (refine AU Z<|Ap Z Z<|Ap Z Z<|Ak Z<|Af Z<|Aa<|Ag<|Ad<|Af Z<|Bd Z<|Aa<|A8 Z<|Ad<|Cg 1 Z Z Z ?_)
      refine EW 2 Z Z Z Z (by simp) Z ?_
      (refine Af Z<|Aa<|Ao ?_)
      exact Dr [.agg [.bool true,.slice a8 (ks++[x]).length c8,.slice va vs.length vc,.slice ia is.length ic].toArray,.bool false] ⟨Co 2 Z Z Z,Ar Z,trivial⟩ (Adj _) ⟨Z,.inl ⟨_,hpn (k+1) (by omega) (by simp[Cj,hit,hp,hp2]),Z,Z,Z,Z⟩⟩
     ·subst hr;subst hL
      obtain⟨ua2,uc2,rfl⟩:=og2.val
      (refine AU Z<|Ap Z Z<|Ap Z Z<|Ak Z<|Af Z<|Aa<|Ag<|Ad<|Af Z<|Bd Z<|Aa<|AS Z<|Al<|AI<|Aj Z<|Ai Z (Aq 2 Z Z)<|Ak Z ?_)
      refine De (cs:=[.slice ua2 y.length uc2]) (by omega) Z (fun b9 T9=>?_)
      refine SX 5 Z Z ov Z og2 (by omega) (by omega) (fun v9 h9 ov'=>?_)
      obtain⟨a9,c9,rfl⟩:=ov'.val
      (apply Aj;rfl)
      refine EW 2 Z Z Z Z (by simp) Z ?_
      refine Um _ ([bx b5 T5 [v2],bx b4 T4 [.bool true,.slice a8 (ks++[x]).length c8,.slice a9 (vs++[y]).length c9,.slice ia is.length ic],bx b2 T2 [.bool false,nV,nV,nV],h8,h9,hi]++((hks++[g])++(hvs++[g2]))) (Vs.RD [[g2],[bx b5 T5 [v2]],[bx b4 T4 [.bool true,.slice a8 (ks++[x]).length c8,.slice a9 (vs++[y]).length c9,.slice ia is.length ic]],[bx b2 T2 [.bool false,nV,nV,nV]],[h8],[h9],[hi],hks++[g],hvs] [1,2,3,4,5,6,7,8,0] [] Z Z (by simp)) ?_
      (apply AI)
      refine Vm Z Z (by omega) (by omega) ?_
      (refine Ac Z<|Aa ?_)
      exact⟨k+1,by omega,⟨Z,Z,Z,Z,int_eq (by omega),trivial⟩,Z,hk1,ks++[x],vs++[y],is,l2,a8,c8,a9,c9,ia,ic,v2,h8,hks++[g],h9,hvs++[g2],hi,by simp[Cj,hit,hp,hp2],ok',ov',oi,hlv2,Z⟩
    |false=>
     (refine Ad<|Aj Z<|Ai Z (Aq 1 Z Z)<|Aa<|AS Z<|Ad ?_)
     refine Fb 1 Z (h1 hlv1) (fun r d1 L1 _ ⟨hdd,hr⟩=>?_)
     subst hdd
     rcases hr with ⟨hp2,hr,v2,hL⟩|⟨y,l2,v2,hp2,hr,hL,hlv2⟩
     ·subst hr;subst hL
      (refine AU Z<|Ap Z Z<|Ap Z Z<|Ac Z<|Af Z<|Aa<|Ag<|Ad<|Af Z<|Bd Z<|Aa<|A8 Z<|Ad<|Cg 1 Z Z Z ?_)
      refine EW 2 Z Z Z Z (by simp) Z ?_
      (refine Af Z<|Aa<|Ao ?_)
      exact Dr [.agg [.bool false,.slice a8 (ks++[x]).length c8,.slice va vs.length vc,.slice ia is.length ic].toArray,.bool false] ⟨Co 2 Z Z Z,Ar Z,trivial⟩ (Adj _) ⟨Z,.inl ⟨_,hpn (k+1) (by omega) (by simp[Cj,hit,hp,hp2]),Z,Z,Z,Z⟩⟩
     ·subst hr;subst hL
      have hy:=SV hp2
      (refine AU Z<|Ap Z Z<|Ap Z Z<|Ac Z<|Af Z<|Aa<|Ag<|Ad<|Af Z<|Bd Z<|Aa<|AS Z<|Al<|AI<|Aj Z<|Ai Z (Aq 1 Z Z)<|Ac Z ?_)
      refine De (cs:=[vZ (y:Nat)]) (by omega) Z (fun b9 T9=>?_)
      refine Ep (R:=A7) 5 Z Z oi Z (An.D7 Z ⟨Z,by omega,by omega⟩) D2 (by omega) (by simp;omega) (by simp;omega) (fun v9 h9 oi'=>?_)
      obtain⟨a9,c9,rfl⟩:=oi'.val
      (apply Aj;rfl)
      refine EW 1 Z Z Z Z (by simp) Z ?_
      (refine Aa<|AI ?_)
      refine Vm Z Z (by omega) (by omega) ?_
      (refine Ac Z<|Aa ?_)
      exact⟨k+1,by omega,⟨Z,Z,Z,Z,int_eq (by omega),trivial⟩,Z,hk1,ks++[x],vs,is++[(y:Int)],l2,a8,c8,va,vc,a9,c9,v2,h8,hks++[g],hvb,hvs,h9,by simp[Cj,hit,hp,hp2],ok',ov,oi',hlv2,Z⟩
  ·obtain rfl:k=(l[1]'hl).toNat:=by omega
   refine Ba<|Ad<|Cg 1 Z Z Z<|EW 2 Z Z Z Z (by simp) Z ?_;refine Af Z<|Aa<|Ao<|A9 [.agg [.bool lf,.slice ka ks.length kc,.slice va vs.length vc,.slice ia is.length ic].toArray,.bool true] (L':=(hkb::hks)++(hvb::hvs)++[hi]) ⟨Co 2 Z Z Z,Ar Z,trivial⟩ (Vs.RD [[bx b5 T5 [lv]],[bx b4 T4 [.bool lf,.slice ka ks.length kc,.slice va vs.length vc,.slice ia is.length ic]],[bx b2 T2 [.bool lf,.slice ka ks.length kc,.slice va vs.length vc,.slice ia is.length ic]],[hkb],[hvb],[hi],hks,hvs] [3,6,4,7,5] [0,1,2] Z Z (by simp)) ⟨Z,.inr ⟨_,⟨lf,ks,vs,is⟩,?_,Z,_,_,_,_,_,_,Z,ok.X0,ov.X0,oi,Z⟩⟩;simp only[E4,←hlf,hst,hg1,hit]
end
def Iu:Ax:=⟨false,[],[],[]⟩
def Bq(b:List UInt8):Option Ax:=if b.length=256 then
  match E4 b with
  |some n=>if AV n=true∧B8 n=b then some n else none
  |none=>none
 else none
def Pd{l x r}(h:FP l=some (x,r)):x.length≤255:=by
 match l,h with
 |a::l,h=>
  simp only[FP] at h
  split at h
  ·cases h
  ·simp only[Option.some.injEq,Prod.mk.injEq] at h
   obtain⟨rfl,_⟩:=h
   have:=a.toNat_lt
   simp;omega
def Q6{l0}{is0:List Int}:∀{k:Nat}{ks vs is l},Cj lf l0 is0 k=some (ks,vs,is,l)→(∀x∈ks,x.length≤255)∧(∀x∈vs,x.length≤255):=by
 intro k;induction k with
 |zero=>intro ks vs is l h;simp only[Cj,Option.some.injEq,Prod.mk.injEq] at h;obtain⟨rfl,rfl,rfl,rfl⟩:=h;simp
 |succ k ih=>
  intro ks vs is l h
  simp only[Cj] at h
  split at h
  ·cases h
  ·rename_i ks' vs' is' l' e
   have:=ih e
   split at h
   ·cases h
   ·rename_i x l1 hp
    have hx:=Pd hp
    split at h
    ·split at h
     ·cases h
     ·rename_i y l2 hp2
      have hy:=Pd hp2
      simp only[Option.some.injEq,Prod.mk.injEq] at h;obtain⟨rfl,rfl,rfl,rfl⟩:=h
      refine⟨fun z hz=>?_,fun z hz=>?_⟩
      ·rcases Ach.1 hz with hz|hz
       ·exact this.1 z hz
       ·rw[Adh.1 hz];exact hx
      ·rcases Ach.1 hz with hz|hz
       ·exact this.2 z hz
       ·rw[Adh.1 hz];exact hy
    ·split at h
     ·cases h
     ·simp only[Option.some.injEq,Prod.mk.injEq] at h;obtain⟨rfl,rfl,rfl,rfl⟩:=h
      refine⟨fun z hz=>?_,this.2⟩
      rcases Ach.1 hz with hz|hz
      ·exact this.1 z hz
      ·rw[Adh.1 hz];exact hx
def NV{l:List (List UInt8)}(h:∀x∈l,x.length≤255)(i:Nat):(l.getD i []).length≤255:=by
 by_cases hi:i<l.length
 ·simp only[Aga,Acf hi,Option.getD_some];exact h _ (Acz hi)
 ·simp[Aga,Adx (Agh hi)]
def TY{n:Ax}(hk:∀x∈n.keys,x.length≤255)(hv:∀x∈n.vals,x.length≤255):∀k,Bx n k≤1000*k:=by
 intro k;induction k with
 |zero=>simp[Bx]
 |succ k ih=>
  have h1:=NV hk k
  have h2:=NV hv k
  simp only[Bx,Ec,DW,FA]
  split<;>omega
def U7{l is r}(h:FT lf l=some (is,r)):is.length≤1:=by
 cases lf<;>simp only[FT] at h
 ·split at h
  ·cases h
  ·simp only[Option.some.injEq,Prod.mk.injEq] at h;obtain⟨rfl,_⟩:=h;simp
 ·simp only[Option.some.injEq,Prod.mk.injEq] at h;obtain⟨rfl,_⟩:=h;simp
def Si{b}{n:Ax}(h:E4 b=some n):Bc n≤1000000000000:=by
 simp only[E4] at h;split at h
 ·cases h
 ·rename_i is0 l0 h0;split at h
  ·cases h
  ·rename_i ks vs is l hi;simp only[Option.some.injEq] at h;subst h;have h1:=Q6 hi;have h2:=Oo hi;have h3:=TY (n:=⟨b.getD 0 0==1,ks,vs,is⟩) h1.1 h1.2 ks.length;have h4:=(b.getD 1 0).toNat_lt;have h5:=U7 h0;simp only[Bc];split<;>omega
def N3(P:Program)(f:FuncId):Prop:=∀{d v b},AH d v b→
 AB P f [v] d [] (Ret fun r d' L'=>d'=d∧∃cs,r=.tuple #[.agg cs.toArray,vZ (if (Bq b).isSome then 0 else 200)]∧EZ d cs ((Bq b).getD Iu) L')
def SB(a0 a1 a2 a3:Nat):A3:=⟨31,[(.cell 2 (some 4)),(.tmp 3)],(sR (o1 2 (.alo (.agg #[(.bool false),nV,nV,nV]))<|o1 3 (.mv z0) .done) (.seq (sR (om 6 0<|oL 7 6<|ob 8 .neq 7 (kZ 256) .done) (.cond 8 (sR (o1 9 (.bld [(0,1),(1,1),(2,1),(3,1)] [(.bool false),nV,nV,nV] [])<|o0 (.st 4 2 9)<|o1 3 (.mv (kZ 200)) .done) .ret) .skip)) (sR (om 11 0<|oc 12 a0 [11]<|om 10 12<|oe 13 10 0<|oe 14 10 1<|o1 4 (.alo (.agg #[(.bool false),nV,nV,nV]))<|o0 (.st 4 4 13)<|om 5 14 .done) (.seq (sR (om 15 5<|o1 16 (.un .not 15)<|om 17 16<|oF 18 17 (.ld (some 4) 4)<|oF 19 17 (.call a1 [18])<|oF 20 17 (.un .not 19)<|o1 21 (.pick 17 (.const (.bool true)) 20)<|om 22 21<|oF 23 22 (.ld (some 4) 4)<|oF 24 22 (.call a2 [23])<|gF 25 22 0<|oF 26 22 (.call a3 [24,25])<|oF 27 22 (.un .not 26)<|o1 28 (.pick 22 (.const (.bool true)) 27) .done) (.cond 28 (sR (o1 29 (.bld [(0,1),(1,1),(2,1),(3,1)] [(.bool false),nV,nV,nV] [])<|o0 (.st 4 2 29)<|o1 3 (.mv (kZ 200)) .done) .ret) .skip)) (sR (o1 30 (.ld (some 4) 4)<|o0 (.st 4 2 30)<|o1 3 (.mv z0) .done) .ret)))))⟩
def Aaj{P f2 f3 f4}(hd:dec P f=some (SB f1 f2 f3 f4))(h1:O1 P f1)(h2:HF P f2)(h3:Oj P f3)(h4:Ll P f4):N3 P f:=by
 intro d v b hv;refine AK hd (Aca Z) ?_;show gwp P _ _ _ _ _;(refine Ad<|Dj (fun _ _=>Ac Z<|Aa<|Ag<|Ad<|AQ<|Bv Z (by assumption)<|AW Z Z<|Aa ?_));rename_i b2 T2;have hbad:∀{ρ d' L},d'=d→Bq b=none→ρ 2=pZ b2→ρ 3=vZ 200→(∃i:Nat,L[i]?=some (bx b2 T2 [.bool false,nV,nV,nV]))→
   Ct [.cell 2 (some 4),.tmp 3] (Ret fun r d' L'=>d'=d∧∃cs,r=.tuple #[.agg cs.toArray,vZ (if (Bq b).isSome then 0 else 200)]∧EZ d cs ((Bq b).getD Iu) L') ρ d' L:=by
  intro ρ d' L hdd hr e2 e3 ⟨i,hi⟩
  subst hdd
  refine A9 [.agg [.bool false,nV,nV,nV].toArray,vZ 200] (L':=[emp,emp,emp]) ⟨Co i e2 hi Z,Ar e3,trivial⟩ ((Vs.drop (Adj _)).trans (Vs.emp.trans (Vs.emp.trans Vs.emp))) ⟨Z,[.bool false,nV,nV,nV],?_,?_⟩
  ·rw[hr];rfl
  ·rw[hr];exact EZ.zero
 first|refine Qb rfl (fun hc=>?_) (fun hc=>?_)|refine Vd rfl (fun hc=>?_) (fun hc=>?_)
 ·refine Ad<|Ch Z<|EW 0 Z Z Z Z (by simp[Value.cells]) Z ?_;(refine Ac Z<|Aa<|Ao ?_);exact hbad Z (by simp[Bq,show b.length≠256 by omega]) Z Z ⟨0,Z⟩
 ·have hbl:b.length=256:=by omega
  refine Al<|Ad<|AQ<|CF Z (h1 hv (by omega)) (fun r d1 L1 _ ⟨hdd,hr⟩=>?_);subst hdd;rcases hr with ⟨cs,hp,hr,hcl,hc1,hL⟩|⟨cs,n,hp,hr,ho⟩
  ·subst hr;subst hL;have hcs:∃c1 c2 c3 c4,cs=[c1,c2,c3,c4]:=by
    match cs,hcl with
    |[a,b,c,e],_=>exact⟨a,b,c,e,Z⟩
   obtain⟨c1,c2,c3,c4,rfl⟩:=hcs;(refine AU Z<|Ap Z Z<|Ap Z Z<|Dj (fun _ _=>?_));refine EW 0 Z Z Z Z (by simp[Value.cells]) hc1 ?_;refine Af Z<|Aa<|Ag<|Ad<|Af Z<|Bd Z<|Af Z<|Am Z<|Am Z<|Am Z<|Ay Z Z<|Af Z<|Am Z<|Am Z<|Am Z<|Am Z<|Am Z<|Ay Z Z<|Aa<|A8 Z<|Ad<|Ch Z<|EW 1 Z Z Z Z (by simp[Value.cells]) Z ?_;(refine Ac Z<|Aa<|Ao ?_);exact hbad Z (by simp[Bq,hp]) Z Z ⟨1,Z⟩
  ·subst hr;have ho':=ho;obtain⟨kv,vv,iv,Lk,Lv,hi,rfl,ok,ov,oi,rfl⟩:=ho';obtain⟨ka,kc,rfl⟩:=ok.val;obtain⟨va,vc,rfl⟩:=ov.val;obtain⟨ia,ic,rfl⟩:=oi.val;have hsz:=Si hp;refine BA _ (bx b2 T2 [.bool false,nV,nV,nV]::(Lk++Lv++[hi])) (Vs.perm Acn) ?_;(refine AU Z<|Ap Z Z<|Ap Z Z<|Dj (fun _ _=>?_));rename_i b4 T4;refine Bg 0 [.bool n.leaf,.slice ka n.keys.length kc,.slice va n.vals.length vc,.slice ia n.kids.length ic] Z Z Z Z (by simp[Value.cells]) Z Z ?_;(refine Af Z<|Aa<|Ag<|Ad<|Af Z<|Bd Z<|Af Z<|Ae Z<|Cg 0 Z Z Z<|Ae Z ?_);have hrn:∀d2,Le d1 d2→(∀k∈(bx b4 T4 [.bool n.leaf,.slice ka n.keys.length kc,.slice va n.vals.length vc,.slice ia n.kids.length ic]::bx b2 T2 [.bool false,nV,nV,nV]::(Lk++Lv++[hi])),Le k d2)→CO d2 [.bool n.leaf,.slice ka n.keys.length kc,.slice va n.vals.length vc,.slice ia n.kids.length ic] n:=
    fun d1 hl hk=>ho.Uh hl (fun h hm=>hk h (Aco _ (Aco _ hm)))
   refine LM Z (fun d1 hl hk=>h2 (hrn d1 hl hk) hsz) ?_;cases hr:AV n with
   |false=>
    (refine Ae Z<|Bd Z<|Av Z Z<|Af Z<|Am Z<|Am Z<|Am Z<|Am Z<|Am Z<|Ay Z Z<|Aa<|A8 Z<|Ad<|Ch Z ?_)
    refine Bg 1 [.bool false,nV,nV,nV] Z Z Z Z (by simp) Z Z ?_
    (refine Ac Z<|Aa<|Ao ?_)
    exact hbad Z (by simp[Bq,hp,hr]) Z Z ⟨1,Z⟩
   |true=>
    have hr':=hr
    simp only[AV,Acb,decide_eq_true_eq] at hr'
    (refine Ae Z<|Bd Z<|Av Z Z<|Af Z<|Ae Z<|Cg 0 Z Z Z<|Ae Z ?_)
    refine IQ (Q:=fun r L'=>∃h,L'=[h]∧Eh 256 r (B8 n) h) Z (fun d1 hl hk=>(h3 (hrn d1 hl hk) hr'.1 hr'.2).mono (fun e d' L' _ h=>by
     cases e with
     |returned v=>exact h
     |panicked c=>exact h
     |outgrown=>exact h)) (fun r L' ⟨h,hL,hrow⟩=>?_)
    subst hL
    (refine Ae Z<|AQ<|Ae Z ?_)
    refine LM Z (fun d1 hl hk=>h4 (hrow.bytes (hk h (Acm ..)) (by omega)) (hv.mono hl)) ?_
    by_cases hpg:B8 n=b
    ·rw[decide_eq_true hpg]
     (refine Ae Z<|Bd Z<|Av Z Z<|Aa<|AS Z<|Al<|Ad<|Cg 1 Z Z Z ?_)
     refine Bg 2 [.bool n.leaf,.slice ka n.keys.length kc,.slice va n.vals.length vc,.slice ia n.kids.length ic] Z Z Z Z (by simp) Z Z ?_
     (refine Ac Z<|Aa<|Ao ?_)
     refine A9 [.agg [.bool n.leaf,.slice ka n.keys.length kc,.slice va n.vals.length vc,.slice ia n.kids.length ic].toArray,vZ 0] (L':=Lk++Lv++[hi]) ⟨Co 2 Z Z Z,Ar Z,trivial⟩
      (Vs.drop ((Ade _ _).trans ((Ade _ _).trans (Ade _ _)))) ⟨Z,[.bool n.leaf,.slice ka n.keys.length kc,.slice va n.vals.length vc,.slice ia n.kids.length ic],?_,?_⟩
     ·have:Bq b=some n:=by simp[Bq,hbl,hp,hr,hpg]
      rw[this];rfl
     ·have:Bq b=some n:=by simp[Bq,hbl,hp,hr,hpg]
      rw[this];exact ho
    ·rw[decide_eq_false hpg]
     (refine Ae Z<|Bd Z<|Av Z Z<|Aa<|A8 Z<|Ad<|Ch Z ?_)
     refine Bg 2 [.bool false,nV,nV,nV] Z Z Z Z (by simp) Z Z ?_
     (refine Ac Z<|Aa<|Ao ?_)
     exact hbad Z (by simp[Bq,hp,hpg]) Z Z ⟨2,Z⟩
def OU(b:List UInt8)(a:Int):Option (List UInt8×Nat):=if a<0 then none else
 match b[a.toNat]? with
 |none=>none
 |some k=>if a.toNat+1+k.toNat>b.length then none else some ((b.drop (a.toNat+1)).take k.toNat,a.toNat+1+k.toNat)
def ZO{b x}{a:Int}{e:Nat}(h:OU b a=some (x,e)):e≤b.length:=by
 simp only[OU] at h;split at h
 ·cases h
 ·split at h
  ·cases h
  ·split at h
   ·cases h
   ·simp only[Option.some.injEq,Prod.mk.injEq] at h;omega
def YN(P:Program)(f:FuncId):Prop:=∀{d v b},AH d v b→b.length≤1000→∀a:Int, -1≤a→a≤1000→
 AB P f [v,vZ a] d [] (Ret fun r d' L'=>d'=d∧((OU b a=none∧r=.tuple #[nV,vZ (-1)]∧L'=[])∨
  ∃x e u g,OU b a=some (x,e)∧r=.tuple #[u,vZ (e:Nat)]∧L'=[g]∧An 1 AE d u x g))
def YN.data{P}(h:YN P f){d v b}(hv:AH d v b)(hb:b.length≤1000){a:Int}(h1: -1≤a)(h2:a≤1000):
  AB P f [v,vZ a] d [] (Ret fun r d' L'=>L'=[]∧∃ua uc x a',r=.tuple #[.slice ua x.length uc,vZ a']∧AH d' (.slice ua x.length uc) x∧ -1≤a'∧a'≤b.length∧((a'= -1∧OU b a=none)∨∃e:Nat,a'=e∧OU b a=some (x,e))):=by
 refine(h hv hb a h1 h2).EF (fun r d' L' hl ⟨hdd,hr⟩=>?_)
 rcases hr with ⟨e1,rfl,rfl⟩|⟨x,e,u,g,e1,rfl,rfl,hg⟩
 ·exact⟨d',[],Vs.refl _ _,Z,none,0,[], -1,Z,RSl.nil,by omega,by omega,.inl ⟨Z,e1⟩⟩
 ·subst hdd
  obtain⟨ua,uc,rfl⟩:=hg.val
  have:=ZO e1
  exact⟨Gk.join d' g,[],Vs.freeze,Z,ua,uc,x,e,Z,hg.rsl AP (by omega) (Le.Au _ _) (Le.AZ _ _),by omega,by omega,.inr ⟨e,Z,e1⟩⟩
end Go.Gk.Node
end
section
namespace Go.Gk.Node
open Go Go.Gk
section
attribute [local irreducible] gwp gws
end
end Go.Gk.Node
end
