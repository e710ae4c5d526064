/-
  Our own texts, one behind the other: GkPg2 GkPg3 GkPg4 GkPg5 GkC5 GkPg6 GkPg7 GkPg8 GkPgL GkPgM Gk28 Gk29 Gk40 GkH1 GkH2 GkH3 GkH4 GkH5 GkNode1 GkNode2 GkNode3 GkNode4 GkNode5.
-/
import Derived.Recover
import Derived.BigFrame
import Derived.Test.YteekdjalpmjdhaaGreatPqC
set_option linter.defProp false
set_option linter.unusedVariables false
set_option linter.unusedSimpArgs false
open Nat renaming le_of_ble_eq_true→Aea,le_refl→Aef,zero_le→Aez,le_trans→Agp,add_sub_cancel→Agv,sub_self→Aia,le_of_not_lt→Air
open List.Sublist renaming refl→Aeb
open Bool renaming and_eq_true→Aec,false_eq_true→Aeh,or_eq_true→Afp,not_eq_true→Agr,not_eq_false'→Ahv,eq_iff_iff→Ajb,false_or→Ajp
open List renaming getElem?_eq_getElem→Aed,getD_eq_getElem?_getD→Aee,perm_append_comm→Aei,length_append→Aek,length_cons→Aep,length_take→Aer,take_succ_eq_append_getElem→Aes,replicate→Aeu,getElem_mem→Aey,range→Afb,sublist_cons_self→Afd,append_nil→Afh,nil_append→Afi,length_replicate→Afk,getElem?_eq_none→Afo,take_length→Afq,length_map→Afv,perm_append_comm_assoc→Afx,map_cons→Agw,getElem_drop→Ajc
open List.Perm renaming cons→Aem,swap→Afa
open Option renaming map_eq_some_iff→Afn
open Int renaming tdiv_eq_ediv_of_nonneg→Ajd
section
namespace Go.Gk.Pgr
open Go Go.Gk Go.Gk.Dev Go.Gk.Cch Go.Gk.Node
attribute [local irreducible] gwp gws xwp
variable{P:Program}{f f1 f2 f3:FuncId}{d:Ac}
def QT(s:PD)(k:Int):HD s.frm s.kinds k=s.kind k:=Z
def Tl:QZ 0 kI:=AcG
def Ff(P:Program)(f:FuncId):Prop:=∀{d s dv pv L},Pg d s dv pv L→AA P f [pv] d L (Ret fun r d' L'=>r=.tuple #[vZ s.AV.2.1,vZ s.AV.2.2]∧Pg d' s.AV.1 dv pv L')
def Ni(a0 a1:Nat):A0:=⟨37,[(.tmp 2),(.tmp 3)],(sR (o1 2 (.mv z0)<|o1 3 (.mv z0) .done) (.seq (sR (om 5 0<|oc 6 a0 [5] .done) (.cond 6 (sR (o1 2 (.mv z0)<|o1 3 (.mv z1) .done) .ret) .skip)) (sR (om 7 0<|o1 8 (.nilc 7)<|oj 9 3 8<|ol 10 9<|oc 11 a1 [10,z0]<|om 4 11 .done) (.seq (sR (om 12 4<|ob 13 .lss 12 z0 .done) (.cond 13 (sR (o1 2 (.mv z0)<|o1 3 (.mv (kZ 190)) .done) .ret) .skip)) (sR (om 14 0<|o1 15 (.nilc 14)<|oj 16 3 15<|ol 17 16<|om 18 4<|oI 19 1 17 18<|o0 (.st 1 19 z1) .done) (.seq (.reg true (pm 20 0<|p1 21 (.nilc 20)<|p1 22 (.fld 4 21)<|pl 23 22<|pm 24 0<|p1 25 (.nilc 24)<|p1 26 (.fld 2 25)<|pl 27 26<|pm 28 4<|p1 29 (.bin .add 27 28)<|o1 30 (.mks 1 1 [(.int .u8 0)] (kZ 256) (kZ 256))<|o0 (.mop (.up 0 23 29 30)) .done)) (sR (om 31 0<|o1 32 (.nilc 31)<|oj 33 2 32<|ol 34 33<|om 35 4<|ob 36 .add 34 35<|om 2 36<|o1 3 (.mv z0) .done) .ret)))))))⟩
set_option maxRecDepth 4000 in
def J6(hd:dec P f=some (Ni f1 f2))(h1:EA P f1)(h2:NG P f2):Ff P f:=by
 intro d s dv pv L hp;have hp0:=hp;obtain⟨b,T,cv,bk,cp,hk,mb,ms,clk,c,LC,LD,bd,rfl,rfl,rfl,hg,hm,hC,hD,hc,hG⟩:=hp;have hone:=hG.one;have hlen:=hG.len;have hinn:=hG.inn;have hsyn:=hG.syn;refine AG hd (Aea Z) ?_;show gwp P _ _ _ _ _;refine Ad<|Ab Z<|Ab Z<|Aa<|Ag<|Ad<|Am Z<|CR (A:=[_]) (B:=_::_::(LC++LD)) Z Z h1 ?_;refine Aa<|AS Z<|Ak<|Ad<|Am Z<|AF Z<|Ai Z<|Ah Z (Al 0 Z Z)<|Nz (A:=[hk]) (B:=_::_::(LC++LD)) (Afa _ _ _) Z (CP.borrow (fun d1 hl1 hk1=>h2 (x:=0) (As.rsl (R:=Bh) hg B6 (by omega) hl1 (hk1 _ (List.mem_singleton.2 Z))))) ?_;cases hq:Dk 0 s.kinds with
 |none=>
  refine EN (g:=11) (v:=vZ (-1)) Z ?_
  (refine Ab Z<|Aa<|Ag<|Ad<|Ab Z<|AB Z Z<|Aa<|Aw Z (by omega)<|Ad<|Ab Z<|Ab Z<|Aa<|Ap ?_)
  have hr:s.AV=(s,0,190):=by unfold PD.AV;rw[hq]
  rw[hr]
  exact Cw Z Z (Aeb _) ⟨Z,hp0⟩
 |some i=>
  obtain⟨hi,h0⟩:=Gj hq
  have hr:s.AV=(s.HX i,((s.frm+i:Nat):Int),0):=by unfold PD.AV;rw[hq]
  rw[hr]
  obtain⟨b1,T1,l1,c1,cs,q1,rfl,hcl,hcs,hle, -,hset⟩:=As.at (by omega) hg hi
  cases q1
  refine EN (g:=11) (v:=vZ i) Z ?_
  (refine Ab Z<|Aa<|Ag<|Ad<|Ab Z<|AB Z Z<|Aa<|Ar Z (by omega)<|Ak<|Ad<|Am Z<|AF Z<|Ai Z<|Ah Z (Al 0 Z Z)<|Ab Z<|BD _ Z Z Z (by omega) ?_)
  refine A7 1 (patch l1 (i*1) [vZ 1]) Z Z Z Z (by omega) Z Z ?_
  (refine Aa<|Ag ?_)
  refine Bw [_] _ Z ?_
  (refine Am Z<|AF Z<|Ai Z<|Ah Z (Al 0 Z Z)<|Am Z<|AF Z<|Ai Z<|Ah Z (Al 0 Z Z)<|Ab Z<|AM Z Z (by omega) (by omega) ?_)
  refine It (n:=256) (c:=256) Z Z (Aef _) (by omega) (by omega) (fun bz Tz=>?_)
  refine Abj (kE:=kI) (vE:=id) (k:=((s.frm+i:Nat):Int)) Tl 2 Z Z ?_ Z ?_
  ·exact int_eq (by omega)
  refine IG ⟨join d (bx bz Tz (Bq [.int .u8 0] (256*1))),_::_::_::(LC++LD),(Vs.perm (Afa _ _ _)).trans Vs.freeze,?_⟩
  have hl:Le d (join d (bx bz Tz (Bq [.int .u8 0] (256*1)))):=Le.Az _ _
  have hz:AJ (join d (bx bz Tz (Bq [.int .u8 0] (256*1)))) (.slice (some ⟨bz,0,none⟩) 256 256) JP:=
   As.rsl (R:=AH) (sz:=1) (As.zero (sz:=1) (z:=[.int .u8 0]) (d:=d) (b:=bz) (T:=Tz) (n:=256) (R:=AH) (x:=(0:UInt8)) Z (by omega) Z (by omega)) AL (by omega) hl (Le.A6 _ _)
  have hlk:(s.HX i).kinds.length=s.kinds.length:=by simp[PD.HX]
  have hP:=Pg.mk (d:=join d (bx bz Tz (Bq [.int .u8 0] (256*1)))) (s:=s.HX i) (b:=b) (T:=T) (cv:=cv) (bk:=bk) (cp:=cp) (mb:=mb) (clk:=Rc ((s.frm+i:Nat):Int) clk ms) (c:=c) (LC:=LC) (LD:=LD) (bd:=bd) hlk
   (As.mono (R:=Bh) B6 (hset [vZ 1] 1 Z ⟨Z,by decide,by decide⟩) hl) (ms:=Ho ((s.frm+i:Nat):Int) (.slice (some ⟨bz,0,none⟩) 256 256) clk ms) (fun j hj hj1=>?_) (hC.mono hl) (hD.mono hl)
   (hc.to Z Z (Og.set (by rw[show s.kinds.getD i 0=0 by rw[Aee,Aed hi,h0];rfl];omega))) (hG.to Z Z (i:=i) (x:=1) Z (by omega) (by omega))
  ·(refine Ad<|Am Z<|AF Z<|Ai Z<|Ah Z (Al 0 Z Z)<|Ab Z<|AM Z Z (by omega) (by omega)<|Ab Z<|Ab Z<|Aa<|Ap ?_)
   exact Cw (int_eq (show(s.frm:Int)+i=((s.frm+i:Nat):Int) by omega)) Z (Aeb _) ⟨Z,hP⟩
  ·show∃v,E0 ((s.frm+j:Nat):Int) (Ho ((s.frm+i:Nat):Int) (.slice (some ⟨bz,0,none⟩) 256 256) clk ms)=some v∧AJ _ v (EE s.fb i JP j)∧(EE s.fb i JP j).length=256
   rw[get_put]
   by_cases e:j=i
   ·subst e
    exact⟨_,if_pos Z,by simp only[EE,if_true];exact hz,by simp only[EE,if_true];exact Afk⟩
   ·rw[if_neg (by omega)]
    have hk1:s.kinds.getD j 0=1:=by
     have:(s.kinds.set i 1).getD j 0=1:=hj1;rw[Dl hi,if_neg e] at this;exact this
    obtain⟨v,g1,g2,g3⟩:=hm j (by rw[←hlk];exact hj) hk1
    exact⟨v,g1,by simp only[EE,if_neg e];exact g2.mono hl,by simp only[EE,if_neg e];exact g3⟩
def Jv(P:Program)(f:FuncId):Prop:=∀{d s dv pv w L}{k:Int}{b:Sec},Pg d s dv pv L→AJ d w b→AA P f [pv,vZ k,w] d L (Ret fun r d' L'=>r=vZ (s.put k b).2∧Pg d' (s.put k b).1 dv pv L')
def N0(a0 a1 a2:Nat):A0:=⟨26,[(.tmp 6)],(sR (o1 6 (.mv z0) .done) (.seq (.block 0 (sR (om 8 0<|oc 9 a0 [8]<|om 7 9 .done) (.cond 7 (sR (o1 6 (.mv z1) .done) .ret) (sR (om 11 0<|om 12 1<|oc 13 a1 [11,12]<|ob 14 .neq 13 z1<|om 10 14 .done) (.cond 10 (sR (o1 6 (.mv (kZ 240)) .done) .ret) (sR (om 16 2<|oL 17 16<|ob 18 .neq 17 (kZ 256)<|om 15 18 .done) (.cond 15 (sR (o1 6 (.mv z2) .done) .ret) .skip))))))) (.seq (.reg true (pm 19 0<|p1 20 (.nilc 19)<|p1 21 (.fld 4 20)<|pl 22 21<|pm 23 1<|pm 24 2<|oc 25 a2 [24]<|o0 (.mop (.up 0 22 23 25)) .done)) (sR (o1 6 (.mv z0) .done) .ret))))⟩
set_option maxRecDepth 4000 in
def ZL(hd:dec P f=some (N0 f1 f2 f3))(h1:EA P f1)(h2:I0 P f2)(h3:DX AH 1 P f3):Jv P f:=by
 intro d s dv pv w L k by_ hp hw;have hp0:=hp;have hwl:=hw.BF;have hw':RSl 1 AH d w by_:=hw;obtain⟨b,T,cv,bk,cp,hk,mb,ms,clk,c,LC,LD,bd,rfl,rfl,rfl,hg,hm,hC,hD,hc,hG⟩:=hp;have hlen:=hG.len;have hinn:=hG.inn;have hsyn:=hG.syn;refine AG hd (Aea Z) ?_;show gwp P _ _ _ _ _;refine Ad<|Ab Z<|Aa<|Ag<|Ax<|Ad<|Am Z<|CR (A:=[_]) (B:=_::_::(LC++LD)) Z Z h1 ?_;refine Ae Z<|Aa<|AS Z<|Ad<|Am Z<|Ab Z<|CR (A:=[_,hk]) (B:=_::(LC++LD)) Z Z (h2 (k:=k) hg (by omega)) ?_;rw[QT];by_cases hk1:s.kind k=1
 ·by_cases hb:by_.length=256
  ·obtain⟨i,hi,rfl,hki,hti⟩:=C0 hk1 (by omega);have hr:s.put ((s.frm+i:Nat):Int) by_=({s with fb:=EE s.fb i by_},0):=by unfold PD.put;rw[if_pos hk1,if_pos hb,hti]
   rw[hr];refine AO Z Z<|Ae Z<|Aa<|Ar Z (by omega)<|Ad<|AR<|BI Z (by assumption)<|AO Z Z<|Ae Z<|Aa<|Ar Z (by omega)<|Ak<|Ag<|Bw [_] (hk::mpI mb ms clk::(LC++LD)) Z ?_;refine Am Z<|AF Z<|Ai Z<|Ah Z (Al 0 Z Z)<|Ab Z<|AR<|Bl Z (h3 hw' (by omega)) (fun u d2 L2 _ ⟨e1,h,e2,hrow⟩=>?_);subst e1;subst e2;refine Abj (kE:=kI) (vE:=id) (k:=((s.frm+i:Nat):Int)) Tl 2 Z Z Z Z ?_;refine IG ⟨join d2 h,_::_::_::(LC++LD),(Vs.perm (Afa _ _ _)).trans Vs.freeze,?_⟩;have hl:Le d2 (join d2 h):=Le.Az _ _;have hz:AJ (join d2 h) u by_:=As.rsl (R:=AH) (sz:=1) hrow AL (by omega) hl (Le.A6 _ _);have hP:=Pg.mk (d:=join d2 h) (s:={s with fb:=EE s.fb i by_}) (b:=b) (T:=T) (cv:=cv) (bk:=bk) (cp:=cp) (mb:=mb) (clk:=Rc ((s.frm+i:Nat):Int) clk ms) (c:=c) (LC:=LC) (LD:=LD) (bd:=bd) Z
    (As.mono (R:=Bh) B6 hg hl) (ms:=Ho ((s.frm+i:Nat):Int) u clk ms) (fun j hj hj1=>?_) (hC.mono hl) (hD.mono hl) (hc.to Z Z (Og.refl _)) (hG.to' Z Z Z)
   ·(refine Ad<|Ab Z<|Aa<|Ap ?_);exact BO Z (Aeb _) ⟨Z,hP⟩
   ·show∃v,E0 ((s.frm+j:Nat):Int) (Ho ((s.frm+i:Nat):Int) u clk ms)=some v∧AJ _ v (EE s.fb i by_ j)∧(EE s.fb i by_ j).length=256;rw[get_put];by_cases e:j=i
    ·subst e;exact⟨_,if_pos Z,by simp only[EE,if_true];exact hz,by simp only[EE,if_true];exact hb⟩
    ·rw[if_neg (by omega)];obtain⟨v,g1,g2,g3⟩:=hm j hj hj1;exact⟨v,g1,by simp only[EE,if_neg e];exact g2.mono hl,by simp only[EE,if_neg e];exact g3⟩
  ·have hr:s.put k by_=(s,2):=by unfold PD.put;rw[if_pos hk1,if_neg hb]
   rw[hr];(refine AO Z Z<|Ae Z<|Aa<|Ar Z (by omega)<|Ad<|AR<|BI Z (by assumption)<|AO Z Z<|Ae Z<|Aa<|Aw Z (by omega)<|Ad<|Ab Z<|Aa<|Ap ?_);exact BO Z (Aeb _) ⟨Z,hp0⟩
 ·have hr:s.put k by_=(s,240):=by unfold PD.put;rw[if_neg hk1]
  rw[hr];(refine AO Z Z<|Ae Z<|Aa<|Aw Z (by omega)<|Ad<|Ab Z<|Aa<|Ap ?_);exact BO Z (Aeb _) ⟨Z,hp0⟩
def Gl(P:Program)(f:FuncId):Prop:=∀{d s dv pv L}{k:Int},Pg d s dv pv L→AA P f [pv,vZ k] d L (Ret fun r d' L'=>r=vZ (s.drop k).2∧Pg d' (s.drop k).1 dv pv L')
def Mq(a0 a1:Nat):A0:=⟨41,[(.tmp 4)],(sR (o1 4 (.mv z0) .done) (.seq (sR (om 5 0<|oc 6 a0 [5] .done) (.cond 6 (sR (o1 4 (.mv z1) .done) .ret) .skip)) (.seq (sR (om 7 0<|om 8 1<|oc 9 a1 [7,8] .done) (.block 0 (sR (ob 11 .eql 9 z1<|om 10 11 .done) (.cond 10 (.seq (.reg true (pm 12 0<|p1 13 (.nilc 12)<|p1 14 (.fld 3 13)<|pl 15 14<|pm 16 1<|pm 17 0<|p1 18 (.nilc 17)<|p1 19 (.fld 2 18)<|pl 20 19<|p1 21 (.bin .sub 16 20)<|p1 22 (.idx 1 15 21) (.bar (o0 (.st 1 22 z0) .done)))) (rG (om 23 0<|o1 24 (.nilc 23)<|oj 25 4 24<|ol 26 25<|om 27 1<|o0 (.mop (.del 0 26 27)) .done))) (sR (ob 29 .eql 9 z2<|om 28 29 .done) (.cond 28 (.reg true (pm 30 0<|p1 31 (.nilc 30)<|p1 32 (.fld 3 31)<|pl 33 32<|pm 34 1<|pm 35 0<|p1 36 (.nilc 35)<|p1 37 (.fld 2 36)<|pl 38 37<|p1 39 (.bin .sub 34 38)<|p1 40 (.idx 1 33 39) (.bar (o0 (.st 1 40 (kZ 3)) .done)))) (sR (o1 4 (.mv (kZ 240)) .done) .ret))))))) (sR (o1 4 (.mv z0) .done) .ret))))⟩
set_option maxRecDepth 4000 in
def Wp(hd:dec P f=some (Mq f1 f2))(h1:EA P f1)(h2:I0 P f2):Gl P f:=by
 intro d s dv pv L k hp;have hp0:=hp;obtain⟨b,T,cv,bk,cp,hk,mb,ms,clk,c,LC,LD,bd,rfl,rfl,rfl,hg,hm,hC,hD,hc,hG⟩:=hp;have hlen:=hG.len;have hinn:=hG.inn;have hsyn:=hG.syn;refine AG hd (Aea Z) ?_;show gwp P _ _ _ _ _;refine Ad<|Ab Z<|Aa<|Ag<|Ad<|Am Z<|CR (A:=[_]) (B:=_::_::(LC++LD)) Z Z h1 ?_;refine Aa<|AS Z<|Ak<|Ag<|Ad<|Am Z<|Ab Z<|CR (A:=[_,hk]) (B:=_::(LC++LD)) Z Z (h2 (k:=k) hg (by omega)) ?_;rw[QT];by_cases hk1:s.kind k=1
 ·obtain⟨i,hi,rfl,hki,hti⟩:=C0 hk1 (by omega);have hr:s.drop ((s.frm+i:Nat):Int)=({s with kinds:=s.kinds.set i 0},0):=by unfold PD.drop;rw[if_pos hk1,hti]
  rw[hr];obtain⟨b1,T1,l1,c1,cs,q1,rfl,hcl,hcs,hle, -,hset⟩:=As.at (by omega) hg hi;cases q1;refine Aa<|Ax<|Ad<|AN Z Z<|Ae Z<|Aa<|Aw Z (by omega)<|Ag<|Bw [_] (bx bk T1 l1::mpI mb ms clk::(LC++LD)) Z ?_;refine Am Z<|AF Z<|Ai Z<|Ah Z (Al 0 Z Z)<|Ab Z<|Am Z<|AF Z<|Ai Z<|Ah Z (Al 0 Z Z)<|CV Z Z (by omega) (by omega)<|BD i Z Z (by omega) hi ?_;(apply Cd);refine A7 1 (patch l1 (i*1) [vZ 0]) Z Z Z Z hle Z Z ?_;refine IG ⟨d,_::_::_::(LC++LD),Vs.refl _ _,?_⟩;refine AE<|Am Z<|AF Z<|Ai Z<|Ah Z (Al 0 Z Z)<|Ab Z<|Ac7 (k:=((s.frm+i:Nat):Int)) Tl 2 Z Z Z ?_;have hP:=Pg.mk (d:=d) (s:={s with kinds:=s.kinds.set i 0}) (b:=b) (T:=T) (cv:=cv) (bk:=bk) (cp:=cp) (mb:=mb) (clk:=clk) (c:=c) (LC:=LC) (LD:=LD) (bd:=bd) (n:=s.kinds.length) (by simp)
    (hset [vZ 0] 0 Z ⟨Z,by omega,by omega⟩) (ms:=JN ((s.frm+i:Nat):Int) ms) (fun j hj hj1=>?_) hC hD (hc.to Z Z (Og.set (by rw[show s.kinds.getD i 0=1 from hki];omega))) (hG.to Z Z Z (by omega) (by omega))
  ·(refine Aa<|Ad<|Ab Z<|Aa<|Ap ?_);exact BO Z (Aeb _) ⟨Z,hP⟩
  ·have hj1':(s.kinds.set i 0).getD j 0=1:=hj1;rw[Dl hi] at hj1';by_cases e:j=i
   ·rw[if_pos e] at hj1';cases hj1'
   ·rw[if_neg e] at hj1';obtain⟨v,g1,g2,g3⟩:=hm j (by simpa using hj) hj1';have g0:E0 ((s.frm+j:Nat):Int) (JN ((s.frm+i:Nat):Int) ms)=some v:=by rw[Xa (by omega)];exact g1
    exact⟨v,g0,g2,g3⟩
 ·by_cases hk2:s.kind k=2
  ·obtain⟨i,hi,rfl,hki,hti⟩:=C0 hk2 (by omega);have hr:s.drop ((s.frm+i:Nat):Int)=({s with kinds:=s.kinds.set i 3},0):=by unfold PD.drop;rw[if_neg hk1,if_pos hk2,hti]
   rw[hr];obtain⟨b1,T1,l1,c1,cs,q1,rfl,hcl,hcs,hle, -,hset⟩:=As.at (by omega) hg hi;cases q1;refine Aa<|Ax<|Ad<|AN Z Z<|Ae Z<|Aa<|Ar Z (by omega)<|Ad<|AN Z Z<|Ae Z<|Aa<|Aw Z (by omega)<|Bw [_] (bx bk T1 l1::mpI mb ms clk::(LC++LD)) Z ?_;refine Am Z<|AF Z<|Ai Z<|Ah Z (Al 0 Z Z)<|Ab Z<|Am Z<|AF Z<|Ai Z<|Ah Z (Al 0 Z Z)<|CV Z Z (by omega) (by omega)<|BD i Z Z (by omega) hi ?_;(apply Cd);refine A7 1 (patch l1 (i*1) [vZ 3]) Z Z Z Z hle Z Z ?_;refine IG ⟨d,_::_::_::(LC++LD),Vs.refl _ _,?_⟩;have hP:=Pg.mk (d:=d) (s:={s with kinds:=s.kinds.set i 3}) (b:=b) (T:=T) (cv:=cv) (bk:=bk) (cp:=cp) (mb:=mb) (clk:=clk) (c:=c) (LC:=LC) (LD:=LD) (bd:=bd) (n:=s.kinds.length) (by simp)
     (hset [vZ 3] 3 Z ⟨Z,by omega,by omega⟩) (ms:=ms) (fun j hj hj1=>?_) hC hD (hc.to Z Z (Og.set (by rw[show s.kinds.getD i 0=2 from hki];omega))) (hG.to Z Z Z (by omega) (by omega))
   ·(refine Ad<|Ab Z<|Aa<|Ap ?_);exact BO Z (Aeb _) ⟨Z,hP⟩
   ·have hj1':(s.kinds.set i 3).getD j 0=1:=hj1;rw[Dl hi] at hj1';by_cases e:j=i
    ·rw[if_pos e] at hj1';cases hj1'
    ·rw[if_neg e] at hj1';exact hm j (by simpa using hj) hj1'
  ·have hr:s.drop k=(s,240):=by unfold PD.drop;rw[if_neg hk1,if_neg hk2]
   rw[hr];(refine Aa<|Ax<|Ad<|AN Z Z<|Ae Z<|Aa<|Ar Z (by omega)<|Ad<|AN Z Z<|Ae Z<|Aa<|Ar Z (by omega)<|Ad<|Ab Z<|Aa<|Ap ?_);exact BO Z (Aeb _) ⟨Z,hp0⟩
def AdM(d:Ac)(h:Option Sec)(r:Value):Prop:=match h with|some x=>AJ d r x|none=>r=nV
def Fl(P:Program)(f:FuncId):Prop:=∀{d s dv pv L}{k:Int},Pg d s dv pv L→
 AA P f [pv,vZ k] d L (Ret fun r d' L'=>(∃q,r=.tuple #[q,vZ (match (s.get k).2 with|some _=>0|none=>240)]∧AdM d' (s.get k).2 q)∧Pg d' (s.get k).1 dv pv L')
def NZ(a0 a1 a2 a3 a4:Nat):A0:=⟨57,[(.tmp 4),(.tmp 5)],(sR (o1 4 (.mv nS)<|o1 5 (.mv z0) .done) (.seq (sR (om 8 0<|oc 9 a0 [8] .done) (.cond 9 (sR (o1 4 (.mv nS)<|o1 5 (.mv z1) .done) .ret) .skip)) (.seq (sR (om 10 0<|om 11 1<|oc 12 a1 [10,11] .done) (.block 0 (sR (ob 14 .eql 12 z1<|om 13 14 .done) (.cond 13 (sR (om 15 0<|o1 16 (.nilc 15)<|oj 17 6 16<|ol 18 17<|ob 19 .add 18 z1<|o1 20 (.nilc 15)<|oj 21 6 20<|o0 (.st 1 21 19) .done) (sR (om 22 0<|o1 23 (.nilc 22)<|oj 24 4 23<|ol 25 24<|om 26 1<|o1 27 (.mop (.lk 0 nV false 25 26))<|oc 28 a2 [27]<|om 4 28<|o1 5 (.mv z0) .done) .ret)) (sR (ob 30 .eql 12 z2<|om 29 30 .done) (.cond 29 (sR (om 32 0<|o1 33 (.nilc 32)<|oj 34 1 33<|ol 35 34<|om 36 1<|oc 37 a3 [35,36]<|om 31 37<|oe 38 31 0<|oe 39 31 1<|om 6 38<|om 7 39 .done) (.seq (sR (om 40 7<|ob 41 .neq 40 z0 .done) (.cond 41 (sR (om 42 7<|o1 4 (.mv nS)<|om 5 42 .done) .ret) .skip)) (sR (om 43 0<|o1 44 (.nilc 43)<|oj 45 1 44<|ol 46 45<|om 47 1<|oc 48 a4 [46,47] .done) (sR (om 49 0<|o1 50 (.nilc 49)<|oj 51 6 50<|ol 52 51<|ob 53 .add 52 z1<|o1 54 (.nilc 49)<|oj 55 6 54<|o0 (.st 1 55 53) .done) (sR (om 56 6<|om 4 56<|o1 5 (.mv z0) .done) .ret))))) .skip)))))) (sR (o1 4 (.mv nS)<|o1 5 (.mv (kZ 240)) .done) .ret))))⟩
set_option maxRecDepth 4000 in
def Xj{f4 f5}(hd:dec P f=some (NZ f1 f2 f3 f4 f5))(h1:EA P f1)(h2:I0 P f2)(h3:DX AH 1 P f3)(h4:J2 P f4)(h5:Hq P f5):Fl P f:=by
 intro d s dv pv L k hp;have hp0:=hp;obtain⟨b,T,cv,bk,cp,hk,mb,ms,clk,c,LC,LD,bd,rfl,rfl,rfl,hg,hm,hC,hD,hc,hG⟩:=hp;have hlen:=hG.len;have hinn:=hG.inn;have hsyn:=hG.syn;refine AG hd (Aea Z) ?_;show gwp P _ _ _ _ _;refine Ad<|Aj Z<|Ab Z<|Aa<|Ag<|Ad<|Am Z<|CR (A:=[_]) (B:=_::_::(LC++LD)) Z Z h1 ?_;refine Aa<|AS Z<|Ak<|Ag<|Ad<|Am Z<|Ab Z<|CR (A:=[_,hk]) (B:=_::(LC++LD)) Z Z (h2 (k:=k) hg (by omega)) ?_;rw[QT];by_cases hk1:s.kind k=1
 ·obtain⟨i,hi,rfl,hki,hti⟩:=C0 hk1 (by omega);have hr:s.get ((s.frm+i:Nat):Int)=({s with tc:=s.tc+1},some (s.fb i)):=by unfold PD.get;rw[if_pos hk1,hti]
  rw[hr];obtain⟨v,g1,g2,g3⟩:=hm i hi hki;refine Aa<|Ax<|Ad<|AN Z Z<|Ae Z<|Aa<|Aw Z (by omega)<|Ad<|Am Z<|AF Z<|Ai Z<|Ah Z (Al 0 Z Z)<|MM Z Z ?_;refine AF Z<|Ai Z<|A7 0 [pZ bd,cv,vZ s.frm,.slice (some ⟨bk,0,none⟩) s.kinds.length cp,.map (some mb),vZ (wr s.round),vZ (wr (s.tc+1))] Z Z Z Z (Aea Z) Z Z ?_;refine Aa<|Ad<|Am Z<|AF Z<|Ai Z<|Ah Z (Al 0 Z Z)<|Ab Z<|Abq (kE:=kI) (vE:=id) (k:=((s.frm+i:Nat):Int)) Tl 2 Z Z Z g1 ?_;refine Bl (vs:=[v]) Z (h3 g2 (by rw[g3];decide)) (fun u d2 L2 _ ⟨q1,h,q2,hrow⟩=>?_);subst q1;subst q2;(refine AR<|Ab Z<|Aa<|Ap ?_);have hP:=Pg.mk (d:=d2) (s:={s with tc:=s.tc+1}) (b:=b) (T:=T) (cv:=cv) (bk:=bk) (cp:=cp) (mb:=mb) (clk:=clk) (c:=c) (LC:=LC) (LD:=LD) (bd:=bd) Z hg hm hC hD (hc.to Z Z (Og.refl _)) (hG.to' Z Z Z);skip;exact A4 [u,vZ 0] ⟨Z,Z,trivial⟩ (d':=join d2 h) (L':=_::_::_::(LC++LD)) Vs.freeze ⟨⟨_,Z,As.rsl (R:=AH) (sz:=1) hrow AL (by omega) (Le.Az _ _) (Le.A6 _ _)⟩,hP.mono (Le.Az _ _)⟩
 ·by_cases hk2:s.kind k=2
  ·obtain⟨i,hi,rfl,hki,hti⟩:=C0 hk2 (by omega);have hr:s.get ((s.frm+i:Nat):Int)=({s with tc:=s.tc+1},some (s.syn.getD (s.frm+i) [])):=by unfold PD.get;rw[if_neg hk1,if_pos hk2];rfl
   rw[hr];obtain⟨c',e1,e2,e3,e4,e5⟩:=hc.get (k:=s.frm+i) (by omega) (by omega) (by omega) (by rw[show s.frm+i - s.frm=i by omega,hki];omega);(refine Aa<|Ax<|Ad<|AN Z Z<|Ae Z<|Aa<|Ar Z (by omega)<|Ad<|AN Z Z<|Ae Z<|Aa<|Aw Z (by omega)<|Ad<|Am Z<|AF Z<|Ai Z<|Ah Z (Al 0 Z Z)<|Ab Z ?_);have hcur:EK.cur ⟨s.syn,[]⟩ (s.frm+i)=s.syn.getD (s.frm+i) []:=Z;refine Ds (h4 (k:=s.frm+i) hC hD e2 (show s.frm+i<s.syn.length by omega)) (Aei (l₁:=[_,_,_])) Z (fun u d2 L2 hl2 ⟨LC2,LD2,q1,q2,q3,q4⟩=>?_);rw[hcur,e1] at q2 q4;obtain⟨v,rfl,hv⟩:=q4;subst q1;refine⟨d2,_::_::_::(LC2++LD2),Vs.perm (Aei (l₂:=[_,_,_])),?_⟩
   refine AT Z<|Ao Z Z<|Ao Z Z<|AR<|Ab Z<|Aa<|Ag<|Ad<|Ab Z<|AO Z Z<|Aa<|Ar Z (by omega)<|Ak<|Ad<|Am Z<|AF Z<|Ai Z<|Ah Z (Al 0 Z Z)<|Ab Z<|Ds (h5 (k:=s.frm+i) q2 e3) (Afx [_,_,_] _ _) Z (fun u d3 L3 hl3 ⟨q5,q6,q7⟩=>?_);subst q5;subst q6;refine⟨d3,_::_::_::(L3++LD2),Vs.perm (Afx _ [_,_,_] _),?_⟩
   refine Aa<|Ad<|Am Z<|AF Z<|Ai Z<|Ah Z (Al 0 Z Z)<|MM Z Z ?_;have hP:=Pg.mk (d:=d3) (s:={s with tc:=s.tc+1}) (b:=b) (T:=T) (cv:=cv) (bk:=bk) (cp:=cp) (mb:=mb) (clk:=clk) (c:=(Di c' (s.frm+i)).1) (LC:=L3) (LD:=LD2) (bd:=bd) Z (As.mono (R:=Bh) B6 hg hl2) (hm.mono hl2) q7 q3 (e5.to Z Z (Og.refl _)) (hG.to' Z Z Z);refine AF Z<|Ai Z<|A7 0 [pZ bd,cv,vZ s.frm,.slice (some ⟨bk,0,none⟩) s.kinds.length cp,.map (some mb),vZ (wr s.round),vZ (wr (s.tc+1))] Z Z Z Z (Aea Z) Z Z ?_;(refine Aa<|Ad<|AR<|AR<|Ab Z<|Aa<|Ap ?_);exact Cw Z Z (Aeb _) ⟨⟨_,Z,hv⟩,hP⟩
  ·have hr:s.get k=(s,none):=by unfold PD.get;rw[if_neg hk1,if_neg hk2]
   rw[hr];(refine Aa<|Ax<|Ad<|AN Z Z<|Ae Z<|Aa<|Ar Z (by omega)<|Ad<|AN Z Z<|Ae Z<|Aa<|Ar Z (by omega)<|Ak<|Ad<|Aj Z<|Ab Z<|Aa<|Ap ?_);exact Cw Z Z (Aeb _) ⟨⟨_,Z,Z⟩,hp0⟩
def Nw(P:Program)(f:FuncId):Prop:=∀{d s dv pv L},Pg d s dv pv L→AA P f [pv] d L (Ret fun r d' L'=>r=vZ 0∧d'=d∧Pg d' s.flush dv pv L')
def LY(a0 a1 a2:Nat):A0:=⟨51,[(.tmp 2)],(sR (o1 2 (.mv z0) .done) (.seq (sR (om 6 0<|oc 7 a0 [6] .done) (.cond 7 (sR (o1 2 (.mv z1) .done) .ret) .skip)) (.seq (sR (om 8 0<|o1 9 (.nilc 8)<|oj 10 3 9<|ol 11 10<|oL 12 11<|o1 13 (.mv z0) .done) (.block 0 (.loop (sR (ob 14 .lss 13 12 .done) (.seq (.cond 14 .skip (.exit 0)) (.seq (.block 1 (sR (om 15 13<|oI 16 1 11 13<|ol 17 16<|om 3 15<|om 4 17 .done) (.seq (sR (om 18 4<|ob 19 .neq 18 z1 .done) (.cond 19 (.exit 1) .skip)) (.seq (.reg true (pm 20 0<|p1 21 (.nilc 20)<|p1 22 (.fld 0 21)<|pl 23 22<|pm 24 0<|p1 25 (.nilc 24)<|p1 26 (.fld 2 25)<|pl 27 26<|pm 28 3<|p1 29 (.bin .add 27 28)<|pm 30 0<|p1 31 (.nilc 30)<|p1 32 (.fld 4 31)<|pl 33 32<|pm 34 0<|p1 35 (.nilc 34)<|p1 36 (.fld 2 35)<|pl 37 36<|pm 38 3<|p1 39 (.bin .add 37 38)<|o1 40 (.mop (.lk 0 nV false 33 39))<|oc 41 a1 [23,29,40] (.bar (pm 5 41 .done)))) (sR (om 42 5<|ob 43 .neq 42 z0 .done) (.cond 43 (sR (om 44 5<|om 2 44 .done) .ret) .skip)))))) (rG (ob 45 .add 13 z1<|om 13 45 .done)))))))) (sR (om 46 0<|o1 47 (.nilc 46)<|oj 48 0 47<|ol 49 48<|oc 50 a2 [49]<|om 2 50 .done) .ret))))⟩
set_option maxRecDepth 4000 in
set_option maxHeartbeats 1000000 in
def Vx(hd:dec P f=some (LY f1 f2 f3))(h1:EA P f1)(h2:K9 P f2)(h3:ND P f3):Nw P f:=by
 intro d s dv pv L hp;obtain⟨b,T,cv,bk,cp,hk,mb,ms,clk,c,LC,LD,bd,rfl,rfl,rfl,hg,hm,hC,hD,hc,hG⟩:=hp;have hone:=hG.one;have hlen:=hG.len;have hinn:=hG.inn;have hsyn:=hG.syn;refine AG hd (Aea Z) ?_;show gwp P _ _ _ _ _;refine Ad<|Ab Z<|Aa<|Ag<|Ad<|Am Z<|CR (A:=[_]) (B:=_::_::(LC++LD)) Z Z h1 ?_;refine Aa<|AS Z<|Ak<|Ag<|Ad<|Am Z<|AF Z<|Ai Z<|Ah Z (Al 0 Z Z)<|AI Z<|Ab Z<|Aa<|Ax<|Dd (α:=Nat×List Ac) (fun x=>[(0,pZ b),(11,.slice (some ⟨bk,0,none⟩) s.kinds.length cp),(12,vZ s.kinds.length),(13,vZ x.1)])
  (fun x=>bx b T [pZ bd,cv,vZ s.frm,.slice (some ⟨bk,0,none⟩) s.kinds.length cp,.map (some mb),vZ (wr s.round),vZ (wr s.tc)]::hk::mpI mb ms clk::(LC++x.2))
  (fun x=>x.1≤s.kinds.length∧Dv d ⟨s.syn,s.writes x.1⟩ (pZ bd) x.2) (fun x=>s.kinds.length - x.1) (0,LD) ⟨Z,Z,Z,Z,trivial⟩ Z ⟨by simp only;omega,hD⟩ ?_
 rintro⟨i,LD1⟩ ρ ⟨hi,hD1⟩;simp only at hi hD1⊢;by_cases e:i<s.kinds.length
 ·obtain⟨b1,T1,l1,c1,cs,q1,rfl,hcl,hcs,hle,⟨rfl,hb1,hb2⟩, -⟩:=As.at (by omega) hg e;cases q1;have c0:=hcs 0 _ Z;have hkd:s.kinds[i]=s.kd i:=(Kq e).symm;by_cases hk1:s.kinds[i]=1
  ·have hw:s.writes (i+1)=s.writes i++[(s.frm+i,s.fb i)]:=by rw[PD.writes,if_pos (by rw[←hkd];exact hk1)]
   obtain⟨v,g1,g2,g3⟩:=hm i e (by rw[←hk1,hkd]);refine Ad<|AB Z Z<|Aa<|Ag<|Aw Z (by omega)<|Ak<|Ag<|Ax<|Ad<|Ab Z<|BD _ Z Z Z (by omega)<|Ah Z (Al 1 Z (by assumption))<|Ab Z<|Ab Z<|Aa<|Ag<|Ad<|Ab Z<|AO Z Z<|Aa<|Ar Z (by omega)<|Ak<|Ag<|Bw [_] (bx bk T1 l1::mpI mb ms clk::(LC++LD1)) Z ?_;refine Am Z<|AF Z<|Ai Z<|Ah Z (Al 0 Z Z)<|Am Z<|AF Z<|Ai Z<|Ah Z (Al 0 Z Z)<|Ab Z<|AM Z Z (by omega) (by omega)<|Am Z<|AF Z<|Ai Z<|Ah Z (Al 0 Z Z)<|Am Z<|AF Z<|Ai Z<|Ah Z (Al 0 Z Z)<|Ab Z<|AM Z Z (by omega) (by omega)<|Abq (kE:=kI) (vE:=id) (k:=((s.frm+i:Nat):Int)) Tl 2 Z Z Z g1 ?_;have hwl:=P4 (s:=s) (n:=i);refine Ds (h2 (k:=s.frm+i) hD1 (show s.frm+i<s.syn.length by omega) g2 g3 (show(s.writes i).length≤1000000 by omega)) (Aei (l₁:=bx bk T1 l1::mpI mb ms clk::LC)) Z (fun u d2 L2 hl2 ⟨q1,q2,q3⟩=>?_);subst q1;subst q2;refine⟨d2,_::_::(LC++L2),Vs.perm (Aei (l₂:=bx bk T1 l1::mpI mb ms clk::LC)),?_⟩
   (refine Cd<|Ab Z<|Aa<|Ad<|Ab Z<|AO Z Z<|Aa<|Ar Z (by omega)<|Ak<|AE<|AM Z Z (by omega) (by omega)<|Ab Z<|Aa ?_);exact⟨(i+1,L2),by simp only;omega,⟨Z,Z,Z,Z,trivial⟩,Z,Z,e,by rw[hw];exact q3⟩
  ·have hw:s.writes (i+1)=s.writes i:=by rw[PD.writes,if_neg (by rw[←hkd];exact hk1),Afh]
   (refine Ad<|AB Z Z<|Aa<|Ag<|Aw Z (by omega)<|Ak<|Ag<|Ax<|Ad<|Ab Z<|BD _ Z Z Z (by omega)<|Ah Z (Al 1 Z (by assumption))<|Ab Z<|Ab Z<|Aa<|Ag<|Ad<|Ab Z<|AO Z Z<|Aa<|Aw Z (by omega)<|Bd<|AE<|AM Z Z (by omega) (by omega)<|Ab Z<|Aa ?_);exact⟨(i+1,LD1),by simp only;omega,⟨Z,Z,Z,Z,trivial⟩,Z,Z,e,by simp only[hw];exact hD1⟩
 ·have:i=s.kinds.length:=by omega
  subst this;refine Ad<|AB Z Z<|Aa<|Ag<|Ar Z (by omega)<|Bd<|Ad<|Am Z<|AF Z<|Ai Z<|Ah Z (Al 0 Z Z)<|Ds (h3 hD1 (show 1≤s.syn.length by omega)) (Aei (l₁:=_::_::_::LC)) Z (fun u d2 L2 hl2 ⟨q1,q2,q3⟩=>?_);subst q1;subst q2;refine⟨d2,_::_::_::(LC++L2),Vs.perm (Aei (l₂:=_::_::_::LC)),?_⟩
  have hP:=Pg.mk (d:=d2) (s:=s.flush) (b:=b) (T:=T) (cv:=cv) (bk:=bk) (cp:=cp) (mb:=mb) (ms:=ms) (clk:=clk) (c:=c) (LC:=LC) (LD:=L2) (bd:=bd) Z hg hm hC q3 hc.flush hG.flush;(refine Ab Z<|Aa<|Ap ?_);exact BO Z (Aeb _) ⟨Z,Z,hP⟩
def PU(P:Program)(f:FuncId):Prop:=∀{d s dv pv L},Pg d s dv pv L→AA P f [pv] d L (Ret fun r d' L'=>r=vZ 0∧d'=d∧Pg d' s.done dv pv L')
def M0(a0 a1:Nat):A0:=⟨57,[(.tmp 2)],(sR (o1 2 (.mv z0) .done) (.seq (sR (om 5 0<|oc 6 a0 [5] .done) (.cond 6 (sR (o1 2 (.mv z1) .done) .ret) .skip)) (.seq (sR (om 7 0<|o1 8 (.nilc 7)<|oj 9 3 8<|ol 10 9<|oL 11 10<|o1 12 (.mv z0) .done) (.block 0 (.loop (sR (ob 13 .lss 12 11 .done) (.seq (.cond 13 .skip (.exit 0)) (.seq (.block 1 (sR (om 14 12<|oI 15 1 10 12<|ol 16 15<|om 3 14<|om 4 16 .done) (sR (om 17 4 .done) (.block 2 (sR (ob 19 .eql 17 (kZ 3)<|om 18 19 .done) (.cond 18 (sR (om 20 0<|o1 21 (.nilc 20)<|oj 22 3 21<|ol 23 22<|om 24 3<|oI 25 1 23 24<|o0 (.st 1 25 z0) .done) (.reg true (pm 26 0<|p1 27 (.nilc 26)<|p1 28 (.fld 1 27)<|pl 29 28<|pm 30 0<|p1 31 (.nilc 30)<|p1 32 (.fld 2 31)<|pl 33 32<|pm 34 3<|p1 35 (.bin .add 33 34)<|oc 36 a1 [29,35] .done))) (sR (ob 38 .eql 17 z1<|om 37 38 .done) (.cond 37 (rG (om 39 0<|o1 40 (.nilc 39)<|oj 41 3 40<|ol 42 41<|om 43 3<|oI 44 1 42 43<|o0 (.st 1 44 z2) .done)) .skip)))))))) (rG (ob 45 .add 12 z1<|om 12 45 .done)))))))) (sR (om 46 0<|o1 47 (.nilc 46)<|oj 48 4 47<|ol 49 48<|o0 (.mop (.clr 49)) .done) (sR (om 50 0<|o1 51 (.nilc 50)<|oj 52 5 51<|ol 53 52<|ob 54 .add 53 z1<|o1 55 (.nilc 50)<|oj 56 5 55<|o0 (.st 1 56 54) .done) (sR (o1 2 (.mv z0) .done) .ret))))))⟩
set_option maxRecDepth 4000 in
set_option maxHeartbeats 1000000 in
def Xm(hd:dec P f=some (M0 f1 f2))(h1:EA P f1)(h2:GF P f2):PU P f:=by
 intro d s dv pv L hp;obtain⟨b,T,cv,bk,cp,hk,mb,ms,clk,c,LC,LD,bd,rfl,rfl,rfl,hg,hm,hC,hD,hc,hG⟩:=hp;have hone:=hG.one;have hlen:=hG.len;have hinn:=hG.inn;have hsyn:=hG.syn;refine AG hd (Aea Z) ?_;show gwp P _ _ _ _ _;refine Ad<|Ab Z<|Aa<|Ag<|Ad<|Am Z<|CR (A:=[_]) (B:=_::_::(LC++LD)) Z Z h1 ?_;refine Aa<|AS Z<|Ak<|Ag<|Ad<|Am Z<|AF Z<|Ai Z<|Ah Z (Al 0 Z Z)<|AI Z<|Ab Z<|Aa<|Ax<|Dd (α:=Nat×List Int×Ac×CD×List Ac) (fun x=>[(0,pZ b),(10,.slice (some ⟨bk,0,none⟩) s.kinds.length cp),(11,vZ s.kinds.length),(12,vZ x.1)])
  (fun x=>bx b T [pZ bd,cv,vZ s.frm,.slice (some ⟨bk,0,none⟩) s.kinds.length cp,.map (some mb),vZ (wr s.round),vZ (wr s.tc)]::x.2.2.1::mpI mb ms clk::(x.2.2.2.2++LD))
  (fun x=>x.1≤s.kinds.length∧Mid x.1 s.kinds x.2.1∧As 1 Bh d (.slice (some ⟨bk,0,none⟩) s.kinds.length cp) x.2.1 x.2.2.1∧CK {s with kinds:=x.2.1} x.2.2.2.1∧Ca d x.2.2.2.1 (pZ bd) cv x.2.2.2.2)
  (fun x=>s.kinds.length - x.1) (0,s.kinds,hk,c,LC) ⟨Z,Z,Z,Z,trivial⟩ Z ⟨by simp only;omega,Mid.zero _,hg,hc.og (Og.refl _),hC⟩ ?_
 rintro⟨i,ks,hk1,c1,LC1⟩ ρ ⟨hi,hM,hg1,hc1,hC1⟩;simp only at hi hM hg1 hc1 hC1⊢;have hkl:=hM.1;by_cases e:i<s.kinds.length
 ·have e':i<ks.length:=by omega
  obtain⟨b1,T1,l1,cc,cs,q1,rfl,hcl,hcs,hle,⟨rfl,hb1,hb2⟩,hset⟩:=As.at (by omega) hg1 e';rw[hkl] at q1;cases q1;have c0:=hcs 0 _ Z;have hki:ks.getD i 0=ks[i]:=by rw[Aee,Aed e'];rfl
  have hkd:ks[i]=s.kinds.getD i 0:=by rw[←hki,hM.2,if_neg (by omega)]
  by_cases hk3:ks[i]=3
  ·have hn:=hM.next e;rw[show Dp (s.kinds.getD i 0)=0 by unfold Dp;rw[if_pos (by rw[←hkd];exact hk3)]] at hn;refine Ad<|AB Z Z<|Aa<|Ag<|Aw Z (by omega)<|Ak<|Ag<|Ax<|Ad<|Ab Z<|BD _ Z Z Z (by omega)<|Ah Z (Al 1 Z (by assumption))<|Ab Z<|Ab Z<|Aa<|Ad<|Ab Z<|Aa<|Ax<|Ad<|AN Z Z<|Ae Z<|Aa<|Aw Z (by omega)<|Ad<|Am Z<|AF Z<|Ai Z<|Ah Z (Al 0 Z Z)<|Ab Z<|BD _ Z Z Z (by omega)<|A7 1 (patch l1 (i*1) [vZ 0]) Z Z Z Z hle Z Z ?_;(apply Aa);refine Bw [_] (bx bk T1 (patch l1 (i*1) [vZ 0])::mpI mb ms clk::(LC1++LD)) Z ?_;refine Am Z<|AF Z<|Ai Z<|Ah Z (Al 0 Z Z)<|Am Z<|AF Z<|Ai Z<|Ah Z (Al 0 Z Z)<|Ab Z<|AM Z Z (by omega) (by omega)<|Ds (h2 (k:=s.frm+i) hC1 (fun j hj=>Aco hc1.inv hj)) (Afx [_,_] LC1 LD) Z (fun u d2 L2 hl2 ⟨q1,q2,q3⟩=>?_);subst q1;subst q2;refine⟨d2,_::_::(L2++LD),Vs.perm (Afx L2 [_,_] LD),?_⟩
   refine IG ⟨d2,_::_::_::(L2++LD),Vs.refl _ _,?_⟩;(refine AE<|AM Z Z (by omega) (by omega)<|Ab Z<|Aa ?_);exact⟨(i+1,ks.set i 0,_,_,L2),by simp only;omega,⟨Z,Z,Z,Z,trivial⟩,Z,Z,e,hn,hset [vZ 0] 0 Z ⟨Z,by omega,by omega⟩,hc1.gone e' (by show ks.getD i 0=3;rw[hki];exact hk3),q3⟩
  ·by_cases hk1:ks[i]=1
   ·have hn:=hM.next e;rw[show Dp (s.kinds.getD i 0)=2 by unfold Dp;rw[if_neg (by rw[←hkd];exact hk3),if_pos (by rw[←hkd];exact hk1)]] at hn;refine Ad<|AB Z Z<|Aa<|Ag<|Aw Z (by omega)<|Ak<|Ag<|Ax<|Ad<|Ab Z<|BD _ Z Z Z (by omega)<|Ah Z (Al 1 Z (by assumption))<|Ab Z<|Ab Z<|Aa<|Ad<|Ab Z<|Aa<|Ax<|Ad<|AN Z Z<|Ae Z<|Aa<|Ar Z (by omega)<|Ad<|AN Z Z<|Ae Z<|Aa<|Aw Z (by omega)<|AE<|Am Z<|AF Z<|Ai Z<|Ah Z (Al 0 Z Z)<|Ab Z<|BD _ Z Z Z (by omega)<|A7 1 (patch l1 (i*1) [vZ 2]) Z Z Z Z hle Z Z ?_;(refine Aa<|AE<|AM Z Z (by omega) (by omega)<|Ab Z<|Aa ?_);exact⟨(i+1,ks.set i 2,_,c1,LC1),by simp only;omega,⟨Z,Z,Z,Z,trivial⟩,Z,Z,e,hn,hset [vZ 2] 2 Z ⟨Z,by omega,by omega⟩,hc1.AdP e',hC1⟩
   ·have hn:=hM.same e (by unfold Dp;rw[if_neg (by rw[←hkd];exact hk3),if_neg (by rw[←hkd];exact hk1)]);(refine Ad<|AB Z Z<|Aa<|Ag<|Aw Z (by omega)<|Ak<|Ag<|Ax<|Ad<|Ab Z<|BD _ Z Z Z (by omega)<|Ah Z (Al 1 Z (by assumption))<|Ab Z<|Ab Z<|Aa<|Ad<|Ab Z<|Aa<|Ax<|Ad<|AN Z Z<|Ae Z<|Aa<|Ar Z (by omega)<|Ad<|AN Z Z<|Ae Z<|Aa<|Ar Z (by omega)<|Ak<|AE<|AM Z Z (by omega) (by omega)<|Ab Z<|Aa ?_);exact⟨(i+1,ks,_,c1,LC1),by simp only;omega,⟨Z,Z,Z,Z,trivial⟩,Z,Z,e,hn,hg1,hc1,hC1⟩
 ·have hks:=hM.done (by omega);subst hks;refine Ad<|AB Z Z<|Aa<|Ag<|Ar Z (by omega)<|Bd<|Ad<|Am Z<|AF Z<|Ai Z<|Ah Z (Al 0 Z Z)<|AdC (kE:=kI) (vE:=id) 2 Z Z ?_;refine Aa<|Ad<|Am Z<|AF Z<|Ai Z<|Ah Z (Al 0 Z Z)<|MM Z Z ?_;refine AF Z<|Ai Z<|A7 0 [pZ bd,cv,vZ s.frm,.slice (some ⟨bk,0,none⟩) s.kinds.length cp,.map (some mb),vZ (wr (s.round+1)),vZ (wr s.tc)] Z Z Z Z (Aea Z) Z Z ?_;have hGd:Good s.done:=by
   refine⟨by simpa [PD.done] using hone,by simpa [PD.done] using hlen,by simpa [PD.done] using hinn,hsyn,fun j=>?_⟩
   show 0≤(s.kinds.map Dp).getD j 0∧(s.kinds.map Dp).getD j 0≤3;rw[getD_map];exact YI (hG.kd j)
  have hP:=Pg.mk (d:=d) (s:=s.done) (b:=b) (T:=T) (cv:=cv) (bk:=bk) (cp:=cp) (mb:=mb) (ms:=[]) (clk:=clk) (c:=c1) (LC:=LC1) (LD:=LD) (bd:=bd) (n:=s.kinds.length) (by simp[PD.done]) hg1 (fun j hj hj1=>by
   have h0:(s.kinds.map Dp).getD j 0=1:=hj1;rw[getD_map] at h0;unfold Dp at h0;split at h0
   ·cases h0
   ·split at h0
    ·cases h0
    ·contradiction) hC1 hD (hc1.to Z Z (Og.refl _)) hGd
  (refine Aa<|Ad<|Ab Z<|Aa<|Ap ?_);exact BO Z (Aeb _) ⟨Z,Z,hP⟩
def Qh(P:Program)(f:FuncId):Prop:=∀{d s dv pv L},Pg d s dv pv L→Du P f [pv] d L (vZ s.free)
def My(a0:Nat):A0:=⟨24,[(.tmp 2)],(sR (o1 2 (.mv z0) .done) (sR (o1 3 (.mv z0) .done) (.seq (sR (om 6 0<|oc 7 a0 [6]<|o1 8 (.un .not 7) .done) (.cond 8 (sR (om 9 0<|o1 10 (.nilc 9)<|oj 11 3 10<|ol 12 11<|oL 13 12<|o1 14 (.mv z0) .done) (.block 0 (.loop (sR (ob 15 .lss 14 13 .done) (.seq (.cond 15 .skip (.exit 0)) (.seq (.block 1 (sR (oI 16 1 12 14<|ol 17 16<|om 5 17 .done) (sR (om 18 5<|ob 19 .eql 18 z0 .done) (.cond 19 (rG (om 20 3<|ob 21 .add 20 z1<|om 3 21 .done)) .skip)))) (rG (ob 22 .add 14 z1<|om 14 22 .done)))))))) .skip)) (sR (om 23 3<|om 2 23 .done) .ret))))⟩
def Xn(hd:dec P f=some (My f1))(h1:EA P f1):Qh P f:=by
 intro d s dv pv L hp;obtain⟨b,T,cv,bk,cp,hk,mb,ms,clk,c,LC,LD,bd,rfl,rfl,rfl,hg,hm,hC,hD,hc,hG⟩:=hp;have hlen:=hG.len;have hone:=hG.one;refine AG hd (Aea Z) ?_;show gwp P _ _ _ _ _;refine Ad<|Ab Z<|Aa<|Ad<|Ab Z<|Aa<|Ag<|Ad<|Am Z<|CR (A:=[_]) (B:=_::_::(LC++LD)) Z Z h1 ?_;refine Bn Z<|Aa<|Bc Z<|Ad<|Am Z<|AF Z<|Ai Z<|Ah Z (Al 0 Z Z)<|AI Z<|Ab Z<|Aa<|Ax<|Dd (α:=Nat) (fun i=>[(3,vZ ((s.kinds.take i).countP (·==0))),(12,.slice (some ⟨bk,0,none⟩) s.kinds.length cp),(13,vZ s.kinds.length),(14,vZ i)])
  (fun i=>bx b T [pZ bd,cv,vZ s.frm,.slice (some ⟨bk,0,none⟩) s.kinds.length cp,.map (some mb),vZ (wr s.round),vZ (wr s.tc)]::hk::mpI mb ms clk::(LC++LD))
  (fun i=>i≤s.kinds.length) (fun i=>s.kinds.length - i) 0 ⟨Z,Z,Z,Z,trivial⟩ Z (by omega) ?_
 rintro i ρ hi;by_cases e:i<s.kinds.length
 ·obtain⟨b1,T1,l1,c1,cs,q1,rfl,hcl,hcs,hle,⟨rfl,hb1,hb2⟩, -⟩:=As.at (by omega) hg e;cases q1;have c0:=hcs 0 _ Z;have hn:(s.kinds.take (i+1)).countP (·==0)=(s.kinds.take i).countP (·==0)+(if s.kinds[i]=0 then 1 else 0):=by
   rw[Aes e,List.countP_append];simp[List.countP_cons,List.countP_nil]
  have hcb:(s.kinds.take i).countP (·==0)≤8192:=Agp List.countP_le_length (by rw[Aer];omega);by_cases h0:s.kinds[i]=0
  ·rw[if_pos h0] at hn;(refine Ad<|AB Z Z<|Aa<|Ag<|Aw Z (by omega)<|Ak<|Ag<|Ax<|Ad<|BD _ Z Z Z (by omega)<|Ah Z (Al 1 Z (by assumption))<|Ab Z<|Aa<|Ad<|Ab Z<|AN Z Z<|Aa<|Aw Z (by omega)<|AE<|Ab Z<|AM Z Z (by omega) (by omega)<|Ab Z<|Aa<|AE<|AM Z Z (by omega) (by omega)<|Ab Z<|Aa ?_);exact⟨i+1,by omega,⟨by show Value.int _ _=Value.int _ _;rw[hn];rfl,Z,Z,Z,trivial⟩,Z,Z,e⟩
  ·rw[if_neg h0] at hn;(refine Ad<|AB Z Z<|Aa<|Ag<|Aw Z (by omega)<|Ak<|Ag<|Ax<|Ad<|BD _ Z Z Z (by omega)<|Ah Z (Al 1 Z (by assumption))<|Ab Z<|Aa<|Ad<|Ab Z<|AN Z Z<|Aa<|Ar Z (by omega)<|Ak<|AE<|AM Z Z (by omega) (by omega)<|Ab Z<|Aa ?_);exact⟨i+1,by omega,⟨by show Value.int _ _=Value.int _ _;rw[hn];rfl,Z,Z,Z,trivial⟩,Z,Z,e⟩
 ·have:i=s.kinds.length:=by omega
  subst this;(refine Ad<|AB Z Z<|Aa<|Ag<|Ar Z (by omega)<|Bd<|Ad<|Ab Z<|Ab Z<|Aa<|Ap ?_);rw[show s.free=(s.kinds.take s.kinds.length).countP (·==0) by rw[Afq];rfl];exact K4 Z (Aeb _)
def PC(P:Program)(f:FuncId):Prop:=∀{d}{syn:List Sec}{dv cv lv LC LD}{m frm n:Nat}{live:List Nat},Dv d ⟨syn,[]⟩ dv LD→Ca d ⟨Aeu m fz,Afb m,0,0,0⟩ dv cv LC→1≤m→m≤64→1≤n→frm+n≤syn.length→syn.length≤8192→live.Nodup→(∀k∈live,k<n)→
 DS d lv (live.map fun k=>((frm+k:Nat):Int))→AA P f [dv,cv,vZ frm,vZ n,lv] d (LC++LD) (Ret fun r d' L'=>∃pv,r=.tuple #[pv,vZ 0]∧Le d d'∧Pg d' ⟨frm,DV n live,fun _=>[],syn,0,0⟩ dv pv L')
def Wh(a0 a1 a2:Nat):A0:=⟨74,[(.tmp 10),(.tmp 11)],(sR (o1 10 (.mv (.const (.pointer none)))<|o1 11 (.mv z0) .done) (sR (om 16 0<|oc 17 a0 [16]<|om 12 17 .done) (.seq (.block 0 (sR (om 19 12<|ob 20 .eql 19 z0<|om 21 20<|gF 22 21 1<|oF 23 21 (.call a1 [22])<|oF 24 21 (.len 23)<|oF 25 21 (.bin .eql 24 z0)<|o1 26 (.pick 21 (.const (.bool true)) 25)<|om 18 26 .done) (.cond 18 (sR (o1 10 (.mv (.const (.pointer none)))<|o1 11 (.mv z1) .done) .ret) (sR (om 28 2<|ob 29 .lss 28 z0<|om 30 29<|gF 31 30 3<|oF 32 30 (.bin .lss 31 z1)<|o1 33 (.pick 30 (.const (.bool true)) 32)<|om 34 33<|gF 35 34 2<|gF 36 34 12<|oF 37 34 (.bin .gtr 35 36)<|o1 38 (.pick 34 (.const (.bool true)) 37)<|om 39 38<|gF 40 39 3<|gF 41 39 12<|gF 42 39 2<|oF 43 39 (.bin .sub 41 42)<|oF 44 39 (.bin .gtr 40 43)<|o1 45 (.pick 39 (.const (.bool true)) 44)<|om 27 45 .done) (.cond 27 (sR (o1 10 (.mv (.const (.pointer none)))<|o1 11 (.mv z2) .done) .ret) .skip))))) (sR (om 46 0<|om 47 1<|om 48 2<|om 49 3<|o1 50 (.mks 1 8 [(vZ 0)] 49 49)<|o1 51 (.mop .mk)<|o1 52 (.bld [(0,1),(1,1),(2,1),(3,1),(4,1),(5,1),(6,1)] [(.pointer none),(.pointer none),(vZ 0),nV,(.map none),(vZ 0),(vZ 0)] [(0,46),(1,47),(2,48),(3,50),(4,51)])<|o1 53 (.box 52)<|om 13 53 .done) (.seq (sR (om 54 4<|oL 55 54<|o1 56 (.mv z0) .done) (.block 1 (.loop (sR (ob 57 .lss 56 55 .done) (.seq (.cond 57 .skip (.exit 1)) (.seq (.block 2 (sR (oI 58 1 54 56<|ol 59 58<|om 15 59 .done) (.seq (sR (om 60 13<|om 61 15<|oc 62 a2 [60,61]<|ob 63 .neq 62 z0 .done) (.cond 63 (sR (o1 10 (.mv (.const (.pointer none)))<|o1 11 (.mv z2) .done) .ret) .skip)) (rG (om 64 13<|o1 65 (.nilc 64)<|oj 66 3 65<|ol 67 66<|om 68 15<|om 69 2<|ob 70 .sub 68 69<|oI 71 1 67 70<|o0 (.st 1 71 z2) .done))))) (rG (ob 72 .add 56 z1<|om 56 72 .done)))))))) (sR (om 73 13<|om 10 73<|o1 11 (.mv z0) .done) .ret))))))⟩
set_option maxRecDepth 4000 in
set_option maxHeartbeats 1000000 in
def Xt(hd:dec P f=some (Wh f1 f2 f3))(h1:Hf P f1)(h2:IS P f2)(h3:I0 P f3):PC P f:=by
 intro d syn dv cv lv LC LD m frm n live hD hC hm1 hm2 hn hfn hs8 hnd hlv hl;obtain⟨bd,rfl⟩:∃bd,dv=pZ bd:=let ⟨b,_,_,_,_,_,_,h,_⟩:=hD;⟨b,h⟩
 obtain⟨bc,rfl⟩:∃bc,cv=pZ bc:=let ⟨b,_,_,_,_,_,_,_,_,h,_⟩:=hC;⟨b,h⟩
 obtain⟨xs,hxs⟩:∃xs,xs=live.map fun k=>((frm+k:Nat):Int):=⟨_,Z⟩
 rw[←hxs] at hl;have hll:=hl.BF;have hxl:xs.length=live.length:=by rw[hxs,Afv]
 refine AG hd (Aea Z) ?_;show gwp P _ _ _ _ _;(refine Ad<|Am Z<|Ab Z<|Aa<|Ad<|Am Z ?_);have hsz:Du P f1 [pZ bd] d LD (vZ syn.length):=h1 hD;refine Nz (A:=LD) (B:=LC) Aei Z hsz ?_;have hn0:syn.length≠0:=by omega
 refine Ab Z<|Aa<|Ag<|Ax<|Ad<|Ab Z<|AN Z Z<|Ae Z<|A3 Z (by omega)<|Af Z<|Am Z<|Af Z<|DY (A:=LC) (B:=LD) Z Z (h2 hC (fun f hf=>by rw[(List.mem_replicate.1 hf).2];decide)) (fun v d1 L1 hl1 ⟨e1,e2⟩=>?_);subst e1;have hhl:(Ed ⟨Aeu m fz,Afb m,0,0,0⟩).length=m:=by simp[Ed]
 obtain⟨ah,ch,rfl⟩:=RSl.val e2;rw[hhl] at e2⊢;have hm0:m≠0:=by omega
 have hC1:=hC.mono hl1;have hD1:=hD.mono hl1;have hl':=RSl.mono (R:=Bh) B6 hl hl1;refine Af Z<|AI Z<|Af Z<|AN Z Z<|Au Z Z<|Ae Z<|Aa<|Ar Z (by omega)<|Ad<|Ab Z<|AB Z Z<|Ae Z<|A3 Z (by omega)<|Af Z<|Ab Z<|Af Z<|AB Z Z<|Au Z Z<|Ae Z<|A3 Z (by omega)<|Af Z<|Ab Z<|Af Z<|Ab Z<|Af Z<|Bx Z Z<|Au Z Z<|Ae Z<|A3 Z (by omega)<|Af Z<|Ab Z<|Af Z<|Ab Z<|Af Z<|Ab Z<|Af Z<|CV Z Z (by omega) (by omega)<|Af Z<|Bx Z Z<|Au Z Z<|Ae Z<|Aa<|Ar Z (by omega)<|Ak<|Ad<|Am Z<|Am Z<|Ab Z<|Ab Z<|It (n:=n) (c:=n) Z Z (Aef _) (by omega) (by omega) (fun bk T0=>?_);refine Ado kI (id:Value→Value) (fun mb=>?_);refine BJ (cs:=[pZ bd,pZ bc,vZ frm,.slice (some ⟨bk,0,none⟩) n n,.map (some mb),vZ 0,vZ 0]) Z ?_;refine Ck Z (fun b T=>?_);have hg:As 1 Bh d1 (.slice (some ⟨bk,0,none⟩) n n) (DV n []) (bx bk T0 (Bq [vZ 0] (n*1))):=As.zero Z (by omega) ⟨Z,by omega,by omega⟩ (by omega);refine BS d1 (_::bx bk T0 (Bq [vZ 0] (n*1))::mpI mb [] 0::(L1++LD)) (Vs.perm (Aem _ (Afa _ _ _))) ?_;refine Am Z<|Aa<|Ag<|Ad<|AR<|BI Z (by assumption)<|Ab Z<|Aa<|Ax<|Dd (α:=Nat×Ac) (fun x=>[(2,vZ frm),(13,pZ b),(54,lv),(55,vZ xs.length),(56,vZ x.1)])
  (fun x=>bx b T [pZ bd,pZ bc,vZ frm,.slice (some ⟨bk,0,none⟩) n n,.map (some mb),vZ 0,vZ 0]::x.2::mpI mb [] 0::(L1++LD))
  (fun x=>x.1≤live.length∧As 1 Bh d1 (.slice (some ⟨bk,0,none⟩) n n) (DV n (live.take x.1)) x.2) (fun x=>live.length - x.1) (0,bx bk T0 (Bq [vZ 0] (n*1))) ⟨Z,Z,Z,Z,Z,trivial⟩ Z ⟨by simp only;omega,hg⟩ ?_
 rintro⟨i,hk⟩ ρ ⟨hi,hgi⟩;simp only at hi hgi⊢;have hln:=GO (n:=n) (l:=live.take i);by_cases e:i<live.length
 ·have hin:live[i]<n:=hlv _ (Aey e);have hnot:live[i]∉live.take i:=fun hm=>by
   obtain⟨j,hj,hjj⟩:=List.getElem_of_mem hm;rw[Aer] at hj;rw[List.getElem_take] at hjj;exact List.pairwise_iff_getElem.1 hnd j i (by omega) e (by omega) hjj
  have h0:(DV n (live.take i)).getD live[i] 0=0:=by rw[Ly,if_neg (fun q=>hnot q.2)]
  obtain⟨b1,T1,l1,c1,cs,q1,rfl,hcl,hcs,hle, -,hset⟩:=As.at (by omega) hgi (m:=live[i]) (by omega);rw[hln] at q1;cases q1;have e':i<xs.length:=by omega
  have hxi:xs[i]=((frm+live[i]:Nat):Int):=by subst hxs;simp
  have hnx:DV n (live.take (i+1))=(DV n (live.take i)).set live[i] 2:=by rw[Aes e,Yf]
  have hkv:HD frm (DV n (live.take i)) xs[i]=0:=by
   rw[hxi];unfold HD;rw[hln,if_pos (by omega),show(((frm+live[i]:Nat):Int) - (frm:Int)).toNat=live[i] by omega,h0]
  have hgl:As 1 Bh d1 (.slice (some ⟨bk,0,none⟩) (DV n (live.take i)).length n) (DV n (live.take i)) (bx bk T1 l1):=by rw[hln];exact hgi
  have hkr:=fun{b:Nat}{T x0 x1 x4 x5 x6}=>h3 (k:=xs[i]) (frm:=frm) (b:=b) (T:=T) (x0:=x0) (x1:=x1) (x4:=x4) (x5:=x5) (x6:=x6) hgl (by omega);rw[hln,hkv] at hkr;(refine Ad<|AB Z Z<|Aa<|Ag<|Aw Z (by omega)<|Ak<|Ag<|Ax<|Ad<|Bg (sz:=1) (R:=Bh) (by rfl) (by assumption) (by rfl) Z (by omega) ?_;rintro _ _ _ _ _ ⟨rfl,_,_⟩;refine Ah Z (BQ (by assumption) Z)<|Ab Z<|Aa<|Ag<|Ad<|Am Z<|Ab Z ?_);refine CR (A:=[_,_]) (B:=_::(L1++LD)) Z Z hkr ?_;refine AO Z Z<|Aa<|Ar Z (by omega)<|Ak<|AE<|Am Z<|AF Z<|Ai Z<|Ah Z (Al 0 Z Z)<|Ab Z<|Ab Z<|CV Z Z (by omega) (by omega)<|BD live[i] Z Z (by rw[hxi];omega) hin ?_;skip;refine A7 1 (patch l1 (live[i]*1) [vZ 2]) Z Z Z Z hle Z Z ?_;(refine Aa<|AE<|AM Z Z (by omega) (by omega)<|Ab Z<|Aa ?_);exact⟨(i+1,_),by simp only;omega,⟨Z,Z,Z,Z,Z,trivial⟩,Z,Z,e,by rw[hnx];exact hset [vZ 2] 2 Z ⟨Z,by omega,by omega⟩⟩
 ·have:i=live.length:=by omega
  subst this;rw[Afq] at hgi hln;have e':¬live.length<xs.length:=by omega
  (refine Ad<|AB Z Z<|Aa<|Ag<|Ar Z (by omega)<|Bd<|Ad<|Am Z<|Am Z<|Ab Z<|Aa<|Ap ?_);have hP:=Pg.mk (d:=d1) (s:=⟨frm,DV n live,fun _=>[],syn,0,0⟩) (b:=b) (T:=T) (cv:=pZ bc) (bk:=bk) (cp:=n) (mb:=mb) (clk:=0) (c:=⟨Aeu m fz,Afb m,0,0,0⟩) (LC:=L1) (LD:=LD) (bd:=bd) hln
   hgi (ms:=[]) (fun j hj hj1=>by
    have h0:(DV n live).getD j 0=1:=hj1;rw[Ly] at h0;split at h0<;>cases h0) hC1 hD1 (CK.new hm1 hm2) (Good.new hn hfn hs8)
  exact Cw Z Z (Aeb _) ⟨_,Z,hl1,hP⟩
def Le.dcs{b:Nat}{T l}(h:Le (bx b T l) d):DCs d b 0 l:=⟨_,_,_,h b _ (CN _ _),fun i u hi=>by simpa using hi⟩
def Vs.Ack{a b c L}:Vs d (a::b::c::L) (join (join (join d a) b) c) L:=Vs.freeze.trans (Vs.freeze.trans Vs.freeze)
def As.Ze{d' v}{xs:List Int}{h}(o:As 1 Bh d v xs h):As 1 Bh d' v xs h:=let ⟨cs,h1,h2⟩:=o;⟨cs,h1,h2⟩
def Mk(d:Ac)(m:MD)(frm:Nat)(pv v:Value):Prop:=∃bm bk cp mq ms clk,v=pZ bm∧DCs d bm 0 [pv,vZ (wr m.round),.slice (some ⟨bk,0,none⟩) m.kinds.length cp,.map (some mq)]∧RSl 1 Bh d (.slice (some ⟨bk,0,none⟩) m.kinds.length cp) m.kinds∧
 Le (mpI mq ms clk) d∧Nt d frm m.kinds m.fb ms
def Mk.mono{d'}{m:MD}{frm:Nat}{pv v}(h:Mk d m frm pv v)(hl:Le d d'):Mk d' m frm pv v:=
 let ⟨bm,bk,cp,mq,ms,clk,h1,h2,h3,h4,h5⟩:=h
 ⟨bm,bk,cp,mq,ms,clk,h1,h2.mono hl,RSl.mono (R:=Bh) B6 h3 hl,h4.trans hl,h5.mono hl⟩
def Y4(x a b c:Ac)(L:List Ac):(x::a::b::c::L).Perm (a::b::c::x::L):=
 (Afa a x _).trans (Aem _ ((Afa b x _).trans (Aem _ (Afa c x _))))
def G4(P:Program)(f:FuncId):Prop:=∀{d s dv pv L},Pg d s dv pv L→AA P f [pv] d L (Ret fun r d' L'=>L'=L∧Le d d'∧Mk d' s.mark s.frm pv r)
def M7(a0 a1 a2:Nat):A0:=⟨22,[(.tmp 2)],(sR (o1 2 (.mv (.const (.pointer none))) .done) (.seq (sR (om 3 0<|oc 4 a0 [3] .done) (.cond 4 (sR (o1 2 (.mv (.const (.pointer none))) .done) .ret) .skip)) (.seq (.reg true (pm 5 0<|pm 6 0<|p1 7 (.nilc 6)<|p1 8 (.fld 5 7)<|pl 9 8<|pm 10 0<|p1 11 (.nilc 10)<|p1 12 (.fld 3 11)<|pl 13 12<|pm 15 0<|p1 16 (.nilc 15)<|p1 17 (.fld 4 16)<|pl 18 17<|oc 14 a1 [13]<|oc 19 a2 [18]<|p1 20 (.bld [(0,1),(1,1),(2,1),(3,1)] [(.pointer none),(vZ 0),nV,(.map none)] [(0,5),(1,9),(2,14),(3,19)])<|o1 21 (.box 20) (.bar (pm 2 21 .done)))) .ret)))⟩
set_option maxRecDepth 4000 in
set_option maxHeartbeats 1000000 in
def WU(hd:dec P f=some (M7 f1 f2 f3))(h1:EA P f1)(h2:DX Bh 8 P f2)(h3:G1 P f3):G4 P f:=by
 intro d s dv pv L hp;obtain⟨b,T,cv,bk,cp,hk,mb,ms,clk,c,LC,LD,bd,rfl,rfl,rfl,hg,hm,hC,hD,hc,hG⟩:=hp;have hlen:=hG.len;have hone:=hG.one;refine AG hd (Aea Z) ?_;show gwp P _ _ _ _ _;refine Ad<|Am Z<|Aa<|Ag<|Ad<|Am Z<|CR (A:=[_]) (B:=_::_::(LC++LD)) Z Z h1 ?_;refine Aa<|AS Z<|Ak<|Ag<|Bw [_] (hk::mpI mb ms clk::(LC++LD)) Z ?_;refine Am Z<|Am Z<|AF Z<|Ai Z<|Ah Z (Al 0 Z Z)<|Am Z<|AF Z<|Ai Z<|Ah Z (Al 0 Z Z)<|Am Z<|AF Z<|Ai Z<|Ah Z (Al 0 Z Z)<|Kj (Q:=fun v L'=>∃h,L'=[h]∧As 1 Bh d v s.kinds h) Z (fun d1 hl1 hk1=>?_) (fun v L1 ⟨h,e1,hrow⟩=>?_)
 ·exact AA.DU (h2 (xs:=s.kinds) (As.rsl (R:=Bh) hg B6 (by omega) hl1 (hk1 _ (List.mem_cons_self ..))) (by omega)) (fun r d' L' _ ⟨q1,h,q2,q3⟩=>⟨d',L',Vs.refl _ _,q1,h,q2,As.Ze q3⟩)
 subst e1;skip;refine Kj (Q:=fun v L'=>∃q,v=.map (some q)∧L'=[mpI q ms clk]) Z (fun d1 hl1 hk1=>h3 (hk1 _ (by simp))) (fun v1 L1 ⟨q,e1,e2⟩=>?_);subst e1;subst e2;obtain⟨b1,T1,l1,c1,cs,q1, -, -, -, -, -, -⟩:=As.at (m:=0) (by omega) hrow (by omega);subst q1;refine BJ (cs:=[pZ b,vZ (wr s.round),.slice (some ⟨b1,0,none⟩) s.kinds.length c1,.map (some q)]) Z ?_;refine Ck Z (fun bm Tm=>?_);refine Cd<|Am Z<|Aa<|Ap<|A4 [pZ bm] ⟨Z,trivial⟩ (L':=bx b T [pZ bd,cv,vZ s.frm,.slice (some ⟨bk,0,none⟩) s.kinds.length cp,.map (some mb),vZ (wr s.round),vZ (wr s.tc)]::hk::mpI mb ms clk::(LC++LD))
  ((Vs.perm (Y4 _ _ _ _ _)).trans Vs.Ack) ⟨Z,?_,bm,b1,c1,q,ms,clk,Z,?_,?_,?_,?_⟩
 ·exact((Le.Az _ _).trans (Le.Az _ _)).trans (Le.Az _ _)
 ·exact Le.dcs (((Le.A6 _ _).trans (Le.Az _ _)).trans (Le.Az _ _))
 ·exact As.rsl (R:=Bh) (sz:=1) hrow B6 (by omega) (((Le.Az _ _).trans (Le.Az _ _)).trans (Le.Az _ _)) (Le.A6 _ _)
 ·exact(Le.A6 _ _).trans (Le.Az _ _)
 ·exact hm.mono (((Le.Az _ _).trans (Le.Az _ _)).trans (Le.Az _ _))
def Acn{a b x e f R}:Vs d (a::b::x::e::f::R) d (x::b::a::R):=
 (Vs.drop (.cons_cons _ (.cons_cons _ (.cons_cons _ (.cons _ (.cons _ (Aeb _))))))).trans (Vs.perm ((Aem _ (Afa x b R)).trans ((Afa x a (b::R)).trans (Aem _ (Afa b a R)))))
def Kw(P:Program)(f:FuncId):Prop:=∀{d s dv pv v L}{m:MD},Pg d s dv pv L→Mk d m s.frm pv v→(wr m.round=wr s.round→Og m.kinds s.kinds∧∀i,0≤m.kinds.getD i 0∧m.kinds.getD i 0≤3)→
 AA P f [pv,v] d L (Ret fun r d' L'=>d'=d∧(wr m.round=wr s.round→r=vZ 0∧Pg d (s.back m) dv pv L')∧(wr m.round≠wr s.round→r=vZ 2∧Pg d s dv pv L'))
def Mi(a0 a1 a2:Nat):A0:=⟨46,[(.tmp 4)],(sR (o1 4 (.mv z0) .done) (.seq (.block 0 (sR (om 6 0<|oc 7 a0 [6]<|om 8 7<|gF 9 8 1<|oF 10 8 (.eqp false 9 (.const (.pointer none)))<|o1 11 (.pick 8 (.const (.bool true)) 10)<|om 5 11 .done) (.cond 5 (sR (o1 4 (.mv z1) .done) .ret) (.seq (.reg true (pm 13 1<|p1 14 (.nilc 13)<|p1 15 (.fld 0 14)<|pl 16 15<|pm 17 0<|p1 18 (.eqp true 16 17)<|pm 19 18 (.op true ⟨(some 20),(some (19,false)),(.mv 1)⟩ (.op true ⟨(some 21),(some (19,false)),(.nilc 20)⟩ (.op true ⟨(some 22),(some (19,false)),(.fld 1 21)⟩ (.op true ⟨(some 23),(some (19,false)),(.ld none 22)⟩ (.op true ⟨(some 24),(some (19,false)),(.mv 0)⟩ (.op true ⟨(some 25),(some (19,false)),(.nilc 24)⟩ (.op true ⟨(some 26),(some (19,false)),(.fld 5 25)⟩ (.op true ⟨(some 27),(some (19,false)),(.ld none 26)⟩ (.op true ⟨(some 28),(some (19,false)),(.bin .neq 23 27)⟩ (p1 29 (.pick 19 (.const (.bool true)) 28) (pm 12 29 .done))))))))))))) (.cond 12 (sR (o1 4 (.mv z2) .done) .ret) .skip))))) (.seq (.reg true (pm 30 0<|pm 31 0<|pm 32 1<|p1 33 (.nilc 32)<|p1 34 (.fld 2 33)<|pl 35 34<|pm 37 1<|p1 38 (.nilc 37)<|p1 39 (.fld 3 38)<|pl 40 39<|oc 36 a1 [35]<|oc 41 a2 [40]<|p1 42 (.nilc 30)<|p1 43 (.fld 3 42)<|o0 (.st 1 43 36)<|p1 44 (.nilc 31)<|p1 45 (.fld 4 44)<|o0 (.st 1 45 41) .done)) (sR (o1 4 (.mv z0) .done) .ret))))⟩
set_option maxRecDepth 4000 in
set_option maxHeartbeats 1000000 in
def WV(hd:dec P f=some (Mi f1 f2 f3))(h1:EA P f1)(h2:DX Bh 8 P f2)(h3:G1 P f3):Kw P f:=by
 intro d s dv pv v L m hp hmk hor;have hp0:=hp;obtain⟨b,T,cv,bk,cp,hk,mb,ms,clk,c,LC,LD,bd,rfl,rfl,rfl,hg,hm,hC,hD,hc,hG⟩:=hp;obtain⟨bm,bmk,mcp,mq,mms,mclk,rfl,hmd,hmr,hml,hmm⟩:=hmk;have hlen:=hG.len;have hone:=hG.one;refine AG hd (Aea Z) ?_;show gwp P _ _ _ _ _;refine Ad<|Ab Z<|Aa<|Ag<|Ax<|Ad<|Am Z<|CR (A:=[_]) (B:=_::_::(LC++LD)) Z Z h1 ?_;refine Ae Z<|Af Z<|Am Z<|Af Z<|Cg Z Z<|Au Z Z<|Ae Z<|Aa<|AS Z<|Ag<|Bw [_] (hk::mpI mb ms clk::(LC++LD)) Z ?_;refine Am Z<|AF Z<|Ai Z<|Ah Z (B2 (by assumption) Z)<|Am Z<|Ac0 Z Z ?_;by_cases hw:wr m.round=wr s.round
 ·obtain⟨hog,hrng⟩:=hor hw;have hol:=hog.1;refine Ae Z<|Af Z<|Am Z<|Af Z<|AF Z<|Af Z<|Ai Z<|Af Z<|Ah Z (B2 (by assumption) Z)<|Af Z<|Am Z<|Af Z<|AF Z<|Af Z<|Ai Z<|Af Z<|Ah Z (Al 0 Z Z)<|Af Z<|AO Z Z<|Au Z Z<|Ae Z<|AZ<|Ar Z (by omega)<|Ak<|Ag<|Bw [] (bx b T [pZ bd,cv,vZ s.frm,.slice (some ⟨bk,0,none⟩) s.kinds.length cp,.map (some mb),vZ (wr s.round),vZ (wr s.tc)]::hk::mpI mb ms clk::(LC++LD)) Z ?_;refine Am Z<|Am Z<|Am Z<|AF Z<|Ai Z<|Ah Z (B2 (by assumption) Z)<|Am Z<|AF Z<|Ai Z<|Ah Z (B2 (by assumption) Z)<|Kj (Q:=fun v L'=>∃h,L'=[h]∧As 1 Bh d v m.kinds h) Z (fun d1 hl1 hk1=>AA.DU (h2 (xs:=m.kinds) (RSl.mono (R:=Bh) B6 hmr hl1) (by omega)) (fun r d' L' _ ⟨q1,h,q2,q3⟩=>⟨d',L',Vs.refl _ _,q1,h,q2,As.Ze q3⟩)) (fun v L1 ⟨h,e1,hrow⟩=>?_);subst e1;refine Kj (Q:=fun v L'=>∃q,v=.map (some q)∧L'=[mpI q mms mclk]) Z (fun d1 hl1 hk1=>h3 (hml.trans hl1)) (fun v1 L1 ⟨q,e1,e2⟩=>?_);subst e1;subst e2;obtain⟨b1,T1,l1,c1,cs,q1, -, -, -, -, -, -⟩:=As.at (m:=0) (by omega) hrow (by omega);subst q1;refine AF Z<|Ai Z<|A7 2 [pZ bd,cv,vZ s.frm,.slice (some ⟨b1,0,none⟩) m.kinds.length c1,.map (some mb),vZ (wr s.round),vZ (wr s.tc)] Z Z Z Z (Aea Z) Z Z ?_;refine AF Z<|Ai Z<|A7 2 [pZ bd,cv,vZ s.frm,.slice (some ⟨b1,0,none⟩) m.kinds.length c1,.map (some q),vZ (wr s.round),vZ (wr s.tc)] Z Z Z Z (Aea Z) Z Z ?_;have hP:=Pg.mk (d:=d) (s:=s.back m) (b:=b) (T:=T) (cv:=cv) (bk:=b1) (cp:=c1) (mb:=q) (ms:=mms) (clk:=mclk) (c:=c) (LC:=LC) (LD:=LD) (bd:=bd) Z hrow hmm hC hD (hc.to Z Z hog)
   ⟨by show 1≤m.kinds.length;omega,by show m.kinds.length≤8192;omega,by show s.frm+m.kinds.length≤s.syn.length;rw[hol];exact hG.inn,hG.syn,hrng⟩
  (refine Aa<|Ad<|Ab Z<|Aa<|Ap ?_);exact A4 [vZ 0] ⟨Z,trivial⟩ Acn ⟨Z,fun _=>⟨Z,hP⟩,fun e=>absurd hw e⟩
 ·(refine Ae Z<|Af Z<|Am Z<|Af Z<|AF Z<|Af Z<|Ai Z<|Af Z<|Ah Z (B2 (by assumption) Z)<|Af Z<|Am Z<|Af Z<|AF Z<|Af Z<|Ai Z<|Af Z<|Ah Z (Al 0 Z Z)<|Af Z<|AO Z Z<|Au Z Z<|Ae Z<|AZ<|Aw Z (by omega)<|Ad<|Ab Z<|Aa<|Ap ?_);exact BO Z (Aeb _) ⟨Z,fun e=>absurd e hw,fun _=>⟨Z,hp0⟩⟩
end Go.Gk.Pgr
end
section
namespace Go.Gk.Cch
open Go Go.Gk Go.Gk.Dev
attribute [local irreducible] gwp gws xwp
section
def Cov(d:Ac)(c:CD)(D:EK)(cv:Value)(L:List Ac):Prop:=∃dv LC LD,L=LC++LD∧Ca d c dv cv LC∧Dv d D dv LD
def Cov.mono{d d'}{c:CD}{D:EK}{cv L}(h:Cov d c D cv L)(hl:Le d d'):Cov d' c D cv L:=
 let ⟨dv,LC,LD,h1,h2,h3⟩:=h
 ⟨dv,LC,LD,h1,h2.mono hl,h3.mono hl⟩
def Cov.ptr{d}{c:CD}{D:EK}{cv L}(h:Cov d c D cv L):∃b,cv=pZ b:=by
 obtain⟨dv,LC,LD,rfl,⟨b, -, -, -, -, -, -, -, -,h, -⟩, -⟩:=h;exact⟨b,h⟩
section
variable {P:Program}{f:FuncId}{d:Ac}{c:CD}{D:EK}{cv:Value}{L:List Ac}{k:Nat}
def J2.cov(h:J2 P f)(hc:Cov d c D cv L)(hp:MP c 4611686018427387904)(hk:k<D.syn.length):
  AA P f [cv,vZ k] d L (Ret fun r d' L'=>Cov d' (E7 (D.cur k) c k).1 D cv L'∧Acw d' r (E7 (D.cur k) c k).2):=by
 obtain⟨dv,LC,LD,rfl,h1,h2⟩:=hc
 refine(h h1 h2 hp hk).mono (fun e d' L' hl hr=>?_)
 cases e with
 |returned v=>obtain⟨LC',LD',rfl,g1,g2,g3⟩:=hr;exact⟨⟨dv,LC',LD',Z,g1,g2⟩,g3⟩
 |panicked c=>exact hr
 |outgrown=>exact hr
def Mw{args A B R R'}(h:AA P f args d A (Ret R))(hR:∀v d' A',Le d d'→R v d' A'→R' v d' (A'++B)):AA P f args d (A++B) (Ret R'):=by
 refine(h.frame B).mono (fun e d' L' hl hr=>?_);obtain⟨A',rfl,hr⟩:=hr;cases e with
 |returned v=>exact hR v d' A' hl hr
 |panicked c=>exact hr
 |outgrown=>exact hr
def Hq.cov(h:Hq P f)(hc:Cov d c D cv L)(hp:MP c 4611686018427387904):
  AA P f [cv,vZ k] d L (Ret fun r d' L'=>r=vZ (Di c k).2∧Cov d' (Di c k).1 D cv L'):=by
 obtain⟨dv,LC,LD,rfl,h1,h2⟩:=hc
 exact Mw (h (k:=k) h1 hp) (fun v d' A' hl ⟨g1,g2,g3⟩=>⟨g2,dv,A',LD,Z,g3.mono (by rw[g1];exact Le.refl _),h2.mono hl⟩)
def GF.cov(h:GF P f)(hc:Cov d c D cv L)(hp:∀i,findF k c.fr=some i→c.free.length<c.fr.length):
  AA P f [cv,vZ k] d L (Ret fun r d' L'=>r=vZ (De c k).2∧Cov d' (De c k).1 D cv L'):=by
 obtain⟨dv,LC,LD,rfl,h1,h2⟩:=hc
 exact Mw (h (k:=k) h1 hp) (fun v d' A' hl ⟨g1,g2,g3⟩=>⟨g2,dv,A',LD,Z,g3.mono (by rw[g1];exact Le.refl _),h2.mono hl⟩)
def IS.cov(h:IS P f)(hc:Cov d c D cv L)(hs:∀f∈c.fr,f.sec≤8192):AA P f [cv] d L (Ret fun r d' L'=>L'=L∧DS d' r (Ed c)):=by
 obtain⟨dv,LC,LD,rfl,h1,h2⟩:=hc;exact Mw (h h1 hs) (fun v d' A' hl ⟨g1,g2⟩=>⟨by rw[g1],g2⟩)
def YS.cov(h:YS P f)(hc:Cov d c D cv L):Du P f [cv] d L (vZ (wr c.hits)):=by
 obtain⟨dv,LC,LD,rfl,h1,h2⟩:=hc;exact Mw (h h1) (fun v d' A' hl ⟨g1,g2,g3⟩=>⟨g1,g2,by rw[g3]⟩)
def Tc.cov(h:Tc P f)(hc:Cov d c D cv L):Du P f [cv] d L (vZ (wr c.miss)):=by
 obtain⟨dv,LC,LD,rfl,h1,h2⟩:=hc;exact Mw (h h1) (fun v d' A' hl ⟨g1,g2,g3⟩=>⟨g1,g2,by rw[g3]⟩)
end
end
end Go.Gk.Cch
end
section
namespace Go.Gk.Pgr
open Go Go.Gk Go.Gk.Dev Go.Gk.Cch Go.Gk.Node
section
attribute [local irreducible] gwp gws xwp
end
section
attribute [local irreducible] gwp gws xwp
end
end Go.Gk.Pgr
end
section
namespace Go.Gk.Pgr
open Go Go.Gk Go.Gk.Dev Go.Gk.Cch Go.Gk.Node
attribute [local irreducible] gwp gws xwp
section
section
variable {P:Program}{pan:List PanicEntry→AU}{Qn:Env→AU}{Ls L:List Ac}{ρ:Env}{d:Ac}{s:GS}{t:Nat}{tk:Bool}
end
structure AD where
 kind:Int
 k:Int
 by_:UInt8
abbrev Abs(b:UInt8):Sec:=Aeu 256 b
def PD.act(s:PD)(a:AD):PD:=
 if a.kind=0 then(if s.AV.2.2=0 then(s.AV.1.put s.AV.2.1 (Abs a.by_)).1 else s.AV.1)
 else if a.kind=1 then(s.put (2+a.k % 8) (Abs a.by_)).1
 else if a.kind=3 then(s.drop (2+a.k % 8)).1
 else if a.kind=4 then s.flush
 else s
def PD.run(s:PD)(l:List AD):PD:=l.foldl PD.act s
end
end Go.Gk.Pgr
end
section
namespace Go.Gk.Pgr
open Go Go.Gk Go.Gk.Dev Go.Gk.Cch
variable{s t:PD}{i:Nat}{k:Int}{d:Ac}
structure AQ (s t:PD):Prop where
 frm:t.frm=s.frm
 len:t.kinds.length=s.kinds.length
 syn:t.syn.length=s.syn.length
 old:∀i,2≤s.kd i→2≤t.kd i
 new:∀i,2≤t.kd i→2≤s.kd i
 sec:∀i,2≤s.kd i→t.syn.getD (s.frm+i) []=s.syn.getD (s.frm+i) []
 round:t.round=s.round
def AQ.refl(s:PD):AQ s s:=⟨Z,Z,Z,fun _ h=>h,fun _ h=>h,fun _ _=>Z,Z⟩
def AQ.trans{u}(h:AQ s t)(k:AQ t u):AQ s u:=
 ⟨k.frm.trans h.frm,k.len.trans h.len,k.syn.trans h.syn,fun i hi=>k.old i (h.old i hi),fun i hi=>h.new i (k.new i hi),fun i hi=>by have:=k.sec i (h.old i hi);rw[h.frm] at this;exact this.trans (h.sec i hi),k.round.trans h.round⟩
def AQ.set{x:Int}{fb:Nat→Sec}(h:2≤s.kd i↔2≤x):AQ s {s with kinds:=s.kinds.set i x,fb:=fb}:=by
 have key:∀j,2≤s.kd j↔2≤(s.kinds.set i x).getD j 0:=fun j=>by
  by_cases hi:i<s.kinds.length
  ·rw[Dl hi];by_cases e:j=i
   ·subst e;rw[if_pos Z];exact h
   ·rw[if_neg e]
  ·rw[List.set_eq_of_length_le (by omega)]
 exact⟨Z,by simp,Z,fun j hj=>(key j).1 hj,fun j hj=>(key j).2 hj,fun _ _=>Z,Z⟩
def AQ.fb{fb:Nat→Sec}:AQ s {s with fb:=fb}:=⟨Z,Z,Z,fun _ h=>h,fun _ h=>h,fun _ _=>Z,Z⟩
def AQ.tc{tc:Nat}:AQ s {s with tc:=tc}:=⟨Z,Z,Z,fun _ h=>h,fun _ h=>h,fun _ _=>Z,Z⟩
def AQ.AV(s:PD):AQ s s.AV.1:=by
 unfold PD.AV;cases h:Dk 0 s.kinds with
 |none=>exact AQ.refl s
 |some i=>
  obtain⟨h1,h2⟩:=Gj h
  exact AQ.set (by rw[Kq h1,h2];decide)
def AQ.put(s:PD)(k:Int)(b:Sec):AQ s (s.put k b).1:=by
 unfold PD.put;split
 ·split
  ·exact AQ.fb
  ·exact AQ.refl s
 ·exact AQ.refl s
def AQ.drop(s:PD)(k:Int):AQ s (s.drop k).1:=by
 unfold PD.drop;split
 ·rename_i h;obtain⟨i,h1,rfl,h2,h3⟩:=C0 h (by omega);rw[h3];exact AQ.set (by rw[h2];decide)
 ·split
  ·rename_i h;obtain⟨i,h1,rfl,h2,h3⟩:=C0 h (by omega);rw[h3];exact AQ.set (by rw[h2];decide)
  ·exact AQ.refl s
def U3(h:s.kd i≠1):s.flush.syn.getD (s.frm+i) []=s.syn.getD (s.frm+i) []:=by
 refine Na (fun w hw e=>?_);obtain⟨j,h4,h5,rfl⟩:=KP hw;simp only at e;rw[show j=i by omega] at h5;exact h h5
def AQ.flush(s:PD):AQ s s.flush:=⟨Z,Z,EX _ _,fun _ h=>h,fun _ h=>h,fun i hi=>U3 (by omega),Z⟩
def AQ.act(s:PD)(a:AD):AQ s (s.act a):=by
 unfold PD.act;split
 ·split
  ·exact(AQ.AV s).trans (AQ.put _ _ _)
  ·exact AQ.AV s
 ·split
  ·exact AQ.put _ _ _
  ·split
   ·exact AQ.drop _ _
   ·split
    ·exact AQ.flush s
    ·exact AQ.refl s
def AQ.run(l:List AD):∀s:PD,AQ s (s.run l):=by
 induction l with
 |nil=>exact fun s=>AQ.refl s
 |cons a l ih=>exact fun s=>(AQ.act s a).trans (ih (s.act a))
def AQ.Acv(h:AQ s t)(hk:s.kind k=2):t.syn.getD k.toNat []=s.syn.getD k.toNat []:=by
 obtain⟨i,h1,rfl,h2,h3⟩:=C0 hk (by omega);exact h.sec i (by omega)
def Dv.sec{D:EK}{v L}(h:Dv d D v L){k:Nat}(hk:k<D.syn.length):(D.syn.getD k []).length=256:=by
 obtain⟨b,T,vs,vo,r,hs,ho, -, -,h3, -⟩:=h;obtain⟨cs,h1,h2⟩:=h3;rw[Aee,Aed hk];exact(h2 k hk).2
def Pg.dev{dv pv L}(h:Pg d s dv pv L):∃A LD,L=A++LD∧Dv d ⟨s.syn,[]⟩ dv LD:=by
 obtain⟨b,T,cv,bk,cp,hk,mb,ms,clk,c,LC,LD,bd,h1,h2,h3,h4,h5,h6,h7,h8,h9⟩:=h;exact⟨_::hk::mpI mb ms clk::LC,LD,h3,h7⟩
def AQ.og(h:AQ s t):Og s.kinds t.kinds:=⟨h.len.symm,fun i=>⟨h.old i,h.new i⟩⟩
def AQ.back(h:AQ s t):AQ s (t.back s.mark):=⟨h.frm,Z,h.syn,fun _ q=>q,fun _ q=>q,h.sec,h.round⟩
def PD.bytes(s:PD)(k:Int):Sec:=if s.kind k=1 then s.fb (k - s.frm).toNat else if s.kind k=2 then s.syn.getD k.toNat [] else []
def PD.Jg(s:PD)(k:Int):Int:=if s.kind k=1 then 0 else if s.kind k=2 then 0 else 240
def MR(h:AQ s t)(k:Int):(t.back s.mark).kind k=s.kind k:=by
 unfold PD.kind;rw[show(t.back s.mark).frm=s.frm from h.frm];rfl
def XQ(h:AQ s t)(k:Int):(t.back s.mark).bytes k=s.bytes k:=by
 have hk:=MR h k;unfold PD.bytes;rw[hk];by_cases h1:s.kind k=1
 ·rw[if_pos h1,if_pos h1,show(t.back s.mark).frm=s.frm from h.frm];rfl
 ·rw[if_neg h1,if_neg h1];by_cases h2:s.kind k=2
  ·rw[if_pos h2,if_pos h2];exact h.Acv h2
  ·rw[if_neg h2,if_neg h2]
def eb(x:Int):UInt8:=UInt8.ofNat (x % 256).toNat
def PD.SS(s:PD)(n:Nat):List UInt8:=(Afb n).flatMap fun(k:Nat)=>s.bytes (k:Int)++[eb (s.Jg (k:Int))]
def PD.look(s:PD):List UInt8:=s.SS 12++s.Cz.map eb++[eb s.free]
def Vc{n:Nat}:PD.bytes {s with tc:=n} k=s.bytes k:=Z
def AbN{n:Nat}:PD.Jg {s with tc:=n} k=s.Jg k:=Z
def Jr(h:s.kind k=2):s.bytes k=s.syn.getD k.toNat []:=by unfold PD.bytes;rw[if_neg (by omega),if_pos h]
def Fl.at{P f}(h:Fl P f){dv pv L}(hp:Pg d s dv pv L):
  AA P f [pv,vZ k] d L (Ret fun r d' L'=>∃a c tc,r=.tuple #[.slice a (s.bytes k).length c,vZ (s.Jg k)]∧AJ d' (.slice a (s.bytes k).length c) (s.bytes k)∧Pg d' {s with tc:=tc} dv pv L'):=by
 refine AA.DU (h (k:=k) hp) (fun r d' L' _ ⟨⟨q,q1,q2⟩,q3⟩=>⟨d',L',Vs.refl _ _,?_⟩)
 subst q1
 unfold PD.bytes PD.Jg
 unfold PD.get at q2 q3⊢
 by_cases h1:s.kind k=1
 ·simp only[if_pos h1] at q2 q3⊢
  obtain⟨a,c,rfl⟩:=RSl.val q2
  exact⟨a,c,_,Z,q2,q3⟩
 ·by_cases h2:s.kind k=2
  ·simp only[if_neg h1,if_pos h2] at q2 q3⊢
   obtain⟨a,c,rfl⟩:=RSl.val q2
   exact⟨a,c,_,Z,q2,q3⟩
  ·simp only[if_neg h1,if_neg h2] at q2 q3⊢
   obtain rfl:q=nV:=q2
   exact⟨none,0,s.tc,Z,RSl.nil,q3⟩
def RU{l:List Sec}{j:Nat}{x:Sec}(hi:i<l.length):(l.set i x).getD j []=if j=i then x else l.getD j []:=by
 simp only[Aee,List.getElem?_set];by_cases e:i=j
 ·subst e;simp[hi]
 ·rw[if_neg e,if_neg (fun h=>e h.symm)]
def LO(hin:s.frm+s.kinds.length≤s.syn.length)(h1:s.kd i=1):∀{n:Nat},n≤s.kinds.length→i<n→(synced (s.writes n) s.syn).getD (s.frm+i) []=s.fb i
 |n+1,hn,hi=>by
  rw[PD.writes];by_cases e:i=n
  ·subst e;rw[if_pos h1,JO,RU (by rw[EX];omega),if_pos Z]
  ·have ih:=LO hin h1 (n:=n) (by omega) (by omega);split
   ·rw[JO,RU (by rw[EX];omega),if_neg (by omega)];exact ih
   ·rw[Afh];exact ih
abbrev PD.fin(s:PD):PD:=s.flush.done
def Vi:s.fin.kind k=Dp (s.kind k):=by
 unfold PD.kind;have h1:s.fin.frm=s.frm:=Z;have h2:s.fin.kinds.length=s.kinds.length:=by simp[PD.fin,PD.done,PD.flush]
 rw[h1,h2];split
 ·show(s.kinds.map Dp).getD _ 0=_;rw[getD_map]
 ·rfl
def Rr(hG:Good s):s.fin.bytes k=s.bytes k:=by
 have hk:=Vi (s:=s) (k:=k);have hrng:s.kind k= -1∨(0≤s.kind k∧s.kind k≤3):=by
  unfold PD.kind;split
  ·exact .inr (hG.kd _)
  ·exact .inl Z
 have hin:=hG.inn;by_cases h1:s.kind k=1
 ·rw[h1] at hk;have hk2:s.fin.kind k=2:=hk;rw[Jr hk2];obtain⟨i,i1,rfl,i2,i3⟩:=C0 h1 (by omega);have:s.bytes ((s.frm+i:Nat):Int)=s.fb i:=by unfold PD.bytes;rw[if_pos h1,i3]
  rw[this];exact LO hin i2 (Aef _) i1
 ·by_cases h2:s.kind k=2
  ·rw[h2] at hk;have hk2:s.fin.kind k=2:=hk;rw[Jr hk2,Jr h2];obtain⟨i,i1,rfl,i2,i3⟩:=C0 h2 (by omega);exact U3 (by omega)
  ·have h3:s.fin.kind k≠1∧s.fin.kind k≠2:=by
    rw[hk];unfold Dp;by_cases q:s.kind k=3
    ·rw[if_pos q];omega
    ·rw[if_neg q,if_neg h1];omega
   unfold PD.bytes;rw[if_neg h3.1,if_neg h3.2,if_neg h1,if_neg h2]
def Pg.full{dv pv L}(h:Pg d s dv pv L)(hk:s.kind k=1∨s.kind k=2):(s.bytes k).length=256:=by
 have hG:=h.EL;obtain⟨A,LD, -,hD⟩:=h.dev;obtain⟨b,T,cv,bk,cp,hkk,mb,ms,clk,c,LC,LD,bd,h1,h2,h3,h4,h5, -⟩:=h;have hin:=hG.inn;rcases hk with hk|hk
 ·obtain⟨i,i1,rfl,i2,i3⟩:=C0 hk (by omega);obtain⟨v, -, -,q⟩:=h5 i i1 i2;unfold PD.bytes;rw[if_pos hk,i3];exact q
 ·obtain⟨i,i1,rfl,i2,i3⟩:=C0 hk (by omega);rw[Jr hk];exact Dv.sec hD (show((s.frm+i:Nat):Int).toNat<s.syn.length by omega)
def X0(h1:s.kind k≠1)(h2:s.kind k≠2):s.bytes k=[]:=by unfold PD.bytes;rw[if_neg h1,if_neg h2]
def AcK(hG:Good s):s.fin.kd i=0∨s.fin.kd i=2:=by
 show(s.kinds.map Dp).getD i 0=0∨(s.kinds.map Dp).getD i 0=2;rw[getD_map];have h:0≤s.kinds.getD i 0∧s.kinds.getD i 0≤3:=hG.kd i;unfold Dp;by_cases q:s.kinds.getD i 0=3
 ·rw[if_pos q];omega
 ·rw[if_neg q];by_cases q1:s.kinds.getD i 0=1
  ·rw[if_pos q1];omega
  ·rw[if_neg q1];omega
end Go.Gk.Pgr
end
section
namespace Go.Gk
open Go
variable{n:Nat}{d:Ac}
section
def Nx(X:List Nat)(a0 a:Act):Prop:=∀t,t∉X→a.tmps[t]?=a0.tmps[t]?
def Nx.put{X:List Nat}{a0 a:Act}(h:Nx X a0 a){dst:Option Nat}(hd:∀t,dst=some t→t∈X)(v:Value):Nx X a0 (a.put dst v):=by
 intro t ht;cases dst with
 |none=>exact h t ht
 |some d=>
  have hne:d≠t:=fun e=>ht (e▸hd d Z)
  show(a.tmps.setIfInBounds d v)[t]?=_
  rw[Array.getElem?_setIfInBounds,if_neg hne]
  exact h t ht
def Nx.defer{X:List Nat}{a0 a:Act}(h:Nx X a0 a)(l:List Deferred):Nx X a0 {a with defers:=l}:=h
section
variable {P:Program}{ops:Array Oper}{Q:Exit→Act→World→Prop}{X:List Nat}{a0:Act}
end
def Jz:Code→List Nat
 |.region _ ops _=>ops.toList.filterMap (·.dst)
 |.seq a b=>Jz a++Jz b
 |.cond _ a b=>Jz a++Jz b
 |.block _ a=>Jz a
 |.loop a=>Jz a
 |_=>[]
end
section
structure LA where
 n:Nat
 res:List GB
 a:Cm
 fd:Nat
 g:FuncId
 caps:List Nat
 c:Cm
def ML(n:Nat):List Operand→Option (List Nat)
 |[]=>some []
 |.tmp t::l=>if t<n then(ML n l).map (t:: ·) else none
 |_::_=>none
def AbC:GB→Nat
 |.tmp t=>t
 |.cell t _=>t
def SK(n:Nat)(ops:List Oper):Option (Nat×FuncId×List Nat):=
 match ops with
 |[o1,o2]=>match o1.dst,o1.op,o1.guard,o2.dst,o2.op,o2.guard with
  |some fd,.makeFunc (.func g) first caps,none,none,.defer ⟨.value (.tmp fd'),args,_⟩,none=>
   if first.size=0∧args.size=0∧fd=fd'∧fd<n then(ML n caps.toList).map fun cs=>(fd,g,cs) else none
  |_,_,_,_,_,_=>none
 |_=>none
def Aae(pr:Bool)(P:Program)(f:FuncId):Option LA:=
 match P.funcs[f]? with
 |some fn=>
  if fn.name== "runtime.NumGoroutine" || !P.follows .mixedOrders then none else
  match fn.body with
  |some (.seq a (.seq (.region _ ops false) c))=>
   match SK fn.ntmps ops.toList,fn.results.toList.mapM (HU P fn.ntmps) with
   |some (fd,g,cs),some rs=>if rs.all (fun r=> !(Jz c).contains (AbC r)) then some ⟨fn.ntmps,rs,Er pr P fn.ntmps a,fd,g,cs,Er pr P fn.ntmps c⟩ else none
   |_,_=>none
  |_=>none
 |none=>none
def O2{args}(ha:args.length≤n):({tmps:=args.toArray++Array.replicate (n - args.toArray.size) undef,defers:=[]}:Act)=act n (GA args) []:=by
 simp only[act,Act.mk.injEq,and_true];apply Array.ext
 ·simp at ha⊢;omega
 ·intro i h1 h2;simp only[Array.getElem_ofFn,GA];by_cases hi:i<args.length
  ·rw[Array.getElem_append_left (by simpa using hi)];simp[hi]
  ·rw[Array.getElem_append_right (by simpa using hi)];simp[List.getD,Afo (Air hi)]
def Ty{P}{fn:Func}{rs:List GB}(hr:fn.results.toList.mapM (HU P n)=some rs){ρ ds L F W}(hOk:Ok (d::(L++F)) W){vs}(h:GY ρ (HC d L) rs vs):
  (results fn (act n ρ ds).tmps).run P W=.ok (Lo vs) W:=by
 have hl:∀a v,HC d L a v→W.cell? a=some v:=fun a v hc=>hc.cell hOk.head (fun q hq=>hOk.2 q (by simp[hq]))
 have:=HI (P:=P) (n:=n) (ρ:=ρ) (ds:=ds) hl fn.results.toList rs vs hr h
 rw[Ig,Array.mapM_eq_mapM_toList]
 simp only[Sem.run_bind,Sem.run_map,this,Result.andThen,Sem.run_pure]
 cases vs with
 |nil=>rfl
 |cons v vs=>cases vs with
  |nil=>rfl
  |cons v' vs=>rfl
def JT{ρ ds}:∀{l}{cs:List Nat},ML n l=some cs→l.map (act n ρ ds).eval=cs.map ρ
 |[],cs,h=>by cases h;rfl
 |.tmp t::l,cs,h=>by
  simp only[ML] at h;split at h<;>try cases h
  rename_i ht;simp only[Afn] at h;obtain⟨cs',h,rfl⟩:=h;have e:(act n ρ ds).eval (.tmp t)=ρ t:=Bi (x:=.tmp t) (by simpa [D5] using ht);simp only[Agw,e,JT h]
 |.const _::l,cs,h=>by cases h
 |.global _::l,cs,h=>by cases h
 |.func _::l,cs,h=>by cases h
section
variable {pr:Bool}{P:Program}
def M9(K:Ac→List Ac→Prop):B5:={n:=fun _=>K,ret:=fun _=>K,ex:=fun _ _ _ _=>False,pan:=fun _ _ _=>False}
def El(g:FuncId)(caps:List Value):Value:=.func (.func g) #[] caps.toArray
def PE{ops}{r:Nat×FuncId×List Nat}(h:SK n ops.toList=some r):∃o1 o2 caps ats,ops= #[o1,o2]∧o1.dst=some r.1∧o1.op=.makeFunc (.func r.2.1) #[] caps∧o1.guard=none∧o2.dst=none∧o2.op=.defer ⟨.value (.tmp r.1), #[],ats⟩∧o2.guard=none∧r.1<n∧ML n caps.toList=some r.2.2:=by
 obtain⟨ops⟩:=ops;simp only[SK] at h;split at h<;>try cases h
 rename_i o1 o2;split at h<;>try cases h
 rename_i h1 h2 h3 h4 h5 h6;split at h<;>try cases h
 rename_i hc;obtain⟨k1,k2,k3,k4⟩:=hc;simp only[Afn] at h;obtain⟨cs,hcs,rfl⟩:=h;subst k3;have k1:=Array.eq_empty_of_size_eq_zero k1;have k2:=Array.eq_empty_of_size_eq_zero k2;subst k1;subst k2;exact⟨o1,o2,_,_,by simp_all,h1,h2,h3,h4,h5,h6,k4,hcs⟩
end
end
section
section
variable {pr:Bool}{P:Program}
def LJ{f}{g:A0}(hd:JW pr P f=some g)(hr:g.res=[]){args}(ha:args.length≤g.n){F W L}{K:Ac→List Ac→Prop}
  (h:gwp P g.code (M9 K) (GA args) d L) (hOk:Ok (d::(L++F)) W):
  CallsD P f args.toArray .returning W fun e u' w'=>(∃r,e=.returned r)∧u'=.returning∧∃d' L',Ok (d'::(L'++F)) w'∧Le d d'∧AQ W w'∧K d' L':=by
 simp only[JW] at hd
 split at hd<;>try cases hd
 rename_i fn hf
 split at hd<;>try cases hd
 rename_i hn
 split at hd<;>try cases hd
 rename_i c hb
 rw[Afn] at hd
 obtain⟨rs,hrs,rfl⟩:=hd
 simp only at hr
 subst hr
 have hz:fn.results.size=0:=by
  have:fn.results.toList.length=0:=by
   cases e:fn.results.toList with
   |nil=>rfl
   |cons r l=>
    rw[e,List.mapM_cons] at hrs
    simp only[Option.bind_eq_bind,Option.bind_eq_some_iff,Option.pure_def] at hrs
    obtain⟨_,_,_,_,hh⟩:=hrs
    cases hh
  simpa using this
 simp only[Afp,not_or,Agr,Ahv] at hn
 refine callsD_of_wpS hf hb fun c₀ cs hu=>?_
 rw[O2 ha]
 refine wpS_of_wp (wp_mono (Fx (ds:=[]) (F:=F) (W0:=W) (d0:=d) (by simpa using hn.2) c _ _ d L W h hOk (Le.refl d) (AQ.refl W)) ?_)
 have hres:∀(tm:Array Value) (w:World),(results fn tm).run P w=.ok (.tuple #[]) w:=by
  intro tm w;have:fn.results= #[]:=Array.eq_empty_of_size_eq_zero hz;rw[Ig,Array.mapM_eq_mapM_toList,this];simp
 intro e a w hq
 cases e with
 |normal=>
  obtain⟨ρ,d',L',rfl,k1,k2,k3,k4⟩:=hq
  exact⟨Z,.returning,by cases c₀;simp_all,_,hres _ _,⟨_,Z⟩,Z,d',L',k1,k2,k3,k4⟩
 |ret=>
  obtain⟨ρ,d',L',rfl,k1,k2,k3,k4⟩:=hq
  exact⟨Z,.returning,by cases c₀;simp_all,_,hres _ _,⟨_,Z⟩,Z,d',L',k1,k2,k3,k4⟩
 |panic c=>obtain⟨_,_,_,_,_,_,hh⟩:=hq;exact hh.elim
 |exit i=>obtain⟨_,_,_,_,_,_,_,hh⟩:=hq;exact hh.elim
 |goto l=>exact hq.elim
 |outgrown=>exact hq.elim
def AdL(P:Program)(res:List GB)(v:A0)(R:Ending→Ac→List Ac→Prop)(caps:List Value):B5:=
 {n:=fun ρ d L=>gwp P v.code (M9 (CL res R ρ)) (GA caps) d L,ret:=fun ρ d L=>gwp P v.code (M9 (CL res R ρ)) (GA caps) d L,ex:=fun _ _ _ _=>False,pan:=fun _ _ _=>False}
def S1(P:Program)(g:LA)(v:A0)(R:Ending→Ac→List Ac→Prop):B5:=
 {n:=fun ρ d L=>gwp P g.c (AdL P g.res v R (g.caps.map ρ)) (upd ρ g.fd (El g.g (g.caps.map ρ))) d L,
  ret:=fun _ _ _=>False,ex:=fun _ _ _ _=>False,pan:=fun _ _ _=>False}
def YW{pr':Bool}{f}{g:LA}{v:A0}(hd:Aae pr P f=some g)(hv:JW pr' P g.g=some v)(hvr:v.res=[]){args}(ha:args.length≤g.n)(hcl:g.caps.length≤v.n){L R}
  (h:gwp P g.a (S1 P g v R) (GA args) d L):AA P f args d L R:=by
 simp only[Aae] at hd
 split at hd<;>try cases hd
 rename_i fn hf
 split at hd<;>try cases hd
 rename_i hn
 split at hd<;>try cases hd
 rename_i A id ops C hb
 split at hd<;>try cases hd
 rename_i fd gg cs rs hdf hrs
 split at hd<;>cases hd
 rename_i hall
 simp only[Afp,not_or,Agr,Ahv] at hn
 have hm:P.follows .mixedOrders=true:=by simpa using hn.2
 obtain⟨o1,o2,caps,ats,rfl,h1,h2,h3,h4,h5,h6,h7,h8⟩:=PE hdf
 simp only at h1 h2 h5 h7 h8 hv hcl ha h
 have hvc:KU P gg:=by
  have hv':=hv;simp only[JW] at hv';split at hv'<;>try cases hv'
  rename_i fn' hf';split at hv'<;>try cases hv'
  rename_i hn';split at hv'<;>try cases hv'
  rename_i hb';simp only[Afp,not_or,Agr,Ahv] at hn';exact⟨fn',hf',by rw[hb'];rfl,hn'.1⟩
 refine⟨⟨fn,hf,by rw[hb];rfl,hn.1⟩,fun F W hOk=>?_⟩
 refine calls_of_wp_defers hf hb ?_
 rw[O2 ha]
 refine wp_seq (wp_mono (Fx (ds:=[]) (F:=F) (W0:=W) (d0:=d) hm A _ _ d L W h hOk (Le.refl d) (AQ.refl W)) ?_)
 intro e a w hq
 cases e with
 |panic c=>obtain⟨_,_,_,_,_,_,hh⟩:=hq;exact hh.elim
 |exit i=>obtain⟨_,_,_,_,_,_,_,hh⟩:=hq;exact hh.elim
 |ret=>obtain⟨_,_,_,_,_,_,_,hh⟩:=hq;exact hh.elim
 |goto l=>exact hq.elim
 |outgrown=>exact hq.elim
 |normal=>
 obtain⟨ρ,d1,L1,rfl,k1,k2,k3,k4⟩:=hq
 simp only[S1] at k4
 refine wp_seq (wp_region ?_)
 have l:Afb (#[o1,o2]:Array Oper).size=[0,1]:=Z
 rw[l]
 have g0:(#[o1,o2]:Array Oper)[0]?=some o1:=Z
 have g1:(#[o1,o2]:Array Oper)[1]?=some o2:=Z
 have e1:∀ys,Region.wanted o1 ys=true:=fun ys=>by simp[Region.wanted,h3]
 have e2:∀ys,Region.wanted o2 ys=true:=fun ys=>by simp[Region.wanted,h6]
 have hcv:caps.map (act fn.ntmps ρ []).eval=(cs.map ρ).toArray:=by
  have:=JT (ρ:=ρ) (ds:=[]) h8;exact Array.ext' (by rw[Array.toList_map,this])
 have x1:∀w,(execOp (act fn.ntmps ρ []).eval o1).run P w=.ok (.value (El gg (cs.map ρ))) w:=by
  intro w;simp[execOp,h2,Instr.makeFunc,hcv,El]
 have hfd:(act fn.ntmps (upd ρ fd (El gg (cs.map ρ))) []).eval (.tmp fd)=El gg (cs.map ρ):=by
  rw[Bi (x:=.tmp fd) (by simpa [D5] using h7)];simp[ev,upd]
 have x2:∀w,(execOp (act fn.ntmps (upd ρ fd (El gg (cs.map ρ))) []).eval o2).run P w=.ok (.defer {target:=.fn (.func gg) (cs.map ρ).toArray,args:= #[]}) w:=by
  intro w;generalize (act fn.ntmps (upd ρ fd (El gg (cs.map ρ))) []).eval=e at hfd;simp[execOp,h5,resolve,hfd,El,Deferred.ofValue]
 have p1:(act fn.ntmps ρ []).put o1.dst (El gg (cs.map ρ))=act fn.ntmps (upd ρ fd (El gg (cs.map ρ))) []:=by
  rw[h1,Fh (d:=some fd) (fun _ e=>by cases e;exact h7)];rfl
 simp only[wpOps_cons,wpOp,g0,e1,if_true]
 refine .inl ?_
 simp only[Oper.wp,x1,Oper.upon,p1,wpOps_cons,wpOp,g1,e2,if_true]
 refine .inl ?_
 simp only[x2,h4]
 show Code.wp P C _ (act fn.ntmps (upd ρ fd (El gg (cs.map ρ))) [{target:=.fn (.func gg) (cs.map ρ).toArray,args:= #[]}]) w
 have hlen:(cs.map ρ).length≤v.n:=by simpa using hcl
 have hinv:∀w,(invoke (.fn (.func gg) (cs.map ρ).toArray) #[]).run P w=.ok (.enter gg (cs.map ρ).toArray) w:=by
  intro w;simp[invoke,Fi hvc]
 generalize hD:(⟨.fn (.func gg) (cs.map ρ).toArray, #[]⟩:Deferred)=D
 refine wp_mono (Fx (ds:=[D]) (F:=F) (W0:=W) (d0:=d) hm C _ _ d1 L1 w k4 k1 k2 k3) ?_
 subst hD
 have fin:∀a w,(∃ρ' d' L',a=act fn.ntmps ρ' [⟨.fn (.func gg) (cs.map ρ).toArray, #[]⟩]∧Ok (d'::(L'++F)) w∧Le d d'∧AQ W w∧gwp P v.code (M9 (CL rs R ρ')) (GA (cs.map ρ)) d' L')→
   Leaves P fn a.tmps (fun e W'=>∃d' L',Ok (d'::(L'++F)) W'∧Le d d'∧AQ W W'∧R e d' L') a.defers .returning w:=by
  rintro a w ⟨ρ',d',L',rfl,j1,j2,j3,j4⟩
  refine leaves_cons (by simp) (hinv w) ((LJ hv hvr hlen j4 j1).mono ?_)
  rintro e u' w' ⟨⟨r,rfl⟩,rfl,d2,L2,q1,q2,q3,vs,q4,d3,L3,q5,q6⟩
  exact⟨Lo vs,Ty hrs q1 q4,d3,L3,q5.2 F w' q1,(j2.trans q2).trans q5.1,j3.trans q3,q6⟩
 intro e a w hq
 cases e with
 |normal=>exact fin a w hq
 |ret=>exact fin a w hq
 |panic c=>obtain⟨_,_,_,_,_,_,hh⟩:=hq;exact hh.elim
 |exit i=>obtain⟨_,_,_,_,_,_,_,hh⟩:=hq;exact hh.elim
 |goto l=>exact hq.elim
 |outgrown=>exact hq.elim
end
end
end Go.Gk
end
section
namespace Go.Gk.Chn
open Go Go.Gk Go.Gk.Dev Go.Gk.Cch Go.Gk.Pgr Go.Gk.Node
attribute [local irreducible] gwp gws xwp
def B0(s:PD)(l:List Int):Nat→PD×List Int×Int
 |0=>(s,l,0)
 |n+1=>if s.AV.2.2=0 then B0 s.AV.1 (l++[s.AV.2.1]) n else(s.AV.1,l,s.AV.2.2)
def DM(s:PD)(l:List Int):PD:=l.foldl (fun s k=>(s.drop k).1) s
def Bu(s:PD)(n:Nat):PD×List Int×Int:=if (B0 s [] n).2.2=0 then B0 s [] n else(DM (B0 s [] n).1 (B0 s [] n).2.1,[],(B0 s [] n).2.2)
def Sk{s}(hG:Pgr.Good s):0≤s.AV.2.1∧s.AV.2.1≤16384:=by
 unfold PD.AV;cases h:Dk 0 s.kinds with
 |none=>show 0≤(0:Int)∧(0:Int)≤16384;decide
 |some i=>
  obtain⟨h1, -⟩:=Gj h
  have:=hG.inn
  have:=hG.syn
  show 0≤((s.frm+i:Nat):Int)∧((s.frm+i:Nat):Int)≤16384
  omega
def Kb(P:Program)(f:FuncId):Prop:=∀{d s dv pv L}{n:Nat},Pg d s dv pv L→n≤8192→
 AA P f [pv,vZ n] d L (Ret fun r d' L'=>Le d d'∧∃v,r=.tuple #[v,vZ (Bu s n).2.2]∧DS d' v (Bu s n).2.1∧Pg d' (Bu s n).1 dv pv L')
def Aai(d a b c h:Ac)(L:List Ac):Vs d (a::b::c::h::L) (join d h) L:=(Vs.drop (.cons _ (.cons _ (.cons _ (Aeb _))))).trans Vs.freeze
def Yk{s}{l:List Int}{k:Int}:DM s (l++[k])=((DM s l).drop k).1:=by simp[DM]
def SD(a0 a1:Nat):LA:=⟨27,[(.cell 4 none),(.cell 5 none)],(rG (o1 2 (.box 0)<|o1 4 (.alo nV)<|o1 5 (.alo (vZ 0)) .done)),8,a0,[5,4,2],(.seq (sR (om 9 1<|o1 10 (.mv z0) .done) (.block 0 (.loop (sR (ob 11 .lss 10 9 .done) (.seq (.cond 11 .skip (.exit 0)) (.seq (.block 1 (sR (ol 13 2<|oc 14 a1 [13]<|om 12 14<|oe 15 12 0<|oe 16 12 1<|om 6 15<|om 7 16 .done) (.seq (sR (om 17 7<|ob 18 .neq 17 z0 .done) (.cond 18 (sR (ol 19 4<|om 20 7<|o0 (.st 1 4 19)<|o0 (.st 1 5 20) .done) .ret) .skip)) (rG (ol 21 4<|om 22 6<|o1 23 (.bsl 1 1 [(vZ 0)] [(0,22)])<|o1 24 (.app 1 8 [(vZ 0)] 21 23)<|o0 (.st 1 4 24) .done))))) (rG (ob 25 .add 10 z1<|om 10 25 .done)))))))) (sR (ol 26 4<|o0 (.st 1 4 26)<|o0 (.st 1 5 z0) .done) .ret))⟩
def JI(a0:Nat):A0:=⟨17,[],(sR (ol 5 0<|ob 6 .neq 5 z0 .done) (.cond 6 (.seq (sR (ol 7 1<|oL 8 7<|o1 9 (.mv z0) .done) (.block 0 (.loop (sR (ob 10 .lss 9 8 .done) (.seq (.cond 10 .skip (.exit 0)) (.seq (.block 1 (sR (oI 11 1 7 9<|ol 12 11<|om 4 12 .done) (rG (ol 13 2<|om 14 4<|oc 15 a0 [13,14] .done)))) (rG (ob 16 .add 9 z1<|om 9 16 .done)))))))) (rG (o0 (.st 1 1 nS) .done))) .skip))⟩
def Qj(P:Program)(f:FuncId):Prop:=∃f3,dec P f=some (JI f3)∧Gl P f3
def W4{P f f3}(hd:dec P f=some (JI f3))(h:Gl P f3):Qj P f:=⟨f3,hd,h⟩
set_option maxRecDepth 4000 in
set_option maxHeartbeats 1000000 in
def Vl{P f f1 f2}(hd:Aae false P f=some (SD f1 f2))(h0:Qj P f1)(h1:Ff P f2):Kb P f:=by
 obtain⟨f3,hv,h2⟩:=h0;intro d s dv pv L n hp hn;obtain⟨bp,rfl⟩:=hp.ptr;refine YW hd hv Z (Aea Z) (Aea Z) ?_;show gwp P _ _ _ _ _;(apply AE);refine Fb Z (fun b2 T2=>?_);refine Dg (fun b4 T4=>?_);refine Dg (fun b5 T5=>?_);refine F7 ⟨d,bx b5 T5 [vZ 0]::bx b4 T4 [nV]::bx b2 T2 [pZ bp]::emp::L,(Vs.emp (L:=_)).trans (Vs.perm ((Afa _ _ _).trans (Aem _ ((Afa _ _ _).trans (Aem _ (Afa _ _ _)))))),?_⟩;show gwp P _ _ _ _ _;refine Ag<|Ad<|Ab Z<|Ab Z<|Aa<|Ax<|B8 (α:=Nat×PD×List Int×Option Addr×Nat) (fun x=>[(2,pZ b2),(4,pZ b4),(5,pZ b5),(9,vZ n),(10,vZ x.1)])
  (fun x d' L'=>Le d d'∧x.1≤n∧B0 s [] n=B0 x.2.1 x.2.2.1 (n - x.1)∧x.2.2.1.length=x.1∧∃hv L3,L'=bx b5 T5 [vZ 0]::bx b4 T4 [.slice x.2.2.2.1 x.2.2.1.length x.2.2.2.2]::bx b2 T2 [pZ bp]::hv::L3∧
   As 1 Bh d' (.slice x.2.2.2.1 x.2.2.1.length x.2.2.2.2) x.2.2.1 hv∧Pg d' x.2.1 dv (pZ bp) L3)
  (fun x=>n - x.1) (0,s,[],none,0) ⟨Z,Z,Z,Z,Z,trivial⟩ ⟨Le.refl _,Aez _,Z,Z,emp,L,Z,As.nil,hp⟩ ?_
 rintro⟨i,s1,l,va,vc⟩ ρ d' L' ⟨hle,hi,hT,hll,hv,L3,rfl,hrow,hp1⟩;simp only at hi hT hll hrow hp1⊢;by_cases e:i<n
 ·have hni:n - i=(n - (i+1))+1:=by omega
  rw[hni,B0] at hT;refine Ad<|AB Z Z<|Aa<|Ag<|Aw Z (by omega)<|Ak<|Ag<|Ax<|Ad<|Ah Z (Al 2 Z Z)<|Ds (h1 hp1) (Aei (l₁:=[_,_,_,_])) Z (fun u d2 L2 hl2 ⟨q1,hp2⟩=>?_);subst q1;refine⟨d2,_::_::_::_::L2,Vs.perm (Aei (l₂:=[_,_,_,_])),?_⟩
  have hrow2:As 1 Bh d2 (.slice va l.length vc) l hv:=As.mono (R:=Bh) B6 hrow hl2;by_cases hz:s1.AV.2.2=0
  ·rw[if_pos hz] at hT;(refine AT Z<|Ao Z Z<|Ao Z Z<|Ab Z<|Ab Z<|Aa<|Ag<|Ad<|Ab Z<|AO Z Z<|Aa<|Ar Z (by omega)<|Ak<|AE<|Ah Z (Al 1 Z Z)<|Ab Z ?_);have hrg:=Sk hp1.EL;refine Dq (v0:=vZ s1.AV.2.1) Z Z (fun b3 T3=>?_);refine Dj (R:=Bh) 3 Z Z hrow2 Z (As.D2 (x:=s1.AV.2.1) Z ⟨Z,by omega,by omega⟩) DF (by omega) (by simp;omega) (by simp;omega) (fun v' h' ho'=>?_);obtain⟨va',vc',rfl⟩:=ho'.val;refine A7 1 [.slice va' (l++[s1.AV.2.1]).length vc'] Z Z Z Z (Aef _) Z Z ?_;(refine Aa<|AE<|AM Z Z (by omega) (by omega)<|Ab Z<|Aa ?_);exact⟨(i+1,s1.AV.1,l++[s1.AV.2.1],va',vc'),by simp only;omega,⟨Z,Z,Z,Z,Z,trivial⟩,hle.trans hl2,e,hT,by simp only[Aek,Aep,List.length_nil];omega,h',L2,Z,ho',hp2⟩
  ·rw[if_neg hz] at hT;refine AT Z<|Ao Z Z<|Ao Z Z<|Ab Z<|Ab Z<|Aa<|Ag<|Ad<|Ab Z<|AO Z Z<|Aa<|Aw Z (by omega)<|Ad<|Ah Z (Al 1 Z Z)<|Ab Z<|A7 1 [.slice va l.length vc] Z Z Z Z (Aef _) Z Z ?_;refine A7 0 [vZ s1.AV.2.2] Z Z Z Z (Aef _) Z Z ?_;have hF:Bu s n=(DM s1.AV.1 l,[],s1.AV.2.2):=by unfold Bu;rw[hT,if_neg hz]
   rw[hF];have hbl:(s1.AV.1).kinds.length≤8192:=hp2.EL.len;(refine Aa<|Ap<|Ad<|Ah Z (Al 0 Z Z)<|AO Z Z<|Aa<|Aw Z (by omega)<|Ag<|Ad<|Ah Z (Al 1 Z Z)<|AI Z<|Ab Z<|Aa<|Ax ?_);show gwp P _ _ _ _ _;skip;refine B8 (α:=Nat) (fun i=>[(1,pZ b4),(2,pZ b2),(7,.slice va l.length vc),(8,vZ l.length),(9,vZ i)])
    (fun i d' L'=>Le d2 d'∧i≤l.length∧∃L4,L'=bx b5 T5 [vZ s1.AV.2.2]::bx b4 T4 [.slice va l.length vc]::bx b2 T2 [pZ bp]::hv::L4∧Pg d' (DM s1.AV.1 (l.take i)) dv (pZ bp) L4)
    (fun i=>l.length - i) 0 ⟨Z,Z,Z,Z,Z,trivial⟩ ⟨Le.refl _,Aez _,L2,Z,hp2⟩ ?_
   rintro j ρ d' L' ⟨hle',hj,L4,rfl,hp4⟩;by_cases ej:j<l.length
   ·have hn':DM s1.AV.1 (l.take (j+1))=((DM s1.AV.1 (l.take j)).drop l[j]).1:=by rw[Aes ej,Yk]
    obtain⟨b1,T1,l1,c1,cs,q1,rfl,hcl,hcs,hle1,⟨rfl,hb1,hb2⟩, -⟩:=As.at (by omega) hrow ej;cases q1;have c0:=hcs 0 _ Z;refine Ad<|AB Z Z<|Aa<|Ag<|Aw Z (by omega)<|Ak<|Ag<|Ax<|Ad<|BD _ Z Z Z (by omega)<|Ah Z (Al 3 Z (by assumption))<|Ab Z<|Aa<|AE<|Ah Z (Al 2 Z Z)<|Ab Z<|Ds (h2 (k:=l[j]) hp4) (Aei (l₁:=[_,_,_,_])) Z (fun u d5 L5 hl5 ⟨q1,hp5⟩=>?_);subst q1;refine⟨d5,_::_::_::_::L5,Vs.perm (Aei (l₂:=[_,_,_,_])),?_⟩
    (refine Aa<|AE<|AM Z Z (by omega) (by omega)<|Ab Z<|Aa ?_);exact⟨j+1,by omega,⟨Z,Z,Z,Z,Z,trivial⟩,hle'.trans hl5,ej,L5,Z,by rw[hn'];exact hp5⟩
   ·have:j=l.length:=by omega
    subst this;rw[Afq] at hp4;refine Ad<|AB Z Z<|Aa<|Ag<|Ar Z (by omega)<|Bd<|AE<|A7 1 [nV] Z Z Z Z (Aef _) Z Z ?_;(apply Aa);exact A4 [nV,vZ s1.AV.2.2] ⟨⟨_,_,Z,Al 1 Z Z⟩,⟨_,_,Z,Al 0 Z Z⟩,trivial⟩ (d':=d') (L':=L4) (Vs.drop (.cons _ (.cons _ (.cons _ (.cons _ (Aeb _)))))) ⟨(hle.trans hl2).trans hle',_,Z,RSl.nil,hp4⟩
 ·have:i=n:=by omega
  subst this;rw[Aia,B0] at hT;have hF:Bu s i=(s1,l,0):=by unfold Bu;rw[hT,if_pos Z]
  rw[hF];refine Ad<|AB Z Z<|Aa<|Ag<|Ar Z (by omega)<|Bd<|Ad<|Ah Z (Al 1 Z Z)<|A7 1 [.slice va l.length vc] Z Z Z Z (Aef _) Z Z ?_;refine A7 0 [vZ 0] Z Z Z Z (Aef _) Z Z ?_;(refine Aa<|Ap<|Ad<|Ah Z (Al 0 Z Z)<|AO Z Z<|Aa<|Ar Z (by omega)<|Ak ?_);exact A4 [.slice va l.length vc,vZ 0] ⟨⟨_,_,Z,Al 1 Z Z⟩,⟨_,_,Z,Al 0 Z Z⟩,trivial⟩ (d':=join d' hv) (L':=L3) (Aai _ _ _ _ _ _) ⟨hle.trans (Le.Az _ _),_,Z,As.rsl (R:=Bh) (sz:=1) hrow B6 (by omega) (Le.Az _ _) (Le.A6 _ _),hp1.mono (Le.Az _ _)⟩
end Go.Gk.Chn
end
section
namespace Go.Gk.Chn
open Go Go.Gk Go.Gk.Dev Go.Gk.Cch Go.Gk.Pgr Go.Gk.Node
variable{f:FuncId}
section
section
variable {P:Program}{pan:List PanicEntry→AU}{Qn:Env→AU}{Ls L:List Ac}{ρ:Env}{d:Ac}{s:GS}{t:Nat}{tk:Bool}
def ZG{x y}{b o n c i:Nat}{T ls w l}{t:Option Nat}(ex:ev ρ x=.slice (some ⟨b,o,none⟩) n c)(ey:ev ρ y=w)(hw:AJ d w l)(hi:L[i]?=some (bx b T ls))(hn:o+n≤ls.length)
  (h:gws P pan Qn s Ls (put ρ t (vZ ((min l.length n:Nat):Int))) d (L.set i (bx b T (patch ls o ((l.take n).map Av))))):gws P pan Qn (.op false ⟨t,none,.mop (.cpy 1 x y)⟩ s) Ls ρ d L:=by
 obtain⟨a,c',b',o',rfl,h2,h3,h4,h5,h6,h7,h8⟩:=hw
 refine⟨d,L,Vs.refl d L,?_⟩
 simp only[gop,gi,mi]
 refine⟨_,n,c,a,l.length,c',(l.take n).map Av,ex,ey,by simp[Nat.min_comm],CB _,fun e=>?_,fun a' ha j u hu=>?_,.inr ⟨i,b,o,T,ls,Z,hi,by simp;omega,d,_,Vs.refl d _,h⟩⟩
 ·have:l=[]:=List.eq_nil_of_length_eq_zero (by have:=h4 e;omega)
  subst this;simp
 ·rw[List.getElem?_map,List.getElem?_take] at hu
  split at hu
  ·cases q:l[j]? with
   |none=>rw[q] at hu;cases hu
   |some y=>
    rw[q] at hu
    cases hu
    obtain⟨hj,rfl⟩:=List.getElem?_eq_some_iff.1 q
    obtain⟨cs,j1,j2,j3⟩:=h8 j hj
    obtain rfl:=j3
    have ha2:=h2 (by omega)
    rw[ha] at ha2
    cases ha2
    have h9:=j2.at (i:=0) Z
    have h0:HC d (Ls++L++L) ⟨b',o'+j,none⟩ (Av l[j]):=BB (by simpa using h9)
    have ea:(⟨b',o',none⟩:Addr).add j=⟨b',o'+j,none⟩:=by
     unfold Addr.add;simp
    rw[ea];exact h0
  ·cases hu
def Jq{x y}{b len:Nat}{kk}(k:Nat)(ex:ev ρ x=pZ b)(ey:ev ρ y=.int kk (k:Nat))(hk:k<len)(h:gws P pan Qn s Ls (upd ρ t (.slice (some ⟨b,k,none⟩) (len - k) (len - k))) d L):
  gws P pan Qn (.op tk ⟨some t,none,.sla len 1 x (some y) none none⟩ s) Ls ρ d L:=by
 refine w_q Z ⟨b,0,k,len,len,ex,?_,Z⟩ ?_
 ·simp only[Ea,Hl,GX,Hr,Option.bind_some,Option.map_some,Option.map_none,ey,bnd]
  have:k≤len:=by omega
  simp[this]
 ·rw[if_neg (by omega)];simpa using h
def Ln{x}{b len:Nat}(ex:ev ρ x=pZ b)(hk:0<len)(h:gws P pan Qn s Ls (upd ρ t (.slice (some ⟨b,0,none⟩) len len)) d L):
  gws P pan Qn (.op tk ⟨some t,none,.sla len 1 x none none none⟩ s) Ls ρ d L:=by
 refine w_q Z ⟨b,0,0,len,len,ex,?_,Z⟩ ?_
 ·simp[Ea,Hl,GX,Hr]
 ·rw[if_neg (by omega)];simpa using h
end
attribute [local irreducible] gwp gws xwp
def AP(n:Nat):Nat:=max 1 ((n+253) / 254)
def Fp(P:Program)(f:FuncId):Prop:=∀{d}{n:Nat},n≤1000000→CP P f [vZ n] d (vZ (AP n))
def SE:A0:=⟨10,[(.tmp 2)],(sR (o1 2 (.mv z0) .done) (.seq (sR (om 3 0<|ob 4 .lss 3 z0 .done) (.cond 4 (sR (o1 2 (.mv z0) .done) .ret) .skip)) (sR (om 5 0<|ob 6 .sub 5 z1<|ob 7 .quo 6 (kZ 254)<|ob 8 .add 7 z1<|o1 9 (.mx2 z1 8)<|om 2 9 .done) .ret)))⟩
def Aam{n:Nat}:max (1:Int) (((n:Int) - 1).tdiv 254+1)=(AP n:Nat):=by
 unfold AP;by_cases h:n=0
 ·subst h;rfl
 ·have h1:((n:Int) - 1).tdiv 254=((n:Int) - 1) / 254:=Ajd (by omega);rw[h1];omega
def S7{P}(hd:dec P f=some SE):Fp P f:=by
 intro d n hn;refine AG hd (Aea Z) ?_;show gwp P _ _ _ _ _;have hb: -1≤((n:Int) - 1).tdiv 254∧((n:Int) - 1).tdiv 254≤1000000:=by
  by_cases h:n=0
  ·subst h;decide
  ·rw[Ajd (by omega)];omega
 refine Ad<|Ab Z<|Aa<|Ag<|Ad<|Ab Z<|AB Z Z<|Aa<|Ar Z (by omega)<|Ak<|Ad<|Ab Z<|CV Z Z (by omega) (by omega)<|AcZ Z Z (by omega) (by omega) (by omega)<|AM Z Z (by omega) (by omega)<|Aby Z Z<|Ab Z<|Aa<|Ap<|Iw Z ?_;rw[Aam]
def C7(next:Int)(c:List UInt8):Sec:=UInt8.ofNat (next / 256 % 256).toNat::UInt8.ofNat (next % 256).toNat::(c++Aeu (254 - c.length) 0)
def Ir(x y:UInt8){c}(_:c.length≤254):patch (patch (patch Cc 0 [Av x]) 1 [Av y]) 2 (c.map Av)=(x::y::(c++Aeu (254 - c.length) 0)).map Av:=by
 have hz:Cc=Av 0::Av 0::Aeu 254 (Av 0):=Z;have e1:patch (Av 0::Av 0::Aeu 254 (Av 0)) 0 [Av x]=Av x::Av 0::Aeu 254 (Av 0):=Z;have e2:patch (Av x::Av 0::Aeu 254 (Av 0)) 1 [Av y]=Av x::Av y::Aeu 254 (Av 0):=Z;rw[hz,e1,e2];unfold patch;rw[Afv,Nat.add_comm 2];show Av x::Av y::(c.map Av++(Aeu 254 (Av 0)).drop c.length)=_;rw[List.drop_replicate,Agw,Agw,List.map_append,List.map_replicate]
def BH(b:List UInt8)(i:Nat):List UInt8:=(b.drop (i*254)).take 254
def CX(s:PD)(l:List Int)(b:List UInt8):Nat→PD
 |0=>s
 |i+1=>((CX s l b i).put (l.getD i 0) (C7 (l.getD (i+1) 65535) (BH b i))).1
def BK(s:PD)(b:List UInt8):PD×Int×Int:=
 let t:=Bu s (AP b.length)
 if t.2.2=0 then(CX t.1 t.2.1 b t.2.1.length,t.2.1.getD 0 0,0) else(t.1,0,t.2.2)
def Nf:∀{n:Nat}{s}{l:List Int},(B0 s l n).2.2=0→(B0 s l n).2.1.length=l.length+n
 |0,s,l,_=>rfl
 |n+1,s,l,h=>by
  rw[B0] at h⊢;split at h
  ·rename_i e;rw[if_pos e,Nf h];simp;omega
  ·rename_i e;exact absurd h e
def Sc{s}{n:Nat}(h:(Bu s n).2.2=0):(Bu s n).2.1.length=n:=by
 unfold Bu at h⊢;split
 ·rename_i e;have:=Nf (s:=s) e;simpa using this
 ·rename_i e;rw[if_neg e] at h;exact absurd h e
def MV{n i:Nat}(h:i<AP n):i*254≤n:=by unfold AP at h;omega
def MF(P:Program)(f:FuncId):Prop:=∀{d s dv pv bv L b},Pg d s dv pv L→AJ d bv b→b.length≤16384→
 AA P f [pv,bv] d L (Ret fun r d' L'=>Le d d'∧r=.tuple #[vZ (BK s b).2.1,vZ (BK s b).2.2]∧Pg d' (BK s b).1 dv pv L')
def Oq(a0 a1 a2:Nat):A0:=⟨64,[(.tmp 4),(.tmp 5)],(sR (o1 4 (.mv z0)<|o1 5 (.mv z0) .done) (.seq (sR (om 12 1<|oL 13 12<|ob 14 .gtr 13 (kZ 16384) .done) (.cond 14 (sR (o1 4 (.mv z0)<|o1 5 (.mv (kZ 3)) .done) .ret) .skip)) (sR (om 16 0<|om 17 1<|oL 18 17<|oc 19 a0 [18]<|oc 20 a1 [16,19]<|om 15 20<|oe 21 15 0<|oe 22 15 1<|om 6 21<|om 7 22 .done) (.seq (sR (om 23 7<|ob 24 .neq 23 z0 .done) (.cond 24 (sR (om 25 7<|o1 4 (.mv z0)<|om 5 25 .done) .ret) .skip)) (.seq (sR (om 26 6<|oL 27 26<|o1 28 (.mv z0) .done) (.block 0 (.loop (sR (ob 29 .lss 28 27 .done) (.seq (.cond 29 .skip (.exit 0)) (.seq (.block 1 (sR (om 30 28<|oI 31 1 26 28<|ol 32 31<|om 8 30<|om 9 32 .done) (sR (o1 10 (.mv (kZ 65535)) .done) (.seq (sR (om 33 8<|ob 34 .add 33 z1<|om 35 6<|oL 36 35<|ob 37 .lss 34 36 .done) (.cond 37 (rG (om 38 6<|om 39 8<|ob 40 .add 39 z1<|oI 41 1 38 40<|ol 42 41<|om 10 42 .done)) .skip)) (sR (o1 11 (.alo (.agg Cc.toArray)) .done) (sR (om 43 10<|ob 44 .shr 43 (.const (.int .u64 8))<|o1 45 (.cvi .u8 44)<|om 46 10<|o1 47 (.cvi .u8 46)<|o1 48 (.idxa 256 1 11 z0)<|o0 (.st 1 48 45)<|o1 49 (.idxa 256 1 11 z1)<|o0 (.st 1 49 47) .done) (.seq (.reg true (p1 50 (.sla 256 1 11 (some z2) none none)<|pm 51 1<|pm 52 8<|p1 53 (.bin .mul 52 (kZ 254))<|p1 54 (.sl 1 51 (some 53) none none)<|o1 55 (.mop (.cpy 1 50 54)) .done)) (rG (om 56 0<|om 57 9<|o1 58 (.sla 256 1 11 none none none)<|oc 59 a2 [56,57,58] .done))))))))) (rG (ob 60 .add 28 z1<|om 28 60 .done)))))))) (sR (om 61 6<|o1 62 (.idx 1 61 z0)<|ol 63 62<|om 4 63<|o1 5 (.mv z0) .done) .ret))))))⟩
set_option maxRecDepth 4000 in
set_option maxHeartbeats 1000000 in
def Ws{P f1 f2 f3}(hd:dec P f=some (Oq f1 f2 f3))(h1:Fp P f1)(h2:Kb P f2)(h3:Jv P f3):MF P f:=by
 intro d s dv pv bv L b hp hb hbl;obtain⟨bp,rfl⟩:=hp.ptr;have hpn:1≤AP b.length∧AP b.length≤8192:=by unfold AP;omega
 refine AG hd (Aea Z) ?_;show gwp P _ _ _ _ _;refine Ad<|Ab Z<|Ab Z<|Aa<|Ag<|Ad<|AR<|BI Z (by assumption)<|Bx Z Z<|Aa<|Ar Z (by omega)<|Ak<|Ad<|Am Z<|AR<|BI Z (by assumption)<|Bl Z (h1 (n:=b.length) (by omega)) (fun u d1 L1 _ ⟨e1,e2,e3⟩=>?_);subst e1;subst e2;subst e3;rw[Afi];refine CA (h2 hp hpn.2) Z (fun u d2 L2 hl2 ⟨_,v,e1,hv,hp2⟩=>?_);subst e1;by_cases hz:(Bu s (AP b.length)).2.2=0
 ·have hF:BK s b=(CX (Bu s (AP b.length)).1 (Bu s (AP b.length)).2.1 b (Bu s (AP b.length)).2.1.length,(Bu s (AP b.length)).2.1.getD 0 0,0):=by unfold BK;simp only[hz,if_true]
  rw[hF,hz];have hlen:=Sc hz;generalize (Bu s (AP b.length)).2.1=l at hv hlen;generalize (Bu s (AP b.length)).1=t at hp2;have hll:=hv.BF;refine AT Z<|Ao Z Z<|Ao Z Z<|AR<|Ab Z<|Aa<|Ag<|Ad<|Ab Z<|AO Z Z<|Aa<|Ar Z (by omega)<|Ak<|Ag<|Ad<|AR<|BI Z (by assumption)<|Ab Z<|Aa<|Ax<|B8 (α:=Nat) (fun i=>[(0,pZ bp),(1,bv),(6,v),(26,v),(27,vZ l.length),(28,vZ i)])
   (fun i d' L'=>Le d2 d'∧i≤l.length∧Pg d' (CX t l b i) dv (pZ bp) L') (fun i=>l.length - i) 0 ⟨Z,Z,Z,Z,Z,Z,trivial⟩ ⟨Le.refl _,Aez _,hp2⟩ ?_
  rintro i ρ d' L' ⟨hle,hi,hp'⟩;have hv':=RSl.mono (R:=Bh) B6 hv hle;have hb':=RSl.mono (R:=AH) AL hb (hl2.trans hle);by_cases e:i<l.length
  ·have him:i*254≤b.length:=MV (by omega);by_cases en:i+1<l.length
   ·have hput:CX t l b (i+1)=((CX t l b i).put l[i] (C7 l[i+1] (BH b i))).1:=by
     rw[CX,show l.getD i 0=l[i] by rw[Aee,Aed e];rfl,show l.getD (i+1) 65535=l[i+1] by rw[Aee,Aed en];rfl]
    (refine Ad<|AB Z Z<|Aa<|Ag<|Aw Z (by omega)<|Ak<|Ag<|Ax<|Ad<|Ab Z<|Bg (sz:=1) (R:=Bh) (by rfl) (by assumption) (by rfl) Z (by omega) ?_;rintro _ _ _ _ _ ⟨rfl,_,_⟩;refine Ah Z (BQ (by assumption) Z)<|Ab Z<|Ab Z<|Aa<|Ad<|Ab Z<|Aa<|Ag<|Ad<|Ab Z<|AM Z Z (by omega) (by omega)<|AR<|BI Z (by assumption)<|AB Z Z<|Aa<|Aw Z (by omega)<|AE<|AR<|Ab Z<|AM Z Z (by omega) (by omega)<|Bg (sz:=1) (R:=Bh) (by rfl) (by assumption) (by rfl) Z (by omega) ?_;rintro _ _ _ _ _ ⟨rfl,_,_⟩;refine Ah Z (BQ (by assumption) Z)<|Ab Z<|Aa<|Ad<|BP (fun _ _=>Aa<|Ad<|Ab Z<|Gs Z Z (by decide)<|C8 Z<|Ab Z<|C8 Z ?_));rename_i b11 T11;refine H0 0 Z Z Z (by omega) ?_;refine A7 0 (patch Cc 0 [Av (UInt8.ofNat (l[i+1] / 256 % 256).toNat)]) Z Z Z Z (by rw[CI];decide) Z Z ?_;have hl1:(patch Cc 0 [Av (UInt8.ofNat (l[i+1] / 256 % 256).toNat)]).length=256:=by rw[Bt (by rw[CI];simp)];exact CI
    refine H0 1 Z Z Z (by omega) ?_;refine A7 0 (patch (patch Cc 0 [Av (UInt8.ofNat (l[i+1] / 256 % 256).toNat)]) 1 [Av (UInt8.ofNat (l[i+1] % 256).toNat)]) Z Z Z Z (by rw[hl1];decide) Z Z ?_;have hl2':(patch (patch Cc 0 [Av (UInt8.ofNat (l[i+1] / 256 % 256).toNat)]) 1 [Av (UInt8.ofNat (l[i+1] % 256).toNat)]).length=256:=by rw[Bt (by rw[hl1];simp)];exact hl1
    refine Aa<|Ag<|Bw [] (bx b11 T11 (patch (patch Cc 0 [Av (UInt8.ofNat (l[i+1] / 256 % 256).toNat)]) 1 [Av (UInt8.ofNat (l[i+1] % 256).toNat)])::L') Z ?_;refine Jq 2 Z Z (by omega) ?_;refine AR<|Ab Z<|Il Z Z (by omega) (by omega)<|Eb (R:=AH) (sz:=1) (n:=i*254) Z hb' Z (by omega) him (fun w hw=>?_);refine ZG (i:=0) Z Z hw Z (by rw[hl2'];omega) ?_;have hpp:=Ir (UInt8.ofNat (l[i+1] / 256 % 256).toNat) (UInt8.ofNat (l[i+1] % 256).toNat) (c:=BH b i) (by unfold BH;rw[Aer];omega);refine Aa<|AE<|Am Z<|Ab Z<|Ln Z (by omega) ?_;have hpl:(C7 l[i+1] (BH b i)).length=256:=by
     have:(BH b i).length≤254:=by unfold BH;rw[Aer];omega
     unfold C7;simp only[Aep,Aek,Afk];omega
    refine BS (join d' (bx b11 T11 (patch (patch (patch Cc 0 [Av (UInt8.ofNat (l[i+1] / 256 % 256).toNat)]) 1 [Av (UInt8.ofNat (l[i+1] % 256).toNat)]) 2 ((BH b i).map Av)))) L' Vs.freeze ?_;have hlj:Le d' (join d' (bx b11 T11 (patch (patch (patch Cc 0 [Av (UInt8.ofNat (l[i+1] / 256 % 256).toNat)]) 1 [Av (UInt8.ofNat (l[i+1] % 256).toNat)]) 2 ((BH b i).map Av)))):=Le.Az _ _;have hB:AJ (join d' (bx b11 T11 (patch (patch (patch Cc 0 [Av (UInt8.ofNat (l[i+1] / 256 % 256).toNat)]) 1 [Av (UInt8.ofNat (l[i+1] % 256).toNat)]) 2 ((BH b i).map Av)))) (.slice (some ⟨b11,0,none⟩) 256 256) (C7 l[i+1] (BH b i)):=
     As.rsl (R:=AH) (sz:=1) (As.QW (d:=d') hpp hpl.symm (Agp (Nat.le_of_eq hpl) (by decide))) AL (by omega) (Le.Az _ _) (Le.A6 _ _)
    refine CA (h3 (k:=l[i]) (hp'.mono hlj) hB) Z (fun u d5 L5 hl5 ⟨q1,hp5⟩=>?_);(refine Aa<|AE<|AM Z Z (by omega) (by omega)<|Ab Z<|Aa ?_);exact⟨i+1,by omega,⟨Z,Z,Z,Z,Z,Z,trivial⟩,(hle.trans hlj).trans hl5,e,by rw[hput];exact hp5⟩
   ·have hput:CX t l b (i+1)=((CX t l b i).put l[i] (C7 (65535:Int) (BH b i))).1:=by
     rw[CX,show l.getD i 0=l[i] by rw[Aee,Aed e];rfl,show l.getD (i+1) 65535=(65535:Int) by rw[Aee,Afo (by omega)];rfl]
    (refine Ad<|AB Z Z<|Aa<|Ag<|Aw Z (by omega)<|Ak<|Ag<|Ax<|Ad<|Ab Z<|Bg (sz:=1) (R:=Bh) (by rfl) (by assumption) (by rfl) Z (by omega) ?_;rintro _ _ _ _ _ ⟨rfl,_,_⟩;refine Ah Z (BQ (by assumption) Z)<|Ab Z<|Ab Z<|Aa<|Ad<|Ab Z<|Aa<|Ag<|Ad<|Ab Z<|AM Z Z (by omega) (by omega)<|AR<|BI Z (by assumption)<|AB Z Z<|Aa<|Ar Z (by omega)<|Ak<|Ad<|BP (fun _ _=>Aa<|Ad<|Ab Z<|Gs Z Z (by decide)<|C8 Z<|Ab Z<|C8 Z ?_));rename_i b11 T11;refine H0 0 Z Z Z (by omega) ?_;refine A7 0 (patch Cc 0 [Av (UInt8.ofNat ((65535:Int) / 256 % 256).toNat)]) Z Z Z Z (by rw[CI];decide) Z Z ?_;have hl1:(patch Cc 0 [Av (UInt8.ofNat ((65535:Int) / 256 % 256).toNat)]).length=256:=by rw[Bt (by rw[CI];simp)];exact CI
    refine H0 1 Z Z Z (by omega) ?_;refine A7 0 (patch (patch Cc 0 [Av (UInt8.ofNat ((65535:Int) / 256 % 256).toNat)]) 1 [Av (UInt8.ofNat ((65535:Int) % 256).toNat)]) Z Z Z Z (by rw[hl1];decide) Z Z ?_;have hl2':(patch (patch Cc 0 [Av (UInt8.ofNat ((65535:Int) / 256 % 256).toNat)]) 1 [Av (UInt8.ofNat ((65535:Int) % 256).toNat)]).length=256:=by rw[Bt (by rw[hl1];simp)];exact hl1
    refine Aa<|Ag<|Bw [] (bx b11 T11 (patch (patch Cc 0 [Av (UInt8.ofNat ((65535:Int) / 256 % 256).toNat)]) 1 [Av (UInt8.ofNat ((65535:Int) % 256).toNat)])::L') Z ?_;refine Jq 2 Z Z (by omega) ?_;refine AR<|Ab Z<|Il Z Z (by omega) (by omega)<|Eb (R:=AH) (sz:=1) (n:=i*254) Z hb' Z (by omega) him (fun w hw=>?_);refine ZG (i:=0) Z Z hw Z (by rw[hl2'];omega) ?_;have hpp:=Ir (UInt8.ofNat ((65535:Int) / 256 % 256).toNat) (UInt8.ofNat ((65535:Int) % 256).toNat) (c:=BH b i) (by unfold BH;rw[Aer];omega);refine Aa<|AE<|Am Z<|Ab Z<|Ln Z (by omega) ?_;have hpl:(C7 (65535:Int) (BH b i)).length=256:=by
     have:(BH b i).length≤254:=by unfold BH;rw[Aer];omega
     unfold C7;simp only[Aep,Aek,Afk];omega
    refine BS (join d' (bx b11 T11 (patch (patch (patch Cc 0 [Av (UInt8.ofNat ((65535:Int) / 256 % 256).toNat)]) 1 [Av (UInt8.ofNat ((65535:Int) % 256).toNat)]) 2 ((BH b i).map Av)))) L' Vs.freeze ?_;have hlj:Le d' (join d' (bx b11 T11 (patch (patch (patch Cc 0 [Av (UInt8.ofNat ((65535:Int) / 256 % 256).toNat)]) 1 [Av (UInt8.ofNat ((65535:Int) % 256).toNat)]) 2 ((BH b i).map Av)))):=Le.Az _ _;have hB:AJ (join d' (bx b11 T11 (patch (patch (patch Cc 0 [Av (UInt8.ofNat ((65535:Int) / 256 % 256).toNat)]) 1 [Av (UInt8.ofNat ((65535:Int) % 256).toNat)]) 2 ((BH b i).map Av)))) (.slice (some ⟨b11,0,none⟩) 256 256) (C7 (65535:Int) (BH b i)):=
     As.rsl (R:=AH) (sz:=1) (As.QW (d:=d') hpp hpl.symm (Agp (Nat.le_of_eq hpl) (by decide))) AL (by omega) (Le.Az _ _) (Le.A6 _ _)
    refine CA (h3 (k:=l[i]) (hp'.mono hlj) hB) Z (fun u d5 L5 hl5 ⟨q1,hp5⟩=>?_);(refine Aa<|AE<|AM Z Z (by omega) (by omega)<|Ab Z<|Aa ?_);exact⟨i+1,by omega,⟨Z,Z,Z,Z,Z,Z,trivial⟩,(hle.trans hlj).trans hl5,e,by rw[hput];exact hp5⟩
  ·have:i=l.length:=by omega
   subst this;have h0:0<l.length:=by omega
   have hg0:l.getD 0 0=l[0]:=by rw[Aee,Aed h0];rfl
   rw[hg0];(refine Ad<|AB Z Z<|Aa<|Ag<|Ar Z (by omega)<|Bd<|Ad<|AR<|Bg (sz:=1) (R:=Bh) (by rfl) (by assumption) (by rfl) Z (by omega) ?_;rintro _ _ _ _ _ ⟨rfl,_,_⟩;refine Ah Z (BQ (by assumption) Z)<|Ab Z<|Ab Z<|Aa<|Ap ?_);exact Cw Z Z (Aeb _) ⟨hl2.trans hle,Z,hp'⟩
 ·have hF:BK s b=((Bu s (AP b.length)).1,0,(Bu s (AP b.length)).2.2):=by unfold BK;simp only[hz,if_false]
  rw[hF];(refine AT Z<|Ao Z Z<|Ao Z Z<|AR<|Ab Z<|Aa<|Ag<|Ad<|Ab Z<|AO Z Z<|Aa<|Aw Z (by omega)<|Ad<|Ab Z<|Ab Z<|Ab Z<|Aa<|Ap ?_);exact Cw Z Z (Aeb _) ⟨hl2,Z,hp2⟩
end
section
section
variable {P:Program}{pan:List PanicEntry→AU}{Qn:Env→AU}{Ls L:List Ac}{ρ:Env}{d:Ac}{s:GS}{t:Nat}{tk:Bool}
def or8{a b:Nat}(ha:a<256)(hb:b<256):IntKind.i64.wrap ((BitVec.ofInt 64 ((a*256:Nat):Int)|||BitVec.ofInt 64 (b:Int)).toNat:Int)=((a*256+b:Nat):Int):=by
 have h:(BitVec.ofInt 64 ((a*256:Nat):Int)|||BitVec.ofInt 64 (b:Int)).toNat=a*256+b:=by
  rw[BitVec.toNat_or,BitVec.toNat_ofInt,BitVec.toNat_ofInt];have e1:(((a*256:Nat):Int) % ((2 ^ 64:Nat):Int)).toNat=2 ^ 8*a:=by omega
  have e2:((b:Int) % ((2 ^ 64:Nat):Int)).toNat=b:=by omega
  rw[e1,e2,←Nat.two_pow_add_eq_or_of_lt (by omega)];omega
 rw[h,DG (by omega) (by omega)]
def SU{x y}{a b:Nat}(ex:ev ρ x=vZ ((a*256:Nat):Int))(ey:ev ρ y=vZ (b:Int))(ha:a<256)(hb:b<256)(h:gws P pan Qn s Ls (upd ρ t (vZ ((a*256+b:Nat):Int))) d L):
  gws P pan Qn (.op tk ⟨some t,none,.bin .or x y⟩ s) Ls ρ d L:=by
 refine w_q Z (show C2 .or (ev ρ x) (ev ρ y)=some (vZ ((a*256+b:Nat):Int)) from ?_) h
 rw[ex,ey]
 exact congrArg (fun z=>some (Value.int .i64 z)) (or8 ha hb)
end
attribute [local irreducible] gwp gws xwp
def G9(b:Sec):Nat:=(b.getD 0 0).toNat*256+(b.getD 1 0).toNat
def hdF(s:PD)(h:Int):Nat→Int
 |0=>h
 |i+1=>(G9 (s.bytes (hdF s h i)):Nat)
def Bs(s:PD)(k:Int):Prop:=s.kind k=1∨s.kind k=2
instance (s:PD) (k:Int):Decidable (Bs s k):=inferInstanceAs (Decidable (_∨_))
def OC{s}{k:Int}(h:Bs s k):s.Jg k=0:=by
 unfold PD.Jg;by_cases h1:s.kind k=1
 ·rw[if_pos h1]
 ·rw[if_neg h1,if_pos (h.resolve_left h1)]
def O8{s}{k:Int}(h:¬Bs s k):s.Jg k=240∧s.bytes k=[]:=by
 unfold Bs at h;have h1:s.kind k≠1:=fun q=>h (.inl q);have h2:s.kind k≠2:=fun q=>h (.inr q);exact⟨by unfold PD.Jg;rw[if_neg h1,if_neg h2],X0 h1 h2⟩
def _root_.Go.Gk.Pgr.Fl.atT{P}(h:Fl P f){d s dv pv L}{k:Int}(hp:Pg d s dv pv L):
  AA P f [pv,vZ k] d L (Ret fun r d' L'=>∃a c tc,r=.tuple #[.slice a (s.bytes k).length c,vZ (s.Jg k)]∧AJ d' (.slice a (s.bytes k).length c) (s.bytes k)∧Pg d' {s with tc:=tc} dv pv L'∧tc=if Bs s k then s.tc+1 else s.tc):=by
 refine AA.DU (h (k:=k) hp) (fun r d' L' _ ⟨⟨q,q1,q2⟩,q3⟩=>⟨d',L',Vs.refl _ _,?_⟩)
 subst q1
 unfold PD.bytes PD.Jg Bs
 unfold PD.get at q2 q3⊢
 by_cases h1:s.kind k=1
 ·simp only[if_pos h1] at q2 q3⊢
  obtain⟨a,c,rfl⟩:=RSl.val q2
  exact⟨a,c,_,Z,q2,q3,(if_pos (.inl h1)).symm⟩
 ·by_cases h2:s.kind k=2
  ·simp only[if_neg h1,if_pos h2] at q2 q3⊢
   obtain⟨a,c,rfl⟩:=RSl.val q2
   exact⟨a,c,_,Z,q2,q3,(if_pos (.inr h2)).symm⟩
  ·simp only[if_neg h1,if_neg h2] at q2 q3⊢
   obtain rfl:q=nV:=q2
   exact⟨none,0,s.tc,Z,RSl.nil,q3,(if_neg (fun q=>q.elim h1 h2)).symm⟩
def Wb(x:Ac)(A R:List Ac):(A++(x::R)).Perm (R++(x::A)):=List.perm_append_comm.trans List.perm_middle.symm
def TM(d x:Ac)(A R:List Ac):Vs d (R++(x::A)) d (A++R):=(Vs.perm (List.perm_middle.trans (Aem x Aei))).trans (Vs.drop (Afd _ _))
def VN(x:Ac)(A R:List Ac):(R++(x::A)).Perm (x::(A++R)):=List.perm_middle.trans (Aem x Aei)
def FO(a0 a1:Nat):GW:=(.mk 39 [] (.seq (.g (rG (ol 7 1<|oc 8 a0 [7]<|o1 9 (.mv z0) .done))) (.block 0 (.loop (.seq (.g (rG (ob 10 .lss 9 8 .done))) (.seq (.g (.cond 10 .skip (.exit 0))) (.seq (.block 1 (.seq (.g (rG (ol 12 2<|ol 13 3<|oc 14 a1 [12,13]<|om 11 14<|oe 15 11 0<|oe 16 11 1<|om 5 15<|om 6 16 .done))) (.seq (.seq (.g (rG (om 17 6<|ob 18 .neq 17 z0 .done))) (.cond 18 (.seq (.yl (om 19 0<|om 20 6<|o1 21 (.un .neg 20) .done) (some 22) 19 [21,nS] .done) (.g .ret)) (.g .skip))) (.seq (.seq (.yl (om 23 0<|ol 24 3<|om 25 5 .done) (some 26) 23 [24,25] (o1 27 (.un .not 26) .done)) (.g (.cond 27 .ret .skip))) (.g (.reg true (pm 28 5<|p1 29 (.idx 1 28 z0)<|pl 30 29<|p1 31 (.cvi .i64 30)<|p1 32 (.bin .shl 31 (.const (.int .u64 8)))<|pm 33 5<|p1 34 (.idx 1 33 z1)<|pl 35 34<|p1 36 (.cvi .i64 35)<|p1 37 (.bin .or 32 36) (.bar (o0 (.st 1 3 37) .done))))))))) (.g (rG (ob 38 .add 9 z1<|om 9 38 .done))))))))))
set_option maxRecDepth 4000 in
set_option maxHeartbeats 1000000 in
def YM{P f1 f2}(hd:FL true false P f=some (FO f1 f2))(h1:Fp P f1)(h2:Fl P f2){s dv pv LP}{bz bq bh l n:Nat}{Th}{h:Int}{rc:Loop}(J:Nat→Ac→List Ac→Prop)(Jf:Loop→Ac→List Ac→Prop){d E}
  (hp:Pg d s dv pv LP) (hz:DC d bz 0 (vZ n)) (hq:DC d bq 0 pv) (hn:n≤16384) (h0:J 0 d E) (hJm:∀{i:Nat}{d d' E},Le d d'→J i d E→J i d' E)
  (hlive:∀i,i<AP n→∀d1 E1 v,Le d d1→J i d1 E1→Bs s (hdF s h i)→AJ d1 v (s.bytes (hdF s h i))→J9 P l [vZ (hdF s h i),v] d1 (sg l (.loop rc)::E1)
   (fun u d' L'=>(u=.bool true∧∃E',L'=sg l (.loop rc)::E'∧J (i+1) d' E')∨(u=.bool false∧∃rc' E',L'=sg l (.loop rc')::E'∧Jf rc' d' E')))
  (hdead:∀i,i<AP n→∀d1 E1,Le d d1→J i d1 E1→¬Bs s (hdF s h i)→J9 P l [vZ (-240),nV] d1 (sg l (.loop rc)::E1)
   (fun u d' L'=>u=.bool false∧∃rc' E',L'=sg l (.loop rc')::E'∧Jf rc' d' E')):
  AA P f [.func (.yield l) #[] #[],pZ bz,pZ bq,pZ bh] d (bx bh Th [vZ h]::(LP++(sg l (.loop rc)::E)))
   (Ret fun _ d' L'=>∃LP' E' rc' tc,L'=LP'++(sg l (.loop rc')::E')∧Pg d' {s with tc:=tc} dv pv LP'∧((rc'=rc∧tc=s.tc+AP n∧J (AP n) d' E')∨Jf rc' d' E')):=by
 obtain⟨bp,rfl⟩:=hp.ptr
 have hpn:AP n≤8192:=by unfold AP;omega
 refine ER hd (Aea Z) ?_
 show xwp P _ _ _ _ _
 (apply BU;apply x_g;apply AE;apply Ah;rfl;exact BB (by assumption))
 refine DY (A:=[]) (B:=bx bh Th [vZ h]::(LP++(sg l (.loop rc)::E))) Z Z (h1 (n:=n) (by omega)) (fun u d1 L1 _ ⟨e1,e2,e3⟩=>?_)
 subst e1;subst e2;subst e3
 rw[Afi]
 (refine Ab Z<|Aa ?_;apply GR)
 refine QU (α:=Nat) (fun i=>[(0,.func (.yield l) #[] #[]),(2,pZ bq),(3,pZ bh),(8,vZ (AP n)),(9,vZ i)])
  (fun i d' L'=>Le d1 d'∧i≤AP n∧∃LP' E' tc,L'=bx bh Th [vZ (hdF s h i)]::(LP'++(sg l (.loop rc)::E'))∧Pg d' {s with tc:=tc} dv (pZ bp) LP'∧tc=s.tc+i∧J i d' E')
  (fun i=>AP n - i) 0 ⟨Z,Z,Z,Z,Z,trivial⟩ ⟨Le.refl _,Aez _,LP,E,s.tc,Z,hp,Z,h0⟩ ?_
 rintro i ρ d' L' ⟨hle,hi,LP',E',tc,rfl,hp',htc,hJ⟩
 have hq':=hq.mono hle
 by_cases e:i<AP n
 ·(apply BU;apply x_g;apply AE;apply AB;rfl;rfl;apply Aa;apply BU;apply x_g;refine Aw Z (by omega) ?_;apply Ak;apply BU;apply GR;apply BU;apply x_g;apply AE;apply Ah;rfl;exact BB (by assumption);apply Ah;rfl;exact Al 0 Z Z)
  refine Ds (h2.atT (k:=hdF s h i) hp') (Afx [_] LP' _) Z (fun u d7 L7 hl7 ⟨qa,qc,tc',q1,q2,q3,q4⟩=>?_)
  rw[Vc,AbN] at q1
  rw[Vc] at q2
  subst q1
  refine⟨d7,(sg l (.loop rc)::E')++(bx bh Th [vZ (hdF s h i)]::L7),Vs.perm (Wb _ _ _),?_⟩
  by_cases hlv:Bs s (hdF s h i)
  ·rw[OC hlv]
   (refine AT Z<|Ao Z Z<|Ao Z Z<|Aj Z<|Ab Z<|Aa ?_;apply BU;apply BU;apply x_g;refine AE<|Ab Z<|AO Z Z<|Aa ?_;apply Abx;rfl;apply x_g;apply Ak;apply BU;apply BU;apply Aa6;apply FE;rfl)
   refine Ah (v:=vZ (hdF s h i)) Z (Al (T:=Th) (l:=[vZ (hdF s h i)]) (E'.length+1) (by simp[lk]) Z) ?_
   (refine Aj Z<|Aa ?_)
   refine QK _ _ Z Z Z (hlive i e d7 E' _ (hle.trans hl7) (hJm hl7 hJ) hlv q2) (fun u d8 L8 hl8 hr8=>?_)
   rcases hr8 with ⟨rfl,E8,rfl,hJ8⟩|⟨rfl,rc8,E8,rfl,hJ8⟩
   ·refine BS d8 (bx bh Th [vZ (hdF s h i)]::(L7++(sg l (.loop rc)::E8))) (Vs.perm (VN _ _ _)) ?_
    have hfl:(s.bytes (hdF s h i)).length=256:=hp.full hlv
    have q8:AJ d8 (.slice qa (s.bytes (hdF s h i)).length qc) (s.bytes (hdF s h i)):=RSl.mono (R:=AH) AL q2 hl8
    have g0:(s.bytes (hdF s h i)).getD 0 0=(s.bytes (hdF s h i))[0]:=by rw[Aee,Aed (by omega)];rfl
    have g1:(s.bytes (hdF s h i)).getD 1 0=(s.bytes (hdF s h i))[1]:=by rw[Aee,Aed (by omega)];rfl
    have l0:=UInt8.toNat_lt (s.bytes (hdF s h i))[0]
    have l1:=UInt8.toNat_lt (s.bytes (hdF s h i))[1]
    have hnx:hdF s h (i+1)=(((s.bytes (hdF s h i))[0].toNat*256+(s.bytes (hdF s h i))[1].toNat:Nat):Int):=by rw[hdF,G9,g0,g1]
    (refine Bn Z<|Aa ?_;apply x_g;refine AS Z<|Ak ?_;apply x_g;refine Bv<|Aj Z<|Bg (m:=0) (sz:=1) (R:=AH) (by rfl) (by assumption) (by rfl) Z (by omega) ?_;rintro _ _ _ _ _ rfl;refine Ah Z (BQ (by assumption) Z)<|Ep Z (by omega) (by omega) ?_)
    refine UL (a:=(s.bytes (hdF s h i))[0].toNat) Z Z (by omega) ?_
    (refine Aj Z<|Bg (m:=1) (sz:=1) (R:=AH) (by rfl) (by assumption) (by rfl) Z (by omega) ?_;rintro _ _ _ _ _ rfl;refine Ah Z (BQ (by assumption) Z)<|Ep Z (by omega) (by omega) ?_)
    refine SU (a:=(s.bytes (hdF s h i))[0].toNat) (b:=(s.bytes (hdF s h i))[1].toNat) Z Z l0 l1 ?_
    (apply Cd)
    refine A7 0 [vZ (((s.bytes (hdF s h i))[0].toNat*256+(s.bytes (hdF s h i))[1].toNat:Nat):Int)] Z Z Z Z (Aef _) Z Z ?_
    (apply Aa;apply x_g;refine AE<|AM Z Z (by omega) (by omega)<|Ab Z<|Aa ?_)
    exact⟨i+1,by omega,⟨Z,Z,Z,Z,Z,trivial⟩,(hle.trans hl7).trans hl8,e,L7,E8,tc',by rw[hnx];exact congrArg (List.cons _) (Afh _),q3.mono hl8,by have q4':tc'=tc+1:=q4.trans (if_pos hlv);omega,hJ8⟩
   ·(refine Bn Z<|Aa ?_;apply x_g;refine Bc Z<|Ap ?_)
    exact A4 [] trivial (d':=d8) (L':=L7++(sg l (.loop rc8)::E8)) (TM _ _ _ _) ⟨L7,E8,rc8,_,Z,q3.mono hl8,.inr hJ8⟩
  ·obtain⟨x1,x2⟩:=O8 hlv
   rw[x1]
   (refine AT Z<|Ao Z Z<|Ao Z Z<|Aj Z<|Ab Z<|Aa ?_;apply BU;apply BU;apply x_g;refine AE<|Ab Z<|AO Z Z<|Aa ?_;apply AdG;rfl;apply BU;apply Aa6;refine FE Z<|Ab Z<|Abg Z (by omega) (by omega)<|Aa ?_)
   refine QK _ _ Z Z Z (hdead i e d7 E' (hle.trans hl7) (hJm hl7 hJ) hlv) (fun u d8 L8 hl8 hr8=>?_)
   obtain⟨rfl,rc8,E8,rfl,hJ8⟩:=hr8
   (apply Aa;apply x_g;apply Ap)
   exact A4 [] trivial (d':=d8) (L':=L7++(sg l (.loop rc8)::E8)) (TM _ _ _ _) ⟨L7,E8,rc8,_,Z,q3.mono hl8,.inr hJ8⟩
 ·have:i=AP n:=by omega
  subst this
  (apply BU;apply x_g;apply AE;apply AB;rfl;rfl;apply Aa;apply BU;apply x_g;refine Ar Z (by omega) ?_;apply Bd)
  exact Dc [] trivial (Afd _ _) ⟨LP',E',rc,tc,Z,hp',.inl ⟨Z,htc,hJ⟩⟩
def H5(a0:Nat):GW:=(.mk 8 [(.tmp 6)] (.g (sR (o1 3 (.box 0)<|o1 4 (.box 1)<|o1 5 (.box 2)<|o1 6 (.mv (.const .nilFunc)) .done) (sR (o1 7 (.mkf (.func a0) [] [5,3,4])<|om 6 7 .done) .ret))))
def Aaj{P f1}(hd:FL true false P f=some (H5 f1)){d}{b:Nat}{h n:Int}:AA P f [pZ b,vZ h,vZ n] d [] (Ret fun r d' L'=>∃bz bq bh Th,r=.func (.func f1) #[] #[pZ bz,pZ bq,pZ bh]∧
  DC d' bz 0 (vZ n)∧DC d' bq 0 (pZ b)∧L'=[bx bh Th [vZ h]]):=by
 refine ER hd (Aea Z) ?_
 show xwp P _ _ _ _ _
 (apply x_g;apply Ag;apply AE)
 refine Fb Z (fun bq Tq=>?_)
 refine Fb Z (fun bh Th=>?_)
 refine Fb Z (fun bz Tz=>?_)
 (refine AR<|Aa<|Ad<|Nk<|FE Z<|Aa<|Ap ?_)
 exact A4 [.func (.func f1) #[] #[pZ bz,pZ bq,pZ bh]] ⟨Z,trivial⟩ (d':=join (join d (bx bz Tz [vZ n])) (bx bq Tq [pZ b])) (L':=[bx bh Th [vZ h]])
  ((Vs.perm (Aem _ (Afa _ _ _))).trans (Vs.freeze.trans Vs.freeze)) ⟨bz,bq,bh,Th,Z,(Le.dcs ((Le.A6 _ _).trans (Le.Az _ _))).at (i:=0) Z,(Le.dcs (Le.A6 _ _)).at (i:=0) Z,Z⟩
end
end Go.Gk.Chn
end
section
namespace Go.Gk.Chn
open Go Go.Gk Go.Gk.Dev Go.Gk.Cch Go.Gk.Pgr Go.Gk.Node
attribute [local irreducible] gwp gws xwp
variable{f f1:FuncId}
def DL(s:PD)(size n:Nat)(k:Int)(l:List Int)(out:List UInt8):Nat→List Int×List UInt8×Int
 |0=>(l,out,0)
 |m+1=>
  if Bs s k then
   if (G9 (s.bytes k)=65535)=(l.length+1=n) then
    if ((s.bytes k).drop (2+min 254 (size - out.length))).all (·==0) then
     DL s size n (G9 (s.bytes k):Nat) (l++[k]) (out++((s.bytes k).drop 2).take (min 254 (size - out.length))) m
    else([],[],200)
   else([],[],200)
  else([],[],240)
def BT(s:PD)(k:Int)(size:Int):List Int×List UInt8×Int:=if 0≤size∧size≤16384 then DL s size.toNat (AP size.toNat) k [] [] (AP size.toNat) else([],[],2)
def RJ(s:PD)(n:Nat)(k:Int)(b5 b6 b7 b8 b9 b10:Nat)(T5 T6 T7 T8 T9 T10:TypeId)(i:Nat)(d:Ac)(E:List Ac):Prop:=∃l out la lc oa oc hl ho,
 E=[bx b10 T10 [.slice oa (List.length (α:=UInt8) out) oc],bx b9 T9 [.slice la (List.length (α:=Int) l) lc],bx b8 T8 [vZ 0],bx b7 T7 [nV],bx b6 T6 [nV],bx b5 T5 [vZ n],ho,hl]∧
 As 1 Bh d (.slice la l.length lc) l hl∧As 1 AH d (.slice oa out.length oc) out ho∧l.length=i∧out.length≤n∧DL s n (AP n) k [] [] (AP n)=DL s n (AP n) (hdF s k i) l out (AP n - i)
def RF(rc:Loop)(s:PD)(n:Nat)(k:Int)(b6 b7 b8:Nat)(T6 T7 T8:TypeId)(rc':Loop)(_:Ac)(E:List Ac):Prop:=
 rc'={rc with state:=.done,pending:=some .ret}∧∃e x y R,DL s n (AP n) k [] [] (AP n)=([],[],e)∧e≠0∧E=x::y::bx b8 T8 [vZ e]::bx b7 T7 [nV]::bx b6 T6 [nV]::R
def Ku(P:Program)(f:FuncId):Prop:=∀{d s dv pv L}{k size:Int},Pg d s dv pv L→
 AA P f [pv,vZ k,vZ size] d L (Ret fun r d' L'=>Le d d'∧∃v w tc,r=.tuple #[v,w,vZ (BT s k size).2.2]∧DS d' v (BT s k size).1∧AJ d' w (BT s k size).2.1∧Pg d' {s with tc:=tc} dv pv L'∧((BT s k size).2.2=0→tc=s.tc+AP size.toNat))
def ZI{a m N:Nat}(h:(a=65535)=(m=N)):(true ^^(decide ((a:Int)=65535)==decide ((m:Int)=(N:Int))))=false:=by
 rw[show decide ((a:Int)=65535)=decide (a=65535) from decide_eq_decide.2 (by omega),show decide ((m:Int)=(N:Int))=decide (m=N) from decide_eq_decide.2 (by omega),show decide (a=65535)=decide (m=N) from decide_eq_decide.2 (by rw[h])];simp
def YR{a m N:Nat}(h:¬((a=65535)=(m=N))):(true ^^(decide ((a:Int)=65535)==decide ((m:Int)=(N:Int))))=true:=by
 rw[show decide ((a:Int)=65535)=decide (a=65535) from decide_eq_decide.2 (by omega),show decide ((m:Int)=(N:Int))=decide (m=N) from decide_eq_decide.2 (by omega)];have:decide (a=65535)≠decide (m=N):=fun e=>h (propext (decide_eq_decide.1 e));simp[this]
def Zr(g h:Ac)(E L:List Ac):(g::([h]++(E++L))).Perm (h::(L++(g::E))):=
 (Afa h g (E++L)).trans (Aem h ((Aem g Aei).trans List.perm_middle.symm))
def Acg(d a b c x y z o h:Ac)(L:List Ac):Vs d (a::b::c::x::y::z::o::h::L) (join (join d o) h) L:=
 (Vs.drop (.cons _ (.cons _ (.cons _ (.cons _ (.cons _ (.cons _ (Aeb _)))))))).trans (Vs.freeze.trans Vs.freeze)
def Lz(P:Program)(f:FuncId):Prop:=∃f1 f2 f3,FL true false P f=some (H5 f1)∧FL true false P f1=some (FO f2 f3)∧Fp P f2∧Fl P f3
def XO(P:Program)(f:FuncId):Prop:=∃f2 f3,FL true false P f=some (FO f2 f3)∧Fp P f2∧Fl P f3
def AbB{P f2 f3}(hd:FL true false P f=some (FO f2 f3))(h1:Fp P f2)(h2:Fl P f3):XO P f:=⟨f2,f3,hd,h1,h2⟩
def Sw{P}(hd:FL true false P f=some (H5 f1))(h:XO P f1):Lz P f:=let ⟨f2,f3,h1,h2,h3⟩:=h;⟨f1,f2,f3,hd,h1,h2,h3⟩
def TO(a0 a1:Nat):GW:=(.mk 80 [(.cell 6 none),(.cell 7 none),(.cell 8 none)] (.seq (.g (rG (o1 5 (.box 2)<|o1 6 (.alo nV)<|o1 7 (.alo nV)<|o1 8 (.alo (vZ 0)) .done))) (.seq (.g (sR (ol 17 5<|ob 18 .lss 17 z0<|om 19 18<|oF 20 19 (.ld none 5)<|oF 21 19 (.bin .gtr 20 (kZ 16384))<|o1 22 (.pick 19 (.const (.bool true)) 21) .done) (.cond 22 (sR (o0 (.st 1 6 nS)<|o0 (.st 1 7 nS)<|o0 (.st 1 8 z2) .done) .ret) .skip))) (.seq (.g (rG (o1 9 (.alo nV) .done))) (.seq (.g (rG (o1 10 (.alo nV) .done))) (.seq (.seq (.g (rG (om 23 0<|om 24 1<|ol 25 5<|oc 26 a0 [23,24,25] .done))) (.block 0 (.rf 26 [27,28] (sR (om 11 27 .done) (rG (om 12 28 .done))) (.block 1 (.seq (sR (om 29 12<|o1 30 (.eqs false 29 nS) .done) (.cond 30 (sR (om 31 11<|o1 32 (.un .neg 31)<|o0 (.st 1 6 nS)<|o0 (.st 1 7 nS)<|o0 (.st 1 8 32) .done) .ret) .skip)) (sR (ol 33 9<|om 34 11<|o1 35 (.bsl 1 1 [(vZ 0)] [(0,34)])<|o1 36 (.app 1 8 [(vZ 0)] 33 35)<|o0 (.st 1 9 36) .done) (.seq (.reg true (pm 37 12<|p1 38 (.idx 1 37 z0)<|pl 39 38<|p1 40 (.cvi .i64 39)<|p1 41 (.bin .shl 40 (.const (.int .u64 8)))<|pm 42 12<|p1 43 (.idx 1 42 z1)<|pl 44 43<|p1 45 (.cvi .i64 44)<|p1 46 (.bin .or 41 45) (.bar (pm 13 46 .done)))) (.seq (.seq (.reg true (pm 47 13<|p1 48 (.bin .eql 47 (kZ 65535))<|pl 49 9<|p1 50 (.len 49)<|pl 51 5<|oc 52 a1 [51]<|p1 53 (.bin .eql 50 52)<|p1 54 (.eqb true 48 53) .done)) (.cond 54 (sR (o0 (.st 1 6 nS)<|o0 (.st 1 7 nS)<|o0 (.st 1 8 (kZ 200)) .done) .ret) .skip)) (sR (ol 55 5<|ol 56 10<|oL 57 56<|ob 58 .sub 55 57<|o1 59 (.mn2 (kZ 254) 58)<|om 14 59 .done) (.seq (sR (om 60 12<|om 61 14<|ob 62 .add z2 61<|o1 63 (.sl 1 60 (some 62) none none)<|oL 64 63<|o1 65 (.mv z0) .done) (.block 2 (.loop (sR (ob 66 .lss 65 64 .done) (.seq (.cond 66 .skip (.exit 2)) (.seq (.block 3 (sR (oI 67 1 63 65<|ol 68 67<|om 16 68 .done) (sR (om 69 16<|ob 70 .neq 69 (.const (.int .u8 0)) .done) (.cond 70 (sR (o0 (.st 1 6 nS)<|o0 (.st 1 7 nS)<|o0 (.st 1 8 (kZ 200)) .done) .ret) .skip)))) (rG (ob 71 .add 65 z1<|om 65 71 .done)))))))) (.reg true (pm 73 12<|pm 74 14<|p1 75 (.bin .add z2 74)<|p1 76 (.sl 1 73 (some z2) (some 75) none)<|ol 72 10<|o1 77 (.app 1 1 [(.int .u8 0)] 72 76) (.bar (o0 (.st 1 10 77) .done)))))))))))))) (.g (.seq (.reg true (pl 78 9<|pl 79 10<|o0 (.st 1 6 78)<|o0 (.st 1 7 79)<|o0 (.st 1 8 z0) .done)) .ret))))))))
set_option maxRecDepth 4000 in
set_option maxHeartbeats 2000000 in
def UQ{P f2}(hd:FL false false P f=some (TO f1 f2))(h1:Lz P f1)(h2:Fp P f2):Ku P f:=by
 obtain⟨f3,f4,f5,g1,g2,g3,g4⟩:=h1;intro d s dv pv L k size hp;obtain⟨bp,rfl⟩:=hp.ptr;refine ER hd (Aea Z) ?_;show xwp P _ _ _ _ _;(apply BU;apply x_g;apply AE);refine Fb Z (fun b5 T5=>?_);refine Dg (fun b6 T6=>?_);refine Dg (fun b7 T7=>?_);refine Dg (fun b8 T8=>?_);refine F7 ⟨d,bx b8 T8 [vZ 0]::bx b7 T7 [nV]::bx b6 T6 [nV]::bx b5 T5 [vZ size]::L,Vs.refl _ _,?_⟩;by_cases hsz:0≤size∧size≤16384
 ·obtain⟨n,rfl⟩:∃n:Nat,size=n:=⟨size.toNat,by omega⟩
  have hn:n≤16384:=by omega
  have hF:BT s k n=DL s n (AP n) k [] [] (AP n):=by unfold BT;rw[if_pos hsz];rfl
  rw[hF];(apply BU;apply x_g;apply Ag;apply AE;apply Ah;rfl;exact Al 3 Z Z;apply AB;rfl;rfl;apply Ae;rfl;refine A3 Z (by omega) ?_;apply Af;rfl;apply Ah;rfl;exact Al 3 Z Z;apply Af;rfl;apply Bx;rfl;rfl;apply Au;rfl;rfl;apply Aa;refine Ar Z (by omega) ?_;apply Ak;apply BU;apply x_g;apply AE;apply Dg;intro _ _;apply Aa;apply BU;apply x_g;apply AE;apply Dg;intro _ _;apply Aa;apply BU;apply BU;apply x_g;apply AE;apply Am;rfl;apply Ab;rfl;apply Ah;rfl;exact Al 5 Z Z);rename_i b9 T9 b10 T10;refine BS d (bx b10 T10 [nV]::bx b9 T9 [nV]::bx b8 T8 [vZ 0]::bx b7 T7 [nV]::bx b6 T6 [nV]::bx b5 T5 [vZ n]::emp::emp::L)
   ((Vs.emp.trans Vs.emp).trans (Vs.perm (Afx [emp,emp] [_,_,_,_,_,_] L))) ?_
  refine DY (A:=[]) (B:=bx b10 T10 [nV]::bx b9 T9 [nV]::bx b8 T8 [vZ 0]::bx b7 T7 [nV]::bx b6 T6 [nV]::bx b5 T5 [vZ n]::emp::emp::L) Z Z (Aaj g1 (h:=k) (n:=n)) (fun u d1 L1 hl1 ⟨bz,bq,bh,Th,e1,hz,hq,e2⟩=>?_);subst e1;subst e2;(apply Aa;apply GR);refine Acx Z (fun l rc hrec hst hpd=>?_);refine AA.reorder (L1:=bx bh Th [vZ k]::(L++(sg l (.loop rc)::[bx b10 T10 [nV],bx b9 T9 [nV],bx b8 T8 [vZ 0],bx b7 T7 [nV],bx b6 T6 [nV],bx b5 T5 [vZ n],emp,emp]))) ?_ (AA.DU
   (YM g2 g3 g4 (rc:=rc) (l:=l) (RJ s n k b5 b6 b7 b8 b9 b10 T5 T6 T7 T8 T9 T10) (RF rc s n k b6 b7 b8 T6 T7 T8) (hp.mono hl1) hz hq hn ?_ ?_ ?_ ?_) ?_)
  ·exact Zr _ _ [_,_,_,_,_,_,_,_] L
  ·exact⟨[],[],none,0,none,0,emp,emp,Z,As.nil,As.nil,Z,Aez _,Z⟩
  ·rintro i d2 d3 E hle ⟨l1,o1,la,lc,oa,oc,hl,ho,q1,q2,q3,q4,q5,q6⟩;exact⟨l1,o1,la,lc,oa,oc,hl,ho,q1,As.mono (R:=Bh) B6 q2 hle,As.mono (R:=AH) AL q3 hle,q4,q5,q6⟩
  ·rintro i hi d2 E2 v hle ⟨l1,o1,la,lc,oa,oc,hl,ho,rfl,q2,q3,q4,q5,q6⟩ hlv hv;refine MY hrec hst Z ?_;have hfl:(s.bytes (hdF s k i)).length=256:=hp.full hlv;have hv0:=hv;obtain⟨va,vc,vb,vo,rfl,w2, -, -, -, -, -,w8⟩:=hv;obtain rfl:va=some ⟨vb,vo,none⟩:=w2 (by omega);have dd0:DCs d2 vb (vo+0*1) [Av (s.bytes (hdF s k i))[0]]:=by
    obtain⟨cs,c1,c2,c3⟩:=w8 0 (by omega);rw[show cs=[Av (s.bytes (hdF s k i))[0]] from c3] at c2;exact c2
   have dd1:DCs d2 vb (vo+1*1) [Av (s.bytes (hdF s k i))[1]]:=by
    obtain⟨cs,c1,c2,c3⟩:=w8 1 (by omega);rw[show cs=[Av (s.bytes (hdF s k i))[1]] from c3] at c2;exact c2
   have hkr:0≤hdF s k i∧hdF s k i≤16384:=by
    have:=hp.EL.inn;have:=hp.EL.syn;rcases hlv with q|q<;>(obtain⟨j,j1,j2, -, -⟩:=C0 q (by omega);omega)
   have q4':=q4;have hpn:AP n≤8192:=by unfold AP;omega
   refine Ad<|Ab Z<|Aa<|AE<|Aj Z<|Aa<|Ax<|Ag<|Ad<|Aj Z<|TL Z Z<|Aa<|AS Z<|Ak<|Ad<|Ah Z (Al 1 Z Z)<|Ab Z<|Dq (v0:=vZ (hdF s k i)) Z Z (fun b3 T3=>?_);refine Dj (R:=Bh) 7 Z Z q2 Z (As.D2 (x:=hdF s k i) Z ⟨Z,by omega,by omega⟩) DF (by omega) (by simp;omega) (by simp;omega) (fun v' h' ho'=>?_);obtain⟨la',lc',rfl⟩:=ho'.val;refine A7 1 [.slice la' (l1++[hdF s k i]).length lc'] Z Z Z Z (Aef _) Z Z ?_;have g0:(s.bytes (hdF s k i)).getD 0 0=(s.bytes (hdF s k i))[0]:=by rw[Aee,Aed (by omega)];rfl
   have g1':(s.bytes (hdF s k i)).getD 1 0=(s.bytes (hdF s k i))[1]:=by rw[Aee,Aed (by omega)];rfl
   have l0:=UInt8.toNat_lt (s.bytes (hdF s k i))[0];have l1':=UInt8.toNat_lt (s.bytes (hdF s k i))[1];have hlk:G9 (s.bytes (hdF s k i))=(s.bytes (hdF s k i))[0].toNat*256+(s.bytes (hdF s k i))[1].toNat:=by rw[G9,g0,g1']
   refine Aa<|Ag<|Bv<|Aj Z<|BL 0 Z Z Z (by omega) (by assumption)<|Ah Z (B2 (by assumption) Z)<|Ep Z (by omega) (by omega)<|UL (a:=(s.bytes (hdF s k i))[0].toNat) Z Z (by omega) ?_;(refine Aj Z<|Bg (m:=1) (sz:=1) (R:=AH) (by rfl) (by assumption) (by rfl) Z (by omega) ?_;rintro _ _ _ _ _ rfl;refine Ah Z (BQ (by assumption) Z)<|Ep Z (by omega) (by omega) ?_);refine SU (a:=(s.bytes (hdF s k i))[0].toNat) (b:=(s.bytes (hdF s k i))[1].toNat) Z Z l0 l1' ?_;rw[←hlk];refine Cd<|Ab Z<|Aa<|Ag<|Ag<|Bv<|Ab Z<|AN Z Z<|Ah Z (Al 1 Z Z)<|AI Z<|Ah Z (Al 5 Z Z)<|Bl Z (h2 (n:=n) (by omega)) (fun u d3 L3 _ ⟨e1,e2,e3⟩=>?_);subst e1;subst e2;subst e3;rw[Afi];have hl1':(l1++[hdF s k i]).length=l1.length+1:=by simp
   have hst':AP n - i=(AP n - (i+1))+1:=by omega
   (refine AN Z Z<|HF Z Z<|AZ ?_);by_cases hh:(G9 (s.bytes (hdF s k i))=65535)=(l1.length+1=AP n)
   ·refine AS (congrArg Value.bool (ZI (by rw[hl1'];exact hh))) ?_;have ht2:2+min 254 (n - o1.length)≤(s.bytes (hdF s k i)).length:=by omega
    refine Ak<|Ad<|Ah Z (Al 5 Z Z)<|Ah Z (Al 0 Z Z)<|AI Z<|CV Z Z (by omega) (by omega)<|Adr Z Z<|Ab Z<|Aa<|Ag<|Ad<|Aj Z<|Ab Z<|AM Z Z (by omega) (by omega)<|Eb (R:=AH) (sz:=1) (n:=2+min 254 (n - o1.length)) Z hv0 Z (by omega) ht2 (fun vz hvz=>?_);obtain⟨zs,hzs⟩:∃zs,zs=(s.bytes (hdF s k i)).drop (2+min 254 (n - o1.length)):=⟨_,Z⟩
    rw[←hzs] at hvz;have hzl:=hvz.BF;refine BI Z (by assumption)<|Ab Z<|Aa<|Ax<|Dd (α:=Nat) (fun j=>[(6,pZ b6),(7,pZ b7),(8,pZ b8),(10,pZ b10),(12,.slice (some ⟨vb,vo,none⟩) (s.bytes (hdF s k i)).length vc),(14,vZ ((min 254 (n - o1.length):Nat):Int)),(63,vz),(64,vZ zs.length),(65,vZ j)])
     (fun _=>[bx b10 T10 [.slice oa o1.length oc],bx b9 T9 [.slice la' (l1++[hdF s k i]).length lc'],bx b8 T8 [vZ 0],bx b7 T7 [nV],bx b6 T6 [nV],bx b5 T5 [vZ n],ho,h'])
     (fun j=>j≤zs.length∧(zs.take j).all (·==0)=true) (fun j=>zs.length - j) 0 ⟨Z,Z,Z,Z,Z,by show Value.int _ _=Value.int _ _;congr 1;omega,Z,Z,Z,trivial⟩ Z ⟨Aez _,Z⟩ ?_
    rintro j ρ ⟨hj,hja⟩;by_cases ej:j<zs.length
    ·have hjn:(zs.take (j+1)).all (·==0)=((zs.take j).all (·==0)&&(zs[j]==0)):=by rw[Aes ej,List.all_append];simp
     by_cases hz0:zs[j]=0
     ·have hz1:zs[j].toNat=0:=by rw[hz0];rfl
      (refine Ad<|AB Z Z<|Aa<|Ag<|Aw Z (by omega)<|Ak<|Ag<|Ax<|Ad<|Bg (sz:=1) (R:=AH) (by rfl) (by assumption) (by rfl) Z (by omega) ?_;rintro _ _ _ _ _ rfl;refine Ah Z (BQ (by assumption) Z)<|Ab Z<|Aa<|Ad<|Ab Z<|AO Z Z<|Aa<|Ar Z (by omega)<|Ak<|AE<|AM Z Z (by omega) (by omega)<|Ab Z<|Aa ?_);exact⟨j+1,by omega,⟨Z,Z,Z,Z,Z,Z,Z,Z,Z,trivial⟩,Z,Z,ej,by rw[hjn,hja,hz0];rfl⟩
     ·have hz1:zs[j].toNat≠0:=fun q=>hz0 (UInt8.toNat_inj.1 q);have hrd:DL s n (AP n) k [] [] (AP n)=([],[],200):=by
       rw[q6,hst',DL,if_pos hlv,if_pos hh,if_neg];rw[←hzs];intro hall;exact hz0 (by simpa using List.all_eq_true.1 hall _ (Aey ej))
      (refine Ad<|AB Z Z<|Aa<|Ag<|Aw Z (by omega)<|Ak<|Ag<|Ax<|Ad<|Bg (sz:=1) (R:=AH) (by rfl) (by assumption) (by rfl) Z (by omega) ?_;rintro _ _ _ _ _ rfl;refine Ah Z (BQ (by assumption) Z)<|Ab Z<|Aa<|Ad<|Ab Z<|AO Z Z<|Aa<|Aw Z (by omega)<|Ad ?_);refine A7 4 [nV] Z Z Z Z (Aef _) Z Z ?_;refine A7 3 [nV] Z Z Z Z (Aef _) Z Z ?_;refine A7 2 [vZ 200] Z Z Z Z (Aef _) Z Z ?_;(refine Aa<|Ap ?_);exact Or.inr ⟨Z,_,_,Z,Z,200,_,_,_,hrd,(by decide),Z⟩
    ·have:j=zs.length:=by omega
     subst this;rw[Afq,hzs] at hja;have hstep:DL s n (AP n) k [] [] (AP n)=DL s n (AP n) (hdF s k (i+1)) (l1++[hdF s k i]) (o1++((s.bytes (hdF s k i)).drop 2).take (min 254 (n - o1.length))) (AP n - (i+1)):=by
      rw[q6,hst',DL,if_pos hlv,if_pos hh,if_pos hja];rfl
     have htl:(((s.bytes (hdF s k i)).drop 2).take (min 254 (n - o1.length))).length=min 254 (n - o1.length):=by rw[Aer,List.length_drop];omega
     (refine Ad<|AB Z Z<|Aa<|Ag<|Ar Z (by omega)<|Bd ?_);show gwp P _ _ _ _ _;skip;refine Bw [] [bx b10 T10 [.slice oa o1.length oc],bx b9 T9 [.slice la' (l1++[hdF s k i]).length lc'],bx b8 T8 [vZ 0],bx b7 T7 [nV],bx b6 T6 [nV],bx b5 T5 [vZ n],ho,h'] Z ?_;refine Aj Z<|Ab Z<|AM Z Z (by omega) (by omega)<|Aci (R:=AH) (sz:=1) (n:=2) (m:=2+min 254 (n - o1.length)) Z hv0 Z Z Z (by omega) (by omega) ht2 (fun vm hvm=>?_);rw[Nat.add_sub_cancel_left] at hvm;(apply Ah;rfl;exact Al 0 Z Z);refine Fk (R:=AH) 6 Z Z q3 Z (RSl.src hvm ES (by omega) _) (by omega) (by rw[htl];omega) (by rw[htl];omega) (fun v'' h'' ho''=>?_);obtain⟨oa',oc',rfl⟩:=ho''.val;(apply Cd);refine A7 0 [.slice oa' (o1++((s.bytes (hdF s k i)).drop 2).take (min 254 (n - o1.length))).length oc'] Z Z Z Z (Aef _) Z Z ?_;(apply Aa);exact Or.inl ⟨Z,[bx b10 T10 [.slice oa' (o1++((s.bytes (hdF s k i)).drop 2).take (min 254 (n - o1.length))).length oc'],bx b9 T9 [.slice la' (l1++[hdF s k i]).length lc'],bx b8 T8 [vZ 0],bx b7 T7 [nV],bx b6 T6 [nV],bx b5 T5 [vZ n],h'',h'],by rw[Xq hst hpd];rfl,l1++[hdF s k i],_,la',lc',oa',oc',h',h'',Z,ho',ho'',by rw[hl1',q4],by rw[Aek,htl];omega,hstep⟩
   ·have hrd:DL s n (AP n) k [] [] (AP n)=([],[],200):=by rw[q6,hst',DL,if_pos hlv,if_neg hh]
    refine Bc (congrArg Value.bool (YR (by rw[hl1'];exact hh))) ?_;refine Ad<|A7 4 [nV] Z Z Z Z (Aef _) Z Z ?_;refine A7 3 [nV] Z Z Z Z (Aef _) Z Z ?_;refine A7 2 [vZ 200] Z Z Z Z (Aef _) Z Z ?_;(refine Aa<|Ap ?_);exact Or.inr ⟨Z,_,_,Z,Z,200,_,_,_,hrd,(by decide),Z⟩
  ·rintro i hi d2 E2 hle ⟨l1,o1,la,lc,oa,oc,hl,ho,rfl,q2,q3,q4,q5,q6⟩ hlv;refine MY hrec hst Z ?_;have hrd:DL s n (AP n) k [] [] (AP n)=([],[],240):=by
    rw[q6,show AP n - i=(AP n - (i+1))+1 by omega,DL,if_neg hlv]
   refine Ad<|Ab Z<|Aa<|AE<|Aj Z<|Aa<|Ax<|Ag<|Ad<|Aj Z<|Ut Z Z<|Aa<|Bc Z<|Ad<|Ab Z<|Abg Z (by omega) (by omega)<|A7 4 [nV] Z Z Z Z (Aef _) Z Z ?_;refine A7 3 [nV] Z Z Z Z (Aef _) Z Z ?_;refine A7 2 [vZ 240] Z Z Z Z (Aef _) Z Z ?_;(refine Aa<|Ap ?_);exact⟨Z,_,_,Z,Z,240,_,_,_,hrd,(by decide),Z⟩
  ·rintro u d3 L3 hl3 ⟨LP',E',rc',tc,rfl,hp3,h⟩;refine⟨d3,sg l (.loop rc')::(E'++LP'),Vs.perm Aei,rc',_,Z,?_⟩
   rcases h with ⟨rfl,htc,l1,o1,la,lc,oa,oc,hl,ho,rfl,q2,q3,q4,q5,q6⟩|⟨rfl,e,x,y,R,hrd,hne,rfl⟩
   ·refine⟨(by rw[hst];intro q;cases q),?_⟩
    rw[hpd];have hll:=q2.BF;rw[Aia,DL] at q6;rw[q6];show xwp P _ _ _ _ _;(apply x_g;apply Ag);refine Bw [_,_] (bx b8 T8 [vZ 0]::bx b7 T7 [nV]::bx b6 T6 [nV]::bx b5 T5 [vZ n]::ho::hl::LP') Z ?_;refine Ah Z (Al 1 Z Z)<|Ah Z (Al 0 Z Z)<|A7 2 [.slice la l1.length lc] Z Z Z Z (Aef _) Z Z ?_;skip;refine A7 1 [.slice oa o1.length oc] Z Z Z Z (Aef _) Z Z ?_;skip;refine A7 0 [vZ 0] Z Z Z Z (Aef _) Z Z ?_;(refine AZ<|Ap ?_);exact A4 [.slice la l1.length lc,.slice oa o1.length oc,vZ 0] ⟨⟨_,_,Z,Al 4 Z Z⟩,⟨_,_,Z,Al 3 Z Z⟩,⟨_,_,Z,Al 2 Z Z⟩,trivial⟩ (d':=join (join d3 ho) hl) (L':=LP') (Acg _ _ _ _ _ _ _ _ _ _)
     ⟨(hl1.trans hl3).trans ((Le.Az _ _).trans (Le.Az _ _)),_,_,tc,Z,As.rsl (R:=Bh) (sz:=1) q2 B6 (by omega) ((Le.Az _ _).trans (Le.Az _ _)) (Le.A6 _ _),
      As.rsl (R:=AH) (sz:=1) q3 AL (by omega) ((Le.Az _ _).trans (Le.Az _ _)) ((Le.A6 _ _).trans (Le.Az _ _)),hp3.mono ((Le.Az _ _).trans (Le.Az _ _)),fun _=>htc⟩
   ·refine⟨(by intro q;cases q),?_⟩
    rw[hrd];exact A4 [nV,nV,vZ e] ⟨⟨_,_,Z,Al 4 Z Z⟩,⟨_,_,Z,Al 3 Z Z⟩,⟨_,_,Z,Al 2 Z Z⟩,trivial⟩ (d':=d3) (L':=LP') (Vs.drop (List.sublist_append_right _ _)) ⟨hl1.trans hl3,_,_,tc,Z,RSl.nil,RSl.nil,hp3,fun q=>absurd q hne⟩
 ·have hF:BT s k size=([],[],2):=by unfold BT;rw[if_neg hsz]
  rw[hF];by_cases hneg:size<0
  ·(apply BU;apply x_g;apply Ag;apply AE;apply Ah;rfl;exact Al 3 Z Z;apply AB;rfl;rfl;apply Ae;rfl;refine A8 Z (by omega) ?_;apply An;rfl;apply An;rfl;apply Ay;rfl;rfl;apply Aa;apply Bc;rfl;apply Ag;apply AE);refine A7 2 [nV] Z Z Z Z (Aef _) Z Z ?_;refine A7 1 [nV] Z Z Z Z (Aef _) Z Z ?_;refine A7 0 [vZ 2] Z Z Z Z (Aef _) Z Z ?_;(refine Aa<|Ap ?_);exact A4 [nV,nV,vZ 2] ⟨⟨_,_,Z,Al 2 Z Z⟩,⟨_,_,Z,Al 1 Z Z⟩,⟨_,_,Z,Al 0 Z Z⟩,trivial⟩ (d':=d) (L':=L) (Vs.drop (.cons _ (.cons _ (.cons _ (.cons _ (Aeb _)))))) ⟨Le.refl _,_,_,s.tc,Z,RSl.nil,RSl.nil,hp,fun q=>absurd q (by decide)⟩
  ·have hbig:16384<size:=by omega
   (apply BU;apply x_g;apply Ag;apply AE;apply Ah;rfl;exact Al 3 Z Z;apply AB;rfl;rfl;apply Ae;rfl;refine A3 Z (by omega) ?_;apply Af;rfl;apply Ah;rfl;exact Al 3 Z Z;apply Af;rfl;apply Bx;rfl;rfl;apply Au;rfl;rfl;apply Aa;refine Aw Z (by omega) ?_;apply Ag;apply AE);refine A7 2 [nV] Z Z Z Z (Aef _) Z Z ?_;refine A7 1 [nV] Z Z Z Z (Aef _) Z Z ?_;refine A7 0 [vZ 2] Z Z Z Z (Aef _) Z Z ?_;(refine Aa<|Ap ?_);exact A4 [nV,nV,vZ 2] ⟨⟨_,_,Z,Al 2 Z Z⟩,⟨_,_,Z,Al 1 Z Z⟩,⟨_,_,Z,Al 0 Z Z⟩,trivial⟩ (d':=d) (L':=L) (Vs.drop (.cons _ (.cons _ (.cons _ (.cons _ (Aeb _)))))) ⟨Le.refl _,_,_,s.tc,Z,RSl.nil,RSl.nil,hp,fun q=>absurd q (by decide)⟩
def Kp(P:Program)(f:FuncId):Prop:=∀{d s dv pv L}{k size:Int},Pg d s dv pv L→
 AA P f [pv,vZ k,vZ size] d L (Ret fun r d' L'=>Le d d'∧∃w tc,r=.tuple #[w,vZ (BT s k size).2.2]∧AJ d' w (BT s k size).2.1∧Pg d' {s with tc:=tc} dv pv L'∧((BT s k size).2.2=0→tc=s.tc+AP size.toNat))
def V9(a0:Nat):A0:=⟨21,[(.tmp 6),(.tmp 7)],(sR (o1 6 (.mv nS)<|o1 7 (.mv z0) .done) (sR (om 12 0<|om 13 1<|om 14 2<|oc 15 a0 [12,13,14]<|om 11 15<|oe 16 11 0<|oe 17 11 1<|oe 18 11 2<|om 8 16<|om 9 17<|om 10 18 .done) (sR (om 19 9<|om 20 10<|om 6 19<|om 7 20 .done) .ret)))⟩
def Te{P}(hd:dec P f=some (V9 f1))(h1:Ku P f1):Kp P f:=by
 intro d s dv pv L k size hp;obtain⟨bp,rfl⟩:=hp.ptr;refine AG hd (Aea Z) ?_;show gwp P _ _ _ _ _;refine Ad<|Aj Z<|Ab Z<|Aa<|Ad<|Am Z<|Ab Z<|Ab Z<|CA (h1 (k:=k) (size:=size) hp) Z (fun u d2 L2 hl2 ⟨_,v,w,tc,e1,hv,hw,hp2,htc⟩=>?_);subst e1;(refine AT Z<|Ao Z Z<|Ao Z Z<|Ao Z Z<|AR<|AR<|Ab Z<|Aa<|Ad<|AR<|Ab Z<|AR<|Ab Z<|Aa<|Ap ?_);exact Cw Z Z (Aeb _) ⟨hl2,w,tc,Z,hw,hp2,htc⟩
def DP(s:PD):List Int→PD×Int
 |[]=>(s,0)
 |k::l=>if (s.drop k).2=0 then DP (s.drop k).1 l else((s.drop k).1,(s.drop k).2)
def D8(s:PD)(k size:Int):PD×Int:=if (BT s k size).2.2=0 then DP s (BT s k size).1 else(s,(BT s k size).2.2)
def Kt(P:Program)(f:FuncId):Prop:=∀{d s dv pv L}{k size:Int},Pg d s dv pv L→
 AA P f [pv,vZ k,vZ size] d L (Ret fun r d' L'=>Le d d'∧r=vZ (D8 s k size).2∧∃tc,Pg d' {(D8 s k size).1 with tc:=tc} dv pv L')
def WD{s:PD}{n:Nat}{k:Int}:PD.drop {s with tc:=n} k=({(s.drop k).1 with tc:=n},(s.drop k).2):=by
 unfold PD.drop;show(if s.kind k=1 then _ else if s.kind k=2 then _ else _)=_;by_cases h1:s.kind k=1
 ·simp only[if_pos h1]
 ·by_cases h2:s.kind k=2
  ·simp only[if_neg h1,if_pos h2]
  ·simp only[if_neg h1,if_neg h2]
def Up(a0 a1:Nat):A0:=⟨37,[(.tmp 6)],(sR (o1 6 (.mv z0) .done) (sR (om 14 0<|om 15 1<|om 16 2<|oc 17 a0 [14,15,16]<|om 13 17<|oe 18 13 0<|oe 19 13 1<|oe 20 13 2<|om 7 18<|om 8 19<|om 9 20 .done) (.seq (sR (om 21 9<|ob 22 .neq 21 z0 .done) (.cond 22 (sR (om 23 9<|om 6 23 .done) .ret) .skip)) (.seq (sR (om 24 7<|oL 25 24<|o1 26 (.mv z0) .done) (.block 0 (.loop (sR (ob 27 .lss 26 25 .done) (.seq (.cond 27 .skip (.exit 0)) (.seq (.block 1 (sR (oI 28 1 24 26<|ol 29 28<|om 11 29 .done) (sR (om 30 0<|om 31 11<|oc 32 a1 [30,31]<|om 12 32 .done) (sR (om 33 12<|ob 34 .neq 33 z0 .done) (.cond 34 (sR (om 35 12<|om 6 35 .done) .ret) .skip))))) (rG (ob 36 .add 26 z1<|om 26 36 .done)))))))) (sR (o1 6 (.mv z0) .done) .ret)))))⟩
set_option maxRecDepth 4000 in
def VE{P f2}(hd:dec P f=some (Up f1 f2))(h1:Ku P f1)(h2:Gl P f2):Kt P f:=by
 intro d s dv pv L k size hp;obtain⟨bp,rfl⟩:=hp.ptr;refine AG hd (Aea Z) ?_;show gwp P _ _ _ _ _;refine Ad<|Ab Z<|Aa<|Ad<|Am Z<|Ab Z<|Ab Z<|CA (h1 (k:=k) (size:=size) hp) Z (fun u d2 L2 hl2 ⟨_,v,w,tc,e1,hv,hw,hp2,htc⟩=>?_);subst e1;by_cases hz:(BT s k size).2.2=0
 ·have hF:D8 s k size=DP s (BT s k size).1:=by unfold D8;rw[if_pos hz]
  rw[hF];generalize (BT s k size).1=l at hv;have hll:=hv.BF;refine AT Z<|Ao Z Z<|Ao Z Z<|Ao Z Z<|AR<|AR<|Ab Z<|Aa<|Ag<|Ad<|Ab Z<|AO Z Z<|Aa<|Ar Z (by omega)<|Ak<|Ag<|Ad<|AR<|BI Z (by assumption)<|Ab Z<|Aa<|Ax<|B8 (α:=Nat×PD) (fun x=>[(0,pZ bp),(24,v),(25,vZ l.length),(26,vZ x.1)])
   (fun x d' L'=>Le d2 d'∧x.1≤l.length∧DP s l=DP x.2 (l.drop x.1)∧Pg d' {x.2 with tc:=tc} dv (pZ bp) L') (fun x=>l.length - x.1) (0,s) ⟨Z,Z,Z,Z,trivial⟩ ⟨Le.refl _,Aez _,Z,hp2⟩ ?_
  rintro⟨i,s1⟩ ρ d' L' ⟨hle,hi,hD,hp'⟩;simp only at hi hD hp'⊢;have hv':=RSl.mono (R:=Bh) B6 hv hle;by_cases e:i<l.length
  ·rw[List.drop_eq_getElem_cons e,DP] at hD;(refine Ad<|AB Z Z<|Aa<|Ag<|Aw Z (by omega)<|Ak<|Ag<|Ax<|Ad<|Bg (sz:=1) (R:=Bh) (by rfl) (by assumption) (by rfl) Z (by omega) ?_;rintro _ _ _ _ _ ⟨rfl,_,_⟩;refine Ah Z (BQ (by assumption) Z)<|Ab Z<|Aa<|Ad<|Am Z<|Ab Z ?_);refine CA (h2 (k:=l[i]) hp') Z (fun u d3 L3 hl3 ⟨q1,q2⟩=>?_);rw[WD] at q1 q2;subst q1;by_cases hd0:(s1.drop l[i]).2=0
   ·rw[if_pos hd0] at hD;(refine Ab Z<|Aa<|Ad<|Ab Z<|AO Z Z<|Aa<|Ar Z (by omega)<|Ak<|AE<|AM Z Z (by omega) (by omega)<|Ab Z<|Aa ?_);exact⟨(i+1,(s1.drop l[i]).1),by simp only;omega,⟨Z,Z,Z,Z,trivial⟩,hle.trans hl3,e,hD,q2⟩
   ·rw[if_neg hd0] at hD;rw[hD];(refine Ab Z<|Aa<|Ad<|Ab Z<|AO Z Z<|Aa<|Aw Z (by omega)<|Ad<|Ab Z<|Ab Z<|Aa<|Ap ?_);exact BO Z (Aeb _) ⟨(hl2.trans hle).trans hl3,Z,tc,q2⟩
  ·have:i=l.length:=by omega
   subst this;rw[List.drop_length,DP] at hD;rw[hD];(refine Ad<|AB Z Z<|Aa<|Ag<|Ar Z (by omega)<|Bd<|Ad<|Ab Z<|Aa<|Ap ?_);exact BO Z (Aeb _) ⟨hl2.trans hle,Z,tc,hp'⟩
 ·have hF:D8 s k size=(s,(BT s k size).2.2):=by unfold D8;rw[if_neg hz]
  rw[hF];(refine AT Z<|Ao Z Z<|Ao Z Z<|Ao Z Z<|AR<|AR<|Ab Z<|Aa<|Ag<|Ad<|Ab Z<|AO Z Z<|Aa<|Aw Z (by omega)<|Ad<|Ab Z<|Ab Z<|Aa<|Ap ?_);exact BO Z (Aeb _) ⟨hl2,Z,tc,hp2⟩
end Go.Gk.Chn
end
section
namespace Go.Gk.Node
open Go Go.Gk
attribute [local irreducible] gwp gws
variable{P:Program}{f f1:FuncId}{α:Type}
structure AK where
 leaf:Bool
 keys:List (List UInt8)
 vals:List (List UInt8)
 kids:List Int
def Cj(d:Ac)(cs:List Value)(n:AK):Prop:=
 ∃kv vv iv,cs=[.bool n.leaf,kv,vv,iv]∧Dh d kv n.keys∧Dh d vv n.vals∧DS d iv n.kids
def Dz(n:AK)(i:Nat):Nat:=(n.keys.getD i []).length
def Fs(n:AK)(i:Nat):Nat:=(n.vals.getD i []).length
def Eh(n:AK)(i:Nat):Nat:=if n.leaf then 2+Dz n i+Fs n i else 1+Dz n i
def ME(P:Program)(f:FuncId):Prop:=∀{d cs}{n:AK},Cj d cs n→∀i:Nat,i<n.keys.length→CP P f [.agg cs.toArray,vZ i] d (vZ (Eh n i))
def OD:A0:=⟨44,[(.tmp 4)],(sR (o1 2 (.box 0)<|o1 4 (.mv z0) .done) (.seq (sR (oj 5 0 2<|ol 6 5<|om 7 6<|gT 8 7 1<|oT 9 7 (.fld 2 2)<|oT 10 7 (.ld none 9)<|oT 11 7 (.len 10)<|oT 12 7 (.bin .lss 8 11)<|gP 13 7 12 .done) (.cond 13 (.seq (.reg true (p1 14 (.fld 1 2)<|pl 15 14<|pm 16 1<|p1 17 (.idx 1 15 16)<|pl 18 17<|p1 19 (.len 18)<|p1 20 (.bin .add z2 19)<|p1 21 (.fld 2 2)<|pl 22 21<|pm 23 1<|p1 24 (.idx 1 22 23)<|pl 25 24<|p1 26 (.len 25)<|p1 27 (.bin .add 20 26) (.bar (pm 4 27 .done)))) .ret) .skip)) (.seq (sR (oj 28 0 2<|ol 29 28 .done) (.cond 29 (sR (oj 30 1 2<|ol 31 30<|om 32 1<|oI 33 1 31 32<|ol 34 33<|oL 35 34<|ob 36 .add z2 35<|om 4 36 .done) .ret) .skip)) (sR (oj 37 1 2<|ol 38 37<|om 39 1<|oI 40 1 38 39<|ol 41 40<|oL 42 41<|ob 43 .add z1 42<|om 4 43 .done) .ret))))⟩
def Wu(hd:dec P f=some OD):ME P f:=by
 intro d cs n hn i hi;obtain⟨lf,ks,vs,is⟩:=n;obtain⟨kv,vv,iv,rfl,hk,hv,hiv⟩:∃kv vv iv,cs=[.bool lf,kv,vv,iv]∧Dh d kv ks∧Dh d vv vs∧DS d iv is:=hn;simp only at hi;refine AG hd (Aea Z) ?_;obtain⟨ka,kc,kb,ko,rfl,kA,kS,kN,kl,km,kB,kx⟩:=hk;obtain⟨va,vc,vb,vo,rfl,vA,vS,vN,vl,vm,vB,vx⟩:=hv;obtain⟨c0,hc0,hD0,⟨u0,rfl,hu0⟩⟩:=kx i hi;replace hD0:=hD0.one;obtain⟨ua,uc,ub,uo,rfl,uA,uS,uN,ul,um,uB,ux⟩:=hu0;dsimp only[Eh,Dz,Fs] at*;have hkl:(ks.getD i []).length=ks[i].length:=by simp[hi]
 rw[hkl];cases lf
 ·show gwp P _ _ _ _ _;(refine Ad<|Ck Z (fun _ _=>Ab Z<|Aa<|Ag<|Ad<|Ai Z<|Ah Z (Al 0 Z Z)<|Ae Z<|An Z<|An Z<|An Z<|An Z<|An Z<|Au Z Z<|Aa<|AS Z<|Ak<|Ag<|Ad<|Ai Z<|Ah Z (Al 0 Z Z)<|Aa<|AS Z<|Ak<|Ad<|Ai Z<|Ah Z (Al 0 Z Z)<|Ab Z ?_);apply BL;rfl;rfl;rfl;omega;assumption;refine Ah Z (BB (by assumption))<|AI Z<|AM Z Z (by omega) (by omega)<|Ab Z<|Aa<|Ap ?_);(apply Iw;rfl);simp
 ·by_cases hv:i<vs.length
  ·obtain⟨c1,hc1,hD1,⟨u1,rfl,hu1⟩⟩:=vx i hv;replace hD1:=hD1.one;obtain⟨wa,wc,wb,wo,rfl,wA,wS,wN,wl,wm,wB,wx⟩:=hu1;show gwp P _ _ _ _ _;(refine Ad<|Ck Z (fun _ _=>Ab Z<|Aa<|Ag<|Ad<|Ai Z<|Ah Z (Al 0 Z Z)<|Ae Z<|Af Z<|Ab Z<|Af Z<|Ai Z<|Af Z<|Ah Z (Al 0 Z Z)<|Af Z<|AI Z<|Af Z<|AB Z Z<|Ay Z Z<|Aa<|Aw Z (by omega)<|Ag<|Bv<|Ai Z<|Ah Z (Al 0 Z Z)<|Ab Z ?_);apply BL;rfl;rfl;rfl;omega;assumption;refine Ah Z (BB (by assumption))<|AI Z<|AM Z Z (by omega) (by omega)<|Ai Z<|Ah Z (Al 0 Z Z)<|Ab Z ?_;apply BL;rfl;rfl;rfl;omega;assumption;refine Ah Z (BB (by assumption))<|AI Z<|AM Z Z (by omega) (by omega)<|Cd<|Ab Z<|Aa<|Ap ?_);(apply Iw;rfl);simp[hv]
  ·show gwp P _ _ _ _ _;(refine Ad<|Ck Z (fun _ _=>Ab Z<|Aa<|Ag<|Ad<|Ai Z<|Ah Z (Al 0 Z Z)<|Ae Z<|Af Z<|Ab Z<|Af Z<|Ai Z<|Af Z<|Ah Z (Al 0 Z Z)<|Af Z<|AI Z<|Af Z<|AB Z Z<|Ay Z Z<|Aa<|Ar Z (by omega)<|Ak<|Ag<|Ad<|Ai Z<|Ah Z (Al 0 Z Z)<|Aa<|Bc Z<|Ad<|Ai Z<|Ah Z (Al 0 Z Z)<|Ab Z ?_);apply BL;rfl;rfl;rfl;omega;assumption;refine Ah Z (BB (by assumption))<|AI Z<|AM Z Z (by omega) (by omega)<|Ab Z<|Aa<|Ap ?_);(apply Iw;rfl);simp[Afo (Air hv)]
def By(n:AK):Nat→Nat
 |0=>0
 |k+1=>By n k+Eh n k
def GN(n:AK):∀{k m:Nat},k≤m→By n k≤By n m:=by
 intro k m h;induction h with
 |refl=>exact Aef _
 |step _ ih=>simp only[By];omega
def A9(n:AK):Nat:=2+(if n.leaf then 0 else 2*n.kids.length)+By n n.keys.length
def Kl(P:Program)(f:FuncId):Prop:=∀{d cs}{n:AK},Cj d cs n→A9 n≤1000000000000→CP P f [.agg cs.toArray] d (vZ (A9 n))
def VT(a0:Nat):A0:=⟨27,[(.tmp 2)],(sR (o1 1 (.box 0)<|o1 2 (.mv z0) .done) (sR (o1 3 (.mv z2) .done) (.seq (sR (oj 5 0 1<|ol 6 5<|o1 7 (.un .not 6) .done) (.cond 7 (rG (om 8 3<|oj 9 3 1<|ol 10 9<|oL 11 10<|ob 12 .mul z2 11<|ob 13 .add 8 12<|om 3 13 .done)) .skip)) (.seq (sR (oj 14 1 1<|ol 15 14<|oL 16 15<|o1 17 (.mv z0) .done) (.block 0 (.loop (sR (ob 18 .lss 17 16 .done) (.seq (.cond 18 .skip (.exit 0)) (.seq (.block 1 (sR (om 19 17<|om 4 19 .done) (rG (om 20 3<|o1 21 (.ld (some 4) 1)<|om 22 4<|oc 23 a0 [21,22]<|ob 24 .add 20 23<|om 3 24 .done)))) (rG (ob 25 .add 17 z1<|om 17 25 .done)))))))) (sR (om 26 3<|om 2 26 .done) .ret)))))⟩
def Xk{fc}(hd:dec P f=some (VT fc))(hc:ME P fc):Kl P f:=by
 intro d cs n hn hb;have hn':=hn;obtain⟨lf,ks,vs,is⟩:=n;obtain⟨kv,vv,iv,rfl,hk,hv,hiv⟩:∃kv vv iv,cs=[.bool lf,kv,vv,iv]∧Dh d kv ks∧Dh d vv vs∧DS d iv is:=hn;refine AG hd (Aea Z) ?_;obtain⟨ka,kc,kb,ko,rfl,kA,kS,kN,kl,km,kB,kx⟩:=hk;obtain⟨ia,ic,ib,io,rfl,iA,iS,iN,il,im,iB,ix⟩:=hiv;have hm:∀k,k≤ks.length→By ⟨lf,ks,vs,is⟩ k≤By ⟨lf,ks,vs,is⟩ ks.length:=fun k hk=>GN _ hk;simp only[A9] at hb⊢;show gwp P _ _ _ _ _;cases lf
 ·obtain⟨z,hz⟩:∃z,z=2+(if false then 0 else 2*is.length):=⟨_,Z⟩
  simp only[Aeh,if_false] at hz hb;(refine Ad<|Ck Z (fun _ _=>Ab Z<|Aa<|Ad<|Ab Z<|Aa<|Ag<|Ad<|Ai Z<|Ah Z (Al 0 Z Z)<|Bn Z<|Aa<|Bc Z<|AE<|Ab Z<|Ai Z<|Ah Z (Al 0 Z Z)<|AI Z<|Il Z Z (by omega) (by omega)<|AM Z Z (by omega) (by omega)<|Ab Z<|Aa<|Ag<|Ad<|Ai Z<|Ah Z (Al 0 Z Z)<|AI Z<|Ab Z<|Aa<|Ax ?_));rename_i b T;refine Dd (α:=Nat) (fun k=>[(1,pZ b),(3,vZ (z+By ⟨false,ks,vs,is⟩ k:Nat)),(16,vZ ks.length),(17,vZ k)])
   (fun _=>[bx b T [.bool false,.slice ka ks.length kc,vv,.slice ia is.length ic]]) (fun k=>k≤ks.length) (fun k=>ks.length - k) 0 ⟨Z,int_eq (by simp[By,hz]),Z,Z,trivial⟩ Z (Aez _) ?_
  intro k ρ hk;have h1:=hm k hk;by_cases h:k<ks.length
  ·have h2:=hm (k+1) h;simp only[By] at h1 h2 hb;refine Ad<|AB Z Z<|Aa<|Ag<|Aw Z (by omega)<|Ak<|Ag<|Ax<|Ad<|Ab Z<|Ab Z<|Aa<|AE<|Ab Z<|Bf 0 Z Z Z<|Ab Z<|BE Z (hc hn' k h) ?_;(refine AM Z Z (by omega) (by omega)<|Ab Z<|Aa<|AE<|AM Z Z (by omega) (by omega)<|Ab Z<|Aa ?_);exact⟨k+1,by omega,⟨Z,int_eq (by simp[By];omega),Z,Z,trivial⟩,Z,Z,h⟩
  ·have e:k=ks.length:=by omega
   subst e;(refine Ad<|AB Z Z<|Aa<|Ag<|Ar Z (by omega)<|Bd<|Ad<|Ab Z<|Ab Z<|Aa<|Ap ?_);(apply Iw;rfl);simp;omega
 ·obtain⟨z,hz⟩:∃z,z=2+(if true then 0 else 2*is.length):=⟨_,Z⟩
  simp only[if_true] at hz hb;(refine Ad<|Ck Z (fun _ _=>Ab Z<|Aa<|Ad<|Ab Z<|Aa<|Ag<|Ad<|Ai Z<|Ah Z (Al 0 Z Z)<|Bn Z<|Aa<|AS Z<|Ak<|Ag<|Ad<|Ai Z<|Ah Z (Al 0 Z Z)<|AI Z<|Ab Z<|Aa<|Ax ?_));rename_i b T;refine Dd (α:=Nat) (fun k=>[(1,pZ b),(3,vZ (z+By ⟨true,ks,vs,is⟩ k:Nat)),(16,vZ ks.length),(17,vZ k)])
   (fun _=>[bx b T [.bool true,.slice ka ks.length kc,vv,.slice ia is.length ic]]) (fun k=>k≤ks.length) (fun k=>ks.length - k) 0 ⟨Z,int_eq (by simp[By,hz]),Z,Z,trivial⟩ Z (Aez _) ?_
  intro k ρ hk;have h1:=hm k hk;by_cases h:k<ks.length
  ·have h2:=hm (k+1) h;simp only[By] at h1 h2 hb;refine Ad<|AB Z Z<|Aa<|Ag<|Aw Z (by omega)<|Ak<|Ag<|Ax<|Ad<|Ab Z<|Ab Z<|Aa<|AE<|Ab Z<|Bf 0 Z Z Z<|Ab Z<|BE Z (hc hn' k h) ?_;(refine AM Z Z (by omega) (by omega)<|Ab Z<|Aa<|AE<|AM Z Z (by omega) (by omega)<|Ab Z<|Aa ?_);exact⟨k+1,by omega,⟨Z,int_eq (by simp[By];omega),Z,Z,trivial⟩,Z,Z,h⟩
  ·have e:k=ks.length:=by omega
   subst e;(refine Ad<|AB Z Z<|Aa<|Ag<|Ar Z (by omega)<|Bd<|Ad<|Ab Z<|Ab Z<|Aa<|Ap ?_);(apply Iw;rfl);simp;omega
def kOk(ks:List (List UInt8))(i:Nat):Bool:=decide (1≤(ks.getD i []).length)&& decide ((ks.getD i []).length≤64)&&(i==0||Op.bytesLess (ks.getD (i - 1) []) (ks.getD i []))
def DE(ks:List (List UInt8)):Nat→Bool
 |0=>true
 |k+1=>DE ks k && kOk ks k
def IX{ks}{k:Nat}(h:kOk ks k=false):∀{m:Nat},k<m→DE ks m=false:=by
 intro m hm;induction hm with
 |refl=>simp[DE,h]
 |step _ ih=>simp[DE,ih]
def Ii(v:List UInt8):Bool:=decide (v.length≤16)
def Gt(k:Int):Bool:=decide (0≤k∧k≤8191)
def Ba(n:AK):Bool:=DE n.keys n.keys.length &&(if n.leaf then decide (n.vals.length=n.keys.length)&& decide (n.kids.length=0)&& n.vals.all Ii
 else decide (n.vals.length=0)&& decide (n.kids.length=n.keys.length+1)&& n.kids.all Gt)
def JZ(P:Program)(f:FuncId):Prop:=∀{d cs}{n:AK},Cj d cs n→CP P f [.agg cs.toArray] d (.bool (Ba n))
def Ez(P:Program)(f:FuncId):Prop:=∀{α:Type}{R:Ac→List Value→α→Prop}{d:Ac}{v:Value}{xs:List α}{g:FuncId}{p:α→Bool},RSl 1 R d v xs→(∀u x,R d [u] x→CP P g [u] d (.bool (p x)))→
 AA P f [v,.func (.func g) #[] #[]] d [] (Ret fun r d' L'=>∃z:Int,r=vZ z∧(0≤z↔xs.any p=true)∧d'=d∧L'=[])
def DH(P:Program)(f:FuncId):Prop:=∀{α:Type}{R:Ac→List Value→α→Prop}{d:Ac}{v:Value}{xs:List α}{g:FuncId}{p:α→Bool},RSl 1 R d v xs→(∀u x,R d [u] x→CP P g [u] d (.bool (p x)))→
 CP P f [v,.func (.func g) #[] #[]] d (.bool (xs.any p))
def F4(P:Program)(f:FuncId):Prop:=∀{d u v a b},AJ d u a→AJ d v b→CP P f [u,v] d (vZ (Lib.compareBytes a b))
def UW{p:α→Bool}{xs:List α}{i:Nat}(hi:i<xs.length)(h:(xs.take i).any p=false)(hx:p xs[i]=false):(xs.take (i+1)).any p=false:=by
 rw[Aes hi,List.any_append,h];simp[hx]
def ZE{p:α→Bool}{xs:List α}{i:Nat}(hi:i<xs.length)(hx:p xs[i]=true):xs.any p=true:=List.any_eq_true.2 ⟨xs[i],Aey hi,hx⟩
def Hu:A0:=⟨19,[(.tmp 4)],(sR (o1 4 (.mv z0) .done) (.seq (sR (om 6 0<|oL 7 6<|o1 8 (.mv z0) .done) (.block 0 (.loop (sR (ob 9 .lss 8 7 .done) (.seq (.cond 9 .skip (.exit 0)) (.seq (.block 1 (sR (om 10 8<|om 5 10 .done) (sR (om 11 1<|om 12 0<|om 13 5<|oI 14 1 12 13<|ol 15 14<|o1 16 (.callv 11 [15]) .done) (.cond 16 (sR (om 17 5<|om 4 17 .done) .ret) .skip)))) (rG (ob 18 .add 8 z1<|om 8 18 .done)))))))) (sR (o1 4 (.mv (kZ (-1))) .done) .ret)))⟩
def He(hd:dec P f=some Hu):Ez P f:=by
 intro α R d v xs g p hv hp;refine AG hd (Aea Z) ?_;obtain⟨xa,xc,xb,xo,rfl,xA,xS,xN,xl,xm,xB,xx⟩:=hv;show gwp P _ _ _ _ _;refine Ad<|Ab Z<|Aa<|Ag<|Ad<|Aj Z<|AI Z<|Ab Z<|Aa<|Ax<|Dd (α:=Nat) (fun k=>[(0,.slice xa xs.length xc),(1,.func (.func g) #[] #[]),(7,vZ xs.length),(8,vZ k)])
  (fun _=>[]) (fun k=>k≤xs.length∧(xs.take k).any p=false) (fun k=>xs.length - k) 0 ⟨Z,Z,Z,Z,trivial⟩ Z ⟨Aez _,by simp⟩ ?_
 rintro k ρ ⟨hle,hk⟩;by_cases h:k<xs.length
 ·obtain⟨c0,hc0,hD0,hR0⟩:=xx k h;obtain⟨u,rfl⟩:∃u,c0=[u]:=by
   match c0,hc0 with|[u],_=>exact⟨u,Z⟩
  replace hD0:=hD0.one;(refine Ad<|AB Z Z<|Aa<|Ag<|Aw Z (by omega)<|Ak<|Ag<|Ax<|Ad<|Ab Z<|Ab Z<|Aa<|Ad<|FE Z<|Aj Z<|Ab Z ?_;apply BL;rfl;rfl;rfl;omega;assumption;apply Ah;rfl;exact BB (by assumption));refine WQ Z Z (hp u _ hR0) ?_;cases hx:p xs[k] with
  |true=>
   (refine Aa<|Bc Z<|Ad<|Ab Z<|Ab Z<|Aa<|Ap ?_)
   exact KT Z ⟨k,Z,by simp[ZE h hx],Z,Z⟩
  |false=>
   (refine Aa<|AS Z<|Ak<|AE<|AM Z Z (by omega) (by omega)<|Ab Z<|Aa ?_)
   exact⟨k+1,by omega,⟨Z,Z,Z,int_eq (by omega),trivial⟩,Z,Z,by omega,UW h hk hx⟩
 ·have e:k=xs.length:=by omega
  subst e;rw[Afq] at hk;(refine Ad<|AB Z Z<|Aa<|Ag<|Ar Z (by omega)<|Bd<|Ad<|Ab Z<|Aa<|Ap ?_);exact KT Z ⟨-1,Z,by simp[hk],Z,Z⟩
def GU(a0:Nat):A0:=⟨9,[(.tmp 4)],(sR (o1 4 (.mv (.const (.bool false))) .done) (sR (om 5 0<|om 6 1<|oc 7 a0 [5,6]<|ob 8 .geq 7 z0<|om 4 8 .done) .ret))⟩
def Gh(hd:dec P f=some (GU f1))(h1:Ez P f1):DH P f:=by
 intro α R d v xs g p hv hp;refine AG hd (Aea Z) ?_;show gwp P _ _ _ _ _;refine Ad<|Ae Z<|Aa<|Ad<|AR<|FE Z<|Bl Z (h1 hv hp) (fun r d' L' _ ⟨z,hr,hz,hd',hL⟩=>?_);subst hr;subst hd';subst hL;(refine Da Z Z<|Ae Z<|Aa<|Ap ?_);(apply EG;rfl);cases h:xs.any p
 ·have:¬0≤z:=fun h0=>by rw[hz.1 h0] at h;cases h
  simpa using this
 ·simpa using hz.2 h
def H3:A0:=⟨19,[(.tmp 4)],(sR (o1 4 (.mv z0) .done) (.seq (sR (om 6 0<|oL 7 6<|o1 8 (.mv z0) .done) (.block 0 (.loop (sR (ob 9 .lss 8 7 .done) (.seq (.cond 9 .skip (.exit 0)) (.seq (.block 1 (sR (om 10 8<|om 5 10 .done) (sR (om 11 1<|om 12 0<|om 13 5<|oI 14 1 12 13<|ol 15 14<|o1 16 (.callv 11 [15]) .done) (.cond 16 (sR (om 17 5<|om 4 17 .done) .ret) .skip)))) (rG (ob 18 .add 8 z1<|om 8 18 .done)))))))) (sR (o1 4 (.mv (kZ (-1))) .done) .ret)))⟩
def H6(hd:dec P f=some H3):Ez P f:=by
 intro α R d v xs g p hv hp;refine AG hd (Aea Z) ?_;obtain⟨xa,xc,xb,xo,rfl,xA,xS,xN,xl,xm,xB,xx⟩:=hv;show gwp P _ _ _ _ _;refine Ad<|Ab Z<|Aa<|Ag<|Ad<|Aj Z<|AI Z<|Ab Z<|Aa<|Ax<|Dd (α:=Nat) (fun k=>[(0,.slice xa xs.length xc),(1,.func (.func g) #[] #[]),(7,vZ xs.length),(8,vZ k)])
  (fun _=>[]) (fun k=>k≤xs.length∧(xs.take k).any p=false) (fun k=>xs.length - k) 0 ⟨Z,Z,Z,Z,trivial⟩ Z ⟨Aez _,by simp⟩ ?_
 rintro k ρ ⟨hle,hk⟩;by_cases h:k<xs.length
 ·obtain⟨c0,hc0,hD0,hR0⟩:=xx k h;obtain⟨u,rfl⟩:∃u,c0=[u]:=by
   match c0,hc0 with|[u],_=>exact⟨u,Z⟩
  replace hD0:=hD0.one;(refine Ad<|AB Z Z<|Aa<|Ag<|Aw Z (by omega)<|Ak<|Ag<|Ax<|Ad<|Ab Z<|Ab Z<|Aa<|Ad<|FE Z<|Aj Z<|Ab Z ?_;apply BL;rfl;rfl;rfl;omega;assumption;apply Ah;rfl;exact BB (by assumption));refine WQ Z Z (hp u _ hR0) ?_;cases hx:p xs[k] with
  |true=>
   (refine Aa<|Bc Z<|Ad<|Ab Z<|Ab Z<|Aa<|Ap ?_)
   exact KT Z ⟨k,Z,by simp[ZE h hx],Z,Z⟩
  |false=>
   (refine Aa<|AS Z<|Ak<|AE<|AM Z Z (by omega) (by omega)<|Ab Z<|Aa ?_)
   exact⟨k+1,by omega,⟨Z,Z,Z,int_eq (by omega),trivial⟩,Z,Z,by omega,UW h hk hx⟩
 ·have e:k=xs.length:=by omega
  subst e;rw[Afq] at hk;(refine Ad<|AB Z Z<|Aa<|Ag<|Ar Z (by omega)<|Bd<|Ad<|Ab Z<|Aa<|Ap ?_);exact KT Z ⟨-1,Z,by simp[hk],Z,Z⟩
def Hd(a0:Nat):A0:=⟨9,[(.tmp 4)],(sR (o1 4 (.mv (.const (.bool false))) .done) (sR (om 5 0<|om 6 1<|oc 7 a0 [5,6]<|ob 8 .geq 7 z0<|om 4 8 .done) .ret))⟩
def GZ(hd:dec P f=some (Hd f1))(h1:Ez P f1):DH P f:=by
 intro α R d v xs g p hv hp;refine AG hd (Aea Z) ?_;show gwp P _ _ _ _ _;refine Ad<|Ae Z<|Aa<|Ad<|AR<|FE Z<|Bl Z (h1 hv hp) (fun r d' L' _ ⟨z,hr,hz,hd',hL⟩=>?_);subst hr;subst hd';subst hL;(refine Da Z Z<|Ae Z<|Aa<|Ap ?_);(apply EG;rfl);cases h:xs.any p
 ·have:¬0≤z:=fun h0=>by rw[hz.1 h0] at h;cases h
  simpa using this
 ·simpa using hz.2 h
def P6:A0:=⟨8,[(.tmp 4)],(sR (o1 4 (.mv z0) .done) (sR (om 5 0<|om 6 1<|o1 7 (.bcmp 5 6)<|om 4 7 .done) .ret))⟩
def PX(hd:dec P f=some P6):F4 P f:=by
 intro d u v a b hu hv;refine AG hd (Aea Z) ?_;show gwp P _ _ _ _ _;(refine Ad<|Ab Z<|Aa<|Ad<|AR<|AR<|AbQ Z Z (by assumption) (by assumption)<|Ab Z<|Aa<|Ap ?_);(apply Iw;rfl);rfl
def Ko:A0:=⟨6,[(.tmp 2)],(sR (o1 2 (.mv (.const (.bool false))) .done) (sR (om 3 0<|oL 4 3<|ob 5 .gtr 4 (kZ 16)<|om 2 5 .done) .ret))⟩
def YU(hd:dec P f=some Ko){d u l}(hu:RBs d [u] l):CP P f [u] d (.bool (!Ii l)):=by
 obtain⟨u',e,hu⟩:=hu;cases e;refine AG hd (Aea Z) ?_;show gwp P _ _ _ _ _;(refine Ad<|Ae Z<|Aa<|Ad<|AR<|BI Z (by assumption)<|Bx Z Z<|Ae Z<|Aa<|Ap ?_);(apply EG;rfl);(rw[Ajb];simp[Ii];omega)
def Kh:A0:=⟨9,[(.tmp 2)],(sR (o1 2 (.mv (.const (.bool false))) .done) (sR (om 3 0<|ob 4 .lss 3 z0<|om 5 4<|gF 6 5 0<|oF 7 5 (.bin .geq 6 (kZ 8192))<|o1 8 (.pick 5 (.const (.bool true)) 7)<|om 2 8 .done) .ret))⟩
def Zn(hd:dec P f=some Kh){d u}{k:Int}(hu:Bh d [u] k):CP P f [u] d (.bool (!Gt k)):=by
 obtain⟨e,h1,h2⟩:=hu;cases e;refine AG hd (Aea Z) ?_;show gwp P _ _ _ _ _;by_cases h:k<0
 ·(refine Ad<|Ae Z<|Aa<|Ad<|Ab Z<|AB Z Z<|Ae Z<|A8 Z (by omega)<|An Z<|An Z<|Ay Z Z<|Ae Z<|Aa<|Ap ?_);(apply EG;rfl);(rw[Ajb];simp[Gt];omega)
 ·by_cases h':k≥8192
  ·(refine Ad<|Ae Z<|Aa<|Ad<|Ab Z<|AB Z Z<|Ae Z<|A3 Z (by omega)<|Af Z<|Ab Z<|Af Z<|Da Z Z<|Au Z Z<|Ae Z<|Aa<|Ap ?_);(apply EG;rfl);(rw[Ajb];simp[Gt];omega)
  ·(refine Ad<|Ae Z<|Aa<|Ad<|Ab Z<|AB Z Z<|Ae Z<|A3 Z (by omega)<|Af Z<|Ab Z<|Af Z<|Da Z Z<|Au Z Z<|Ae Z<|Aa<|Ap ?_);(apply EG;rfl);(rw[Ajb];simp[Gt];omega)
def Vd(a0 a1 a2 a3 a4:Nat):A0:=⟨78,[(.tmp 2)],(sR (o1 1 (.box 0)<|o1 2 (.mv (.const (.bool false))) .done) (.seq (sR (oj 5 1 1<|ol 6 5<|oL 7 6<|o1 8 (.mv z0) .done) (.block 0 (.loop (sR (ob 9 .lss 8 7 .done) (.seq (.cond 9 .skip (.exit 0)) (.seq (.block 1 (sR (om 10 8<|oI 11 1 6 8<|ol 12 11<|om 3 10<|om 4 12 .done) (sR (om 13 4<|oL 14 13<|ob 15 .lss 14 z1<|om 16 15<|gF 17 16 4<|oF 18 16 (.len 17)<|oF 19 16 (.bin .gtr 18 (kZ 64))<|o1 20 (.pick 16 (.const (.bool true)) 19)<|om 21 20<|gF 22 21 3<|oF 23 21 (.bin .gtr 22 z0)<|gF 24 21 23<|oT 25 24 (.fld 1 1)<|oT 26 24 (.ld none 25)<|gT 27 24 3<|oT 28 24 (.bin .sub 27 z1)<|oT 29 24 (.idx 1 26 28)<|oT 30 24 (.ld none 29)<|gT 31 24 4<|oT 32 24 (.call a0 [30,31])<|oT 33 24 (.bin .geq 32 z0)<|oF 34 21 (.pick 24 33 (.const (.bool false)))<|o1 35 (.pick 21 (.const (.bool true)) 34) .done) (.cond 35 (sR (o1 2 (.mv (.const (.bool false))) .done) .ret) .skip)))) (rG (ob 36 .add 8 z1<|om 8 36 .done)))))))) (.seq (sR (oj 37 0 1<|ol 38 37 .done) (.cond 38 (sR (oj 39 2 1<|ol 40 39<|oL 41 40<|oj 42 1 1<|ol 43 42<|oL 44 43<|ob 45 .eql 41 44<|om 46 45<|oT 47 46 (.fld 3 1)<|oT 48 46 (.ld none 47)<|oT 49 46 (.len 48)<|oT 50 46 (.bin .eql 49 z0)<|gP 51 46 50<|om 52 51<|oT 53 52 (.fld 2 1)<|oT 54 52 (.ld none 53)<|oT 55 52 (.call a1 [54,(.func a2)])<|oT 56 52 (.un .not 55)<|gP 57 52 56<|om 2 57 .done) .ret) .skip)) (sR (oj 58 2 1<|ol 59 58<|oL 60 59<|ob 61 .eql 60 z0<|om 62 61<|oT 63 62 (.fld 3 1)<|oT 64 62 (.ld none 63)<|oT 65 62 (.len 64)<|oT 66 62 (.fld 1 1)<|oT 67 62 (.ld none 66)<|oT 68 62 (.len 67)<|oT 69 62 (.bin .add 68 z1)<|oT 70 62 (.bin .eql 65 69)<|gP 71 62 70<|om 72 71<|oT 73 72 (.fld 3 1)<|oT 74 72 (.ld none 73)<|oT 75 72 (.call a3 [74,(.func a4)])<|oT 76 72 (.un .not 75)<|gP 77 72 76<|om 2 77 .done) .ret))))⟩
def VK{f2 f3 f4 f5}(hd:dec P f=some (Vd f1 f2 f3 f4 f5))(h1:F4 P f1)(h2:DH P f2)(h3:dec P f3=some Ko)(h4:DH P f4)(h5:dec P f5=some Kh):JZ P f:=by
 intro d cs n hn;obtain⟨lf,ks,vs,is⟩:=n;obtain⟨kv,vv,iv,rfl,hk,hv,hiv⟩:∃kv vv iv,cs=[.bool lf,kv,vv,iv]∧Dh d kv ks∧Dh d vv vs∧DS d iv is:=hn;refine AG hd (Aea Z) ?_;have hv':=hv;have hiv':=hiv;obtain⟨ka,kc,kb,ko,rfl,kA,kS,kN,kl,km,kB,kx⟩:=hk;show gwp P _ _ _ _ _;(refine Ad<|Ck Z (fun _ _=>Ae Z<|Aa<|Ag<|Ad<|Ai Z<|Ah Z (Al 0 Z Z)<|AI Z<|Ab Z<|Aa<|Ax ?_));rename_i b T;refine Dd (α:=Nat) (fun k=>[(1,pZ b),(6,.slice ka ks.length kc),(7,vZ ks.length),(8,vZ k)])
  (fun _=>[bx b T [.bool lf,.slice ka ks.length kc,vv,iv]]) (fun k=>k≤ks.length∧DE ks k=true) (fun k=>ks.length - k) 0 ⟨Z,Z,Z,Z,trivial⟩ Z ⟨Aez _,Z⟩ ?_
 rintro k ρ ⟨hle,hok⟩;by_cases h:k<ks.length
 ·obtain⟨c0,hc0,hD0,⟨u0,rfl,hu0⟩⟩:=kx k h;replace hD0:=hD0.one;have hkl:ks.getD k []=ks[k]:=by simp[h]
  have hnext:kOk ks k=true→∃x',ks.length - x'<ks.length - k∧x'=k+1∧(x'≤ks.length∧DE ks x'=true):=fun hk=>⟨k+1,by omega,Z,by omega,by simp[DE,hok,hk]⟩
  by_cases h1':ks[k].length<1
  ·have hf:kOk ks k=false:=by rw[kOk,hkl];simp;omega
   (refine Ad<|AB Z Z<|Aa<|Ag<|Aw Z (by omega)<|Ak<|Ag<|Ax<|Ad<|Ab Z ?_;apply BL;rfl;rfl;rfl;omega;assumption;refine Ah Z (BB (by assumption))<|Ab Z<|AR<|Aa<|Ad<|AR<|BI Z (by assumption)<|AB Z Z<|Ae Z<|A8 Z (by omega)<|An Z<|An Z<|An Z<|Ay Z Z<|Ae Z<|An Z<|An Z<|An Z<|B1 Z<|B1 Z<|B1 Z<|B1 Z<|B1 Z<|B1 Z<|B1 Z<|B1 Z<|B1 Z<|An Z<|Ay Z Z<|Aa<|Bc Z<|Ad<|Ae Z<|Aa<|Ap ?_);(apply EG;rfl);simp[Ba,IX hf h]
  ·by_cases h2':ks[k].length>64
   ·have hf:kOk ks k=false:=by rw[kOk,hkl];simp;omega
    (refine Ad<|AB Z Z<|Aa<|Ag<|Aw Z (by omega)<|Ak<|Ag<|Ax<|Ad<|Ab Z ?_;apply BL;rfl;rfl;rfl;omega;assumption;refine Ah Z (BB (by assumption))<|Ab Z<|AR<|Aa<|Ad<|AR<|BI Z (by assumption)<|AB Z Z<|Ae Z<|A3 Z (by omega)<|Af Z<|AR<|Af Z<|BI Z (by assumption)<|Af Z<|Bx Z Z<|Au Z Z<|Ae Z<|A8 Z (by omega)<|An Z<|An Z<|An Z<|B1 Z<|B1 Z<|B1 Z<|B1 Z<|B1 Z<|B1 Z<|B1 Z<|B1 Z<|B1 Z<|An Z<|Ay Z Z<|Aa<|Bc Z<|Ad<|Ae Z<|Aa<|Ap ?_);(apply EG;rfl);simp[Ba,IX hf h]
   ·cases k with
    |zero=>
     (refine Ad<|AB Z Z<|Aa<|Ag<|Aw Z (by omega)<|Ak<|Ag<|Ax<|Ad<|Ab Z ?_;apply BL;rfl;rfl;rfl;omega;assumption;refine Ah Z (BB (by assumption))<|Ab Z<|AR<|Aa<|Ad<|AR<|BI Z (by assumption)<|AB Z Z<|Ae Z<|A3 Z (by omega)<|Af Z<|AR<|Af Z<|BI Z (by assumption)<|Af Z<|Bx Z Z<|Au Z Z<|Ae Z<|A3 Z (by omega)<|Af Z<|Ab Z<|Af Z<|Bx Z Z<|Af Z<|Ae Z<|An Z<|An Z<|An Z<|An Z<|An Z<|An Z<|An Z<|An Z<|An Z<|Af Z<|Au Z Z<|Au Z Z<|Aa<|AS Z<|Ak<|AE<|AM Z Z (by omega) (by omega)<|Ab Z<|Aa ?_)
     obtain⟨x',e1,rfl,e2⟩:=hnext (by rw[kOk,hkl];simp;omega)
     exact⟨_,e1,⟨Z,Z,Z,int_eq (by omega),trivial⟩,Z,Z,e2⟩
    |succ j=>
     obtain⟨c1,hc1,hD1,⟨u1,rfl,hu1⟩⟩:=kx j (by omega)
     replace hD1:=hD1.one
     have hjl:ks.getD j []=ks[j]:=by simp[show j<ks.length by omega]
     have hc:=Ja ks[j] ks[j+1]
     cases hb:Op.bytesLess ks[j] ks[j+1] with
     |true=>
      have hb':Lib.compareBytes ks[j] ks[j+1]<0:=hc.2 hb
      (refine Ad<|AB Z Z<|Aa<|Ag<|Aw Z (by omega)<|Ak<|Ag<|Ax<|Ad<|Ab Z ?_;apply BL;rfl;rfl;rfl;omega;assumption;refine Ah Z (BB (by assumption))<|Ab Z<|AR<|Aa<|Ad<|AR<|BI Z (by assumption)<|AB Z Z<|Ae Z<|A3 Z (by omega)<|Af Z<|AR<|Af Z<|BI Z (by assumption)<|Af Z<|Bx Z Z<|Au Z Z<|Ae Z<|A3 Z (by omega)<|Af Z<|Ab Z<|Af Z<|Bx Z Z<|Af Z<|Ae Z<|A8 Z (by omega)<|Af Z<|Ai Z<|Af Z<|Ah Z (Al 0 Z Z)<|Af Z<|Ab Z<|Af Z<|CV Z Z (by omega) (by omega)<|Af Z ?_)
      refine BL j Z Z (by omega) (by omega) kA ?_
      (refine Af Z<|Ah Z (BB (by assumption))<|Af Z<|AR<|Af Z ?_)
      refine BE Z (h1 hu1 hu0) ?_
      (refine Af Z<|Da Z Z<|Af Z<|Ay Z Z<|Au Z Z<|Aa<|Ar Z (by omega)<|Ak<|AE<|AM Z Z (by omega) (by omega)<|Ab Z<|Aa ?_)
      obtain⟨x',e1,rfl,e2⟩:=hnext (by rw[kOk,hkl,Agv,hjl,hb];simp;omega)
      exact⟨_,e1,⟨Z,Z,Z,int_eq (by omega),trivial⟩,Z,Z,e2⟩
     |false=>
      have hb':¬Lib.compareBytes ks[j] ks[j+1]<0:=fun h0=>by rw[hc.1 h0] at hb;cases hb
      have hf:kOk ks (j+1)=false:=by rw[kOk,hkl,Agv,hjl,hb];simp
      (refine Ad<|AB Z Z<|Aa<|Ag<|Aw Z (by omega)<|Ak<|Ag<|Ax<|Ad<|Ab Z ?_;apply BL;rfl;rfl;rfl;omega;assumption;refine Ah Z (BB (by assumption))<|Ab Z<|AR<|Aa<|Ad<|AR<|BI Z (by assumption)<|AB Z Z<|Ae Z<|A3 Z (by omega)<|Af Z<|AR<|Af Z<|BI Z (by assumption)<|Af Z<|Bx Z Z<|Au Z Z<|Ae Z<|A3 Z (by omega)<|Af Z<|Ab Z<|Af Z<|Bx Z Z<|Af Z<|Ae Z<|A8 Z (by omega)<|Af Z<|Ai Z<|Af Z<|Ah Z (Al 0 Z Z)<|Af Z<|Ab Z<|Af Z<|CV Z Z (by omega) (by omega)<|Af Z ?_)
      refine BL j Z Z (by omega) (by omega) kA ?_
      (refine Af Z<|Ah Z (BB (by assumption))<|Af Z<|AR<|Af Z ?_)
      refine BE Z (h1 hu1 hu0) ?_
      (refine Af Z<|Da Z Z<|Af Z<|Ay Z Z<|Au Z Z<|Aa<|Aw Z (by omega)<|Ad<|Ae Z<|Aa<|Ap ?_)
      (apply EG;rfl)
      simp[Ba,IX hf h]
 ·have e:k=ks.length:=by omega
  subst e;have ea:∀l:List (List UInt8),(!l.any fun v=> !Ii v)=l.all Ii:=fun l=>by simp[List.any_eq_not_all_not]
  have ei:∀l:List Int,(!l.any fun v=> !Gt v)=l.all Gt:=fun l=>by simp[List.any_eq_not_all_not]
  cases lf
  ·by_cases h1':vs.length=0
   ·by_cases h2':is.length=ks.length+1
    ·refine Ad<|AB Z Z<|Aa<|Ag<|Ar Z (by omega)<|Bd<|Ag<|Ad<|Ai Z<|Ah Z (Al 0 Z Z)<|Aa<|AS Z<|Ak<|Ad<|Ai Z<|Ah Z (Al 0 Z Z)<|BI Z (by assumption)<|AN Z Z<|Ae Z<|A8 Z (by omega)<|Af Z<|Ai Z<|Af Z<|Ah Z (Al 0 Z Z)<|Af Z<|BI Z (by assumption)<|Af Z<|Ai Z<|Af Z<|Ah Z (Al 0 Z Z)<|Af Z<|AI Z<|Af Z<|AM Z Z (by omega) (by omega)<|Af Z<|AN Z Z<|Ay Z Z<|Ae Z<|A8 Z (by omega)<|Af Z<|Ai Z<|Af Z<|Ah Z (Al 0 Z Z)<|Af Z<|BE Z (h4 hiv' (fun u x hx=>Zn h5 hx)) ?_;(refine Af Z<|Bn Z<|Ay Z Z<|Ae Z<|Aa<|Ap ?_);(apply EG;rfl);rw[ei];simp[Ba,hok,h1',h2']
    ·(refine Ad<|AB Z Z<|Aa<|Ag<|Ar Z (by omega)<|Bd<|Ag<|Ad<|Ai Z<|Ah Z (Al 0 Z Z)<|Aa<|AS Z<|Ak<|Ad<|Ai Z<|Ah Z (Al 0 Z Z)<|BI Z (by assumption)<|AN Z Z<|Ae Z<|A8 Z (by omega)<|Af Z<|Ai Z<|Af Z<|Ah Z (Al 0 Z Z)<|Af Z<|BI Z (by assumption)<|Af Z<|Ai Z<|Af Z<|Ah Z (Al 0 Z Z)<|Af Z<|AI Z<|Af Z<|AM Z Z (by omega) (by omega)<|Af Z<|AN Z Z<|Ay Z Z<|Ae Z<|A3 Z (by omega)<|An Z<|An Z<|An Z<|An Z<|Au Z Z<|Ae Z<|Aa<|Ap ?_);(apply EG;rfl);(first|(simp[Ba,hok,h1',h2'];done)|(simp[Ba,hok,h1',h2'];omega))
   ·(refine Ad<|AB Z Z<|Aa<|Ag<|Ar Z (by omega)<|Bd<|Ag<|Ad<|Ai Z<|Ah Z (Al 0 Z Z)<|Aa<|AS Z<|Ak<|Ad<|Ai Z<|Ah Z (Al 0 Z Z)<|BI Z (by assumption)<|AN Z Z<|Ae Z<|A3 Z (by omega)<|An Z<|An Z<|An Z<|An Z<|An Z<|An Z<|An Z<|An Z<|Au Z Z<|Ae Z<|An Z<|An Z<|An Z<|An Z<|Au Z Z<|Ae Z<|Aa<|Ap ?_);(apply EG;rfl);(first|(simp[Ba,hok,h1'];done)|(simp[Ba,hok,h1'];omega))
  ·by_cases h2':vs.length=ks.length
   ·by_cases h1':is.length=0
    ·refine Ad<|AB Z Z<|Aa<|Ag<|Ar Z (by omega)<|Bd<|Ag<|Ad<|Ai Z<|Ah Z (Al 0 Z Z)<|Aa<|Bc Z<|Ad<|Ai Z<|Ah Z (Al 0 Z Z)<|BI Z (by assumption)<|Ai Z<|Ah Z (Al 0 Z Z)<|AI Z<|AN Z Z<|Ae Z<|A8 Z (by omega)<|Af Z<|Ai Z<|Af Z<|Ah Z (Al 0 Z Z)<|Af Z<|BI Z (by assumption)<|Af Z<|AN Z Z<|Ay Z Z<|Ae Z<|A8 Z (by omega)<|Af Z<|Ai Z<|Af Z<|Ah Z (Al 0 Z Z)<|Af Z<|BE Z (h2 hv' (fun u x hx=>YU h3 hx)) ?_;(refine Af Z<|Bn Z<|Ay Z Z<|Ae Z<|Aa<|Ap ?_);(apply EG;rfl);rw[ea];simp[Ba,hok,h1',h2']
    ·(refine Ad<|AB Z Z<|Aa<|Ag<|Ar Z (by omega)<|Bd<|Ag<|Ad<|Ai Z<|Ah Z (Al 0 Z Z)<|Aa<|Bc Z<|Ad<|Ai Z<|Ah Z (Al 0 Z Z)<|BI Z (by assumption)<|Ai Z<|Ah Z (Al 0 Z Z)<|AI Z<|AN Z Z<|Ae Z<|A8 Z (by omega)<|Af Z<|Ai Z<|Af Z<|Ah Z (Al 0 Z Z)<|Af Z<|BI Z (by assumption)<|Af Z<|AN Z Z<|Ay Z Z<|Ae Z<|A3 Z (by omega)<|An Z<|An Z<|An Z<|An Z<|Au Z Z<|Ae Z<|Aa<|Ap ?_);(apply EG;rfl);(first|(simp[Ba,hok,h1',h2'];done)|(simp[Ba,hok,h1',h2'];omega))
   ·(refine Ad<|AB Z Z<|Aa<|Ag<|Ar Z (by omega)<|Bd<|Ag<|Ad<|Ai Z<|Ah Z (Al 0 Z Z)<|Aa<|Bc Z<|Ad<|Ai Z<|Ah Z (Al 0 Z Z)<|BI Z (by assumption)<|Ai Z<|Ah Z (Al 0 Z Z)<|AI Z<|AN Z Z<|Ae Z<|A3 Z (by omega)<|An Z<|An Z<|An Z<|An Z<|Au Z Z<|Ae Z<|An Z<|An Z<|An Z<|An Z<|Au Z Z<|Ae Z<|Aa<|Ap ?_);(apply EG;rfl);(first|(simp[Ba,hok,h2'];done)|(simp[Ba,hok,h2'];omega))
def Bp(n:AK):Bool:=Ba n && decide (A9 n≤256)
def Hh(P:Program)(f:FuncId):Prop:=∀{d cs}{n:AK},Cj d cs n→A9 n≤1000000000000→CP P f [.agg cs.toArray] d (.bool (Bp n))
def Vg(a0 a1:Nat):A0:=⟨10,[(.tmp 2)],(sR (o1 1 (.box 0)<|o1 2 (.mv (.const (.bool false))) .done) (sR (o1 3 (.ld (some 4) 1)<|oc 4 a0 [3]<|om 5 4<|oT 6 5 (.ld (some 4) 1)<|oT 7 5 (.call a1 [6])<|oT 8 5 (.bin .leq 7 (kZ 256))<|gP 9 5 8<|om 2 9 .done) .ret))⟩
def Jb{f2}(hd:dec P f=some (Vg f1 f2))(h1:JZ P f1)(h2:Kl P f2):Hh P f:=by
 intro d cs n hn hb;refine AG hd (Aea Z) ?_;have hn':=hn;obtain⟨kv,vv,iv,rfl,hk,hv,hiv⟩:∃kv vv iv,cs=[.bool n.leaf,kv,vv,iv]∧Dh d kv n.keys∧Dh d vv n.vals∧DS d iv n.kids:=hn;show gwp P _ _ _ _ _;(refine Ad<|Ck Z (fun _ _=>Ae Z<|Aa<|Ad<|Bf 0 Z Z Z ?_));refine BE Z (h1 hn') ?_;cases hs:Ba n with
 |false=>
  (refine Ae Z<|An Z<|An Z<|An Z<|Au Z Z<|Ae Z<|Aa<|Ap ?_)
  (apply EG;rfl)
  simp[Bp,hs]
 |true=>
  (refine Ae Z<|Af Z<|Bf 0 Z Z Z<|Af Z ?_)
  refine BE Z (h2 hn' hb) ?_
  (refine Af Z<|Ga Z Z<|Ay Z Z<|Ae Z<|Aa<|Ap ?_)
  (apply EG;rfl)
  (rw[Ajb];simp[Bp,hs];omega)
def I9{α:Type}{p:α→Bool}:∀{l:List α}{i:Nat},i≤l.length→(∀j (h:j<l.length),j<i→p l[j]=true)→(∀h:i<l.length,p l[i]=false)→(l.takeWhile p).length=i
 |[],i,hi,_,_=>by simp at hi;subst hi;rfl
 |a::l,0,_,_,h=>by
  have:=h (by simp);simp at this;simp[List.takeWhile,this]
 |a::l,i+1,hi,h1,h2=>by
  have ha:p a=true:=h1 0 (by simp) (by omega);have:=I9 (p:=p) (l:=l) (i:=i) (by simpa using hi) (fun j h hj=>by have:=h1 (j+1) (by simpa using h) (by omega);simpa using this) (fun h=>by have:=h2 (by simpa using h);simpa using this);simp[List.takeWhile,ha,this]
def Abm{p:α→Bool}:∀{l:List α}{j:Nat}(hj:j<l.length),j<(l.takeWhile p).length→p l[j]=true
 |[],j,hj,_=>by simp at hj
 |a::l,j,hj,h=>by
  simp only[List.takeWhile_cons] at h;by_cases ha:p a=true
  ·cases j with
   |zero=>exact ha
   |succ j=>simp only[ha,if_true,Aep] at h;exact Abm (l:=l) (by simpa using hj) (by omega)
  ·simp[ha] at h
def WA{p:α→Bool}:∀{l:List α}{i:Nat}(_:i=(l.takeWhile p).length) (hi:i<l.length),p l[i]=false
 |[],i,_,hi=>by simp at hi
 |a::l,i,e,hi=>by
  simp only[List.takeWhile_cons] at e;by_cases ha:p a=true
  ·simp only[ha,if_true,Aep] at e;subst e;exact WA (l:=l) Z (by simpa using hi)
  ·simp[ha] at e;subst e;simpa using ha
def SW{α:Type}{p:α→Bool}:∀(l:List α),(l.takeWhile p).length≤l.length
 |[]=>by simp
 |a::l=>by
  simp only[List.takeWhile];split
  ·have:=SW (p:=p) l;simp;omega
  ·simp
def Rh{α:Type}{p:α→Bool}(x:α):∀(l:List α),((l++[x]).takeWhile p).length=if (l.takeWhile p).length=l.length∧p x=true then l.length+1 else(l.takeWhile p).length
 |[]=>by cases h:p x<;>simp[List.takeWhile,h]
 |a::l=>by
  have ih:=Rh (p:=p) x l;simp only[List.cons_append,List.takeWhile_cons];by_cases h:p a=true
  ·simp only[h,if_true,Aep,ih,Nat.add_right_cancel_iff];split<;>rfl
  ·simp[h]
def leB(a b:List UInt8):Bool:=Op.bytesLess a b||decide (a=b)
def Ki(P:Program)(f:FuncId):Prop:=∀{d u v a b},AJ d u a→AJ d v b→CP P f [u,v] d (.bool (decide (a=b)))
def Sx:A0:=⟨10,[(.tmp 4)],(sR (o1 4 (.mv (.const (.bool false))) .done) (sR (om 5 0<|o1 6 (.b2s 5)<|om 7 1<|o1 8 (.b2s 7)<|ob 9 .eql 6 8<|om 4 9 .done) .ret))⟩
def U6(hd:dec P f=some Sx):Ki P f:=by
 intro d u v a b hu hv;refine AG hd (Aea Z) ?_;show gwp P _ _ _ _ _;(refine Ad<|Ae Z<|Aa<|Ad<|AR<|Bj Z (by assumption)<|AR<|Bj Z (by assumption)<|Jm Z Z<|Ae Z<|Aa<|Ap ?_);(apply EG;rfl);rfl
def low(n:AK)(key:List UInt8):Nat:=(n.keys.takeWhile (Op.bytesLess · key)).length
def findD(n:AK)(key:List UInt8):Nat×Bool:=
 if n.leaf then(low n key,decide (low n key<n.keys.length)&& decide (n.keys.getD (low n key) []=key)) else(low n key+((n.keys.drop (low n key)).takeWhile (fun k=>decide (k=key))).length,false)
def Gi(n:AK)(key:List UInt8):Nat×Bool:=
 if n.leaf then(low n key,decide (low n key<n.keys.length)&& decide (n.keys.getD (low n key) []=key)) else((n.keys.takeWhile (leB · key)).length,false)
def HR(P:Program)(f:FuncId)(F:AK→List UInt8→Nat×Bool):Prop:=∀{d cs}{n:AK}{v key},Cj d cs n→AJ d v key→
 CP P f [.agg cs.toArray,v] d (.tuple #[vZ (F n key).1,.bool (F n key).2])
def VS(a0 a1:Nat):A0:=⟨60,[(.tmp 4),(.tmp 5)],(sR (o1 2 (.box 0)<|o1 4 (.mv z0)<|o1 5 (.mv (.const (.bool false))) .done) (sR (o1 6 (.mv z0) .done) (.seq (.block 0 (.loop (.seq (sR (om 8 6<|oj 9 1 2<|ol 10 9<|oL 11 10<|ob 12 .lss 8 11<|om 13 12<|oT 14 13 (.fld 1 2)<|oT 15 13 (.ld none 14)<|gT 16 13 6<|oT 17 13 (.idx 1 15 16)<|oT 18 13 (.ld none 17)<|gT 19 13 1<|oT 20 13 (.call a0 [18,19])<|oT 21 13 (.bin .lss 20 z0)<|gP 22 13 21 .done) (.cond 22 .skip (.exit 0))) (.block 1 (rG (om 23 6<|ob 24 .add 23 z1<|om 6 24 .done)))))) (sR (om 25 6<|oj 26 1 2<|ol 27 26<|oL 28 27<|ob 29 .lss 25 28<|om 30 29<|oT 31 30 (.fld 1 2)<|oT 32 30 (.ld none 31)<|gT 33 30 6<|oT 34 30 (.idx 1 32 33)<|oT 35 30 (.ld none 34)<|gT 36 30 1<|oT 37 30 (.call a1 [35,36])<|gP 38 30 37<|om 7 38 .done) (.seq (sR (oj 39 0 2<|ol 40 39 .done) (.cond 40 (sR (om 41 6<|om 42 7<|om 4 41<|om 5 42 .done) .ret) .skip)) (.seq (.block 2 (.loop (.seq (sR (om 43 6<|oj 44 1 2<|ol 45 44<|oL 46 45<|ob 47 .lss 43 46<|om 48 47<|oT 49 48 (.fld 1 2)<|oT 50 48 (.ld none 49)<|gT 51 48 6<|oT 52 48 (.idx 1 50 51)<|oT 53 48 (.ld none 52)<|gT 54 48 1<|oT 55 48 (.call a1 [53,54])<|gP 56 48 55 .done) (.cond 56 .skip (.exit 2))) (.block 3 (rG (om 57 6<|ob 58 .add 57 z1<|om 6 58 .done)))))) (sR (om 59 6<|om 4 59<|o1 5 (.mv (.const (.bool false))) .done) .ret)))))))⟩
def WT{f2}(hd:dec P f=some (VS f1 f2))(h1:F4 P f1)(h2:Ki P f2):HR P f findD:=by
 intro d cs n v key hn hkey;obtain⟨lf,ks,vs,is⟩:=n;obtain⟨kv,vv,iv,rfl,hk,hv,hiv⟩:∃kv vv iv,cs=[.bool lf,kv,vv,iv]∧Dh d kv ks∧Dh d vv vs∧DS d iv is:=hn;refine AG hd (Aea Z) ?_;obtain⟨ka,kc,kb,ko,rfl,kA,kS,kN,kl,km,kB,kx⟩:=hk;show gwp P _ _ _ _ _;(refine Ad<|Ck Z (fun _ _=>Ab Z<|Ae Z<|Aa<|Ad<|Ab Z<|Aa<|Ag<|Ax ?_));rename_i b T;refine Dd (α:=Nat) (fun k=>[(1,v),(2,pZ b),(6,vZ k)])
  (fun _=>[bx b T [.bool lf,.slice ka ks.length kc,vv,iv]]) (fun k=>k≤ks.length∧∀j (h:j<ks.length),j<k→Op.bytesLess ks[j] key=true) (fun k=>ks.length - k) 0 ⟨Z,Z,Z,trivial⟩ Z ⟨Aez _,fun j _ h=>by omega⟩ ?_
 rintro k ρ ⟨hle,hlt⟩;have hstop:(∀h:k<ks.length,Op.bytesLess ks[k] key=false)→low ⟨lf,ks,vs,is⟩ key=k:=fun h=>I9 hle hlt h;by_cases h:k<ks.length
 ·obtain⟨c0,hc0,hD0,⟨u0,rfl,hu0⟩⟩:=kx k h;replace hD0:=hD0.one;have hc:=Ja ks[k] key;cases hb:Op.bytesLess ks[k] key with
  |true=>
   have hb':Lib.compareBytes ks[k] key<0:=hc.2 hb
   (refine Ag<|Ad<|Ab Z<|Ai Z<|Ah Z (Al 0 Z Z)<|AI Z<|AB Z Z<|Ae Z<|A8 Z (by omega)<|Af Z<|Ai Z<|Af Z<|Ah Z (Al 0 Z Z)<|Af Z<|Ab Z<|Af Z ?_;apply BL;rfl;rfl;rfl;omega;assumption;refine Af Z<|Ah Z (BB (by assumption))<|Af Z<|AR<|Af Z ?_)
   refine BE Z (h1 hu0 hkey) ?_
   (refine Af Z<|AB Z Z<|Ay Z Z<|Aa<|Aw Z (by omega)<|Ak<|Ax<|AE<|Ab Z<|AM Z Z (by omega) (by omega)<|Ab Z<|Aa ?_)
   refine⟨k+1,by omega,⟨Z,Z,int_eq (by omega),trivial⟩,Z,Z,by omega,fun j hj hjk=>?_⟩
   by_cases e:j=k
   ·subst e;exact hb
   ·exact hlt j hj (by omega)
  |false=>
   have hb':¬Lib.compareBytes ks[k] key<0:=fun h0=>by rw[hc.1 h0] at hb;cases hb
   have hl:=hstop (fun _=>hb)
   cases lf
   ·(refine Ag<|Ad<|Ab Z<|Ai Z<|Ah Z (Al 0 Z Z)<|AI Z<|AB Z Z<|Ae Z<|A8 Z (by omega)<|Af Z<|Ai Z<|Af Z<|Ah Z (Al 0 Z Z)<|Af Z<|Ab Z<|Af Z ?_;apply BL;rfl;rfl;rfl;omega;assumption;refine Af Z<|Ah Z (BB (by assumption))<|Af Z<|AR<|Af Z ?_)
    refine BE Z (h1 hu0 hkey) ?_
    (refine Af Z<|AB Z Z<|Ay Z Z<|Aa<|Ar Z (by omega)<|Bd<|Ad<|Ab Z<|Ai Z<|Ah Z (Al 0 Z Z)<|AI Z<|AB Z Z<|Ae Z<|A8 Z (by omega)<|Af Z<|Ai Z<|Af Z<|Ah Z (Al 0 Z Z)<|Af Z<|Ab Z<|Af Z ?_;apply BL;rfl;rfl;rfl;omega;assumption;refine Af Z<|Ah Z (BB (by assumption))<|Af Z<|AR<|Af Z ?_)
    refine BE Z (h2 hu0 hkey) ?_
    (refine Ay Z Z<|Ae Z<|Aa<|Ag<|Ad<|Ai Z<|Ah Z (Al 0 Z Z)<|Aa<|AS Z<|Ak<|Ag<|Ax ?_)
    refine Dd (α:=Nat) (fun j=>[(1,v),(2,pZ b),(6,vZ j)])
     (fun _=>[bx b T [.bool false,.slice ka ks.length kc,vv,iv]]) (fun j=>k≤j∧j≤ks.length∧∀m (h:m<ks.length),k≤m→m<j→ks[m]=key) (fun j=>ks.length - j) k ⟨Z,Z,int_eq (by omega),trivial⟩ Z ⟨Aef _,by omega,fun m _ h1 h2=>by omega⟩ ?_
    rintro j ρ ⟨hkj,hjl,hje⟩
    have hfin:(∀h:j<ks.length,¬ks[j]=key)→findD ⟨false,ks,vs,is⟩ key=(j,false):=fun hs=>by
     have:((ks.drop k).takeWhile (fun k=>decide (k=key))).length=j - k:=I9 (by simp;omega) (fun m hm hmj=>by
      have:=hje (k+m) (by simp at hm;omega) (by omega) (by omega);simpa using this) (fun hm=>by
      have:=hs (by simp at hm;omega);simp only[Ajc,show k+(j - k)=j by omega];simpa using this)
     simp only[findD,hl,Aeh,if_false,this];rw[show k+(j - k)=j by omega]
    by_cases h7:j<ks.length
    ·obtain⟨c1,hc1,hD1,⟨u1,rfl,hu1⟩⟩:=kx j h7
     replace hD1:=hD1.one
     by_cases h8:ks[j]=key
     ·have h9:decide (ks[j]=key)=true:=by simp[h8]
      (refine Ag<|Ad<|Ab Z<|Ai Z<|Ah Z (Al 0 Z Z)<|AI Z<|AB Z Z<|Ae Z<|A8 Z (by omega)<|Af Z<|Ai Z<|Af Z<|Ah Z (Al 0 Z Z)<|Af Z<|Ab Z<|Af Z ?_;apply BL;rfl;rfl;rfl;omega;assumption;refine Af Z<|Ah Z (BB (by assumption))<|Af Z<|AR<|Af Z ?_)
      refine BE Z (h2 hu1 hkey) ?_
      (refine Ay Z Z<|Aa<|Aw Z (by omega)<|Ak<|Ax<|AE<|Ab Z<|AM Z Z (by omega) (by omega)<|Ab Z<|Aa ?_)
      refine⟨j+1,by omega,⟨Z,Z,int_eq (by omega),trivial⟩,Z,Z,by omega,by omega,fun m hm h1' h2'=>?_⟩
      by_cases e:m=j
      ·subst e;exact h8
      ·exact hje m hm h1' (by omega)
     ·have h9:decide (ks[j]=key)=false:=by simp[h8]
      (refine Ag<|Ad<|Ab Z<|Ai Z<|Ah Z (Al 0 Z Z)<|AI Z<|AB Z Z<|Ae Z<|A8 Z (by omega)<|Af Z<|Ai Z<|Af Z<|Ah Z (Al 0 Z Z)<|Af Z<|Ab Z<|Af Z ?_;apply BL;rfl;rfl;rfl;omega;assumption;refine Af Z<|Ah Z (BB (by assumption))<|Af Z<|AR<|Af Z ?_)
      refine BE Z (h2 hu1 hkey) ?_
      (refine Ay Z Z<|Aa<|Ar Z (by omega)<|Bd<|Ad<|Ab Z<|Ab Z<|Ae Z<|Aa<|Ap ?_)
      refine SG Z Z ⟨?_,Z,Z⟩
      (rw[hfin (fun _=>h8)];rfl)
    ·have e':j=ks.length:=by omega
     subst e'
     (refine Ag<|Ad<|Ab Z<|Ai Z<|Ah Z (Al 0 Z Z)<|AI Z<|AB Z Z<|Ae Z<|A3 Z (by omega)<|An Z<|An Z<|An Z<|An Z<|An Z<|An Z<|An Z<|Au Z Z<|Aa<|AS Z<|Bd<|Ad<|Ab Z<|Ab Z<|Ae Z<|Aa<|Ap ?_)
     refine SG Z Z ⟨?_,Z,Z⟩
     (rw[hfin (fun h=>absurd h (Nat.lt_irrefl _))];rfl)
   ·(refine Ag<|Ad<|Ab Z<|Ai Z<|Ah Z (Al 0 Z Z)<|AI Z<|AB Z Z<|Ae Z<|A8 Z (by omega)<|Af Z<|Ai Z<|Af Z<|Ah Z (Al 0 Z Z)<|Af Z<|Ab Z<|Af Z ?_;apply BL;rfl;rfl;rfl;omega;assumption;refine Af Z<|Ah Z (BB (by assumption))<|Af Z<|AR<|Af Z ?_)
    refine BE Z (h1 hu0 hkey) ?_
    (refine Af Z<|AB Z Z<|Ay Z Z<|Aa<|Ar Z (by omega)<|Bd<|Ad<|Ab Z<|Ai Z<|Ah Z (Al 0 Z Z)<|AI Z<|AB Z Z<|Ae Z<|A8 Z (by omega)<|Af Z<|Ai Z<|Af Z<|Ah Z (Al 0 Z Z)<|Af Z<|Ab Z<|Af Z ?_;apply BL;rfl;rfl;rfl;omega;assumption;refine Af Z<|Ah Z (BB (by assumption))<|Af Z<|AR<|Af Z ?_)
    refine BE Z (h2 hu0 hkey) ?_
    (refine Ay Z Z<|Ae Z<|Aa<|Ag<|Ad<|Ai Z<|Ah Z (Al 0 Z Z)<|Aa<|Bc Z<|Ad<|Ab Z<|Ae Z<|Ab Z<|Ae Z<|Aa<|Ap ?_)
    apply J5
    rfl
    rfl
    ·simp[findD,hl]
    ·simp[findD,hl,h]
 ·have e:k=ks.length:=by omega
  subst e;have hl:=hstop (fun h=>absurd h (Nat.lt_irrefl _));cases lf
  ·refine Ag<|Ad<|Ab Z<|Ai Z<|Ah Z (Al 0 Z Z)<|AI Z<|AB Z Z<|Ae Z<|A3 Z (by omega)<|An Z<|An Z<|An Z<|An Z<|An Z<|An Z<|An Z<|An Z<|Au Z Z<|Aa<|AS Z<|Bd<|Ad<|Ab Z<|Ai Z<|Ah Z (Al 0 Z Z)<|AI Z<|AB Z Z<|Ae Z<|A3 Z (by omega)<|An Z<|An Z<|An Z<|An Z<|An Z<|An Z<|An Z<|Au Z Z<|Ae Z<|Aa<|Ag<|Ad<|Ai Z<|Ah Z (Al 0 Z Z)<|Aa<|AS Z<|Ak<|Ag<|Ax<|Dd (α:=Unit) (fun j=>[(1,v),(2,pZ b),(6,vZ ks.length)])
    (fun _=>[bx b T [.bool false,.slice ka ks.length kc,vv,iv]]) (fun _=>True) (fun _=>0) () ⟨Z,Z,Z,trivial⟩ Z trivial ?_
   intro _ ρ _;(refine Ag<|Ad<|Ab Z<|Ai Z<|Ah Z (Al 0 Z Z)<|AI Z<|AB Z Z<|Ae Z<|A3 Z (by omega)<|An Z<|An Z<|An Z<|An Z<|An Z<|An Z<|An Z<|Au Z Z<|Aa<|AS Z<|Bd<|Ad<|Ab Z<|Ab Z<|Ae Z<|Aa<|Ap ?_);apply J5;rfl;rfl
   ·simp[findD,hl]
   ·simp[findD,hl]
  ·(refine Ag<|Ad<|Ab Z<|Ai Z<|Ah Z (Al 0 Z Z)<|AI Z<|AB Z Z<|Ae Z<|A3 Z (by omega)<|An Z<|An Z<|An Z<|An Z<|An Z<|An Z<|An Z<|An Z<|Au Z Z<|Aa<|AS Z<|Bd<|Ad<|Ab Z<|Ai Z<|Ah Z (Al 0 Z Z)<|AI Z<|AB Z Z<|Ae Z<|A3 Z (by omega)<|An Z<|An Z<|An Z<|An Z<|An Z<|An Z<|An Z<|Au Z Z<|Ae Z<|Aa<|Ag<|Ad<|Ai Z<|Ah Z (Al 0 Z Z)<|Aa<|Bc Z<|Ad<|Ab Z<|Ae Z<|Ab Z<|Ae Z<|Aa<|Ap ?_);apply J5;rfl;rfl
   ·simp[findD,hl]
   ·simp[findD,hl]
def LW:A0:=⟨70,[(.tmp 4),(.tmp 5)],(sR (o1 2 (.box 0)<|o1 4 (.mv z0)<|o1 5 (.mv (.const (.bool false))) .done) (sR (o1 6 (.mv z0) .done) (sR (o1 7 (.mv z0) .done) (sR (o1 8 (.mv (.const (.bool false))) .done) (.seq (sR (o1 9 (.mv z0) .done) (.block 0 (.loop (.seq (sR (om 10 9<|oj 11 1 2<|ol 12 11<|oL 13 12<|ob 14 .lss 10 13 .done) (.cond 14 .skip (.exit 0))) (.seq (.block 1 (.seq (.seq (.reg true (p1 17 (.fld 1 2)<|pl 18 17<|pm 19 9<|p1 20 (.idx 1 18 19)<|pl 21 20<|p1 22 (.b2s 21)<|pm 23 1<|p1 24 (.b2s 23)<|p1 25 (.bin .lss 22 24)<|pm 26 25 (.op true ⟨(some 27),(some (26,true)),(.mv 6)⟩ (.op true ⟨(some 28),(some (26,true)),(.mv 9)⟩ (.op true ⟨(some 29),(some (26,true)),(.bin .eql 27 28)⟩ (p1 30 (.pick 26 29 (.const (.bool false))) .done)))))) (.cond 30 (rG (om 31 6<|ob 32 .add 31 z1<|om 6 32 .done)) .skip)) (.seq (.reg true (p1 33 (.fld 1 2)<|pl 34 33<|pm 35 9<|p1 36 (.idx 1 34 35)<|pl 37 36<|p1 38 (.b2s 37)<|pm 39 1<|p1 40 (.b2s 39)<|p1 41 (.bin .leq 38 40)<|pm 42 41 (.op true ⟨(some 43),(some (42,true)),(.mv 7)⟩ (.op true ⟨(some 44),(some (42,true)),(.mv 9)⟩ (.op true ⟨(some 45),(some (42,true)),(.bin .eql 43 44)⟩ (p1 46 (.pick 42 45 (.const (.bool false))) .done)))))) (.cond 46 (rG (om 47 7<|ob 48 .add 47 z1<|om 7 48 .done)) .skip)))) (rG (om 15 9<|ob 16 .add 15 z1<|om 9 16 .done))))))) (.seq (sR (oj 49 0 2<|ol 50 49 .done) (.cond 50 (.seq (.reg true (pm 51 6<|p1 52 (.fld 1 2)<|pl 53 52<|p1 54 (.len 53)<|p1 55 (.bin .lss 51 54)<|pm 56 55 (.op true ⟨(some 57),(some (56,true)),(.fld 1 2)⟩ (.op true ⟨(some 58),(some (56,true)),(.ld none 57)⟩ (.op true ⟨(some 59),(some (56,true)),(.mv 6)⟩ (.op true ⟨(some 60),(some (56,true)),(.idx 1 58 59)⟩ (.op true ⟨(some 61),(some (56,true)),(.ld none 60)⟩ (.op true ⟨(some 62),(some (56,true)),(.b2s 61)⟩ (.op true ⟨(some 63),(some (56,true)),(.mv 1)⟩ (.op true ⟨(some 64),(some (56,true)),(.b2s 63)⟩ (.op true ⟨(some 65),(some (56,true)),(.bin .eql 62 64)⟩ (p1 66 (.pick 56 65 (.const (.bool false))) (.bar (pm 8 66 .done)))))))))))))) (sR (om 67 6<|om 68 8<|om 4 67<|om 5 68 .done) .ret)) .skip)) (sR (om 69 7<|om 4 69<|o1 5 (.mv (.const (.bool false))) .done) .ret)))))))⟩
set_option maxHeartbeats 2000000 in
def Pt(hd:dec P f=some LW):HR P f Gi:=by
 intro d cs n v key hn hkey;obtain⟨lf,ks,vs,is⟩:=n;obtain⟨kv,vv,iv,rfl,hk,hv,hiv⟩:∃kv vv iv,cs=[.bool lf,kv,vv,iv]∧Dh d kv ks∧Dh d vv vs∧DS d iv is:=hn;refine AG hd (Aea Z) ?_;obtain⟨ka,kc,kb,ko,rfl,kA,kS,kN,kl,km,kB,kx⟩:=hk;show gwp P _ _ _ _ _;(refine Ad<|Ck Z (fun _ _=>Ab Z<|Ae Z<|Aa<|Ad<|Ab Z<|Aa<|Ad<|Ab Z<|Aa<|Ad<|Ae Z<|Aa<|Ag<|Ad<|Ab Z<|Aa<|Ax ?_));rename_i b T;have hlow:∀k,k≤ks.length→((ks.take k).takeWhile (Op.bytesLess · key)).length≤k:=fun k hk=>by have:=SW (p:=(Op.bytesLess · key)) (ks.take k);simp at this;omega
 have hnot:∀k,k≤ks.length→((ks.take k).takeWhile (leB · key)).length≤k:=fun k hk=>by have:=SW (p:=(leB · key)) (ks.take k);simp at this;omega
 refine Dd (α:=Nat) (fun k=>[(1,v),(2,pZ b),(6,vZ ((ks.take k).takeWhile (Op.bytesLess · key)).length),(7,vZ ((ks.take k).takeWhile (leB · key)).length),(8,.bool false),(9,vZ k)])
  (fun _=>[bx b T [.bool lf,.slice ka ks.length kc,vv,iv]]) (fun k=>k≤ks.length) (fun k=>ks.length - k) 0 ⟨Z,Z,Z,Z,Z,Z,trivial⟩ Z (Aez _) ?_
 intro k ρ hle;by_cases h:k<ks.length
 ·obtain⟨c0,hc0,hD0,⟨u0,rfl,hu0⟩⟩:=kx k h;replace hD0:=hD0.one;have e1:=Rh (p:=(Op.bytesLess · key)) ks[k] (ks.take k);have e2:=Rh (p:=(leB · key)) ks[k] (ks.take k);rw[←Aes h] at e1 e2;have hl1:=hlow k (by omega);have hl2:=hnot k (by omega);have htl:(ks.take k).length=k:=by simp;omega
  rw[htl] at e1 e2;obtain⟨A,hA⟩:∃A,A=((ks.take k).takeWhile (Op.bytesLess · key)).length:=⟨_,Z⟩
  obtain⟨B,hB⟩:∃B,B=((ks.take k).takeWhile (leB · key)).length:=⟨_,Z⟩
  rw[←hA] at e1 hl1⊢;rw[←hB] at e2 hl2⊢;have done:∀(x y z:Int) (A' B':Nat),x=A'→y=B'→A'=(if A=k∧Op.bytesLess ks[k] key=true then k+1 else A)→B'=(if B=k∧leB ks[k] key=true then k+1 else B)→
    x=((ks.take (k+1)).takeWhile (Op.bytesLess · key)).length∧y=((ks.take (k+1)).takeWhile (leB · key)).length:=fun x y z A' B' hx hy h1 h2=>by rw[hx,hy,h1,h2,←e1,←e2];exact⟨Z,Z⟩
  cases hb:Op.bytesLess ks[k] key with
  |true=>
   have hl4:(Op.bytesLess ks[k] key||decide (ks[k]=key))=true:=by simp[hb]
   have hl3:leB ks[k] key=true:=hl4
   by_cases hAk:A=k
   ·by_cases hBk:B=k
    ·(refine Ag<|Ad<|Ab Z<|Ai Z<|Ah Z (Al 0 Z Z)<|AI Z<|AB Z Z<|Aa<|Aw Z (by omega)<|Ak<|Ag<|Ax<|Ag<|Ag<|Bv<|Ai Z<|Ah Z (Al 0 Z Z)<|Ab Z ?_;apply BL;rfl;rfl;rfl;omega;assumption;refine Ah Z (BB (by assumption))<|Bj Z (by assumption)<|AR<|Bj Z (by assumption)<|Fc Z Z<|Ae Z ?_;apply FD;rfl;(with_reducible assumption);refine Af Z<|Ab Z<|Af Z<|Ab Z<|Af Z<|AN Z Z<|Ay Z Z<|AZ<|Aw Z (by omega)<|AE<|Ab Z<|AM Z Z (by omega) (by omega)<|Ab Z<|Aa<|Ag<|Bv<|Ai Z<|Ah Z (Al 0 Z Z)<|Ab Z ?_;apply BL;rfl;rfl;rfl;omega;assumption;refine Ah Z (BB (by assumption))<|Bj Z (by assumption)<|AR<|Bj Z (by assumption)<|Gx Z Z<|Ae Z ?_;apply FD;rfl;(with_reducible assumption);refine Af Z<|Ab Z<|Af Z<|Ab Z<|Af Z<|AN Z Z<|Ay Z Z<|AZ<|Aw Z (by omega)<|AE<|Ab Z<|AM Z Z (by omega) (by omega)<|Ab Z<|Aa<|AE<|Ab Z<|AM Z Z (by omega) (by omega)<|Ab Z<|Aa ?_)
     obtain⟨f1,f2⟩:=done _ _ 0 (k+1) (k+1) Z Z (by simp[hAk,hb]) (by simp[hBk,hl3])
     exact⟨k+1,by omega,⟨Z,Z,int_eq (by omega),int_eq (by omega),Z,int_eq (by omega),trivial⟩,Z,Z,h⟩
    ·(refine Ag<|Ad<|Ab Z<|Ai Z<|Ah Z (Al 0 Z Z)<|AI Z<|AB Z Z<|Aa<|Aw Z (by omega)<|Ak<|Ag<|Ax<|Ag<|Ag<|Bv<|Ai Z<|Ah Z (Al 0 Z Z)<|Ab Z ?_;apply BL;rfl;rfl;rfl;omega;assumption;refine Ah Z (BB (by assumption))<|Bj Z (by assumption)<|AR<|Bj Z (by assumption)<|Fc Z Z<|Ae Z ?_;apply FD;rfl;(with_reducible assumption);refine Af Z<|Ab Z<|Af Z<|Ab Z<|Af Z<|AN Z Z<|Ay Z Z<|AZ<|Aw Z (by omega)<|AE<|Ab Z<|AM Z Z (by omega) (by omega)<|Ab Z<|Aa<|Ag<|Bv<|Ai Z<|Ah Z (Al 0 Z Z)<|Ab Z ?_;apply BL;rfl;rfl;rfl;omega;assumption;refine Ah Z (BB (by assumption))<|Bj Z (by assumption)<|AR<|Bj Z (by assumption)<|Gx Z Z<|Ae Z ?_;apply FD;rfl;(with_reducible assumption);refine Af Z<|Ab Z<|Af Z<|Ab Z<|Af Z<|AN Z Z<|Ay Z Z<|AZ<|Ar Z (by omega)<|Ak<|AE<|Ab Z<|AM Z Z (by omega) (by omega)<|Ab Z<|Aa ?_)
     obtain⟨f1,f2⟩:=done _ _ 0 (k+1) (B) Z Z (by simp[hAk,hb]) (by simp[hBk,hl3])
     exact⟨k+1,by omega,⟨Z,Z,int_eq (by omega),int_eq (by omega),Z,int_eq (by omega),trivial⟩,Z,Z,h⟩
   ·by_cases hBk:B=k
    ·(refine Ag<|Ad<|Ab Z<|Ai Z<|Ah Z (Al 0 Z Z)<|AI Z<|AB Z Z<|Aa<|Aw Z (by omega)<|Ak<|Ag<|Ax<|Ag<|Ag<|Bv<|Ai Z<|Ah Z (Al 0 Z Z)<|Ab Z ?_;apply BL;rfl;rfl;rfl;omega;assumption;refine Ah Z (BB (by assumption))<|Bj Z (by assumption)<|AR<|Bj Z (by assumption)<|Fc Z Z<|Ae Z ?_;apply FD;rfl;(with_reducible assumption);refine Af Z<|Ab Z<|Af Z<|Ab Z<|Af Z<|AN Z Z<|Ay Z Z<|AZ<|Ar Z (by omega)<|Ak<|Ag<|Bv<|Ai Z<|Ah Z (Al 0 Z Z)<|Ab Z ?_;apply BL;rfl;rfl;rfl;omega;assumption;refine Ah Z (BB (by assumption))<|Bj Z (by assumption)<|AR<|Bj Z (by assumption)<|Gx Z Z<|Ae Z ?_;apply FD;rfl;(with_reducible assumption);refine Af Z<|Ab Z<|Af Z<|Ab Z<|Af Z<|AN Z Z<|Ay Z Z<|AZ<|Aw Z (by omega)<|AE<|Ab Z<|AM Z Z (by omega) (by omega)<|Ab Z<|Aa<|AE<|Ab Z<|AM Z Z (by omega) (by omega)<|Ab Z<|Aa ?_)
     obtain⟨f1,f2⟩:=done _ _ 0 (A) (k+1) Z Z (by simp[hAk,hb]) (by simp[hBk,hl3])
     exact⟨k+1,by omega,⟨Z,Z,int_eq (by omega),int_eq (by omega),Z,int_eq (by omega),trivial⟩,Z,Z,h⟩
    ·(refine Ag<|Ad<|Ab Z<|Ai Z<|Ah Z (Al 0 Z Z)<|AI Z<|AB Z Z<|Aa<|Aw Z (by omega)<|Ak<|Ag<|Ax<|Ag<|Ag<|Bv<|Ai Z<|Ah Z (Al 0 Z Z)<|Ab Z ?_;apply BL;rfl;rfl;rfl;omega;assumption;refine Ah Z (BB (by assumption))<|Bj Z (by assumption)<|AR<|Bj Z (by assumption)<|Fc Z Z<|Ae Z ?_;apply FD;rfl;(with_reducible assumption);refine Af Z<|Ab Z<|Af Z<|Ab Z<|Af Z<|AN Z Z<|Ay Z Z<|AZ<|Ar Z (by omega)<|Ak<|Ag<|Bv<|Ai Z<|Ah Z (Al 0 Z Z)<|Ab Z ?_;apply BL;rfl;rfl;rfl;omega;assumption;refine Ah Z (BB (by assumption))<|Bj Z (by assumption)<|AR<|Bj Z (by assumption)<|Gx Z Z<|Ae Z ?_;apply FD;rfl;(with_reducible assumption);refine Af Z<|Ab Z<|Af Z<|Ab Z<|Af Z<|AN Z Z<|Ay Z Z<|AZ<|Ar Z (by omega)<|Ak<|AE<|Ab Z<|AM Z Z (by omega) (by omega)<|Ab Z<|Aa ?_)
     obtain⟨f1,f2⟩:=done _ _ 0 (A) (B) Z Z (by simp[hAk,hb]) (by simp[hBk,hl3])
     exact⟨k+1,by omega,⟨Z,Z,int_eq (by omega),int_eq (by omega),Z,int_eq (by omega),trivial⟩,Z,Z,h⟩
  |false=>
   by_cases he:ks[k]=key
   ·have hl4:(Op.bytesLess ks[k] key||decide (ks[k]=key))=true:=by simp[he]
    have hl3:leB ks[k] key=true:=hl4
    by_cases hAk:A=k
    ·by_cases hBk:B=k
     ·(refine Ag<|Ad<|Ab Z<|Ai Z<|Ah Z (Al 0 Z Z)<|AI Z<|AB Z Z<|Aa<|Aw Z (by omega)<|Ak<|Ag<|Ax<|Ag<|Ag<|Bv<|Ai Z<|Ah Z (Al 0 Z Z)<|Ab Z ?_;apply BL;rfl;rfl;rfl;omega;assumption;refine Ah Z (BB (by assumption))<|Bj Z (by assumption)<|AR<|Bj Z (by assumption)<|Fc Z Z<|Ae Z ?_;apply Gb;rfl;(with_reducible assumption);refine An Z<|An Z<|An Z<|Au Z Z<|AZ<|AS Z<|Ak<|Ag<|Bv<|Ai Z<|Ah Z (Al 0 Z Z)<|Ab Z ?_;apply BL;rfl;rfl;rfl;omega;assumption;refine Ah Z (BB (by assumption))<|Bj Z (by assumption)<|AR<|Bj Z (by assumption)<|Gx Z Z<|Ae Z ?_;apply FD;rfl;(with_reducible assumption);refine Af Z<|Ab Z<|Af Z<|Ab Z<|Af Z<|AN Z Z<|Ay Z Z<|AZ<|Aw Z (by omega)<|AE<|Ab Z<|AM Z Z (by omega) (by omega)<|Ab Z<|Aa<|AE<|Ab Z<|AM Z Z (by omega) (by omega)<|Ab Z<|Aa ?_)
      obtain⟨f1,f2⟩:=done _ _ 0 (A) (k+1) Z Z (by simp[hAk,hb]) (by simp[hBk,hl3])
      exact⟨k+1,by omega,⟨Z,Z,int_eq (by omega),int_eq (by omega),Z,int_eq (by omega),trivial⟩,Z,Z,h⟩
     ·(refine Ag<|Ad<|Ab Z<|Ai Z<|Ah Z (Al 0 Z Z)<|AI Z<|AB Z Z<|Aa<|Aw Z (by omega)<|Ak<|Ag<|Ax<|Ag<|Ag<|Bv<|Ai Z<|Ah Z (Al 0 Z Z)<|Ab Z ?_;apply BL;rfl;rfl;rfl;omega;assumption;refine Ah Z (BB (by assumption))<|Bj Z (by assumption)<|AR<|Bj Z (by assumption)<|Fc Z Z<|Ae Z ?_;apply Gb;rfl;(with_reducible assumption);refine An Z<|An Z<|An Z<|Au Z Z<|AZ<|AS Z<|Ak<|Ag<|Bv<|Ai Z<|Ah Z (Al 0 Z Z)<|Ab Z ?_;apply BL;rfl;rfl;rfl;omega;assumption;refine Ah Z (BB (by assumption))<|Bj Z (by assumption)<|AR<|Bj Z (by assumption)<|Gx Z Z<|Ae Z ?_;apply FD;rfl;(with_reducible assumption);refine Af Z<|Ab Z<|Af Z<|Ab Z<|Af Z<|AN Z Z<|Ay Z Z<|AZ<|Ar Z (by omega)<|Ak<|AE<|Ab Z<|AM Z Z (by omega) (by omega)<|Ab Z<|Aa ?_)
      obtain⟨f1,f2⟩:=done _ _ 0 (A) (B) Z Z (by simp[hAk,hb]) (by simp[hBk,hl3])
      exact⟨k+1,by omega,⟨Z,Z,int_eq (by omega),int_eq (by omega),Z,int_eq (by omega),trivial⟩,Z,Z,h⟩
    ·by_cases hBk:B=k
     ·(refine Ag<|Ad<|Ab Z<|Ai Z<|Ah Z (Al 0 Z Z)<|AI Z<|AB Z Z<|Aa<|Aw Z (by omega)<|Ak<|Ag<|Ax<|Ag<|Ag<|Bv<|Ai Z<|Ah Z (Al 0 Z Z)<|Ab Z ?_;apply BL;rfl;rfl;rfl;omega;assumption;refine Ah Z (BB (by assumption))<|Bj Z (by assumption)<|AR<|Bj Z (by assumption)<|Fc Z Z<|Ae Z ?_;apply Gb;rfl;(with_reducible assumption);refine An Z<|An Z<|An Z<|Au Z Z<|AZ<|AS Z<|Ak<|Ag<|Bv<|Ai Z<|Ah Z (Al 0 Z Z)<|Ab Z ?_;apply BL;rfl;rfl;rfl;omega;assumption;refine Ah Z (BB (by assumption))<|Bj Z (by assumption)<|AR<|Bj Z (by assumption)<|Gx Z Z<|Ae Z ?_;apply FD;rfl;(with_reducible assumption);refine Af Z<|Ab Z<|Af Z<|Ab Z<|Af Z<|AN Z Z<|Ay Z Z<|AZ<|Aw Z (by omega)<|AE<|Ab Z<|AM Z Z (by omega) (by omega)<|Ab Z<|Aa<|AE<|Ab Z<|AM Z Z (by omega) (by omega)<|Ab Z<|Aa ?_)
      obtain⟨f1,f2⟩:=done _ _ 0 (A) (k+1) Z Z (by simp[hAk,hb]) (by simp[hBk,hl3])
      exact⟨k+1,by omega,⟨Z,Z,int_eq (by omega),int_eq (by omega),Z,int_eq (by omega),trivial⟩,Z,Z,h⟩
     ·(refine Ag<|Ad<|Ab Z<|Ai Z<|Ah Z (Al 0 Z Z)<|AI Z<|AB Z Z<|Aa<|Aw Z (by omega)<|Ak<|Ag<|Ax<|Ag<|Ag<|Bv<|Ai Z<|Ah Z (Al 0 Z Z)<|Ab Z ?_;apply BL;rfl;rfl;rfl;omega;assumption;refine Ah Z (BB (by assumption))<|Bj Z (by assumption)<|AR<|Bj Z (by assumption)<|Fc Z Z<|Ae Z ?_;apply Gb;rfl;(with_reducible assumption);refine An Z<|An Z<|An Z<|Au Z Z<|AZ<|AS Z<|Ak<|Ag<|Bv<|Ai Z<|Ah Z (Al 0 Z Z)<|Ab Z ?_;apply BL;rfl;rfl;rfl;omega;assumption;refine Ah Z (BB (by assumption))<|Bj Z (by assumption)<|AR<|Bj Z (by assumption)<|Gx Z Z<|Ae Z ?_;apply FD;rfl;(with_reducible assumption);refine Af Z<|Ab Z<|Af Z<|Ab Z<|Af Z<|AN Z Z<|Ay Z Z<|AZ<|Ar Z (by omega)<|Ak<|AE<|Ab Z<|AM Z Z (by omega) (by omega)<|Ab Z<|Aa ?_)
      obtain⟨f1,f2⟩:=done _ _ 0 (A) (B) Z Z (by simp[hAk,hb]) (by simp[hBk,hl3])
      exact⟨k+1,by omega,⟨Z,Z,int_eq (by omega),int_eq (by omega),Z,int_eq (by omega),trivial⟩,Z,Z,h⟩
   ·have hl4:(Op.bytesLess ks[k] key||decide (ks[k]=key))=false:=by simp[he,hb]
    have hl3:leB ks[k] key=false:=hl4
    by_cases hAk:A=k
    ·by_cases hBk:B=k
     ·(refine Ag<|Ad<|Ab Z<|Ai Z<|Ah Z (Al 0 Z Z)<|AI Z<|AB Z Z<|Aa<|Aw Z (by omega)<|Ak<|Ag<|Ax<|Ag<|Ag<|Bv<|Ai Z<|Ah Z (Al 0 Z Z)<|Ab Z ?_;apply BL;rfl;rfl;rfl;omega;assumption;refine Ah Z (BB (by assumption))<|Bj Z (by assumption)<|AR<|Bj Z (by assumption)<|Fc Z Z<|Ae Z ?_;apply Gb;rfl;(with_reducible assumption);refine An Z<|An Z<|An Z<|Au Z Z<|AZ<|AS Z<|Ak<|Ag<|Bv<|Ai Z<|Ah Z (Al 0 Z Z)<|Ab Z ?_;apply BL;rfl;rfl;rfl;omega;assumption;refine Ah Z (BB (by assumption))<|Bj Z (by assumption)<|AR<|Bj Z (by assumption)<|Gx Z Z<|Ae Z ?_;apply Gb;rfl;(with_reducible assumption);refine An Z<|An Z<|An Z<|Au Z Z<|AZ<|AS Z<|Ak<|AE<|Ab Z<|AM Z Z (by omega) (by omega)<|Ab Z<|Aa ?_)
      obtain⟨f1,f2⟩:=done _ _ 0 (A) (B) Z Z (by simp[hAk,hb]) (by simp[hBk,hl3])
      exact⟨k+1,by omega,⟨Z,Z,int_eq (by omega),int_eq (by omega),Z,int_eq (by omega),trivial⟩,Z,Z,h⟩
     ·(refine Ag<|Ad<|Ab Z<|Ai Z<|Ah Z (Al 0 Z Z)<|AI Z<|AB Z Z<|Aa<|Aw Z (by omega)<|Ak<|Ag<|Ax<|Ag<|Ag<|Bv<|Ai Z<|Ah Z (Al 0 Z Z)<|Ab Z ?_;apply BL;rfl;rfl;rfl;omega;assumption;refine Ah Z (BB (by assumption))<|Bj Z (by assumption)<|AR<|Bj Z (by assumption)<|Fc Z Z<|Ae Z ?_;apply Gb;rfl;(with_reducible assumption);refine An Z<|An Z<|An Z<|Au Z Z<|AZ<|AS Z<|Ak<|Ag<|Bv<|Ai Z<|Ah Z (Al 0 Z Z)<|Ab Z ?_;apply BL;rfl;rfl;rfl;omega;assumption;refine Ah Z (BB (by assumption))<|Bj Z (by assumption)<|AR<|Bj Z (by assumption)<|Gx Z Z<|Ae Z ?_;apply Gb;rfl;(with_reducible assumption);refine An Z<|An Z<|An Z<|Au Z Z<|AZ<|AS Z<|Ak<|AE<|Ab Z<|AM Z Z (by omega) (by omega)<|Ab Z<|Aa ?_)
      obtain⟨f1,f2⟩:=done _ _ 0 (A) (B) Z Z (by simp[hAk,hb]) (by simp[hBk,hl3])
      exact⟨k+1,by omega,⟨Z,Z,int_eq (by omega),int_eq (by omega),Z,int_eq (by omega),trivial⟩,Z,Z,h⟩
    ·by_cases hBk:B=k
     ·(refine Ag<|Ad<|Ab Z<|Ai Z<|Ah Z (Al 0 Z Z)<|AI Z<|AB Z Z<|Aa<|Aw Z (by omega)<|Ak<|Ag<|Ax<|Ag<|Ag<|Bv<|Ai Z<|Ah Z (Al 0 Z Z)<|Ab Z ?_;apply BL;rfl;rfl;rfl;omega;assumption;refine Ah Z (BB (by assumption))<|Bj Z (by assumption)<|AR<|Bj Z (by assumption)<|Fc Z Z<|Ae Z ?_;apply Gb;rfl;(with_reducible assumption);refine An Z<|An Z<|An Z<|Au Z Z<|AZ<|AS Z<|Ak<|Ag<|Bv<|Ai Z<|Ah Z (Al 0 Z Z)<|Ab Z ?_;apply BL;rfl;rfl;rfl;omega;assumption;refine Ah Z (BB (by assumption))<|Bj Z (by assumption)<|AR<|Bj Z (by assumption)<|Gx Z Z<|Ae Z ?_;apply Gb;rfl;(with_reducible assumption);refine An Z<|An Z<|An Z<|Au Z Z<|AZ<|AS Z<|Ak<|AE<|Ab Z<|AM Z Z (by omega) (by omega)<|Ab Z<|Aa ?_)
      obtain⟨f1,f2⟩:=done _ _ 0 (A) (B) Z Z (by simp[hAk,hb]) (by simp[hBk,hl3])
      exact⟨k+1,by omega,⟨Z,Z,int_eq (by omega),int_eq (by omega),Z,int_eq (by omega),trivial⟩,Z,Z,h⟩
     ·(refine Ag<|Ad<|Ab Z<|Ai Z<|Ah Z (Al 0 Z Z)<|AI Z<|AB Z Z<|Aa<|Aw Z (by omega)<|Ak<|Ag<|Ax<|Ag<|Ag<|Bv<|Ai Z<|Ah Z (Al 0 Z Z)<|Ab Z ?_;apply BL;rfl;rfl;rfl;omega;assumption;refine Ah Z (BB (by assumption))<|Bj Z (by assumption)<|AR<|Bj Z (by assumption)<|Fc Z Z<|Ae Z ?_;apply Gb;rfl;(with_reducible assumption);refine An Z<|An Z<|An Z<|Au Z Z<|AZ<|AS Z<|Ak<|Ag<|Bv<|Ai Z<|Ah Z (Al 0 Z Z)<|Ab Z ?_;apply BL;rfl;rfl;rfl;omega;assumption;refine Ah Z (BB (by assumption))<|Bj Z (by assumption)<|AR<|Bj Z (by assumption)<|Gx Z Z<|Ae Z ?_;apply Gb;rfl;(with_reducible assumption);refine An Z<|An Z<|An Z<|Au Z Z<|AZ<|AS Z<|Ak<|AE<|Ab Z<|AM Z Z (by omega) (by omega)<|Ab Z<|Aa ?_)
      obtain⟨f1,f2⟩:=done _ _ 0 (A) (B) Z Z (by simp[hAk,hb]) (by simp[hBk,hl3])
      exact⟨k+1,by omega,⟨Z,Z,int_eq (by omega),int_eq (by omega),Z,int_eq (by omega),trivial⟩,Z,Z,h⟩
 ·have e:k=ks.length:=by omega
  subst e;rw[Afq];have hl:∃A,A=low ⟨lf,ks,vs,is⟩ key:=⟨_,Z⟩
  have hlk:=hlow ks.length (Aef _);rw[Afq] at hlk;obtain⟨A,hA⟩:∃A,A=(ks.takeWhile (Op.bytesLess · key)).length:=⟨_,Z⟩
  rw[←hA] at hlk⊢;have hA':low ⟨lf,ks,vs,is⟩ key=A:=hA.symm;cases lf
  ·(refine Ag<|Ad<|Ab Z<|Ai Z<|Ah Z (Al 0 Z Z)<|AI Z<|AB Z Z<|Aa<|Ar Z (by omega)<|Bd<|Ag<|Ad<|Ai Z<|Ah Z (Al 0 Z Z)<|Aa<|AS Z<|Ak<|Ad<|Ab Z<|Ab Z<|Ae Z<|Aa<|Ap ?_);apply J5;rfl;rfl
   ·simp[Gi]
   ·simp[Gi]
  ·by_cases h:A<ks.length
   ·obtain⟨c0,hc0,hD0,⟨u0,rfl,hu0⟩⟩:=kx A h;replace hD0:=hD0.one;(refine Ag<|Ad<|Ab Z<|Ai Z<|Ah Z (Al 0 Z Z)<|AI Z<|AB Z Z<|Aa<|Ar Z (by omega)<|Bd<|Ag<|Ad<|Ai Z<|Ah Z (Al 0 Z Z)<|Aa<|Bc Z<|Ag<|Bv<|Ab Z<|Ai Z<|Ah Z (Al 0 Z Z)<|AI Z<|AB Z Z<|Ae Z<|A8 Z (by omega)<|Af Z<|Ai Z<|Af Z<|Ah Z (Al 0 Z Z)<|Af Z<|Ab Z<|Af Z ?_;apply BL;rfl;rfl;rfl;omega;assumption;refine Af Z<|Ah Z (BB (by assumption))<|Af Z<|Bj Z (by assumption)<|Af Z<|AR<|Af Z<|Bj Z (by assumption)<|Af Z<|Jm Z Z<|Ay Z Z<|Cd<|Ae Z<|Aa<|Ad<|Ab Z<|Ae Z<|Ab Z<|Ae Z<|Aa<|Ap ?_);apply J5;rfl;rfl
    ·simp[Gi,hA']
    ·simp[Gi,hA',h]
   ·(refine Ag<|Ad<|Ab Z<|Ai Z<|Ah Z (Al 0 Z Z)<|AI Z<|AB Z Z<|Aa<|Ar Z (by omega)<|Bd<|Ag<|Ad<|Ai Z<|Ah Z (Al 0 Z Z)<|Aa<|Bc Z<|Ag<|Bv<|Ab Z<|Ai Z<|Ah Z (Al 0 Z Z)<|AI Z<|AB Z Z<|Ae Z<|A3 Z (by omega)<|An Z<|An Z<|An Z<|An Z<|An Z<|An Z<|An Z<|An Z<|An Z<|Au Z Z<|Cd<|Ae Z<|Aa<|Ad<|Ab Z<|Ae Z<|Ab Z<|Ae Z<|Aa<|Ap ?_);apply J5;rfl;rfl
    ·simp[Gi,hA']
    ·(first|(simp[Gi,hA',h];done)|(simp[Gi,hA',h];omega))
def Mx{ks}:∀{m k:Nat},DE ks m=true→k<m→kOk ks k=true
 |0,_,_,h=>by omega
 |m+1,k,h,hk=>by
  simp only[DE,Aec] at h;by_cases e:k=m
  ·subst e;exact h.2
  ·exact Mx h.1 (by omega)
def Mm{ks}(h:DE ks ks.length=true):∀{j i:Nat}(hj:j<ks.length) (hi:i<j),Op.bytesLess (ks[i]'(by omega)) ks[j]=true:=by
 intro j;induction j with
 |zero=>intro i _ hi;omega
 |succ j ih=>
  intro i hj hi
  have hk:=Mx h hj
  simp only[kOk,Aec,Afp,beq_iff_eq,Agv] at hk
  have h1:Op.bytesLess ks[j] ks[j+1]=true:=by
   rcases hk.2 with e|e
   ·omega
   ·simpa [show j<ks.length by omega,hj] using e
  by_cases e:i=j
  ·subst e;exact h1
  ·exact Ll (ih (by omega) (by omega)) h1
def find_eq(n:AK)(key:List UInt8)(h:Ba n=true):findD n key=Gi n key:=by
 obtain⟨lf,ks,vs,is⟩:=n;unfold findD Gi;cases lf with
 |true=>rfl
 |false=>
  simp only[Aeh,if_false,Prod.mk.injEq,and_true]
  have hk:DE ks ks.length=true:=by simp only[Ba,Aec] at h;exact h.1
  have rise:=fun{j i:Nat}(hj:j<ks.length) (hi:i<j)=>Mm hk hj hi
  have hl:low ⟨false,ks,vs,is⟩ key≤ks.length:=SW ks
  obtain⟨A,hA⟩:∃A,A=low ⟨false,ks,vs,is⟩ key:=⟨_,Z⟩
  rw[←hA] at hl⊢
  have below:∀j (hj:j<ks.length),j<A→Op.bytesLess ks[j] key=true:=fun j hj hjA=>Abm (p:=(Op.bytesLess · key)) hj (by rw[hA] at hjA;exact hjA)
  have stop:∀h:A<ks.length,Op.bytesLess ks[A] key=false:=fun h=>WA (p:=(Op.bytesLess · key)) hA h
  have les:∀{a b},Op.bytesLess a b=true→leB a b=true:=fun h=>by simp[leB,h]
  by_cases he:∃h:A<ks.length,ks[A]=key
  ·obtain⟨h,he⟩:=he
   have h1:((ks.drop A).takeWhile (fun k=>decide (k=key))).length=1:=I9 (by simp;omega) (fun m hm hm1=>by
    obtain rfl:m=0:=by omega
    simpa using he) (fun hm=>by
    have hm':A+1<ks.length:=by simp at hm;omega
    have:=rise hm' (i:=A) (by omega);rw[he] at this;simp only[Ajc,decide_eq_false_iff_not];intro e;rw[e,EO] at this;cases this)
   have h2:(ks.takeWhile (leB · key)).length=A+1:=I9 h (fun j hj hjA=>by
    by_cases e:j=A
    ·subst e;simp[leB,he]
    ·exact les (below j hj (by omega))) (fun hm=>by
    have:=rise hm (i:=A) (by omega);rw[he] at this;have h3:=AaX this;simp only[leB,h3,Ajp,decide_eq_false_iff_not];intro e;rw[e,EO] at this;cases this)
   rw[h1,h2]
  ·have h1:((ks.drop A).takeWhile (fun k=>decide (k=key))).length=0:=I9 (by omega) (fun m _ hm=>by omega) (fun hm=>by
    have hm':A<ks.length:=by simp at hm;omega
    simp only[Ajc,decide_eq_false_iff_not,Nat.add_zero];intro e;exact he ⟨hm',e⟩)
   have h2:(ks.takeWhile (leB · key)).length=A:=I9 hl (fun j hj hjA=>les (below j hj hjA)) (fun hm=>by
    simp only[leB,stop hm,Ajp,decide_eq_false_iff_not];intro e;exact he ⟨hm,e⟩)
   rw[h1,h2];rfl
end Go.Gk.Node
end
