/-
  Our own texts, one behind the other: GkPg2 GkPg3 GkPg4 GkPg5 GkC5 GkPg6 GkPg7 GkPg8 GkPgL GkPgM Gk28 Gk29 Gk40 GkH1 GkH2 GkH3 GkH4 GkH5 GkNode1 GkNode2 GkNode3 GkNode4 GkNode5.
-/
import Derived.Recover
import Derived.BigFrame
import Derived.Test.YteekdjalpmjdhaaGreatPrC
set_option linter.defProp false
open Nat renaming le_of_ble_eq_true→Ada,le_refl→Adi,zero_le→Aej,add_sub_cancel→Afw,le_trans→Agx,sub_self→Agy,le_of_not_lt→Ahu
open List.Sublist renaming refl→Adb
open Bool renaming and_eq_true→Adc,false_eq_true→Adk,or_eq_true→Afa,not_eq_true→Afz,not_eq_false'→Agu,eq_iff_iff→Aid,false_or→Aim
open List renaming getElem?_eq_getElem→Ade,getD_eq_getElem?_getD→Adh,length_append→Adj,perm_append_comm→Adl,length_cons→Adm,mem_cons_self→Ado,replicate→Adx,length_take→Adz,take_succ_eq_append_getElem→Aea,getElem_mem→Aec,append_nil→Aed,sublist_cons_self→Aef,range→Aek,nil_append→Ael,getElem?_eq_none→Aes,length_map→Aey,perm_append_comm_assoc→Afd,take_length→Afi,map_cons→Agl,getElem_drop→Aie,countP_cons_of_pos→Aiq,countP_cons_of_neg→Air
open List.Perm renaming cons→Ads,swap→Aee
open Option renaming map_eq_some_iff→Aeu
section
namespace Go.Gk.Pgr
open Go Go.Gk Go.Gk.Dev Go.Gk.Cch Go.Gk.Node
attribute [local irreducible] gwp gws xwp
variable{P:Program}{f f1 f2 f3:FuncId}{d:Ac}
def Qt(s:PD)(k:Int):Hl s.frm s.kinds k=s.kind k:=rfl
def R2:PF 0 kI:=Ace
def F8(P:Program)(f:FuncId):Prop:=∀{d s dv pv L},Pg d s dv pv L→Av P f [pv] d L (Ret fun r d' L'=>r=.tuple #[vZ s.AX.2.1,vZ s.AX.2.2]∧Pg d' s.AX.1 dv pv L')
def KP(a0 a1:Nat):A5:=⟨37,[(.tmp 2),(.tmp 3)],(sR (o1 2 (.mv z0)<|o1 3 (.mv z0) .done) (.seq (sR (om 5 0<|oc 6 a0 [5] .done) (.cond 6 (sR (o1 2 (.mv z0)<|o1 3 (.mv z1) .done) .ret) .skip)) (sR (om 7 0<|o1 8 (.nilc 7)<|oj 9 3 8<|ol 10 9<|oc 11 a1 [10,z0]<|om 4 11 .done) (.seq (sR (om 12 4<|ob 13 .lss 12 z0 .done) (.cond 13 (sR (o1 2 (.mv z0)<|o1 3 (.mv (kZ 190)) .done) .ret) .skip)) (sR (om 14 0<|o1 15 (.nilc 14)<|oj 16 3 15<|ol 17 16<|om 18 4<|oI 19 1 17 18<|o0 (.st 1 19 z1) .done) (.seq (.reg true (pm 20 0<|p1 21 (.nilc 20)<|p1 22 (.fld 4 21)<|pl 23 22<|pm 24 0<|p1 25 (.nilc 24)<|p1 26 (.fld 2 25)<|pl 27 26<|pm 28 4<|p1 29 (.bin .add 27 28)<|o1 30 (.mks 1 1 [(.int .u8 0)] (kZ 256) (kZ 256))<|o0 (.mop (.up 0 23 29 30)) .done)) (sR (om 31 0<|o1 32 (.nilc 31)<|oj 33 2 32<|ol 34 33<|om 35 4<|ob 36 .add 34 35<|om 2 36<|o1 3 (.mv z0) .done) .ret)))))))⟩
set_option maxRecDepth 4000 in
def PT(hd:dec P f=some (KP f1 f2))(h1:EH P f1)(h2:Qf P f2):F8 P f:=by
 intro d s dv pv L hp;have hp0:=hp;obtain⟨b,T,cv,bk,cp,hk,mb,ms,clk,c,LC,LD,bd,rfl,rfl,rfl,hg,hm,hC,hD,hc,hG⟩:=hp;have hone:=hG.one;have hlen:=hG.len;have hinn:=hG.inn;have hsyn:=hG.syn;refine AF hd (Ada rfl) ?_;show gwp P _ _ _ _ _;(refine Ad<|Ab rfl<|Ab rfl<|Aa<|Af<|Ad<|Am rfl ?_);refine CS (A:=[_]) (B:=_::_::(LC++LD)) rfl rfl h1 ?_;(refine Aa<|AS rfl<|Ak<|Ad<|Am rfl<|Au rfl<|Ai rfl<|Ag rfl (Aj 0 rfl rfl) ?_);refine M3 (A:=[hk]) (B:=_::_::(LC++LD)) (Aee _ _ _) rfl (C2.borrow (fun d1 hl1 hk1=>h2 (x:=0) (Ap.rsl (R:=Bb) hg B2 (by omega) hl1 (hk1 _ (List.mem_singleton.2 rfl))))) ?_;cases hq:Db 0 s.kinds with
 |none=>
  refine Ft (g:=11) (v:=vZ (-1)) rfl ?_
  (refine Ab rfl<|Aa<|Af<|Ad<|Ab rfl<|AE rfl rfl<|Aa<|Ax rfl (by omega)<|Ad<|Ab rfl<|Ab rfl<|Aa<|An ?_)
  have hr:s.AX=(s,0,190):=by unfold PD.AX;rw[hq]
  rw[hr]
  exact CO rfl rfl (Adb _) ⟨rfl,hp0⟩
 |some i=>
  obtain⟨hi,h0⟩:=F9 hq
  have hr:s.AX=(s.Hy i,((s.frm+i:Nat):Int),0):=by unfold PD.AX;rw[hq]
  rw[hr]
  obtain⟨b1,T1,l1,c1,cs,q1,rfl,hcl,hcs,hle, -,hset⟩:=Ap.at (by omega) hg hi
  cases q1
  refine Ft (g:=11) (v:=vZ i) rfl ?_
  (refine Ab rfl<|Aa<|Af<|Ad<|Ab rfl<|AE rfl rfl<|Aa<|Ar rfl (by omega)<|Ak<|Ad<|Am rfl<|Au rfl<|Ai rfl<|Ag rfl (Aj 0 rfl rfl)<|Ab rfl<|Bz _ rfl rfl rfl (by omega) ?_)
  refine A6 1 (patch l1 (i*1) [vZ 1]) rfl rfl rfl rfl (by omega) rfl rfl ?_
  (refine Aa<|Af ?_)
  refine Bv [_] _ rfl ?_
  (refine Am rfl<|Au rfl<|Ai rfl<|Ag rfl (Aj 0 rfl rfl)<|Am rfl<|Au rfl<|Ai rfl<|Ag rfl (Aj 0 rfl rfl)<|Ab rfl<|AL rfl rfl (by omega) (by omega) ?_)
  refine HT (n:=256) (c:=256) rfl rfl (Adi _) (by omega) (by omega) (fun bz Tz=>?_)
  refine ZZ (kE:=kI) (vE:=id) (k:=((s.frm+i:Nat):Int)) R2 2 rfl rfl ?_ rfl ?_
  ·exact int_eq (by omega)
  refine HY ⟨join d (bx bz Tz (Bq [.int .u8 0] (256*1))),_::_::_::(LC++LD),(Vs.perm (Aee _ _ _)).trans Vs.freeze,?_⟩
  have hl:Le d (join d (bx bz Tz (Bq [.int .u8 0] (256*1)))):=Le.AG _ _
  have hz:AM (join d (bx bz Tz (Bq [.int .u8 0] (256*1)))) (.slice (some ⟨bz,0,none⟩) 256 256) I8:=
   Ap.rsl (R:=AP) (sz:=1) (Ap.zero (sz:=1) (z:=[.int .u8 0]) (d:=d) (b:=bz) (T:=Tz) (n:=256) (R:=AP) (x:=(0:UInt8)) rfl (by omega) rfl (by omega)) A3 (by omega) hl (Le.Ba _ _)
  have hlk:(s.Hy i).kinds.length=s.kinds.length:=by simp[PD.Hy]
  have hP:=Pg.mk (d:=join d (bx bz Tz (Bq [.int .u8 0] (256*1)))) (s:=s.Hy i) (b:=b) (T:=T) (cv:=cv) (bk:=bk) (cp:=cp) (mb:=mb) (clk:=Qd ((s.frm+i:Nat):Int) clk ms) (c:=c) (LC:=LC) (LD:=LD) (bd:=bd) hlk
   (Ap.mono (R:=Bb) B2 (hset [vZ 1] 1 rfl ⟨rfl,by decide,by decide⟩) hl) (ms:=Ha ((s.frm+i:Nat):Int) (.slice (some ⟨bz,0,none⟩) 256 256) clk ms) (fun j hj hj1=>?_) (hC.mono hl) (hD.mono hl)
   (hc.to rfl rfl (Og.set (by rw[show s.kinds.getD i 0=0 by rw[Adh,Ade hi,h0];rfl];omega))) (hG.to rfl rfl (i:=i) (x:=1) rfl (by omega) (by omega))
  ·(refine Ad<|Am rfl<|Au rfl<|Ai rfl<|Ag rfl (Aj 0 rfl rfl)<|Ab rfl<|AL rfl rfl (by omega) (by omega)<|Ab rfl<|Ab rfl<|Aa<|An ?_)
   exact CO (int_eq (show(s.frm:Int)+i=((s.frm+i:Nat):Int) by omega)) rfl (Adb _) ⟨rfl,hP⟩
  ·show∃v,ET ((s.frm+j:Nat):Int) (Ha ((s.frm+i:Nat):Int) (.slice (some ⟨bz,0,none⟩) 256 256) clk ms)=some v∧AM _ v (EA s.fb i I8 j)∧(EA s.fb i I8 j).length=256
   rw[get_put]
   by_cases e:j=i
   ·subst e
    exact⟨_,if_pos rfl,by simp only[EA,if_true];exact hz,by simp only[EA,if_true];exact List.length_replicate⟩
   ·rw[if_neg (by omega)]
    have hk1:s.kinds.getD j 0=1:=by
     have:(s.kinds.set i 1).getD j 0=1:=hj1;rw[De hi,if_neg e] at this;exact this
    obtain⟨v,g1,g2,g3⟩:=hm j (by rw[←hlk];exact hj) hk1
    exact⟨v,g1,by simp only[EA,if_neg e];exact g2.mono hl,by simp only[EA,if_neg e];exact g3⟩
def O8(P:Program)(f:FuncId):Prop:=∀{d s dv pv w L}{k:Int}{b:Sec},Pg d s dv pv L→AM d w b→Av P f [pv,vZ k,w] d L (Ret fun r d' L'=>r=vZ (s.put k b).2∧Pg d' (s.put k b).1 dv pv L')
def M6(a0 a1 a2:Nat):A5:=⟨26,[(.tmp 6)],(sR (o1 6 (.mv z0) .done) (.seq (.block 0 (sR (om 8 0<|oc 9 a0 [8]<|om 7 9 .done) (.cond 7 (sR (o1 6 (.mv z1) .done) .ret) (sR (om 11 0<|om 12 1<|oc 13 a1 [11,12]<|ob 14 .neq 13 z1<|om 10 14 .done) (.cond 10 (sR (o1 6 (.mv (kZ 240)) .done) .ret) (sR (om 16 2<|oL 17 16<|ob 18 .neq 17 (kZ 256)<|om 15 18 .done) (.cond 15 (sR (o1 6 (.mv z2) .done) .ret) .skip))))))) (.seq (.reg true (pm 19 0<|p1 20 (.nilc 19)<|p1 21 (.fld 4 20)<|pl 22 21<|pm 23 1<|pm 24 2<|oc 25 a2 [24]<|o0 (.mop (.up 0 22 23 25)) .done)) (sR (o1 6 (.mv z0) .done) .ret))))⟩
set_option maxRecDepth 4000 in
def AbA(hd:dec P f=some (M6 f1 f2 f3))(h1:EH P f1)(h2:Ju P f2)(h3:Ef AP 1 P f3):O8 P f:=by
 intro d s dv pv w L k by_ hp hw;have hp0:=hp;have hwl:=hw.B3;have hw':RSl 1 AP d w by_:=hw;obtain⟨b,T,cv,bk,cp,hk,mb,ms,clk,c,LC,LD,bd,rfl,rfl,rfl,hg,hm,hC,hD,hc,hG⟩:=hp;have hlen:=hG.len;have hinn:=hG.inn;have hsyn:=hG.syn;refine AF hd (Ada rfl) ?_;show gwp P _ _ _ _ _;(refine Ad<|Ab rfl<|Aa<|Af<|Ay<|Ad<|Am rfl ?_);refine CS (A:=[_]) (B:=_::_::(LC++LD)) rfl rfl h1 ?_;(refine Ae rfl<|Aa<|AS rfl<|Ad<|Am rfl<|Ab rfl ?_);refine CS (A:=[_,hk]) (B:=_::(LC++LD)) rfl rfl (h2 (k:=k) hg (by omega)) ?_;rw[Qt];by_cases hk1:s.kind k=1
 ·by_cases hb:by_.length=256
  ·obtain⟨i,hi,rfl,hki,hti⟩:=CA hk1 (by omega);have hr:s.put ((s.frm+i:Nat):Int) by_=({s with fb:=EA s.fb i by_},0):=by unfold PD.put;rw[if_pos hk1,if_pos hb,hti]
   rw[hr];(refine AN rfl rfl<|Ae rfl<|Aa<|Ar rfl (by omega)<|Ad<|AJ<|BL rfl (by assumption)<|AN rfl rfl<|Ae rfl<|Aa<|Ar rfl (by omega)<|Ak<|Af ?_);refine Bv [_] (hk::mpI mb ms clk::(LC++LD)) rfl ?_;(refine Am rfl<|Au rfl<|Ai rfl<|Ag rfl (Aj 0 rfl rfl)<|Ab rfl<|AJ ?_);refine Bl rfl (h3 hw' (by omega)) (fun u d2 L2 _ ⟨e1,h,e2,hrow⟩=>?_);subst e1;subst e2;refine ZZ (kE:=kI) (vE:=id) (k:=((s.frm+i:Nat):Int)) R2 2 rfl rfl rfl rfl ?_;refine HY ⟨join d2 h,_::_::_::(LC++LD),(Vs.perm (Aee _ _ _)).trans Vs.freeze,?_⟩;have hl:Le d2 (join d2 h):=Le.AG _ _;have hz:AM (join d2 h) u by_:=Ap.rsl (R:=AP) (sz:=1) hrow A3 (by omega) hl (Le.Ba _ _);have hP:=Pg.mk (d:=join d2 h) (s:={s with fb:=EA s.fb i by_}) (b:=b) (T:=T) (cv:=cv) (bk:=bk) (cp:=cp) (mb:=mb) (clk:=Qd ((s.frm+i:Nat):Int) clk ms) (c:=c) (LC:=LC) (LD:=LD) (bd:=bd) rfl
    (Ap.mono (R:=Bb) B2 hg hl) (ms:=Ha ((s.frm+i:Nat):Int) u clk ms) (fun j hj hj1=>?_) (hC.mono hl) (hD.mono hl) (hc.to rfl rfl (Og.refl _)) (hG.to' rfl rfl rfl)
   ·(refine Ad<|Ab rfl<|Aa<|An ?_);exact BO rfl (Adb _) ⟨rfl,hP⟩
   ·show∃v,ET ((s.frm+j:Nat):Int) (Ha ((s.frm+i:Nat):Int) u clk ms)=some v∧AM _ v (EA s.fb i by_ j)∧(EA s.fb i by_ j).length=256;rw[get_put];by_cases e:j=i
    ·subst e;exact⟨_,if_pos rfl,by simp only[EA,if_true];exact hz,by simp only[EA,if_true];exact hb⟩
    ·rw[if_neg (by omega)];obtain⟨v,g1,g2,g3⟩:=hm j hj hj1;exact⟨v,g1,by simp only[EA,if_neg e];exact g2.mono hl,by simp only[EA,if_neg e];exact g3⟩
  ·have hr:s.put k by_=(s,2):=by unfold PD.put;rw[if_pos hk1,if_neg hb]
   rw[hr];(refine AN rfl rfl<|Ae rfl<|Aa<|Ar rfl (by omega)<|Ad<|AJ<|BL rfl (by assumption)<|AN rfl rfl<|Ae rfl<|Aa<|Ax rfl (by omega)<|Ad<|Ab rfl<|Aa<|An ?_);exact BO rfl (Adb _) ⟨rfl,hp0⟩
 ·have hr:s.put k by_=(s,240):=by unfold PD.put;rw[if_neg hk1]
  rw[hr];(refine AN rfl rfl<|Ae rfl<|Aa<|Ax rfl (by omega)<|Ad<|Ab rfl<|Aa<|An ?_);exact BO rfl (Adb _) ⟨rfl,hp0⟩
def GZ(P:Program)(f:FuncId):Prop:=∀{d s dv pv L}{k:Int},Pg d s dv pv L→Av P f [pv,vZ k] d L (Ret fun r d' L'=>r=vZ (s.drop k).2∧Pg d' (s.drop k).1 dv pv L')
def Mw(a0 a1:Nat):A5:=⟨41,[(.tmp 4)],(sR (o1 4 (.mv z0) .done) (.seq (sR (om 5 0<|oc 6 a0 [5] .done) (.cond 6 (sR (o1 4 (.mv z1) .done) .ret) .skip)) (.seq (sR (om 7 0<|om 8 1<|oc 9 a1 [7,8] .done) (.block 0 (sR (ob 11 .eql 9 z1<|om 10 11 .done) (.cond 10 (.seq (.reg true (pm 12 0<|p1 13 (.nilc 12)<|p1 14 (.fld 3 13)<|pl 15 14<|pm 16 1<|pm 17 0<|p1 18 (.nilc 17)<|p1 19 (.fld 2 18)<|pl 20 19<|p1 21 (.bin .sub 16 20)<|p1 22 (.idx 1 15 21) (.bar (o0 (.st 1 22 z0) .done)))) (rG (om 23 0<|o1 24 (.nilc 23)<|oj 25 4 24<|ol 26 25<|om 27 1<|o0 (.mop (.del 0 26 27)) .done))) (sR (ob 29 .eql 9 z2<|om 28 29 .done) (.cond 28 (.reg true (pm 30 0<|p1 31 (.nilc 30)<|p1 32 (.fld 3 31)<|pl 33 32<|pm 34 1<|pm 35 0<|p1 36 (.nilc 35)<|p1 37 (.fld 2 36)<|pl 38 37<|p1 39 (.bin .sub 34 38)<|p1 40 (.idx 1 33 39) (.bar (o0 (.st 1 40 (kZ 3)) .done)))) (sR (o1 4 (.mv (kZ 240)) .done) .ret))))))) (sR (o1 4 (.mv z0) .done) .ret))))⟩
set_option maxRecDepth 4000 in
def Aa4(hd:dec P f=some (Mw f1 f2))(h1:EH P f1)(h2:Ju P f2):GZ P f:=by
 intro d s dv pv L k hp;have hp0:=hp;obtain⟨b,T,cv,bk,cp,hk,mb,ms,clk,c,LC,LD,bd,rfl,rfl,rfl,hg,hm,hC,hD,hc,hG⟩:=hp;have hlen:=hG.len;have hinn:=hG.inn;have hsyn:=hG.syn;refine AF hd (Ada rfl) ?_;show gwp P _ _ _ _ _;(refine Ad<|Ab rfl<|Aa<|Af<|Ad<|Am rfl ?_);refine CS (A:=[_]) (B:=_::_::(LC++LD)) rfl rfl h1 ?_;(refine Aa<|AS rfl<|Ak<|Af<|Ad<|Am rfl<|Ab rfl ?_);refine CS (A:=[_,hk]) (B:=_::(LC++LD)) rfl rfl (h2 (k:=k) hg (by omega)) ?_;rw[Qt];by_cases hk1:s.kind k=1
 ·obtain⟨i,hi,rfl,hki,hti⟩:=CA hk1 (by omega);have hr:s.drop ((s.frm+i:Nat):Int)=({s with kinds:=s.kinds.set i 0},0):=by unfold PD.drop;rw[if_pos hk1,hti]
  rw[hr];obtain⟨b1,T1,l1,c1,cs,q1,rfl,hcl,hcs,hle, -,hset⟩:=Ap.at (by omega) hg hi;cases q1;(refine Aa<|Ay<|Ad<|AO rfl rfl<|Ae rfl<|Aa<|Ax rfl (by omega)<|Af ?_);refine Bv [_] (bx bk T1 l1::mpI mb ms clk::(LC++LD)) rfl ?_;(refine Am rfl<|Au rfl<|Ai rfl<|Ag rfl (Aj 0 rfl rfl)<|Ab rfl<|Am rfl<|Au rfl<|Ai rfl<|Ag rfl (Aj 0 rfl rfl)<|C6 rfl rfl (by omega) (by omega) ?_);refine Bz i rfl rfl (by omega) hi ?_;(apply Ch);refine A6 1 (patch l1 (i*1) [vZ 0]) rfl rfl rfl rfl hle rfl rfl ?_;refine HY ⟨d,_::_::_::(LC++LD),Vs.refl _ _,?_⟩;(refine AB<|Am rfl<|Au rfl<|Ai rfl<|Ag rfl (Aj 0 rfl rfl)<|Ab rfl ?_);refine AcA (k:=((s.frm+i:Nat):Int)) R2 2 rfl rfl rfl ?_;have hP:=Pg.mk (d:=d) (s:={s with kinds:=s.kinds.set i 0}) (b:=b) (T:=T) (cv:=cv) (bk:=bk) (cp:=cp) (mb:=mb) (clk:=clk) (c:=c) (LC:=LC) (LD:=LD) (bd:=bd) (n:=s.kinds.length) (by simp)
    (hset [vZ 0] 0 rfl ⟨rfl,by omega,by omega⟩) (ms:=Jb ((s.frm+i:Nat):Int) ms) (fun j hj hj1=>?_) hC hD (hc.to rfl rfl (Og.set (by rw[show s.kinds.getD i 0=1 from hki];omega))) (hG.to rfl rfl rfl (by omega) (by omega))
  ·(refine Aa<|Ad<|Ab rfl<|Aa<|An ?_);exact BO rfl (Adb _) ⟨rfl,hP⟩
  ·have hj1':(s.kinds.set i 0).getD j 0=1:=hj1;rw[De hi] at hj1';by_cases e:j=i
   ·rw[if_pos e] at hj1';cases hj1'
   ·rw[if_neg e] at hj1';obtain⟨v,g1,g2,g3⟩:=hm j (by simpa using hj) hj1';have g0:ET ((s.frm+j:Nat):Int) (Jb ((s.frm+i:Nat):Int) ms)=some v:=by rw[UC (by omega)];exact g1
    exact⟨v,g0,g2,g3⟩
 ·by_cases hk2:s.kind k=2
  ·obtain⟨i,hi,rfl,hki,hti⟩:=CA hk2 (by omega);have hr:s.drop ((s.frm+i:Nat):Int)=({s with kinds:=s.kinds.set i 3},0):=by unfold PD.drop;rw[if_neg hk1,if_pos hk2,hti]
   rw[hr];obtain⟨b1,T1,l1,c1,cs,q1,rfl,hcl,hcs,hle, -,hset⟩:=Ap.at (by omega) hg hi;cases q1;(refine Aa<|Ay<|Ad<|AO rfl rfl<|Ae rfl<|Aa<|Ar rfl (by omega)<|Ad<|AO rfl rfl<|Ae rfl<|Aa<|Ax rfl (by omega) ?_);refine Bv [_] (bx bk T1 l1::mpI mb ms clk::(LC++LD)) rfl ?_;(refine Am rfl<|Au rfl<|Ai rfl<|Ag rfl (Aj 0 rfl rfl)<|Ab rfl<|Am rfl<|Au rfl<|Ai rfl<|Ag rfl (Aj 0 rfl rfl)<|C6 rfl rfl (by omega) (by omega) ?_);refine Bz i rfl rfl (by omega) hi ?_;(apply Ch);refine A6 1 (patch l1 (i*1) [vZ 3]) rfl rfl rfl rfl hle rfl rfl ?_;refine HY ⟨d,_::_::_::(LC++LD),Vs.refl _ _,?_⟩;have hP:=Pg.mk (d:=d) (s:={s with kinds:=s.kinds.set i 3}) (b:=b) (T:=T) (cv:=cv) (bk:=bk) (cp:=cp) (mb:=mb) (clk:=clk) (c:=c) (LC:=LC) (LD:=LD) (bd:=bd) (n:=s.kinds.length) (by simp)
     (hset [vZ 3] 3 rfl ⟨rfl,by omega,by omega⟩) (ms:=ms) (fun j hj hj1=>?_) hC hD (hc.to rfl rfl (Og.set (by rw[show s.kinds.getD i 0=2 from hki];omega))) (hG.to rfl rfl rfl (by omega) (by omega))
   ·(refine Ad<|Ab rfl<|Aa<|An ?_);exact BO rfl (Adb _) ⟨rfl,hP⟩
   ·have hj1':(s.kinds.set i 3).getD j 0=1:=hj1;rw[De hi] at hj1';by_cases e:j=i
    ·rw[if_pos e] at hj1';cases hj1'
    ·rw[if_neg e] at hj1';exact hm j (by simpa using hj) hj1'
  ·have hr:s.drop k=(s,240):=by unfold PD.drop;rw[if_neg hk1,if_neg hk2]
   rw[hr];(refine Aa<|Ay<|Ad<|AO rfl rfl<|Ae rfl<|Aa<|Ar rfl (by omega)<|Ad<|AO rfl rfl<|Ae rfl<|Aa<|Ar rfl (by omega)<|Ad<|Ab rfl<|Aa<|An ?_);exact BO rfl (Adb _) ⟨rfl,hp0⟩
def Ac1(d:Ac)(h:Option Sec)(r:Value):Prop:=match h with|some x=>AM d r x|none=>r=.slice none 0 0
def FE(P:Program)(f:FuncId):Prop:=∀{d s dv pv L}{k:Int},Pg d s dv pv L→
 Av P f [pv,vZ k] d L (Ret fun r d' L'=>(∃q,r=.tuple #[q,vZ (match (s.get k).2 with|some _=>0|none=>240)]∧Ac1 d' (s.get k).2 q)∧Pg d' (s.get k).1 dv pv L')
def M9(a0 a1 a2 a3 a4:Nat):A5:=⟨57,[(.tmp 4),(.tmp 5)],(sR (o1 4 (.mv nS)<|o1 5 (.mv z0) .done) (.seq (sR (om 8 0<|oc 9 a0 [8] .done) (.cond 9 (sR (o1 4 (.mv nS)<|o1 5 (.mv z1) .done) .ret) .skip)) (.seq (sR (om 10 0<|om 11 1<|oc 12 a1 [10,11] .done) (.block 0 (sR (ob 14 .eql 12 z1<|om 13 14 .done) (.cond 13 (sR (om 15 0<|o1 16 (.nilc 15)<|oj 17 6 16<|ol 18 17<|ob 19 .add 18 z1<|o1 20 (.nilc 15)<|oj 21 6 20<|o0 (.st 1 21 19) .done) (sR (om 22 0<|o1 23 (.nilc 22)<|oj 24 4 23<|ol 25 24<|om 26 1<|o1 27 (.mop (.lk 0 (.slice none 0 0) false 25 26))<|oc 28 a2 [27]<|om 4 28<|o1 5 (.mv z0) .done) .ret)) (sR (ob 30 .eql 12 z2<|om 29 30 .done) (.cond 29 (sR (om 32 0<|o1 33 (.nilc 32)<|oj 34 1 33<|ol 35 34<|om 36 1<|oc 37 a3 [35,36]<|om 31 37<|oe 38 31 0<|oe 39 31 1<|om 6 38<|om 7 39 .done) (.seq (sR (om 40 7<|ob 41 .neq 40 z0 .done) (.cond 41 (sR (om 42 7<|o1 4 (.mv nS)<|om 5 42 .done) .ret) .skip)) (sR (om 43 0<|o1 44 (.nilc 43)<|oj 45 1 44<|ol 46 45<|om 47 1<|oc 48 a4 [46,47] .done) (sR (om 49 0<|o1 50 (.nilc 49)<|oj 51 6 50<|ol 52 51<|ob 53 .add 52 z1<|o1 54 (.nilc 49)<|oj 55 6 54<|o0 (.st 1 55 53) .done) (sR (om 56 6<|om 4 56<|o1 5 (.mv z0) .done) .ret))))) .skip)))))) (sR (o1 4 (.mv nS)<|o1 5 (.mv (kZ 240)) .done) .ret))))⟩
set_option maxRecDepth 4000 in
def Aa7{f4 f5}(hd:dec P f=some (M9 f1 f2 f3 f4 f5))(h1:EH P f1)(h2:Ju P f2)(h3:Ef AP 1 P f3)(h4:Ms P f4)(h5:Ir P f5):FE P f:=by
 intro d s dv pv L k hp;have hp0:=hp;obtain⟨b,T,cv,bk,cp,hk,mb,ms,clk,c,LC,LD,bd,rfl,rfl,rfl,hg,hm,hC,hD,hc,hG⟩:=hp;have hlen:=hG.len;have hinn:=hG.inn;have hsyn:=hG.syn;refine AF hd (Ada rfl) ?_;show gwp P _ _ _ _ _;(refine Ad<|Al rfl<|Ab rfl<|Aa<|Af<|Ad<|Am rfl ?_);refine CS (A:=[_]) (B:=_::_::(LC++LD)) rfl rfl h1 ?_;(refine Aa<|AS rfl<|Ak<|Af<|Ad<|Am rfl<|Ab rfl ?_);refine CS (A:=[_,hk]) (B:=_::(LC++LD)) rfl rfl (h2 (k:=k) hg (by omega)) ?_;rw[Qt];by_cases hk1:s.kind k=1
 ·obtain⟨i,hi,rfl,hki,hti⟩:=CA hk1 (by omega);have hr:s.get ((s.frm+i:Nat):Int)=({s with tc:=s.tc+1},some (s.fb i)):=by unfold PD.get;rw[if_pos hk1,hti]
  rw[hr];obtain⟨v,g1,g2,g3⟩:=hm i hi hki;(refine Aa<|Ay<|Ad<|AO rfl rfl<|Ae rfl<|Aa<|Ax rfl (by omega)<|Ad<|Am rfl<|Au rfl<|Ai rfl<|Ag rfl (Aj 0 rfl rfl) ?_);refine Ln rfl rfl ?_;(refine Au rfl<|Ai rfl ?_);refine A6 0 [pZ bd,cv,vZ s.frm,.slice (some ⟨bk,0,none⟩) s.kinds.length cp,.map (some mb),vZ (wr s.round),vZ (wr (s.tc+1))] rfl rfl rfl rfl (Ada rfl) rfl rfl ?_;(refine Aa<|Ad<|Am rfl<|Au rfl<|Ai rfl<|Ag rfl (Aj 0 rfl rfl)<|Ab rfl ?_);refine Z3 (kE:=kI) (vE:=id) (k:=((s.frm+i:Nat):Int)) R2 2 rfl rfl rfl g1 ?_;refine Bl (vs:=[v]) rfl (h3 g2 (by rw[g3];decide)) (fun u d2 L2 _ ⟨q1,h,q2,hrow⟩=>?_);subst q1;subst q2;(refine AJ<|Ab rfl<|Aa<|An ?_);have hP:=Pg.mk (d:=d2) (s:={s with tc:=s.tc+1}) (b:=b) (T:=T) (cv:=cv) (bk:=bk) (cp:=cp) (mb:=mb) (clk:=clk) (c:=c) (LC:=LC) (LD:=LD) (bd:=bd) rfl hg hm hC hD (hc.to rfl rfl (Og.refl _)) (hG.to' rfl rfl rfl);skip;exact Bd [u,vZ 0] ⟨rfl,rfl,trivial⟩ (d':=join d2 h) (L':=_::_::_::(LC++LD)) Vs.freeze ⟨⟨_,rfl,Ap.rsl (R:=AP) (sz:=1) hrow A3 (by omega) (Le.AG _ _) (Le.Ba _ _)⟩,hP.mono (Le.AG _ _)⟩
 ·by_cases hk2:s.kind k=2
  ·obtain⟨i,hi,rfl,hki,hti⟩:=CA hk2 (by omega);have hr:s.get ((s.frm+i:Nat):Int)=({s with tc:=s.tc+1},some (s.syn.getD (s.frm+i) [])):=by unfold PD.get;rw[if_neg hk1,if_pos hk2];rfl
   rw[hr];obtain⟨c',e1,e2,e3,e4,e5⟩:=hc.get (k:=s.frm+i) (by omega) (by omega) (by omega) (by rw[show s.frm+i - s.frm=i by omega,hki];omega);(refine Aa<|Ay<|Ad<|AO rfl rfl<|Ae rfl<|Aa<|Ar rfl (by omega)<|Ad<|AO rfl rfl<|Ae rfl<|Aa<|Ax rfl (by omega)<|Ad<|Am rfl<|Au rfl<|Ai rfl<|Ag rfl (Aj 0 rfl rfl)<|Ab rfl ?_);have hcur:EG.cur ⟨s.syn,[]⟩ (s.frm+i)=s.syn.getD (s.frm+i) []:=rfl;refine Dh (h4 (k:=s.frm+i) hC hD e2 (show s.frm+i<s.syn.length by omega)) (Adl (l₁:=[_,_,_])) rfl (fun u d2 L2 hl2 ⟨LC2,LD2,q1,q2,q3,q4⟩=>?_);rw[hcur,e1] at q2 q4;obtain⟨v,rfl,hv⟩:=q4;subst q1;refine⟨d2,_::_::_::(LC2++LD2),Vs.perm (Adl (l₂:=[_,_,_])),?_⟩
   (refine AU rfl<|Ao rfl rfl<|Ao rfl rfl<|AJ<|Ab rfl<|Aa<|Af<|Ad<|Ab rfl<|AN rfl rfl<|Aa<|Ar rfl (by omega)<|Ak<|Ad<|Am rfl<|Au rfl<|Ai rfl<|Ag rfl (Aj 0 rfl rfl)<|Ab rfl ?_);refine Dh (h5 (k:=s.frm+i) q2 e3) (Afd [_,_,_] _ _) rfl (fun u d3 L3 hl3 ⟨q5,q6,q7⟩=>?_);subst q5;subst q6;refine⟨d3,_::_::_::(L3++LD2),Vs.perm (Afd _ [_,_,_] _),?_⟩
   (refine Aa<|Ad<|Am rfl<|Au rfl<|Ai rfl<|Ag rfl (Aj 0 rfl rfl) ?_);refine Ln rfl rfl ?_;have hP:=Pg.mk (d:=d3) (s:={s with tc:=s.tc+1}) (b:=b) (T:=T) (cv:=cv) (bk:=bk) (cp:=cp) (mb:=mb) (clk:=clk) (c:=(Dc c' (s.frm+i)).1) (LC:=L3) (LD:=LD2) (bd:=bd) rfl (Ap.mono (R:=Bb) B2 hg hl2) (hm.mono hl2) q7 q3 (e5.to rfl rfl (Og.refl _)) (hG.to' rfl rfl rfl);(refine Au rfl<|Ai rfl ?_);refine A6 0 [pZ bd,cv,vZ s.frm,.slice (some ⟨bk,0,none⟩) s.kinds.length cp,.map (some mb),vZ (wr s.round),vZ (wr (s.tc+1))] rfl rfl rfl rfl (Ada rfl) rfl rfl ?_;(refine Aa<|Ad<|AJ<|AJ<|Ab rfl<|Aa<|An ?_);exact CO rfl rfl (Adb _) ⟨⟨_,rfl,hv⟩,hP⟩
  ·have hr:s.get k=(s,none):=by unfold PD.get;rw[if_neg hk1,if_neg hk2]
   rw[hr];(refine Aa<|Ay<|Ad<|AO rfl rfl<|Ae rfl<|Aa<|Ar rfl (by omega)<|Ad<|AO rfl rfl<|Ae rfl<|Aa<|Ar rfl (by omega)<|Ak<|Ad<|Al rfl<|Ab rfl<|Aa<|An ?_);exact CO rfl rfl (Adb _) ⟨⟨_,rfl,rfl⟩,hp0⟩
def Js(P:Program)(f:FuncId):Prop:=∀{d s dv pv L},Pg d s dv pv L→Av P f [pv] d L (Ret fun r d' L'=>r=vZ 0∧d'=d∧Pg d' s.flush dv pv L')
def KJ(a0 a1 a2:Nat):A5:=⟨51,[(.tmp 2)],(sR (o1 2 (.mv z0) .done) (.seq (sR (om 6 0<|oc 7 a0 [6] .done) (.cond 7 (sR (o1 2 (.mv z1) .done) .ret) .skip)) (.seq (sR (om 8 0<|o1 9 (.nilc 8)<|oj 10 3 9<|ol 11 10<|oL 12 11<|o1 13 (.mv z0) .done) (.block 0 (.loop (sR (ob 14 .lss 13 12 .done) (.seq (.cond 14 .skip (.exit 0)) (.seq (.block 1 (sR (om 15 13<|oI 16 1 11 13<|ol 17 16<|om 3 15<|om 4 17 .done) (.seq (sR (om 18 4<|ob 19 .neq 18 z1 .done) (.cond 19 (.exit 1) .skip)) (.seq (.reg true (pm 20 0<|p1 21 (.nilc 20)<|p1 22 (.fld 0 21)<|pl 23 22<|pm 24 0<|p1 25 (.nilc 24)<|p1 26 (.fld 2 25)<|pl 27 26<|pm 28 3<|p1 29 (.bin .add 27 28)<|pm 30 0<|p1 31 (.nilc 30)<|p1 32 (.fld 4 31)<|pl 33 32<|pm 34 0<|p1 35 (.nilc 34)<|p1 36 (.fld 2 35)<|pl 37 36<|pm 38 3<|p1 39 (.bin .add 37 38)<|o1 40 (.mop (.lk 0 (.slice none 0 0) false 33 39))<|oc 41 a1 [23,29,40] (.bar (pm 5 41 .done)))) (sR (om 42 5<|ob 43 .neq 42 z0 .done) (.cond 43 (sR (om 44 5<|om 2 44 .done) .ret) .skip)))))) (rG (ob 45 .add 13 z1<|om 13 45 .done)))))))) (sR (om 46 0<|o1 47 (.nilc 46)<|oj 48 0 47<|ol 49 48<|oc 50 a2 [49]<|om 2 50 .done) .ret))))⟩
set_option maxRecDepth 4000 in
set_option maxHeartbeats 1000000 in
def ZH(hd:dec P f=some (KJ f1 f2 f3))(h1:EH P f1)(h2:Ov P f2)(h3:Qw P f3):Js P f:=by
 intro d s dv pv L hp;obtain⟨b,T,cv,bk,cp,hk,mb,ms,clk,c,LC,LD,bd,rfl,rfl,rfl,hg,hm,hC,hD,hc,hG⟩:=hp;have hone:=hG.one;have hlen:=hG.len;have hinn:=hG.inn;have hsyn:=hG.syn;refine AF hd (Ada rfl) ?_;show gwp P _ _ _ _ _;(refine Ad<|Ab rfl<|Aa<|Af<|Ad<|Am rfl ?_);refine CS (A:=[_]) (B:=_::_::(LC++LD)) rfl rfl h1 ?_;(refine Aa<|AS rfl<|Ak<|Af<|Ad<|Am rfl<|Au rfl<|Ai rfl<|Ag rfl (Aj 0 rfl rfl)<|AK rfl<|Ab rfl<|Aa<|Ay ?_);refine C8 (α:=Nat×List Ac) (fun x=>[(0,pZ b),(11,.slice (some ⟨bk,0,none⟩) s.kinds.length cp),(12,vZ s.kinds.length),(13,vZ x.1)])
  (fun x=>bx b T [pZ bd,cv,vZ s.frm,.slice (some ⟨bk,0,none⟩) s.kinds.length cp,.map (some mb),vZ (wr s.round),vZ (wr s.tc)]::hk::mpI mb ms clk::(LC++x.2))
  (fun x=>x.1≤s.kinds.length∧Dv d ⟨s.syn,s.writes x.1⟩ (pZ bd) x.2) (fun x=>s.kinds.length - x.1) (0,LD) ⟨rfl,rfl,rfl,rfl,trivial⟩ rfl ⟨by simp only;omega,hD⟩ ?_
 rintro⟨i,LD1⟩ ρ ⟨hi,hD1⟩;simp only at hi hD1⊢;by_cases e:i<s.kinds.length
 ·obtain⟨b1,T1,l1,c1,cs,q1,rfl,hcl,hcs,hle,⟨rfl,hb1,hb2⟩, -⟩:=Ap.at (by omega) hg e;cases q1;have c0:=hcs 0 _ rfl;have hkd:s.kinds[i]=s.kd i:=(GJ e).symm;by_cases hk1:s.kinds[i]=1
  ·have hw:s.writes (i+1)=s.writes i++[(s.frm+i,s.fb i)]:=by rw[PD.writes,if_pos (by rw[←hkd];exact hk1)]
   obtain⟨v,g1,g2,g3⟩:=hm i e (by rw[←hk1,hkd]);(refine Ad<|AE rfl rfl<|Aa<|Af<|Ax rfl (by omega)<|Ak<|Af<|Ay<|Ad<|Ab rfl<|Bz _ rfl rfl rfl (by omega)<|Ag rfl (Aj 1 rfl (by assumption))<|Ab rfl<|Ab rfl<|Aa<|Af<|Ad<|Ab rfl<|AN rfl rfl<|Aa<|Ar rfl (by omega)<|Ak<|Af ?_);refine Bv [_] (bx bk T1 l1::mpI mb ms clk::(LC++LD1)) rfl ?_;(refine Am rfl<|Au rfl<|Ai rfl<|Ag rfl (Aj 0 rfl rfl)<|Am rfl<|Au rfl<|Ai rfl<|Ag rfl (Aj 0 rfl rfl)<|Ab rfl<|AL rfl rfl (by omega) (by omega)<|Am rfl<|Au rfl<|Ai rfl<|Ag rfl (Aj 0 rfl rfl)<|Am rfl<|Au rfl<|Ai rfl<|Ag rfl (Aj 0 rfl rfl)<|Ab rfl<|AL rfl rfl (by omega) (by omega) ?_);refine Z3 (kE:=kI) (vE:=id) (k:=((s.frm+i:Nat):Int)) R2 2 rfl rfl rfl g1 ?_;have hwl:=OV (s:=s) (n:=i);refine Dh (h2 (k:=s.frm+i) hD1 (show s.frm+i<s.syn.length by omega) g2 g3 (show(s.writes i).length≤1000000 by omega)) (Adl (l₁:=bx bk T1 l1::mpI mb ms clk::LC)) rfl (fun u d2 L2 hl2 ⟨q1,q2,q3⟩=>?_);subst q1;subst q2;refine⟨d2,_::_::(LC++L2),Vs.perm (Adl (l₂:=bx bk T1 l1::mpI mb ms clk::LC)),?_⟩
   (refine Ch<|Ab rfl<|Aa<|Ad<|Ab rfl<|AN rfl rfl<|Aa<|Ar rfl (by omega)<|Ak<|AB<|AL rfl rfl (by omega) (by omega)<|Ab rfl<|Aa ?_);exact⟨(i+1,L2),by simp only;omega,⟨rfl,rfl,rfl,rfl,trivial⟩,rfl,rfl,e,by rw[hw];exact q3⟩
  ·have hw:s.writes (i+1)=s.writes i:=by rw[PD.writes,if_neg (by rw[←hkd];exact hk1),Aed]
   (refine Ad<|AE rfl rfl<|Aa<|Af<|Ax rfl (by omega)<|Ak<|Af<|Ay<|Ad<|Ab rfl<|Bz _ rfl rfl rfl (by omega)<|Ag rfl (Aj 1 rfl (by assumption))<|Ab rfl<|Ab rfl<|Aa<|Af<|Ad<|Ab rfl<|AN rfl rfl<|Aa<|Ax rfl (by omega)<|Bg<|AB<|AL rfl rfl (by omega) (by omega)<|Ab rfl<|Aa ?_);exact⟨(i+1,LD1),by simp only;omega,⟨rfl,rfl,rfl,rfl,trivial⟩,rfl,rfl,e,by simp only[hw];exact hD1⟩
 ·have:i=s.kinds.length:=by omega
  subst this;(refine Ad<|AE rfl rfl<|Aa<|Af<|Ar rfl (by omega)<|Bg<|Ad<|Am rfl<|Au rfl<|Ai rfl<|Ag rfl (Aj 0 rfl rfl) ?_);refine Dh (h3 hD1 (show 1≤s.syn.length by omega)) (Adl (l₁:=_::_::_::LC)) rfl (fun u d2 L2 hl2 ⟨q1,q2,q3⟩=>?_);subst q1;subst q2;refine⟨d2,_::_::_::(LC++L2),Vs.perm (Adl (l₂:=_::_::_::LC)),?_⟩
  have hP:=Pg.mk (d:=d2) (s:=s.flush) (b:=b) (T:=T) (cv:=cv) (bk:=bk) (cp:=cp) (mb:=mb) (ms:=ms) (clk:=clk) (c:=c) (LC:=LC) (LD:=L2) (bd:=bd) rfl hg hm hC q3 hc.flush hG.flush;(refine Ab rfl<|Aa<|An ?_);exact BO rfl (Adb _) ⟨rfl,rfl,hP⟩
def KM(P:Program)(f:FuncId):Prop:=∀{d s dv pv L},Pg d s dv pv L→Av P f [pv] d L (Ret fun r d' L'=>r=vZ 0∧d'=d∧Pg d' s.done dv pv L')
def Mc(a0 a1:Nat):A5:=⟨57,[(.tmp 2)],(sR (o1 2 (.mv z0) .done) (.seq (sR (om 5 0<|oc 6 a0 [5] .done) (.cond 6 (sR (o1 2 (.mv z1) .done) .ret) .skip)) (.seq (sR (om 7 0<|o1 8 (.nilc 7)<|oj 9 3 8<|ol 10 9<|oL 11 10<|o1 12 (.mv z0) .done) (.block 0 (.loop (sR (ob 13 .lss 12 11 .done) (.seq (.cond 13 .skip (.exit 0)) (.seq (.block 1 (sR (om 14 12<|oI 15 1 10 12<|ol 16 15<|om 3 14<|om 4 16 .done) (sR (om 17 4 .done) (.block 2 (sR (ob 19 .eql 17 (kZ 3)<|om 18 19 .done) (.cond 18 (sR (om 20 0<|o1 21 (.nilc 20)<|oj 22 3 21<|ol 23 22<|om 24 3<|oI 25 1 23 24<|o0 (.st 1 25 z0) .done) (.reg true (pm 26 0<|p1 27 (.nilc 26)<|p1 28 (.fld 1 27)<|pl 29 28<|pm 30 0<|p1 31 (.nilc 30)<|p1 32 (.fld 2 31)<|pl 33 32<|pm 34 3<|p1 35 (.bin .add 33 34)<|oc 36 a1 [29,35] .done))) (sR (ob 38 .eql 17 z1<|om 37 38 .done) (.cond 37 (rG (om 39 0<|o1 40 (.nilc 39)<|oj 41 3 40<|ol 42 41<|om 43 3<|oI 44 1 42 43<|o0 (.st 1 44 z2) .done)) .skip)))))))) (rG (ob 45 .add 12 z1<|om 12 45 .done)))))))) (sR (om 46 0<|o1 47 (.nilc 46)<|oj 48 4 47<|ol 49 48<|o0 (.mop (.clr 49)) .done) (sR (om 50 0<|o1 51 (.nilc 50)<|oj 52 5 51<|ol 53 52<|ob 54 .add 53 z1<|o1 55 (.nilc 50)<|oj 56 5 55<|o0 (.st 1 56 54) .done) (sR (o1 2 (.mv z0) .done) .ret))))))⟩
set_option maxRecDepth 4000 in
set_option maxHeartbeats 1000000 in
def AaD(hd:dec P f=some (Mc f1 f2))(h1:EH P f1)(h2:HF P f2):KM P f:=by
 intro d s dv pv L hp;obtain⟨b,T,cv,bk,cp,hk,mb,ms,clk,c,LC,LD,bd,rfl,rfl,rfl,hg,hm,hC,hD,hc,hG⟩:=hp;have hone:=hG.one;have hlen:=hG.len;have hinn:=hG.inn;have hsyn:=hG.syn;refine AF hd (Ada rfl) ?_;show gwp P _ _ _ _ _;(refine Ad<|Ab rfl<|Aa<|Af<|Ad<|Am rfl ?_);refine CS (A:=[_]) (B:=_::_::(LC++LD)) rfl rfl h1 ?_;(refine Aa<|AS rfl<|Ak<|Af<|Ad<|Am rfl<|Au rfl<|Ai rfl<|Ag rfl (Aj 0 rfl rfl)<|AK rfl<|Ab rfl<|Aa<|Ay ?_);refine C8 (α:=Nat×List Int×Ac×CD×List Ac) (fun x=>[(0,pZ b),(10,.slice (some ⟨bk,0,none⟩) s.kinds.length cp),(11,vZ s.kinds.length),(12,vZ x.1)])
  (fun x=>bx b T [pZ bd,cv,vZ s.frm,.slice (some ⟨bk,0,none⟩) s.kinds.length cp,.map (some mb),vZ (wr s.round),vZ (wr s.tc)]::x.2.2.1::mpI mb ms clk::(x.2.2.2.2++LD))
  (fun x=>x.1≤s.kinds.length∧Mid x.1 s.kinds x.2.1∧Ap 1 Bb d (.slice (some ⟨bk,0,none⟩) s.kinds.length cp) x.2.1 x.2.2.1∧CJ {s with kinds:=x.2.1} x.2.2.2.1∧Ca d x.2.2.2.1 (pZ bd) cv x.2.2.2.2)
  (fun x=>s.kinds.length - x.1) (0,s.kinds,hk,c,LC) ⟨rfl,rfl,rfl,rfl,trivial⟩ rfl ⟨by simp only;omega,Mid.zero _,hg,hc.og (Og.refl _),hC⟩ ?_
 rintro⟨i,ks,hk1,c1,LC1⟩ ρ ⟨hi,hM,hg1,hc1,hC1⟩;simp only at hi hM hg1 hc1 hC1⊢;have hkl:=hM.1;by_cases e:i<s.kinds.length
 ·have e':i<ks.length:=by omega
  obtain⟨b1,T1,l1,cc,cs,q1,rfl,hcl,hcs,hle,⟨rfl,hb1,hb2⟩,hset⟩:=Ap.at (by omega) hg1 e';rw[hkl] at q1;cases q1;have c0:=hcs 0 _ rfl;have hki:ks.getD i 0=ks[i]:=by rw[Adh,Ade e'];rfl
  have hkd:ks[i]=s.kinds.getD i 0:=by rw[←hki,hM.2,if_neg (by omega)]
  by_cases hk3:ks[i]=3
  ·have hn:=hM.next e;rw[show Dg (s.kinds.getD i 0)=0 by unfold Dg;rw[if_pos (by rw[←hkd];exact hk3)]] at hn;(refine Ad<|AE rfl rfl<|Aa<|Af<|Ax rfl (by omega)<|Ak<|Af<|Ay<|Ad<|Ab rfl<|Bz _ rfl rfl rfl (by omega)<|Ag rfl (Aj 1 rfl (by assumption))<|Ab rfl<|Ab rfl<|Aa<|Ad<|Ab rfl<|Aa<|Ay<|Ad<|AO rfl rfl<|Ae rfl<|Aa<|Ax rfl (by omega)<|Ad<|Am rfl<|Au rfl<|Ai rfl<|Ag rfl (Aj 0 rfl rfl)<|Ab rfl<|Bz _ rfl rfl rfl (by omega) ?_);refine A6 1 (patch l1 (i*1) [vZ 0]) rfl rfl rfl rfl hle rfl rfl ?_;(apply Aa);refine Bv [_] (bx bk T1 (patch l1 (i*1) [vZ 0])::mpI mb ms clk::(LC1++LD)) rfl ?_;(refine Am rfl<|Au rfl<|Ai rfl<|Ag rfl (Aj 0 rfl rfl)<|Am rfl<|Au rfl<|Ai rfl<|Ag rfl (Aj 0 rfl rfl)<|Ab rfl<|AL rfl rfl (by omega) (by omega) ?_);refine Dh (h2 (k:=s.frm+i) hC1 (fun j hj=>Abs hc1.inv hj)) (Afd [_,_] LC1 LD) rfl (fun u d2 L2 hl2 ⟨q1,q2,q3⟩=>?_);subst q1;subst q2;refine⟨d2,_::_::(L2++LD),Vs.perm (Afd L2 [_,_] LD),?_⟩
   refine HY ⟨d2,_::_::_::(L2++LD),Vs.refl _ _,?_⟩;(refine AB<|AL rfl rfl (by omega) (by omega)<|Ab rfl<|Aa ?_);exact⟨(i+1,ks.set i 0,_,_,L2),by simp only;omega,⟨rfl,rfl,rfl,rfl,trivial⟩,rfl,rfl,e,hn,hset [vZ 0] 0 rfl ⟨rfl,by omega,by omega⟩,hc1.gone e' (by show ks.getD i 0=3;rw[hki];exact hk3),q3⟩
  ·by_cases hk1:ks[i]=1
   ·have hn:=hM.next e;rw[show Dg (s.kinds.getD i 0)=2 by unfold Dg;rw[if_neg (by rw[←hkd];exact hk3),if_pos (by rw[←hkd];exact hk1)]] at hn;(refine Ad<|AE rfl rfl<|Aa<|Af<|Ax rfl (by omega)<|Ak<|Af<|Ay<|Ad<|Ab rfl<|Bz _ rfl rfl rfl (by omega)<|Ag rfl (Aj 1 rfl (by assumption))<|Ab rfl<|Ab rfl<|Aa<|Ad<|Ab rfl<|Aa<|Ay<|Ad<|AO rfl rfl<|Ae rfl<|Aa<|Ar rfl (by omega)<|Ad<|AO rfl rfl<|Ae rfl<|Aa<|Ax rfl (by omega)<|AB<|Am rfl<|Au rfl<|Ai rfl<|Ag rfl (Aj 0 rfl rfl)<|Ab rfl<|Bz _ rfl rfl rfl (by omega) ?_);refine A6 1 (patch l1 (i*1) [vZ 2]) rfl rfl rfl rfl hle rfl rfl ?_;(refine Aa<|AB<|AL rfl rfl (by omega) (by omega)<|Ab rfl<|Aa ?_);exact⟨(i+1,ks.set i 2,_,c1,LC1),by simp only;omega,⟨rfl,rfl,rfl,rfl,trivial⟩,rfl,rfl,e,hn,hset [vZ 2] 2 rfl ⟨rfl,by omega,by omega⟩,hc1.Ac6 e',hC1⟩
   ·have hn:=hM.same e (by unfold Dg;rw[if_neg (by rw[←hkd];exact hk3),if_neg (by rw[←hkd];exact hk1)]);(refine Ad<|AE rfl rfl<|Aa<|Af<|Ax rfl (by omega)<|Ak<|Af<|Ay<|Ad<|Ab rfl<|Bz _ rfl rfl rfl (by omega)<|Ag rfl (Aj 1 rfl (by assumption))<|Ab rfl<|Ab rfl<|Aa<|Ad<|Ab rfl<|Aa<|Ay<|Ad<|AO rfl rfl<|Ae rfl<|Aa<|Ar rfl (by omega)<|Ad<|AO rfl rfl<|Ae rfl<|Aa<|Ar rfl (by omega)<|Ak<|AB<|AL rfl rfl (by omega) (by omega)<|Ab rfl<|Aa ?_);exact⟨(i+1,ks,_,c1,LC1),by simp only;omega,⟨rfl,rfl,rfl,rfl,trivial⟩,rfl,rfl,e,hn,hg1,hc1,hC1⟩
 ·have hks:=hM.done (by omega);subst hks;(refine Ad<|AE rfl rfl<|Aa<|Af<|Ar rfl (by omega)<|Bg<|Ad<|Am rfl<|Au rfl<|Ai rfl<|Ag rfl (Aj 0 rfl rfl) ?_);refine AcW (kE:=kI) (vE:=id) 2 rfl rfl ?_;(refine Aa<|Ad<|Am rfl<|Au rfl<|Ai rfl<|Ag rfl (Aj 0 rfl rfl) ?_);refine Ln rfl rfl ?_;(refine Au rfl<|Ai rfl ?_);refine A6 0 [pZ bd,cv,vZ s.frm,.slice (some ⟨bk,0,none⟩) s.kinds.length cp,.map (some mb),vZ (wr (s.round+1)),vZ (wr s.tc)] rfl rfl rfl rfl (Ada rfl) rfl rfl ?_;have hGd:Good s.done:=by
   refine⟨by simpa [PD.done] using hone,by simpa [PD.done] using hlen,by simpa [PD.done] using hinn,hsyn,fun j=>?_⟩
   show 0≤(s.kinds.map Dg).getD j 0∧(s.kinds.map Dg).getD j 0≤3;rw[getD_map];exact Xo (hG.kd j)
  have hP:=Pg.mk (d:=d) (s:=s.done) (b:=b) (T:=T) (cv:=cv) (bk:=bk) (cp:=cp) (mb:=mb) (ms:=[]) (clk:=clk) (c:=c1) (LC:=LC1) (LD:=LD) (bd:=bd) (n:=s.kinds.length) (by simp[PD.done]) hg1 (fun j hj hj1=>by
   have h0:(s.kinds.map Dg).getD j 0=1:=hj1;rw[getD_map] at h0;unfold Dg at h0;split at h0
   ·cases h0
   ·split at h0
    ·cases h0
    ·contradiction) hC1 hD (hc1.to rfl rfl (Og.refl _)) hGd
  (refine Aa<|Ad<|Ab rfl<|Aa<|An ?_);exact BO rfl (Adb _) ⟨rfl,rfl,hP⟩
def LO(P:Program)(f:FuncId):Prop:=∀{d s dv pv L},Pg d s dv pv L→CV P f [pv] d L (vZ s.free)
def LU(a0:Nat):A5:=⟨24,[(.tmp 2)],(sR (o1 2 (.mv z0) .done) (sR (o1 3 (.mv z0) .done) (.seq (sR (om 6 0<|oc 7 a0 [6]<|o1 8 (.un .not 7) .done) (.cond 8 (sR (om 9 0<|o1 10 (.nilc 9)<|oj 11 3 10<|ol 12 11<|oL 13 12<|o1 14 (.mv z0) .done) (.block 0 (.loop (sR (ob 15 .lss 14 13 .done) (.seq (.cond 15 .skip (.exit 0)) (.seq (.block 1 (sR (oI 16 1 12 14<|ol 17 16<|om 5 17 .done) (sR (om 18 5<|ob 19 .eql 18 z0 .done) (.cond 19 (rG (om 20 3<|ob 21 .add 20 z1<|om 3 21 .done)) .skip)))) (rG (ob 22 .add 14 z1<|om 14 22 .done)))))))) .skip)) (sR (om 23 3<|om 2 23 .done) .ret))))⟩
def Aa9(hd:dec P f=some (LU f1))(h1:EH P f1):LO P f:=by
 intro d s dv pv L hp;obtain⟨b,T,cv,bk,cp,hk,mb,ms,clk,c,LC,LD,bd,rfl,rfl,rfl,hg,hm,hC,hD,hc,hG⟩:=hp;have hlen:=hG.len;have hone:=hG.one;refine AF hd (Ada rfl) ?_;show gwp P _ _ _ _ _;(refine Ad<|Ab rfl<|Aa<|Ad<|Ab rfl<|Aa<|Af<|Ad<|Am rfl ?_);refine CS (A:=[_]) (B:=_::_::(LC++LD)) rfl rfl h1 ?_;(refine Bx rfl<|Aa<|Bj rfl<|Ad<|Am rfl<|Au rfl<|Ai rfl<|Ag rfl (Aj 0 rfl rfl)<|AK rfl<|Ab rfl<|Aa<|Ay ?_);refine C8 (α:=Nat) (fun i=>[(3,vZ ((s.kinds.take i).countP (·==0))),(12,.slice (some ⟨bk,0,none⟩) s.kinds.length cp),(13,vZ s.kinds.length),(14,vZ i)])
  (fun i=>bx b T [pZ bd,cv,vZ s.frm,.slice (some ⟨bk,0,none⟩) s.kinds.length cp,.map (some mb),vZ (wr s.round),vZ (wr s.tc)]::hk::mpI mb ms clk::(LC++LD))
  (fun i=>i≤s.kinds.length) (fun i=>s.kinds.length - i) 0 ⟨rfl,rfl,rfl,rfl,trivial⟩ rfl (by omega) ?_
 rintro i ρ hi;by_cases e:i<s.kinds.length
 ·obtain⟨b1,T1,l1,c1,cs,q1,rfl,hcl,hcs,hle,⟨rfl,hb1,hb2⟩, -⟩:=Ap.at (by omega) hg e;cases q1;have c0:=hcs 0 _ rfl;have hn:(s.kinds.take (i+1)).countP (·==0)=(s.kinds.take i).countP (·==0)+(if s.kinds[i]=0 then 1 else 0):=by
   rw[Aea e,List.countP_append];simp[List.countP_cons,List.countP_nil]
  have hcb:(s.kinds.take i).countP (·==0)≤8192:=Agx List.countP_le_length (by rw[Adz];omega);by_cases h0:s.kinds[i]=0
  ·rw[if_pos h0] at hn;(refine Ad<|AE rfl rfl<|Aa<|Af<|Ax rfl (by omega)<|Ak<|Af<|Ay<|Ad<|Bz _ rfl rfl rfl (by omega)<|Ag rfl (Aj 1 rfl (by assumption))<|Ab rfl<|Aa<|Ad<|Ab rfl<|AO rfl rfl<|Aa<|Ax rfl (by omega)<|AB<|Ab rfl<|AL rfl rfl (by omega) (by omega)<|Ab rfl<|Aa<|AB<|AL rfl rfl (by omega) (by omega)<|Ab rfl<|Aa ?_);exact⟨i+1,by omega,⟨by show Value.int _ _=Value.int _ _;rw[hn];rfl,rfl,rfl,rfl,trivial⟩,rfl,rfl,e⟩
  ·rw[if_neg h0] at hn;(refine Ad<|AE rfl rfl<|Aa<|Af<|Ax rfl (by omega)<|Ak<|Af<|Ay<|Ad<|Bz _ rfl rfl rfl (by omega)<|Ag rfl (Aj 1 rfl (by assumption))<|Ab rfl<|Aa<|Ad<|Ab rfl<|AO rfl rfl<|Aa<|Ar rfl (by omega)<|Ak<|AB<|AL rfl rfl (by omega) (by omega)<|Ab rfl<|Aa ?_);exact⟨i+1,by omega,⟨by show Value.int _ _=Value.int _ _;rw[hn];rfl,rfl,rfl,rfl,trivial⟩,rfl,rfl,e⟩
 ·have:i=s.kinds.length:=by omega
  subst this;(refine Ad<|AE rfl rfl<|Aa<|Af<|Ar rfl (by omega)<|Bg<|Ad<|Ab rfl<|Ab rfl<|Aa<|An ?_);rw[show s.free=(s.kinds.take s.kinds.length).countP (·==0) by rw[Afi];rfl];exact JY rfl (Adb _)
def RS(P:Program)(f:FuncId):Prop:=∀{d s dv pv L},Pg d s dv pv L→Av P f [pv] d L (Ret fun r d' L'=>L'=L∧Le d d'∧C5 d' r s.B5)
def Nb(a0:Nat):A5:=⟨32,[(.tmp 2)],(sR (o1 2 (.mv nS) .done) (sR (o1 3 (.mv nS) .done) (.seq (sR (om 6 0<|oc 7 a0 [6]<|o1 8 (.un .not 7) .done) (.cond 8 (sR (om 9 0<|o1 10 (.nilc 9)<|oj 11 3 10<|ol 12 11<|oL 13 12<|o1 14 (.mv z0) .done) (.block 0 (.loop (sR (ob 15 .lss 14 13 .done) (.seq (.cond 15 .skip (.exit 0)) (.seq (.block 1 (sR (om 16 14<|oI 17 1 12 14<|ol 18 17<|om 4 16<|om 5 18 .done) (sR (om 19 5<|ob 20 .eql 19 z2 .done) (.cond 20 (rG (om 21 3<|om 22 0<|o1 23 (.nilc 22)<|oj 24 2 23<|ol 25 24<|om 26 4<|ob 27 .add 25 26<|o1 28 (.bsl 1 1 [(vZ 0)] [(0,27)])<|o1 29 (.app 1 8 [(vZ 0)] 21 28)<|om 3 29 .done)) .skip)))) (rG (ob 30 .add 14 z1<|om 14 30 .done)))))))) .skip)) (sR (om 31 3<|om 2 31 .done) .ret))))⟩
def Acj(hd:dec P f=some (Nb f1))(h1:EH P f1):RS P f:=by
 intro d s dv pv L hp;obtain⟨b,T,cv,bk,cp,hk,mb,ms,clk,c,LC,LD,bd,rfl,rfl,rfl,hg,hm,hC,hD,hc,hG⟩:=hp;have hlen:=hG.len;have hone:=hG.one;have hinn:=hG.inn;have hsyn:=hG.syn;refine AF hd (Ada rfl) ?_;show gwp P _ _ _ _ _;(refine Ad<|Al rfl<|Aa<|Ad<|Al rfl<|Aa<|Af<|Ad<|Am rfl ?_);refine CS (A:=[_]) (B:=_::_::(LC++LD)) rfl rfl h1 ?_;refine B9 d (emp::_) Vs.emp ?_;(refine Bx rfl<|Aa<|Bj rfl<|Ad<|Am rfl<|Au rfl<|Ai rfl<|Ag rfl (Aj 1 rfl rfl)<|AK rfl<|Ab rfl<|Aa<|Ay ?_);refine CB (α:=Nat×Value×Ac) (fun x=>[(0,pZ b),(3,x.2.1),(12,.slice (some ⟨bk,0,none⟩) s.kinds.length cp),(13,vZ s.kinds.length),(14,vZ x.1)])
  (fun x d' L'=>d'=d∧x.1≤s.kinds.length∧Ap 1 Bb d x.2.1 (C4 s.frm (s.kinds.take x.1) 0) x.2.2∧
   L'=x.2.2::bx b T [pZ bd,cv,vZ s.frm,.slice (some ⟨bk,0,none⟩) s.kinds.length cp,.map (some mb),vZ (wr s.round),vZ (wr s.tc)]::hk::mpI mb ms clk::(LC++LD))
  (fun x=>s.kinds.length - x.1) (0,.slice none 0 0,emp) ⟨rfl,rfl,rfl,rfl,rfl,trivial⟩ ⟨rfl,by simp only;omega,Ap.nil,rfl⟩ ?_
 rintro⟨i,v,hv⟩ ρ d' L' ⟨rfl,hi,hrow,rfl⟩;simp only at hi hrow⊢;by_cases e:i<s.kinds.length
 ·obtain⟨b1,T1,l1,c1,cs,q1,rfl,hcl,hcs,hle,⟨rfl,hb1,hb2⟩, -⟩:=Ap.at (by omega) hg e;cases q1;have c0:=hcs 0 _ rfl;have hol:(C4 s.frm (s.kinds.take i) 0).length≤8192:=Agx KY (by rw[Adz];omega);have hn:C4 s.frm (s.kinds.take (i+1)) 0=C4 s.frm (s.kinds.take i) 0++(if s.kinds[i]=2 then [((s.frm+i:Nat):Int)] else []):=by
   rw[Aea e,Pw,Adz,Nat.zero_add,Nat.min_eq_left hi]
  by_cases h2:s.kinds[i]=2
  ·rw[if_pos h2] at hn;(refine Ad<|AE rfl rfl<|Aa<|Af<|Ax rfl (by omega)<|Ak<|Af<|Ay<|Ad<|Ab rfl<|Bz _ rfl rfl rfl (by omega)<|Ag rfl (Aj 2 rfl (by assumption))<|Ab rfl<|Ab rfl<|Aa<|Ad<|Ab rfl<|AO rfl rfl<|Aa<|Ax rfl (by omega)<|AB<|AJ<|Am rfl<|Au rfl<|Ai rfl<|Ag rfl (Aj 1 rfl rfl)<|Ab rfl<|AL rfl rfl (by omega) (by omega) ?_);refine D5 rfl rfl (fun b3 T3=>?_);refine D1 (R:=Bb) 0 rfl rfl hrow rfl (Ap.Ep (x:=((s.frm+i:Nat):Int)) rfl ⟨rfl,by omega,by omega⟩) CX (by omega) (by simp;omega) (by simp;omega) (fun v' h' ho'=>?_);(refine AJ<|Aa<|AB<|AL rfl rfl (by omega) (by omega)<|Ab rfl<|Aa ?_);exact⟨(i+1,v',h'),by simp only;omega,⟨rfl,rfl,rfl,rfl,rfl,trivial⟩,rfl,e,by simp only[hn];exact ho',rfl⟩
  ·rw[if_neg h2,Aed] at hn;(refine Ad<|AE rfl rfl<|Aa<|Af<|Ax rfl (by omega)<|Ak<|Af<|Ay<|Ad<|Ab rfl<|Bz _ rfl rfl rfl (by omega)<|Ag rfl (Aj 2 rfl (by assumption))<|Ab rfl<|Ab rfl<|Aa<|Ad<|Ab rfl<|AO rfl rfl<|Aa<|Ar rfl (by omega)<|Ak<|AB<|AL rfl rfl (by omega) (by omega)<|Ab rfl<|Aa ?_);exact⟨(i+1,v,hv),by simp only;omega,⟨rfl,rfl,rfl,rfl,rfl,trivial⟩,rfl,e,by simp only[hn];exact hrow,rfl⟩
 ·have:i=s.kinds.length:=by omega
  subst this;rw[Afi] at hrow;have hol:(C4 s.frm s.kinds 0).length≤8192:=Agx KY (by omega);(refine Ad<|AE rfl rfl<|Aa<|Af<|Ar rfl (by omega)<|Bg<|Ad<|AJ<|AJ<|Aa<|An ?_);exact Bd [v] ⟨rfl,trivial⟩ (d':=join d' hv) (L':=_::_::_::(LC++LD)) Vs.freeze ⟨rfl,Le.AG _ _,Ap.rsl (R:=Bb) (sz:=1) hrow B2 (by omega) (Le.AG _ _) (Le.Ba _ _)⟩
def Tg(P:Program)(f:FuncId):Prop:=∀{d}{syn:List Sec}{dv cv lv LC LD}{m frm n:Nat}{live:List Nat},Dv d ⟨syn,[]⟩ dv LD→Ca d ⟨Adx m fz,Aek m,0,0,0⟩ dv cv LC→1≤m→m≤64→1≤n→frm+n≤syn.length→syn.length≤8192→live.Nodup→(∀k∈live,k<n)→
 C5 d lv (live.map fun k=>((frm+k:Nat):Int))→Av P f [dv,cv,vZ frm,vZ n,lv] d (LC++LD) (Ret fun r d' L'=>∃pv,r=.tuple #[pv,vZ 0]∧Le d d'∧Pg d' ⟨frm,DK n live,fun _=>[],syn,0,0⟩ dv pv L')
def TM(a0 a1 a2:Nat):A5:=⟨74,[(.tmp 10),(.tmp 11)],(sR (o1 10 (.mv (.const (.pointer none)))<|o1 11 (.mv z0) .done) (sR (om 16 0<|oc 17 a0 [16]<|om 12 17 .done) (.seq (.block 0 (sR (om 19 12<|ob 20 .eql 19 z0<|om 21 20<|gF 22 21 1<|oF 23 21 (.call a1 [22])<|oF 24 21 (.len 23)<|oF 25 21 (.bin .eql 24 z0)<|o1 26 (.pick 21 (.const (.bool true)) 25)<|om 18 26 .done) (.cond 18 (sR (o1 10 (.mv (.const (.pointer none)))<|o1 11 (.mv z1) .done) .ret) (sR (om 28 2<|ob 29 .lss 28 z0<|om 30 29<|gF 31 30 3<|oF 32 30 (.bin .lss 31 z1)<|o1 33 (.pick 30 (.const (.bool true)) 32)<|om 34 33<|gF 35 34 2<|gF 36 34 12<|oF 37 34 (.bin .gtr 35 36)<|o1 38 (.pick 34 (.const (.bool true)) 37)<|om 39 38<|gF 40 39 3<|gF 41 39 12<|gF 42 39 2<|oF 43 39 (.bin .sub 41 42)<|oF 44 39 (.bin .gtr 40 43)<|o1 45 (.pick 39 (.const (.bool true)) 44)<|om 27 45 .done) (.cond 27 (sR (o1 10 (.mv (.const (.pointer none)))<|o1 11 (.mv z2) .done) .ret) .skip))))) (sR (om 46 0<|om 47 1<|om 48 2<|om 49 3<|o1 50 (.mks 1 8 [(vZ 0)] 49 49)<|o1 51 (.mop .mk)<|o1 52 (.bld [(0,1),(1,1),(2,1),(3,1),(4,1),(5,1),(6,1)] [(.pointer none),(.pointer none),(vZ 0),(.slice none 0 0),(.map none),(vZ 0),(vZ 0)] [(0,46),(1,47),(2,48),(3,50),(4,51)])<|o1 53 (.box 52)<|om 13 53 .done) (.seq (sR (om 54 4<|oL 55 54<|o1 56 (.mv z0) .done) (.block 1 (.loop (sR (ob 57 .lss 56 55 .done) (.seq (.cond 57 .skip (.exit 1)) (.seq (.block 2 (sR (oI 58 1 54 56<|ol 59 58<|om 15 59 .done) (.seq (sR (om 60 13<|om 61 15<|oc 62 a2 [60,61]<|ob 63 .neq 62 z0 .done) (.cond 63 (sR (o1 10 (.mv (.const (.pointer none)))<|o1 11 (.mv z2) .done) .ret) .skip)) (rG (om 64 13<|o1 65 (.nilc 64)<|oj 66 3 65<|ol 67 66<|om 68 15<|om 69 2<|ob 70 .sub 68 69<|oI 71 1 67 70<|o0 (.st 1 71 z2) .done))))) (rG (ob 72 .add 56 z1<|om 56 72 .done)))))))) (sR (om 73 13<|om 10 73<|o1 11 (.mv z0) .done) .ret))))))⟩
set_option maxRecDepth 4000 in
set_option maxHeartbeats 1000000 in
def AaM(hd:dec P f=some (TM f1 f2 f3))(h1:Ih P f1)(h2:JC P f2)(h3:Ju P f3):Tg P f:=by
 intro d syn dv cv lv LC LD m frm n live hD hC hm1 hm2 hn hfn hs8 hnd hlv hl;obtain⟨bd,rfl⟩:∃bd,dv=pZ bd:=let ⟨b,_,_,_,_,_,_,h,_⟩:=hD;⟨b,h⟩
 obtain⟨bc,rfl⟩:∃bc,cv=pZ bc:=let ⟨b,_,_,_,_,_,_,_,_,h,_⟩:=hC;⟨b,h⟩
 obtain⟨xs,hxs⟩:∃xs,xs=live.map fun k=>((frm+k:Nat):Int):=⟨_,rfl⟩
 rw[←hxs] at hl;have hll:=hl.B3;have hxl:xs.length=live.length:=by rw[hxs,Aey]
 refine AF hd (Ada rfl) ?_;show gwp P _ _ _ _ _;(refine Ad<|Am rfl<|Ab rfl<|Aa<|Ad<|Am rfl ?_);have hsz:CV P f1 [pZ bd] d LD (vZ syn.length):=h1 hD;refine M3 (A:=LD) (B:=LC) Adl rfl hsz ?_;have hn0:syn.length≠0:=by omega
 (refine Ab rfl<|Aa<|Af<|Ay<|Ad<|Ab rfl<|AO rfl rfl<|Ae rfl<|Bf rfl (by omega)<|Ah rfl<|Am rfl<|Ah rfl ?_);refine DN (A:=LC) (B:=LD) rfl rfl (h2 hC (fun f hf=>by rw[(List.mem_replicate.1 hf).2];decide)) (fun v d1 L1 hl1 ⟨e1,e2⟩=>?_);subst e1;have hhl:(D7 ⟨Adx m fz,Aek m,0,0,0⟩).length=m:=by simp[D7]
 obtain⟨ah,ch,rfl⟩:=RSl.val e2;rw[hhl] at e2⊢;have hm0:m≠0:=by omega
 have hC1:=hC.mono hl1;have hD1:=hD.mono hl1;have hl':=RSl.mono (R:=Bb) B2 hl hl1;(refine Ah rfl<|AK rfl<|Ah rfl<|AO rfl rfl<|Aw rfl rfl<|Ae rfl<|Aa<|Ar rfl (by omega)<|Ad<|Ab rfl<|AE rfl rfl<|Ae rfl<|Bf rfl (by omega)<|Ah rfl<|Ab rfl<|Ah rfl<|AE rfl rfl<|Aw rfl rfl<|Ae rfl<|Bf rfl (by omega)<|Ah rfl<|Ab rfl<|Ah rfl<|Ab rfl<|Ah rfl<|BW rfl rfl<|Aw rfl rfl<|Ae rfl<|Bf rfl (by omega)<|Ah rfl<|Ab rfl<|Ah rfl<|Ab rfl<|Ah rfl<|Ab rfl<|Ah rfl<|C6 rfl rfl (by omega) (by omega)<|Ah rfl<|BW rfl rfl<|Aw rfl rfl<|Ae rfl<|Aa<|Ar rfl (by omega)<|Ak<|Ad<|Am rfl<|Am rfl<|Ab rfl<|Ab rfl ?_);refine HT (n:=n) (c:=n) rfl rfl (Adi _) (by omega) (by omega) (fun bk T0=>?_);refine Acm kI (id:Value→Value) (fun mb=>?_);refine BR (cs:=[pZ bd,pZ bc,vZ frm,.slice (some ⟨bk,0,none⟩) n n,.map (some mb),vZ 0,vZ 0]) rfl ?_;refine Cx rfl (fun b T=>?_);have hg:Ap 1 Bb d1 (.slice (some ⟨bk,0,none⟩) n n) (DK n []) (bx bk T0 (Bq [vZ 0] (n*1))):=Ap.zero rfl (by omega) ⟨rfl,by omega,by omega⟩ (by omega);refine B9 d1 (_::bx bk T0 (Bq [vZ 0] (n*1))::mpI mb [] 0::(L1++LD)) (Vs.perm (Ads _ (Aee _ _ _))) ?_;(refine Am rfl<|Aa<|Af<|Ad<|AJ<|BL rfl (by assumption)<|Ab rfl<|Aa<|Ay ?_);refine C8 (α:=Nat×Ac) (fun x=>[(2,vZ frm),(13,pZ b),(54,lv),(55,vZ xs.length),(56,vZ x.1)])
  (fun x=>bx b T [pZ bd,pZ bc,vZ frm,.slice (some ⟨bk,0,none⟩) n n,.map (some mb),vZ 0,vZ 0]::x.2::mpI mb [] 0::(L1++LD))
  (fun x=>x.1≤live.length∧Ap 1 Bb d1 (.slice (some ⟨bk,0,none⟩) n n) (DK n (live.take x.1)) x.2) (fun x=>live.length - x.1) (0,bx bk T0 (Bq [vZ 0] (n*1))) ⟨rfl,rfl,rfl,rfl,rfl,trivial⟩ rfl ⟨by simp only;omega,hg⟩ ?_
 rintro⟨i,hk⟩ ρ ⟨hi,hgi⟩;simp only at hi hgi⊢;have hln:=GF (n:=n) (l:=live.take i);by_cases e:i<live.length
 ·have hin:live[i]<n:=hlv _ (Aec e);have hnot:live[i]∉live.take i:=fun hm=>by
   obtain⟨j,hj,hjj⟩:=List.getElem_of_mem hm;rw[Adz] at hj;rw[List.getElem_take] at hjj;exact List.pairwise_iff_getElem.1 hnd j i (by omega) e (by omega) hjj
  have h0:(DK n (live.take i)).getD live[i] 0=0:=by rw[JP,if_neg (fun q=>hnot q.2)]
  obtain⟨b1,T1,l1,c1,cs,q1,rfl,hcl,hcs,hle, -,hset⟩:=Ap.at (by omega) hgi (m:=live[i]) (by omega);rw[hln] at q1;cases q1;have e':i<xs.length:=by omega
  have hxi:xs[i]=((frm+live[i]:Nat):Int):=by subst hxs;simp
  have hnx:DK n (live.take (i+1))=(DK n (live.take i)).set live[i] 2:=by rw[Aea e,Vj]
  have hkv:Hl frm (DK n (live.take i)) xs[i]=0:=by
   rw[hxi];unfold Hl;rw[hln,if_pos (by omega),show(((frm+live[i]:Nat):Int) - (frm:Int)).toNat=live[i] by omega,h0]
  have hgl:Ap 1 Bb d1 (.slice (some ⟨bk,0,none⟩) (DK n (live.take i)).length n) (DK n (live.take i)) (bx bk T1 l1):=by rw[hln];exact hgi
  have hkr:=fun{b:Nat}{T x0 x1 x4 x5 x6}=>h3 (k:=xs[i]) (frm:=frm) (b:=b) (T:=T) (x0:=x0) (x1:=x1) (x4:=x4) (x5:=x5) (x6:=x6) hgl (by omega);rw[hln,hkv] at hkr;(refine Ad<|AE rfl rfl<|Aa<|Af<|Ax rfl (by omega)<|Ak<|Af<|Ay<|Ad<|BM (sz:=1) (R:=Bb) (by rfl) (by assumption) (by rfl) rfl (by omega) ?_;rintro _ _ _ _ _ ⟨rfl,_,_⟩;refine Ag rfl (B4 (by assumption) rfl)<|Ab rfl<|Aa<|Af<|Ad<|Am rfl<|Ab rfl ?_);refine CS (A:=[_,_]) (B:=_::(L1++LD)) rfl rfl hkr ?_;(refine AN rfl rfl<|Aa<|Ar rfl (by omega)<|Ak<|AB<|Am rfl<|Au rfl<|Ai rfl<|Ag rfl (Aj 0 rfl rfl)<|Ab rfl<|Ab rfl<|C6 rfl rfl (by omega) (by omega) ?_);refine Bz live[i] rfl rfl (by rw[hxi];omega) hin ?_;skip;refine A6 1 (patch l1 (live[i]*1) [vZ 2]) rfl rfl rfl rfl hle rfl rfl ?_;(refine Aa<|AB<|AL rfl rfl (by omega) (by omega)<|Ab rfl<|Aa ?_);exact⟨(i+1,_),by simp only;omega,⟨rfl,rfl,rfl,rfl,rfl,trivial⟩,rfl,rfl,e,by rw[hnx];exact hset [vZ 2] 2 rfl ⟨rfl,by omega,by omega⟩⟩
 ·have:i=live.length:=by omega
  subst this;rw[Afi] at hgi hln;have e':¬live.length<xs.length:=by omega
  (refine Ad<|AE rfl rfl<|Aa<|Af<|Ar rfl (by omega)<|Bg<|Ad<|Am rfl<|Am rfl<|Ab rfl<|Aa<|An ?_);have hP:=Pg.mk (d:=d1) (s:=⟨frm,DK n live,fun _=>[],syn,0,0⟩) (b:=b) (T:=T) (cv:=pZ bc) (bk:=bk) (cp:=n) (mb:=mb) (clk:=0) (c:=⟨Adx m fz,Aek m,0,0,0⟩) (LC:=L1) (LD:=LD) (bd:=bd) hln
   hgi (ms:=[]) (fun j hj hj1=>by
    have h0:(DK n live).getD j 0=1:=hj1;rw[JP] at h0;split at h0<;>cases h0) hC1 hD1 (CJ.new hm1 hm2) (Good.new hn hfn hs8)
  exact CO rfl rfl (Adb _) ⟨_,rfl,hl1,hP⟩
def Le.dcs{b:Nat}{T l}(h:Le (bx b T l) d):DCs d b 0 l:=⟨_,_,_,h b _ (Cv _ _),fun i u hi=>by simpa using hi⟩
def Vs.Abc{a b c L}:Vs d (a::b::c::L) (join (join (join d a) b) c) L:=Vs.freeze.trans (Vs.freeze.trans Vs.freeze)
def Ap.WL{d' v}{xs:List Int}{h}(o:Ap 1 Bb d v xs h):Ap 1 Bb d' v xs h:=let ⟨cs,h1,h2⟩:=o;⟨cs,h1,h2⟩
def Mk(d:Ac)(m:MD)(frm:Nat)(pv v:Value):Prop:=∃bm bk cp mq ms clk,v=pZ bm∧DCs d bm 0 [pv,vZ (wr m.round),.slice (some ⟨bk,0,none⟩) m.kinds.length cp,.map (some mq)]∧RSl 1 Bb d (.slice (some ⟨bk,0,none⟩) m.kinds.length cp) m.kinds∧
 Le (mpI mq ms clk) d∧MH d frm m.kinds m.fb ms
def Mk.mono{d'}{m:MD}{frm:Nat}{pv v}(h:Mk d m frm pv v)(hl:Le d d'):Mk d' m frm pv v:=
 let ⟨bm,bk,cp,mq,ms,clk,h1,h2,h3,h4,h5⟩:=h
 ⟨bm,bk,cp,mq,ms,clk,h1,h2.mono hl,RSl.mono (R:=Bb) B2 h3 hl,h4.trans hl,h5.mono hl⟩
def WY(x a b c:Ac)(L:List Ac):(x::a::b::c::L).Perm (a::b::c::x::L):=
 (Aee a x _).trans (Ads _ ((Aee b x _).trans (Ads _ (Aee c x _))))
def Lh(P:Program)(f:FuncId):Prop:=∀{d s dv pv L},Pg d s dv pv L→Av P f [pv] d L (Ret fun r d' L'=>L'=L∧Le d d'∧Mk d' s.mark s.frm pv r)
def Mt(a0 a1 a2:Nat):A5:=⟨22,[(.tmp 2)],(sR (o1 2 (.mv (.const (.pointer none))) .done) (.seq (sR (om 3 0<|oc 4 a0 [3] .done) (.cond 4 (sR (o1 2 (.mv (.const (.pointer none))) .done) .ret) .skip)) (.seq (.reg true (pm 5 0<|pm 6 0<|p1 7 (.nilc 6)<|p1 8 (.fld 5 7)<|pl 9 8<|pm 10 0<|p1 11 (.nilc 10)<|p1 12 (.fld 3 11)<|pl 13 12<|pm 15 0<|p1 16 (.nilc 15)<|p1 17 (.fld 4 16)<|pl 18 17<|oc 14 a1 [13]<|oc 19 a2 [18]<|p1 20 (.bld [(0,1),(1,1),(2,1),(3,1)] [(.pointer none),(vZ 0),(.slice none 0 0),(.map none)] [(0,5),(1,9),(2,14),(3,19)])<|o1 21 (.box 20) (.bar (pm 2 21 .done)))) .ret)))⟩
set_option maxRecDepth 4000 in
set_option maxHeartbeats 1000000 in
def Aaw(hd:dec P f=some (Mt f1 f2 f3))(h1:EH P f1)(h2:Ef Bb 8 P f2)(h3:HP P f3):Lh P f:=by
 intro d s dv pv L hp;obtain⟨b,T,cv,bk,cp,hk,mb,ms,clk,c,LC,LD,bd,rfl,rfl,rfl,hg,hm,hC,hD,hc,hG⟩:=hp;have hlen:=hG.len;have hone:=hG.one;refine AF hd (Ada rfl) ?_;show gwp P _ _ _ _ _;(refine Ad<|Am rfl<|Aa<|Af<|Ad<|Am rfl ?_);refine CS (A:=[_]) (B:=_::_::(LC++LD)) rfl rfl h1 ?_;(refine Aa<|AS rfl<|Ak<|Af ?_);refine Bv [_] (hk::mpI mb ms clk::(LC++LD)) rfl ?_;(refine Am rfl<|Am rfl<|Au rfl<|Ai rfl<|Ag rfl (Aj 0 rfl rfl)<|Am rfl<|Au rfl<|Ai rfl<|Ag rfl (Aj 0 rfl rfl)<|Am rfl<|Au rfl<|Ai rfl<|Ag rfl (Aj 0 rfl rfl) ?_);refine JA (Q:=fun v L'=>∃h,L'=[h]∧Ap 1 Bb d v s.kinds h) rfl (fun d1 hl1 hk1=>?_) (fun v L1 ⟨h,e1,hrow⟩=>?_)
 ·exact Av.DL (h2 (xs:=s.kinds) (Ap.rsl (R:=Bb) hg B2 (by omega) hl1 (hk1 _ (Ado ..))) (by omega)) (fun r d' L' _ ⟨q1,h,q2,q3⟩=>⟨d',L',Vs.refl _ _,q1,h,q2,Ap.WL q3⟩)
 subst e1;skip;refine JA (Q:=fun v L'=>∃q,v=.map (some q)∧L'=[mpI q ms clk]) rfl (fun d1 hl1 hk1=>h3 (hk1 _ (by simp))) (fun v1 L1 ⟨q,e1,e2⟩=>?_);subst e1;subst e2;obtain⟨b1,T1,l1,c1,cs,q1, -, -, -, -, -, -⟩:=Ap.at (m:=0) (by omega) hrow (by omega);subst q1;refine BR (cs:=[pZ b,vZ (wr s.round),.slice (some ⟨b1,0,none⟩) s.kinds.length c1,.map (some q)]) rfl ?_;refine Cx rfl (fun bm Tm=>?_);(refine Ch<|Am rfl<|Aa<|An ?_);refine Bd [pZ bm] ⟨rfl,trivial⟩ (L':=bx b T [pZ bd,cv,vZ s.frm,.slice (some ⟨bk,0,none⟩) s.kinds.length cp,.map (some mb),vZ (wr s.round),vZ (wr s.tc)]::hk::mpI mb ms clk::(LC++LD))
  ((Vs.perm (WY _ _ _ _ _)).trans Vs.Abc) ⟨rfl,?_,bm,b1,c1,q,ms,clk,rfl,?_,?_,?_,?_⟩
 ·exact((Le.AG _ _).trans (Le.AG _ _)).trans (Le.AG _ _)
 ·exact Le.dcs (((Le.Ba _ _).trans (Le.AG _ _)).trans (Le.AG _ _))
 ·exact Ap.rsl (R:=Bb) (sz:=1) hrow B2 (by omega) (((Le.AG _ _).trans (Le.AG _ _)).trans (Le.AG _ _)) (Le.Ba _ _)
 ·exact(Le.Ba _ _).trans (Le.AG _ _)
 ·exact hm.mono (((Le.AG _ _).trans (Le.AG _ _)).trans (Le.AG _ _))
def Abm{a b x e f R}:Vs d (a::b::x::e::f::R) d (x::b::a::R):=
 (Vs.drop (.cons_cons _ (.cons_cons _ (.cons_cons _ (.cons _ (.cons _ (Adb _))))))).trans (Vs.perm ((Ads _ (Aee x b R)).trans ((Aee x a (b::R)).trans (Ads _ (Aee b a R)))))
def K6(P:Program)(f:FuncId):Prop:=∀{d s dv pv v L}{m:MD},Pg d s dv pv L→Mk d m s.frm pv v→(wr m.round=wr s.round→Og m.kinds s.kinds∧∀i,0≤m.kinds.getD i 0∧m.kinds.getD i 0≤3)→
 Av P f [pv,v] d L (Ret fun r d' L'=>d'=d∧(wr m.round=wr s.round→r=vZ 0∧Pg d (s.back m) dv pv L')∧(wr m.round≠wr s.round→r=vZ 2∧Pg d s dv pv L'))
def Ml(a0 a1 a2:Nat):A5:=⟨46,[(.tmp 4)],(sR (o1 4 (.mv z0) .done) (.seq (.block 0 (sR (om 6 0<|oc 7 a0 [6]<|om 8 7<|gF 9 8 1<|oF 10 8 (.eqp false 9 (.const (.pointer none)))<|o1 11 (.pick 8 (.const (.bool true)) 10)<|om 5 11 .done) (.cond 5 (sR (o1 4 (.mv z1) .done) .ret) (.seq (.reg true (pm 13 1<|p1 14 (.nilc 13)<|p1 15 (.fld 0 14)<|pl 16 15<|pm 17 0<|p1 18 (.eqp true 16 17)<|pm 19 18 (.op true ⟨(some 20),(some (19,false)),(.mv 1)⟩ (.op true ⟨(some 21),(some (19,false)),(.nilc 20)⟩ (.op true ⟨(some 22),(some (19,false)),(.fld 1 21)⟩ (.op true ⟨(some 23),(some (19,false)),(.ld none 22)⟩ (.op true ⟨(some 24),(some (19,false)),(.mv 0)⟩ (.op true ⟨(some 25),(some (19,false)),(.nilc 24)⟩ (.op true ⟨(some 26),(some (19,false)),(.fld 5 25)⟩ (.op true ⟨(some 27),(some (19,false)),(.ld none 26)⟩ (.op true ⟨(some 28),(some (19,false)),(.bin .neq 23 27)⟩ (p1 29 (.pick 19 (.const (.bool true)) 28) (pm 12 29 .done))))))))))))) (.cond 12 (sR (o1 4 (.mv z2) .done) .ret) .skip))))) (.seq (.reg true (pm 30 0<|pm 31 0<|pm 32 1<|p1 33 (.nilc 32)<|p1 34 (.fld 2 33)<|pl 35 34<|pm 37 1<|p1 38 (.nilc 37)<|p1 39 (.fld 3 38)<|pl 40 39<|oc 36 a1 [35]<|oc 41 a2 [40]<|p1 42 (.nilc 30)<|p1 43 (.fld 3 42)<|o0 (.st 1 43 36)<|p1 44 (.nilc 31)<|p1 45 (.fld 4 44)<|o0 (.st 1 45 41) .done)) (sR (o1 4 (.mv z0) .done) .ret))))⟩
set_option maxRecDepth 4000 in
set_option maxHeartbeats 1000000 in
def AaA(hd:dec P f=some (Ml f1 f2 f3))(h1:EH P f1)(h2:Ef Bb 8 P f2)(h3:HP P f3):K6 P f:=by
 intro d s dv pv v L m hp hmk hor;have hp0:=hp;obtain⟨b,T,cv,bk,cp,hk,mb,ms,clk,c,LC,LD,bd,rfl,rfl,rfl,hg,hm,hC,hD,hc,hG⟩:=hp;obtain⟨bm,bmk,mcp,mq,mms,mclk,rfl,hmd,hmr,hml,hmm⟩:=hmk;have hlen:=hG.len;have hone:=hG.one;refine AF hd (Ada rfl) ?_;show gwp P _ _ _ _ _;(refine Ad<|Ab rfl<|Aa<|Af<|Ay<|Ad<|Am rfl ?_);refine CS (A:=[_]) (B:=_::_::(LC++LD)) rfl rfl h1 ?_;(refine Ae rfl<|Ah rfl<|Am rfl<|Ah rfl<|Dk rfl rfl<|Aw rfl rfl<|Ae rfl<|Aa<|AS rfl<|Af ?_);refine Bv [_] (hk::mpI mb ms clk::(LC++LD)) rfl ?_;(refine Am rfl<|Au rfl<|Ai rfl<|Ag rfl (Fy (by assumption) rfl)<|Am rfl ?_);refine AbV rfl rfl ?_;by_cases hw:wr m.round=wr s.round
 ·obtain⟨hog,hrng⟩:=hor hw;have hol:=hog.1;(refine Ae rfl<|Ah rfl<|Am rfl<|Ah rfl<|Au rfl<|Ah rfl<|Ai rfl<|Ah rfl<|Ag rfl (Fy (by assumption) rfl)<|Ah rfl<|Am rfl<|Ah rfl<|Au rfl<|Ah rfl<|Ai rfl<|Ah rfl<|Ag rfl (Aj 0 rfl rfl)<|Ah rfl<|AN rfl rfl<|Aw rfl rfl<|Ae rfl<|A9<|Ar rfl (by omega)<|Ak<|Af ?_);refine Bv [] (bx b T [pZ bd,cv,vZ s.frm,.slice (some ⟨bk,0,none⟩) s.kinds.length cp,.map (some mb),vZ (wr s.round),vZ (wr s.tc)]::hk::mpI mb ms clk::(LC++LD)) rfl ?_;(refine Am rfl<|Am rfl<|Am rfl<|Au rfl<|Ai rfl<|Ag rfl (Fy (by assumption) rfl)<|Am rfl<|Au rfl<|Ai rfl<|Ag rfl (Fy (by assumption) rfl) ?_);refine JA (Q:=fun v L'=>∃h,L'=[h]∧Ap 1 Bb d v m.kinds h) rfl (fun d1 hl1 hk1=>Av.DL (h2 (xs:=m.kinds) (RSl.mono (R:=Bb) B2 hmr hl1) (by omega)) (fun r d' L' _ ⟨q1,h,q2,q3⟩=>⟨d',L',Vs.refl _ _,q1,h,q2,Ap.WL q3⟩)) (fun v L1 ⟨h,e1,hrow⟩=>?_);subst e1;refine JA (Q:=fun v L'=>∃q,v=.map (some q)∧L'=[mpI q mms mclk]) rfl (fun d1 hl1 hk1=>h3 (hml.trans hl1)) (fun v1 L1 ⟨q,e1,e2⟩=>?_);subst e1;subst e2;obtain⟨b1,T1,l1,c1,cs,q1, -, -, -, -, -, -⟩:=Ap.at (m:=0) (by omega) hrow (by omega);subst q1;(refine Au rfl<|Ai rfl ?_);refine A6 2 [pZ bd,cv,vZ s.frm,.slice (some ⟨b1,0,none⟩) m.kinds.length c1,.map (some mb),vZ (wr s.round),vZ (wr s.tc)] rfl rfl rfl rfl (Ada rfl) rfl rfl ?_;(refine Au rfl<|Ai rfl ?_);refine A6 2 [pZ bd,cv,vZ s.frm,.slice (some ⟨b1,0,none⟩) m.kinds.length c1,.map (some q),vZ (wr s.round),vZ (wr s.tc)] rfl rfl rfl rfl (Ada rfl) rfl rfl ?_;have hP:=Pg.mk (d:=d) (s:=s.back m) (b:=b) (T:=T) (cv:=cv) (bk:=b1) (cp:=c1) (mb:=q) (ms:=mms) (clk:=mclk) (c:=c) (LC:=LC) (LD:=LD) (bd:=bd) rfl hrow hmm hC hD (hc.to rfl rfl hog)
   ⟨by show 1≤m.kinds.length;omega,by show m.kinds.length≤8192;omega,by show s.frm+m.kinds.length≤s.syn.length;rw[hol];exact hG.inn,hG.syn,hrng⟩
  (refine Aa<|Ad<|Ab rfl<|Aa<|An ?_);exact Bd [vZ 0] ⟨rfl,trivial⟩ Abm ⟨rfl,fun _=>⟨rfl,hP⟩,fun e=>absurd hw e⟩
 ·(refine Ae rfl<|Ah rfl<|Am rfl<|Ah rfl<|Au rfl<|Ah rfl<|Ai rfl<|Ah rfl<|Ag rfl (Fy (by assumption) rfl)<|Ah rfl<|Am rfl<|Ah rfl<|Au rfl<|Ah rfl<|Ai rfl<|Ah rfl<|Ag rfl (Aj 0 rfl rfl)<|Ah rfl<|AN rfl rfl<|Aw rfl rfl<|Ae rfl<|A9<|Ax rfl (by omega)<|Ad<|Ab rfl<|Aa<|An ?_);exact BO rfl (Adb _) ⟨rfl,fun e=>absurd e hw,fun _=>⟨rfl,hp0⟩⟩
end Go.Gk.Pgr
end
section
namespace Go.Gk.Cch
open Go Go.Gk Go.Gk.Dev
attribute [local irreducible] gwp gws xwp
section
def Cov(d:Ac)(c:CD)(D:EG)(cv:Value)(L:List Ac):Prop:=∃dv LC LD,L=LC++LD∧Ca d c dv cv LC∧Dv d D dv LD
def Cov.mono{d d'}{c:CD}{D:EG}{cv L}(h:Cov d c D cv L)(hl:Le d d'):Cov d' c D cv L:=
 let ⟨dv,LC,LD,h1,h2,h3⟩:=h
 ⟨dv,LC,LD,h1,h2.mono hl,h3.mono hl⟩
def Cov.ptr{d}{c:CD}{D:EG}{cv L}(h:Cov d c D cv L):∃b,cv=pZ b:=by
 obtain⟨dv,LC,LD,rfl,⟨b, -, -, -, -, -, -, -, -,h, -⟩, -⟩:=h;exact⟨b,h⟩
section
variable {P:Program}{f:FuncId}{d:Ac}{c:CD}{D:EG}{cv:Value}{L:List Ac}{k:Nat}
def Ms.cov(h:Ms P f)(hc:Cov d c D cv L)(hp:LQ c 4611686018427387904)(hk:k<D.syn.length):
  Av P f [cv,vZ k] d L (Ret fun r d' L'=>Cov d' (E0 (D.cur k) c k).1 D cv L'∧Acd d' r (E0 (D.cur k) c k).2):=by
 obtain⟨dv,LC,LD,rfl,h1,h2⟩:=hc
 refine(h h1 h2 hp hk).mono (fun e d' L' hl hr=>?_)
 cases e with
 |returned v=>obtain⟨LC',LD',rfl,g1,g2,g3⟩:=hr;exact⟨⟨dv,LC',LD',rfl,g1,g2⟩,g3⟩
 |panicked c=>exact hr
 |outgrown=>exact hr
def LB{args A B R R'}(h:Av P f args d A (Ret R))(hR:∀v d' A',Le d d'→R v d' A'→R' v d' (A'++B)):Av P f args d (A++B) (Ret R'):=by
 refine(h.frame B).mono (fun e d' L' hl hr=>?_);obtain⟨A',rfl,hr⟩:=hr;cases e with
 |returned v=>exact hR v d' A' hl hr
 |panicked c=>exact hr
 |outgrown=>exact hr
def Ir.cov(h:Ir P f)(hc:Cov d c D cv L)(hp:LQ c 4611686018427387904):
  Av P f [cv,vZ k] d L (Ret fun r d' L'=>r=vZ (Dc c k).2∧Cov d' (Dc c k).1 D cv L'):=by
 obtain⟨dv,LC,LD,rfl,h1,h2⟩:=hc
 exact LB (h (k:=k) h1 hp) (fun v d' A' hl ⟨g1,g2,g3⟩=>⟨g2,dv,A',LD,rfl,g3.mono (by rw[g1];exact Le.refl _),h2.mono hl⟩)
def HF.cov(h:HF P f)(hc:Cov d c D cv L)(hp:∀i,findF k c.fr=some i→c.free.length<c.fr.length):
  Av P f [cv,vZ k] d L (Ret fun r d' L'=>r=vZ (Da c k).2∧Cov d' (Da c k).1 D cv L'):=by
 obtain⟨dv,LC,LD,rfl,h1,h2⟩:=hc
 exact LB (h (k:=k) h1 hp) (fun v d' A' hl ⟨g1,g2,g3⟩=>⟨g2,dv,A',LD,rfl,g3.mono (by rw[g1];exact Le.refl _),h2.mono hl⟩)
def JC.cov(h:JC P f)(hc:Cov d c D cv L)(hs:∀f∈c.fr,f.sec≤8192):Av P f [cv] d L (Ret fun r d' L'=>L'=L∧C5 d' r (D7 c)):=by
 obtain⟨dv,LC,LD,rfl,h1,h2⟩:=hc;exact LB (h h1 hs) (fun v d' A' hl ⟨g1,g2⟩=>⟨by rw[g1],g2⟩)
def Xw.cov(h:Xw P f)(hc:Cov d c D cv L):CV P f [cv] d L (vZ (wr c.hits)):=by
 obtain⟨dv,LC,LD,rfl,h1,h2⟩:=hc;exact LB (h h1) (fun v d' A' hl ⟨g1,g2,g3⟩=>⟨g1,g2,by rw[g3]⟩)
def Sx.cov(h:Sx P f)(hc:Cov d c D cv L):CV P f [cv] d L (vZ (wr c.miss)):=by
 obtain⟨dv,LC,LD,rfl,h1,h2⟩:=hc;exact LB (h h1) (fun v d' A' hl ⟨g1,g2,g3⟩=>⟨g1,g2,by rw[g3]⟩)
end
end
end Go.Gk.Cch
end
section
namespace Go.Gk.Pgr
open Go Go.Gk Go.Gk.Dev Go.Gk.Cch Go.Gk.Node
section
attribute [local irreducible] gwp gws xwp
end
section
attribute [local irreducible] gwp gws xwp
end
end Go.Gk.Pgr
end
section
namespace Go.Gk.Pgr
open Go Go.Gk Go.Gk.Dev Go.Gk.Cch Go.Gk.Node
attribute [local irreducible] gwp gws xwp
section
section
variable {P:Program}{pan:List PanicEntry→AR}{Qn:Env→AR}{Ls L:List Ac}{ρ:Env}{d:Ac}{s:GS}{t:Nat}{tk:Bool}
end
structure AD where
 kind:Int
 k:Int
 by_:UInt8
abbrev ZW(b:UInt8):Sec:=Adx 256 b
def PD.act(s:PD)(a:AD):PD:=
 if a.kind=0 then(if s.AX.2.2=0 then(s.AX.1.put s.AX.2.1 (ZW a.by_)).1 else s.AX.1)
 else if a.kind=1 then(s.put (2+a.k % 8) (ZW a.by_)).1
 else if a.kind=3 then(s.drop (2+a.k % 8)).1
 else if a.kind=4 then s.flush
 else s
def PD.run(s:PD)(l:List AD):PD:=l.foldl PD.act s
end
end Go.Gk.Pgr
end
section
namespace Go.Gk.Pgr
open Go Go.Gk Go.Gk.Dev Go.Gk.Cch
variable{s t:PD}{i:Nat}{k:Int}{d:Ac}
structure AH (s t:PD):Prop where
 frm:t.frm=s.frm
 len:t.kinds.length=s.kinds.length
 syn:t.syn.length=s.syn.length
 old:∀i,2≤s.kd i→2≤t.kd i
 new:∀i,2≤t.kd i→2≤s.kd i
 sec:∀i,2≤s.kd i→t.syn.getD (s.frm+i) []=s.syn.getD (s.frm+i) []
 round:t.round=s.round
def AH.refl(s:PD):AH s s:=⟨rfl,rfl,rfl,fun _ h=>h,fun _ h=>h,fun _ _=>rfl,rfl⟩
def AH.trans{u}(h:AH s t)(k:AH t u):AH s u:=
 ⟨k.frm.trans h.frm,k.len.trans h.len,k.syn.trans h.syn,fun i hi=>k.old i (h.old i hi),fun i hi=>h.new i (k.new i hi),fun i hi=>by have:=k.sec i (h.old i hi);rw[h.frm] at this;exact this.trans (h.sec i hi),k.round.trans h.round⟩
def AH.set{x:Int}{fb:Nat→Sec}(h:2≤s.kd i↔2≤x):AH s {s with kinds:=s.kinds.set i x,fb:=fb}:=by
 have key:∀j,2≤s.kd j↔2≤(s.kinds.set i x).getD j 0:=fun j=>by
  by_cases hi:i<s.kinds.length
  ·rw[De hi];by_cases e:j=i
   ·subst e;rw[if_pos rfl];exact h
   ·rw[if_neg e]
  ·rw[List.set_eq_of_length_le (by omega)]
 exact⟨rfl,by simp,rfl,fun j hj=>(key j).1 hj,fun j hj=>(key j).2 hj,fun _ _=>rfl,rfl⟩
def AH.fb{fb:Nat→Sec}:AH s {s with fb:=fb}:=⟨rfl,rfl,rfl,fun _ h=>h,fun _ h=>h,fun _ _=>rfl,rfl⟩
def AH.tc{tc:Nat}:AH s {s with tc:=tc}:=⟨rfl,rfl,rfl,fun _ h=>h,fun _ h=>h,fun _ _=>rfl,rfl⟩
def AH.AX(s:PD):AH s s.AX.1:=by
 unfold PD.AX;cases h:Db 0 s.kinds with
 |none=>exact AH.refl s
 |some i=>
  obtain⟨h1,h2⟩:=F9 h
  exact AH.set (by rw[GJ h1,h2];decide)
def AH.put(s:PD)(k:Int)(b:Sec):AH s (s.put k b).1:=by
 unfold PD.put;split
 ·split
  ·exact AH.fb
  ·exact AH.refl s
 ·exact AH.refl s
def AH.drop(s:PD)(k:Int):AH s (s.drop k).1:=by
 unfold PD.drop;split
 ·rename_i h;obtain⟨i,h1,rfl,h2,h3⟩:=CA h (by omega);rw[h3];exact AH.set (by rw[h2];decide)
 ·split
  ·rename_i h;obtain⟨i,h1,rfl,h2,h3⟩:=CA h (by omega);rw[h3];exact AH.set (by rw[h2];decide)
  ·exact AH.refl s
def Ty(h:s.kd i≠1):s.flush.syn.getD (s.frm+i) []=s.syn.getD (s.frm+i) []:=by
 refine Lj (fun w hw e=>?_);obtain⟨j,h4,h5,rfl⟩:=Ke hw;simp only at e;rw[show j=i by omega] at h5;exact h h5
def AH.flush(s:PD):AH s s.flush:=⟨rfl,rfl,EM _ _,fun _ h=>h,fun _ h=>h,fun i hi=>Ty (by omega),rfl⟩
def AH.act(s:PD)(a:AD):AH s (s.act a):=by
 unfold PD.act;split
 ·split
  ·exact(AH.AX s).trans (AH.put _ _ _)
  ·exact AH.AX s
 ·split
  ·exact AH.put _ _ _
  ·split
   ·exact AH.drop _ _
   ·split
    ·exact AH.flush s
    ·exact AH.refl s
def AH.run(l:List AD):∀s:PD,AH s (s.run l):=by
 induction l with
 |nil=>exact fun s=>AH.refl s
 |cons a l ih=>exact fun s=>(AH.act s a).trans (ih (s.act a))
def AH.AbO(h:AH s t)(hk:s.kind k=2):t.syn.getD k.toNat []=s.syn.getD k.toNat []:=by
 obtain⟨i,h1,rfl,h2,h3⟩:=CA hk (by omega);exact h.sec i (by omega)
def Dv.sec{D:EG}{v L}(h:Dv d D v L){k:Nat}(hk:k<D.syn.length):(D.syn.getD k []).length=256:=by
 obtain⟨b,T,vs,vo,r,hs,ho, -, -,h3, -⟩:=h;obtain⟨cs,h1,h2⟩:=h3;rw[Adh,Ade hk];exact(h2 k hk).2
def Pg.dev{dv pv L}(h:Pg d s dv pv L):∃A LD,L=A++LD∧Dv d ⟨s.syn,[]⟩ dv LD:=by
 obtain⟨b,T,cv,bk,cp,hk,mb,ms,clk,c,LC,LD,bd,h1,h2,h3,h4,h5,h6,h7,h8,h9⟩:=h;exact⟨_::hk::mpI mb ms clk::LC,LD,h3,h7⟩
def AH.og(h:AH s t):Og s.kinds t.kinds:=⟨h.len.symm,fun i=>⟨h.old i,h.new i⟩⟩
def AH.back(h:AH s t):AH s (t.back s.mark):=⟨h.frm,rfl,h.syn,fun _ q=>q,fun _ q=>q,h.sec,h.round⟩
def PD.bytes(s:PD)(k:Int):Sec:=if s.kind k=1 then s.fb (k - s.frm).toNat else if s.kind k=2 then s.syn.getD k.toNat [] else []
def PD.Is(s:PD)(k:Int):Int:=if s.kind k=1 then 0 else if s.kind k=2 then 0 else 240
def LL(h:AH s t)(k:Int):(t.back s.mark).kind k=s.kind k:=by
 unfold PD.kind;rw[show(t.back s.mark).frm=s.frm from h.frm];rfl
def VH(h:AH s t)(k:Int):(t.back s.mark).bytes k=s.bytes k:=by
 have hk:=LL h k;unfold PD.bytes;rw[hk];by_cases h1:s.kind k=1
 ·rw[if_pos h1,if_pos h1,show(t.back s.mark).frm=s.frm from h.frm];rfl
 ·rw[if_neg h1,if_neg h1];by_cases h2:s.kind k=2
  ·rw[if_pos h2,if_pos h2];exact h.AbO h2
  ·rw[if_neg h2,if_neg h2]
def eb(x:Int):UInt8:=UInt8.ofNat (x % 256).toNat
def PD.Aco(s:PD)(n:Nat):List UInt8:=(Aek n).flatMap fun(k:Nat)=>s.bytes (k:Int)++[eb (s.Is (k:Int))]
def PD.look(s:PD):List UInt8:=s.Aco 12++s.B5.map eb++[eb s.free]
def Sd{n:Nat}:PD.bytes {s with tc:=n} k=s.bytes k:=rfl
def Aap{n:Nat}:PD.Is {s with tc:=n} k=s.Is k:=rfl
def IQ(h:s.kind k=2):s.bytes k=s.syn.getD k.toNat []:=by unfold PD.bytes;rw[if_neg (by omega),if_pos h]
def FE.at{P f}(h:FE P f){dv pv L}(hp:Pg d s dv pv L):
  Av P f [pv,vZ k] d L (Ret fun r d' L'=>∃a c tc,r=.tuple #[.slice a (s.bytes k).length c,vZ (s.Is k)]∧AM d' (.slice a (s.bytes k).length c) (s.bytes k)∧Pg d' {s with tc:=tc} dv pv L'):=by
 refine Av.DL (h (k:=k) hp) (fun r d' L' _ ⟨⟨q,q1,q2⟩,q3⟩=>⟨d',L',Vs.refl _ _,?_⟩)
 subst q1
 unfold PD.bytes PD.Is
 unfold PD.get at q2 q3⊢
 by_cases h1:s.kind k=1
 ·simp only[if_pos h1] at q2 q3⊢
  obtain⟨a,c,rfl⟩:=RSl.val q2
  exact⟨a,c,_,rfl,q2,q3⟩
 ·by_cases h2:s.kind k=2
  ·simp only[if_neg h1,if_pos h2] at q2 q3⊢
   obtain⟨a,c,rfl⟩:=RSl.val q2
   exact⟨a,c,_,rfl,q2,q3⟩
  ·simp only[if_neg h1,if_neg h2] at q2 q3⊢
   obtain rfl:q=.slice none 0 0:=q2
   exact⟨none,0,s.tc,rfl,RSl.nil,q3⟩
def QQ{l:List Sec}{j:Nat}{x:Sec}(hi:i<l.length):(l.set i x).getD j []=if j=i then x else l.getD j []:=by
 simp only[Adh,List.getElem?_set];by_cases e:i=j
 ·subst e;simp[hi]
 ·rw[if_neg e,if_neg (fun h=>e h.symm)]
def KD(hin:s.frm+s.kinds.length≤s.syn.length)(h1:s.kd i=1):∀{n:Nat},n≤s.kinds.length→i<n→(synced (s.writes n) s.syn).getD (s.frm+i) []=s.fb i
 |n+1,hn,hi=>by
  rw[PD.writes];by_cases e:i=n
  ·subst e;rw[if_pos h1,Jj,QQ (by rw[EM];omega),if_pos rfl]
  ·have ih:=KD hin h1 (n:=n) (by omega) (by omega);split
   ·rw[Jj,QQ (by rw[EM];omega),if_neg (by omega)];exact ih
   ·rw[Aed];exact ih
abbrev PD.fin(s:PD):PD:=s.flush.done
def Sf:s.fin.kind k=Dg (s.kind k):=by
 unfold PD.kind;have h1:s.fin.frm=s.frm:=rfl;have h2:s.fin.kinds.length=s.kinds.length:=by simp[PD.fin,PD.done,PD.flush]
 rw[h1,h2];split
 ·show(s.kinds.map Dg).getD _ 0=_;rw[getD_map]
 ·rfl
def Q4(hG:Good s):s.fin.bytes k=s.bytes k:=by
 have hk:=Sf (s:=s) (k:=k);have hrng:s.kind k= -1∨(0≤s.kind k∧s.kind k≤3):=by
  unfold PD.kind;split
  ·exact .inr (hG.kd _)
  ·exact .inl rfl
 have hin:=hG.inn;by_cases h1:s.kind k=1
 ·rw[h1] at hk;have hk2:s.fin.kind k=2:=hk;rw[IQ hk2];obtain⟨i,i1,rfl,i2,i3⟩:=CA h1 (by omega);have:s.bytes ((s.frm+i:Nat):Int)=s.fb i:=by unfold PD.bytes;rw[if_pos h1,i3]
  rw[this];exact KD hin i2 (Adi _) i1
 ·by_cases h2:s.kind k=2
  ·rw[h2] at hk;have hk2:s.fin.kind k=2:=hk;rw[IQ hk2,IQ h2];obtain⟨i,i1,rfl,i2,i3⟩:=CA h2 (by omega);exact Ty (by omega)
  ·have h3:s.fin.kind k≠1∧s.fin.kind k≠2:=by
    rw[hk];unfold Dg;by_cases q:s.kind k=3
    ·rw[if_pos q];omega
    ·rw[if_neg q,if_neg h1];omega
   unfold PD.bytes;rw[if_neg h3.1,if_neg h3.2,if_neg h1,if_neg h2]
def Pg.full{dv pv L}(h:Pg d s dv pv L)(hk:s.kind k=1∨s.kind k=2):(s.bytes k).length=256:=by
 have hG:=h.Fm;obtain⟨A,LD, -,hD⟩:=h.dev;obtain⟨b,T,cv,bk,cp,hkk,mb,ms,clk,c,LC,LD,bd,h1,h2,h3,h4,h5, -⟩:=h;have hin:=hG.inn;rcases hk with hk|hk
 ·obtain⟨i,i1,rfl,i2,i3⟩:=CA hk (by omega);obtain⟨v, -, -,q⟩:=h5 i i1 i2;unfold PD.bytes;rw[if_pos hk,i3];exact q
 ·obtain⟨i,i1,rfl,i2,i3⟩:=CA hk (by omega);rw[IQ hk];exact Dv.sec hD (show((s.frm+i:Nat):Int).toNat<s.syn.length by omega)
def V3(h1:s.kind k≠1)(h2:s.kind k≠2):s.bytes k=[]:=by unfold PD.bytes;rw[if_neg h1,if_neg h2]
def LM(hG:Good s):s.fin.kd i=0∨s.fin.kd i=2:=by
 show(s.kinds.map Dg).getD i 0=0∨(s.kinds.map Dg).getD i 0=2;rw[getD_map];have h:0≤s.kinds.getD i 0∧s.kinds.getD i 0≤3:=hG.kd i;unfold Dg;by_cases q:s.kinds.getD i 0=3
 ·rw[if_pos q];omega
 ·rw[if_neg q];by_cases q1:s.kinds.getD i 0=1
  ·rw[if_pos q1];omega
  ·rw[if_neg q1];omega
def F4{frm:Nat}:∀{l:List Int}{i:Nat},(C4 frm l i).length=l.countP (·==2)
 |[],_=>rfl
 |x::l,i=>by
  rw[C4];by_cases e:x=2
  ·rw[if_pos e,Adm,F4,Aiq (by simpa using e)]
  ·rw[if_neg e,F4,Air (by simpa using e)]
def QX:∀{l:List Int},(∀x∈l,x=0∨x=2)→l.countP (·==0)+l.countP (·==2)=l.length
 |[],_=>rfl
 |x::l,h=>by
  have ih:=QX (l:=l) (fun y hy=>h y (List.mem_cons_of_mem _ hy));rcases h x (Ado ..) with rfl|rfl
  ·rw[Aiq (by decide),Air (by decide),Adm];omega
  ·rw[Air (by decide),Aiq (by decide),Adm];omega
end Go.Gk.Pgr
end
section
namespace Go.Gk
open Go
variable{n:Nat}{d:Ac}
section
def MR(X:List Nat)(a0 a:Act):Prop:=∀t,t∉X→a.tmps[t]?=a0.tmps[t]?
def MR.put{X:List Nat}{a0 a:Act}(h:MR X a0 a){dst:Option Nat}(hd:∀t,dst=some t→t∈X)(v:Value):MR X a0 (a.put dst v):=by
 intro t ht;cases dst with
 |none=>exact h t ht
 |some d=>
  have hne:d≠t:=fun e=>ht (e▸hd d rfl)
  show(a.tmps.setIfInBounds d v)[t]?=_
  rw[Array.getElem?_setIfInBounds,if_neg hne]
  exact h t ht
def MR.defer{X:List Nat}{a0 a:Act}(h:MR X a0 a)(l:List Deferred):MR X a0 {a with defers:=l}:=h
section
variable {P:Program}{ops:Array Oper}{Q:Exit→Act→World→Prop}{X:List Nat}{a0:Act}
end
def IX:Code→List Nat
 |.region _ ops _=>ops.toList.filterMap (·.dst)
 |.seq a b=>IX a++IX b
 |.cond _ a b=>IX a++IX b
 |.block _ a=>IX a
 |.loop a=>IX a
 |_=>[]
end
section
structure Kv where
 n:Nat
 res:List Gt
 a:Cq
 fd:Nat
 g:FuncId
 caps:List Nat
 c:Cq
def LZ(n:Nat):List Operand→Option (List Nat)
 |[]=>some []
 |.tmp t::l=>if t<n then(LZ n l).map (t:: ·) else none
 |_::_=>none
def ZN:Gt→Nat
 |.tmp t=>t
 |.cell t _=>t
def RQ(n:Nat)(ops:List Oper):Option (Nat×FuncId×List Nat):=
 match ops with
 |[o1,o2]=>match o1.dst,o1.op,o1.guard,o2.dst,o2.op,o2.guard with
  |some fd,.makeFunc (.func g) first caps,none,none,.defer ⟨.value (.tmp fd'),args,_⟩,none=>
   if first.size=0∧args.size=0∧fd=fd'∧fd<n then(LZ n caps.toList).map fun cs=>(fd,g,cs) else none
  |_,_,_,_,_,_=>none
 |_=>none
def ZD(pr:Bool)(P:Program)(f:FuncId):Option Kv:=
 match P.funcs[f]? with
 |some fn=>
  if fn.name== "runtime.NumGoroutine" || !P.follows .mixedOrders then none else
  match fn.body with
  |some (.seq a (.seq (.region _ ops false) c))=>
   match RQ fn.ntmps ops.toList,fn.results.toList.mapM (Hr P fn.ntmps) with
   |some (fd,g,cs),some rs=>if rs.all (fun r=> !(IX c).contains (ZN r)) then some ⟨fn.ntmps,rs,Ek pr P fn.ntmps a,fd,g,cs,Ek pr P fn.ntmps c⟩ else none
   |_,_=>none
  |_=>none
 |none=>none
def NZ{args}(ha:args.length≤n):({tmps:=args.toArray++Array.replicate (n - args.toArray.size) undef,defers:=[]}:Act)=act n (Gv args) []:=by
 simp only[act,Act.mk.injEq,and_true];apply Array.ext
 ·simp at ha⊢;omega
 ·intro i h1 h2;simp only[Array.getElem_ofFn,Gv];by_cases hi:i<args.length
  ·rw[Array.getElem_append_left (by simpa using hi)];simp[hi]
  ·rw[Array.getElem_append_right (by simpa using hi)];simp[List.getD,Aes (Ahu hi)]
def Tl{P}{fn:Func}{rs:List Gt}(hr:fn.results.toList.mapM (Hr P n)=some rs){ρ ds L F W}(hOk:Ok (d::(L++F)) W){vs}(h:GO ρ (HC d L) rs vs):
  (results fn (act n ρ ds).tmps).run P W=.ok (Km vs) W:=by
 have hl:∀a v,HC d L a v→W.cell? a=some v:=fun a v hc=>hc.cell hOk.head (fun q hq=>hOk.2 q (by simp[hq]))
 have:=Hi (P:=P) (n:=n) (ρ:=ρ) (ds:=ds) hl fn.results.toList rs vs hr h
 rw[HM,Array.mapM_eq_mapM_toList]
 simp only[Sem.run_bind,Sem.run_map,this,Result.andThen,Sem.run_pure]
 cases vs with
 |nil=>rfl
 |cons v vs=>cases vs with
  |nil=>rfl
  |cons v' vs=>rfl
def Jk{ρ ds}:∀{l}{cs:List Nat},LZ n l=some cs→l.map (act n ρ ds).eval=cs.map ρ
 |[],cs,h=>by cases h;rfl
 |.tmp t::l,cs,h=>by
  simp only[LZ] at h;split at h<;>try cases h
  rename_i ht;simp only[Aeu] at h;obtain⟨cs',h,rfl⟩:=h;have e:(act n ρ ds).eval (.tmp t)=ρ t:=Be (x:=.tmp t) (by simpa [DX] using ht);simp only[Agl,e,Jk h]
 |.const _::l,cs,h=>by cases h
 |.global _::l,cs,h=>by cases h
 |.func _::l,cs,h=>by cases h
section
variable {pr:Bool}{P:Program}
def Ll(K:Ac→List Ac→Prop):Cc:={n:=fun _=>K,ret:=fun _=>K,ex:=fun _ _ _ _=>False,pan:=fun _ _ _=>False}
def Ed(g:FuncId)(caps:List Value):Value:=.func (.func g) #[] caps.toArray
def OO{ops}{r:Nat×FuncId×List Nat}(h:RQ n ops.toList=some r):∃o1 o2 caps ats,ops= #[o1,o2]∧o1.dst=some r.1∧o1.op=.makeFunc (.func r.2.1) #[] caps∧o1.guard=none∧o2.dst=none∧o2.op=.defer ⟨.value (.tmp r.1), #[],ats⟩∧o2.guard=none∧r.1<n∧LZ n caps.toList=some r.2.2:=by
 obtain⟨ops⟩:=ops;simp only[RQ] at h;split at h<;>try cases h
 rename_i o1 o2;split at h<;>try cases h
 rename_i h1 h2 h3 h4 h5 h6;split at h<;>try cases h
 rename_i hc;obtain⟨k1,k2,k3,k4⟩:=hc;simp only[Aeu] at h;obtain⟨cs,hcs,rfl⟩:=h;subst k3;have k1:=Array.eq_empty_of_size_eq_zero k1;have k2:=Array.eq_empty_of_size_eq_zero k2;subst k1;subst k2;exact⟨o1,o2,_,_,by simp_all,h1,h2,h3,h4,h5,h6,k4,hcs⟩
end
end
section
section
variable {pr:Bool}{P:Program}
def KC{f}{g:A5}(hd:Jc pr P f=some g)(hr:g.res=[]){args}(ha:args.length≤g.n){F W L}{K:Ac→List Ac→Prop}
  (h:gwp P g.code (Ll K) (Gv args) d L) (hOk:Ok (d::(L++F)) W):
  CallsD P f args.toArray .returning W fun e u' w'=>(∃r,e=.returned r)∧u'=.returning∧∃d' L',Ok (d'::(L'++F)) w'∧Le d d'∧AH W w'∧K d' L':=by
 simp only[Jc] at hd
 split at hd<;>try cases hd
 rename_i fn hf
 split at hd<;>try cases hd
 rename_i hn
 split at hd<;>try cases hd
 rename_i c hb
 rw[Aeu] at hd
 obtain⟨rs,hrs,rfl⟩:=hd
 simp only at hr
 subst hr
 have hz:fn.results.size=0:=by
  have:fn.results.toList.length=0:=by
   cases e:fn.results.toList with
   |nil=>rfl
   |cons r l=>
    rw[e,List.mapM_cons] at hrs
    simp only[Option.bind_eq_bind,Option.bind_eq_some_iff,Option.pure_def] at hrs
    obtain⟨_,_,_,_,hh⟩:=hrs
    cases hh
  simpa using this
 simp only[Afa,not_or,Afz,Agu] at hn
 refine callsD_of_wpS hf hb fun c₀ cs hu=>?_
 rw[NZ ha]
 refine wpS_of_wp (wp_mono (Fh (ds:=[]) (F:=F) (W0:=W) (d0:=d) (by simpa using hn.2) c _ _ d L W h hOk (Le.refl d) (AH.refl W)) ?_)
 have hres:∀(tm:Array Value) (w:World),(results fn tm).run P w=.ok (.tuple #[]) w:=by
  intro tm w;have:fn.results= #[]:=Array.eq_empty_of_size_eq_zero hz;rw[HM,Array.mapM_eq_mapM_toList,this];simp
 intro e a w hq
 cases e with
 |normal=>
  obtain⟨ρ,d',L',rfl,k1,k2,k3,k4⟩:=hq
  exact⟨rfl,.returning,by cases c₀;simp_all,_,hres _ _,⟨_,rfl⟩,rfl,d',L',k1,k2,k3,k4⟩
 |ret=>
  obtain⟨ρ,d',L',rfl,k1,k2,k3,k4⟩:=hq
  exact⟨rfl,.returning,by cases c₀;simp_all,_,hres _ _,⟨_,rfl⟩,rfl,d',L',k1,k2,k3,k4⟩
 |panic c=>obtain⟨_,_,_,_,_,_,hh⟩:=hq;exact hh.elim
 |exit i=>obtain⟨_,_,_,_,_,_,_,hh⟩:=hq;exact hh.elim
 |goto l=>exact hq.elim
 |outgrown=>exact hq.elim
def Ac2(P:Program)(res:List Gt)(v:A5)(R:Ending→Ac→List Ac→Prop)(caps:List Value):Cc:=
 {n:=fun ρ d L=>gwp P v.code (Ll (CI res R ρ)) (Gv caps) d L,ret:=fun ρ d L=>gwp P v.code (Ll (CI res R ρ)) (Gv caps) d L,ex:=fun _ _ _ _=>False,pan:=fun _ _ _=>False}
def RE(P:Program)(g:Kv)(v:A5)(R:Ending→Ac→List Ac→Prop):Cc:=
 {n:=fun ρ d L=>gwp P g.c (Ac2 P g.res v R (g.caps.map ρ)) (upd ρ g.fd (Ed g.g (g.caps.map ρ))) d L,
  ret:=fun _ _ _=>False,ex:=fun _ _ _ _=>False,pan:=fun _ _ _=>False}
def Wy{pr':Bool}{f}{g:Kv}{v:A5}(hd:ZD pr P f=some g)(hv:Jc pr' P g.g=some v)(hvr:v.res=[]){args}(ha:args.length≤g.n)(hcl:g.caps.length≤v.n){L R}
  (h:gwp P g.a (RE P g v R) (Gv args) d L):Av P f args d L R:=by
 simp only[ZD] at hd
 split at hd<;>try cases hd
 rename_i fn hf
 split at hd<;>try cases hd
 rename_i hn
 split at hd<;>try cases hd
 rename_i A id ops C hb
 split at hd<;>try cases hd
 rename_i fd gg cs rs hdf hrs
 split at hd<;>cases hd
 rename_i hall
 simp only[Afa,not_or,Afz,Agu] at hn
 have hm:P.follows .mixedOrders=true:=by simpa using hn.2
 obtain⟨o1,o2,caps,ats,rfl,h1,h2,h3,h4,h5,h6,h7,h8⟩:=OO hdf
 simp only at h1 h2 h5 h7 h8 hv hcl ha h
 have hvc:Im P gg:=by
  have hv':=hv;simp only[Jc] at hv';split at hv'<;>try cases hv'
  rename_i fn' hf';split at hv'<;>try cases hv'
  rename_i hn';split at hv'<;>try cases hv'
  rename_i hb';simp only[Afa,not_or,Afz,Agu] at hn';exact⟨fn',hf',by rw[hb'];rfl,hn'.1⟩
 refine⟨⟨fn,hf,by rw[hb];rfl,hn.1⟩,fun F W hOk=>?_⟩
 refine calls_of_wp_defers hf hb ?_
 rw[NZ ha]
 refine wp_seq (wp_mono (Fh (ds:=[]) (F:=F) (W0:=W) (d0:=d) hm A _ _ d L W h hOk (Le.refl d) (AH.refl W)) ?_)
 intro e a w hq
 cases e with
 |panic c=>obtain⟨_,_,_,_,_,_,hh⟩:=hq;exact hh.elim
 |exit i=>obtain⟨_,_,_,_,_,_,_,hh⟩:=hq;exact hh.elim
 |ret=>obtain⟨_,_,_,_,_,_,_,hh⟩:=hq;exact hh.elim
 |goto l=>exact hq.elim
 |outgrown=>exact hq.elim
 |normal=>
 obtain⟨ρ,d1,L1,rfl,k1,k2,k3,k4⟩:=hq
 simp only[RE] at k4
 refine wp_seq (wp_region ?_)
 have l:Aek (#[o1,o2]:Array Oper).size=[0,1]:=rfl
 rw[l]
 have g0:(#[o1,o2]:Array Oper)[0]?=some o1:=rfl
 have g1:(#[o1,o2]:Array Oper)[1]?=some o2:=rfl
 have e1:∀ys,Region.wanted o1 ys=true:=fun ys=>by simp[Region.wanted,h3]
 have e2:∀ys,Region.wanted o2 ys=true:=fun ys=>by simp[Region.wanted,h6]
 have hcv:caps.map (act fn.ntmps ρ []).eval=(cs.map ρ).toArray:=by
  have:=Jk (ρ:=ρ) (ds:=[]) h8;exact Array.ext' (by rw[Array.toList_map,this])
 have x1:∀w,(execOp (act fn.ntmps ρ []).eval o1).run P w=.ok (.value (Ed gg (cs.map ρ))) w:=by
  intro w;simp[execOp,h2,Instr.makeFunc,hcv,Ed]
 have hfd:(act fn.ntmps (upd ρ fd (Ed gg (cs.map ρ))) []).eval (.tmp fd)=Ed gg (cs.map ρ):=by
  rw[Be (x:=.tmp fd) (by simpa [DX] using h7)];simp[ev,upd]
 have x2:∀w,(execOp (act fn.ntmps (upd ρ fd (Ed gg (cs.map ρ))) []).eval o2).run P w=.ok (.defer {target:=.fn (.func gg) (cs.map ρ).toArray,args:= #[]}) w:=by
  intro w;generalize (act fn.ntmps (upd ρ fd (Ed gg (cs.map ρ))) []).eval=e at hfd;simp[execOp,h5,resolve,hfd,Ed,Deferred.ofValue]
 have p1:(act fn.ntmps ρ []).put o1.dst (Ed gg (cs.map ρ))=act fn.ntmps (upd ρ fd (Ed gg (cs.map ρ))) []:=by
  rw[h1,Fb (d:=some fd) (fun _ e=>by cases e;exact h7)];rfl
 simp only[wpOps_cons,wpOp,g0,e1,if_true]
 refine .inl ?_
 simp only[Oper.wp,x1,Oper.upon,p1,wpOps_cons,wpOp,g1,e2,if_true]
 refine .inl ?_
 simp only[x2,h4]
 show Code.wp P C _ (act fn.ntmps (upd ρ fd (Ed gg (cs.map ρ))) [{target:=.fn (.func gg) (cs.map ρ).toArray,args:= #[]}]) w
 have hlen:(cs.map ρ).length≤v.n:=by simpa using hcl
 have hinv:∀w,(invoke (.fn (.func gg) (cs.map ρ).toArray) #[]).run P w=.ok (.enter gg (cs.map ρ).toArray) w:=by
  intro w;simp[invoke,Ff hvc]
 generalize hD:(⟨.fn (.func gg) (cs.map ρ).toArray, #[]⟩:Deferred)=D
 refine wp_mono (Fh (ds:=[D]) (F:=F) (W0:=W) (d0:=d) hm C _ _ d1 L1 w k4 k1 k2 k3) ?_
 subst hD
 have fin:∀a w,(∃ρ' d' L',a=act fn.ntmps ρ' [⟨.fn (.func gg) (cs.map ρ).toArray, #[]⟩]∧Ok (d'::(L'++F)) w∧Le d d'∧AH W w∧gwp P v.code (Ll (CI rs R ρ')) (Gv (cs.map ρ)) d' L')→
   Leaves P fn a.tmps (fun e W'=>∃d' L',Ok (d'::(L'++F)) W'∧Le d d'∧AH W W'∧R e d' L') a.defers .returning w:=by
  rintro a w ⟨ρ',d',L',rfl,j1,j2,j3,j4⟩
  refine leaves_cons (by simp) (hinv w) ((KC hv hvr hlen j4 j1).mono ?_)
  rintro e u' w' ⟨⟨r,rfl⟩,rfl,d2,L2,q1,q2,q3,vs,q4,d3,L3,q5,q6⟩
  exact⟨Km vs,Tl hrs q1 q4,d3,L3,q5.2 F w' q1,(j2.trans q2).trans q5.1,j3.trans q3,q6⟩
 intro e a w hq
 cases e with
 |normal=>exact fin a w hq
 |ret=>exact fin a w hq
 |panic c=>obtain⟨_,_,_,_,_,_,hh⟩:=hq;exact hh.elim
 |exit i=>obtain⟨_,_,_,_,_,_,_,hh⟩:=hq;exact hh.elim
 |goto l=>exact hq.elim
 |outgrown=>exact hq.elim
end
end
end Go.Gk
end
section
namespace Go.Gk.Chn
open Go Go.Gk Go.Gk.Dev Go.Gk.Cch Go.Gk.Pgr Go.Gk.Node
attribute [local irreducible] gwp gws xwp
def BY(s:PD)(l:List Int):Nat→PD×List Int×Int
 |0=>(s,l,0)
 |n+1=>if s.AX.2.2=0 then BY s.AX.1 (l++[s.AX.2.1]) n else(s.AX.1,l,s.AX.2.2)
def DF(s:PD)(l:List Int):PD:=l.foldl (fun s k=>(s.drop k).1) s
def BC(s:PD)(n:Nat):PD×List Int×Int:=if (BY s [] n).2.2=0 then BY s [] n else(DF (BY s [] n).1 (BY s [] n).2.1,[],(BY s [] n).2.2)
def Rh{s}(hG:Pgr.Good s):0≤s.AX.2.1∧s.AX.2.1≤16384:=by
 unfold PD.AX;cases h:Db 0 s.kinds with
 |none=>show 0≤(0:Int)∧(0:Int)≤16384;decide
 |some i=>
  obtain⟨h1, -⟩:=F9 h
  have:=hG.inn
  have:=hG.syn
  show 0≤((s.frm+i:Nat):Int)∧((s.frm+i:Nat):Int)≤16384
  omega
def Qv(P:Program)(f:FuncId):Prop:=∀{d s dv pv L}{n:Nat},Pg d s dv pv L→n≤8192→
 Av P f [pv,vZ n] d L (Ret fun r d' L'=>Le d d'∧∃v,r=.tuple #[v,vZ (BC s n).2.2]∧C5 d' v (BC s n).2.1∧Pg d' (BC s n).1 dv pv L')
def Yw(d a b c h:Ac)(L:List Ac):Vs d (a::b::c::h::L) (join d h) L:=(Vs.drop (.cons _ (.cons _ (.cons _ (Adb _))))).trans Vs.freeze
def Va{s}{l:List Int}{k:Int}:DF s (l++[k])=((DF s l).drop k).1:=by simp[DF]
def Rp(a0 a1:Nat):Kv:=⟨27,[(.cell 4 none),(.cell 5 none)],(rG (o1 2 (.box 0)<|o1 4 (.alo (.slice none 0 0))<|o1 5 (.alo (vZ 0)) .done)),8,a0,[5,4,2],(.seq (sR (om 9 1<|o1 10 (.mv z0) .done) (.block 0 (.loop (sR (ob 11 .lss 10 9 .done) (.seq (.cond 11 .skip (.exit 0)) (.seq (.block 1 (sR (ol 13 2<|oc 14 a1 [13]<|om 12 14<|oe 15 12 0<|oe 16 12 1<|om 6 15<|om 7 16 .done) (.seq (sR (om 17 7<|ob 18 .neq 17 z0 .done) (.cond 18 (sR (ol 19 4<|om 20 7<|o0 (.st 1 4 19)<|o0 (.st 1 5 20) .done) .ret) .skip)) (rG (ol 21 4<|om 22 6<|o1 23 (.bsl 1 1 [(vZ 0)] [(0,22)])<|o1 24 (.app 1 8 [(vZ 0)] 21 23)<|o0 (.st 1 4 24) .done))))) (rG (ob 25 .add 10 z1<|om 10 25 .done)))))))) (sR (ol 26 4<|o0 (.st 1 4 26)<|o0 (.st 1 5 z0) .done) .ret))⟩
def I3(a0:Nat):A5:=⟨17,[],(sR (ol 5 0<|ob 6 .neq 5 z0 .done) (.cond 6 (.seq (sR (ol 7 1<|oL 8 7<|o1 9 (.mv z0) .done) (.block 0 (.loop (sR (ob 10 .lss 9 8 .done) (.seq (.cond 10 .skip (.exit 0)) (.seq (.block 1 (sR (oI 11 1 7 9<|ol 12 11<|om 4 12 .done) (rG (ol 13 2<|om 14 4<|oc 15 a0 [13,14] .done)))) (rG (ob 16 .add 9 z1<|om 9 16 .done)))))))) (rG (o0 (.st 1 1 nS) .done))) .skip))⟩
def RY(P:Program)(f:FuncId):Prop:=∃f3,dec P f=some (I3 f3)∧GZ P f3
def AaI{P f f3}(hd:dec P f=some (I3 f3))(h:GZ P f3):RY P f:=⟨f3,hd,h⟩
set_option maxRecDepth 4000 in
set_option maxHeartbeats 1000000 in
def Zi{P f f1 f2}(hd:ZD false P f=some (Rp f1 f2))(h0:RY P f1)(h1:F8 P f2):Qv P f:=by
 obtain⟨f3,hv,h2⟩:=h0;intro d s dv pv L n hp hn;obtain⟨bp,rfl⟩:=hp.ptr;refine Wy hd hv rfl (Ada rfl) (Ada rfl) ?_;show gwp P _ _ _ _ _;(apply AB);refine FB rfl (fun b2 T2=>?_);refine DW (fun b4 T4=>?_);refine DW (fun b5 T5=>?_);refine FR ⟨d,bx b5 T5 [vZ 0]::bx b4 T4 [.slice none 0 0]::bx b2 T2 [pZ bp]::emp::L,(Vs.emp (L:=_)).trans (Vs.perm ((Aee _ _ _).trans (Ads _ ((Aee _ _ _).trans (Ads _ (Aee _ _ _)))))),?_⟩;show gwp P _ _ _ _ _;(refine Af<|Ad<|Ab rfl<|Ab rfl<|Aa<|Ay ?_);refine CB (α:=Nat×PD×List Int×Option Addr×Nat) (fun x=>[(2,pZ b2),(4,pZ b4),(5,pZ b5),(9,vZ n),(10,vZ x.1)])
  (fun x d' L'=>Le d d'∧x.1≤n∧BY s [] n=BY x.2.1 x.2.2.1 (n - x.1)∧x.2.2.1.length=x.1∧∃hv L3,L'=bx b5 T5 [vZ 0]::bx b4 T4 [.slice x.2.2.2.1 x.2.2.1.length x.2.2.2.2]::bx b2 T2 [pZ bp]::hv::L3∧
   Ap 1 Bb d' (.slice x.2.2.2.1 x.2.2.1.length x.2.2.2.2) x.2.2.1 hv∧Pg d' x.2.1 dv (pZ bp) L3)
  (fun x=>n - x.1) (0,s,[],none,0) ⟨rfl,rfl,rfl,rfl,rfl,trivial⟩ ⟨Le.refl _,Aej _,rfl,rfl,emp,L,rfl,Ap.nil,hp⟩ ?_
 rintro⟨i,s1,l,va,vc⟩ ρ d' L' ⟨hle,hi,hT,hll,hv,L3,rfl,hrow,hp1⟩;simp only at hi hT hll hrow hp1⊢;by_cases e:i<n
 ·have hni:n - i=(n - (i+1))+1:=by omega
  rw[hni,BY] at hT;(refine Ad<|AE rfl rfl<|Aa<|Af<|Ax rfl (by omega)<|Ak<|Af<|Ay<|Ad<|Ag rfl (Aj 2 rfl rfl) ?_);refine Dh (h1 hp1) (Adl (l₁:=[_,_,_,_])) rfl (fun u d2 L2 hl2 ⟨q1,hp2⟩=>?_);subst q1;refine⟨d2,_::_::_::_::L2,Vs.perm (Adl (l₂:=[_,_,_,_])),?_⟩
  have hrow2:Ap 1 Bb d2 (.slice va l.length vc) l hv:=Ap.mono (R:=Bb) B2 hrow hl2;by_cases hz:s1.AX.2.2=0
  ·rw[if_pos hz] at hT;(refine AU rfl<|Ao rfl rfl<|Ao rfl rfl<|Ab rfl<|Ab rfl<|Aa<|Af<|Ad<|Ab rfl<|AN rfl rfl<|Aa<|Ar rfl (by omega)<|Ak<|AB<|Ag rfl (Aj 1 rfl rfl)<|Ab rfl ?_);have hrg:=Rh hp1.Fm;refine D5 (v0:=vZ s1.AX.2.1) rfl rfl (fun b3 T3=>?_);refine D1 (R:=Bb) 3 rfl rfl hrow2 rfl (Ap.Ep (x:=s1.AX.2.1) rfl ⟨rfl,by omega,by omega⟩) CX (by omega) (by simp;omega) (by simp;omega) (fun v' h' ho'=>?_);obtain⟨va',vc',rfl⟩:=ho'.val;refine A6 1 [.slice va' (l++[s1.AX.2.1]).length vc'] rfl rfl rfl rfl (Adi _) rfl rfl ?_;(refine Aa<|AB<|AL rfl rfl (by omega) (by omega)<|Ab rfl<|Aa ?_);exact⟨(i+1,s1.AX.1,l++[s1.AX.2.1],va',vc'),by simp only;omega,⟨rfl,rfl,rfl,rfl,rfl,trivial⟩,hle.trans hl2,e,hT,by simp only[Adj,Adm,List.length_nil];omega,h',L2,rfl,ho',hp2⟩
  ·rw[if_neg hz] at hT;(refine AU rfl<|Ao rfl rfl<|Ao rfl rfl<|Ab rfl<|Ab rfl<|Aa<|Af<|Ad<|Ab rfl<|AN rfl rfl<|Aa<|Ax rfl (by omega)<|Ad<|Ag rfl (Aj 1 rfl rfl)<|Ab rfl ?_);refine A6 1 [.slice va l.length vc] rfl rfl rfl rfl (Adi _) rfl rfl ?_;refine A6 0 [vZ s1.AX.2.2] rfl rfl rfl rfl (Adi _) rfl rfl ?_;have hF:BC s n=(DF s1.AX.1 l,[],s1.AX.2.2):=by unfold BC;rw[hT,if_neg hz]
   rw[hF];have hbl:(s1.AX.1).kinds.length≤8192:=hp2.Fm.len;(refine Aa<|An<|Ad<|Ag rfl (Aj 0 rfl rfl)<|AN rfl rfl<|Aa<|Ax rfl (by omega)<|Af<|Ad<|Ag rfl (Aj 1 rfl rfl)<|AK rfl<|Ab rfl<|Aa<|Ay ?_);show gwp P _ _ _ _ _;skip;refine CB (α:=Nat) (fun i=>[(1,pZ b4),(2,pZ b2),(7,.slice va l.length vc),(8,vZ l.length),(9,vZ i)])
    (fun i d' L'=>Le d2 d'∧i≤l.length∧∃L4,L'=bx b5 T5 [vZ s1.AX.2.2]::bx b4 T4 [.slice va l.length vc]::bx b2 T2 [pZ bp]::hv::L4∧Pg d' (DF s1.AX.1 (l.take i)) dv (pZ bp) L4)
    (fun i=>l.length - i) 0 ⟨rfl,rfl,rfl,rfl,rfl,trivial⟩ ⟨Le.refl _,Aej _,L2,rfl,hp2⟩ ?_
   rintro j ρ d' L' ⟨hle',hj,L4,rfl,hp4⟩;by_cases ej:j<l.length
   ·have hn':DF s1.AX.1 (l.take (j+1))=((DF s1.AX.1 (l.take j)).drop l[j]).1:=by rw[Aea ej,Va]
    obtain⟨b1,T1,l1,c1,cs,q1,rfl,hcl,hcs,hle1,⟨rfl,hb1,hb2⟩, -⟩:=Ap.at (by omega) hrow ej;cases q1;have c0:=hcs 0 _ rfl;(refine Ad<|AE rfl rfl<|Aa<|Af<|Ax rfl (by omega)<|Ak<|Af<|Ay<|Ad<|Bz _ rfl rfl rfl (by omega)<|Ag rfl (Aj 3 rfl (by assumption))<|Ab rfl<|Aa<|AB<|Ag rfl (Aj 2 rfl rfl)<|Ab rfl ?_);refine Dh (h2 (k:=l[j]) hp4) (Adl (l₁:=[_,_,_,_])) rfl (fun u d5 L5 hl5 ⟨q1,hp5⟩=>?_);subst q1;refine⟨d5,_::_::_::_::L5,Vs.perm (Adl (l₂:=[_,_,_,_])),?_⟩
    (refine Aa<|AB<|AL rfl rfl (by omega) (by omega)<|Ab rfl<|Aa ?_);exact⟨j+1,by omega,⟨rfl,rfl,rfl,rfl,rfl,trivial⟩,hle'.trans hl5,ej,L5,rfl,by rw[hn'];exact hp5⟩
   ·have:j=l.length:=by omega
    subst this;rw[Afi] at hp4;(refine Ad<|AE rfl rfl<|Aa<|Af<|Ar rfl (by omega)<|Bg<|AB ?_);refine A6 1 [.slice none 0 0] rfl rfl rfl rfl (Adi _) rfl rfl ?_;(apply Aa);exact Bd [.slice none 0 0,vZ s1.AX.2.2] ⟨⟨_,_,rfl,Aj 1 rfl rfl⟩,⟨_,_,rfl,Aj 0 rfl rfl⟩,trivial⟩ (d':=d') (L':=L4) (Vs.drop (.cons _ (.cons _ (.cons _ (.cons _ (Adb _)))))) ⟨(hle.trans hl2).trans hle',_,rfl,RSl.nil,hp4⟩
 ·have:i=n:=by omega
  subst this;rw[Agy,BY] at hT;have hF:BC s i=(s1,l,0):=by unfold BC;rw[hT,if_pos rfl]
  rw[hF];(refine Ad<|AE rfl rfl<|Aa<|Af<|Ar rfl (by omega)<|Bg<|Ad<|Ag rfl (Aj 1 rfl rfl) ?_);refine A6 1 [.slice va l.length vc] rfl rfl rfl rfl (Adi _) rfl rfl ?_;refine A6 0 [vZ 0] rfl rfl rfl rfl (Adi _) rfl rfl ?_;(refine Aa<|An<|Ad<|Ag rfl (Aj 0 rfl rfl)<|AN rfl rfl<|Aa<|Ar rfl (by omega)<|Ak ?_);exact Bd [.slice va l.length vc,vZ 0] ⟨⟨_,_,rfl,Aj 1 rfl rfl⟩,⟨_,_,rfl,Aj 0 rfl rfl⟩,trivial⟩ (d':=join d' hv) (L':=L3) (Yw _ _ _ _ _ _) ⟨hle.trans (Le.AG _ _),_,rfl,Ap.rsl (R:=Bb) (sz:=1) hrow B2 (by omega) (Le.AG _ _) (Le.Ba _ _),hp1.mono (Le.AG _ _)⟩
end Go.Gk.Chn
end
section
namespace Go.Gk.Chn
open Go Go.Gk Go.Gk.Dev Go.Gk.Cch Go.Gk.Pgr Go.Gk.Node
section
section
variable {P:Program}{pan:List PanicEntry→AR}{Qn:Env→AR}{Ls L:List Ac}{ρ:Env}{d:Ac}{s:GS}{t:Nat}{tk:Bool}
def Rg{x y}{b len:Nat}{kk}(k:Nat)(ex:ev ρ x=pZ b)(ey:ev ρ y=.int kk (k:Nat))(hk:k<len)(h:gws P pan Qn s Ls (upd ρ t (.slice (some ⟨b,k,none⟩) (len - k) (len - k))) d L):
  gws P pan Qn (.op tk ⟨some t,none,.sla len 1 x (some y) none none⟩ s) Ls ρ d L:=by
 refine w_q rfl ⟨b,0,k,len,len,ex,?_,rfl⟩ ?_
 ·simp only[D3,Hf,GH,Hb,Option.bind_some,Option.map_some,Option.map_none,ey,bnd]
  have:k≤len:=by omega
  simp[this]
 ·rw[if_neg (by omega)];simpa using h
def Su{x}{b len:Nat}(ex:ev ρ x=pZ b)(hk:0<len)(h:gws P pan Qn s Ls (upd ρ t (.slice (some ⟨b,0,none⟩) len len)) d L):
  gws P pan Qn (.op tk ⟨some t,none,.sla len 1 x none none none⟩ s) Ls ρ d L:=by
 refine w_q rfl ⟨b,0,0,len,len,ex,?_,rfl⟩ ?_
 ·simp[D3,Hf,GH,Hb]
 ·rw[if_neg (by omega)];simpa using h
end
attribute [local irreducible] gwp gws xwp
def AQ(n:Nat):Nat:=max 1 ((n+253) / 254)
def FO(P:Program)(f:FuncId):Prop:=∀{d}{n:Nat},n≤1000000→C2 P f [vZ n] d (vZ (AQ n))
def Ro:A5:=⟨10,[(.tmp 2)],(sR (o1 2 (.mv z0) .done) (.seq (sR (om 3 0<|ob 4 .lss 3 z0 .done) (.cond 4 (sR (o1 2 (.mv z0) .done) .ret) .skip)) (sR (om 5 0<|ob 6 .sub 5 z1<|ob 7 .quo 6 (kZ 254)<|ob 8 .add 7 z1<|o1 9 (.mx2 z1 8)<|om 2 9 .done) .ret)))⟩
def ZK{n:Nat}:max (1:Int) (((n:Int) - 1).tdiv 254+1)=(AQ n:Nat):=by
 unfold AQ;by_cases h:n=0
 ·subst h;rfl
 ·have h1:((n:Int) - 1).tdiv 254=((n:Int) - 1) / 254:=Int.tdiv_eq_ediv_of_nonneg (by omega);rw[h1];omega
def Yy{P f}(hd:dec P f=some Ro):FO P f:=by
 intro d n hn;refine AF hd (Ada rfl) ?_;show gwp P _ _ _ _ _;have hb: -1≤((n:Int) - 1).tdiv 254∧((n:Int) - 1).tdiv 254≤1000000:=by
  by_cases h:n=0
  ·subst h;decide
  ·rw[Int.tdiv_eq_ediv_of_nonneg (by omega)];omega
 (refine Ad<|Ab rfl<|Aa<|Af<|Ad<|Ab rfl<|AE rfl rfl<|Aa<|Ar rfl (by omega)<|Ak<|Ad<|Ab rfl<|C6 rfl rfl (by omega) (by omega)<|AbC rfl rfl (by omega) (by omega) (by omega)<|AL rfl rfl (by omega) (by omega)<|Z0 rfl rfl<|Ab rfl<|Aa<|An ?_);refine HV rfl ?_;rw[ZK]
def Eg(next:Int)(c:List UInt8):Sec:=UInt8.ofNat (next / 256 % 256).toNat::UInt8.ofNat (next % 256).toNat::(c++Adx (254 - c.length) 0)
def OI(x y:UInt8){c}(_:c.length≤254):patch (patch (patch C0 0 [AA x]) 1 [AA y]) 2 (c.map AA)=(x::y::(c++Adx (254 - c.length) 0)).map AA:=by
 have hz:C0=AA 0::AA 0::Adx 254 (AA 0):=rfl;have e1:patch (AA 0::AA 0::Adx 254 (AA 0)) 0 [AA x]=AA x::AA 0::Adx 254 (AA 0):=rfl;have e2:patch (AA x::AA 0::Adx 254 (AA 0)) 1 [AA y]=AA x::AA y::Adx 254 (AA 0):=rfl;rw[hz,e1,e2];unfold patch;rw[Aey,Nat.add_comm 2];show AA x::AA y::(c.map AA++(Adx 254 (AA 0)).drop c.length)=_;rw[List.drop_replicate,Agl,Agl,List.map_append,List.map_replicate]
def Cr(b:List UInt8)(i:Nat):List UInt8:=(b.drop (i*254)).take 254
def DH(s:PD)(l:List Int)(b:List UInt8):Nat→PD
 |0=>s
 |i+1=>((DH s l b i).put (l.getD i 0) (Eg (l.getD (i+1) 65535) (Cr b i))).1
def Cd(s:PD)(b:List UInt8):PD×Int×Int:=
 let t:=BC s (AQ b.length)
 if t.2.2=0 then(DH t.1 t.2.1 b t.2.1.length,t.2.1.getD 0 0,0) else(t.1,0,t.2.2)
def Ma:∀{n:Nat}{s}{l:List Int},(BY s l n).2.2=0→(BY s l n).2.1.length=l.length+n
 |0,s,l,_=>rfl
 |n+1,s,l,h=>by
  rw[BY] at h⊢;split at h
  ·rename_i e;rw[if_pos e,Ma h];simp;omega
  ·rename_i e;exact absurd h e
def Xv{s}{n:Nat}(h:(BC s n).2.2=0):(BC s n).2.1.length=n:=by
 unfold BC at h⊢;split
 ·rename_i e;have:=Ma (s:=s) e;simpa using this
 ·rename_i e;rw[if_neg e] at h;exact absurd h e
def Q3{n i:Nat}(h:i<AQ n):i*254≤n:=by unfold AQ at h;omega
def TL(a0 a1 a2:Nat):A5:=⟨64,[(.tmp 4),(.tmp 5)],(sR (o1 4 (.mv z0)<|o1 5 (.mv z0) .done) (.seq (sR (om 12 1<|oL 13 12<|ob 14 .gtr 13 (kZ 16384) .done) (.cond 14 (sR (o1 4 (.mv z0)<|o1 5 (.mv (kZ 3)) .done) .ret) .skip)) (sR (om 16 0<|om 17 1<|oL 18 17<|oc 19 a0 [18]<|oc 20 a1 [16,19]<|om 15 20<|oe 21 15 0<|oe 22 15 1<|om 6 21<|om 7 22 .done) (.seq (sR (om 23 7<|ob 24 .neq 23 z0 .done) (.cond 24 (sR (om 25 7<|o1 4 (.mv z0)<|om 5 25 .done) .ret) .skip)) (.seq (sR (om 26 6<|oL 27 26<|o1 28 (.mv z0) .done) (.block 0 (.loop (sR (ob 29 .lss 28 27 .done) (.seq (.cond 29 .skip (.exit 0)) (.seq (.block 1 (sR (om 30 28<|oI 31 1 26 28<|ol 32 31<|om 8 30<|om 9 32 .done) (sR (o1 10 (.mv (kZ 65535)) .done) (.seq (sR (om 33 8<|ob 34 .add 33 z1<|om 35 6<|oL 36 35<|ob 37 .lss 34 36 .done) (.cond 37 (rG (om 38 6<|om 39 8<|ob 40 .add 39 z1<|oI 41 1 38 40<|ol 42 41<|om 10 42 .done)) .skip)) (sR (o1 11 (.alo (.agg C0.toArray)) .done) (sR (om 43 10<|ob 44 .shr 43 (.const (.int .u64 8))<|o1 45 (.cvi .u8 44)<|om 46 10<|o1 47 (.cvi .u8 46)<|o1 48 (.idxa 256 1 11 z0)<|o0 (.st 1 48 45)<|o1 49 (.idxa 256 1 11 z1)<|o0 (.st 1 49 47) .done) (.seq (.reg true (p1 50 (.sla 256 1 11 (some z2) none none)<|pm 51 1<|pm 52 8<|p1 53 (.bin .mul 52 (kZ 254))<|p1 54 (.sl 1 51 (some 53) none none)<|o1 55 (.mop (.cpy 1 50 54)) .done)) (rG (om 56 0<|om 57 9<|o1 58 (.sla 256 1 11 none none none)<|oc 59 a2 [56,57,58] .done))))))))) (rG (ob 60 .add 28 z1<|om 28 60 .done)))))))) (sR (om 61 6<|o1 62 (.idx 1 61 z0)<|ol 63 62<|om 4 63<|o1 5 (.mv z0) .done) .ret))))))⟩
end
section
section
variable {P:Program}{pan:List PanicEntry→AR}{Qn:Env→AR}{Ls L:List Ac}{ρ:Env}{d:Ac}{s:GS}{t:Nat}{tk:Bool}
def or8{a b:Nat}(ha:a<256)(hb:b<256):IntKind.i64.wrap ((BitVec.ofInt 64 ((a*256:Nat):Int)|||BitVec.ofInt 64 (b:Int)).toNat:Int)=((a*256+b:Nat):Int):=by
 have h:(BitVec.ofInt 64 ((a*256:Nat):Int)|||BitVec.ofInt 64 (b:Int)).toNat=a*256+b:=by
  rw[BitVec.toNat_or,BitVec.toNat_ofInt,BitVec.toNat_ofInt];have e1:(((a*256:Nat):Int) % ((2 ^ 64:Nat):Int)).toNat=2 ^ 8*a:=by omega
  have e2:((b:Int) % ((2 ^ 64:Nat):Int)).toNat=b:=by omega
  rw[e1,e2,←Nat.two_pow_add_eq_or_of_lt (by omega)];omega
 rw[h,DO (by omega) (by omega)]
def Rw{x y}{a b:Nat}(ex:ev ρ x=vZ ((a*256:Nat):Int))(ey:ev ρ y=vZ (b:Int))(ha:a<256)(hb:b<256)(h:gws P pan Qn s Ls (upd ρ t (vZ ((a*256+b:Nat):Int))) d L):
  gws P pan Qn (.op tk ⟨some t,none,.bin .or x y⟩ s) Ls ρ d L:=by
 refine w_q rfl (show C7 .or (ev ρ x) (ev ρ y)=some (vZ ((a*256+b:Nat):Int)) from ?_) h
 rw[ex,ey]
 exact congrArg (fun z=>some (Value.int .i64 z)) (or8 ha hb)
end
attribute [local irreducible] gwp gws xwp
def GY(b:Sec):Nat:=(b.getD 0 0).toNat*256+(b.getD 1 0).toNat
def hdF(s:PD)(h:Int):Nat→Int
 |0=>h
 |i+1=>(GY (s.bytes (hdF s h i)):Nat)
def A4(s:PD)(k:Int):Prop:=s.kind k=1∨s.kind k=2
instance (s:PD) (k:Int):Decidable (A4 s k):=inferInstanceAs (Decidable (_∨_))
def S3{s}{k:Int}(h:A4 s k):s.Is k=0:=by
 unfold PD.Is;by_cases h1:s.kind k=1
 ·rw[if_pos h1]
 ·rw[if_neg h1,if_pos (h.resolve_left h1)]
def R8{s}{k:Int}(h:¬A4 s k):s.Is k=240∧s.bytes k=[]:=by
 unfold A4 at h;have h1:s.kind k≠1:=fun q=>h (.inl q);have h2:s.kind k≠2:=fun q=>h (.inr q);exact⟨by unfold PD.Is;rw[if_neg h1,if_neg h2],V3 h1 h2⟩
def _root_.Go.Gk.Pgr.FE.atT{P f}(h:FE P f){d s dv pv L}{k:Int}(hp:Pg d s dv pv L):
  Av P f [pv,vZ k] d L (Ret fun r d' L'=>∃a c tc,r=.tuple #[.slice a (s.bytes k).length c,vZ (s.Is k)]∧AM d' (.slice a (s.bytes k).length c) (s.bytes k)∧Pg d' {s with tc:=tc} dv pv L'∧tc=if A4 s k then s.tc+1 else s.tc):=by
 refine Av.DL (h (k:=k) hp) (fun r d' L' _ ⟨⟨q,q1,q2⟩,q3⟩=>⟨d',L',Vs.refl _ _,?_⟩)
 subst q1
 unfold PD.bytes PD.Is A4
 unfold PD.get at q2 q3⊢
 by_cases h1:s.kind k=1
 ·simp only[if_pos h1] at q2 q3⊢
  obtain⟨a,c,rfl⟩:=RSl.val q2
  exact⟨a,c,_,rfl,q2,q3,(if_pos (.inl h1)).symm⟩
 ·by_cases h2:s.kind k=2
  ·simp only[if_neg h1,if_pos h2] at q2 q3⊢
   obtain⟨a,c,rfl⟩:=RSl.val q2
   exact⟨a,c,_,rfl,q2,q3,(if_pos (.inr h2)).symm⟩
  ·simp only[if_neg h1,if_neg h2] at q2 q3⊢
   obtain rfl:q=.slice none 0 0:=q2
   exact⟨none,0,s.tc,rfl,RSl.nil,q3,(if_neg (fun q=>q.elim h1 h2)).symm⟩
def TN(x:Ac)(A R:List Ac):(A++(x::R)).Perm (R++(x::A)):=List.perm_append_comm.trans List.perm_middle.symm
def SV(d x:Ac)(A R:List Ac):Vs d (R++(x::A)) d (A++R):=(Vs.perm (List.perm_middle.trans (Ads x Adl))).trans (Vs.drop (Aef _ _))
def Ud(x:Ac)(A R:List Ac):(R++(x::A)).Perm (x::(A++R)):=List.perm_middle.trans (Ads x Adl)
def FA(a0 a1:Nat):GW:=(.mk 39 [] (.seq (.g (rG (ol 7 1<|oc 8 a0 [7]<|o1 9 (.mv z0) .done))) (.block 0 (.loop (.seq (.g (rG (ob 10 .lss 9 8 .done))) (.seq (.g (.cond 10 .skip (.exit 0))) (.seq (.block 1 (.seq (.g (rG (ol 12 2<|ol 13 3<|oc 14 a1 [12,13]<|om 11 14<|oe 15 11 0<|oe 16 11 1<|om 5 15<|om 6 16 .done))) (.seq (.seq (.g (rG (om 17 6<|ob 18 .neq 17 z0 .done))) (.cond 18 (.seq (.yl (om 19 0<|om 20 6<|o1 21 (.un .neg 20) .done) (some 22) 19 [21,nS] .done) (.g .ret)) (.g .skip))) (.seq (.seq (.yl (om 23 0<|ol 24 3<|om 25 5 .done) (some 26) 23 [24,25] (o1 27 (.un .not 26) .done)) (.g (.cond 27 .ret .skip))) (.g (.reg true (pm 28 5<|p1 29 (.idx 1 28 z0)<|pl 30 29<|p1 31 (.cvi .i64 30)<|p1 32 (.bin .shl 31 (.const (.int .u64 8)))<|pm 33 5<|p1 34 (.idx 1 33 z1)<|pl 35 34<|p1 36 (.cvi .i64 35)<|p1 37 (.bin .or 32 36) (.bar (o0 (.st 1 3 37) .done))))))))) (.g (rG (ob 38 .add 9 z1<|om 9 38 .done))))))))))
set_option maxRecDepth 4000 in
set_option maxHeartbeats 1000000 in
def XL{P f f1 f2}(hd:Fx true false P f=some (FA f1 f2))(h1:FO P f1)(h2:FE P f2){s dv pv LP}{bz bq bh l n:Nat}{Th}{h:Int}{rc:Loop}(J:Nat→Ac→List Ac→Prop)(Jf:Loop→Ac→List Ac→Prop){d E}
  (hp:Pg d s dv pv LP) (hz:DC d bz 0 (vZ n)) (hq:DC d bq 0 pv) (hn:n≤16384) (h0:J 0 d E) (hJm:∀{i:Nat}{d d' E},Le d d'→J i d E→J i d' E)
  (hlive:∀i,i<AQ n→∀d1 E1 v,Le d d1→J i d1 E1→A4 s (hdF s h i)→AM d1 v (s.bytes (hdF s h i))→JF P l [vZ (hdF s h i),v] d1 (sg l (.loop rc)::E1)
   (fun u d' L'=>(u=.bool true∧∃E',L'=sg l (.loop rc)::E'∧J (i+1) d' E')∨(u=.bool false∧∃rc' E',L'=sg l (.loop rc')::E'∧Jf rc' d' E')))
  (hdead:∀i,i<AQ n→∀d1 E1,Le d d1→J i d1 E1→¬A4 s (hdF s h i)→JF P l [vZ (-240),.slice none 0 0] d1 (sg l (.loop rc)::E1)
   (fun u d' L'=>u=.bool false∧∃rc' E',L'=sg l (.loop rc')::E'∧Jf rc' d' E')):
  Av P f [.func (.yield l) #[] #[],pZ bz,pZ bq,pZ bh] d (bx bh Th [vZ h]::(LP++(sg l (.loop rc)::E)))
   (Ret fun _ d' L'=>∃LP' E' rc' tc,L'=LP'++(sg l (.loop rc')::E')∧Pg d' {s with tc:=tc} dv pv LP'∧((rc'=rc∧tc=s.tc+AQ n∧J (AQ n) d' E')∨Jf rc' d' E')):=by
 obtain⟨bp,rfl⟩:=hp.ptr
 have hpn:AQ n≤8192:=by unfold AQ;omega
 refine ES hd (Ada rfl) ?_
 show xwp P _ _ _ _ _
 (apply BQ;apply x_g;apply AB;apply Ag;rfl;exact BN (by assumption))
 refine DN (A:=[]) (B:=bx bh Th [vZ h]::(LP++(sg l (.loop rc)::E))) rfl rfl (h1 (n:=n) (by omega)) (fun u d1 L1 _ ⟨e1,e2,e3⟩=>?_)
 subst e1;subst e2;subst e3
 rw[Ael]
 (refine Ab rfl<|Aa ?_;apply GD)
 refine P7 (α:=Nat) (fun i=>[(0,.func (.yield l) #[] #[]),(2,pZ bq),(3,pZ bh),(8,vZ (AQ n)),(9,vZ i)])
  (fun i d' L'=>Le d1 d'∧i≤AQ n∧∃LP' E' tc,L'=bx bh Th [vZ (hdF s h i)]::(LP'++(sg l (.loop rc)::E'))∧Pg d' {s with tc:=tc} dv (pZ bp) LP'∧tc=s.tc+i∧J i d' E')
  (fun i=>AQ n - i) 0 ⟨rfl,rfl,rfl,rfl,rfl,trivial⟩ ⟨Le.refl _,Aej _,LP,E,s.tc,rfl,hp,rfl,h0⟩ ?_
 rintro i ρ d' L' ⟨hle,hi,LP',E',tc,rfl,hp',htc,hJ⟩
 have hq':=hq.mono hle
 by_cases e:i<AQ n
 ·(apply BQ;apply x_g;apply AB;apply AE;rfl;rfl;apply Aa;apply BQ;apply x_g;refine Ax rfl (by omega) ?_;apply Ak;apply BQ;apply GD;apply BQ;apply x_g;apply AB;apply Ag;rfl;exact BN (by assumption);apply Ag;rfl;exact Aj 0 rfl rfl)
  refine Dh (h2.atT (k:=hdF s h i) hp') (Afd [_] LP' _) rfl (fun u d7 L7 hl7 ⟨qa,qc,tc',q1,q2,q3,q4⟩=>?_)
  rw[Sd,Aap] at q1
  rw[Sd] at q2
  subst q1
  refine⟨d7,(sg l (.loop rc)::E')++(bx bh Th [vZ (hdF s h i)]::L7),Vs.perm (TN _ _ _),?_⟩
  by_cases hlv:A4 s (hdF s h i)
  ·rw[S3 hlv]
   (refine AU rfl<|Ao rfl rfl<|Ao rfl rfl<|Al rfl<|Ab rfl<|Aa ?_;apply BQ;apply BQ;apply x_g;refine AB<|Ab rfl<|AN rfl rfl<|Aa ?_;apply Aaa;rfl;apply x_g;apply Ak;apply BQ;apply BQ;apply Yx;apply FQ;rfl)
   refine Ag (v:=vZ (hdF s h i)) rfl (Aj (T:=Th) (l:=[vZ (hdF s h i)]) (E'.length+1) (by simp[lk]) rfl) ?_
   (refine Al rfl<|Aa ?_)
   refine P6 _ _ rfl rfl rfl (hlive i e d7 E' _ (hle.trans hl7) (hJm hl7 hJ) hlv q2) (fun u d8 L8 hl8 hr8=>?_)
   rcases hr8 with ⟨rfl,E8,rfl,hJ8⟩|⟨rfl,rc8,E8,rfl,hJ8⟩
   ·refine B9 d8 (bx bh Th [vZ (hdF s h i)]::(L7++(sg l (.loop rc)::E8))) (Vs.perm (Ud _ _ _)) ?_
    have hfl:(s.bytes (hdF s h i)).length=256:=hp.full hlv
    have q8:AM d8 (.slice qa (s.bytes (hdF s h i)).length qc) (s.bytes (hdF s h i)):=RSl.mono (R:=AP) A3 q2 hl8
    have g0:(s.bytes (hdF s h i)).getD 0 0=(s.bytes (hdF s h i))[0]:=by rw[Adh,Ade (by omega)];rfl
    have g1:(s.bytes (hdF s h i)).getD 1 0=(s.bytes (hdF s h i))[1]:=by rw[Adh,Ade (by omega)];rfl
    have l0:=UInt8.toNat_lt (s.bytes (hdF s h i))[0]
    have l1:=UInt8.toNat_lt (s.bytes (hdF s h i))[1]
    have hnx:hdF s h (i+1)=(((s.bytes (hdF s h i))[0].toNat*256+(s.bytes (hdF s h i))[1].toNat:Nat):Int):=by rw[hdF,GY,g0,g1]
    (refine Bx rfl<|Aa ?_;apply x_g;refine AS rfl<|Ak ?_;apply x_g;refine Bu<|Al rfl<|BM (m:=0) (sz:=1) (R:=AP) (by rfl) (by assumption) (by rfl) rfl (by omega) ?_;rintro _ _ _ _ _ rfl;refine Ag rfl (B4 (by assumption) rfl)<|Es rfl (by omega) (by omega) ?_)
    refine R6 (a:=(s.bytes (hdF s h i))[0].toNat) rfl rfl (by omega) ?_
    (refine Al rfl<|BM (m:=1) (sz:=1) (R:=AP) (by rfl) (by assumption) (by rfl) rfl (by omega) ?_;rintro _ _ _ _ _ rfl;refine Ag rfl (B4 (by assumption) rfl)<|Es rfl (by omega) (by omega) ?_)
    refine Rw (a:=(s.bytes (hdF s h i))[0].toNat) (b:=(s.bytes (hdF s h i))[1].toNat) rfl rfl l0 l1 ?_
    (apply Ch)
    refine A6 0 [vZ (((s.bytes (hdF s h i))[0].toNat*256+(s.bytes (hdF s h i))[1].toNat:Nat):Int)] rfl rfl rfl rfl (Adi _) rfl rfl ?_
    (apply Aa;apply x_g;refine AB<|AL rfl rfl (by omega) (by omega)<|Ab rfl<|Aa ?_)
    exact⟨i+1,by omega,⟨rfl,rfl,rfl,rfl,rfl,trivial⟩,(hle.trans hl7).trans hl8,e,L7,E8,tc',by rw[hnx];exact congrArg (List.cons _) (Aed _),q3.mono hl8,by have q4':tc'=tc+1:=q4.trans (if_pos hlv);omega,hJ8⟩
   ·(refine Bx rfl<|Aa ?_;apply x_g;refine Bj rfl<|An ?_)
    exact Bd [] trivial (d':=d8) (L':=L7++(sg l (.loop rc8)::E8)) (SV _ _ _ _) ⟨L7,E8,rc8,_,rfl,q3.mono hl8,.inr hJ8⟩
  ·obtain⟨x1,x2⟩:=R8 hlv
   rw[x1]
   (refine AU rfl<|Ao rfl rfl<|Ao rfl rfl<|Al rfl<|Ab rfl<|Aa ?_;apply BQ;apply BQ;apply x_g;refine AB<|Ab rfl<|AN rfl rfl<|Aa ?_;apply AcM;rfl;apply BQ;apply Yx;refine FQ rfl<|Ab rfl<|Z1 rfl (by omega) (by omega)<|Aa ?_)
   refine P6 _ _ rfl rfl rfl (hdead i e d7 E' (hle.trans hl7) (hJm hl7 hJ) hlv) (fun u d8 L8 hl8 hr8=>?_)
   obtain⟨rfl,rc8,E8,rfl,hJ8⟩:=hr8
   (apply Aa;apply x_g;apply An)
   exact Bd [] trivial (d':=d8) (L':=L7++(sg l (.loop rc8)::E8)) (SV _ _ _ _) ⟨L7,E8,rc8,_,rfl,q3.mono hl8,.inr hJ8⟩
 ·have:i=AQ n:=by omega
  subst this
  (apply BQ;apply x_g;apply AB;apply AE;rfl;rfl;apply Aa;apply BQ;apply x_g;refine Ar rfl (by omega) ?_;apply Bg)
  exact EY [] trivial (Aef _ _) ⟨LP',E',rc,tc,rfl,hp',.inl ⟨rfl,htc,hJ⟩⟩
def HI(a0:Nat):GW:=(.mk 8 [(.tmp 6)] (.g (sR (o1 3 (.box 0)<|o1 4 (.box 1)<|o1 5 (.box 2)<|o1 6 (.mv (.const .nilFunc)) .done) (sR (o1 7 (.mkf (.func a0) [] [5,3,4])<|om 6 7 .done) .ret))))
def Ye{P f f1}(hd:Fx true false P f=some (HI f1)){d}{b:Nat}{h n:Int}:Av P f [pZ b,vZ h,vZ n] d [] (Ret fun r d' L'=>∃bz bq bh Th,r=.func (.func f1) #[] #[pZ bz,pZ bq,pZ bh]∧
  DC d' bz 0 (vZ n)∧DC d' bq 0 (pZ b)∧L'=[bx bh Th [vZ h]]):=by
 refine ES hd (Ada rfl) ?_
 show xwp P _ _ _ _ _
 (apply x_g;apply Af;apply AB)
 refine FB rfl (fun bq Tq=>?_)
 refine FB rfl (fun bh Th=>?_)
 refine FB rfl (fun bz Tz=>?_)
 (refine AJ<|Aa<|Ad<|O5<|FQ rfl<|Aa<|An ?_)
 exact Bd [.func (.func f1) #[] #[pZ bz,pZ bq,pZ bh]] ⟨rfl,trivial⟩ (d':=join (join d (bx bz Tz [vZ n])) (bx bq Tq [pZ b])) (L':=[bx bh Th [vZ h]])
  ((Vs.perm (Ads _ (Aee _ _ _))).trans (Vs.freeze.trans Vs.freeze)) ⟨bz,bq,bh,Th,rfl,(Le.dcs ((Le.Ba _ _).trans (Le.AG _ _))).at (i:=0) rfl,(Le.dcs (Le.Ba _ _)).at (i:=0) rfl,rfl⟩
end
end Go.Gk.Chn
end
section
namespace Go.Gk.Chn
open Go Go.Gk Go.Gk.Dev Go.Gk.Cch Go.Gk.Pgr Go.Gk.Node
attribute [local irreducible] gwp gws xwp
variable{P:Program}{f f1:FuncId}
def DG(s:PD)(size n:Nat)(k:Int)(l:List Int)(out:List UInt8):Nat→List Int×List UInt8×Int
 |0=>(l,out,0)
 |m+1=>
  if A4 s k then
   if (GY (s.bytes k)=65535)=(l.length+1=n) then
    if ((s.bytes k).drop (2+min 254 (size - out.length))).all (·==0) then
     DG s size n (GY (s.bytes k):Nat) (l++[k]) (out++((s.bytes k).drop 2).take (min 254 (size - out.length))) m
    else([],[],200)
   else([],[],200)
  else([],[],240)
def Bw(s:PD)(k:Int)(size:Int):List Int×List UInt8×Int:=if 0≤size∧size≤16384 then DG s size.toNat (AQ size.toNat) k [] [] (AQ size.toNat) else([],[],2)
def RJ(s:PD)(n:Nat)(k:Int)(b5 b6 b7 b8 b9 b10:Nat)(T5 T6 T7 T8 T9 T10:TypeId)(i:Nat)(d:Ac)(E:List Ac):Prop:=∃l out la lc oa oc hl ho,
 E=[bx b10 T10 [.slice oa (List.length (α:=UInt8) out) oc],bx b9 T9 [.slice la (List.length (α:=Int) l) lc],bx b8 T8 [vZ 0],bx b7 T7 [.slice none 0 0],bx b6 T6 [.slice none 0 0],bx b5 T5 [vZ n],ho,hl]∧
 Ap 1 Bb d (.slice la l.length lc) l hl∧Ap 1 AP d (.slice oa out.length oc) out ho∧l.length=i∧out.length≤n∧DG s n (AQ n) k [] [] (AQ n)=DG s n (AQ n) (hdF s k i) l out (AQ n - i)
def RF(rc:Loop)(s:PD)(n:Nat)(k:Int)(b6 b7 b8:Nat)(T6 T7 T8:TypeId)(rc':Loop)(_:Ac)(E:List Ac):Prop:=
 rc'={rc with state:=.done,pending:=some .ret}∧∃e x y R,DG s n (AQ n) k [] [] (AQ n)=([],[],e)∧e≠0∧E=x::y::bx b8 T8 [vZ e]::bx b7 T7 [.slice none 0 0]::bx b6 T6 [.slice none 0 0]::R
def Jx(P:Program)(f:FuncId):Prop:=∀{d s dv pv L}{k size:Int},Pg d s dv pv L→
 Av P f [pv,vZ k,vZ size] d L (Ret fun r d' L'=>Le d d'∧∃v w tc,r=.tuple #[v,w,vZ (Bw s k size).2.2]∧C5 d' v (Bw s k size).1∧AM d' w (Bw s k size).2.1∧Pg d' {s with tc:=tc} dv pv L'∧((Bw s k size).2.2=0→tc=s.tc+AQ size.toNat))
def X3{a m N:Nat}(h:(a=65535)=(m=N)):(true ^^(decide ((a:Int)=65535)==decide ((m:Int)=(N:Int))))=false:=by
 rw[show decide ((a:Int)=65535)=decide (a=65535) from decide_eq_decide.2 (by omega),show decide ((m:Int)=(N:Int))=decide (m=N) from decide_eq_decide.2 (by omega),show decide (a=65535)=decide (m=N) from decide_eq_decide.2 (by rw[h])];simp
def WO{a m N:Nat}(h:¬((a=65535)=(m=N))):(true ^^(decide ((a:Int)=65535)==decide ((m:Int)=(N:Int))))=true:=by
 rw[show decide ((a:Int)=65535)=decide (a=65535) from decide_eq_decide.2 (by omega),show decide ((m:Int)=(N:Int))=decide (m=N) from decide_eq_decide.2 (by omega)];have:decide (a=65535)≠decide (m=N):=fun e=>h (propext (decide_eq_decide.1 e));simp[this]
def XU(g h:Ac)(E L:List Ac):(g::([h]++(E++L))).Perm (h::(L++(g::E))):=
 (Aee h g (E++L)).trans (Ads h ((Ads g Adl).trans List.perm_middle.symm))
def AaS(d a b c x y z o h:Ac)(L:List Ac):Vs d (a::b::c::x::y::z::o::h::L) (join (join d o) h) L:=
 (Vs.drop (.cons _ (.cons _ (.cons _ (.cons _ (.cons _ (.cons _ (Adb _)))))))).trans (Vs.freeze.trans Vs.freeze)
def N9(P:Program)(f:FuncId):Prop:=∃f1 f2 f3,Fx true false P f=some (HI f1)∧Fx true false P f1=some (FA f2 f3)∧FO P f2∧FE P f3
def Yg(P:Program)(f:FuncId):Prop:=∃f2 f3,Fx true false P f=some (FA f2 f3)∧FO P f2∧FE P f3
def AcY{f2 f3}(hd:Fx true false P f=some (FA f2 f3))(h1:FO P f2)(h2:FE P f3):Yg P f:=⟨f2,f3,hd,h1,h2⟩
def Xx(hd:Fx true false P f=some (HI f1))(h:Yg P f1):N9 P f:=let ⟨f2,f3,h1,h2,h3⟩:=h;⟨f1,f2,f3,hd,h1,h2,h3⟩
def SU(a0 a1:Nat):GW:=(.mk 80 [(.cell 6 none),(.cell 7 none),(.cell 8 none)] (.seq (.g (rG (o1 5 (.box 2)<|o1 6 (.alo (.slice none 0 0))<|o1 7 (.alo (.slice none 0 0))<|o1 8 (.alo (vZ 0)) .done))) (.seq (.g (sR (ol 17 5<|ob 18 .lss 17 z0<|om 19 18<|oF 20 19 (.ld none 5)<|oF 21 19 (.bin .gtr 20 (kZ 16384))<|o1 22 (.pick 19 (.const (.bool true)) 21) .done) (.cond 22 (sR (o0 (.st 1 6 nS)<|o0 (.st 1 7 nS)<|o0 (.st 1 8 z2) .done) .ret) .skip))) (.seq (.g (rG (o1 9 (.alo (.slice none 0 0)) .done))) (.seq (.g (rG (o1 10 (.alo (.slice none 0 0)) .done))) (.seq (.seq (.g (rG (om 23 0<|om 24 1<|ol 25 5<|oc 26 a0 [23,24,25] .done))) (.block 0 (.rf 26 [27,28] (sR (om 11 27 .done) (rG (om 12 28 .done))) (.block 1 (.seq (sR (om 29 12<|o1 30 (.eqs false 29 nS) .done) (.cond 30 (sR (om 31 11<|o1 32 (.un .neg 31)<|o0 (.st 1 6 nS)<|o0 (.st 1 7 nS)<|o0 (.st 1 8 32) .done) .ret) .skip)) (sR (ol 33 9<|om 34 11<|o1 35 (.bsl 1 1 [(vZ 0)] [(0,34)])<|o1 36 (.app 1 8 [(vZ 0)] 33 35)<|o0 (.st 1 9 36) .done) (.seq (.reg true (pm 37 12<|p1 38 (.idx 1 37 z0)<|pl 39 38<|p1 40 (.cvi .i64 39)<|p1 41 (.bin .shl 40 (.const (.int .u64 8)))<|pm 42 12<|p1 43 (.idx 1 42 z1)<|pl 44 43<|p1 45 (.cvi .i64 44)<|p1 46 (.bin .or 41 45) (.bar (pm 13 46 .done)))) (.seq (.seq (.reg true (pm 47 13<|p1 48 (.bin .eql 47 (kZ 65535))<|pl 49 9<|p1 50 (.len 49)<|pl 51 5<|oc 52 a1 [51]<|p1 53 (.bin .eql 50 52)<|p1 54 (.eqb true 48 53) .done)) (.cond 54 (sR (o0 (.st 1 6 nS)<|o0 (.st 1 7 nS)<|o0 (.st 1 8 (kZ 200)) .done) .ret) .skip)) (sR (ol 55 5<|ol 56 10<|oL 57 56<|ob 58 .sub 55 57<|o1 59 (.mn2 (kZ 254) 58)<|om 14 59 .done) (.seq (sR (om 60 12<|om 61 14<|ob 62 .add z2 61<|o1 63 (.sl 1 60 (some 62) none none)<|oL 64 63<|o1 65 (.mv z0) .done) (.block 2 (.loop (sR (ob 66 .lss 65 64 .done) (.seq (.cond 66 .skip (.exit 2)) (.seq (.block 3 (sR (oI 67 1 63 65<|ol 68 67<|om 16 68 .done) (sR (om 69 16<|ob 70 .neq 69 (.const (.int .u8 0)) .done) (.cond 70 (sR (o0 (.st 1 6 nS)<|o0 (.st 1 7 nS)<|o0 (.st 1 8 (kZ 200)) .done) .ret) .skip)))) (rG (ob 71 .add 65 z1<|om 65 71 .done)))))))) (.reg true (pm 73 12<|pm 74 14<|p1 75 (.bin .add z2 74)<|p1 76 (.sl 1 73 (some z2) (some 75) none)<|ol 72 10<|o1 77 (.app 1 1 [(.int .u8 0)] 72 76) (.bar (o0 (.st 1 10 77) .done)))))))))))))) (.g (.seq (.reg true (pl 78 9<|pl 79 10<|o0 (.st 1 6 78)<|o0 (.st 1 7 79)<|o0 (.st 1 8 z0) .done)) .ret))))))))
set_option maxRecDepth 4000 in
set_option maxHeartbeats 2000000 in
def Yp{f2}(hd:Fx false false P f=some (SU f1 f2))(h1:N9 P f1)(h2:FO P f2):Jx P f:=by
 obtain⟨f3,f4,f5,g1,g2,g3,g4⟩:=h1;intro d s dv pv L k size hp;obtain⟨bp,rfl⟩:=hp.ptr;refine ES hd (Ada rfl) ?_;show xwp P _ _ _ _ _;(apply BQ;apply x_g;apply AB);refine FB rfl (fun b5 T5=>?_);refine DW (fun b6 T6=>?_);refine DW (fun b7 T7=>?_);refine DW (fun b8 T8=>?_);refine FR ⟨d,bx b8 T8 [vZ 0]::bx b7 T7 [.slice none 0 0]::bx b6 T6 [.slice none 0 0]::bx b5 T5 [vZ size]::L,Vs.refl _ _,?_⟩;by_cases hsz:0≤size∧size≤16384
 ·obtain⟨n,rfl⟩:∃n:Nat,size=n:=⟨size.toNat,by omega⟩
  have hn:n≤16384:=by omega
  have hF:Bw s k n=DG s n (AQ n) k [] [] (AQ n):=by unfold Bw;rw[if_pos hsz];rfl
  rw[hF];(apply BQ;apply x_g;apply Af;apply AB;apply Ag;rfl;exact Aj 3 rfl rfl;apply AE;rfl;rfl;apply Ae;rfl;refine Bf rfl (by omega) ?_;apply Ah;rfl;apply Ag;rfl;exact Aj 3 rfl rfl;apply Ah;rfl;apply BW;rfl;rfl;apply Aw;rfl;rfl;apply Aa;refine Ar rfl (by omega) ?_;apply Ak;apply BQ;apply x_g;apply AB;apply DW;intro _ _;apply Aa;apply BQ;apply x_g;apply AB;apply DW;intro _ _;apply Aa;apply BQ;apply BQ;apply x_g;apply AB;apply Am;rfl;apply Ab;rfl;apply Ag;rfl;exact Aj 5 rfl rfl);rename_i b9 T9 b10 T10;refine B9 d (bx b10 T10 [.slice none 0 0]::bx b9 T9 [.slice none 0 0]::bx b8 T8 [vZ 0]::bx b7 T7 [.slice none 0 0]::bx b6 T6 [.slice none 0 0]::bx b5 T5 [vZ n]::emp::emp::L)
   ((Vs.emp.trans Vs.emp).trans (Vs.perm (Afd [emp,emp] [_,_,_,_,_,_] L))) ?_
  refine DN (A:=[]) (B:=bx b10 T10 [.slice none 0 0]::bx b9 T9 [.slice none 0 0]::bx b8 T8 [vZ 0]::bx b7 T7 [.slice none 0 0]::bx b6 T6 [.slice none 0 0]::bx b5 T5 [vZ n]::emp::emp::L) rfl rfl (Ye g1 (h:=k) (n:=n)) (fun u d1 L1 hl1 ⟨bz,bq,bh,Th,e1,hz,hq,e2⟩=>?_);subst e1;subst e2;(apply Aa;apply GD);refine AbE rfl (fun l rc hrec hst hpd=>?_);refine Av.reorder (L1:=bx bh Th [vZ k]::(L++(sg l (.loop rc)::[bx b10 T10 [.slice none 0 0],bx b9 T9 [.slice none 0 0],bx b8 T8 [vZ 0],bx b7 T7 [.slice none 0 0],bx b6 T6 [.slice none 0 0],bx b5 T5 [vZ n],emp,emp]))) ?_ (Av.DL
   (XL g2 g3 g4 (rc:=rc) (l:=l) (RJ s n k b5 b6 b7 b8 b9 b10 T5 T6 T7 T8 T9 T10) (RF rc s n k b6 b7 b8 T6 T7 T8) (hp.mono hl1) hz hq hn ?_ ?_ ?_ ?_) ?_)
  ·exact XU _ _ [_,_,_,_,_,_,_,_] L
  ·exact⟨[],[],none,0,none,0,emp,emp,rfl,Ap.nil,Ap.nil,rfl,Aej _,rfl⟩
  ·rintro i d2 d3 E hle ⟨l1,o1,la,lc,oa,oc,hl,ho,q1,q2,q3,q4,q5,q6⟩;exact⟨l1,o1,la,lc,oa,oc,hl,ho,q1,Ap.mono (R:=Bb) B2 q2 hle,Ap.mono (R:=AP) A3 q3 hle,q4,q5,q6⟩
  ·rintro i hi d2 E2 v hle ⟨l1,o1,la,lc,oa,oc,hl,ho,rfl,q2,q3,q4,q5,q6⟩ hlv hv;refine K4 hrec hst rfl ?_;have hfl:(s.bytes (hdF s k i)).length=256:=hp.full hlv;have hv0:=hv;obtain⟨va,vc,vb,vo,rfl,w2, -, -, -, -, -,w8⟩:=hv;obtain rfl:va=some ⟨vb,vo,none⟩:=w2 (by omega);have dd0:DCs d2 vb (vo+0*1) [AA (s.bytes (hdF s k i))[0]]:=by
    obtain⟨cs,c1,c2,c3⟩:=w8 0 (by omega);rw[show cs=[AA (s.bytes (hdF s k i))[0]] from c3] at c2;exact c2
   have dd1:DCs d2 vb (vo+1*1) [AA (s.bytes (hdF s k i))[1]]:=by
    obtain⟨cs,c1,c2,c3⟩:=w8 1 (by omega);rw[show cs=[AA (s.bytes (hdF s k i))[1]] from c3] at c2;exact c2
   have hkr:0≤hdF s k i∧hdF s k i≤16384:=by
    have:=hp.Fm.inn;have:=hp.Fm.syn;rcases hlv with q|q<;>(obtain⟨j,j1,j2, -, -⟩:=CA q (by omega);omega)
   have q4':=q4;have hpn:AQ n≤8192:=by unfold AQ;omega
   (refine Ad<|Ab rfl<|Aa<|AB<|Al rfl<|Aa<|Ay<|Af<|Ad<|Al rfl<|TI rfl rfl<|Aa<|AS rfl<|Ak<|Ad<|Ag rfl (Aj 1 rfl rfl)<|Ab rfl ?_);refine D5 (v0:=vZ (hdF s k i)) rfl rfl (fun b3 T3=>?_);refine D1 (R:=Bb) 7 rfl rfl q2 rfl (Ap.Ep (x:=hdF s k i) rfl ⟨rfl,by omega,by omega⟩) CX (by omega) (by simp;omega) (by simp;omega) (fun v' h' ho'=>?_);obtain⟨la',lc',rfl⟩:=ho'.val;refine A6 1 [.slice la' (l1++[hdF s k i]).length lc'] rfl rfl rfl rfl (Adi _) rfl rfl ?_;have g0:(s.bytes (hdF s k i)).getD 0 0=(s.bytes (hdF s k i))[0]:=by rw[Adh,Ade (by omega)];rfl
   have g1':(s.bytes (hdF s k i)).getD 1 0=(s.bytes (hdF s k i))[1]:=by rw[Adh,Ade (by omega)];rfl
   have l0:=UInt8.toNat_lt (s.bytes (hdF s k i))[0];have l1':=UInt8.toNat_lt (s.bytes (hdF s k i))[1];have hlk:GY (s.bytes (hdF s k i))=(s.bytes (hdF s k i))[0].toNat*256+(s.bytes (hdF s k i))[1].toNat:=by rw[GY,g0,g1']
   (refine Aa<|Af<|Bu<|Al rfl<|BG 0 rfl rfl rfl (by omega) (by assumption)<|Ag rfl (Fy (by assumption) rfl)<|Es rfl (by omega) (by omega) ?_);refine R6 (a:=(s.bytes (hdF s k i))[0].toNat) rfl rfl (by omega) ?_;(refine Al rfl<|BM (m:=1) (sz:=1) (R:=AP) (by rfl) (by assumption) (by rfl) rfl (by omega) ?_;rintro _ _ _ _ _ rfl;refine Ag rfl (B4 (by assumption) rfl)<|Es rfl (by omega) (by omega) ?_);refine Rw (a:=(s.bytes (hdF s k i))[0].toNat) (b:=(s.bytes (hdF s k i))[1].toNat) rfl rfl l0 l1' ?_;rw[←hlk];(refine Ch<|Ab rfl<|Aa<|Af<|Af<|Bu<|Ab rfl<|AO rfl rfl<|Ag rfl (Aj 1 rfl rfl)<|AK rfl<|Ag rfl (Aj 5 rfl rfl) ?_);refine Bl rfl (h2 (n:=n) (by omega)) (fun u d3 L3 _ ⟨e1,e2,e3⟩=>?_);subst e1;subst e2;subst e3;rw[Ael];have hl1':(l1++[hdF s k i]).length=l1.length+1:=by simp
   have hst':AQ n - i=(AQ n - (i+1))+1:=by omega
   (refine AO rfl rfl<|IS rfl rfl<|A9 ?_);by_cases hh:(GY (s.bytes (hdF s k i))=65535)=(l1.length+1=AQ n)
   ·refine AS (congrArg Value.bool (X3 (by rw[hl1'];exact hh))) ?_;have ht2:2+min 254 (n - o1.length)≤(s.bytes (hdF s k i)).length:=by omega
    (refine Ak<|Ad<|Ag rfl (Aj 5 rfl rfl)<|Ag rfl (Aj 0 rfl rfl)<|AK rfl<|C6 rfl rfl (by omega) (by omega)<|AcO rfl rfl<|Ab rfl<|Aa<|Af<|Ad<|Al rfl<|Ab rfl<|AL rfl rfl (by omega) (by omega) ?_);refine EU (R:=AP) (sz:=1) (n:=2+min 254 (n - o1.length)) rfl hv0 rfl (by omega) ht2 (fun vz hvz=>?_);obtain⟨zs,hzs⟩:∃zs,zs=(s.bytes (hdF s k i)).drop (2+min 254 (n - o1.length)):=⟨_,rfl⟩
    rw[←hzs] at hvz;have hzl:=hvz.B3;(refine BL rfl (by assumption)<|Ab rfl<|Aa<|Ay ?_);refine C8 (α:=Nat) (fun j=>[(6,pZ b6),(7,pZ b7),(8,pZ b8),(10,pZ b10),(12,.slice (some ⟨vb,vo,none⟩) (s.bytes (hdF s k i)).length vc),(14,vZ ((min 254 (n - o1.length):Nat):Int)),(63,vz),(64,vZ zs.length),(65,vZ j)])
     (fun _=>[bx b10 T10 [.slice oa o1.length oc],bx b9 T9 [.slice la' (l1++[hdF s k i]).length lc'],bx b8 T8 [vZ 0],bx b7 T7 [.slice none 0 0],bx b6 T6 [.slice none 0 0],bx b5 T5 [vZ n],ho,h'])
     (fun j=>j≤zs.length∧(zs.take j).all (·==0)=true) (fun j=>zs.length - j) 0 ⟨rfl,rfl,rfl,rfl,rfl,by show Value.int _ _=Value.int _ _;congr 1;omega,rfl,rfl,rfl,trivial⟩ rfl ⟨Aej _,rfl⟩ ?_
    rintro j ρ ⟨hj,hja⟩;by_cases ej:j<zs.length
    ·have hjn:(zs.take (j+1)).all (·==0)=((zs.take j).all (·==0)&&(zs[j]==0)):=by rw[Aea ej,List.all_append];simp
     by_cases hz0:zs[j]=0
     ·have hz1:zs[j].toNat=0:=by rw[hz0];rfl
      (refine Ad<|AE rfl rfl<|Aa<|Af<|Ax rfl (by omega)<|Ak<|Af<|Ay<|Ad<|BM (sz:=1) (R:=AP) (by rfl) (by assumption) (by rfl) rfl (by omega) ?_;rintro _ _ _ _ _ rfl;refine Ag rfl (B4 (by assumption) rfl)<|Ab rfl<|Aa<|Ad<|Ab rfl<|AN rfl rfl<|Aa<|Ar rfl (by omega)<|Ak<|AB<|AL rfl rfl (by omega) (by omega)<|Ab rfl<|Aa ?_);exact⟨j+1,by omega,⟨rfl,rfl,rfl,rfl,rfl,rfl,rfl,rfl,rfl,trivial⟩,rfl,rfl,ej,by rw[hjn,hja,hz0];rfl⟩
     ·have hz1:zs[j].toNat≠0:=fun q=>hz0 (UInt8.toNat_inj.1 q);have hrd:DG s n (AQ n) k [] [] (AQ n)=([],[],200):=by
       rw[q6,hst',DG,if_pos hlv,if_pos hh,if_neg];rw[←hzs];intro hall;exact hz0 (by simpa using List.all_eq_true.1 hall _ (Aec ej))
      (refine Ad<|AE rfl rfl<|Aa<|Af<|Ax rfl (by omega)<|Ak<|Af<|Ay<|Ad<|BM (sz:=1) (R:=AP) (by rfl) (by assumption) (by rfl) rfl (by omega) ?_;rintro _ _ _ _ _ rfl;refine Ag rfl (B4 (by assumption) rfl)<|Ab rfl<|Aa<|Ad<|Ab rfl<|AN rfl rfl<|Aa<|Ax rfl (by omega)<|Ad ?_);refine A6 4 [.slice none 0 0] rfl rfl rfl rfl (Adi _) rfl rfl ?_;refine A6 3 [.slice none 0 0] rfl rfl rfl rfl (Adi _) rfl rfl ?_;refine A6 2 [vZ 200] rfl rfl rfl rfl (Adi _) rfl rfl ?_;(refine Aa<|An ?_);exact Or.inr ⟨rfl,_,_,rfl,rfl,200,_,_,_,hrd,(by decide),rfl⟩
    ·have:j=zs.length:=by omega
     subst this;rw[Afi,hzs] at hja;have hstep:DG s n (AQ n) k [] [] (AQ n)=DG s n (AQ n) (hdF s k (i+1)) (l1++[hdF s k i]) (o1++((s.bytes (hdF s k i)).drop 2).take (min 254 (n - o1.length))) (AQ n - (i+1)):=by
      rw[q6,hst',DG,if_pos hlv,if_pos hh,if_pos hja];rfl
     have htl:(((s.bytes (hdF s k i)).drop 2).take (min 254 (n - o1.length))).length=min 254 (n - o1.length):=by rw[Adz,List.length_drop];omega
     (refine Ad<|AE rfl rfl<|Aa<|Af<|Ar rfl (by omega)<|Bg ?_);show gwp P _ _ _ _ _;skip;refine Bv [] [bx b10 T10 [.slice oa o1.length oc],bx b9 T9 [.slice la' (l1++[hdF s k i]).length lc'],bx b8 T8 [vZ 0],bx b7 T7 [.slice none 0 0],bx b6 T6 [.slice none 0 0],bx b5 T5 [vZ n],ho,h'] rfl ?_;(refine Al rfl<|Ab rfl<|AL rfl rfl (by omega) (by omega) ?_);refine Abd (R:=AP) (sz:=1) (n:=2) (m:=2+min 254 (n - o1.length)) rfl hv0 rfl rfl rfl (by omega) (by omega) ht2 (fun vm hvm=>?_);rw[Nat.add_sub_cancel_left] at hvm;(apply Ag;rfl;exact Aj 0 rfl rfl);refine EL (R:=AP) 6 rfl rfl q3 rfl (RSl.src hvm GR (by omega) _) (by omega) (by rw[htl];omega) (by rw[htl];omega) (fun v'' h'' ho''=>?_);obtain⟨oa',oc',rfl⟩:=ho''.val;(apply Ch);refine A6 0 [.slice oa' (o1++((s.bytes (hdF s k i)).drop 2).take (min 254 (n - o1.length))).length oc'] rfl rfl rfl rfl (Adi _) rfl rfl ?_;(apply Aa);exact Or.inl ⟨rfl,[bx b10 T10 [.slice oa' (o1++((s.bytes (hdF s k i)).drop 2).take (min 254 (n - o1.length))).length oc'],bx b9 T9 [.slice la' (l1++[hdF s k i]).length lc'],bx b8 T8 [vZ 0],bx b7 T7 [.slice none 0 0],bx b6 T6 [.slice none 0 0],bx b5 T5 [vZ n],h'',h'],by rw[UO hst hpd];rfl,l1++[hdF s k i],_,la',lc',oa',oc',h',h'',rfl,ho',ho'',by rw[hl1',q4],by rw[Adj,htl];omega,hstep⟩
   ·have hrd:DG s n (AQ n) k [] [] (AQ n)=([],[],200):=by rw[q6,hst',DG,if_pos hlv,if_neg hh]
    refine Bj (congrArg Value.bool (WO (by rw[hl1'];exact hh))) ?_;(refine Ad ?_);refine A6 4 [.slice none 0 0] rfl rfl rfl rfl (Adi _) rfl rfl ?_;refine A6 3 [.slice none 0 0] rfl rfl rfl rfl (Adi _) rfl rfl ?_;refine A6 2 [vZ 200] rfl rfl rfl rfl (Adi _) rfl rfl ?_;(refine Aa<|An ?_);exact Or.inr ⟨rfl,_,_,rfl,rfl,200,_,_,_,hrd,(by decide),rfl⟩
  ·rintro i hi d2 E2 hle ⟨l1,o1,la,lc,oa,oc,hl,ho,rfl,q2,q3,q4,q5,q6⟩ hlv;refine K4 hrec hst rfl ?_;have hrd:DG s n (AQ n) k [] [] (AQ n)=([],[],240):=by
    rw[q6,show AQ n - i=(AQ n - (i+1))+1 by omega,DG,if_neg hlv]
   (refine Ad<|Ab rfl<|Aa<|AB<|Al rfl<|Aa<|Ay<|Af<|Ad<|Al rfl<|Tc rfl rfl<|Aa<|Bj rfl<|Ad<|Ab rfl<|Z1 rfl (by omega) (by omega) ?_);refine A6 4 [.slice none 0 0] rfl rfl rfl rfl (Adi _) rfl rfl ?_;refine A6 3 [.slice none 0 0] rfl rfl rfl rfl (Adi _) rfl rfl ?_;refine A6 2 [vZ 240] rfl rfl rfl rfl (Adi _) rfl rfl ?_;(refine Aa<|An ?_);exact⟨rfl,_,_,rfl,rfl,240,_,_,_,hrd,(by decide),rfl⟩
  ·rintro u d3 L3 hl3 ⟨LP',E',rc',tc,rfl,hp3,h⟩;refine⟨d3,sg l (.loop rc')::(E'++LP'),Vs.perm Adl,rc',_,rfl,?_⟩
   rcases h with ⟨rfl,htc,l1,o1,la,lc,oa,oc,hl,ho,rfl,q2,q3,q4,q5,q6⟩|⟨rfl,e,x,y,R,hrd,hne,rfl⟩
   ·refine⟨(by rw[hst];intro q;cases q),?_⟩
    rw[hpd];have hll:=q2.B3;rw[Agy,DG] at q6;rw[q6];show xwp P _ _ _ _ _;(apply x_g;apply Af);refine Bv [_,_] (bx b8 T8 [vZ 0]::bx b7 T7 [.slice none 0 0]::bx b6 T6 [.slice none 0 0]::bx b5 T5 [vZ n]::ho::hl::LP') rfl ?_;(refine Ag rfl (Aj 1 rfl rfl)<|Ag rfl (Aj 0 rfl rfl) ?_);refine A6 2 [.slice la l1.length lc] rfl rfl rfl rfl (Adi _) rfl rfl ?_;skip;refine A6 1 [.slice oa o1.length oc] rfl rfl rfl rfl (Adi _) rfl rfl ?_;skip;refine A6 0 [vZ 0] rfl rfl rfl rfl (Adi _) rfl rfl ?_;(refine A9<|An ?_);exact Bd [.slice la l1.length lc,.slice oa o1.length oc,vZ 0] ⟨⟨_,_,rfl,Aj 4 rfl rfl⟩,⟨_,_,rfl,Aj 3 rfl rfl⟩,⟨_,_,rfl,Aj 2 rfl rfl⟩,trivial⟩ (d':=join (join d3 ho) hl) (L':=LP') (AaS _ _ _ _ _ _ _ _ _ _)
     ⟨(hl1.trans hl3).trans ((Le.AG _ _).trans (Le.AG _ _)),_,_,tc,rfl,Ap.rsl (R:=Bb) (sz:=1) q2 B2 (by omega) ((Le.AG _ _).trans (Le.AG _ _)) (Le.Ba _ _),
      Ap.rsl (R:=AP) (sz:=1) q3 A3 (by omega) ((Le.AG _ _).trans (Le.AG _ _)) ((Le.Ba _ _).trans (Le.AG _ _)),hp3.mono ((Le.AG _ _).trans (Le.AG _ _)),fun _=>htc⟩
   ·refine⟨(by intro q;cases q),?_⟩
    rw[hrd];exact Bd [.slice none 0 0,.slice none 0 0,vZ e] ⟨⟨_,_,rfl,Aj 4 rfl rfl⟩,⟨_,_,rfl,Aj 3 rfl rfl⟩,⟨_,_,rfl,Aj 2 rfl rfl⟩,trivial⟩ (d':=d3) (L':=LP') (Vs.drop (List.sublist_append_right _ _)) ⟨hl1.trans hl3,_,_,tc,rfl,RSl.nil,RSl.nil,hp3,fun q=>absurd q hne⟩
 ·have hF:Bw s k size=([],[],2):=by unfold Bw;rw[if_neg hsz]
  rw[hF];by_cases hneg:size<0
  ·(apply BQ;apply x_g;apply Af;apply AB;apply Ag;rfl;exact Aj 3 rfl rfl;apply AE;rfl;rfl;apply Ae;rfl;refine Bp rfl (by omega) ?_;apply Aq;rfl;apply Aq;rfl;apply AI;rfl;rfl;apply Aa;apply Bj;rfl;apply Af;apply AB);refine A6 2 [.slice none 0 0] rfl rfl rfl rfl (Adi _) rfl rfl ?_;refine A6 1 [.slice none 0 0] rfl rfl rfl rfl (Adi _) rfl rfl ?_;refine A6 0 [vZ 2] rfl rfl rfl rfl (Adi _) rfl rfl ?_;(refine Aa<|An ?_);exact Bd [.slice none 0 0,.slice none 0 0,vZ 2] ⟨⟨_,_,rfl,Aj 2 rfl rfl⟩,⟨_,_,rfl,Aj 1 rfl rfl⟩,⟨_,_,rfl,Aj 0 rfl rfl⟩,trivial⟩ (d':=d) (L':=L) (Vs.drop (.cons _ (.cons _ (.cons _ (.cons _ (Adb _)))))) ⟨Le.refl _,_,_,s.tc,rfl,RSl.nil,RSl.nil,hp,fun q=>absurd q (by decide)⟩
  ·have hbig:16384<size:=by omega
   (apply BQ;apply x_g;apply Af;apply AB;apply Ag;rfl;exact Aj 3 rfl rfl;apply AE;rfl;rfl;apply Ae;rfl;refine Bf rfl (by omega) ?_;apply Ah;rfl;apply Ag;rfl;exact Aj 3 rfl rfl;apply Ah;rfl;apply BW;rfl;rfl;apply Aw;rfl;rfl;apply Aa;refine Ax rfl (by omega) ?_;apply Af;apply AB);refine A6 2 [.slice none 0 0] rfl rfl rfl rfl (Adi _) rfl rfl ?_;refine A6 1 [.slice none 0 0] rfl rfl rfl rfl (Adi _) rfl rfl ?_;refine A6 0 [vZ 2] rfl rfl rfl rfl (Adi _) rfl rfl ?_;(refine Aa<|An ?_);exact Bd [.slice none 0 0,.slice none 0 0,vZ 2] ⟨⟨_,_,rfl,Aj 2 rfl rfl⟩,⟨_,_,rfl,Aj 1 rfl rfl⟩,⟨_,_,rfl,Aj 0 rfl rfl⟩,trivial⟩ (d':=d) (L':=L) (Vs.drop (.cons _ (.cons _ (.cons _ (.cons _ (Adb _)))))) ⟨Le.refl _,_,_,s.tc,rfl,RSl.nil,RSl.nil,hp,fun q=>absurd q (by decide)⟩
def PJ(P:Program)(f:FuncId):Prop:=∀{d s dv pv L}{k size:Int},Pg d s dv pv L→
 Av P f [pv,vZ k,vZ size] d L (Ret fun r d' L'=>Le d d'∧∃w tc,r=.tuple #[w,vZ (Bw s k size).2.2]∧AM d' w (Bw s k size).2.1∧Pg d' {s with tc:=tc} dv pv L'∧((Bw s k size).2.2=0→tc=s.tc+AQ size.toNat))
def Ug(a0:Nat):A5:=⟨21,[(.tmp 6),(.tmp 7)],(sR (o1 6 (.mv nS)<|o1 7 (.mv z0) .done) (sR (om 12 0<|om 13 1<|om 14 2<|oc 15 a0 [12,13,14]<|om 11 15<|oe 16 11 0<|oe 17 11 1<|oe 18 11 2<|om 8 16<|om 9 17<|om 10 18 .done) (sR (om 19 9<|om 20 10<|om 6 19<|om 7 20 .done) .ret)))⟩
def YE(hd:dec P f=some (Ug f1))(h1:Jx P f1):PJ P f:=by
 intro d s dv pv L k size hp;obtain⟨bp,rfl⟩:=hp.ptr;refine AF hd (Ada rfl) ?_;show gwp P _ _ _ _ _;(refine Ad<|Al rfl<|Ab rfl<|Aa<|Ad<|Am rfl<|Ab rfl<|Ab rfl ?_);refine D4 (h1 (k:=k) (size:=size) hp) rfl (fun u d2 L2 hl2 ⟨_,v,w,tc,e1,hv,hw,hp2,htc⟩=>?_);subst e1;(refine AU rfl<|Ao rfl rfl<|Ao rfl rfl<|Ao rfl rfl<|AJ<|AJ<|Ab rfl<|Aa<|Ad<|AJ<|Ab rfl<|AJ<|Ab rfl<|Aa<|An ?_);exact CO rfl rfl (Adb _) ⟨hl2,w,tc,rfl,hw,hp2,htc⟩
def ML(P:Program)(f:FuncId):Prop:=∀{d s dv pv L}{k size:Int},Pg d s dv pv L→
 Av P f [pv,vZ k,vZ size] d L (Ret fun r d' L'=>Le d d'∧∃w tc,r=.tuple #[w,vZ (Bw s k size).2.2]∧C5 d' w (Bw s k size).1∧Pg d' {s with tc:=tc} dv pv L')
def SB(a0:Nat):A5:=⟨21,[(.tmp 6),(.tmp 7)],(sR (o1 6 (.mv nS)<|o1 7 (.mv z0) .done) (sR (om 12 0<|om 13 1<|om 14 2<|oc 15 a0 [12,13,14]<|om 11 15<|oe 16 11 0<|oe 17 11 1<|oe 18 11 2<|om 8 16<|om 9 17<|om 10 18 .done) (sR (om 19 8<|om 20 10<|om 6 19<|om 7 20 .done) .ret)))⟩
def YU(hd:dec P f=some (SB f1))(h1:Jx P f1):ML P f:=by
 intro d s dv pv L k size hp;obtain⟨bp,rfl⟩:=hp.ptr;refine AF hd (Ada rfl) ?_;show gwp P _ _ _ _ _;(refine Ad<|Al rfl<|Ab rfl<|Aa<|Ad<|Am rfl<|Ab rfl<|Ab rfl ?_);refine D4 (h1 (k:=k) (size:=size) hp) rfl (fun u d2 L2 hl2 ⟨_,v,w,tc,e1,hv,hw,hp2,htc⟩=>?_);subst e1;(refine AU rfl<|Ao rfl rfl<|Ao rfl rfl<|Ao rfl rfl<|AJ<|AJ<|Ab rfl<|Aa<|Ad<|AJ<|Ab rfl<|AJ<|Ab rfl<|Aa<|An ?_);exact CO rfl rfl (Adb _) ⟨hl2,v,tc,rfl,hv,hp2⟩
def DI(s:PD):List Int→PD×Int
 |[]=>(s,0)
 |k::l=>if (s.drop k).2=0 then DI (s.drop k).1 l else((s.drop k).1,(s.drop k).2)
def DZ(s:PD)(k size:Int):PD×Int:=if (Bw s k size).2.2=0 then DI s (Bw s k size).1 else(s,(Bw s k size).2.2)
def MF(P:Program)(f:FuncId):Prop:=∀{d s dv pv L}{k size:Int},Pg d s dv pv L→
 Av P f [pv,vZ k,vZ size] d L (Ret fun r d' L'=>Le d d'∧r=vZ (DZ s k size).2∧∃tc,Pg d' {(DZ s k size).1 with tc:=tc} dv pv L')
def UJ{s:PD}{n:Nat}{k:Int}:PD.drop {s with tc:=n} k=({(s.drop k).1 with tc:=n},(s.drop k).2):=by
 unfold PD.drop;show(if s.kind k=1 then _ else if s.kind k=2 then _ else _)=_;by_cases h1:s.kind k=1
 ·simp only[if_pos h1]
 ·by_cases h2:s.kind k=2
  ·simp only[if_neg h1,if_pos h2]
  ·simp only[if_neg h1,if_neg h2]
def R5(a0 a1:Nat):A5:=⟨37,[(.tmp 6)],(sR (o1 6 (.mv z0) .done) (sR (om 14 0<|om 15 1<|om 16 2<|oc 17 a0 [14,15,16]<|om 13 17<|oe 18 13 0<|oe 19 13 1<|oe 20 13 2<|om 7 18<|om 8 19<|om 9 20 .done) (.seq (sR (om 21 9<|ob 22 .neq 21 z0 .done) (.cond 22 (sR (om 23 9<|om 6 23 .done) .ret) .skip)) (.seq (sR (om 24 7<|oL 25 24<|o1 26 (.mv z0) .done) (.block 0 (.loop (sR (ob 27 .lss 26 25 .done) (.seq (.cond 27 .skip (.exit 0)) (.seq (.block 1 (sR (oI 28 1 24 26<|ol 29 28<|om 11 29 .done) (sR (om 30 0<|om 31 11<|oc 32 a1 [30,31]<|om 12 32 .done) (sR (om 33 12<|ob 34 .neq 33 z0 .done) (.cond 34 (sR (om 35 12<|om 6 35 .done) .ret) .skip))))) (rG (ob 36 .add 26 z1<|om 26 36 .done)))))))) (sR (o1 6 (.mv z0) .done) .ret)))))⟩
set_option maxRecDepth 4000 in
def Yz{f2}(hd:dec P f=some (R5 f1 f2))(h1:Jx P f1)(h2:GZ P f2):MF P f:=by
 intro d s dv pv L k size hp;obtain⟨bp,rfl⟩:=hp.ptr;refine AF hd (Ada rfl) ?_;show gwp P _ _ _ _ _;(refine Ad<|Ab rfl<|Aa<|Ad<|Am rfl<|Ab rfl<|Ab rfl ?_);refine D4 (h1 (k:=k) (size:=size) hp) rfl (fun u d2 L2 hl2 ⟨_,v,w,tc,e1,hv,hw,hp2,htc⟩=>?_);subst e1;by_cases hz:(Bw s k size).2.2=0
 ·have hF:DZ s k size=DI s (Bw s k size).1:=by unfold DZ;rw[if_pos hz]
  rw[hF];generalize (Bw s k size).1=l at hv;have hll:=hv.B3;(refine AU rfl<|Ao rfl rfl<|Ao rfl rfl<|Ao rfl rfl<|AJ<|AJ<|Ab rfl<|Aa<|Af<|Ad<|Ab rfl<|AN rfl rfl<|Aa<|Ar rfl (by omega)<|Ak<|Af<|Ad<|AJ<|BL rfl (by assumption)<|Ab rfl<|Aa<|Ay ?_);refine CB (α:=Nat×PD) (fun x=>[(0,pZ bp),(24,v),(25,vZ l.length),(26,vZ x.1)])
   (fun x d' L'=>Le d2 d'∧x.1≤l.length∧DI s l=DI x.2 (l.drop x.1)∧Pg d' {x.2 with tc:=tc} dv (pZ bp) L') (fun x=>l.length - x.1) (0,s) ⟨rfl,rfl,rfl,rfl,trivial⟩ ⟨Le.refl _,Aej _,rfl,hp2⟩ ?_
  rintro⟨i,s1⟩ ρ d' L' ⟨hle,hi,hD,hp'⟩;simp only at hi hD hp'⊢;have hv':=RSl.mono (R:=Bb) B2 hv hle;by_cases e:i<l.length
  ·rw[List.drop_eq_getElem_cons e,DI] at hD;(refine Ad<|AE rfl rfl<|Aa<|Af<|Ax rfl (by omega)<|Ak<|Af<|Ay<|Ad<|BM (sz:=1) (R:=Bb) (by rfl) (by assumption) (by rfl) rfl (by omega) ?_;rintro _ _ _ _ _ ⟨rfl,_,_⟩;refine Ag rfl (B4 (by assumption) rfl)<|Ab rfl<|Aa<|Ad<|Am rfl<|Ab rfl ?_);refine D4 (h2 (k:=l[i]) hp') rfl (fun u d3 L3 hl3 ⟨q1,q2⟩=>?_);rw[UJ] at q1 q2;subst q1;by_cases hd0:(s1.drop l[i]).2=0
   ·rw[if_pos hd0] at hD;(refine Ab rfl<|Aa<|Ad<|Ab rfl<|AN rfl rfl<|Aa<|Ar rfl (by omega)<|Ak<|AB<|AL rfl rfl (by omega) (by omega)<|Ab rfl<|Aa ?_);exact⟨(i+1,(s1.drop l[i]).1),by simp only;omega,⟨rfl,rfl,rfl,rfl,trivial⟩,hle.trans hl3,e,hD,q2⟩
   ·rw[if_neg hd0] at hD;rw[hD];(refine Ab rfl<|Aa<|Ad<|Ab rfl<|AN rfl rfl<|Aa<|Ax rfl (by omega)<|Ad<|Ab rfl<|Ab rfl<|Aa<|An ?_);exact BO rfl (Adb _) ⟨(hl2.trans hle).trans hl3,rfl,tc,q2⟩
  ·have:i=l.length:=by omega
   subst this;rw[List.drop_length,DI] at hD;rw[hD];(refine Ad<|AE rfl rfl<|Aa<|Af<|Ar rfl (by omega)<|Bg<|Ad<|Ab rfl<|Aa<|An ?_);exact BO rfl (Adb _) ⟨hl2.trans hle,rfl,tc,hp'⟩
 ·have hF:DZ s k size=(s,(Bw s k size).2.2):=by unfold DZ;rw[if_neg hz]
  rw[hF];(refine AU rfl<|Ao rfl rfl<|Ao rfl rfl<|Ao rfl rfl<|AJ<|AJ<|Ab rfl<|Aa<|Af<|Ad<|Ab rfl<|AN rfl rfl<|Aa<|Ax rfl (by omega)<|Ad<|Ab rfl<|Ab rfl<|Aa<|An ?_);exact BO rfl (Adb _) ⟨hl2,rfl,tc,hp2⟩
end Go.Gk.Chn
end
section
namespace Go.Gk.Node
open Go Go.Gk
attribute [local irreducible] gwp gws
variable{P:Program}{f f1:FuncId}{α:Type}
structure Az where
 leaf:Bool
 keys:List (List UInt8)
 vals:List (List UInt8)
 kids:List Int
def CG(d:Ac)(cs:List Value)(n:Az):Prop:=
 ∃kv vv iv,cs=[.bool n.leaf,kv,vv,iv]∧Di d kv n.keys∧Di d vv n.vals∧C5 d iv n.kids
def Dq(n:Az)(i:Nat):Nat:=(n.keys.getD i []).length
def Fg(n:Az)(i:Nat):Nat:=(n.vals.getD i []).length
def D8(n:Az)(i:Nat):Nat:=if n.leaf then 2+Dq n i+Fg n i else 1+Dq n i
def OH(P:Program)(f:FuncId):Prop:=∀{d cs}{n:Az},CG d cs n→∀i:Nat,i<n.keys.length→C2 P f [.agg cs.toArray,vZ i] d (vZ (D8 n i))
def N7:A5:=⟨44,[(.tmp 4)],(sR (o1 2 (.box 0)<|o1 4 (.mv z0) .done) (.seq (sR (oj 5 0 2<|ol 6 5<|om 7 6<|gT 8 7 1<|oT 9 7 (.fld 2 2)<|oT 10 7 (.ld none 9)<|oT 11 7 (.len 10)<|oT 12 7 (.bin .lss 8 11)<|gP 13 7 12 .done) (.cond 13 (.seq (.reg true (p1 14 (.fld 1 2)<|pl 15 14<|pm 16 1<|p1 17 (.idx 1 15 16)<|pl 18 17<|p1 19 (.len 18)<|p1 20 (.bin .add z2 19)<|p1 21 (.fld 2 2)<|pl 22 21<|pm 23 1<|p1 24 (.idx 1 22 23)<|pl 25 24<|p1 26 (.len 25)<|p1 27 (.bin .add 20 26) (.bar (pm 4 27 .done)))) .ret) .skip)) (.seq (sR (oj 28 0 2<|ol 29 28 .done) (.cond 29 (sR (oj 30 1 2<|ol 31 30<|om 32 1<|oI 33 1 31 32<|ol 34 33<|oL 35 34<|ob 36 .add z2 35<|om 4 36 .done) .ret) .skip)) (sR (oj 37 1 2<|ol 38 37<|om 39 1<|oI 40 1 38 39<|ol 41 40<|oL 42 41<|ob 43 .add z1 42<|om 4 43 .done) .ret))))⟩
def Abh(hd:dec P f=some N7):OH P f:=by
 intro d cs n hn i hi;obtain⟨lf,ks,vs,is⟩:=n;obtain⟨kv,vv,iv,rfl,hk,hv,hiv⟩:∃kv vv iv,cs=[.bool lf,kv,vv,iv]∧Di d kv ks∧Di d vv vs∧C5 d iv is:=hn;simp only at hi;refine AF hd (Ada rfl) ?_;obtain⟨ka,kc,kb,ko,rfl,kA,kS,kN,kl,km,kB,kx⟩:=hk;obtain⟨va,vc,vb,vo,rfl,vA,vS,vN,vl,vm,vB,vx⟩:=hv;obtain⟨c0,hc0,hD0,⟨u0,rfl,hu0⟩⟩:=kx i hi;replace hD0:=hD0.one;obtain⟨ua,uc,ub,uo,rfl,uA,uS,uN,ul,um,uB,ux⟩:=hu0;dsimp only[D8,Dq,Fg] at*;have hkl:(ks.getD i []).length=ks[i].length:=by simp[hi]
 rw[hkl];cases lf
 ·show gwp P _ _ _ _ _;(refine Ad<|Cx rfl (fun _ _=>Ab rfl<|Aa<|Af<|Ad<|Ai rfl<|Ag rfl (Aj 0 rfl rfl)<|Ae rfl<|Aq rfl<|Aq rfl<|Aq rfl<|Aq rfl<|Aq rfl<|Aw rfl rfl<|Aa<|AS rfl<|Ak<|Af<|Ad<|Ai rfl<|Ag rfl (Aj 0 rfl rfl)<|Aa<|AS rfl<|Ak<|Ad<|Ai rfl<|Ag rfl (Aj 0 rfl rfl)<|Ab rfl ?_);apply BG;rfl;rfl;rfl;omega;assumption;refine Ag rfl (BN (by assumption))<|AK rfl<|AL rfl rfl (by omega) (by omega)<|Ab rfl<|Aa<|An ?_);(apply HV;rfl);simp
 ·by_cases hv:i<vs.length
  ·obtain⟨c1,hc1,hD1,⟨u1,rfl,hu1⟩⟩:=vx i hv;replace hD1:=hD1.one;obtain⟨wa,wc,wb,wo,rfl,wA,wS,wN,wl,wm,wB,wx⟩:=hu1;show gwp P _ _ _ _ _;(refine Ad<|Cx rfl (fun _ _=>Ab rfl<|Aa<|Af<|Ad<|Ai rfl<|Ag rfl (Aj 0 rfl rfl)<|Ae rfl<|Ah rfl<|Ab rfl<|Ah rfl<|Ai rfl<|Ah rfl<|Ag rfl (Aj 0 rfl rfl)<|Ah rfl<|AK rfl<|Ah rfl<|AE rfl rfl<|AI rfl rfl<|Aa<|Ax rfl (by omega)<|Af<|Bu<|Ai rfl<|Ag rfl (Aj 0 rfl rfl)<|Ab rfl ?_);apply BG;rfl;rfl;rfl;omega;assumption;refine Ag rfl (BN (by assumption))<|AK rfl<|AL rfl rfl (by omega) (by omega)<|Ai rfl<|Ag rfl (Aj 0 rfl rfl)<|Ab rfl ?_;apply BG;rfl;rfl;rfl;omega;assumption;refine Ag rfl (BN (by assumption))<|AK rfl<|AL rfl rfl (by omega) (by omega)<|Ch<|Ab rfl<|Aa<|An ?_);(apply HV;rfl);simp[hv]
  ·show gwp P _ _ _ _ _;(refine Ad<|Cx rfl (fun _ _=>Ab rfl<|Aa<|Af<|Ad<|Ai rfl<|Ag rfl (Aj 0 rfl rfl)<|Ae rfl<|Ah rfl<|Ab rfl<|Ah rfl<|Ai rfl<|Ah rfl<|Ag rfl (Aj 0 rfl rfl)<|Ah rfl<|AK rfl<|Ah rfl<|AE rfl rfl<|AI rfl rfl<|Aa<|Ar rfl (by omega)<|Ak<|Af<|Ad<|Ai rfl<|Ag rfl (Aj 0 rfl rfl)<|Aa<|Bj rfl<|Ad<|Ai rfl<|Ag rfl (Aj 0 rfl rfl)<|Ab rfl ?_);apply BG;rfl;rfl;rfl;omega;assumption;refine Ag rfl (BN (by assumption))<|AK rfl<|AL rfl rfl (by omega) (by omega)<|Ab rfl<|Aa<|An ?_);(apply HV;rfl);simp[Aes (Ahu hv)]
def Bo(n:Az):Nat→Nat
 |0=>0
 |k+1=>Bo n k+D8 n k
def GC(n:Az):∀{k m:Nat},k≤m→Bo n k≤Bo n m:=by
 intro k m h;induction h with
 |refl=>exact Adi _
 |step _ ih=>simp only[Bo];omega
def AY(n:Az):Nat:=2+(if n.leaf then 0 else 2*n.kids.length)+Bo n n.keys.length
def LY(P:Program)(f:FuncId):Prop:=∀{d cs}{n:Az},CG d cs n→AY n≤1000000000000→C2 P f [.agg cs.toArray] d (vZ (AY n))
def TX(a0:Nat):A5:=⟨27,[(.tmp 2)],(sR (o1 1 (.box 0)<|o1 2 (.mv z0) .done) (sR (o1 3 (.mv z2) .done) (.seq (sR (oj 5 0 1<|ol 6 5<|o1 7 (.un .not 6) .done) (.cond 7 (rG (om 8 3<|oj 9 3 1<|ol 10 9<|oL 11 10<|ob 12 .mul z2 11<|ob 13 .add 8 12<|om 3 13 .done)) .skip)) (.seq (sR (oj 14 1 1<|ol 15 14<|oL 16 15<|o1 17 (.mv z0) .done) (.block 0 (.loop (sR (ob 18 .lss 17 16 .done) (.seq (.cond 18 .skip (.exit 0)) (.seq (.block 1 (sR (om 19 17<|om 4 19 .done) (rG (om 20 3<|o1 21 (.ld (some 4) 1)<|om 22 4<|oc 23 a0 [21,22]<|ob 24 .add 20 23<|om 3 24 .done)))) (rG (ob 25 .add 17 z1<|om 17 25 .done)))))))) (sR (om 26 3<|om 2 26 .done) .ret)))))⟩
def AaV{fc}(hd:dec P f=some (TX fc))(hc:OH P fc):LY P f:=by
 intro d cs n hn hb;have hn':=hn;obtain⟨lf,ks,vs,is⟩:=n;obtain⟨kv,vv,iv,rfl,hk,hv,hiv⟩:∃kv vv iv,cs=[.bool lf,kv,vv,iv]∧Di d kv ks∧Di d vv vs∧C5 d iv is:=hn;refine AF hd (Ada rfl) ?_;obtain⟨ka,kc,kb,ko,rfl,kA,kS,kN,kl,km,kB,kx⟩:=hk;obtain⟨ia,ic,ib,io,rfl,iA,iS,iN,il,im,iB,ix⟩:=hiv;have hm:∀k,k≤ks.length→Bo ⟨lf,ks,vs,is⟩ k≤Bo ⟨lf,ks,vs,is⟩ ks.length:=fun k hk=>GC _ hk;simp only[AY] at hb⊢;show gwp P _ _ _ _ _;cases lf
 ·obtain⟨z,hz⟩:∃z,z=2+(if false then 0 else 2*is.length):=⟨_,rfl⟩
  simp only[Adk,if_false] at hz hb;(refine Ad<|Cx rfl (fun _ _=>Ab rfl<|Aa<|Ad<|Ab rfl<|Aa<|Af<|Ad<|Ai rfl<|Ag rfl (Aj 0 rfl rfl)<|Bx rfl<|Aa<|Bj rfl<|AB<|Ab rfl<|Ai rfl<|Ag rfl (Aj 0 rfl rfl)<|AK rfl<|M4 rfl rfl (by omega) (by omega)<|AL rfl rfl (by omega) (by omega)<|Ab rfl<|Aa<|Af<|Ad<|Ai rfl<|Ag rfl (Aj 0 rfl rfl)<|AK rfl<|Ab rfl<|Aa<|Ay ?_));rename_i b T;refine C8 (α:=Nat) (fun k=>[(1,pZ b),(3,vZ (z+Bo ⟨false,ks,vs,is⟩ k:Nat)),(16,vZ ks.length),(17,vZ k)])
   (fun _=>[bx b T [.bool false,.slice ka ks.length kc,vv,.slice ia is.length ic]]) (fun k=>k≤ks.length) (fun k=>ks.length - k) 0 ⟨rfl,int_eq (by simp[Bo,hz]),rfl,rfl,trivial⟩ rfl (Aej _) ?_
  intro k ρ hk;have h1:=hm k hk;by_cases h:k<ks.length
  ·have h2:=hm (k+1) h;simp only[Bo] at h1 h2 hb;(refine Ad<|AE rfl rfl<|Aa<|Af<|Ax rfl (by omega)<|Ak<|Af<|Ay<|Ad<|Ab rfl<|Ab rfl<|Aa<|AB<|Ab rfl<|Bh 0 rfl rfl rfl<|Ab rfl ?_);refine BS rfl (hc hn' k h) ?_;(refine AL rfl rfl (by omega) (by omega)<|Ab rfl<|Aa<|AB<|AL rfl rfl (by omega) (by omega)<|Ab rfl<|Aa ?_);exact⟨k+1,by omega,⟨rfl,int_eq (by simp[Bo];omega),rfl,rfl,trivial⟩,rfl,rfl,h⟩
  ·have e:k=ks.length:=by omega
   subst e;(refine Ad<|AE rfl rfl<|Aa<|Af<|Ar rfl (by omega)<|Bg<|Ad<|Ab rfl<|Ab rfl<|Aa<|An ?_);(apply HV;rfl);simp;omega
 ·obtain⟨z,hz⟩:∃z,z=2+(if true then 0 else 2*is.length):=⟨_,rfl⟩
  simp only[if_true] at hz hb;(refine Ad<|Cx rfl (fun _ _=>Ab rfl<|Aa<|Ad<|Ab rfl<|Aa<|Af<|Ad<|Ai rfl<|Ag rfl (Aj 0 rfl rfl)<|Bx rfl<|Aa<|AS rfl<|Ak<|Af<|Ad<|Ai rfl<|Ag rfl (Aj 0 rfl rfl)<|AK rfl<|Ab rfl<|Aa<|Ay ?_));rename_i b T;refine C8 (α:=Nat) (fun k=>[(1,pZ b),(3,vZ (z+Bo ⟨true,ks,vs,is⟩ k:Nat)),(16,vZ ks.length),(17,vZ k)])
   (fun _=>[bx b T [.bool true,.slice ka ks.length kc,vv,.slice ia is.length ic]]) (fun k=>k≤ks.length) (fun k=>ks.length - k) 0 ⟨rfl,int_eq (by simp[Bo,hz]),rfl,rfl,trivial⟩ rfl (Aej _) ?_
  intro k ρ hk;have h1:=hm k hk;by_cases h:k<ks.length
  ·have h2:=hm (k+1) h;simp only[Bo] at h1 h2 hb;(refine Ad<|AE rfl rfl<|Aa<|Af<|Ax rfl (by omega)<|Ak<|Af<|Ay<|Ad<|Ab rfl<|Ab rfl<|Aa<|AB<|Ab rfl<|Bh 0 rfl rfl rfl<|Ab rfl ?_);refine BS rfl (hc hn' k h) ?_;(refine AL rfl rfl (by omega) (by omega)<|Ab rfl<|Aa<|AB<|AL rfl rfl (by omega) (by omega)<|Ab rfl<|Aa ?_);exact⟨k+1,by omega,⟨rfl,int_eq (by simp[Bo];omega),rfl,rfl,trivial⟩,rfl,rfl,h⟩
  ·have e:k=ks.length:=by omega
   subst e;(refine Ad<|AE rfl rfl<|Aa<|Af<|Ar rfl (by omega)<|Bg<|Ad<|Ab rfl<|Ab rfl<|Aa<|An ?_);(apply HV;rfl);simp;omega
def kOk(ks:List (List UInt8))(i:Nat):Bool:=decide (1≤(ks.getD i []).length)&& decide ((ks.getD i []).length≤64)&&(i==0||Op.bytesLess (ks.getD (i - 1) []) (ks.getD i []))
def Du(ks:List (List UInt8)):Nat→Bool
 |0=>true
 |k+1=>Du ks k && kOk ks k
def IE{ks}{k:Nat}(h:kOk ks k=false):∀{m:Nat},k<m→Du ks m=false:=by
 intro m hm;induction hm with
 |refl=>simp[Du,h]
 |step _ ih=>simp[Du,ih]
def HS(v:List UInt8):Bool:=decide (v.length≤16)
def Gj(k:Int):Bool:=decide (0≤k∧k≤8191)
def A0(n:Az):Bool:=Du n.keys n.keys.length &&(if n.leaf then decide (n.vals.length=n.keys.length)&& decide (n.kids.length=0)&& n.vals.all HS
 else decide (n.vals.length=0)&& decide (n.kids.length=n.keys.length+1)&& n.kids.all Gj)
def MM(P:Program)(f:FuncId):Prop:=∀{d cs}{n:Az},CG d cs n→C2 P f [.agg cs.toArray] d (.bool (A0 n))
def Fs(P:Program)(f:FuncId):Prop:=∀{α:Type}{R:Ac→List Value→α→Prop}{d:Ac}{v:Value}{xs:List α}{g:FuncId}{p:α→Bool},RSl 1 R d v xs→(∀u x,R d [u] x→C2 P g [u] d (.bool (p x)))→
 Av P f [v,.func (.func g) #[] #[]] d [] (Ret fun r d' L'=>∃z:Int,r=vZ z∧(0≤z↔xs.any p=true)∧d'=d∧L'=[])
def Et(P:Program)(f:FuncId):Prop:=∀{α:Type}{R:Ac→List Value→α→Prop}{d:Ac}{v:Value}{xs:List α}{g:FuncId}{p:α→Bool},RSl 1 R d v xs→(∀u x,R d [u] x→C2 P g [u] d (.bool (p x)))→
 C2 P f [v,.func (.func g) #[] #[]] d (.bool (xs.any p))
def I2(P:Program)(f:FuncId):Prop:=∀{d u v a b},AM d u a→AM d v b→C2 P f [u,v] d (vZ (Lib.compareBytes a b))
def Sr{p:α→Bool}{xs:List α}{i:Nat}(hi:i<xs.length)(h:(xs.take i).any p=false)(hx:p xs[i]=false):(xs.take (i+1)).any p=false:=by
 rw[Aea hi,List.any_append,h];simp[hx]
def Xu{p:α→Bool}{xs:List α}{i:Nat}(hi:i<xs.length)(hx:p xs[i]=true):xs.any p=true:=List.any_eq_true.2 ⟨xs[i],Aec hi,hx⟩
def Hd:A5:=⟨19,[(.tmp 4)],(sR (o1 4 (.mv z0) .done) (.seq (sR (om 6 0<|oL 7 6<|o1 8 (.mv z0) .done) (.block 0 (.loop (sR (ob 9 .lss 8 7 .done) (.seq (.cond 9 .skip (.exit 0)) (.seq (.block 1 (sR (om 10 8<|om 5 10 .done) (sR (om 11 1<|om 12 0<|om 13 5<|oI 14 1 12 13<|ol 15 14<|o1 16 (.callv 11 [15]) .done) (.cond 16 (sR (om 17 5<|om 4 17 .done) .ret) .skip)))) (rG (ob 18 .add 8 z1<|om 8 18 .done)))))))) (sR (o1 4 (.mv (kZ (-1))) .done) .ret)))⟩
def KG(hd:dec P f=some Hd):Fs P f:=by
 intro α R d v xs g p hv hp;refine AF hd (Ada rfl) ?_;obtain⟨xa,xc,xb,xo,rfl,xA,xS,xN,xl,xm,xB,xx⟩:=hv;show gwp P _ _ _ _ _;(refine Ad<|Ab rfl<|Aa<|Af<|Ad<|Al rfl<|AK rfl<|Ab rfl<|Aa<|Ay ?_);refine C8 (α:=Nat) (fun k=>[(0,.slice xa xs.length xc),(1,.func (.func g) #[] #[]),(7,vZ xs.length),(8,vZ k)])
  (fun _=>[]) (fun k=>k≤xs.length∧(xs.take k).any p=false) (fun k=>xs.length - k) 0 ⟨rfl,rfl,rfl,rfl,trivial⟩ rfl ⟨Aej _,by simp⟩ ?_
 rintro k ρ ⟨hle,hk⟩;by_cases h:k<xs.length
 ·obtain⟨c0,hc0,hD0,hR0⟩:=xx k h;obtain⟨u,rfl⟩:∃u,c0=[u]:=by
   match c0,hc0 with|[u],_=>exact⟨u,rfl⟩
  replace hD0:=hD0.one;(refine Ad<|AE rfl rfl<|Aa<|Af<|Ax rfl (by omega)<|Ak<|Af<|Ay<|Ad<|Ab rfl<|Ab rfl<|Aa<|Ad<|FQ rfl<|Al rfl<|Ab rfl ?_;apply BG;rfl;rfl;rfl;omega;assumption;apply Ag;rfl;exact BN (by assumption));refine U8 rfl rfl (hp u _ hR0) ?_;cases hx:p xs[k] with
  |true=>
   (refine Aa<|Bj rfl<|Ad<|Ab rfl<|Ab rfl<|Aa<|An ?_)
   exact Kx rfl ⟨k,rfl,by simp[Xu h hx],rfl,rfl⟩
  |false=>
   (refine Aa<|AS rfl<|Ak<|AB<|AL rfl rfl (by omega) (by omega)<|Ab rfl<|Aa ?_)
   exact⟨k+1,by omega,⟨rfl,rfl,rfl,int_eq (by omega),trivial⟩,rfl,rfl,by omega,Sr h hk hx⟩
 ·have e:k=xs.length:=by omega
  subst e;rw[Afi] at hk;(refine Ad<|AE rfl rfl<|Aa<|Af<|Ar rfl (by omega)<|Bg<|Ad<|Ab rfl<|Aa<|An ?_);exact Kx rfl ⟨-1,rfl,by simp[hk],rfl,rfl⟩
def GG(a0:Nat):A5:=⟨9,[(.tmp 4)],(sR (o1 4 (.mv (.const (.bool false))) .done) (sR (om 5 0<|om 6 1<|oc 7 a0 [5,6]<|ob 8 .geq 7 z0<|om 4 8 .done) .ret))⟩
def I9(hd:dec P f=some (GG f1))(h1:Fs P f1):Et P f:=by
 intro α R d v xs g p hv hp;refine AF hd (Ada rfl) ?_;show gwp P _ _ _ _ _;(refine Ad<|Ae rfl<|Aa<|Ad<|AJ<|FQ rfl ?_);refine Bl rfl (h1 hv hp) (fun r d' L' _ ⟨z,hr,hz,hd',hL⟩=>?_);subst hr;subst hd';subst hL;(refine DV rfl rfl<|Ae rfl<|Aa<|An ?_);(apply EB;rfl);cases h:xs.any p
 ·have:¬0≤z:=fun h0=>by rw[hz.1 h0] at h;cases h
  simpa using this
 ·simpa using hz.2 h
def HH:A5:=⟨19,[(.tmp 4)],(sR (o1 4 (.mv z0) .done) (.seq (sR (om 6 0<|oL 7 6<|o1 8 (.mv z0) .done) (.block 0 (.loop (sR (ob 9 .lss 8 7 .done) (.seq (.cond 9 .skip (.exit 0)) (.seq (.block 1 (sR (om 10 8<|om 5 10 .done) (sR (om 11 1<|om 12 0<|om 13 5<|oI 14 1 12 13<|ol 15 14<|o1 16 (.callv 11 [15]) .done) (.cond 16 (sR (om 17 5<|om 4 17 .done) .ret) .skip)))) (rG (ob 18 .add 8 z1<|om 8 18 .done)))))))) (sR (o1 4 (.mv (kZ (-1))) .done) .ret)))⟩
def Nj(hd:dec P f=some HH):Fs P f:=by
 intro α R d v xs g p hv hp;refine AF hd (Ada rfl) ?_;obtain⟨xa,xc,xb,xo,rfl,xA,xS,xN,xl,xm,xB,xx⟩:=hv;show gwp P _ _ _ _ _;(refine Ad<|Ab rfl<|Aa<|Af<|Ad<|Al rfl<|AK rfl<|Ab rfl<|Aa<|Ay ?_);refine C8 (α:=Nat) (fun k=>[(0,.slice xa xs.length xc),(1,.func (.func g) #[] #[]),(7,vZ xs.length),(8,vZ k)])
  (fun _=>[]) (fun k=>k≤xs.length∧(xs.take k).any p=false) (fun k=>xs.length - k) 0 ⟨rfl,rfl,rfl,rfl,trivial⟩ rfl ⟨Aej _,by simp⟩ ?_
 rintro k ρ ⟨hle,hk⟩;by_cases h:k<xs.length
 ·obtain⟨c0,hc0,hD0,hR0⟩:=xx k h;obtain⟨u,rfl⟩:∃u,c0=[u]:=by
   match c0,hc0 with|[u],_=>exact⟨u,rfl⟩
  replace hD0:=hD0.one;(refine Ad<|AE rfl rfl<|Aa<|Af<|Ax rfl (by omega)<|Ak<|Af<|Ay<|Ad<|Ab rfl<|Ab rfl<|Aa<|Ad<|FQ rfl<|Al rfl<|Ab rfl ?_;apply BG;rfl;rfl;rfl;omega;assumption;apply Ag;rfl;exact BN (by assumption));refine U8 rfl rfl (hp u _ hR0) ?_;cases hx:p xs[k] with
  |true=>
   (refine Aa<|Bj rfl<|Ad<|Ab rfl<|Ab rfl<|Aa<|An ?_)
   exact Kx rfl ⟨k,rfl,by simp[Xu h hx],rfl,rfl⟩
  |false=>
   (refine Aa<|AS rfl<|Ak<|AB<|AL rfl rfl (by omega) (by omega)<|Ab rfl<|Aa ?_)
   exact⟨k+1,by omega,⟨rfl,rfl,rfl,int_eq (by omega),trivial⟩,rfl,rfl,by omega,Sr h hk hx⟩
 ·have e:k=xs.length:=by omega
  subst e;rw[Afi] at hk;(refine Ad<|AE rfl rfl<|Aa<|Af<|Ar rfl (by omega)<|Bg<|Ad<|Ab rfl<|Aa<|An ?_);exact Kx rfl ⟨-1,rfl,by simp[hk],rfl,rfl⟩
def G2(a0:Nat):A5:=⟨9,[(.tmp 4)],(sR (o1 4 (.mv (.const (.bool false))) .done) (sR (om 5 0<|om 6 1<|oc 7 a0 [5,6]<|ob 8 .geq 7 z0<|om 4 8 .done) .ret))⟩
def JX(hd:dec P f=some (G2 f1))(h1:Fs P f1):Et P f:=by
 intro α R d v xs g p hv hp;refine AF hd (Ada rfl) ?_;show gwp P _ _ _ _ _;(refine Ad<|Ae rfl<|Aa<|Ad<|AJ<|FQ rfl ?_);refine Bl rfl (h1 hv hp) (fun r d' L' _ ⟨z,hr,hz,hd',hL⟩=>?_);subst hr;subst hd';subst hL;(refine DV rfl rfl<|Ae rfl<|Aa<|An ?_);(apply EB;rfl);cases h:xs.any p
 ·have:¬0≤z:=fun h0=>by rw[hz.1 h0] at h;cases h
  simpa using this
 ·simpa using hz.2 h
def ON:A5:=⟨8,[(.tmp 4)],(sR (o1 4 (.mv z0) .done) (sR (om 5 0<|om 6 1<|o1 7 (.bcmp 5 6)<|om 4 7 .done) .ret))⟩
def V6(hd:dec P f=some ON):I2 P f:=by
 intro d u v a b hu hv;refine AF hd (Ada rfl) ?_;show gwp P _ _ _ _ _;(refine Ad<|Ab rfl<|Aa<|Ad<|AJ<|AJ<|Abb rfl rfl (by assumption) (by assumption)<|Ab rfl<|Aa<|An ?_);(apply HV;rfl);rfl
def JJ:A5:=⟨6,[(.tmp 2)],(sR (o1 2 (.mv (.const (.bool false))) .done) (sR (om 3 0<|oL 4 3<|ob 5 .gtr 4 (kZ 16)<|om 2 5 .done) .ret))⟩
def W8(hd:dec P f=some JJ){d u l}(hu:RBs d [u] l):C2 P f [u] d (.bool (!HS l)):=by
 obtain⟨u',e,hu⟩:=hu;cases e;refine AF hd (Ada rfl) ?_;show gwp P _ _ _ _ _;(refine Ad<|Ae rfl<|Aa<|Ad<|AJ<|BL rfl (by assumption)<|BW rfl rfl<|Ae rfl<|Aa<|An ?_);(apply EB;rfl);(rw[Aid];simp[HS];omega)
def JI:A5:=⟨9,[(.tmp 2)],(sR (o1 2 (.mv (.const (.bool false))) .done) (sR (om 3 0<|ob 4 .lss 3 z0<|om 5 4<|gF 6 5 0<|oF 7 5 (.bin .geq 6 (kZ 8192))<|o1 8 (.pick 5 (.const (.bool true)) 7)<|om 2 8 .done) .ret))⟩
def Wt(hd:dec P f=some JI){d u}{k:Int}(hu:Bb d [u] k):C2 P f [u] d (.bool (!Gj k)):=by
 obtain⟨e,h1,h2⟩:=hu;cases e;refine AF hd (Ada rfl) ?_;show gwp P _ _ _ _ _;by_cases h:k<0
 ·(refine Ad<|Ae rfl<|Aa<|Ad<|Ab rfl<|AE rfl rfl<|Ae rfl<|Bp rfl (by omega)<|Aq rfl<|Aq rfl<|AI rfl rfl<|Ae rfl<|Aa<|An ?_);(apply EB;rfl);(rw[Aid];simp[Gj];omega)
 ·by_cases h':k≥8192
  ·(refine Ad<|Ae rfl<|Aa<|Ad<|Ab rfl<|AE rfl rfl<|Ae rfl<|Bf rfl (by omega)<|Ah rfl<|Ab rfl<|Ah rfl<|DV rfl rfl<|Aw rfl rfl<|Ae rfl<|Aa<|An ?_);(apply EB;rfl);(rw[Aid];simp[Gj];omega)
  ·(refine Ad<|Ae rfl<|Aa<|Ad<|Ab rfl<|AE rfl rfl<|Ae rfl<|Bf rfl (by omega)<|Ah rfl<|Ab rfl<|Ah rfl<|DV rfl rfl<|Aw rfl rfl<|Ae rfl<|Aa<|An ?_);(apply EB;rfl);(rw[Aid];simp[Gj];omega)
def Sl(a0 a1 a2 a3 a4:Nat):A5:=⟨78,[(.tmp 2)],(sR (o1 1 (.box 0)<|o1 2 (.mv (.const (.bool false))) .done) (.seq (sR (oj 5 1 1<|ol 6 5<|oL 7 6<|o1 8 (.mv z0) .done) (.block 0 (.loop (sR (ob 9 .lss 8 7 .done) (.seq (.cond 9 .skip (.exit 0)) (.seq (.block 1 (sR (om 10 8<|oI 11 1 6 8<|ol 12 11<|om 3 10<|om 4 12 .done) (sR (om 13 4<|oL 14 13<|ob 15 .lss 14 z1<|om 16 15<|gF 17 16 4<|oF 18 16 (.len 17)<|oF 19 16 (.bin .gtr 18 (kZ 64))<|o1 20 (.pick 16 (.const (.bool true)) 19)<|om 21 20<|gF 22 21 3<|oF 23 21 (.bin .gtr 22 z0)<|gF 24 21 23<|oT 25 24 (.fld 1 1)<|oT 26 24 (.ld none 25)<|gT 27 24 3<|oT 28 24 (.bin .sub 27 z1)<|oT 29 24 (.idx 1 26 28)<|oT 30 24 (.ld none 29)<|gT 31 24 4<|oT 32 24 (.call a0 [30,31])<|oT 33 24 (.bin .geq 32 z0)<|oF 34 21 (.pick 24 33 (.const (.bool false)))<|o1 35 (.pick 21 (.const (.bool true)) 34) .done) (.cond 35 (sR (o1 2 (.mv (.const (.bool false))) .done) .ret) .skip)))) (rG (ob 36 .add 8 z1<|om 8 36 .done)))))))) (.seq (sR (oj 37 0 1<|ol 38 37 .done) (.cond 38 (sR (oj 39 2 1<|ol 40 39<|oL 41 40<|oj 42 1 1<|ol 43 42<|oL 44 43<|ob 45 .eql 41 44<|om 46 45<|oT 47 46 (.fld 3 1)<|oT 48 46 (.ld none 47)<|oT 49 46 (.len 48)<|oT 50 46 (.bin .eql 49 z0)<|gP 51 46 50<|om 52 51<|oT 53 52 (.fld 2 1)<|oT 54 52 (.ld none 53)<|oT 55 52 (.call a1 [54,(.func a2)])<|oT 56 52 (.un .not 55)<|gP 57 52 56<|om 2 57 .done) .ret) .skip)) (sR (oj 58 2 1<|ol 59 58<|oL 60 59<|ob 61 .eql 60 z0<|om 62 61<|oT 63 62 (.fld 3 1)<|oT 64 62 (.ld none 63)<|oT 65 62 (.len 64)<|oT 66 62 (.fld 1 1)<|oT 67 62 (.ld none 66)<|oT 68 62 (.len 67)<|oT 69 62 (.bin .add 68 z1)<|oT 70 62 (.bin .eql 65 69)<|gP 71 62 70<|om 72 71<|oT 73 72 (.fld 3 1)<|oT 74 72 (.ld none 73)<|oT 75 72 (.call a3 [74,(.func a4)])<|oT 76 72 (.un .not 75)<|gP 77 72 76<|om 2 77 .done) .ret))))⟩
def Y5{f2 f3 f4 f5}(hd:dec P f=some (Sl f1 f2 f3 f4 f5))(h1:I2 P f1)(h2:Et P f2)(h3:dec P f3=some JJ)(h4:Et P f4)(h5:dec P f5=some JI):MM P f:=by
 intro d cs n hn;obtain⟨lf,ks,vs,is⟩:=n;obtain⟨kv,vv,iv,rfl,hk,hv,hiv⟩:∃kv vv iv,cs=[.bool lf,kv,vv,iv]∧Di d kv ks∧Di d vv vs∧C5 d iv is:=hn;refine AF hd (Ada rfl) ?_;have hv':=hv;have hiv':=hiv;obtain⟨ka,kc,kb,ko,rfl,kA,kS,kN,kl,km,kB,kx⟩:=hk;show gwp P _ _ _ _ _;(refine Ad<|Cx rfl (fun _ _=>Ae rfl<|Aa<|Af<|Ad<|Ai rfl<|Ag rfl (Aj 0 rfl rfl)<|AK rfl<|Ab rfl<|Aa<|Ay ?_));rename_i b T;refine C8 (α:=Nat) (fun k=>[(1,pZ b),(6,.slice ka ks.length kc),(7,vZ ks.length),(8,vZ k)])
  (fun _=>[bx b T [.bool lf,.slice ka ks.length kc,vv,iv]]) (fun k=>k≤ks.length∧Du ks k=true) (fun k=>ks.length - k) 0 ⟨rfl,rfl,rfl,rfl,trivial⟩ rfl ⟨Aej _,rfl⟩ ?_
 rintro k ρ ⟨hle,hok⟩;by_cases h:k<ks.length
 ·obtain⟨c0,hc0,hD0,⟨u0,rfl,hu0⟩⟩:=kx k h;replace hD0:=hD0.one;have hkl:ks.getD k []=ks[k]:=by simp[h]
  have hnext:kOk ks k=true→∃x',ks.length - x'<ks.length - k∧x'=k+1∧(x'≤ks.length∧Du ks x'=true):=fun hk=>⟨k+1,by omega,rfl,by omega,by simp[Du,hok,hk]⟩
  by_cases h1':ks[k].length<1
  ·have hf:kOk ks k=false:=by rw[kOk,hkl];simp;omega
   (refine Ad<|AE rfl rfl<|Aa<|Af<|Ax rfl (by omega)<|Ak<|Af<|Ay<|Ad<|Ab rfl ?_;apply BG;rfl;rfl;rfl;omega;assumption;refine Ag rfl (BN (by assumption))<|Ab rfl<|AJ<|Aa<|Ad<|AJ<|BL rfl (by assumption)<|AE rfl rfl<|Ae rfl<|Bp rfl (by omega)<|Aq rfl<|Aq rfl<|Aq rfl<|AI rfl rfl<|Ae rfl<|Aq rfl<|Aq rfl<|Aq rfl<|DS rfl<|DS rfl<|DS rfl<|DS rfl<|DS rfl<|DS rfl<|DS rfl<|DS rfl<|DS rfl<|Aq rfl<|AI rfl rfl<|Aa<|Bj rfl<|Ad<|Ae rfl<|Aa<|An ?_);(apply EB;rfl);simp[A0,IE hf h]
  ·by_cases h2':ks[k].length>64
   ·have hf:kOk ks k=false:=by rw[kOk,hkl];simp;omega
    (refine Ad<|AE rfl rfl<|Aa<|Af<|Ax rfl (by omega)<|Ak<|Af<|Ay<|Ad<|Ab rfl ?_;apply BG;rfl;rfl;rfl;omega;assumption;refine Ag rfl (BN (by assumption))<|Ab rfl<|AJ<|Aa<|Ad<|AJ<|BL rfl (by assumption)<|AE rfl rfl<|Ae rfl<|Bf rfl (by omega)<|Ah rfl<|AJ<|Ah rfl<|BL rfl (by assumption)<|Ah rfl<|BW rfl rfl<|Aw rfl rfl<|Ae rfl<|Bp rfl (by omega)<|Aq rfl<|Aq rfl<|Aq rfl<|DS rfl<|DS rfl<|DS rfl<|DS rfl<|DS rfl<|DS rfl<|DS rfl<|DS rfl<|DS rfl<|Aq rfl<|AI rfl rfl<|Aa<|Bj rfl<|Ad<|Ae rfl<|Aa<|An ?_);(apply EB;rfl);simp[A0,IE hf h]
   ·cases k with
    |zero=>
     (refine Ad<|AE rfl rfl<|Aa<|Af<|Ax rfl (by omega)<|Ak<|Af<|Ay<|Ad<|Ab rfl ?_;apply BG;rfl;rfl;rfl;omega;assumption;refine Ag rfl (BN (by assumption))<|Ab rfl<|AJ<|Aa<|Ad<|AJ<|BL rfl (by assumption)<|AE rfl rfl<|Ae rfl<|Bf rfl (by omega)<|Ah rfl<|AJ<|Ah rfl<|BL rfl (by assumption)<|Ah rfl<|BW rfl rfl<|Aw rfl rfl<|Ae rfl<|Bf rfl (by omega)<|Ah rfl<|Ab rfl<|Ah rfl<|BW rfl rfl<|Ah rfl<|Ae rfl<|Aq rfl<|Aq rfl<|Aq rfl<|Aq rfl<|Aq rfl<|Aq rfl<|Aq rfl<|Aq rfl<|Aq rfl<|Ah rfl<|Aw rfl rfl<|Aw rfl rfl<|Aa<|AS rfl<|Ak<|AB<|AL rfl rfl (by omega) (by omega)<|Ab rfl<|Aa ?_)
     obtain⟨x',e1,rfl,e2⟩:=hnext (by rw[kOk,hkl];simp;omega)
     exact⟨_,e1,⟨rfl,rfl,rfl,int_eq (by omega),trivial⟩,rfl,rfl,e2⟩
    |succ j=>
     obtain⟨c1,hc1,hD1,⟨u1,rfl,hu1⟩⟩:=kx j (by omega)
     replace hD1:=hD1.one
     have hjl:ks.getD j []=ks[j]:=by simp[show j<ks.length by omega]
     have hc:=Sq ks[j] ks[j+1]
     cases hb:Op.bytesLess ks[j] ks[j+1] with
     |true=>
      have hb':Lib.compareBytes ks[j] ks[j+1]<0:=hc.2 hb
      (refine Ad<|AE rfl rfl<|Aa<|Af<|Ax rfl (by omega)<|Ak<|Af<|Ay<|Ad<|Ab rfl ?_;apply BG;rfl;rfl;rfl;omega;assumption;refine Ag rfl (BN (by assumption))<|Ab rfl<|AJ<|Aa<|Ad<|AJ<|BL rfl (by assumption)<|AE rfl rfl<|Ae rfl<|Bf rfl (by omega)<|Ah rfl<|AJ<|Ah rfl<|BL rfl (by assumption)<|Ah rfl<|BW rfl rfl<|Aw rfl rfl<|Ae rfl<|Bf rfl (by omega)<|Ah rfl<|Ab rfl<|Ah rfl<|BW rfl rfl<|Ah rfl<|Ae rfl<|Bp rfl (by omega)<|Ah rfl<|Ai rfl<|Ah rfl<|Ag rfl (Aj 0 rfl rfl)<|Ah rfl<|Ab rfl<|Ah rfl<|C6 rfl rfl (by omega) (by omega)<|Ah rfl ?_)
      refine BG j rfl rfl (by omega) (by omega) kA ?_
      (refine Ah rfl<|Ag rfl (BN (by assumption))<|Ah rfl<|AJ<|Ah rfl ?_)
      refine BS rfl (h1 hu1 hu0) ?_
      (refine Ah rfl<|DV rfl rfl<|Ah rfl<|AI rfl rfl<|Aw rfl rfl<|Aa<|Ar rfl (by omega)<|Ak<|AB<|AL rfl rfl (by omega) (by omega)<|Ab rfl<|Aa ?_)
      obtain⟨x',e1,rfl,e2⟩:=hnext (by rw[kOk,hkl,Afw,hjl,hb];simp;omega)
      exact⟨_,e1,⟨rfl,rfl,rfl,int_eq (by omega),trivial⟩,rfl,rfl,e2⟩
     |false=>
      have hb':¬Lib.compareBytes ks[j] ks[j+1]<0:=fun h0=>by rw[hc.1 h0] at hb;cases hb
      have hf:kOk ks (j+1)=false:=by rw[kOk,hkl,Afw,hjl,hb];simp
      (refine Ad<|AE rfl rfl<|Aa<|Af<|Ax rfl (by omega)<|Ak<|Af<|Ay<|Ad<|Ab rfl ?_;apply BG;rfl;rfl;rfl;omega;assumption;refine Ag rfl (BN (by assumption))<|Ab rfl<|AJ<|Aa<|Ad<|AJ<|BL rfl (by assumption)<|AE rfl rfl<|Ae rfl<|Bf rfl (by omega)<|Ah rfl<|AJ<|Ah rfl<|BL rfl (by assumption)<|Ah rfl<|BW rfl rfl<|Aw rfl rfl<|Ae rfl<|Bf rfl (by omega)<|Ah rfl<|Ab rfl<|Ah rfl<|BW rfl rfl<|Ah rfl<|Ae rfl<|Bp rfl (by omega)<|Ah rfl<|Ai rfl<|Ah rfl<|Ag rfl (Aj 0 rfl rfl)<|Ah rfl<|Ab rfl<|Ah rfl<|C6 rfl rfl (by omega) (by omega)<|Ah rfl ?_)
      refine BG j rfl rfl (by omega) (by omega) kA ?_
      (refine Ah rfl<|Ag rfl (BN (by assumption))<|Ah rfl<|AJ<|Ah rfl ?_)
      refine BS rfl (h1 hu1 hu0) ?_
      (refine Ah rfl<|DV rfl rfl<|Ah rfl<|AI rfl rfl<|Aw rfl rfl<|Aa<|Ax rfl (by omega)<|Ad<|Ae rfl<|Aa<|An ?_)
      (apply EB;rfl)
      simp[A0,IE hf h]
 ·have e:k=ks.length:=by omega
  subst e;have ea:∀l:List (List UInt8),(!l.any fun v=> !HS v)=l.all HS:=fun l=>by simp[List.any_eq_not_all_not]
  have ei:∀l:List Int,(!l.any fun v=> !Gj v)=l.all Gj:=fun l=>by simp[List.any_eq_not_all_not]
  cases lf
  ·by_cases h1':vs.length=0
   ·by_cases h2':is.length=ks.length+1
    ·(refine Ad<|AE rfl rfl<|Aa<|Af<|Ar rfl (by omega)<|Bg<|Af<|Ad<|Ai rfl<|Ag rfl (Aj 0 rfl rfl)<|Aa<|AS rfl<|Ak<|Ad<|Ai rfl<|Ag rfl (Aj 0 rfl rfl)<|BL rfl (by assumption)<|AO rfl rfl<|Ae rfl<|Bp rfl (by omega)<|Ah rfl<|Ai rfl<|Ah rfl<|Ag rfl (Aj 0 rfl rfl)<|Ah rfl<|BL rfl (by assumption)<|Ah rfl<|Ai rfl<|Ah rfl<|Ag rfl (Aj 0 rfl rfl)<|Ah rfl<|AK rfl<|Ah rfl<|AL rfl rfl (by omega) (by omega)<|Ah rfl<|AO rfl rfl<|AI rfl rfl<|Ae rfl<|Bp rfl (by omega)<|Ah rfl<|Ai rfl<|Ah rfl<|Ag rfl (Aj 0 rfl rfl)<|Ah rfl ?_);refine BS rfl (h4 hiv' (fun u x hx=>Wt h5 hx)) ?_;(refine Ah rfl<|Bx rfl<|AI rfl rfl<|Ae rfl<|Aa<|An ?_);(apply EB;rfl);rw[ei];simp[A0,hok,h1',h2']
    ·(refine Ad<|AE rfl rfl<|Aa<|Af<|Ar rfl (by omega)<|Bg<|Af<|Ad<|Ai rfl<|Ag rfl (Aj 0 rfl rfl)<|Aa<|AS rfl<|Ak<|Ad<|Ai rfl<|Ag rfl (Aj 0 rfl rfl)<|BL rfl (by assumption)<|AO rfl rfl<|Ae rfl<|Bp rfl (by omega)<|Ah rfl<|Ai rfl<|Ah rfl<|Ag rfl (Aj 0 rfl rfl)<|Ah rfl<|BL rfl (by assumption)<|Ah rfl<|Ai rfl<|Ah rfl<|Ag rfl (Aj 0 rfl rfl)<|Ah rfl<|AK rfl<|Ah rfl<|AL rfl rfl (by omega) (by omega)<|Ah rfl<|AO rfl rfl<|AI rfl rfl<|Ae rfl<|Bf rfl (by omega)<|Aq rfl<|Aq rfl<|Aq rfl<|Aq rfl<|Aw rfl rfl<|Ae rfl<|Aa<|An ?_);(apply EB;rfl);(first|(simp[A0,hok,h1',h2'];done)|(simp[A0,hok,h1',h2'];omega))
   ·(refine Ad<|AE rfl rfl<|Aa<|Af<|Ar rfl (by omega)<|Bg<|Af<|Ad<|Ai rfl<|Ag rfl (Aj 0 rfl rfl)<|Aa<|AS rfl<|Ak<|Ad<|Ai rfl<|Ag rfl (Aj 0 rfl rfl)<|BL rfl (by assumption)<|AO rfl rfl<|Ae rfl<|Bf rfl (by omega)<|Aq rfl<|Aq rfl<|Aq rfl<|Aq rfl<|Aq rfl<|Aq rfl<|Aq rfl<|Aq rfl<|Aw rfl rfl<|Ae rfl<|Aq rfl<|Aq rfl<|Aq rfl<|Aq rfl<|Aw rfl rfl<|Ae rfl<|Aa<|An ?_);(apply EB;rfl);(first|(simp[A0,hok,h1'];done)|(simp[A0,hok,h1'];omega))
  ·by_cases h2':vs.length=ks.length
   ·by_cases h1':is.length=0
    ·(refine Ad<|AE rfl rfl<|Aa<|Af<|Ar rfl (by omega)<|Bg<|Af<|Ad<|Ai rfl<|Ag rfl (Aj 0 rfl rfl)<|Aa<|Bj rfl<|Ad<|Ai rfl<|Ag rfl (Aj 0 rfl rfl)<|BL rfl (by assumption)<|Ai rfl<|Ag rfl (Aj 0 rfl rfl)<|AK rfl<|AO rfl rfl<|Ae rfl<|Bp rfl (by omega)<|Ah rfl<|Ai rfl<|Ah rfl<|Ag rfl (Aj 0 rfl rfl)<|Ah rfl<|BL rfl (by assumption)<|Ah rfl<|AO rfl rfl<|AI rfl rfl<|Ae rfl<|Bp rfl (by omega)<|Ah rfl<|Ai rfl<|Ah rfl<|Ag rfl (Aj 0 rfl rfl)<|Ah rfl ?_);refine BS rfl (h2 hv' (fun u x hx=>W8 h3 hx)) ?_;(refine Ah rfl<|Bx rfl<|AI rfl rfl<|Ae rfl<|Aa<|An ?_);(apply EB;rfl);rw[ea];simp[A0,hok,h1',h2']
    ·(refine Ad<|AE rfl rfl<|Aa<|Af<|Ar rfl (by omega)<|Bg<|Af<|Ad<|Ai rfl<|Ag rfl (Aj 0 rfl rfl)<|Aa<|Bj rfl<|Ad<|Ai rfl<|Ag rfl (Aj 0 rfl rfl)<|BL rfl (by assumption)<|Ai rfl<|Ag rfl (Aj 0 rfl rfl)<|AK rfl<|AO rfl rfl<|Ae rfl<|Bp rfl (by omega)<|Ah rfl<|Ai rfl<|Ah rfl<|Ag rfl (Aj 0 rfl rfl)<|Ah rfl<|BL rfl (by assumption)<|Ah rfl<|AO rfl rfl<|AI rfl rfl<|Ae rfl<|Bf rfl (by omega)<|Aq rfl<|Aq rfl<|Aq rfl<|Aq rfl<|Aw rfl rfl<|Ae rfl<|Aa<|An ?_);(apply EB;rfl);(first|(simp[A0,hok,h1',h2'];done)|(simp[A0,hok,h1',h2'];omega))
   ·(refine Ad<|AE rfl rfl<|Aa<|Af<|Ar rfl (by omega)<|Bg<|Af<|Ad<|Ai rfl<|Ag rfl (Aj 0 rfl rfl)<|Aa<|Bj rfl<|Ad<|Ai rfl<|Ag rfl (Aj 0 rfl rfl)<|BL rfl (by assumption)<|Ai rfl<|Ag rfl (Aj 0 rfl rfl)<|AK rfl<|AO rfl rfl<|Ae rfl<|Bf rfl (by omega)<|Aq rfl<|Aq rfl<|Aq rfl<|Aq rfl<|Aw rfl rfl<|Ae rfl<|Aq rfl<|Aq rfl<|Aq rfl<|Aq rfl<|Aw rfl rfl<|Ae rfl<|Aa<|An ?_);(apply EB;rfl);(first|(simp[A0,hok,h2'];done)|(simp[A0,hok,h2'];omega))
def Bm(n:Az):Bool:=A0 n && decide (AY n≤256)
def Jo(P:Program)(f:FuncId):Prop:=∀{d cs}{n:Az},CG d cs n→AY n≤1000000000000→C2 P f [.agg cs.toArray] d (.bool (Bm n))
def SK(a0 a1:Nat):A5:=⟨10,[(.tmp 2)],(sR (o1 1 (.box 0)<|o1 2 (.mv (.const (.bool false))) .done) (sR (o1 3 (.ld (some 4) 1)<|oc 4 a0 [3]<|om 5 4<|oT 6 5 (.ld (some 4) 1)<|oT 7 5 (.call a1 [6])<|oT 8 5 (.bin .leq 7 (kZ 256))<|gP 9 5 8<|om 2 9 .done) .ret))⟩
def Oq{f2}(hd:dec P f=some (SK f1 f2))(h1:MM P f1)(h2:LY P f2):Jo P f:=by
 intro d cs n hn hb;refine AF hd (Ada rfl) ?_;have hn':=hn;obtain⟨kv,vv,iv,rfl,hk,hv,hiv⟩:∃kv vv iv,cs=[.bool n.leaf,kv,vv,iv]∧Di d kv n.keys∧Di d vv n.vals∧C5 d iv n.kids:=hn;show gwp P _ _ _ _ _;(refine Ad<|Cx rfl (fun _ _=>Ae rfl<|Aa<|Ad<|Bh 0 rfl rfl rfl ?_));refine BS rfl (h1 hn') ?_;cases hs:A0 n with
 |false=>
  (refine Ae rfl<|Aq rfl<|Aq rfl<|Aq rfl<|Aw rfl rfl<|Ae rfl<|Aa<|An ?_)
  (apply EB;rfl)
  simp[Bm,hs]
 |true=>
  (refine Ae rfl<|Ah rfl<|Bh 0 rfl rfl rfl<|Ah rfl ?_)
  refine BS rfl (h2 hn' hb) ?_
  (refine Ah rfl<|O3 rfl rfl<|AI rfl rfl<|Ae rfl<|Aa<|An ?_)
  (apply EB;rfl)
  (rw[Aid];simp[Bm,hs];omega)
def Io{α:Type}{p:α→Bool}:∀{l:List α}{i:Nat},i≤l.length→(∀j (h:j<l.length),j<i→p l[j]=true)→(∀h:i<l.length,p l[i]=false)→(l.takeWhile p).length=i
 |[],i,hi,_,_=>by simp at hi;subst hi;rfl
 |a::l,0,_,_,h=>by
  have:=h (by simp);simp at this;simp[List.takeWhile,this]
 |a::l,i+1,hi,h1,h2=>by
  have ha:p a=true:=h1 0 (by simp) (by omega);have:=Io (p:=p) (l:=l) (i:=i) (by simpa using hi) (fun j h hj=>by have:=h1 (j+1) (by simpa using h) (by omega);simpa using this) (fun h=>by have:=h2 (by simpa using h);simpa using this);simp[List.takeWhile,ha,this]
def Z6{p:α→Bool}:∀{l:List α}{j:Nat}(hj:j<l.length),j<(l.takeWhile p).length→p l[j]=true
 |[],j,hj,_=>by simp at hj
 |a::l,j,hj,h=>by
  simp only[List.takeWhile_cons] at h;by_cases ha:p a=true
  ·cases j with
   |zero=>exact ha
   |succ j=>simp only[ha,if_true,Adm] at h;exact Z6 (l:=l) (by simpa using hj) (by omega)
  ·simp[ha] at h
def UK{p:α→Bool}:∀{l:List α}{i:Nat}(_:i=(l.takeWhile p).length) (hi:i<l.length),p l[i]=false
 |[],i,_,hi=>by simp at hi
 |a::l,i,e,hi=>by
  simp only[List.takeWhile_cons] at e;by_cases ha:p a=true
  ·simp only[ha,if_true,Adm] at e;subst e;exact UK (l:=l) rfl (by simpa using hi)
  ·simp[ha] at e;subst e;simpa using ha
def RI{α:Type}{p:α→Bool}:∀(l:List α),(l.takeWhile p).length≤l.length
 |[]=>by simp
 |a::l=>by
  simp only[List.takeWhile];split
  ·have:=RI (p:=p) l;simp;omega
  ·simp
def Qu{α:Type}{p:α→Bool}(x:α):∀(l:List α),((l++[x]).takeWhile p).length=if (l.takeWhile p).length=l.length∧p x=true then l.length+1 else(l.takeWhile p).length
 |[]=>by cases h:p x<;>simp[List.takeWhile,h]
 |a::l=>by
  have ih:=Qu (p:=p) x l;simp only[List.cons_append,List.takeWhile_cons];by_cases h:p a=true
  ·simp only[h,if_true,Adm,ih,Nat.add_right_cancel_iff];split<;>rfl
  ·simp[h]
def leB(a b:List UInt8):Bool:=Op.bytesLess a b||decide (a=b)
def MC(P:Program)(f:FuncId):Prop:=∀{d u v a b},AM d u a→AM d v b→C2 P f [u,v] d (.bool (decide (a=b)))
def Rl:A5:=⟨10,[(.tmp 4)],(sR (o1 4 (.mv (.const (.bool false))) .done) (sR (om 5 0<|o1 6 (.b2s 5)<|om 7 1<|o1 8 (.b2s 7)<|ob 9 .eql 6 8<|om 4 9 .done) .ret))⟩
def YV(hd:dec P f=some Rl):MC P f:=by
 intro d u v a b hu hv;refine AF hd (Ada rfl) ?_;show gwp P _ _ _ _ _;(refine Ad<|Ae rfl<|Aa<|Ad<|AJ<|Bi rfl (by assumption)<|AJ<|Bi rfl (by assumption)<|RM rfl rfl<|Ae rfl<|Aa<|An ?_);(apply EB;rfl);rfl
def low(n:Az)(key:List UInt8):Nat:=(n.keys.takeWhile (Op.bytesLess · key)).length
def findD(n:Az)(key:List UInt8):Nat×Bool:=
 if n.leaf then(low n key,decide (low n key<n.keys.length)&& decide (n.keys.getD (low n key) []=key)) else(low n key+((n.keys.drop (low n key)).takeWhile (fun k=>decide (k=key))).length,false)
def Ga(n:Az)(key:List UInt8):Nat×Bool:=
 if n.leaf then(low n key,decide (low n key<n.keys.length)&& decide (n.keys.getD (low n key) []=key)) else((n.keys.takeWhile (leB · key)).length,false)
def JB(P:Program)(f:FuncId)(F:Az→List UInt8→Nat×Bool):Prop:=∀{d cs}{n:Az}{v key},CG d cs n→AM d v key→
 C2 P f [.agg cs.toArray,v] d (.tuple #[vZ (F n key).1,.bool (F n key).2])
def TY(a0 a1:Nat):A5:=⟨60,[(.tmp 4),(.tmp 5)],(sR (o1 2 (.box 0)<|o1 4 (.mv z0)<|o1 5 (.mv (.const (.bool false))) .done) (sR (o1 6 (.mv z0) .done) (.seq (.block 0 (.loop (.seq (sR (om 8 6<|oj 9 1 2<|ol 10 9<|oL 11 10<|ob 12 .lss 8 11<|om 13 12<|oT 14 13 (.fld 1 2)<|oT 15 13 (.ld none 14)<|gT 16 13 6<|oT 17 13 (.idx 1 15 16)<|oT 18 13 (.ld none 17)<|gT 19 13 1<|oT 20 13 (.call a0 [18,19])<|oT 21 13 (.bin .lss 20 z0)<|gP 22 13 21 .done) (.cond 22 .skip (.exit 0))) (.block 1 (rG (om 23 6<|ob 24 .add 23 z1<|om 6 24 .done)))))) (sR (om 25 6<|oj 26 1 2<|ol 27 26<|oL 28 27<|ob 29 .lss 25 28<|om 30 29<|oT 31 30 (.fld 1 2)<|oT 32 30 (.ld none 31)<|gT 33 30 6<|oT 34 30 (.idx 1 32 33)<|oT 35 30 (.ld none 34)<|gT 36 30 1<|oT 37 30 (.call a1 [35,36])<|gP 38 30 37<|om 7 38 .done) (.seq (sR (oj 39 0 2<|ol 40 39 .done) (.cond 40 (sR (om 41 6<|om 42 7<|om 4 41<|om 5 42 .done) .ret) .skip)) (.seq (.block 2 (.loop (.seq (sR (om 43 6<|oj 44 1 2<|ol 45 44<|oL 46 45<|ob 47 .lss 43 46<|om 48 47<|oT 49 48 (.fld 1 2)<|oT 50 48 (.ld none 49)<|gT 51 48 6<|oT 52 48 (.idx 1 50 51)<|oT 53 48 (.ld none 52)<|gT 54 48 1<|oT 55 48 (.call a1 [53,54])<|gP 56 48 55 .done) (.cond 56 .skip (.exit 2))) (.block 3 (rG (om 57 6<|ob 58 .add 57 z1<|om 6 58 .done)))))) (sR (om 59 6<|om 4 59<|o1 5 (.mv (.const (.bool false))) .done) .ret)))))))⟩
def Abq{f2}(hd:dec P f=some (TY f1 f2))(h1:I2 P f1)(h2:MC P f2):JB P f findD:=by
 intro d cs n v key hn hkey;obtain⟨lf,ks,vs,is⟩:=n;obtain⟨kv,vv,iv,rfl,hk,hv,hiv⟩:∃kv vv iv,cs=[.bool lf,kv,vv,iv]∧Di d kv ks∧Di d vv vs∧C5 d iv is:=hn;refine AF hd (Ada rfl) ?_;obtain⟨ka,kc,kb,ko,rfl,kA,kS,kN,kl,km,kB,kx⟩:=hk;show gwp P _ _ _ _ _;(refine Ad<|Cx rfl (fun _ _=>Ab rfl<|Ae rfl<|Aa<|Ad<|Ab rfl<|Aa<|Af<|Ay ?_));rename_i b T;refine C8 (α:=Nat) (fun k=>[(1,v),(2,pZ b),(6,vZ k)])
  (fun _=>[bx b T [.bool lf,.slice ka ks.length kc,vv,iv]]) (fun k=>k≤ks.length∧∀j (h:j<ks.length),j<k→Op.bytesLess ks[j] key=true) (fun k=>ks.length - k) 0 ⟨rfl,rfl,rfl,trivial⟩ rfl ⟨Aej _,fun j _ h=>by omega⟩ ?_
 rintro k ρ ⟨hle,hlt⟩;have hstop:(∀h:k<ks.length,Op.bytesLess ks[k] key=false)→low ⟨lf,ks,vs,is⟩ key=k:=fun h=>Io hle hlt h;by_cases h:k<ks.length
 ·obtain⟨c0,hc0,hD0,⟨u0,rfl,hu0⟩⟩:=kx k h;replace hD0:=hD0.one;have hc:=Sq ks[k] key;cases hb:Op.bytesLess ks[k] key with
  |true=>
   have hb':Lib.compareBytes ks[k] key<0:=hc.2 hb
   (refine Af<|Ad<|Ab rfl<|Ai rfl<|Ag rfl (Aj 0 rfl rfl)<|AK rfl<|AE rfl rfl<|Ae rfl<|Bp rfl (by omega)<|Ah rfl<|Ai rfl<|Ah rfl<|Ag rfl (Aj 0 rfl rfl)<|Ah rfl<|Ab rfl<|Ah rfl ?_;apply BG;rfl;rfl;rfl;omega;assumption;refine Ah rfl<|Ag rfl (BN (by assumption))<|Ah rfl<|AJ<|Ah rfl ?_)
   refine BS rfl (h1 hu0 hkey) ?_
   (refine Ah rfl<|AE rfl rfl<|AI rfl rfl<|Aa<|Ax rfl (by omega)<|Ak<|Ay<|AB<|Ab rfl<|AL rfl rfl (by omega) (by omega)<|Ab rfl<|Aa ?_)
   refine⟨k+1,by omega,⟨rfl,rfl,int_eq (by omega),trivial⟩,rfl,rfl,by omega,fun j hj hjk=>?_⟩
   by_cases e:j=k
   ·subst e;exact hb
   ·exact hlt j hj (by omega)
  |false=>
   have hb':¬Lib.compareBytes ks[k] key<0:=fun h0=>by rw[hc.1 h0] at hb;cases hb
   have hl:=hstop (fun _=>hb)
   cases lf
   ·(refine Af<|Ad<|Ab rfl<|Ai rfl<|Ag rfl (Aj 0 rfl rfl)<|AK rfl<|AE rfl rfl<|Ae rfl<|Bp rfl (by omega)<|Ah rfl<|Ai rfl<|Ah rfl<|Ag rfl (Aj 0 rfl rfl)<|Ah rfl<|Ab rfl<|Ah rfl ?_;apply BG;rfl;rfl;rfl;omega;assumption;refine Ah rfl<|Ag rfl (BN (by assumption))<|Ah rfl<|AJ<|Ah rfl ?_)
    refine BS rfl (h1 hu0 hkey) ?_
    (refine Ah rfl<|AE rfl rfl<|AI rfl rfl<|Aa<|Ar rfl (by omega)<|Bg<|Ad<|Ab rfl<|Ai rfl<|Ag rfl (Aj 0 rfl rfl)<|AK rfl<|AE rfl rfl<|Ae rfl<|Bp rfl (by omega)<|Ah rfl<|Ai rfl<|Ah rfl<|Ag rfl (Aj 0 rfl rfl)<|Ah rfl<|Ab rfl<|Ah rfl ?_;apply BG;rfl;rfl;rfl;omega;assumption;refine Ah rfl<|Ag rfl (BN (by assumption))<|Ah rfl<|AJ<|Ah rfl ?_)
    refine BS rfl (h2 hu0 hkey) ?_
    (refine AI rfl rfl<|Ae rfl<|Aa<|Af<|Ad<|Ai rfl<|Ag rfl (Aj 0 rfl rfl)<|Aa<|AS rfl<|Ak<|Af<|Ay ?_)
    refine C8 (α:=Nat) (fun j=>[(1,v),(2,pZ b),(6,vZ j)])
     (fun _=>[bx b T [.bool false,.slice ka ks.length kc,vv,iv]]) (fun j=>k≤j∧j≤ks.length∧∀m (h:m<ks.length),k≤m→m<j→ks[m]=key) (fun j=>ks.length - j) k ⟨rfl,rfl,int_eq (by omega),trivial⟩ rfl ⟨Adi _,by omega,fun m _ h1 h2=>by omega⟩ ?_
    rintro j ρ ⟨hkj,hjl,hje⟩
    have hfin:(∀h:j<ks.length,¬ks[j]=key)→findD ⟨false,ks,vs,is⟩ key=(j,false):=fun hs=>by
     have:((ks.drop k).takeWhile (fun k=>decide (k=key))).length=j - k:=Io (by simp;omega) (fun m hm hmj=>by
      have:=hje (k+m) (by simp at hm;omega) (by omega) (by omega);simpa using this) (fun hm=>by
      have:=hs (by simp at hm;omega);simp only[Aie,show k+(j - k)=j by omega];simpa using this)
     simp only[findD,hl,Adk,if_false,this];rw[show k+(j - k)=j by omega]
    by_cases h7:j<ks.length
    ·obtain⟨c1,hc1,hD1,⟨u1,rfl,hu1⟩⟩:=kx j h7
     replace hD1:=hD1.one
     by_cases h8:ks[j]=key
     ·have h9:decide (ks[j]=key)=true:=by simp[h8]
      (refine Af<|Ad<|Ab rfl<|Ai rfl<|Ag rfl (Aj 0 rfl rfl)<|AK rfl<|AE rfl rfl<|Ae rfl<|Bp rfl (by omega)<|Ah rfl<|Ai rfl<|Ah rfl<|Ag rfl (Aj 0 rfl rfl)<|Ah rfl<|Ab rfl<|Ah rfl ?_;apply BG;rfl;rfl;rfl;omega;assumption;refine Ah rfl<|Ag rfl (BN (by assumption))<|Ah rfl<|AJ<|Ah rfl ?_)
      refine BS rfl (h2 hu1 hkey) ?_
      (refine AI rfl rfl<|Aa<|Ax rfl (by omega)<|Ak<|Ay<|AB<|Ab rfl<|AL rfl rfl (by omega) (by omega)<|Ab rfl<|Aa ?_)
      refine⟨j+1,by omega,⟨rfl,rfl,int_eq (by omega),trivial⟩,rfl,rfl,by omega,by omega,fun m hm h1' h2'=>?_⟩
      by_cases e:m=j
      ·subst e;exact h8
      ·exact hje m hm h1' (by omega)
     ·have h9:decide (ks[j]=key)=false:=by simp[h8]
      (refine Af<|Ad<|Ab rfl<|Ai rfl<|Ag rfl (Aj 0 rfl rfl)<|AK rfl<|AE rfl rfl<|Ae rfl<|Bp rfl (by omega)<|Ah rfl<|Ai rfl<|Ah rfl<|Ag rfl (Aj 0 rfl rfl)<|Ah rfl<|Ab rfl<|Ah rfl ?_;apply BG;rfl;rfl;rfl;omega;assumption;refine Ah rfl<|Ag rfl (BN (by assumption))<|Ah rfl<|AJ<|Ah rfl ?_)
      refine BS rfl (h2 hu1 hkey) ?_
      (refine AI rfl rfl<|Aa<|Ar rfl (by omega)<|Bg<|Ad<|Ab rfl<|Ab rfl<|Ae rfl<|Aa<|An ?_)
      refine RC rfl rfl ⟨?_,rfl,rfl⟩
      (rw[hfin (fun _=>h8)];rfl)
    ·have e':j=ks.length:=by omega
     subst e'
     (refine Af<|Ad<|Ab rfl<|Ai rfl<|Ag rfl (Aj 0 rfl rfl)<|AK rfl<|AE rfl rfl<|Ae rfl<|Bf rfl (by omega)<|Aq rfl<|Aq rfl<|Aq rfl<|Aq rfl<|Aq rfl<|Aq rfl<|Aq rfl<|Aw rfl rfl<|Aa<|AS rfl<|Bg<|Ad<|Ab rfl<|Ab rfl<|Ae rfl<|Aa<|An ?_)
     refine RC rfl rfl ⟨?_,rfl,rfl⟩
     (rw[hfin (fun h=>absurd h (Nat.lt_irrefl _))];rfl)
   ·(refine Af<|Ad<|Ab rfl<|Ai rfl<|Ag rfl (Aj 0 rfl rfl)<|AK rfl<|AE rfl rfl<|Ae rfl<|Bp rfl (by omega)<|Ah rfl<|Ai rfl<|Ah rfl<|Ag rfl (Aj 0 rfl rfl)<|Ah rfl<|Ab rfl<|Ah rfl ?_;apply BG;rfl;rfl;rfl;omega;assumption;refine Ah rfl<|Ag rfl (BN (by assumption))<|Ah rfl<|AJ<|Ah rfl ?_)
    refine BS rfl (h1 hu0 hkey) ?_
    (refine Ah rfl<|AE rfl rfl<|AI rfl rfl<|Aa<|Ar rfl (by omega)<|Bg<|Ad<|Ab rfl<|Ai rfl<|Ag rfl (Aj 0 rfl rfl)<|AK rfl<|AE rfl rfl<|Ae rfl<|Bp rfl (by omega)<|Ah rfl<|Ai rfl<|Ah rfl<|Ag rfl (Aj 0 rfl rfl)<|Ah rfl<|Ab rfl<|Ah rfl ?_;apply BG;rfl;rfl;rfl;omega;assumption;refine Ah rfl<|Ag rfl (BN (by assumption))<|Ah rfl<|AJ<|Ah rfl ?_)
    refine BS rfl (h2 hu0 hkey) ?_
    (refine AI rfl rfl<|Ae rfl<|Aa<|Af<|Ad<|Ai rfl<|Ag rfl (Aj 0 rfl rfl)<|Aa<|Bj rfl<|Ad<|Ab rfl<|Ae rfl<|Ab rfl<|Ae rfl<|Aa<|An ?_)
    apply JM
    rfl
    rfl
    ·simp[findD,hl]
    ·simp[findD,hl,h]
 ·have e:k=ks.length:=by omega
  subst e;have hl:=hstop (fun h=>absurd h (Nat.lt_irrefl _));cases lf
  ·(refine Af<|Ad<|Ab rfl<|Ai rfl<|Ag rfl (Aj 0 rfl rfl)<|AK rfl<|AE rfl rfl<|Ae rfl<|Bf rfl (by omega)<|Aq rfl<|Aq rfl<|Aq rfl<|Aq rfl<|Aq rfl<|Aq rfl<|Aq rfl<|Aq rfl<|Aw rfl rfl<|Aa<|AS rfl<|Bg<|Ad<|Ab rfl<|Ai rfl<|Ag rfl (Aj 0 rfl rfl)<|AK rfl<|AE rfl rfl<|Ae rfl<|Bf rfl (by omega)<|Aq rfl<|Aq rfl<|Aq rfl<|Aq rfl<|Aq rfl<|Aq rfl<|Aq rfl<|Aw rfl rfl<|Ae rfl<|Aa<|Af<|Ad<|Ai rfl<|Ag rfl (Aj 0 rfl rfl)<|Aa<|AS rfl<|Ak<|Af<|Ay ?_);refine C8 (α:=Unit) (fun j=>[(1,v),(2,pZ b),(6,vZ ks.length)])
    (fun _=>[bx b T [.bool false,.slice ka ks.length kc,vv,iv]]) (fun _=>True) (fun _=>0) () ⟨rfl,rfl,rfl,trivial⟩ rfl trivial ?_
   intro _ ρ _;(refine Af<|Ad<|Ab rfl<|Ai rfl<|Ag rfl (Aj 0 rfl rfl)<|AK rfl<|AE rfl rfl<|Ae rfl<|Bf rfl (by omega)<|Aq rfl<|Aq rfl<|Aq rfl<|Aq rfl<|Aq rfl<|Aq rfl<|Aq rfl<|Aw rfl rfl<|Aa<|AS rfl<|Bg<|Ad<|Ab rfl<|Ab rfl<|Ae rfl<|Aa<|An ?_);apply JM;rfl;rfl
   ·simp[findD,hl]
   ·simp[findD,hl]
  ·(refine Af<|Ad<|Ab rfl<|Ai rfl<|Ag rfl (Aj 0 rfl rfl)<|AK rfl<|AE rfl rfl<|Ae rfl<|Bf rfl (by omega)<|Aq rfl<|Aq rfl<|Aq rfl<|Aq rfl<|Aq rfl<|Aq rfl<|Aq rfl<|Aq rfl<|Aw rfl rfl<|Aa<|AS rfl<|Bg<|Ad<|Ab rfl<|Ai rfl<|Ag rfl (Aj 0 rfl rfl)<|AK rfl<|AE rfl rfl<|Ae rfl<|Bf rfl (by omega)<|Aq rfl<|Aq rfl<|Aq rfl<|Aq rfl<|Aq rfl<|Aq rfl<|Aq rfl<|Aw rfl rfl<|Ae rfl<|Aa<|Af<|Ad<|Ai rfl<|Ag rfl (Aj 0 rfl rfl)<|Aa<|Bj rfl<|Ad<|Ab rfl<|Ae rfl<|Ab rfl<|Ae rfl<|Aa<|An ?_);apply JM;rfl;rfl
   ·simp[findD,hl]
   ·simp[findD,hl]
def KK:A5:=⟨70,[(.tmp 4),(.tmp 5)],(sR (o1 2 (.box 0)<|o1 4 (.mv z0)<|o1 5 (.mv (.const (.bool false))) .done) (sR (o1 6 (.mv z0) .done) (sR (o1 7 (.mv z0) .done) (sR (o1 8 (.mv (.const (.bool false))) .done) (.seq (sR (o1 9 (.mv z0) .done) (.block 0 (.loop (.seq (sR (om 10 9<|oj 11 1 2<|ol 12 11<|oL 13 12<|ob 14 .lss 10 13 .done) (.cond 14 .skip (.exit 0))) (.seq (.block 1 (.seq (.seq (.reg true (p1 17 (.fld 1 2)<|pl 18 17<|pm 19 9<|p1 20 (.idx 1 18 19)<|pl 21 20<|p1 22 (.b2s 21)<|pm 23 1<|p1 24 (.b2s 23)<|p1 25 (.bin .lss 22 24)<|pm 26 25 (.op true ⟨(some 27),(some (26,true)),(.mv 6)⟩ (.op true ⟨(some 28),(some (26,true)),(.mv 9)⟩ (.op true ⟨(some 29),(some (26,true)),(.bin .eql 27 28)⟩ (p1 30 (.pick 26 29 (.const (.bool false))) .done)))))) (.cond 30 (rG (om 31 6<|ob 32 .add 31 z1<|om 6 32 .done)) .skip)) (.seq (.reg true (p1 33 (.fld 1 2)<|pl 34 33<|pm 35 9<|p1 36 (.idx 1 34 35)<|pl 37 36<|p1 38 (.b2s 37)<|pm 39 1<|p1 40 (.b2s 39)<|p1 41 (.bin .leq 38 40)<|pm 42 41 (.op true ⟨(some 43),(some (42,true)),(.mv 7)⟩ (.op true ⟨(some 44),(some (42,true)),(.mv 9)⟩ (.op true ⟨(some 45),(some (42,true)),(.bin .eql 43 44)⟩ (p1 46 (.pick 42 45 (.const (.bool false))) .done)))))) (.cond 46 (rG (om 47 7<|ob 48 .add 47 z1<|om 7 48 .done)) .skip)))) (rG (om 15 9<|ob 16 .add 15 z1<|om 9 16 .done))))))) (.seq (sR (oj 49 0 2<|ol 50 49 .done) (.cond 50 (.seq (.reg true (pm 51 6<|p1 52 (.fld 1 2)<|pl 53 52<|p1 54 (.len 53)<|p1 55 (.bin .lss 51 54)<|pm 56 55 (.op true ⟨(some 57),(some (56,true)),(.fld 1 2)⟩ (.op true ⟨(some 58),(some (56,true)),(.ld none 57)⟩ (.op true ⟨(some 59),(some (56,true)),(.mv 6)⟩ (.op true ⟨(some 60),(some (56,true)),(.idx 1 58 59)⟩ (.op true ⟨(some 61),(some (56,true)),(.ld none 60)⟩ (.op true ⟨(some 62),(some (56,true)),(.b2s 61)⟩ (.op true ⟨(some 63),(some (56,true)),(.mv 1)⟩ (.op true ⟨(some 64),(some (56,true)),(.b2s 63)⟩ (.op true ⟨(some 65),(some (56,true)),(.bin .eql 62 64)⟩ (p1 66 (.pick 56 65 (.const (.bool false))) (.bar (pm 8 66 .done)))))))))))))) (sR (om 67 6<|om 68 8<|om 4 67<|om 5 68 .done) .ret)) .skip)) (sR (om 69 7<|om 4 69<|o1 5 (.mv (.const (.bool false))) .done) .ret)))))))⟩
set_option maxHeartbeats 2000000 in
def SE(hd:dec P f=some KK):JB P f Ga:=by
 intro d cs n v key hn hkey;obtain⟨lf,ks,vs,is⟩:=n;obtain⟨kv,vv,iv,rfl,hk,hv,hiv⟩:∃kv vv iv,cs=[.bool lf,kv,vv,iv]∧Di d kv ks∧Di d vv vs∧C5 d iv is:=hn;refine AF hd (Ada rfl) ?_;obtain⟨ka,kc,kb,ko,rfl,kA,kS,kN,kl,km,kB,kx⟩:=hk;show gwp P _ _ _ _ _;(refine Ad<|Cx rfl (fun _ _=>Ab rfl<|Ae rfl<|Aa<|Ad<|Ab rfl<|Aa<|Ad<|Ab rfl<|Aa<|Ad<|Ae rfl<|Aa<|Af<|Ad<|Ab rfl<|Aa<|Ay ?_));rename_i b T;have hlow:∀k,k≤ks.length→((ks.take k).takeWhile (Op.bytesLess · key)).length≤k:=fun k hk=>by have:=RI (p:=(Op.bytesLess · key)) (ks.take k);simp at this;omega
 have hnot:∀k,k≤ks.length→((ks.take k).takeWhile (leB · key)).length≤k:=fun k hk=>by have:=RI (p:=(leB · key)) (ks.take k);simp at this;omega
 refine C8 (α:=Nat) (fun k=>[(1,v),(2,pZ b),(6,vZ ((ks.take k).takeWhile (Op.bytesLess · key)).length),(7,vZ ((ks.take k).takeWhile (leB · key)).length),(8,.bool false),(9,vZ k)])
  (fun _=>[bx b T [.bool lf,.slice ka ks.length kc,vv,iv]]) (fun k=>k≤ks.length) (fun k=>ks.length - k) 0 ⟨rfl,rfl,rfl,rfl,rfl,rfl,trivial⟩ rfl (Aej _) ?_
 intro k ρ hle;by_cases h:k<ks.length
 ·obtain⟨c0,hc0,hD0,⟨u0,rfl,hu0⟩⟩:=kx k h;replace hD0:=hD0.one;have e1:=Qu (p:=(Op.bytesLess · key)) ks[k] (ks.take k);have e2:=Qu (p:=(leB · key)) ks[k] (ks.take k);rw[←Aea h] at e1 e2;have hl1:=hlow k (by omega);have hl2:=hnot k (by omega);have htl:(ks.take k).length=k:=by simp;omega
  rw[htl] at e1 e2;obtain⟨A,hA⟩:∃A,A=((ks.take k).takeWhile (Op.bytesLess · key)).length:=⟨_,rfl⟩
  obtain⟨B,hB⟩:∃B,B=((ks.take k).takeWhile (leB · key)).length:=⟨_,rfl⟩
  rw[←hA] at e1 hl1⊢;rw[←hB] at e2 hl2⊢;have done:∀(x y z:Int) (A' B':Nat),x=A'→y=B'→A'=(if A=k∧Op.bytesLess ks[k] key=true then k+1 else A)→B'=(if B=k∧leB ks[k] key=true then k+1 else B)→
    x=((ks.take (k+1)).takeWhile (Op.bytesLess · key)).length∧y=((ks.take (k+1)).takeWhile (leB · key)).length:=fun x y z A' B' hx hy h1 h2=>by rw[hx,hy,h1,h2,←e1,←e2];exact⟨rfl,rfl⟩
  cases hb:Op.bytesLess ks[k] key with
  |true=>
   have hl4:(Op.bytesLess ks[k] key||decide (ks[k]=key))=true:=by simp[hb]
   have hl3:leB ks[k] key=true:=hl4
   by_cases hAk:A=k
   ·by_cases hBk:B=k
    ·(refine Af<|Ad<|Ab rfl<|Ai rfl<|Ag rfl (Aj 0 rfl rfl)<|AK rfl<|AE rfl rfl<|Aa<|Ax rfl (by omega)<|Ak<|Af<|Ay<|Af<|Af<|Bu<|Ai rfl<|Ag rfl (Aj 0 rfl rfl)<|Ab rfl ?_;apply BG;rfl;rfl;rfl;omega;assumption;refine Ag rfl (BN (by assumption))<|Bi rfl (by assumption)<|AJ<|Bi rfl (by assumption)<|FC rfl rfl<|Ae rfl ?_;apply Gg;rfl;(with_reducible assumption);refine Ah rfl<|Ab rfl<|Ah rfl<|Ab rfl<|Ah rfl<|AO rfl rfl<|AI rfl rfl<|A9<|Ax rfl (by omega)<|AB<|Ab rfl<|AL rfl rfl (by omega) (by omega)<|Ab rfl<|Aa<|Af<|Bu<|Ai rfl<|Ag rfl (Aj 0 rfl rfl)<|Ab rfl ?_;apply BG;rfl;rfl;rfl;omega;assumption;refine Ag rfl (BN (by assumption))<|Bi rfl (by assumption)<|AJ<|Bi rfl (by assumption)<|Gd rfl rfl<|Ae rfl ?_;apply Gg;rfl;(with_reducible assumption);refine Ah rfl<|Ab rfl<|Ah rfl<|Ab rfl<|Ah rfl<|AO rfl rfl<|AI rfl rfl<|A9<|Ax rfl (by omega)<|AB<|Ab rfl<|AL rfl rfl (by omega) (by omega)<|Ab rfl<|Aa<|AB<|Ab rfl<|AL rfl rfl (by omega) (by omega)<|Ab rfl<|Aa ?_)
     obtain⟨f1,f2⟩:=done _ _ 0 (k+1) (k+1) rfl rfl (by simp[hAk,hb]) (by simp[hBk,hl3])
     exact⟨k+1,by omega,⟨rfl,rfl,int_eq (by omega),int_eq (by omega),rfl,int_eq (by omega),trivial⟩,rfl,rfl,h⟩
    ·(refine Af<|Ad<|Ab rfl<|Ai rfl<|Ag rfl (Aj 0 rfl rfl)<|AK rfl<|AE rfl rfl<|Aa<|Ax rfl (by omega)<|Ak<|Af<|Ay<|Af<|Af<|Bu<|Ai rfl<|Ag rfl (Aj 0 rfl rfl)<|Ab rfl ?_;apply BG;rfl;rfl;rfl;omega;assumption;refine Ag rfl (BN (by assumption))<|Bi rfl (by assumption)<|AJ<|Bi rfl (by assumption)<|FC rfl rfl<|Ae rfl ?_;apply Gg;rfl;(with_reducible assumption);refine Ah rfl<|Ab rfl<|Ah rfl<|Ab rfl<|Ah rfl<|AO rfl rfl<|AI rfl rfl<|A9<|Ax rfl (by omega)<|AB<|Ab rfl<|AL rfl rfl (by omega) (by omega)<|Ab rfl<|Aa<|Af<|Bu<|Ai rfl<|Ag rfl (Aj 0 rfl rfl)<|Ab rfl ?_;apply BG;rfl;rfl;rfl;omega;assumption;refine Ag rfl (BN (by assumption))<|Bi rfl (by assumption)<|AJ<|Bi rfl (by assumption)<|Gd rfl rfl<|Ae rfl ?_;apply Gg;rfl;(with_reducible assumption);refine Ah rfl<|Ab rfl<|Ah rfl<|Ab rfl<|Ah rfl<|AO rfl rfl<|AI rfl rfl<|A9<|Ar rfl (by omega)<|Ak<|AB<|Ab rfl<|AL rfl rfl (by omega) (by omega)<|Ab rfl<|Aa ?_)
     obtain⟨f1,f2⟩:=done _ _ 0 (k+1) (B) rfl rfl (by simp[hAk,hb]) (by simp[hBk,hl3])
     exact⟨k+1,by omega,⟨rfl,rfl,int_eq (by omega),int_eq (by omega),rfl,int_eq (by omega),trivial⟩,rfl,rfl,h⟩
   ·by_cases hBk:B=k
    ·(refine Af<|Ad<|Ab rfl<|Ai rfl<|Ag rfl (Aj 0 rfl rfl)<|AK rfl<|AE rfl rfl<|Aa<|Ax rfl (by omega)<|Ak<|Af<|Ay<|Af<|Af<|Bu<|Ai rfl<|Ag rfl (Aj 0 rfl rfl)<|Ab rfl ?_;apply BG;rfl;rfl;rfl;omega;assumption;refine Ag rfl (BN (by assumption))<|Bi rfl (by assumption)<|AJ<|Bi rfl (by assumption)<|FC rfl rfl<|Ae rfl ?_;apply Gg;rfl;(with_reducible assumption);refine Ah rfl<|Ab rfl<|Ah rfl<|Ab rfl<|Ah rfl<|AO rfl rfl<|AI rfl rfl<|A9<|Ar rfl (by omega)<|Ak<|Af<|Bu<|Ai rfl<|Ag rfl (Aj 0 rfl rfl)<|Ab rfl ?_;apply BG;rfl;rfl;rfl;omega;assumption;refine Ag rfl (BN (by assumption))<|Bi rfl (by assumption)<|AJ<|Bi rfl (by assumption)<|Gd rfl rfl<|Ae rfl ?_;apply Gg;rfl;(with_reducible assumption);refine Ah rfl<|Ab rfl<|Ah rfl<|Ab rfl<|Ah rfl<|AO rfl rfl<|AI rfl rfl<|A9<|Ax rfl (by omega)<|AB<|Ab rfl<|AL rfl rfl (by omega) (by omega)<|Ab rfl<|Aa<|AB<|Ab rfl<|AL rfl rfl (by omega) (by omega)<|Ab rfl<|Aa ?_)
     obtain⟨f1,f2⟩:=done _ _ 0 (A) (k+1) rfl rfl (by simp[hAk,hb]) (by simp[hBk,hl3])
     exact⟨k+1,by omega,⟨rfl,rfl,int_eq (by omega),int_eq (by omega),rfl,int_eq (by omega),trivial⟩,rfl,rfl,h⟩
    ·(refine Af<|Ad<|Ab rfl<|Ai rfl<|Ag rfl (Aj 0 rfl rfl)<|AK rfl<|AE rfl rfl<|Aa<|Ax rfl (by omega)<|Ak<|Af<|Ay<|Af<|Af<|Bu<|Ai rfl<|Ag rfl (Aj 0 rfl rfl)<|Ab rfl ?_;apply BG;rfl;rfl;rfl;omega;assumption;refine Ag rfl (BN (by assumption))<|Bi rfl (by assumption)<|AJ<|Bi rfl (by assumption)<|FC rfl rfl<|Ae rfl ?_;apply Gg;rfl;(with_reducible assumption);refine Ah rfl<|Ab rfl<|Ah rfl<|Ab rfl<|Ah rfl<|AO rfl rfl<|AI rfl rfl<|A9<|Ar rfl (by omega)<|Ak<|Af<|Bu<|Ai rfl<|Ag rfl (Aj 0 rfl rfl)<|Ab rfl ?_;apply BG;rfl;rfl;rfl;omega;assumption;refine Ag rfl (BN (by assumption))<|Bi rfl (by assumption)<|AJ<|Bi rfl (by assumption)<|Gd rfl rfl<|Ae rfl ?_;apply Gg;rfl;(with_reducible assumption);refine Ah rfl<|Ab rfl<|Ah rfl<|Ab rfl<|Ah rfl<|AO rfl rfl<|AI rfl rfl<|A9<|Ar rfl (by omega)<|Ak<|AB<|Ab rfl<|AL rfl rfl (by omega) (by omega)<|Ab rfl<|Aa ?_)
     obtain⟨f1,f2⟩:=done _ _ 0 (A) (B) rfl rfl (by simp[hAk,hb]) (by simp[hBk,hl3])
     exact⟨k+1,by omega,⟨rfl,rfl,int_eq (by omega),int_eq (by omega),rfl,int_eq (by omega),trivial⟩,rfl,rfl,h⟩
  |false=>
   by_cases he:ks[k]=key
   ·have hl4:(Op.bytesLess ks[k] key||decide (ks[k]=key))=true:=by simp[he]
    have hl3:leB ks[k] key=true:=hl4
    by_cases hAk:A=k
    ·by_cases hBk:B=k
     ·(refine Af<|Ad<|Ab rfl<|Ai rfl<|Ag rfl (Aj 0 rfl rfl)<|AK rfl<|AE rfl rfl<|Aa<|Ax rfl (by omega)<|Ak<|Af<|Ay<|Af<|Af<|Bu<|Ai rfl<|Ag rfl (Aj 0 rfl rfl)<|Ab rfl ?_;apply BG;rfl;rfl;rfl;omega;assumption;refine Ag rfl (BN (by assumption))<|Bi rfl (by assumption)<|AJ<|Bi rfl (by assumption)<|FC rfl rfl<|Ae rfl ?_;apply Gh;rfl;(with_reducible assumption);refine Aq rfl<|Aq rfl<|Aq rfl<|Aw rfl rfl<|A9<|AS rfl<|Ak<|Af<|Bu<|Ai rfl<|Ag rfl (Aj 0 rfl rfl)<|Ab rfl ?_;apply BG;rfl;rfl;rfl;omega;assumption;refine Ag rfl (BN (by assumption))<|Bi rfl (by assumption)<|AJ<|Bi rfl (by assumption)<|Gd rfl rfl<|Ae rfl ?_;apply Gg;rfl;(with_reducible assumption);refine Ah rfl<|Ab rfl<|Ah rfl<|Ab rfl<|Ah rfl<|AO rfl rfl<|AI rfl rfl<|A9<|Ax rfl (by omega)<|AB<|Ab rfl<|AL rfl rfl (by omega) (by omega)<|Ab rfl<|Aa<|AB<|Ab rfl<|AL rfl rfl (by omega) (by omega)<|Ab rfl<|Aa ?_)
      obtain⟨f1,f2⟩:=done _ _ 0 (A) (k+1) rfl rfl (by simp[hAk,hb]) (by simp[hBk,hl3])
      exact⟨k+1,by omega,⟨rfl,rfl,int_eq (by omega),int_eq (by omega),rfl,int_eq (by omega),trivial⟩,rfl,rfl,h⟩
     ·(refine Af<|Ad<|Ab rfl<|Ai rfl<|Ag rfl (Aj 0 rfl rfl)<|AK rfl<|AE rfl rfl<|Aa<|Ax rfl (by omega)<|Ak<|Af<|Ay<|Af<|Af<|Bu<|Ai rfl<|Ag rfl (Aj 0 rfl rfl)<|Ab rfl ?_;apply BG;rfl;rfl;rfl;omega;assumption;refine Ag rfl (BN (by assumption))<|Bi rfl (by assumption)<|AJ<|Bi rfl (by assumption)<|FC rfl rfl<|Ae rfl ?_;apply Gh;rfl;(with_reducible assumption);refine Aq rfl<|Aq rfl<|Aq rfl<|Aw rfl rfl<|A9<|AS rfl<|Ak<|Af<|Bu<|Ai rfl<|Ag rfl (Aj 0 rfl rfl)<|Ab rfl ?_;apply BG;rfl;rfl;rfl;omega;assumption;refine Ag rfl (BN (by assumption))<|Bi rfl (by assumption)<|AJ<|Bi rfl (by assumption)<|Gd rfl rfl<|Ae rfl ?_;apply Gg;rfl;(with_reducible assumption);refine Ah rfl<|Ab rfl<|Ah rfl<|Ab rfl<|Ah rfl<|AO rfl rfl<|AI rfl rfl<|A9<|Ar rfl (by omega)<|Ak<|AB<|Ab rfl<|AL rfl rfl (by omega) (by omega)<|Ab rfl<|Aa ?_)
      obtain⟨f1,f2⟩:=done _ _ 0 (A) (B) rfl rfl (by simp[hAk,hb]) (by simp[hBk,hl3])
      exact⟨k+1,by omega,⟨rfl,rfl,int_eq (by omega),int_eq (by omega),rfl,int_eq (by omega),trivial⟩,rfl,rfl,h⟩
    ·by_cases hBk:B=k
     ·(refine Af<|Ad<|Ab rfl<|Ai rfl<|Ag rfl (Aj 0 rfl rfl)<|AK rfl<|AE rfl rfl<|Aa<|Ax rfl (by omega)<|Ak<|Af<|Ay<|Af<|Af<|Bu<|Ai rfl<|Ag rfl (Aj 0 rfl rfl)<|Ab rfl ?_;apply BG;rfl;rfl;rfl;omega;assumption;refine Ag rfl (BN (by assumption))<|Bi rfl (by assumption)<|AJ<|Bi rfl (by assumption)<|FC rfl rfl<|Ae rfl ?_;apply Gh;rfl;(with_reducible assumption);refine Aq rfl<|Aq rfl<|Aq rfl<|Aw rfl rfl<|A9<|AS rfl<|Ak<|Af<|Bu<|Ai rfl<|Ag rfl (Aj 0 rfl rfl)<|Ab rfl ?_;apply BG;rfl;rfl;rfl;omega;assumption;refine Ag rfl (BN (by assumption))<|Bi rfl (by assumption)<|AJ<|Bi rfl (by assumption)<|Gd rfl rfl<|Ae rfl ?_;apply Gg;rfl;(with_reducible assumption);refine Ah rfl<|Ab rfl<|Ah rfl<|Ab rfl<|Ah rfl<|AO rfl rfl<|AI rfl rfl<|A9<|Ax rfl (by omega)<|AB<|Ab rfl<|AL rfl rfl (by omega) (by omega)<|Ab rfl<|Aa<|AB<|Ab rfl<|AL rfl rfl (by omega) (by omega)<|Ab rfl<|Aa ?_)
      obtain⟨f1,f2⟩:=done _ _ 0 (A) (k+1) rfl rfl (by simp[hAk,hb]) (by simp[hBk,hl3])
      exact⟨k+1,by omega,⟨rfl,rfl,int_eq (by omega),int_eq (by omega),rfl,int_eq (by omega),trivial⟩,rfl,rfl,h⟩
     ·(refine Af<|Ad<|Ab rfl<|Ai rfl<|Ag rfl (Aj 0 rfl rfl)<|AK rfl<|AE rfl rfl<|Aa<|Ax rfl (by omega)<|Ak<|Af<|Ay<|Af<|Af<|Bu<|Ai rfl<|Ag rfl (Aj 0 rfl rfl)<|Ab rfl ?_;apply BG;rfl;rfl;rfl;omega;assumption;refine Ag rfl (BN (by assumption))<|Bi rfl (by assumption)<|AJ<|Bi rfl (by assumption)<|FC rfl rfl<|Ae rfl ?_;apply Gh;rfl;(with_reducible assumption);refine Aq rfl<|Aq rfl<|Aq rfl<|Aw rfl rfl<|A9<|AS rfl<|Ak<|Af<|Bu<|Ai rfl<|Ag rfl (Aj 0 rfl rfl)<|Ab rfl ?_;apply BG;rfl;rfl;rfl;omega;assumption;refine Ag rfl (BN (by assumption))<|Bi rfl (by assumption)<|AJ<|Bi rfl (by assumption)<|Gd rfl rfl<|Ae rfl ?_;apply Gg;rfl;(with_reducible assumption);refine Ah rfl<|Ab rfl<|Ah rfl<|Ab rfl<|Ah rfl<|AO rfl rfl<|AI rfl rfl<|A9<|Ar rfl (by omega)<|Ak<|AB<|Ab rfl<|AL rfl rfl (by omega) (by omega)<|Ab rfl<|Aa ?_)
      obtain⟨f1,f2⟩:=done _ _ 0 (A) (B) rfl rfl (by simp[hAk,hb]) (by simp[hBk,hl3])
      exact⟨k+1,by omega,⟨rfl,rfl,int_eq (by omega),int_eq (by omega),rfl,int_eq (by omega),trivial⟩,rfl,rfl,h⟩
   ·have hl4:(Op.bytesLess ks[k] key||decide (ks[k]=key))=false:=by simp[he,hb]
    have hl3:leB ks[k] key=false:=hl4
    by_cases hAk:A=k
    ·by_cases hBk:B=k
     ·(refine Af<|Ad<|Ab rfl<|Ai rfl<|Ag rfl (Aj 0 rfl rfl)<|AK rfl<|AE rfl rfl<|Aa<|Ax rfl (by omega)<|Ak<|Af<|Ay<|Af<|Af<|Bu<|Ai rfl<|Ag rfl (Aj 0 rfl rfl)<|Ab rfl ?_;apply BG;rfl;rfl;rfl;omega;assumption;refine Ag rfl (BN (by assumption))<|Bi rfl (by assumption)<|AJ<|Bi rfl (by assumption)<|FC rfl rfl<|Ae rfl ?_;apply Gh;rfl;(with_reducible assumption);refine Aq rfl<|Aq rfl<|Aq rfl<|Aw rfl rfl<|A9<|AS rfl<|Ak<|Af<|Bu<|Ai rfl<|Ag rfl (Aj 0 rfl rfl)<|Ab rfl ?_;apply BG;rfl;rfl;rfl;omega;assumption;refine Ag rfl (BN (by assumption))<|Bi rfl (by assumption)<|AJ<|Bi rfl (by assumption)<|Gd rfl rfl<|Ae rfl ?_;apply Gh;rfl;(with_reducible assumption);refine Aq rfl<|Aq rfl<|Aq rfl<|Aw rfl rfl<|A9<|AS rfl<|Ak<|AB<|Ab rfl<|AL rfl rfl (by omega) (by omega)<|Ab rfl<|Aa ?_)
      obtain⟨f1,f2⟩:=done _ _ 0 (A) (B) rfl rfl (by simp[hAk,hb]) (by simp[hBk,hl3])
      exact⟨k+1,by omega,⟨rfl,rfl,int_eq (by omega),int_eq (by omega),rfl,int_eq (by omega),trivial⟩,rfl,rfl,h⟩
     ·(refine Af<|Ad<|Ab rfl<|Ai rfl<|Ag rfl (Aj 0 rfl rfl)<|AK rfl<|AE rfl rfl<|Aa<|Ax rfl (by omega)<|Ak<|Af<|Ay<|Af<|Af<|Bu<|Ai rfl<|Ag rfl (Aj 0 rfl rfl)<|Ab rfl ?_;apply BG;rfl;rfl;rfl;omega;assumption;refine Ag rfl (BN (by assumption))<|Bi rfl (by assumption)<|AJ<|Bi rfl (by assumption)<|FC rfl rfl<|Ae rfl ?_;apply Gh;rfl;(with_reducible assumption);refine Aq rfl<|Aq rfl<|Aq rfl<|Aw rfl rfl<|A9<|AS rfl<|Ak<|Af<|Bu<|Ai rfl<|Ag rfl (Aj 0 rfl rfl)<|Ab rfl ?_;apply BG;rfl;rfl;rfl;omega;assumption;refine Ag rfl (BN (by assumption))<|Bi rfl (by assumption)<|AJ<|Bi rfl (by assumption)<|Gd rfl rfl<|Ae rfl ?_;apply Gh;rfl;(with_reducible assumption);refine Aq rfl<|Aq rfl<|Aq rfl<|Aw rfl rfl<|A9<|AS rfl<|Ak<|AB<|Ab rfl<|AL rfl rfl (by omega) (by omega)<|Ab rfl<|Aa ?_)
      obtain⟨f1,f2⟩:=done _ _ 0 (A) (B) rfl rfl (by simp[hAk,hb]) (by simp[hBk,hl3])
      exact⟨k+1,by omega,⟨rfl,rfl,int_eq (by omega),int_eq (by omega),rfl,int_eq (by omega),trivial⟩,rfl,rfl,h⟩
    ·by_cases hBk:B=k
     ·(refine Af<|Ad<|Ab rfl<|Ai rfl<|Ag rfl (Aj 0 rfl rfl)<|AK rfl<|AE rfl rfl<|Aa<|Ax rfl (by omega)<|Ak<|Af<|Ay<|Af<|Af<|Bu<|Ai rfl<|Ag rfl (Aj 0 rfl rfl)<|Ab rfl ?_;apply BG;rfl;rfl;rfl;omega;assumption;refine Ag rfl (BN (by assumption))<|Bi rfl (by assumption)<|AJ<|Bi rfl (by assumption)<|FC rfl rfl<|Ae rfl ?_;apply Gh;rfl;(with_reducible assumption);refine Aq rfl<|Aq rfl<|Aq rfl<|Aw rfl rfl<|A9<|AS rfl<|Ak<|Af<|Bu<|Ai rfl<|Ag rfl (Aj 0 rfl rfl)<|Ab rfl ?_;apply BG;rfl;rfl;rfl;omega;assumption;refine Ag rfl (BN (by assumption))<|Bi rfl (by assumption)<|AJ<|Bi rfl (by assumption)<|Gd rfl rfl<|Ae rfl ?_;apply Gh;rfl;(with_reducible assumption);refine Aq rfl<|Aq rfl<|Aq rfl<|Aw rfl rfl<|A9<|AS rfl<|Ak<|AB<|Ab rfl<|AL rfl rfl (by omega) (by omega)<|Ab rfl<|Aa ?_)
      obtain⟨f1,f2⟩:=done _ _ 0 (A) (B) rfl rfl (by simp[hAk,hb]) (by simp[hBk,hl3])
      exact⟨k+1,by omega,⟨rfl,rfl,int_eq (by omega),int_eq (by omega),rfl,int_eq (by omega),trivial⟩,rfl,rfl,h⟩
     ·(refine Af<|Ad<|Ab rfl<|Ai rfl<|Ag rfl (Aj 0 rfl rfl)<|AK rfl<|AE rfl rfl<|Aa<|Ax rfl (by omega)<|Ak<|Af<|Ay<|Af<|Af<|Bu<|Ai rfl<|Ag rfl (Aj 0 rfl rfl)<|Ab rfl ?_;apply BG;rfl;rfl;rfl;omega;assumption;refine Ag rfl (BN (by assumption))<|Bi rfl (by assumption)<|AJ<|Bi rfl (by assumption)<|FC rfl rfl<|Ae rfl ?_;apply Gh;rfl;(with_reducible assumption);refine Aq rfl<|Aq rfl<|Aq rfl<|Aw rfl rfl<|A9<|AS rfl<|Ak<|Af<|Bu<|Ai rfl<|Ag rfl (Aj 0 rfl rfl)<|Ab rfl ?_;apply BG;rfl;rfl;rfl;omega;assumption;refine Ag rfl (BN (by assumption))<|Bi rfl (by assumption)<|AJ<|Bi rfl (by assumption)<|Gd rfl rfl<|Ae rfl ?_;apply Gh;rfl;(with_reducible assumption);refine Aq rfl<|Aq rfl<|Aq rfl<|Aw rfl rfl<|A9<|AS rfl<|Ak<|AB<|Ab rfl<|AL rfl rfl (by omega) (by omega)<|Ab rfl<|Aa ?_)
      obtain⟨f1,f2⟩:=done _ _ 0 (A) (B) rfl rfl (by simp[hAk,hb]) (by simp[hBk,hl3])
      exact⟨k+1,by omega,⟨rfl,rfl,int_eq (by omega),int_eq (by omega),rfl,int_eq (by omega),trivial⟩,rfl,rfl,h⟩
 ·have e:k=ks.length:=by omega
  subst e;rw[Afi];have hl:∃A,A=low ⟨lf,ks,vs,is⟩ key:=⟨_,rfl⟩
  have hlk:=hlow ks.length (Adi _);rw[Afi] at hlk;obtain⟨A,hA⟩:∃A,A=(ks.takeWhile (Op.bytesLess · key)).length:=⟨_,rfl⟩
  rw[←hA] at hlk⊢;have hA':low ⟨lf,ks,vs,is⟩ key=A:=hA.symm;cases lf
  ·(refine Af<|Ad<|Ab rfl<|Ai rfl<|Ag rfl (Aj 0 rfl rfl)<|AK rfl<|AE rfl rfl<|Aa<|Ar rfl (by omega)<|Bg<|Af<|Ad<|Ai rfl<|Ag rfl (Aj 0 rfl rfl)<|Aa<|AS rfl<|Ak<|Ad<|Ab rfl<|Ab rfl<|Ae rfl<|Aa<|An ?_);apply JM;rfl;rfl
   ·simp[Ga]
   ·simp[Ga]
  ·by_cases h:A<ks.length
   ·obtain⟨c0,hc0,hD0,⟨u0,rfl,hu0⟩⟩:=kx A h;replace hD0:=hD0.one;(refine Af<|Ad<|Ab rfl<|Ai rfl<|Ag rfl (Aj 0 rfl rfl)<|AK rfl<|AE rfl rfl<|Aa<|Ar rfl (by omega)<|Bg<|Af<|Ad<|Ai rfl<|Ag rfl (Aj 0 rfl rfl)<|Aa<|Bj rfl<|Af<|Bu<|Ab rfl<|Ai rfl<|Ag rfl (Aj 0 rfl rfl)<|AK rfl<|AE rfl rfl<|Ae rfl<|Bp rfl (by omega)<|Ah rfl<|Ai rfl<|Ah rfl<|Ag rfl (Aj 0 rfl rfl)<|Ah rfl<|Ab rfl<|Ah rfl ?_;apply BG;rfl;rfl;rfl;omega;assumption;refine Ah rfl<|Ag rfl (BN (by assumption))<|Ah rfl<|Bi rfl (by assumption)<|Ah rfl<|AJ<|Ah rfl<|Bi rfl (by assumption)<|Ah rfl<|RM rfl rfl<|AI rfl rfl<|Ch<|Ae rfl<|Aa<|Ad<|Ab rfl<|Ae rfl<|Ab rfl<|Ae rfl<|Aa<|An ?_);apply JM;rfl;rfl
    ·simp[Ga,hA']
    ·simp[Ga,hA',h]
   ·(refine Af<|Ad<|Ab rfl<|Ai rfl<|Ag rfl (Aj 0 rfl rfl)<|AK rfl<|AE rfl rfl<|Aa<|Ar rfl (by omega)<|Bg<|Af<|Ad<|Ai rfl<|Ag rfl (Aj 0 rfl rfl)<|Aa<|Bj rfl<|Af<|Bu<|Ab rfl<|Ai rfl<|Ag rfl (Aj 0 rfl rfl)<|AK rfl<|AE rfl rfl<|Ae rfl<|Bf rfl (by omega)<|Aq rfl<|Aq rfl<|Aq rfl<|Aq rfl<|Aq rfl<|Aq rfl<|Aq rfl<|Aq rfl<|Aq rfl<|Aw rfl rfl<|Ch<|Ae rfl<|Aa<|Ad<|Ab rfl<|Ae rfl<|Ab rfl<|Ae rfl<|Aa<|An ?_);apply JM;rfl;rfl
    ·simp[Ga,hA']
    ·(first|(simp[Ga,hA',h];done)|(simp[Ga,hA',h];omega))
def KS{ks}:∀{m k:Nat},Du ks m=true→k<m→kOk ks k=true
 |0,_,_,h=>by omega
 |m+1,k,h,hk=>by
  simp only[Du,Adc] at h;by_cases e:k=m
  ·subst e;exact h.2
  ·exact KS h.1 (by omega)
def KQ{ks}(h:Du ks ks.length=true):∀{j i:Nat}(hj:j<ks.length) (hi:i<j),Op.bytesLess (ks[i]'(by omega)) ks[j]=true:=by
 intro j;induction j with
 |zero=>intro i _ hi;omega
 |succ j ih=>
  intro i hj hi
  have hk:=KS h hj
  simp only[kOk,Adc,Afa,beq_iff_eq,Afw] at hk
  have h1:Op.bytesLess ks[j] ks[j+1]=true:=by
   rcases hk.2 with e|e
   ·omega
   ·simpa [show j<ks.length by omega,hj] using e
  by_cases e:i=j
  ·subst e;exact h1
  ·exact Ka (ih (by omega) (by omega)) h1
def find_eq(n:Az)(key:List UInt8)(h:A0 n=true):findD n key=Ga n key:=by
 obtain⟨lf,ks,vs,is⟩:=n;unfold findD Ga;cases lf with
 |true=>rfl
 |false=>
  simp only[Adk,if_false,Prod.mk.injEq,and_true]
  have hk:Du ks ks.length=true:=by simp only[A0,Adc] at h;exact h.1
  have rise:=fun{j i:Nat}(hj:j<ks.length) (hi:i<j)=>KQ hk hj hi
  have hl:low ⟨false,ks,vs,is⟩ key≤ks.length:=RI ks
  obtain⟨A,hA⟩:∃A,A=low ⟨false,ks,vs,is⟩ key:=⟨_,rfl⟩
  rw[←hA] at hl⊢
  have below:∀j (hj:j<ks.length),j<A→Op.bytesLess ks[j] key=true:=fun j hj hjA=>Z6 (p:=(Op.bytesLess · key)) hj (by rw[hA] at hjA;exact hjA)
  have stop:∀h:A<ks.length,Op.bytesLess ks[A] key=false:=fun h=>UK (p:=(Op.bytesLess · key)) hA h
  have les:∀{a b},Op.bytesLess a b=true→leB a b=true:=fun h=>by simp[leB,h]
  by_cases he:∃h:A<ks.length,ks[A]=key
  ·obtain⟨h,he⟩:=he
   have h1:((ks.drop A).takeWhile (fun k=>decide (k=key))).length=1:=Io (by simp;omega) (fun m hm hm1=>by
    obtain rfl:m=0:=by omega
    simpa using he) (fun hm=>by
    have hm':A+1<ks.length:=by simp at hm;omega
    have:=rise hm' (i:=A) (by omega);rw[he] at this;simp only[Aie,decide_eq_false_iff_not];intro e;rw[e,Fi] at this;cases this)
   have h2:(ks.takeWhile (leB · key)).length=A+1:=Io h (fun j hj hjA=>by
    by_cases e:j=A
    ·subst e;simp[leB,he]
    ·exact les (below j hj (by omega))) (fun hm=>by
    have:=rise hm (i:=A) (by omega);rw[he] at this;have h3:=Zq this;simp only[leB,h3,Aim,decide_eq_false_iff_not];intro e;rw[e,Fi] at this;cases this)
   rw[h1,h2]
  ·have h1:((ks.drop A).takeWhile (fun k=>decide (k=key))).length=0:=Io (by omega) (fun m _ hm=>by omega) (fun hm=>by
    have hm':A<ks.length:=by simp at hm;omega
    simp only[Aie,decide_eq_false_iff_not,Nat.add_zero];intro e;exact he ⟨hm',e⟩)
   have h2:(ks.takeWhile (leB · key)).length=A:=Io hl (fun j hj hjA=>les (below j hj hjA)) (fun hm=>by
    simp only[leB,stop hm,Aim,decide_eq_false_iff_not];intro e;exact he ⟨hm,e⟩)
   rw[h1,h2];rfl
end Go.Gk.Node
end
