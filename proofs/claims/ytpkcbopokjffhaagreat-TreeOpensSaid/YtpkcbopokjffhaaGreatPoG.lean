/-
  Our own texts, one behind the other: GkH7 GkH8 GkTU GkTV GkTW GkTX GkWA GkWB GkWC GkWD GkWE GkTrH GkWF GkWG GkTr9 GkTrL GkTrM GkTrN GkTY GkWH.
-/
import Derived.Test.YtpkcbopokjffhaaGreatPoF
open Nat renaming le_of_ble_eq_true→Aca,le_refl→Ach,zero_le→Adf,mul_one→Aen,succ_ne_zero→Aez
open List.Sublist renaming refl→Acb
open Bool renaming and_eq_true→Acd,false_eq_true→Acj,or_eq_true→Adr,not_eq_true→Aev,true_and→Afl
open List renaming getElem?_eq_getElem→Ace,getD_eq_getElem?_getD→Acf,append_assoc→Acg,perm_append_comm→Aci,mem_append→Ack,length_append→Acl,eq_nil_of_length_eq_zero→Acm,length_drop→Aco,all_eq_true→Acq,replicate→Acr,length_cons→Acs,mem_cons_self→Acu,mem_singleton→Acv,length_take→Acw,take_succ_eq_append_getElem→Acx,mem_cons_of_mem→Acy,getElem_mem→Ada,mem_cons→Adb,length_set→Adg,mem_append_left→Adh,drop_eq_getElem_cons→Adi,perm_middle→Adj,mem_append_right→Adk,sublist_append_right→Adm,length_replicate→Adn,append_nil→Ads,nil_append→Adt,getElem?_take_of_lt→Adu,perm_iff_count→Adw,getElem?_append_right→Aeb,take_of_length_le→Aec,getElem?_append_left→Aed,count_append→Aee,nil_sublist→Aef,take_length→Aeg,getElem_of_mem→Aei,cons_append→Aej,length_nil→Ael,count_cons→Aem,getElem?_map→Aep,getD_cons_succ→Aeu,drop_of_length_le→Aex,getD_cons_zero→Aey,exists_cons_of_ne_nil→Afa,pairwise_iff_getElem→Afc,take_append_of_le_length→Afe,mem_map_of_mem→Aff,nodup_append→Afi,map_cons→Afj,nodup_cons→Afr,length_singleton→Afs,drop_length→Afv,getD→Afw,count_nil→Age,mem_of_mem_drop→Agf,takeWhile_append_dropWhile→Agj,mem_map→Agl,drop_append_of_le_length→Ago,drop_left→Agp,nodup_nil→Agq,take_append_drop→Agv,all_cons→Agy,mem_of_mem_take→Aha,take_left→Ahc,drop_append→Ahf,pairwise_cons→Ahi
open List.Perm renaming cons→Acn,swap→Adc,refl→Adp
open Option renaming map_some→Aeq,getD_some→Afo
section
namespace Go.Gk.Chn
open Go Go.Gk Go.Gk.Dev Go.Gk.Cch Go.Gk.Pgr Go.Gk.Node
attribute [local irreducible] gwp gws xwp
def UK(P:Program) (f:FuncId):Prop:=∀{d:Ac}{b n c:Nat}{a:Option Addr},DC d b 0 (.slice a (n+2) c)→1≤n→n≤8000→CT P f [.pointer (some ⟨b,0,none⟩),.int .i64 2,.int .i64 n] d (.bool true)
def IV:AY:=⟨31,[(.tmp 6)],(sR (o1 6 (.mv (.const (.bool false))) .done) (sR (om 8 0<|o1 9 (.nilc (tP 8))<|oj 10 0 9<|ol 11 10<|oL 12 11<|om 7 12 .done) (sR (om 13 1<|ob 14 .geq (tP 13) (kZ 0)<|om 15 14<|gT 16 15 1<|gT 17 15 7<|oT 18 15 (.bin .leq (tP 16) (tP 17))<|gP 19 15 18<|om 20 19<|gT 21 20 2<|oT 22 20 (.bin .geq (tP 21) (kZ 1))<|gP 23 20 22<|om 24 23<|gT 25 24 2<|gT 26 24 7<|gT 27 24 1<|oT 28 24 (.bin .sub (tP 26) (tP 27))<|oT 29 24 (.bin .leq (tP 25) (tP 28))<|gP 30 24 29<|om 6 30 .done) .ret)))⟩
theorem AaK{P:Program}{f:FuncId} (hd:dec P f=some IV):UK P f:=by
 intro d b n c a hb hn1 hn2
 refine AG hd (Aca rfl) ?_
 show gwp P _ _ _ _ _
 have h2:(2:Int)≤((n+2:Nat):Int):=by omega
 have h3:(n:Int)≤((n+2:Nat):Int) - 2:=by omega
 (refine Ad<|Ae rfl<|Aa<|Ad<|Ak rfl<|Av rfl<|Ai rfl<|Ag rfl (BF (by assumption))<|AL rfl<|Ab rfl<|Aa<|Ad<|Ab rfl<|DL rfl rfl<|Ae rfl<|Bd rfl (by omega)<|Af rfl<|Ab rfl<|Af rfl<|Ab rfl<|Af rfl<|NM rfl rfl<|AB rfl rfl<|Ae rfl<|Bd rfl (by omega)<|Af rfl<|Ab rfl<|Af rfl<|DL rfl rfl<|AB rfl rfl<|Ae rfl<|Bd rfl (by omega)<|Af rfl<|Ab rfl<|Af rfl<|Ab rfl<|Af rfl<|Ab rfl<|Af rfl<|CY rfl rfl (by omega) (by omega)<|Af rfl<|NM rfl rfl<|AB rfl rfl<|Ae rfl<|Aa<|Ao ?_)
 exact BG (v:=.bool (decide ((n:Int)≤((n+2:Nat):Int) - 2))) rfl (Acb _) ⟨congrArg Value.bool (decide_eq_true h3),rfl,rfl⟩
def Uf(P:Program) (f:FuncId):Prop:=∀{d:Ac}{b q n c:Nat}{a:Option Addr},DC d b 0 (.slice a (n+2) c)→1≤n→n≤8000→
 Aw P f [.pointer (some ⟨b,0,none⟩),.pointer (some ⟨q,0,none⟩),.int .i64 2,.int .i64 n,.slice none 0 0] d [] (Ret fun r _ L'=>L'=[]∧∃v,r=.tuple #[.pointer (some ⟨v,0,none⟩),.int .i64 0])
def KZ(a0 a1:Nat):AY:=⟨52,[(.tmp 10),(.tmp 11)],(sR (o1 10 (.mv (.const (.pointer none)))<|o1 11 (.mv (kZ 0)) .done) (.seq (sR (om 14 0<|om 15 2<|om 16 3<|oc 17 a0 [(tP 14),(tP 15),(tP 16)]<|o1 18 (.un .not (tP 17)) .done) (.cond (tP 18) (sR (o1 10 (.mv (.const (.pointer none)))<|o1 11 (.mv (kZ 2)) .done) .ret) .skip)) (sR (om 19 0<|om 20 1<|om 21 2<|om 22 3<|o1 23 (.mks 2 24 [(.int .i64 0),(Bs [])] (tP 22) (tP 22))<|o1 24 (.bld [(0,1),(1,1),(2,1),(3,1),(4,1),(5,1)] [(.pointer none),(.pointer none),(.int .i64 0),(.slice none 0 0),(.int .i64 0),(.int .i64 0)] [(0,(tP 19)),(1,(tP 20)),(2,(tP 21)),(3,(tP 23))])<|o1 25 (.box (tP 24))<|om 12 25 .done) (.seq (sR (o1 13 (.mv (kZ 0)) .done) (.block 0 (.loop (.seq (sR (om 26 13<|om 27 4<|oL 28 27<|ob 29 .lss (tP 26) (tP 28) .done) (.cond (tP 29) .skip (.exit 0))) (.seq (.block 1 (.seq (sR (om 32 12<|om 33 4<|om 34 13<|oI 35 1 33 34<|ol 36 35<|oc 37 a1 [(tP 32),(tP 36)]<|ob 38 .neq (tP 37) (kZ 0) .done) (.cond (tP 38) (sR (o1 10 (.mv (.const (.pointer none)))<|o1 11 (.mv (kZ 2)) .done) .ret) .skip)) (.reg true (pm 39 12<|p1 40 (.nilc (tP 39))<|p1 41 (.fld 3 (tP 40))<|pl 42 41<|pm 43 4<|pm 44 13<|p1 45 (.idx 1 (tP 43) (tP 44))<|pl 46 45<|pm 47 2<|p1 48 (.bin .sub (tP 46) (tP 47))<|p1 49 (.idx 2 (tP 42) (tP 48))<|p1 50 (.fld 0 (tP 49))<|o0 (.st 1 (tP 50) (kZ 2)) .done)))) (rG (om 30 13<|ob 31 .add (tP 30) (kZ 1)<|om 13 31 .done))))))) (sR (om 51 12<|om 10 51<|o1 11 (.mv (kZ 0)) .done) .ret)))))⟩
set_option maxRecDepth 4000 in
theorem AaD{P:Program}{f f1 f2:FuncId} (hd:dec P f=some (KZ f1 f2)) (h1:UK P f1):Uf P f:=by
 intro d b q n c a hb hn1 hn2
 refine AG hd (Aca rfl) ?_
 show gwp P _ _ _ _ _
 (refine Ad<|Ak rfl<|Ab rfl<|Aa<|Ah<|Ad<|Ak rfl<|Ab rfl<|Ab rfl ?_)
 refine Bk rfl (h1 hb hn1 hn2) (fun u d1 L1 _ ⟨e1,e2,e3⟩=>?_)
 subst e1;subst e2;subst e3
 (refine Bj rfl<|Aa<|AR rfl<|Al<|Ad<|Ak rfl<|Ak rfl<|Ab rfl<|Ab rfl ?_)
 refine Hp (n:=n) (c:=n) rfl rfl (Ach _) (by omega) (by omega) (fun b23 T23=>?_)
 (refine BI rfl<|Cc rfl (fun _ _=>Ak rfl<|Aa<|Ah<|Ad<|Ab rfl<|Aa<|Ax ?_))
 rename_i bb TT
 refine CI (α:=Unit) (fun _=>[(4,.slice none 0 0),(12,.pointer (some ⟨bb,0,none⟩)),(13,.int .i64 0)]) (fun _ _ _=>True) (fun _=>0) () ⟨rfl,rfl,rfl,trivial⟩ trivial ?_
 rintro - ρ d' L' -
 (refine Ah<|Ad<|Ab rfl<|Am rfl<|AL rfl<|AA rfl rfl<|Aa<|Ar rfl (by omega)<|Bh<|Ad<|Ak rfl<|Ak rfl<|Ab rfl<|Aa<|Ao ?_)
 exact CF rfl rfl (Aef _) ⟨rfl,_,rfl⟩
def Ux(P:Program) (f:FuncId):Prop:=∀{d:Ac}{b:Nat},Aw P f [.pointer (some ⟨b,0,none⟩),.int .i64 4] d [] (Ret fun r _ L'=>L'=[]∧∃q,r=.tuple #[.pointer (some ⟨q,0,none⟩),.int .i64 0])
def Lp:AY:=⟨48,[(.tmp 4),(.tmp 5)],(sR (o1 4 (.mv (.const (.pointer none)))<|o1 5 (.mv (kZ 0)) .done) (.seq (sR (om 8 1<|ob 9 .lss (tP 8) (kZ 1)<|om 10 9<|gF 11 10 1<|oF 12 10 (.bin .gtr (tP 11) (kZ 64))<|o1 13 (.pick (tP 10) (.const (.bool true)) (tP 12)) .done) (.cond (tP 13) (sR (o1 4 (.mv (.const (.pointer none)))<|o1 5 (.mv (kZ 2)) .done) .ret) .skip)) (.seq (.reg true (pm 14 0<|pm 15 1<|pm 17 1<|pm 19 1 (.par (o1 20 (.mks 1 16 [(Bs [])] (tP 19) (tP 19)) .done) (.par (o1 16 (.mks 1 8 [(.int .i64 0)] (tP 15) (tP 15)) .done) (o1 18 (.mks 1 1 [(.bool false)] (tP 17) (tP 17)) .done) .done) (p1 21 (.bld [(0,1),(1,1),(2,1),(3,1),(4,1),(5,1),(6,1),(7,1),(8,1)] [(.pointer none),(.slice none 0 0),(.slice none 0 0),(.slice none 0 0),(.slice none 0 0),(.slice none 0 0),(.int .i64 0),(.int .i64 0),(.int .i64 0)] [(0,(tP 14)),(2,(tP 16)),(3,(tP 18)),(4,(tP 20))]) (o1 22 (.box (tP 21)) (.bar (pm 6 22 .done))))))) (.seq (sR (o1 7 (.mv (kZ 0)) .done) (.block 0 (.loop (.seq (sR (om 23 7<|om 24 1<|ob 25 .lss (tP 23) (tP 24) .done) (.cond (tP 25) .skip (.exit 0))) (.seq (.block 1 (sR (om 28 6<|om 29 6<|o1 30 (.nilc (tP 29))<|oj 31 1 30<|ol 32 31<|o1 33 (.bsl 1 1 [(.int .i64 0)] [(0,(kZ (-1)))])<|o1 34 (.app 1 8 [(.int .i64 0)] (tP 32) (tP 33))<|o1 35 (.nilc (tP 28))<|oj 36 1 35<|o0 (.st 1 (tP 36) (tP 34)) .done) (rG (om 37 6<|om 38 6<|o1 39 (.nilc (tP 38))<|oj 40 5 39<|ol 41 40<|om 42 7<|o1 43 (.bsl 1 1 [(.int .i64 0)] [(0,(tP 42))])<|o1 44 (.app 1 8 [(.int .i64 0)] (tP 41) (tP 43))<|o1 45 (.nilc (tP 37))<|oj 46 5 45<|o0 (.st 1 (tP 46) (tP 44)) .done)))) (rG (om 26 7<|ob 27 .add (tP 26) (kZ 1)<|om 7 27 .done))))))) (sR (om 47 6<|om 4 47<|o1 5 (.mv (kZ 0)) .done) .ret)))))⟩
set_option maxRecDepth 4000 in
set_option maxHeartbeats 1000000 in
theorem Aag{P:Program}{f:FuncId} (hd:Jn P f=some Lp):Ux P f:=by
 intro d b
 refine AG hd (Aca rfl) ?_
 show gwp P _ _ _ _ _
 (refine Ad<|Ak rfl<|Ab rfl<|Aa<|Ah<|Ad<|Ab rfl<|AA rfl rfl<|Ae rfl<|AZ rfl (by omega)<|Af rfl<|Ab rfl<|Af rfl<|BS rfl rfl<|Aq rfl rfl<|Aa<|Ar rfl (by omega)<|Al<|Ah ?_)
 refine Br [] [] rfl ?_
 (refine Ak rfl<|Ab rfl<|Ab rfl<|Ab rfl ?_)
 refine Gz (α:=Nat) (β:=Nat×Nat) [(1,.int .i64 4),(14,.pointer (some ⟨b,0,none⟩))] (fun x=>[(20,.slice (some ⟨x,0,none⟩) 4 4)]) (fun _ _ L=>L=[]) (fun y=>[(16,.slice (some ⟨y.1,0,none⟩) 4 4),(18,.slice (some ⟨y.2,0,none⟩) 4 4)]) (fun _ _ L=>L=[]) [] [] rfl
  (fun _ _ _ _ _ q=>q) (fun _ _ _ _ _ q=>q) (fun _=>rfl) (fun _=>rfl) rfl ⟨rfl,rfl,trivial⟩ ?_ ?_ ?_
 ·refine Ob (n:=4) (c:=4) rfl rfl (Ach _) (by omega) (by omega) (fun b20 T20=>?_)
  (apply Aa)
  exact⟨_,rfl,b20,⟨rfl,trivial⟩,rfl⟩
 ·refine Gz (α:=Nat) (β:=Nat) [] (fun x=>[(16,.slice (some ⟨x,0,none⟩) 4 4)]) (fun _ _ L=>L=[]) (fun y=>[(18,.slice (some ⟨y,0,none⟩) 4 4)]) (fun _ _ L=>L=[]) [] [] rfl
   (fun _ _ _ _ _ q=>q) (fun _ _ _ _ _ q=>q) (fun _=>rfl) (fun _=>rfl) rfl trivial ?_ ?_ ?_
  ·refine Ob (n:=4) (c:=4) rfl rfl (Ach _) (by omega) (by omega) (fun b16 T16=>?_)
   (apply Aa)
   exact⟨_,rfl,b16,⟨rfl,trivial⟩,rfl⟩
  ·refine Ob (n:=4) (c:=4) rfl rfl (Ach _) (by omega) (by omega) (fun b18 T18=>?_)
   (apply Aa)
   exact⟨_,rfl,b18,⟨rfl,trivial⟩,rfl⟩
  ·rintro b16 b18 ρ2 d2 M1 M2 hl2 rfl rfl
   (apply Aa)
   exact⟨_,rfl,(b16,b18),⟨rfl,rfl,trivial⟩,rfl⟩
 ·rintro b20 ⟨b16,b18⟩ ρ2 d2 M1 M2 hl2 rfl rfl
  refine BI (cs:=[.pointer (some ⟨b,0,none⟩),.slice none 0 0,.slice (some ⟨b16,0,none⟩) 4 4,.slice (some ⟨b18,0,none⟩) 4 4,.slice (some ⟨b20,0,none⟩) 4 4,.slice none 0 0,.int .i64 0,.int .i64 0,.int .i64 0]) rfl ?_
  refine B9 d2 [emp,emp] (Vs.emp.trans Vs.emp) ?_
  refine Cc rfl (fun q T=>?_)
  (refine B4<|Ak rfl<|Aa<|Ah<|Ad<|Ab rfl<|Aa<|Ax ?_)
  refine CI (α:=Nat×Option Addr×Nat×Option Addr×Nat) (fun x=>[(1,.int .i64 4),(6,.pointer (some ⟨q,0,none⟩)),(7,.int .i64 x.1)])
   (fun x d' L'=>x.1≤4∧∃h1 h5 xs ys,[bx q T [.pointer (some ⟨b,0,none⟩),.slice x.2.1 x.1 x.2.2.1,.slice (some ⟨b16,0,none⟩) 4 4,.slice (some ⟨b18,0,none⟩) 4 4,.slice (some ⟨b20,0,none⟩) 4 4,.slice x.2.2.2.1 x.1 x.2.2.2.2,.int .i64 0,.int .i64 0,.int .i64 0],h1,h5].Sublist L'∧
    As 1 Bi d' (.slice x.2.1 x.1 x.2.2.1) xs h1∧As 1 Bi d' (.slice x.2.2.2.1 x.1 x.2.2.2.2) ys h5∧xs.length=x.1∧ys.length=x.1) (fun x=>4 - x.1) (0,none,0,none,0) ⟨rfl,rfl,rfl,trivial⟩ ⟨Adf _,emp,emp,[],[],Acb _,As.nil,As.nil,rfl,rfl⟩ ?_
  rintro⟨i,a1,c1,a5,c5⟩ ρ d' L' ⟨hi,h1,h5,xs,ys,hsub,r1,r5,x1,y1⟩
  simp only at hi hsub r1 r5 x1 y1⊢
  apply Ah;apply Ah;apply AE
  refine B9 d' _ (Vs.drop hsub) ?_
  by_cases e:i<4
  ·(refine Ab rfl<|Ab rfl<|AA rfl rfl<|Aa<|Ay rfl (by omega)<|Al<|Ah<|Ax<|Ad<|Ak rfl<|Ak rfl<|Av rfl<|Ai rfl<|Ag rfl (Aj 0 rfl rfl) ?_)
   refine Ea (v0:=.int .i64 (-1)) rfl rfl (fun b33 T33=>?_)
   refine D8 (R:=Bi) 1 rfl rfl r1 rfl (As.Es (R:=Bi) (x:= -1) rfl ⟨rfl,by omega,by omega⟩) Di (by omega) (by simp;omega) (by simp;omega) (fun v1 h1' o1=>?_)
   obtain⟨a1',c1',rfl⟩:=o1.val
   rw [Acl,x1] at o1⊢
   (refine Av rfl<|Ai rfl ?_)
   refine A0 0 [.pointer (some ⟨b,0,none⟩),.slice a1' (i+1) c1',.slice (some ⟨b16,0,none⟩) 4 4,.slice (some ⟨b18,0,none⟩) 4 4,.slice (some ⟨b20,0,none⟩) 4 4,.slice a5 i c5,.int .i64 0,.int .i64 0,.int .i64 0] rfl rfl rfl rfl (Aca rfl) rfl rfl ?_
   (refine Aa<|AE<|Ak rfl<|Ak rfl<|Av rfl<|Ai rfl<|Ag rfl (Aj 0 rfl rfl)<|Ab rfl ?_)
   refine Ea (v0:=.int .i64 i) rfl rfl (fun b43 T43=>?_)
   refine D8 (R:=Bi) 2 rfl rfl r5 rfl (As.Es (R:=Bi) (x:=(i:Int)) rfl ⟨rfl,by omega,by omega⟩) Di (by omega) (by simp;omega) (by simp;omega) (fun v5 h5' o5=>?_)
   obtain⟨a5',c5',rfl⟩:=o5.val
   rw [Acl,y1] at o5⊢
   (refine Av rfl<|Ai rfl ?_)
   refine A0 0 [.pointer (some ⟨b,0,none⟩),.slice a1' (i+1) c1',.slice (some ⟨b16,0,none⟩) 4 4,.slice (some ⟨b18,0,none⟩) 4 4,.slice (some ⟨b20,0,none⟩) 4 4,.slice a5' (i+1) c5',.int .i64 0,.int .i64 0,.int .i64 0] rfl rfl rfl rfl (Aca rfl) rfl rfl ?_
   (refine Aa<|AE<|Ab rfl<|AN rfl rfl (by omega) (by omega)<|Ab rfl<|Aa ?_)
   exact⟨(i+1,a1',c1',a5',c5'),by simp only;omega,⟨rfl,rfl,rfl,trivial⟩,e,h1',h5',_,_,Acb _,o1,o5,by rw [Acl,x1];rfl,by rw [Acl,y1];rfl⟩
  ·have:i=4:=by omega
   subst this
   (refine Ab rfl<|Ab rfl<|AA rfl rfl<|Aa<|Ar rfl (by omega)<|Bh<|Ad<|Ak rfl<|Ak rfl<|Ab rfl<|Aa<|Ao ?_)
   exact CF rfl rfl (Aef _) ⟨rfl,q,rfl⟩
def pdN(n:Nat):PD:=⟨2,Dt n [],fun _=>[],Acr (n+2) IF,0,0⟩
def M8(P:Program) (f:FuncId):Prop:=∀{d:Ac}{n:Nat},1≤n→n≤1000→Aw P f [.int .i64 n] d [] (Ret fun r d' L'=>∃b bd bp,r=.pointer (some ⟨b,0,none⟩)∧DC d' b 0 (.pointer (some ⟨bp,0,none⟩))∧Pg d' (pdN n) (.pointer (some ⟨bd,0,none⟩)) (.pointer (some ⟨bp,0,none⟩)) L')
def Ke(a0 a1 a2 a3 a4 a5:Nat):AY:=⟨75,[(.tmp 2)],(sR (o1 2 (.mv (.const (.pointer none))) .done) (sR (om 14 0<|ob 15 .add (tP 14) (kZ 2)<|oc 16 a0 [(tP 15)]<|om 13 16<|oe 17 13 0<|oe 18 13 1<|om 3 17<|om 4 18 .done) (sR (om 20 0<|ob 21 .add (tP 20) (kZ 2)<|oc 22 a1 [(tP 21)]<|om 19 22<|oe 23 19 0<|oe 24 19 1<|om 5 23<|om 6 24 .done) (.seq (sR (om 25 4<|ob 26 .neq (tP 25) (kZ 0)<|om 27 26<|gF 28 27 3<|oF 29 27 (.eqp false (tP 28) (.const (.pointer none)))<|o1 30 (.pick (tP 27) (.const (.bool true)) (tP 29))<|om 31 30<|gF 32 31 5<|oF 33 31 (.eqp false (tP 32) (.const (.pointer none)))<|o1 34 (.pick (tP 31) (.const (.bool true)) (tP 33)) .done) (.cond (tP 34) (sR (o1 2 (.mv (.const (.pointer none))) .done) .ret) .skip)) (sR (om 36 3<|oc 37 a2 [(tP 36),(kZ 4)]<|om 35 37<|oe 38 35 0<|oe 39 35 1<|om 7 38<|om 4 39 .done) (sR (om 41 5<|oc 42 a3 [(tP 41),(kZ 4)]<|om 40 42<|oe 43 40 0<|oe 44 40 1<|om 8 43<|om 9 44 .done) (.seq (sR (om 45 4<|ob 46 .neq (tP 45) (kZ 0)<|om 47 46<|gF 48 47 7<|oF 49 47 (.eqp false (tP 48) (.const (.pointer none)))<|o1 50 (.pick (tP 47) (.const (.bool true)) (tP 49)) .done) (.cond (tP 50) (sR (o1 2 (.mv (.const (.pointer none))) .done) .ret) .skip)) (sR (om 52 3<|om 53 7<|om 54 0<|oc 55 a4 [(tP 52),(tP 53),(kZ 2),(tP 54),nS]<|om 51 55<|oe 56 51 0<|oe 57 51 1<|om 10 56<|om 4 57 .done) (sR (om 59 5<|om 60 8<|om 61 0<|oc 62 a5 [(tP 59),(tP 60),(kZ 2),(tP 61),nS]<|om 58 62<|oe 63 58 0<|oe 64 58 1<|om 11 63<|om 12 64 .done) (.seq (sR (om 65 4<|ob 66 .neq (tP 65) (kZ 0)<|om 67 66<|gF 68 67 10<|oF 69 67 (.eqp false (tP 68) (.const (.pointer none)))<|o1 70 (.pick (tP 67) (.const (.bool true)) (tP 69)) .done) (.cond (tP 70) (sR (o1 2 (.mv (.const (.pointer none))) .done) .ret) .skip)) (sR (om 71 10<|om 72 11<|o1 73 (.bld [(0,1),(1,1)] [(.pointer none),(.pointer none)] [(0,(tP 71)),(1,(tP 72))])<|o1 74 (.box (tP 73))<|om 2 74 .done) .ret)))))))))))⟩
set_option maxRecDepth 4000 in
set_option maxHeartbeats 1000000 in
theorem VG{P:Program}{f f1 f2 f3 f4 f5 f6:FuncId} (hd:dec P f=some (Ke f1 f2 f3 f4 f5 f6)) (h1:MT P f1) (h2:Uh P f2) (h3:JN P f3) (h4:Ux P f4) (h5:R4 P f5) (h6:Uf P f6):M8 P f:=by
 intro d n hn1 hn2
 refine AG hd (Aca rfl) ?_
 show gwp P _ _ _ _ _
 (refine Ad<|Ak rfl<|Aa<|Ad<|Ab rfl<|AN rfl rfl (by omega) (by omega) ?_)
 refine CP (h1 (n:=n+2) (by omega) (by omega)) rfl (fun u d1 L1 hl1 ⟨dv,e1,e2,e3⟩=>?_)
 subst e1;subst e2
 obtain⟨bd,rfl⟩:∃b,dv=.pointer (some ⟨b,0,none⟩):=let ⟨b,_,_,_,_,_,_,h,_⟩:=e3;⟨b,h⟩
 (refine AU rfl<|Ap rfl rfl<|Ap rfl rfl<|Ak rfl<|Ab rfl<|Aa<|Ad<|Ab rfl<|AN rfl rfl (by omega) (by omega) ?_)
 refine DD (A:=[]) (B:=L1) rfl rfl (h2 (n:=n+2) (by omega) (by omega)) (fun u d2 L2 hl2 ⟨q1,br,ar,cr,q2,q3⟩=>?_)
 subst q1;subst q2
 rw [Adt]
 (refine AU rfl<|Ap rfl rfl<|Ap rfl rfl<|Ak rfl<|Ab rfl<|Aa<|Ah<|Ad<|Ab rfl<|AO rfl rfl<|Ae rfl<|AZ rfl (by omega)<|Af rfl<|Ak rfl<|Af rfl<|Cu rfl rfl<|Aq rfl rfl<|Ae rfl<|Af rfl<|Ak rfl<|Af rfl<|Cu rfl rfl<|Aq rfl rfl<|Aa<|AR rfl<|Al<|Ad<|Ak rfl ?_)
 refine CP (h3 (n:=4) (e3.mono hl2) (show 1≤(Acr (n+2) IF).length by rw [Adn];omega) (by omega) (by omega)) rfl (fun u d3 L3 _ ⟨q4,cv,LC,q5,q6,q7⟩=>?_)
 subst q4;subst q5;subst q6
 obtain⟨bc,rfl⟩:∃b,cv=.pointer (some ⟨b,0,none⟩):=let ⟨b,_,_,_,_,_,_,_,_,h,_⟩:=q7;⟨b,h⟩
 (refine AU rfl<|Ap rfl rfl<|Ap rfl rfl<|Ak rfl<|Ab rfl<|Aa<|Ad<|Ak rfl ?_)
 refine DD (A:=[]) (B:=LC++L1) rfl rfl (h4 (b:=br)) (fun u d4 L4 hl4 ⟨p1,bq,p2⟩=>?_)
 subst p1;subst p2
 rw [Adt]
 (refine AU rfl<|Ap rfl rfl<|Ap rfl rfl<|Ak rfl<|Ab rfl<|Aa<|Ah<|Ad<|Ab rfl<|AO rfl rfl<|Ae rfl<|AZ rfl (by omega)<|Af rfl<|Ak rfl<|Af rfl<|Cu rfl rfl<|Aq rfl rfl<|Aa<|AR rfl<|Al<|Ad<|Ak rfl<|Ak rfl<|Ab rfl ?_)
 refine CP (h5 (frm:=2) (n:=n) (m:=4) (live:=[]) ((e3.mono hl2).mono hl4) (q7.mono hl4) (by omega) (by omega) (by omega) (by rw [Adn];omega) (by rw [Adn];omega) Agq (fun k hk=>(by cases hk)) (RSl.nil:Dz d4 (.slice none 0 0) [])) rfl (fun u d5 L5 hl5 ⟨pv,g1,g2,g3⟩=>?_)
 subst g1
 obtain⟨bp,rfl⟩:=g3.ptr
 (refine AU rfl<|Ap rfl rfl<|Ap rfl rfl<|Ak rfl<|Ab rfl<|Aa<|Ad<|Ak rfl<|Ak rfl<|Ab rfl ?_)
 refine DD (A:=[]) (B:=L5) rfl rfl (h6 (n:=n) (b:=br) (q:=bq) ((q3.mono hl4).mono hl5) hn1 (by omega)) (fun u d6 L6 hl6 ⟨p1,xv,p2⟩=>?_)
 subst p1;subst p2
 rw [Adt]
 (refine AU rfl<|Ap rfl rfl<|Ap rfl rfl<|Ak rfl<|Ab rfl<|Aa<|Ah<|Ad<|Ab rfl<|AO rfl rfl<|Ae rfl<|AZ rfl (by omega)<|Af rfl<|Ak rfl<|Af rfl<|Cu rfl rfl<|Aq rfl rfl<|Aa<|AR rfl<|Al<|Ad<|Ak rfl<|Ak rfl<|BI rfl<|Cc rfl (fun _ _=>Ak rfl<|Aa<|Ao ?_))
 rename_i bm Tm
 exact A7 [.pointer (some ⟨bm,0,none⟩)] ⟨rfl,trivial⟩ (d':=join d6 (bx bm Tm [.pointer (some ⟨bp,0,none⟩),.pointer (some ⟨xv,0,none⟩)])) (L':=L5) Vs.freeze ⟨bm,bd,bp,rfl,(Le.dcs (Le.A9 _ _)).at (i:=0) rfl,(g3.mono hl6).mono (Le.AI _ _)⟩
end Go.Gk.Chn
end
section
namespace Go.Gk.Tre
open Go Go.Gk Go.Gk.Dev Go.Gk.Cch Go.Gk.Pgr Go.Gk.Chn Go.Gk.Node
attribute [local irreducible] gwp gws xwp
def MZ(P:Program) (f:FuncId):Prop:=∀{d:Ac}{w:Value}{key:List UInt8},AM d w key→CT P f [w] d (.int .i64 (BL key))
def Js:AY:=⟨11,[(.tmp 2)],(sR (o1 2 (.mv (kZ 0)) .done) (.seq (sR (om 3 0<|oL 4 3<|ob 5 .lss (tP 4) (kZ 1)<|om 6 5<|gF 7 6 0<|oF 8 6 (.len (tP 7))<|oF 9 6 (.bin .gtr (tP 8) (kZ 64))<|o1 10 (.pick (tP 6) (.const (.bool true)) (tP 9)) .done) (.cond (tP 10) (sR (o1 2 (.mv (kZ 2)) .done) .ret) .skip)) (sR (o1 2 (.mv (kZ 0)) .done) .ret)))⟩
theorem WR{P:Program}{f:FuncId} (hd:dec P f=some Js):MZ P f:=by
 intro d w key hw
 have hwl:=hw.BW
 obtain⟨a,c,rfl⟩:=hw.val
 refine AG hd (Aca rfl) ?_
 show gwp P _ _ _ _ _
 by_cases e1:key.length<1
 ·have hF:BL key=2:=by unfold BL;rw [if_pos (.inl e1)]
  rw [hF]
  (refine Ad<|Ab rfl<|Aa<|Ah<|Ad<|Am rfl<|AL rfl<|AA rfl rfl<|Ae rfl<|Bd rfl (by omega)<|An rfl<|An rfl<|An rfl<|AB rfl rfl<|Aa<|Be rfl<|Ad<|Ab rfl<|Aa<|Ao ?_)
  exact BG rfl (Acb _) ⟨rfl,rfl,rfl⟩
 ·by_cases e2:64<key.length
  ·have hF:BL key=2:=by unfold BL;rw [if_pos (.inr e2)]
   rw [hF]
   (refine Ad<|Ab rfl<|Aa<|Ah<|Ad<|Am rfl<|AL rfl<|AA rfl rfl<|Ae rfl<|AZ rfl (by omega)<|Af rfl<|Am rfl<|Af rfl<|AL rfl<|Af rfl<|BS rfl rfl<|Aq rfl rfl<|Aa<|Ay rfl (by omega)<|Ad<|Ab rfl<|Aa<|Ao ?_)
   exact BG rfl (Acb _) ⟨rfl,rfl,rfl⟩
  ·have hF:BL key=0:=by unfold BL;rw [if_neg (by omega)]
   rw [hF]
   (refine Ad<|Ab rfl<|Aa<|Ah<|Ad<|Am rfl<|AL rfl<|AA rfl rfl<|Ae rfl<|AZ rfl (by omega)<|Af rfl<|Am rfl<|Af rfl<|AL rfl<|Af rfl<|BS rfl rfl<|Aq rfl rfl<|Aa<|Ar rfl (by omega)<|Al<|Ad<|Ab rfl<|Aa<|Ao ?_)
   exact BG rfl (Acb _) ⟨rfl,rfl,rfl⟩
def Mc(P:Program) (f:FuncId):Prop:=∀{d:Ac}{w:Value}{b:List UInt8}{n:Nat},AM d w b→n≤1000000→Aw P f [w,.int .i64 n] d [] (Ret fun v d' L'=>L'=[]∧d'=d∧AM d v (b.take n))
def Ju:AY:=⟨13,[(.tmp 4)],(sR (o1 4 (.mv nS) .done) (.seq (sR (om 5 0<|oL 6 5<|om 7 1<|ob 8 .gtr (tP 6) (tP 7) .done) (.cond (tP 8) (sR (om 9 0<|om 10 1<|o1 11 (.sl 1 (tP 9) none (some (tP 10)) none)<|om 4 11 .done) .ret) .skip)) (sR (om 12 0<|om 4 12 .done) .ret)))⟩
theorem Yc{P:Program}{f:FuncId} (hd:dec P f=some Ju):Mc P f:=by
 intro d w b n hw hn
 have hwl:=hw.BW
 obtain⟨a,c,rfl⟩:=hw.val
 refine AG hd (Aca rfl) ?_
 show gwp P _ _ _ _ _
 by_cases e1:n<b.length
 ·(refine Ad<|Am rfl<|Aa<|Ah<|Ad<|Am rfl<|AL rfl<|Ab rfl<|BS rfl rfl<|Aa<|Ay rfl (by omega)<|Ad<|Am rfl<|Ab rfl ?_)
  refine Ol (n:=n) rfl hw rfl rfl (by omega) (fun v11 r11=>?_)
  obtain⟨a1,c1,rfl⟩:=r11.val
  (refine Am rfl<|Aa<|Ao ?_)
  exact BG rfl (Acb _) ⟨rfl,rfl,r11⟩
 ·rw [Aec (by omega)]
  (refine Ad<|Am rfl<|Aa<|Ah<|Ad<|Am rfl<|AL rfl<|Ab rfl<|BS rfl rfl<|Aa<|Ar rfl (by omega)<|Al<|Ad<|Am rfl<|Am rfl<|Aa<|Ao ?_)
  exact BG rfl (Acb _) ⟨rfl,rfl,hw⟩
def Ir(P:Program) (f:FuncId):Prop:=∀{d:Ac}{n:Nat},1≤n→n≤1000→Aw P f [.int .i64 n] d [] (Ret fun r d' L'=>∃bt Tt bd bp L2,r=.tuple #[.pointer (some ⟨bp,0,none⟩),.pointer (some ⟨bt,0,none⟩)]∧L'=tb bt Tt (.pointer (some ⟨bp,0,none⟩)) (-1) 0 0::L2∧Pg d' (pdN n) (.pointer (some ⟨bd,0,none⟩)) (.pointer (some ⟨bp,0,none⟩)) L2)
def IN(a0 a1:Nat):AY:=⟨26,[(.tmp 2),(.tmp 3)],(sR (o1 2 (.mv (.const (.pointer none)))<|o1 3 (.mv (.const (.pointer none))) .done) (sR (om 7 0<|oc 8 a0 [(tP 7)]<|om 4 8 .done) (.seq (sR (om 9 4<|o1 10 (.eqp false (tP 9) (.const (.pointer none))) .done) (.cond (tP 10) (sR (o1 2 (.mv (.const (.pointer none)))<|o1 3 (.mv (.const (.pointer none))) .done) .ret) .skip)) (sR (om 12 4<|o1 13 (.nilc (tP 12))<|oj 14 0 13<|ol 15 14<|oc 16 a1 [(tP 15)]<|om 11 16<|oe 17 11 0<|oe 18 11 1<|om 5 17<|om 6 18 .done) (.seq (sR (om 19 6<|ob 20 .neq (tP 19) (kZ 0) .done) (.cond (tP 20) (sR (o1 2 (.mv (.const (.pointer none)))<|o1 3 (.mv (.const (.pointer none))) .done) .ret) .skip)) (sR (om 21 4<|o1 22 (.nilc (tP 21))<|oj 23 0 22<|ol 24 23<|om 25 5<|om 2 24<|om 3 25 .done) .ret))))))⟩
theorem Ui{P:Program}{f f1 f2:FuncId} (hd:dec P f=some (IN f1 f2)) (h1:M8 P f1) (h2:SA P f2):Ir P f:=by
 intro d n hn1 hn2
 refine AG hd (Aca rfl) ?_
 show gwp P _ _ _ _ _
 (refine Ad<|Ak rfl<|Ak rfl<|Aa<|Ad<|Ab rfl ?_)
 refine CP (h1 (n:=n) hn1 hn2) rfl (fun u d1 L1 hl1 ⟨b,bd,bp,e1,e2,e3⟩=>?_)
 subst e1
 (refine Ak rfl<|Aa<|Ah<|Ad<|Ak rfl<|Cu rfl rfl<|Aa<|AR rfl<|Al<|Ad<|Ak rfl<|Av rfl<|Ai rfl<|Ag rfl (BF (by assumption)) ?_)
 refine CP (h2 e3) rfl (fun u d2 L2 hl2 ⟨_,bt,Tt,e4,e5⟩=>?_)
 subst e4;subst e5
 have e2':=e2.mono hl2
 (refine AU rfl<|Ap rfl rfl<|Ap rfl rfl<|Ak rfl<|Ab rfl<|Aa<|Ah<|Ad<|Ab rfl<|AO rfl rfl<|Aa<|Ar rfl (by omega)<|Al<|Ad<|Ak rfl<|Av rfl<|Ai rfl<|Ag rfl (BF (by assumption))<|Ak rfl<|Ak rfl<|Ak rfl<|Aa<|Ao ?_)
 exact A7 [.pointer (some ⟨bp,0,none⟩),.pointer (some ⟨bt,0,none⟩)] ⟨Au rfl,Au rfl,trivial⟩ (Vs.refl _ _) ⟨bt,Tt,bd,bp,_,rfl,rfl,e3.mono hl2⟩
abbrev KV:=List UInt8×List UInt8
def RKv(_:Ac) (cs:List Value) (x:KV):Prop:=cs=[Bs x.1,Bs x.2]∧x.1.length≤140737488355328∧x.2.length≤140737488355328
theorem Ef:F7 RKv:=fun _ h=>h
def Bo:List KV→List UInt8→Nat
 |[],_=>0
 |x::l,key=>if Op.bytesLess x.1 key=true then Bo l key+1 else 0
def IZ(P:Program) (f:FuncId):Prop:=∀{d:Ac}{w:Value}{l:List KV}{key:List UInt8},RSl 2 RKv d w l→key.length≤140737488355328→CT P f [w,Bs key] d (.int .i64 (Bo l key:Nat))
def Kc:AY:=⟨22,[(.tmp 4)],(sR (o1 4 (.mv (kZ 0)) .done) (sR (o1 5 (.mv (kZ 0)) .done) (.seq (.block 0 (.loop (.seq (sR (om 6 5<|om 7 0<|oL 8 7<|ob 9 .lss (tP 6) (tP 8)<|om 10 9<|gT 11 10 0<|gT 12 10 5<|oT 13 10 (.idx 2 (tP 11) (tP 12))<|oT 14 10 (.fld 0 (tP 13))<|oT 15 10 (.ld none (tP 14))<|gT 16 10 1<|oT 17 10 (.bin .lss (tP 15) (tP 16))<|gP 18 10 17 .done) (.cond (tP 18) .skip (.exit 0))) (.block 1 (rG (om 19 5<|ob 20 .add (tP 19) (kZ 1)<|om 5 20 .done)))))) (sR (om 21 5<|om 4 21 .done) .ret))))⟩
theorem SC{P:Program}{f:FuncId} (hd:dec P f=some Kc):IZ P f:=by
 intro d w l key hw hk
 have hwl:=hw.BW
 obtain⟨a,c,rfl⟩:=hw.val
 refine AG hd (Aca rfl) ?_
 show gwp P _ _ _ _ _
 (refine Ad<|Ab rfl<|Aa<|Ad<|Ab rfl<|Aa<|Ah<|Ax ?_)
 refine CI (α:=Nat) (fun x=>[(0,.slice a l.length c),(1,Bs key),(5,.int .i64 x)]) (fun x d' L'=>d'=d∧L'=[]∧x≤l.length∧Bo l key=x+Bo (l.drop x) key) (fun x=>l.length - x) 0 ⟨rfl,rfl,rfl,trivial⟩ ⟨rfl,rfl,Adf _,by simp⟩ ?_
 rintro i ρ d' L' ⟨rfl,rfl,hi,hf⟩
 simp only at hi hf⊢
 by_cases e:i<l.length
 ·rw [Adi e,Bo] at hf
  (refine Ah<|Ad<|Ab rfl<|Am rfl<|AL rfl<|AA rfl rfl<|Ae rfl<|Bd rfl (by omega)<|Af rfl<|Am rfl<|Af rfl<|Ab rfl<|Af rfl ?_)
  refine BH (m:=i) rfl hw rfl rfl e (fun b o cs hcl hdc ⟨q,q1,q2⟩=>?_)
  subst q
  by_cases e2:Op.bytesLess l[i].1 key=true
  ·rw [if_pos e2] at hf
   (refine Af rfl<|Ai rfl<|Af rfl<|Ag rfl (Eb (by assumption) rfl)<|Af rfl<|DS rfl<|Af rfl<|Fg rfl rfl<|AB rfl rfl<|Aa ?_;apply WU;rfl;(with_reducible assumption);refine Al<|Ax<|AE<|Ab rfl<|AN rfl rfl (by omega) (by omega)<|Ab rfl<|Aa ?_)
   exact⟨i+1,by omega,⟨rfl,rfl,rfl,trivial⟩,rfl,rfl,e,by omega⟩
  ·rw [if_neg e2,Nat.add_zero] at hf
   (refine Af rfl<|Ai rfl<|Af rfl<|Ag rfl (Eb (by assumption) rfl)<|Af rfl<|DS rfl<|Af rfl<|Fg rfl rfl<|AB rfl rfl<|Aa ?_)
   show gwp P _ _ _ _ _
   first|refine Hq rfl (fun h9=>?_) (fun h9=>?_)|refine JR rfl (fun h9=>?_) (fun h9=>?_)
   ·exact absurd h9 e2
   ·clear h9 e2
    rw [hf]
    (refine Bh<|Ad<|Ab rfl<|Ab rfl<|Aa<|Ao ?_)
    exact BG rfl (Acb _) ⟨rfl,rfl,rfl⟩
 ·have:i=l.length:=by omega
  subst this
  rw [Afv,Bo] at hf
  rw [hf]
  (refine Ah<|Ad<|Ab rfl<|Am rfl<|AL rfl<|AA rfl rfl<|Ae rfl<|AZ rfl (by omega)<|An rfl<|An rfl<|An rfl<|An rfl<|An rfl<|An rfl<|An rfl<|Aq rfl rfl<|Aa<|AR rfl<|Bh<|Ad<|Ab rfl<|Ab rfl<|Aa<|Ao ?_)
  exact BG rfl (Acb _) ⟨rfl,rfl,rfl⟩
theorem Jv:Fy RKv:=fun _ _ _ h=>by obtain⟨rfl,_⟩:=h;rfl
def isK(l:List KV) (key:List UInt8):Bool:=decide (Bo l key<l.length)&& decide ((l.getD (Bo l key) ([],[])).1=key)
def DP(l:List KV) (key:List UInt8):List UInt8×Bool:=if isK l key=true then((l.getD (Bo l key) ([],[])).2,true) else([],false)
def B8(l:List KV) (key:List UInt8):List KV×Bool:=if isK l key=true then(l.take (Bo l key)++l.drop (Bo l key+1),true) else(l,false)
theorem F9:∀(l:List KV) (key:List UInt8),Bo l key≤l.length
 |[],_=>Ach _
 |x::l,key=>by
  rw [Bo,Acs]
  have:=F9 l key
  by_cases h:Op.bytesLess x.1 key=true
  ·rw [if_pos h];omega
  ·rw [if_neg h];omega
def OP(P:Program) (f:FuncId):Prop:=∀{d:Ac}{w:Value}{l:List KV}{key:List UInt8},RSl 2 RKv d w l→key.length≤140737488355328→CT P f [w,Bs key] d (.tuple #[Bs (DP l key).1,.bool (DP l key).2])
def K6(a0:Nat):AY:=⟨28,[(.tmp 4),(.tmp 5)],(sR (o1 4 (.mv (.const (Bs [])))<|o1 5 (.mv (.const (.bool false))) .done) (sR (om 7 0<|om 8 1<|oc 9 a0 [(tP 7),(tP 8)]<|om 6 9 .done) (.seq (sR (om 10 6<|om 11 0<|oL 12 11<|ob 13 .lss (tP 10) (tP 12)<|om 14 13<|gT 15 14 0<|gT 16 14 6<|oT 17 14 (.idx 2 (tP 15) (tP 16))<|oT 18 14 (.fld 0 (tP 17))<|oT 19 14 (.ld none (tP 18))<|gT 20 14 1<|oT 21 14 (.bin .eql (tP 19) (tP 20))<|gP 22 14 21 .done) (.cond (tP 22) (sR (om 23 0<|om 24 6<|oI 25 2 23 24<|oj 26 1 25<|ol 27 26<|om 4 27<|o1 5 (.mv (.const (.bool true))) .done) .ret) .skip)) (sR (o1 4 (.mv (.const (Bs [])))<|o1 5 (.mv (.const (.bool false))) .done) .ret))))⟩
theorem XX{P:Program}{f f1:FuncId} (hd:dec P f=some (K6 f1)) (h1:IZ P f1):OP P f:=by
 intro d w l key hw hk
 have hwl:=hw.BW
 have hc:=h1 hw hk
 have hfl:=F9 l key
 obtain⟨i,hi⟩:∃i,Bo l key=i:=⟨_,rfl⟩
 rw [hi] at hc hfl
 have hIs:isK l key=(decide (i<l.length)&& decide ((l.getD i ([],[])).1=key)):=by unfold isK;rw [hi]
 have hG:DP l key=if isK l key=true then((l.getD i ([],[])).2,true) else([],false):=by unfold DP;rw [hi]
 rw [hG,hIs]
 clear hG hIs hi
 obtain⟨a,c,rfl⟩:=hw.val
 refine AG hd (Aca rfl) ?_
 show gwp P _ _ _ _ _
 (refine Ad<|DS rfl<|Ae rfl<|Aa<|Ad<|Am rfl<|DS rfl ?_)
 refine BR rfl hc ?_
 by_cases e:i<l.length
 ·have hgd:l.getD i ([],[])=l[i]:=by rw [Acf,Ace e];rfl
  rw [hgd]
  by_cases e2:l[i].1=key
  ·rw [if_pos (by simp [e,e2])]
   (refine Ab rfl<|Aa<|Ah<|Ad<|Ab rfl<|Am rfl<|AL rfl<|AA rfl rfl<|Ae rfl<|Bd rfl (by omega)<|Af rfl<|Am rfl<|Af rfl<|Ab rfl<|Af rfl ?_)
   refine BH (m:=i) rfl hw rfl rfl e (fun b o cs hcl hdc ⟨q,q1,q2⟩=>?_)
   subst q
   (refine Af rfl<|Ai rfl<|Af rfl<|Ag rfl (Eb (by assumption) rfl)<|Af rfl<|DS rfl<|Af rfl<|Qz rfl rfl<|AB rfl rfl<|Aa<|Ay rfl (by omega)<|Ad<|Am rfl<|Ab rfl ?_)
   refine BH (m:=i) rfl hw rfl rfl e (fun b o cs hcl hdc ⟨q,q1,q2⟩=>?_)
   subst q
   (refine Ai rfl<|Ag rfl (Eb (by assumption) rfl)<|DS rfl<|Ae rfl<|Aa<|Ao ?_)
   exact A7 [Bs l[i].2,.bool true] ⟨Au rfl,Au rfl,trivial⟩ (Vs.refl _ _) ⟨rfl,rfl,rfl⟩
  ·rw [if_neg (by simp [e2])]
   (refine Ab rfl<|Aa<|Ah<|Ad<|Ab rfl<|Am rfl<|AL rfl<|AA rfl rfl<|Ae rfl<|Bd rfl (by omega)<|Af rfl<|Am rfl<|Af rfl<|Ab rfl<|Af rfl ?_)
   refine BH (m:=i) rfl hw rfl rfl e (fun b o cs hcl hdc ⟨q,q1,q2⟩=>?_)
   subst q
   (refine Af rfl<|Ai rfl<|Af rfl<|Ag rfl (Eb (by assumption) rfl)<|Af rfl<|DS rfl<|Af rfl<|Qz rfl rfl<|AB rfl rfl<|Aa<|Ar rfl (by omega)<|Al<|Ad<|DS rfl<|Ae rfl<|Aa<|Ao ?_)
   exact A7 [Bs [],.bool false] ⟨Au rfl,Au rfl,trivial⟩ (Vs.refl _ _) ⟨rfl,rfl,rfl⟩
 ·rw [if_neg (by simp [e])]
  (refine Ab rfl<|Aa<|Ah<|Ad<|Ab rfl<|Am rfl<|AL rfl<|AA rfl rfl<|Ae rfl<|AZ rfl (by omega)<|An rfl<|An rfl<|An rfl<|An rfl<|An rfl<|An rfl<|An rfl<|Aq rfl rfl<|Aa<|AR rfl<|Al<|Ad<|DS rfl<|Ae rfl<|Aa<|Ao ?_)
  exact A7 [Bs [],.bool false] ⟨Au rfl,Au rfl,trivial⟩ (Vs.refl _ _) ⟨rfl,rfl,rfl⟩
def LK(P:Program) (f:FuncId):Prop:=∀{d:Ac}{w:Value}{l:List KV}{key:List UInt8},RSl 2 RKv d w l→key.length≤140737488355328→l.length≤1000000→
 Aw P f [w,Bs key] d [] (Ret fun v d' L'=>L'=[]∧Le d d'∧∃u,v=.tuple #[u,.bool (B8 l key).2]∧RSl 2 RKv d' u (B8 l key).1)
def KA(a0:Nat):AY:=⟨34,[(.tmp 4),(.tmp 5)],(sR (o1 4 (.mv nS)<|o1 5 (.mv (.const (.bool false))) .done) (sR (om 7 0<|om 8 1<|oc 9 a0 [(tP 7),(tP 8)]<|om 6 9 .done) (.seq (sR (om 10 6<|om 11 0<|oL 12 11<|ob 13 .eql (tP 10) (tP 12)<|om 14 13<|gF 15 14 0<|gF 16 14 6<|oF 17 14 (.idx 2 (tP 15) (tP 16))<|oF 18 14 (.fld 0 (tP 17))<|oF 19 14 (.ld none (tP 18))<|gF 20 14 1<|oF 21 14 (.bin .neq (tP 19) (tP 20))<|o1 22 (.pick (tP 14) (.const (.bool true)) (tP 21)) .done) (.cond (tP 22) (sR (om 23 0<|om 4 23<|o1 5 (.mv (.const (.bool false))) .done) .ret) .skip)) (.seq (.reg true (pm 25 0<|pm 26 6<|p1 27 (.sl 2 (tP 25) none (some (tP 26)) none)<|pm 29 0<|pm 30 6<|p1 31 (.bin .add (tP 30) (kZ 1))<|p1 32 (.sl 2 (tP 29) (some (tP 31)) none none)<|o1 24 (.bsl 0 2 [(Bs []),(Bs [])] [])<|o1 28 (.app 2 32 [(Bs []),(Bs [])] (tP 24) (tP 27))<|o1 33 (.app 2 32 [(Bs []),(Bs [])] (tP 28) (tP 32)) (.bar (pm 4 33 (p1 5 (.mv (.const (.bool true))) .done))))) .ret))))⟩
theorem Xq{P:Program}{f f1:FuncId} (hd:dec P f=some (KA f1)) (h1:IZ P f1):LK P f:=by
 intro d w l key hw hk hln
 have hwl:=hw.BW
 have hc:=h1 hw hk
 have hfl:=F9 l key
 obtain⟨i,hi⟩:∃i,Bo l key=i:=⟨_,rfl⟩
 rw [hi] at hc hfl
 have hIs:isK l key=(decide (i<l.length)&& decide ((l.getD i ([],[])).1=key)):=by unfold isK;rw [hi]
 have hG:B8 l key=if isK l key=true then(l.take i++l.drop (i+1),true) else(l,false):=by unfold B8;rw [hi]
 rw [hG,hIs]
 clear hG hIs hi
 obtain⟨a,c,rfl⟩:=hw.val
 refine AG hd (Aca rfl) ?_
 show gwp P _ _ _ _ _
 (refine Ad<|Am rfl<|Ae rfl<|Aa<|Ad<|Am rfl<|DS rfl ?_)
 refine BR rfl hc ?_
 by_cases e:i<l.length
 ·have hgd:l.getD i ([],[])=l[i]:=by rw [Acf,Ace e];rfl
  rw [hgd]
  by_cases e2:l[i].1=key
  ·rw [if_pos (by simp [e,e2])]
   (refine Ab rfl<|Aa<|Ah<|Ad<|Ab rfl<|Am rfl<|AL rfl<|AJ rfl rfl<|Ae rfl<|AZ rfl (by omega)<|Af rfl<|Am rfl<|Af rfl<|Ab rfl<|Af rfl ?_)
   refine BH (m:=i) rfl hw rfl rfl e (fun b o cs hcl hdc ⟨q,q1,q2⟩=>?_)
   subst q
   (refine Af rfl<|Ai rfl<|Af rfl<|Ag rfl (Eb (by assumption) rfl)<|Af rfl<|DS rfl<|Af rfl<|LS rfl rfl<|Aq rfl rfl<|Aa ?_)
   show gwp P _ _ _ _ _
   first|refine Hq rfl (fun h9=>?_) (fun h9=>?_)|refine JR rfl (fun h9=>?_) (fun h9=>?_)
   ·exact absurd e2 h9
   ·clear h9
    (refine Al<|Ah ?_)
    refine Bv ?_
    (refine Am rfl<|Ab rfl ?_)
    refine Ol (n:=i) rfl hw rfl rfl (by omega) (fun v27 r27=>?_)
    (refine Am rfl<|Ab rfl<|AN rfl rfl (by omega) (by omega) ?_)
    refine ED (n:=i+1) rfl hw rfl rfl (by omega) (fun v32 r32=>?_)
    refine Aay (R:=RKv) (xs:=l.take i) (ys:=l.drop (i+1)) Ef Jv (by omega) rfl r27 r32 (fun _=>rfl) (fun _ _=>rfl) (by simp;omega) (by simp;omega) (fun v0 v1 a c d3 hl3 hr3=>?_)
    (refine B4<|Am rfl<|Ae rfl<|Aa<|Ao ?_)
    exact A7 [.slice a (l.take i++l.drop (i+1)).length c,.bool true] ⟨Au rfl,Au rfl,trivial⟩ (Vs.refl _ _) ⟨rfl,hl3,_,rfl,hr3⟩
  ·rw [if_neg (by simp [e2])]
   (refine Ab rfl<|Aa<|Ah<|Ad<|Ab rfl<|Am rfl<|AL rfl<|AJ rfl rfl<|Ae rfl<|AZ rfl (by omega)<|Af rfl<|Am rfl<|Af rfl<|Ab rfl<|Af rfl ?_)
   refine BH (m:=i) rfl hw rfl rfl e (fun b o cs hcl hdc ⟨q,q1,q2⟩=>?_)
   subst q
   (refine Af rfl<|Ai rfl<|Af rfl<|Ag rfl (Eb (by assumption) rfl)<|Af rfl<|DS rfl<|Af rfl<|LS rfl rfl<|Aq rfl rfl<|Aa<|Ay rfl (by omega)<|Ad<|Am rfl<|Am rfl<|Ae rfl<|Aa<|Ao ?_)
   exact A7 [.slice a l.length c,.bool false] ⟨Au rfl,Au rfl,trivial⟩ (Vs.refl _ _) ⟨rfl,Le.refl _,_,rfl,hw⟩
 ·rw [if_neg (by simp [e])]
  (refine Ab rfl<|Aa<|Ah<|Ad<|Ab rfl<|Am rfl<|AL rfl<|AJ rfl rfl<|Ae rfl<|Bd rfl (by omega)<|An rfl<|An rfl<|An rfl<|An rfl<|An rfl<|An rfl<|An rfl<|AB rfl rfl<|Aa<|Be rfl<|Ad<|Am rfl<|Am rfl<|Ae rfl<|Aa<|Ao ?_)
  exact A7 [.slice a l.length c,.bool false] ⟨Au rfl,Au rfl,trivial⟩ (Vs.refl _ _) ⟨rfl,Le.refl _,_,rfl,hw⟩
def D5(l:List KV) (key v:List UInt8):List KV:=(B8 l key).1.take (Bo (B8 l key).1 key)++[(key,v)]++(B8 l key).1.drop (Bo (B8 l key).1 key)
theorem Tv(l:List KV) (key:List UInt8):(B8 l key).1.length≤l.length:=by
 unfold B8
 by_cases h:isK l key=true
 ·rw [if_pos h];simp only [Acl,Acw,Aco];omega
 ·rw [if_neg h];exact Ach _
def O9(P:Program) (f:FuncId):Prop:=∀{d:Ac}{w:Value}{l:List KV}{key v:List UInt8},RSl 2 RKv d w l→key.length≤140737488355328→v.length≤140737488355328→l.length≤1000000→
 Aw P f [w,Bs key,Bs v] d [] (Ret fun r d' L'=>L'=[]∧Le d d'∧RSl 2 RKv d' r (D5 l key v))
def Ko(a0 a1:Nat):AY:=⟨31,[(.tmp 6)],(sR (o1 6 (.mv nS) .done) (sR (om 9 0<|om 10 1<|oc 11 a0 [(tP 9),(tP 10)]<|om 8 11<|oe 12 8 0<|oe 13 8 1<|om 0 12 .done) (sR (om 14 0<|om 15 1<|oc 16 a1 [(tP 14),(tP 15)]<|om 7 16 .done) (.seq (.reg true (pm 18 0<|pm 19 7<|p1 20 (.sl 2 (tP 18) none (some (tP 19)) none)<|pm 22 1<|pm 23 2<|p1 24 (.bld [(0,1),(1,1)] [(Bs []),(Bs [])] [(0,(tP 22)),(1,(tP 23))])<|pm 27 0<|pm 28 7<|p1 29 (.sl 2 (tP 27) (some (tP 28)) none none) (.par (o1 25 (.bsl 1 2 [(Bs []),(Bs [])] [(0,(tP 24))]) .done) (o1 17 (.bsl 0 2 [(Bs []),(Bs [])] []) (o1 21 (.app 2 32 [(Bs []),(Bs [])] (tP 17) (tP 20)) .done)) (o1 26 (.app 2 32 [(Bs []),(Bs [])] (tP 21) (tP 25)) (o1 30 (.app 2 32 [(Bs []),(Bs [])] (tP 26) (tP 29)) (.bar (pm 6 30 .done))))))) .ret))))⟩
set_option maxRecDepth 4000 in
theorem Xp{P:Program}{f f1 f2:FuncId} (hd:Jn P f=some (Ko f1 f2)) (h1:LK P f1) (h2:IZ P f2):O9 P f:=by
 intro d w l key v hw hk hv hln
 have hwl:=hw.BW
 have hdl:=Tv l key
 obtain⟨a,c,rfl⟩:=hw.val
 refine AG hd (Aca rfl) ?_
 show gwp P _ _ _ _ _
 (refine Ad<|Am rfl<|Aa<|Ad<|Am rfl<|DS rfl ?_)
 refine CP (h1 hw hk hln) rfl (fun u d2 L2 hl2 ⟨e1,_,w2,e2,hw2⟩=>?_)
 subst e1;subst e2
 have hc:=h2 hw2 hk
 have hfl:=F9 (B8 l key).1 key
 unfold D5
 generalize hm:(B8 l key).1=m at hw2 hc hfl hdl⊢
 generalize hi:Bo m key=i at hc hfl⊢
 obtain⟨a2,c2,rfl⟩:=hw2.val
 clear hm hi hw
 (refine AU rfl<|Ap rfl rfl<|Ap rfl rfl<|Am rfl<|Aa<|Ad<|Am rfl<|DS rfl ?_)
 refine BR rfl hc ?_
 (refine Ab rfl<|Aa<|Ah ?_)
 refine Bv ?_
 (refine Am rfl<|Ab rfl ?_)
 refine Ol (n:=i) rfl hw2 rfl rfl (by omega) (fun v20 r20=>?_)
 (refine DS rfl<|DS rfl<|BI rfl<|Am rfl<|Ab rfl ?_)
 refine ED (n:=i) rfl hw2 rfl rfl (by omega) (fun v29 r29=>?_)
 refine Gz (α:=Nat×TypeId) (β:=Value×Ac) [(29,v29)]
  (fun x=>[(25,.slice (some ⟨x.1,0,none⟩) 1 1)]) (fun x d L=>L=[bx x.1 x.2 [Bs key,Bs v]])
  (fun y=>[(21,y.1)]) (fun y d L=>As 2 RKv d y.1 (m.take i) y.2∧L=[y.2]) [] [] rfl
  (fun x d d' M hl h=>h) (fun y d d' M hl h=>⟨As.mono (R:=RKv) Ef h.1 hl,h.2⟩) (fun x=>rfl) (fun y=>rfl) rfl ⟨rfl,trivial⟩ ?_ ?_ ?_
 ·refine QO (cs:=[Bs key,Bs v]) rfl rfl rfl (by omega) (fun b25 T25=>?_)
  refine A8 ?_
  exact⟨_,rfl,(b25,T25),⟨rfl,trivial⟩,rfl⟩
 ·refine AaR (R:=RKv) (xs:=m.take i) Ef Jv (by omega) r20 (fun _=>rfl) (by simp;omega) (by simp;omega) (fun v0 v1 g1 o1=>?_)
  refine A8 ?_
  exact⟨_,rfl,(v1,g1),⟨rfl,trivial⟩,o1,rfl⟩
 rintro⟨b25,T25⟩ ⟨v21,g21⟩ ρ d5 M1 M2 hl5 hM1 ⟨o21,hM2⟩
 subst hM1;subst hM2
 refine D8 (R:=RKv) 0 rfl rfl o21 rfl (As.Es (R:=RKv) (x:=(key,v)) rfl ⟨rfl,hk,hv⟩) Jv (by omega) (by simp;omega) (by simp;omega) (fun v26 g26 o26=>?_)
 refine Pa (R:=RKv) (xs:=m.take i++[(key,v)]) (ys:=m.drop i) Ef rfl o26 rfl (RSl.src (R:=RKv) (RSl.mono (R:=RKv) Ef r29 hl5) Jv (by omega) _) (by omega) (by simp;omega) (by simp;omega) (fun a30 c30 d6 hl6 r30=>?_)
 (refine B4<|Am rfl<|Aa<|Ao ?_)
 exact BG rfl (Acb _) ⟨rfl,(hl2.trans hl5).trans hl6,r30⟩
end Go.Gk.Tre
end
section
namespace Go.Gk.Tre
open Go Go.Gk Go.Gk.Dev Go.Gk.Cch Go.Gk.Pgr Go.Gk.Chn Go.Gk.Node
abbrev Lt(a b:List UInt8):Prop:=Op.bytesLess a b=true
theorem KF{a:List UInt8}:¬Lt a a:=by simp [Lt,Ex]
theorem FZ{a b c:List UInt8} (h:Lt a b) (k:Lt b c):Lt a c:=Jm h k
theorem Uq{a b:List UInt8} (h:Lt a b):¬Lt b a:=fun k=>KF (FZ h k)
theorem Me{a b c:List UInt8} (h:¬Lt b a) (k:Lt b c):Lt a c:=by
 rcases JK a b with q|q|q
 ·exact FZ q k
 ·rw [q];exact k
 ·exact absurd q h
theorem Ij{a b c:List UInt8} (h:Lt a b) (k:¬Lt c b):Lt a c:=by
 rcases JK b c with q|q|q
 ·exact FZ h q
 ·rw [←q];exact h
 ·exact absurd q k
theorem Y0{a b:List UInt8} (h:¬Lt a b):a=b∨Lt b a:=by
 rcases JK a b with q|q|q
 ·exact absurd q h
 ·exact .inl q
 ·exact .inr q
def KO(ks:List (List UInt8)):Prop:=(∀k∈ks,1≤k.length∧k.length≤64)∧ks.Pairwise Lt
theorem PI{ks:List (List UInt8)}:Dj ks ks.length=true↔KO ks:=by
 constructor
 ·intro h
  refine⟨fun k hk=>?_,Afc.2 fun i j hi hj hij=>KD h hj hij⟩
  obtain⟨i,hi,rfl⟩:=Aei hk
  have:=GC.1 h i hi
  simp only [kOk,Acd,decide_eq_true_eq,Acf,Ace hi,Afo] at this
  exact this.1
 ·rintro⟨h1,h2⟩
  rw [GC]
  intro k hk
  have:=h1 _ (Ada hk)
  simp only [kOk,Acd,decide_eq_true_eq,Acf,Ace hk,Afo,Adr,beq_iff_eq]
  refine⟨this,?_⟩
  by_cases e:k=0
  ·exact .inl e
  ·refine .inr ?_
   rw [Ace (show k - 1<ks.length by omega)]
   exact Afc.1 h2 (k - 1) k (by omega) hk (by omega)
theorem KO.app{a b:List (List UInt8)}:KO (a++b)↔KO a∧KO b∧∀x∈a,∀y∈b,Lt x y:=by
 simp only [KO,List.pairwise_append,Ack]
 exact⟨fun⟨h,p1,p2,p3⟩=>⟨⟨fun k hk=>h k (.inl hk),p1⟩,⟨fun k hk=>h k (.inr hk),p2⟩,p3⟩,
  fun⟨⟨a1,a2⟩,⟨b1,b2⟩,c⟩=>⟨fun k hk=>hk.elim (a1 k) (b1 k),a2,b2,c⟩⟩
theorem KO.cons{x:List UInt8}{b:List (List UInt8)}:KO (x::b)↔(1≤x.length∧x.length≤64)∧KO b∧∀y∈b,Lt x y:=by
 simp only [KO,Ahi,Adb]
 exact⟨fun⟨h,p1,p2⟩=>⟨h x (.inl rfl),⟨fun k hk=>h k (.inr hk),p2⟩,p1⟩,
  fun⟨a,⟨b1,b2⟩,c⟩=>⟨fun k hk=>hk.elim (fun e=>e▸a) (b1 k),c,b2⟩⟩
theorem KO.nil:KO []:=⟨fun _ h=>(by cases h),List.Pairwise.nil⟩
theorem CJ{ks vs:List (List UInt8)}:A6 ⟨true,ks,vs,[]⟩=true↔KO ks∧vs.length=ks.length∧∀v∈vs,v.length≤16:=by
 simp only [A6,Acd,if_true,decide_eq_true_eq,Acq,Ht,PI]
 exact⟨fun⟨a,⟨b,_⟩,c⟩=>⟨a,b,c⟩,fun⟨a,b,c⟩=>⟨a,⟨b,rfl⟩,c⟩⟩
theorem Cd{ks:List (List UInt8)}{cs:List Int}:A6 ⟨false,ks,[],cs⟩=true↔KO ks∧cs.length=ks.length+1∧∀c∈cs,0≤c∧c≤8191:=by
 simp only [A6,Acd,Acj,if_false,decide_eq_true_eq,Acq,FV,PI]
 exact⟨fun⟨a,⟨_,b⟩,c⟩=>⟨a,b,c⟩,fun⟨a,b,c⟩=>⟨a,⟨rfl,b⟩,c⟩⟩
theorem Ed{n:AF} (h:A6 n=true) (hl:n.leaf=true):n=⟨true,n.keys,n.vals,[]⟩:=by
 obtain⟨lf,ks,vs,cs⟩:=n
 simp only at hl;subst hl
 simp only [A6,Acd,if_true,decide_eq_true_eq] at h
 rw [Acm h.2.1.2]
theorem Ec{n:AF} (h:A6 n=true) (hl:n.leaf=false):n=⟨false,n.keys,[],n.kids⟩:=by
 obtain⟨lf,ks,vs,cs⟩:=n
 simp only at hl;subst hl
 simp only [A6,Acd,Acj,if_false,decide_eq_true_eq] at h
 rw [Acm h.2.1.1]
def C6:List (List UInt8)→Nat
 |[]=>0
 |x::l=>x.length+C6 l
theorem Dw:∀a b:List (List UInt8),C6 (a++b)=C6 a+C6 b
 |[],b=>by simp [C6]
 |x::a,b=>by simp only [Aej,C6,Dw a b];omega
theorem KP{l:List (List UInt8)}{k:Nat} (h:k<l.length):C6 (l.take (k+1))=C6 (l.take k)+l[k].length:=by
 rw [Acx h,Dw];simp [C6]
theorem size_leaf{ks vs:List (List UInt8)} (h:vs.length=ks.length):A5 ⟨true,ks,vs,[]⟩=2+2*ks.length+C6 ks+C6 vs:=by
 have key:∀k,k≤ks.length→Bm ⟨true,ks,vs,[]⟩ k=2*k+C6 (ks.take k)+C6 (vs.take k):=by
  intro k
  induction k with
  |zero=>intro _;simp [Bm,C6]
  |succ k ih=>
   intro hk
   rw [Bm,ih (by omega),KP (show k<ks.length by omega),KP (show k<vs.length by omega)]
   simp only [DY,if_true,Df,ES,Acf,Ace (show k<ks.length by omega),Ace (show k<vs.length by omega),Afo]
   omega
 have:=key ks.length (Ach _)
 rw [Aeg,←h,Aeg,h] at this
 simp only [A5,if_true,this];omega
theorem size_inner{ks:List (List UInt8)}{cs:List Int}:A5 ⟨false,ks,[],cs⟩=2+2*cs.length+ks.length+C6 ks:=by
 have key:∀k,k≤ks.length→Bm ⟨false,ks,[],cs⟩ k=k+C6 (ks.take k):=by
  intro k
  induction k with
  |zero=>intro _;simp [Bm,C6]
  |succ k ih=>
   intro hk
   rw [Bm,ih (by omega),KP (show k<ks.length by omega)]
   simp only [DY,Acj,if_false,Df,Acf,Ace (show k<ks.length by omega),Afo]
   omega
 have:=key ks.length (Ach _)
 rw [Aeg] at this
 simp only [A5,Acj,if_false,this];omega
theorem OJ{l:List (List UInt8)}{n:Nat} (h:∀x∈l,x.length≤n):C6 l≤n*l.length:=by
 induction l with
 |nil=>simp [C6]
 |cons x l ih=>
  have h1:=ih (fun y hy=>h y (Acy _ hy))
  have h2:=h x (Acu ..)
  simp only [C6,Acs,Nat.mul_succ];omega
theorem Vp{n:AF} (hs:A6 n=true) (h:256<A5 n):C9 n=true:=by
 cases hl:n.leaf with
 |true=>
  have e:=Ed hs hl
  rw [e] at hs h⊢
  obtain⟨h1,h2,h3⟩:=CJ.1 hs
  rw [size_leaf h2] at h
  have k1:=OJ (fun x hx=>(h1.1 x hx).2)
  have k2:=OJ h3
  simp only [C9,hs,Afl,if_true,decide_eq_true_eq]
  omega
 |false=>
  have e:=Ec hs hl
  rw [e] at hs h⊢
  obtain⟨h1,h2,h3⟩:=Cd.1 hs
  rw [size_inner] at h
  have k1:=OJ (fun x hx=>(h1.1 x hx).2)
  simp only [C9,hs,Afl,Acj,if_false,decide_eq_true_eq]
  omega
theorem Ky{ks vs:List (List UInt8)} (hk:KO ks) (key:List UInt8):
  (∃a b,ks=a++key::b∧findD ⟨true,ks,vs,[]⟩ key=(a.length,true)∧(∀x∈a,Lt x key)∧∀x∈b,Lt key x)∨
  (∃a b,ks=a++b∧findD ⟨true,ks,vs,[]⟩ key=(a.length,false)∧(∀x∈a,Lt x key)∧∀x∈b,Lt key x):=by
 have e:ks=ks.takeWhile (Op.bytesLess · key)++ks.dropWhile (Op.bytesLess · key):=(Agj).symm
 have h1:∀x∈ks.takeWhile (Op.bytesLess · key),Lt x key:=fun x hx=>by
  have:=List.all_takeWhile (p:=(Op.bytesLess · key)) (l:=ks)
  exact Acq.1 this x hx
 have hl:low ⟨true,ks,vs,[]⟩ key=(ks.takeWhile (Op.bytesLess · key)).length:=rfl
 have hf:findD ⟨true,ks,vs,[]⟩ key=(low ⟨true,ks,vs,[]⟩ key,decide (low ⟨true,ks,vs,[]⟩ key<ks.length)&& decide (ks.getD (low ⟨true,ks,vs,[]⟩ key) []=key)):=rfl
 rw [hf,hl]
 generalize hA:ks.takeWhile (Op.bytesLess · key)=A at*
 cases hB:ks.dropWhile (Op.bytesLess · key) with
 |nil=>
  rw [hB] at e
  refine .inr ⟨A,[],e,?_,h1,fun x hx=>(by cases hx)⟩
  rw [e];simp
 |cons y B=>
  rw [hB] at e
  have hy:¬Lt y key:=by
   have:=List.head?_dropWhile_not (Op.bytesLess · key) ks
   rw [hB] at this
   simpa [Lt] using this
  have hr:∀x∈B,Lt y x:=by
   rw [e] at hk
   exact(KO.cons.1 (KO.app.1 hk).2.1).2.2
  have hg:(A++y::B).getD A.length []=y:=by simp
  rcases Y0 hy with q|q
  ·subst q
   refine .inl ⟨A,B,e,?_,h1,hr⟩
   rw [e,hg];simp
  ·refine .inr ⟨A,y::B,e,?_,h1,fun x hx=>?_⟩
   ·rw [e,hg]
    have:y≠key:=fun h=>KF (h▸q)
    simp [this]
   ·rcases Adb.1 hx with rfl|hx
    ·exact q
    ·exact FZ q (hr x hx)
theorem J0{ks:List (List UInt8)}{cs:List Int} (hs:A6 ⟨false,ks,[],cs⟩=true) (key:List UInt8):
  ∃a b,ks=a++b∧findD ⟨false,ks,[],cs⟩ key=(a.length,false)∧(∀x∈a,¬Lt key x)∧∀x∈b,Lt key x:=by
 have hk:=(Cd.1 hs).1
 rw [find_eq _ _ hs]
 refine⟨ks.takeWhile (leB · key),ks.dropWhile (leB · key),(Agj).symm,rfl,fun x hx=>?_,fun x hx=>?_⟩
 ·have:=Acq.1 (List.all_takeWhile (p:=(leB · key)) (l:=ks)) x hx
  simp only [leB,Adr,decide_eq_true_eq] at this
  rcases this with h|h
  ·exact Uq h
  ·rw [h];exact KF
 ·cases hB:ks.dropWhile (leB · key) with
  |nil=>rw [hB] at hx;cases hx
  |cons y B=>
   have hy:Lt key y:=by
    have:=List.head?_dropWhile_not (leB · key) ks
    rw [hB] at this
    simp only [leB,List.head?_cons,Bool.or_eq_false_iff,decide_eq_false_iff_not] at this
    rcases Y0 (a:=y) (b:=key) (by simp [Lt,this.1]) with q|q
    ·exact absurd q this.2
    ·exact q
   have hr:∀x∈B,Lt y x:=by
    rw [←Agj (p:=(leB · key)) (l:=ks),hB] at hk
    exact(KO.cons.1 (KO.app.1 hk).2.1).2.2
   rw [hB] at hx
   rcases Adb.1 hx with rfl|hx
   ·exact hy
   ·exact FZ hy (hr x hx)
theorem G3{a b:List KV}{key:List UInt8} (h:∀x∈a,Lt x.1 key):Bo (a++b) key=a.length+Bo b key:=by
 induction a with
 |nil=>simp
 |cons x a ih=>
  rw [Aej,Bo,if_pos (h x (Acu ..)),ih (fun y hy=>h y (Acy _ hy)),Acs];omega
theorem It{m b:List KV}{key:List UInt8} (h:∀x∈b,Lt key x.1):Bo (m++b) key=Bo m key:=by
 induction m with
 |nil=>
  cases b with
  |nil=>rfl
  |cons x b=>
   have:=Uq (h x (Acu ..))
   show(if Op.bytesLess x.1 key=true then Bo b key+1 else 0)=0
   rw [if_neg this]
 |cons x m ih=>
  rw [Aej,Bo,Bo,ih]
theorem Ev{a m b:List KV}{key:List UInt8} (ha:∀x∈a,Lt x.1 key) (hb:∀x∈b,Lt key x.1):isK (a++m++b) key=isK m key:=by
 unfold isK
 rw [Acg,G3 ha,It hb]
 have hle:=F9 m key
 by_cases e:Bo m key<m.length
 ·rw [show(a++(m++b)).getD (a.length+Bo m key) ([],[])=m.getD (Bo m key) ([],[]) by simp [Afw,Aeb,Aed e]]
  simp [e];omega
 ·have e1:Bo m key=m.length:=by omega
  rw [e1]
  cases b with
  |nil=>simp
  |cons x b=>
   have hx:=hb x (Acu ..)
   have:(a++(m++x::b)).getD (a.length+m.length) ([],[])=x:=by simp [Afw]
   rw [this]
   have hne:x.1≠key:=fun h=>KF (h▸hx)
   simp [hne]
theorem Ng{a m b:List KV}{key:List UInt8} (ha:∀x∈a,Lt x.1 key) (hb:∀x∈b,Lt key x.1):B8 (a++m++b) key=(a++(B8 m key).1++b,isK m key):=by
 unfold B8
 rw [Ev ha hb]
 by_cases h:isK m key=true
 ·have hlt:Bo m key<m.length:=by simp only [isK,Acd,decide_eq_true_eq] at h;exact h.1
  rw [if_pos h,if_pos h,h,Acg,G3 ha,It hb]
  congr 1
  rw [List.take_append,Ahf,Aec (show a.length≤a.length+Bo m key by omega),Aex (show a.length≤a.length+Bo m key+1 by omega),
   show a.length+Bo m key - a.length=Bo m key by omega,show a.length+Bo m key+1 - a.length=Bo m key+1 by omega,Afe (by omega),Ago (by omega)]
  simp
 ·rw [if_neg h,if_neg h]
  simp only [Aev] at h
  rw [h]
theorem Na{a m b:List KV}{key:List UInt8} (ha:∀x∈a,Lt x.1 key) (hb:∀x∈b,Lt key x.1):DP (a++m++b) key=DP m key:=by
 unfold DP
 rw [Ev ha hb]
 by_cases h:isK m key=true
 ·have hlt:Bo m key<m.length:=by simp only [isK,Acd,decide_eq_true_eq] at h;exact h.1
  rw [if_pos h,if_pos h,Acg,G3 ha,It hb]
  congr 2
  simp [Afw,Aeb,Aed hlt]
 ·rw [if_neg h,if_neg h]
theorem MX{a m b:List KV}{key v:List UInt8} (ha:∀x∈a,Lt x.1 key) (hb:∀x∈b,Lt key x.1):D5 (a++m++b) key v=a++D5 m key v++b:=by
 unfold D5
 rw [Ng ha hb]
 simp only
 generalize (B8 m key).1=m
 have hle:=F9 m key
 rw [show a++m++b=a++(m++b) from Acg ..,G3 ha,It hb,List.take_append,Ahf,Aec (show a.length≤a.length+Bo m key by omega),Aex (show a.length≤a.length+Bo m key by omega),
   show a.length+Bo m key - a.length=Bo m key by omega,Afe (by omega),Ago (by omega)]
 simp
theorem OY{key:List UInt8}:isK [] key=false:=rfl
theorem Ym{key v:List UInt8}:D5 [] key v=[(key,v)]:=rfl
theorem Hw{key w:List UInt8}:isK [(key,w)] key=true:=by
 simp [isK,Bo,Ex]
theorem Rq{key w:List UInt8}:(B8 [(key,w)] key).1=[]:=by
 simp [B8,Hw,Bo,Ex]
theorem Xw{key v w:List UInt8}:D5 [(key,w)] key v=[(key,v)]:=by
 unfold D5;rw [Rq];rfl
theorem Ss{key w:List UInt8}:DP [(key,w)] key=(w,true):=by
 simp [DP,Hw,Bo,Ex]
theorem HN{l:List KV}{key:List UInt8}{x:KV} (h:x∈(B8 l key).1):x∈l:=by
 unfold B8 at h
 split at h
 ·rcases Ack.1 h with q|q
  ·exact Aha q
  ·exact Agf q
 ·exact h
theorem Nq{l:List KV}{key v:List UInt8}{x:KV} (h:x∈D5 l key v):x=(key,v)∨x∈l:=by
 unfold D5 at h
 rcases Ack.1 h with q|q
 ·rcases Ack.1 q with q|q
  ·exact .inr (HN (Aha q))
  ·exact .inl (Acv.1 q)
 ·exact .inr (HN (Agf q))
theorem RU{l:List KV}{key:List UInt8}:(B8 l key).1.length+(if isK l key=true then 1 else 0)=l.length:=by
 unfold B8
 by_cases h:isK l key=true
 ·have hlt:Bo l key<l.length:=by simp only [isK,Acd,decide_eq_true_eq] at h;exact h.1
  rw [if_pos h,if_pos h];simp only [Acl,Acw,Aco];omega
 ·rw [if_neg h,if_neg h];rfl
theorem RV{l:List KV}{key v:List UInt8}:(D5 l key v).length=l.length+(if isK l key=true then 0 else 1):=by
 have h1:=RU (l:=l) (key:=key)
 have h2:=F9 (B8 l key).1 key
 unfold D5
 simp only [Acl,Acw,Aco,Afs]
 by_cases h:isK l key=true
 ·rw [if_pos h] at h1⊢;omega
 ·rw [if_neg h] at h1⊢;omega
structure Mv (s t:PD) (A B:List Int) (c:Nat):Prop where
 lv:∀k,Bl t k↔(Bl s k∧k∉A)∨k∈B
 nw:∀k∈B,Bl s k→k∈A
 nd:B.Nodup
 st:∀k,Bl s k→k∉A→t.kind k=s.kind k∧t.bytes k=s.bytes k
 fr:s.free≤t.free+c
 gd:Pgr.Good t
theorem Mv.refl{s:PD} (h:Pgr.Good s):Mv s s [] [] 0:=⟨fun k=>by simp,fun k hk=>(by cases hk),Agq,fun _ _ _=>⟨rfl,rfl⟩,Ach _,h⟩
theorem Mv.trans{s t u:PD}{A B C:List Int}{c c':Nat} (h:Mv s t A B c) (k:Mv t u B C c'):Mv s u A C (c+c'):=by
 have hx:∀p,Bl s p→p∉A→p∉B:=fun p h1 h2 h3=>h2 (h.nw p h3 h1)
 refine⟨fun p=>?_,fun p hp hs=>?_,k.nd,fun p hs hA=>?_,by have:=h.fr;have:=k.fr;omega,k.gd⟩
 ·rw [k.lv,h.lv]
  constructor
  ·rintro(⟨h1|h1,h2⟩|h1)
   ·exact .inl h1
   ·exact absurd h1 h2
   ·exact .inr h1
  ·rintro(h1|h1)
   ·exact .inl ⟨.inl h1,hx p h1.1 h1.2⟩
   ·exact .inr h1
 ·by_cases q:p∈A
  ·exact q
  ·exact absurd (k.nw p hp ((h.lv p).2 (.inl ⟨hs,q⟩))) (hx p hs q)
 ·obtain⟨a1,a2⟩:=h.st p hs hA
  obtain⟨b1,b2⟩:=k.st p ((h.lv p).2 (.inl ⟨hs,hA⟩)) (hx p hs hA)
  exact⟨b1.trans a1,b2.trans a2⟩
theorem Mv.frame{s t:PD}{A B R:List Int}{c:Nat} (h:Mv s t A B c) (h1:∀k∈R,Bl s k) (h2:R.Nodup) (h3:∀k∈R,k∉A):Mv s t (A++R) (B++R) c:=by
 refine⟨fun p=>?_,fun p hp hs=>?_,?_,fun p hs hA=>h.st p hs (fun q=>hA (Adh _ q)),h.fr,h.gd⟩
 ·rw [h.lv]
  simp only [Ack]
  constructor
  ·rintro(⟨a,b⟩|a)
   ·by_cases q:p∈R
    ·exact .inr (.inr q)
    ·exact .inl ⟨a,fun e=>e.elim b q⟩
   ·exact .inr (.inl a)
  ·rintro(⟨a,b⟩|a|a)
   ·exact .inl ⟨a,fun q=>b (.inl q)⟩
   ·exact .inr a
   ·exact .inl ⟨h1 p a,h3 p a⟩
 ·rcases Ack.1 hp with q|q
  ·exact Adh _ (h.nw p q hs)
  ·exact Adk _ q
 ·refine Afi.2 ⟨h.nd,h2,fun a ha b hb e=>?_⟩
  subst e
  exact h3 a hb (h.nw a ha (h1 a hb))
theorem Mv.perm{s t:PD}{A B A' B':List Int}{c:Nat} (h:Mv s t A B c) (ha:A'.Perm A) (hb:B'.Perm B):Mv s t A' B' c:=
 ⟨fun p=>by rw [h.lv,ha.mem_iff,hb.mem_iff],fun p hp hs=>ha.mem_iff.2 (h.nw p (hb.mem_iff.1 hp) hs),hb.nodup_iff.2 h.nd,fun p hs hA=>h.st p hs (fun q=>hA (ha.mem_iff.2 q)),h.fr,h.gd⟩
theorem Mv.mono{s t:PD}{A B:List Int}{c c':Nat} (h:Mv s t A B c) (hc:c≤c'):Mv s t A B c':=⟨h.lv,h.nw,h.nd,h.st,by have:=h.fr;omega,h.gd⟩
theorem Mv.then{s t u:PD}{A B A' B' R:List Int}{c c':Nat} (h:Mv s t A B c) (k:Mv t u A' B' c') (hp:(B++R).Perm A') (h1:∀k∈R,Bl s k) (h2:R.Nodup) (h3:∀k∈R,k∉A):Mv s u (A++R) B' (c+c'):=
 (h.frame h1 h2 h3).trans (k.perm hp (Adp _))
theorem Xi{s:PD}{i:Nat}{x:Int}{k:Int}{fb:Nat→Sec} (hi:i<s.kinds.length):({s with kinds:=s.kinds.set i x,fb:=fb}:PD).kind k=if k=((s.frm+i:Nat):Int) then x else s.kind k:=by
 unfold PD.kind
 simp only [Adg]
 by_cases e:k=((s.frm+i:Nat):Int)
 ·subst e
  rw [if_pos (by omega),if_pos rfl]
  show(s.kinds.set i x).getD _ 0=x
  rw [C5 hi,if_pos (by omega)]
 ·rw [if_neg e]
  by_cases q:(s.frm:Int)≤k∧k<(s.frm:Int)+s.kinds.length
  ·rw [if_pos q,if_pos q]
   show(s.kinds.set i x).getD _ 0=s.kinds.getD _ 0
   rw [C5 hi,if_neg (by omega)]
  ·rw [if_neg q,if_neg q]
theorem IB{s:PD} (hG:Pgr.Good s) {k:Int} (hk:Bl s k):(s.drop k).2=0∧Mv s (s.drop k).1 [k] [] 0:=by
 obtain⟨x,hx,i,i1,rfl,i2,i3,he⟩:∃x:Int,(x=0∨x=3)∧∃i,i<s.kinds.length∧k=((s.frm+i:Nat):Int)∧(s.kd i=1∨s.kd i=2)∧(k - s.frm).toNat=i∧s.drop k=({s with kinds:=s.kinds.set i x},0):=by
  rcases hk with hk|hk
  ·obtain⟨i,i1,i2,i3,i4⟩:=CO hk (by omega)
   exact⟨0,.inl rfl,i,i1,i2,.inl i3,i4,by unfold PD.drop;rw [if_pos hk,i4]⟩
  ·obtain⟨i,i1,i2,i3,i4⟩:=CO hk (by omega)
   exact⟨3,.inr rfl,i,i1,i2,.inr i3,i4,by unfold PD.drop;rw [if_neg (by omega),if_pos hk,i4]⟩
 have hGd:=Ig hG ((s.frm+i:Nat):Int)
 rw [he] at hGd⊢
 have hkind:∀p,({s with kinds:=s.kinds.set i x}:PD).kind p=if p=((s.frm+i:Nat):Int) then x else s.kind p:=fun p=>Xi (fb:=s.fb) i1
 refine⟨rfl,fun p=>?_,fun p hp=>(by cases hp),Agq,fun p hs hp=>?_,?_,hGd⟩
 ·unfold Bl
  rw [hkind]
  by_cases e:p=((s.frm+i:Nat):Int)
  ·subst e;rw [if_pos rfl];rcases hx with rfl|rfl<;>simp
  ·rw [if_neg e]
   exact⟨fun h=>.inl ⟨h,fun q=>e (Acv.1 q)⟩,fun h=>h.elim And.left (fun q=>by cases q)⟩
 ·have e:p≠((s.frm+i:Nat):Int):=by simpa using hp
  have:=hkind p
  rw [if_neg e] at this
  refine⟨this,?_⟩
  unfold PD.bytes
  rw [this]
 ·have:=Ni (s:=s) (i:=i) (x:=x) i1
  rw [if_neg (by rw [←I7 i1];omega)] at this
  show s.free≤(s.kinds.set i x).countP (·==0)+0
  omega
theorem Tk.mv{s t:PD}{l:List Int} (h:Tk s t l) (hG:Pgr.Good t):Mv s t [] l l.length:=by
 refine⟨fun p=>?_,fun p hp hs=>?_,h.nd,fun p hs _=>?_,by have:=h.free;omega,hG⟩
 ·unfold Bl
  rw [h.kind]
  by_cases q:p∈l
  ·simp [q]
  ·simp [q]
 ·refine absurd hp (h.not ?_)
  rcases hs with hs|hs<;>omega
 ·have:p∉l:=h.not (by rcases hs with hs|hs<;>omega)
  exact⟨by rw [h.kind,if_neg this],h.bytes this⟩
theorem TL{s:PD} (hG:Pgr.Good s):(s.AV.2.2=0∧Mv s s.AV.1 [] [s.AV.2.1] 1∧s.AV.1.kind s.AV.2.1=1)∨(s.AV.2.2=190∧s.free=0):=by
 rcases (Tk.nil s).take with ⟨h1,h2⟩|⟨h1,_,h3⟩
 ·refine .inl ⟨h1,Tk.mv h2 (Fm hG),?_⟩
  rw [h2.kind,if_pos (by simp)]
 ·exact .inr ⟨h1,h3⟩
theorem Rw{s:PD} (hG:Pgr.Good s) {k:Int}{b:Sec} (hk:s.kind k=1) (hb:b.length=256):(s.put k b).2=0∧Mv s (s.put k b).1 [k] [k] 0∧(s.put k b).1.bytes k=b∧(s.put k b).1.kind k=1:=by
 have hg:=H4 hG k b
 have hkd:=fun p=>Sv (k':=p) hk hb
 have hby:=fun p=>KK (k':=p) hk hb
 refine⟨by unfold PD.put;rw [if_pos hk,if_pos hb],⟨fun p=>?_,fun p hp _=>hp,by simp,fun p hs hp=>⟨hkd p,?_⟩,?_,hg⟩,by rw [hby,if_pos rfl],by rw [hkd];exact hk⟩
 ·unfold Bl
  rw [hkd]
  by_cases e:p=k
  ·subst e;simp [hk]
  ·simp [e]
 ·rw [hby,if_neg (by simpa using hp)]
 ·rw [Iv hk hb];exact Ach _
structure At (s:PD) (k:Int) (n:AF):Prop where
 liv:Bl s k
 byt:s.bytes k=B6 n
 rgt:By n=true
theorem At.sound{s:PD}{k:Int}{n:AF} (h:At s k n):A6 n=true:=by have:=h.rgt;simp only [By,Acd] at this;exact this.1
theorem At.size{s:PD}{k:Int}{n:AF} (h:At s k n):A5 n≤256:=by have:=h.rgt;simp only [By,Acd,decide_eq_true_eq] at this;exact this.2
theorem At.read{s:PD}{k:Int}{n:AF} (h:At s k n):Bn s k=(n,0):=by
 unfold Bn N4 OD
 rw [if_pos h.liv,h.byt,WT h.rgt];rfl
theorem At.level{s:PD}{k:Int}{n:AF}{x:Int} (h:At s k n) (hl:n.leaf=decide (x=1)):A4 s k x=(n,0):=by
 unfold A4
 rw [h.read]
 simp [hl]
theorem At.stay{s t:PD}{k:Int}{n:AF} (h:At s k n) (hs:t.kind k=s.kind k∧t.bytes k=s.bytes k):At t k n:=
 ⟨by unfold Bl;rw [hs.1];exact h.liv,by rw [hs.2];exact h.byt,h.rgt⟩
theorem Ej{s:PD} (hG:Pgr.Good s) {k:Int} (h:Bl s k):0≤k∧k≤8191:=by
 have key:∀x:Int,0≤x→s.kind k=x→0≤k∧k≤8191:=fun x hx hk=>by
  obtain⟨i,i1,rfl, -⟩:=CO hk hx
  have:=hG.inn;have:=hG.syn
  omega
 rcases h with h|h
 ·exact key 1 (by omega) h
 ·exact key 2 (by omega) h
theorem Po{s:PD} (hG:Pgr.Good s) {n:AF} (hr:By n=true):
  ((Bt s (-1) n).2.2=0∧Mv s (Bt s (-1) n).1 [] [(Bt s (-1) n).2.1] 1∧At (Bt s (-1) n).1 (Bt s (-1) n).2.1 n)∨((Bt s (-1) n).2.2=190∧s.free<1):=by
 have hg:=PN hG (k:= -1) (n:=n)
 unfold Bt at*
 rw [if_pos hr,if_neg (by omega)] at*
 rcases TL hG with ⟨h1,h2,h3⟩|⟨h1,h2⟩
 ·rw [if_neg (by omega),if_neg (by omega)] at*
  obtain⟨p1,p2,p3,p4⟩:=Rw h2.gd h3 (Fo hr)
  refine .inl ⟨p1,(h2.trans p2).mono (by omega),⟨.inl p4,p3,hr⟩⟩
 ·rw [if_pos (by omega)]
  exact .inr ⟨h1,by omega⟩
theorem WW{s:PD} (hG:Pgr.Good s) {n:AF} (hr:By n=true) {k:Int} (hk:Bl s k):
  ((Bt s k n).2.2=0∧Mv s (Bt s k n).1 [k] [(Bt s k n).2.1] 1∧At (Bt s k n).1 (Bt s k n).2.1 n)∨((Bt s k n).2.2=190∧s.free<1):=by
 have h0:=(Ej hG hk).1
 unfold Bt
 rw [if_pos hr]
 rcases hk with hk|hk
 ·obtain⟨p1,p2,p3,p4⟩:=Rw hG hk (Fo hr)
  rw [if_pos ⟨h0,by rw [p1];decide⟩]
  exact .inl ⟨p1,p2.mono (by omega),⟨.inl p4,p3,hr⟩⟩
 ·rw [if_neg (by unfold PD.put;rw [if_neg (by omega)];simp)]
  rcases TL hG with ⟨h1,h2,h3⟩|⟨h1,h2⟩
  ·rw [if_neg (by omega),if_pos h0]
   have hl:Bl s.AV.1 k:=(h2.lv k).2 (.inl ⟨.inr hk,by simp⟩)
   obtain⟨d1,d2⟩:=IB h2.gd hl
   rw [if_neg (by omega)]
   have hne:s.AV.2.1≠k:=fun e=>by
    have:=h2.nw s.AV.2.1 (by simp) (by rw [e];exact .inr hk)
    cases this
   have hl2:Bl s.AV.1 s.AV.2.1:=.inl h3
   have hk2:(s.AV.1.drop k).1.kind s.AV.2.1=1:=by rw [(d2.st _ hl2 (by simpa using hne)).1];exact h3
   obtain⟨p1,p2,p3,p4⟩:=Rw d2.gd hk2 (Fo hr)
   refine .inl ⟨p1,?_,⟨.inl p4,p3,hr⟩⟩
   have m1:=h2.frame (R:=[k]) (by simp;exact .inr hk) (by simp) (by simp)
   have m2:=d2.frame (R:=[s.AV.2.1]) (by simp;exact hl2) (by simp) (by simpa using hne)
   exact((m1.trans (m2.perm (by simpa using Adc _ _ _) (Adp _))).trans p2).mono (by omega)
  ·rw [if_pos (by omega)]
   exact .inr ⟨h1,by omega⟩
theorem Z1{s:PD} (hG:Pgr.Good s) {n:AF} (hs:A6 n=true) (hh:256<A5 n→NP n) {k:Int} (hk:Bl s k):
  ((Bc s k n).2.2=0∧((∃p,(Bc s k n).2.1=⟨p, -1,[],A5 n⟩∧Mv s (Bc s k n).1 [k] [p] 2∧At (Bc s k n).1 p n)∨
   (C9 n=true∧NP n∧∃p q,(Bc s k n).2.1=⟨p,q,BB n,256⟩∧0≤q∧Mv s (Bc s k n).1 [k] [p,q] 2∧At (Bc s k n).1 p (AW n)∧At (Bc s k n).1 q (Ba n))))∨
  ((Bc s k n).2.2=190∧s.free<2):=by
 unfold Bc
 by_cases hr:By n=true
 ·rw [if_pos hr]
  rcases WW hG hr hk with ⟨h1,h2,h3⟩|⟨h1,h2⟩
  ·exact .inl ⟨h1,.inl ⟨_,rfl,h2.mono (by omega),h3⟩⟩
  ·exact .inr ⟨h1,by omega⟩
 ·have hz:256<A5 n:=by
   simp only [By,hs,Afl,decide_eq_true_eq] at hr;omega
  have hc:=Vp hs hz
  have hH:=hh hz
  rw [if_neg hr,if_pos hc]
  dsimp only
  rcases WW hG hH.r1 hk with ⟨h1,h2,h3⟩|⟨h1,h2⟩
  ·rw [if_pos h1]
   rcases Po h2.gd hH.r2 with ⟨k1,k2,k3⟩|⟨k1,k2⟩
   ·refine .inl ⟨k1,.inr ⟨hc,hH,_,_,rfl,(Ej k2.gd k3.liv).1,?_,?_,k3⟩⟩
    ·refine((h2.trans (k2.frame (R:=[(Bt s k (AW n)).2.1]) (by simp;exact h3.liv) (by simp) (by simp))).perm (Adp _) ?_).mono (by omega)
     exact Adc _ _ _
    ·exact h3.stay (k2.st _ h3.liv (by simp))
   ·exact .inr ⟨k1,by have:=h2.fr;omega⟩
  ·rw [if_neg (by omega)]
   exact .inr ⟨h1,by omega⟩
def Ce(s:PD) (c v:List UInt8) (P:List Int):Prop:=(v.length≤15∧c=0::v∧P=[])∨(15<v.length∧v.length≤16384∧FU s v P∧c=F6 (P.getD 0 0) v.length)
theorem Je{x:Int} (_:0≤x):(bI x).toNat=(x % 256).toNat:=by
 unfold bI
 rw [UInt8.toNat_ofNat']
 omega
theorem Q9{h n:Int}:Fk (F6 h n)=true:=by simp [Fk,F6]
theorem O8{h n:Int}:inB (F6 h n)=false:=by simp [inB,F6]
theorem RA{h n:Int} (h0:0≤h) (h1:h<65536):((Fw (F6 h n):Nat):Int)=h:=by
 unfold Fw F6
 simp only [Aey,Aeu]
 rw [Je (by omega),Je h0]
 omega
theorem Nk{h:Int}{n:Nat} (h1:n<4294967296):EU (F6 h n)=n:=by
 unfold EU F6
 simp only [Aey,Aeu]
 rw [Je (by omega),Je (by omega),Je (by omega),Je (by omega)]
 omega
theorem Ce.len{s:PD}{c v:List UInt8}{P:List Int} (h:Ce s c v P):c.length≤16:=by
 rcases h with ⟨h1,rfl, -⟩|⟨-, -, -,rfl⟩
 ·simp;omega
 ·simp [F6]
theorem Ce.live{s:PD}{c v:List UInt8}{P:List Int} (h:Ce s c v P):∀k∈P,Bl s k:=by
 rcases h with ⟨-, -,rfl⟩|⟨-, -,h, -⟩
 ·exact fun k hk=>by cases hk
 ·intro k hk
  obtain⟨j,hj,rfl⟩:=Aei hk
  exact h.live j hj
theorem Ce.stay{s t:PD}{c v:List UInt8}{P:List Int} (h:Ce s c v P) (hs:∀k∈P,t.kind k=s.kind k∧t.bytes k=s.bytes k):Ce t c v P:=by
 rcases h with h|⟨h1,h2,h3,h4⟩
 ·exact .inl h
 ·exact .inr ⟨h1,h2,h3.stay hs,h4⟩
theorem NU{s:PD}{v:List UInt8}{P:List Int} (h:FU s v P):0≤P.getD 0 0∧P.getD 0 0<65535:=by
 have h0:0<P.length:=by rw [h.len];exact PB
 rw [HL h0]
 exact h.rng _ (Ada h0)
theorem Ce.val{s:PD}{c v:List UInt8}{P:List Int} (h:Ce s c v P):DH s c=(v,0):=by
 unfold DH
 rcases h with ⟨h1,rfl, -⟩|⟨h1,h2,h3,rfl⟩
 ·rw [if_pos (by simp [inB])];rfl
 ·obtain⟨q1,q2⟩:=NU h3
  rw [if_neg (by rw [O8];decide),if_pos Q9,Nk (by omega),RA q1 (by omega),ML h3 h2]
theorem Ce.F5{s:PD}{c v:List UInt8}{P:List Int} (h:Ce s c v P):F5 c=if 15<v.length then AQ v.length else 0:=by
 unfold Tre.F5
 rcases h with ⟨h1,rfl, -⟩|⟨h1,h2,h3,rfl⟩
 ·rw [if_pos (by simp [inB]),if_neg (by omega)]
 ·rw [if_neg (by rw [O8];decide),if_pos h1,Nk (by omega)]
theorem Oi:∀{l:List Int}{s:PD},Pgr.Good s→(∀k∈l,Bl s k)→l.Nodup→(Dy s l).2=0∧Mv s (Dy s l).1 l [] 0
 |[],s,hG,_,_=>⟨rfl,Mv.refl hG⟩
 |k::l,s,hG,hl,hn=>by
  obtain⟨n1,n2⟩:=Afr.1 hn
  obtain⟨d1,d2⟩:=IB hG (hl k (Acu ..))
  have hne:∀p∈l,p∉ [k]:=fun p hp q=>n1 (Acv.1 q▸hp)
  obtain⟨k1,k2⟩:=Oi (l:=l) d2.gd (fun p hp=>(d2.lv p).2 (.inl ⟨hl p (Acy _ hp),hne p hp⟩)) n2
  rw [Dy,if_pos d1]
  refine⟨k1,?_⟩
  have:=d2.then (R:=l) k2 (Adp _) (fun p hp=>hl p (Acy _ hp)) n2 hne
  exact this
theorem Ce.AaB{s:PD} (hG:Pgr.Good s) {c v:List UInt8}{P:List Int} (h:Ce s c v P) (hn:P.Nodup):(BO s c).2=0∧Mv s (BO s c).1 P [] 0:=by
 have hl:=h.live
 unfold BO
 rcases h with ⟨h1,rfl,rfl⟩|⟨h1,h2,h3,rfl⟩
 ·rw [if_pos (by simp [inB])]
  exact⟨rfl,Mv.refl hG⟩
 ·obtain⟨q1,q2⟩:=NU h3
  rw [if_neg (by rw [O8];decide),if_pos Q9,Nk (by omega),RA q1 (by omega)]
  unfold DN
  rw [ML h3 h2,if_pos rfl]
  exact Oi hG hl hn
theorem JS:∀(n:Nat) {s:PD} (l:List Int),Pgr.Good s→Pgr.Good (BQ s l n).1
 |0,s,l,h=>h
 |n+1,s,l,h=>by
  rw [BQ]
  split
  ·exact JS n _ (Fm h)
  ·exact Fm h
theorem N8:∀(l:List Int) {s:PD},Pgr.Good s→Pgr.Good (Dp s l)
 |[],_,h=>h
 |k::l,_,h=>N8 l (Ig h k)
theorem PK{s:PD} (h:Pgr.Good s) {l:List Int}{b:List UInt8}:∀i,Pgr.Good (Chn.Ds s l b i)
 |0=>h
 |i+1=>H4 (PK h i) _ _
theorem Wp{s:PD} (h:Pgr.Good s) {b:List UInt8}:Pgr.Good (B0 s b).1:=by
 have ht:Pgr.Good (Chn.Bz s (AQ b.length)).1:=by
  unfold Chn.Bz
  split
  ·exact JS _ _ h
  ·exact N8 _ (JS _ _ h)
 unfold B0
 dsimp only
 split
 ·exact PK ht _
 ·exact ht
theorem Zd{s:PD} (hG:Pgr.Good s) {v:List UInt8} (hv:v.length≤16384):
  ((BU s v).2.2=0∧∃P,Mv s (BU s v).1 [] P (AQ v.length)∧Ce (BU s v).1 (BU s v).2.1 v P)∨((BU s v).2.2=190∧s.free<AQ v.length):=by
 have hg:Pgr.Good (BU s v).1:=by
  unfold BU
  split
  ·exact hG
  ·exact Wp hG
 unfold BU at*
 by_cases h:v.length≤15
 ·rw [if_pos h] at*
  exact .inl ⟨rfl,[],(Mv.refl hG).mono (Adf _),.inl ⟨h,rfl,rfl⟩⟩
 ·rw [if_neg h] at*
  by_cases hr:AQ v.length≤s.free
  ·obtain⟨t,l,e,h1,h2,h3,h4,h5,h6⟩:=VI hG hr
   rw [e] at hg⊢
   refine .inl ⟨rfl,l,⟨fun p=>?_,fun p hp hs=>?_,h6,fun p hs _=>?_,(by show s.free≤t.free+_;omega),hg⟩,.inr ⟨by omega,hv,h1,rfl⟩⟩
   ·by_cases q:p∈l
    ·have:=(h2 p q).1;simp [Bl,q,this]
    ·have:=(h5 p q).1;simp [Bl,q,this]
   ·have:=(h2 p hp).2
    rcases hs with hs|hs<;>omega
   ·refine h5 p (fun hp=>?_)
    have:=(h2 p hp).2
    rcases hs with hs|hs<;>omega
  ·obtain⟨t,e, -⟩:=Wk (b:=v) (show s.free<AQ v.length by omega)
   rw [e]
   exact .inr ⟨rfl,by omega⟩
def Lf(s:PD):List (List UInt8)→List (List UInt8)→List KV→List Int→Prop
 |[],[],l,P=>l=[]∧P=[]
 |k::ks,c::cs,l,P=>∃v l' P1 P2,l=(k,v)::l'∧P=P1++P2∧Ce s c v P1∧Lf s ks cs l' P2
 |_,_,_,_=>False
theorem Lf.len{s:PD}:∀{ks vs:List (List UInt8)}{l:List KV}{P:List Int},Lf s ks vs l P→vs.length=ks.length∧l.length=ks.length
 |[],[],l,P,h=>by rw [Lf] at h;rw [h.1];exact⟨rfl,rfl⟩
 |[],_::_,l,P,h=>by rw [Lf] at h<;>simp_all
 |_::_,[],l,P,h=>by rw [Lf] at h<;>simp_all
 |k::ks,c::cs,l,P,h=>by
  rw [Lf] at h
  obtain⟨v,l',P1,P2,rfl,rfl,h1,h2⟩:=h
  obtain⟨a,b⟩:=h2.len
  simp [a,b]
theorem Lf.keys{s:PD}:∀{ks vs:List (List UInt8)}{l:List KV}{P:List Int},Lf s ks vs l P→ks=l.map Prod.fst
 |[],[],l,P,h=>by rw [Lf] at h;rw [h.1];rfl
 |[],_::_,l,P,h=>by rw [Lf] at h<;>simp_all
 |_::_,[],l,P,h=>by rw [Lf] at h<;>simp_all
 |k::ks,c::cs,l,P,h=>by
  rw [Lf] at h
  obtain⟨v,l',P1,P2,rfl,rfl,h1,h2⟩:=h
  rw [Afj,←h2.keys]
theorem Lf.join{s:PD}:∀{ks vs ks' vs':List (List UInt8)}{l l':List KV}{P P':List Int},Lf s ks vs l P→Lf s ks' vs' l' P'→Lf s (ks++ks') (vs++vs') (l++l') (P++P')
 |[],[],ks',vs',l,l',P,P',h,h'=>by rw [Lf] at h;obtain⟨rfl,rfl⟩:=h;exact h'
 |[],_::_,ks',vs',l,l',P,P',h,h'=>by rw [Lf] at h<;>simp_all
 |_::_,[],ks',vs',l,l',P,P',h,h'=>by rw [Lf] at h<;>simp_all
 |k::ks,c::cs,ks',vs',l,l',P,P',h,h'=>by
  rw [Lf] at h
  obtain⟨v,l1,P1,P2,rfl,rfl,h1,h2⟩:=h
  rw [Aej,Aej,Lf]
  exact⟨v,l1++l',P1,P2++P',rfl,by rw [Acg],h1,h2.join h'⟩
theorem Lf.split{s:PD}:∀{ks vs ks' vs':List (List UInt8)}{l:List KV}{P:List Int},Lf s (ks++ks') (vs++vs') l P→vs.length=ks.length→∃l1 l2 P1 P2,l=l1++l2∧P=P1++P2∧Lf s ks vs l1 P1∧Lf s ks' vs' l2 P2
 |[],[],ks',vs',l,P,h,_=>⟨[],l,[],P,rfl,rfl,⟨rfl,rfl⟩,h⟩
 |[],_::_,ks',vs',l,P,h,e=>by cases e
 |_::_,[],ks',vs',l,P,h,e=>by cases e
 |k::ks,c::cs,ks',vs',l,P,h,e=>by
  rw [Aej,Aej,Lf] at h
  obtain⟨v,l',P1,P2,rfl,rfl,h1,h2⟩:=h
  obtain⟨l1,l2,Q1,Q2,rfl,rfl,k1,k2⟩:=h2.split (by simpa using e)
  exact⟨(k,v)::l1,l2,P1++Q1,Q2,rfl,by rw [Acg],⟨v,l1,P1,Q1,rfl,rfl,h1,k1⟩,k2⟩
theorem Lf.stay{s t:PD}:∀{ks vs:List (List UInt8)}{l:List KV}{P:List Int},Lf s ks vs l P→(∀k∈P,t.kind k=s.kind k∧t.bytes k=s.bytes k)→Lf t ks vs l P
 |[],[],l,P,h,_=>by rw [Lf] at h⊢;exact h
 |[],_::_,l,P,h,_=>by rw [Lf] at h<;>simp_all
 |_::_,[],l,P,h,_=>by rw [Lf] at h<;>simp_all
 |k::ks,c::cs,l,P,h,hs=>by
  rw [Lf] at h⊢
  obtain⟨v,l',P1,P2,rfl,rfl,h1,h2⟩:=h
  exact⟨v,l',P1,P2,rfl,rfl,h1.stay (fun k hk=>hs k (Adh _ hk)),h2.stay (fun k hk=>hs k (Adk _ hk))⟩
theorem Lf.live{s:PD}:∀{ks vs:List (List UInt8)}{l:List KV}{P:List Int},Lf s ks vs l P→∀k∈P,Bl s k
 |[],[],l,P,h=>by rw [Lf] at h;rw [h.2];exact fun k hk=>by cases hk
 |[],_::_,l,P,h=>by rw [Lf] at h<;>simp_all
 |_::_,[],l,P,h=>by rw [Lf] at h<;>simp_all
 |k::ks,c::cs,l,P,h=>by
  rw [Lf] at h
  obtain⟨v,l',P1,P2,rfl,rfl,h1,h2⟩:=h
  intro k hk
  rcases Ack.1 hk with q|q
  ·exact h1.live k q
  ·exact h2.live k q
theorem Lf.one{s:PD}{k c v:List UInt8}{P:List Int} (h:Ce s c v P):Lf s [k] [c] [(k,v)] P:=⟨v,[],P,[],rfl,by simp,h,⟨rfl,rfl⟩⟩
theorem Lf.AaQ{s:PD}{k c:List UInt8}{l:List KV}{P:List Int} (h:Lf s [k] [c] l P):∃v,l=[(k,v)]∧Ce s c v P:=by
 rw [Lf] at h
 obtain⟨v,l',P1,P2,rfl,rfl,h1,h2⟩:=h
 rw [Lf] at h2
 obtain⟨rfl,rfl⟩:=h2
 exact⟨v,rfl,by simpa using h1⟩
abbrev RT:=Int→List KV→List Int→Prop
def Kd(R:RT):List (List UInt8)→List Int→List KV→List Int→Prop
 |[],[c],l,P=>R c l P
 |k::ks,c::cs,l,P=>∃l1 l2 P1 P2,l=l1++l2∧P=P1++P2∧R c l1 P1∧(∀x∈l1,Lt x.1 k)∧(∀x∈l2,¬Lt x.1 k)∧Kd R ks cs l2 P2
 |_,_,_,_=>False
theorem Kd.one{R:RT}{c:Int}{l:List KV}{P:List Int}:Kd R [] [c] l P↔R c l P:=Iff.rfl
theorem Kd.cons{R:RT}{k:List UInt8}{ks:List (List UInt8)}{c:Int}{cs:List Int}{l:List KV}{P:List Int}:
  Kd R (k::ks) (c::cs) l P↔∃l1 l2 P1 P2,l=l1++l2∧P=P1++P2∧R c l1 P1∧(∀x∈l1,Lt x.1 k)∧(∀x∈l2,¬Lt x.1 k)∧Kd R ks cs l2 P2:=Iff.rfl
theorem Kd.len{R:RT}:∀{ks:List (List UInt8)}{cs:List Int}{l:List KV}{P:List Int},Kd R ks cs l P→cs.length=ks.length+1
 |[],[c],l,P,_=>rfl
 |[],[],l,P,h=>h.elim
 |[],_::_::_,l,P,h=>h.elim
 |_::_,[],l,P,h=>h.elim
 |k::ks,c::cs,l,P,h=>by
  obtain⟨l1,l2,P1,P2,rfl,rfl,h1,h2,h3,h4⟩:=Kd.cons.1 h
  simp [h4.len]
theorem Kd.mono{R R':RT}:∀{ks:List (List UInt8)}{cs:List Int}{l:List KV}{P:List Int},Kd R ks cs l P→(∀c l Q,(∀k∈Q,k∈P)→R c l Q→R' c l Q)→Kd R' ks cs l P
 |[],[c],l,P,h,hR=>hR c l P (fun _ h=>h) h
 |[],[],l,P,h,_=>h.elim
 |[],_::_::_,l,P,h,_=>h.elim
 |_::_,[],l,P,h,_=>h.elim
 |k::ks,c::cs,l,P,h,hR=>by
  obtain⟨l1,l2,P1,P2,rfl,rfl,h1,h2,h3,h4⟩:=Kd.cons.1 h
  exact Kd.cons.2 ⟨l1,l2,P1,P2,rfl,rfl,hR _ _ _ (fun k hk=>Adh _ hk) h1,h2,h3,h4.mono (fun c l Q hQ=>hR c l Q (fun k hk=>Adk _ (hQ k hk)))⟩
theorem Kd.split{R:RT}:∀{ks ks':List (List UInt8)}{k:List UInt8}{cs cs':List Int}{l:List KV}{P:List Int},Kd R (ks++k::ks') (cs++cs') l P→cs.length=ks.length+1→(∀x∈ks,Lt x k)→
  ∃l1 l2 P1 P2,l=l1++l2∧P=P1++P2∧Kd R ks cs l1 P1∧Kd R ks' cs' l2 P2∧(∀x∈l1,Lt x.1 k)∧∀x∈l2,¬Lt x.1 k
 |_,_,_,[],_,_,_,_,e,_=>by cases e
 |[],ks',k,[c],cs',l,P,h,_,_=>by
  obtain⟨l1,l2,P1,P2,rfl,rfl,h1,h2,h3,h4⟩:=Kd.cons.1 h
  exact⟨l1,l2,P1,P2,rfl,rfl,h1,h4,h2,h3⟩
 |[],_,_,_::_::_,_,_,_,_,e,_=>by simp at e
 |k0::ks,ks',k,c::cs,cs',l,P,h,e,hk=>by
  obtain⟨l1,l2,P1,P2,rfl,rfl,h1,h2,h3,h4⟩:=Kd.cons.1 h
  obtain⟨m1,m2,Q1,Q2,rfl,rfl,g1,g2,g3,g4⟩:=Kd.split h4 (by simpa using e) (fun x hx=>hk x (Acy _ hx))
  refine⟨l1++m1,m2,P1++Q1,Q2,by rw [Acg],by rw [Acg],Kd.cons.2 ⟨l1,m1,P1,Q1,rfl,rfl,h1,h2,fun x hx=>h3 x (Adh _ hx),g1⟩,g2,fun x hx=>?_,g4⟩
  rcases Ack.1 hx with q|q
  ·exact FZ (h2 x q) (hk k0 (Acu ..))
  ·exact g3 x q
theorem Kd.join{R:RT}:∀{ks ks':List (List UInt8)}{k:List UInt8}{cs cs':List Int}{l l':List KV}{P P':List Int},Kd R ks cs l P→Kd R ks' cs' l' P'→(∀x∈ks,Lt x k)→(∀x∈l,Lt x.1 k)→(∀x∈l',¬Lt x.1 k)→
  Kd R (ks++k::ks') (cs++cs') (l++l') (P++P')
 |[],ks',k,[c],cs',l,l',P,P',h,h',_,h1,h2=>Kd.cons.2 ⟨l,l',P,P',rfl,rfl,h,h1,h2,h'⟩
 |[],_,_,[],_,_,_,_,_,h,_,_,_,_=>h.elim
 |[],_,_,_::_::_,_,_,_,_,_,h,_,_,_,_=>h.elim
 |_::_,_,_,[],_,_,_,_,_,h,_,_,_,_=>h.elim
 |k0::ks,ks',k,c::cs,cs',l,l',P,P',h,h',hk,h1,h2=>by
  obtain⟨l1,l2,P1,P2,rfl,rfl,g1,g2,g3,g4⟩:=Kd.cons.1 h
  refine Kd.cons.2 ⟨l1,l2++l',P1,P2++P',by rw [Acg],by rw [Acg],g1,g2,fun x hx=>?_,Kd.join g4 h' (fun x hx=>hk x (Acy _ hx)) (fun x hx=>h1 x (Adk _ hx)) h2⟩
  rcases Ack.1 hx with q|q
  ·exact g3 x q
  ·exact fun e=>h2 x q (FZ e (hk k0 (Acu ..)))
theorem Kd.btw{R:RT} (hR:∀c l P,R c l P→l≠[]):∀{ks:List (List UInt8)}{cs:List Int}{l:List KV}{P:List Int},Kd R ks cs l P→l≠[]∧∀k∈ks,(∃x∈l,Lt x.1 k)∧∃x∈l,¬Lt x.1 k
 |[],[c],l,P,h=>⟨hR c l P h,fun k hk=>by cases hk⟩
 |[],[],l,P,h=>h.elim
 |[],_::_::_,l,P,h=>h.elim
 |_::_,[],l,P,h=>h.elim
 |k0::ks,c::cs,l,P,h=>by
  obtain⟨l1,l2,P1,P2,rfl,rfl,g1,g2,g3,g4⟩:=Kd.cons.1 h
  obtain⟨i1,i2⟩:=Kd.btw hR g4
  obtain⟨x1,r1,e1⟩:=Afa (hR _ _ _ g1)
  obtain⟨x2,r2,e2⟩:=Afa i1
  refine⟨by simp [e1],fun k hk=>?_⟩
  rcases Adb.1 hk with rfl|hk
  ·exact⟨⟨x1,by simp [e1],g2 x1 (by simp [e1])⟩,x2,by simp [e2],g3 x2 (by simp [e2])⟩
  ·obtain⟨⟨y,y1,y2⟩,z,z1,z2⟩:=i2 k hk
   exact⟨⟨y,Adk _ y1,y2⟩,z,Adk _ z1,z2⟩
def KL(R:RT) (ks:List (List UInt8)) (cs:List Int) (l:List KV) (P:List Int):Prop:=(ks=[]∧cs=[]∧l=[]∧P=[])∨∃ks' k,ks=ks'++[k]∧Kd R ks' cs l P∧(∀x∈l,Lt x.1 k)
def KR(R:RT) (ks:List (List UInt8)) (cs:List Int) (l:List KV) (P:List Int):Prop:=(ks=[]∧cs=[]∧l=[]∧P=[])∨∃k ks',ks=k::ks'∧Kd R ks' cs l P∧(∀x∈l,¬Lt x.1 k)
theorem KL.mono{R R':RT}{ks:List (List UInt8)}{cs:List Int}{l:List KV}{P:List Int} (h:KL R ks cs l P) (hR:∀c l Q,(∀k∈Q,k∈P)→R c l Q→R' c l Q):KL R' ks cs l P:=by
 rcases h with h|⟨ks',k,e,h1,h2⟩
 ·exact .inl h
 ·exact .inr ⟨ks',k,e,h1.mono hR,h2⟩
theorem KR.mono{R R':RT}{ks:List (List UInt8)}{cs:List Int}{l:List KV}{P:List Int} (h:KR R ks cs l P) (hR:∀c l Q,(∀k∈Q,k∈P)→R c l Q→R' c l Q):KR R' ks cs l P:=by
 rcases h with h|⟨ks',k,e,h1,h2⟩
 ·exact .inl h
 ·exact .inr ⟨ks',k,e,h1.mono hR,h2⟩
theorem KL.below{R:RT}{ks:List (List UInt8)}{cs:List Int}{l:List KV}{P:List Int} (h:KL R ks cs l P):∀x∈l,∃k∈ks,Lt x.1 k:=by
 rcases h with ⟨_,_,rfl,_⟩|⟨ks',k,rfl,h1,h2⟩
 ·exact fun x hx=>by cases hx
 ·exact fun x hx=>⟨k,by simp,h2 x hx⟩
theorem KR.QB{R:RT}{ks:List (List UInt8)}{cs:List Int}{l:List KV}{P:List Int} (h:KR R ks cs l P):∀x∈l,∃k∈ks,¬Lt x.1 k:=by
 rcases h with ⟨_,_,rfl,_⟩|⟨k,ks',rfl,h1,h2⟩
 ·exact fun x hx=>by cases hx
 ·exact fun x hx=>⟨k,by simp,h2 x hx⟩
theorem Kd.focus{R:RT}{ka km kb:List (List UInt8)}{ca cm cb:List Int}{l:List KV}{P:List Int} (h:Kd R (ka++km++kb) (ca++cm++cb) l P) (hk:KO (ka++km++kb)) (e1:ca.length=ka.length) (e2:cm.length=km.length+1):
  ∃l1 m l2 P1 Pm P2,l=l1++m++l2∧P=P1++Pm++P2∧KL R ka ca l1 P1∧Kd R km cm m Pm∧KR R kb cb l2 P2∧(∀k∈ka,∀x∈m,¬Lt x.1 k)∧∀k∈kb,∀x∈m,Lt x.1 k:=by
 have hlen:=h.len
 simp only [Acl] at hlen
 obtain⟨hk1,hk2,hk3⟩:=KO.app.1 hk
 obtain⟨hk4,hk5,hk6⟩:=KO.app.1 hk1
 have right:∀{cm:List Int}{km:List (List UInt8)}{l:List KV}{P:List Int},Kd R (km++kb) (cm++cb) l P→cm.length=km.length+1→KO (km++kb)→∃m l2 Pm P2,l=m++l2∧P=Pm++P2∧Kd R km cm m Pm∧KR R kb cb l2 P2∧∀k∈kb,∀x∈m,Lt x.1 k:=by
  intro cm km l P h e2 hk
  cases kb with
  |nil=>
   have hl:=h.len
   simp only [Ads,Acl] at hl h
   have:cb=[]:=Acm (by omega)
   subst this
   rw [Ads] at h
   exact⟨l,[],P,[],by simp,by simp,h,.inl ⟨rfl,rfl,rfl,rfl⟩,fun k hk=>by cases hk⟩
  |cons k kb=>
   obtain⟨q1,q2,q3⟩:=KO.app.1 hk
   obtain⟨l1,l2,P1,P2,rfl,rfl,g1,g2,g3,g4⟩:=h.split e2 (fun x hx=>q3 x hx k (Acu ..))
   refine⟨l1,l2,P1,P2,rfl,rfl,g1,.inr ⟨k,kb,rfl,g2,g4⟩,fun k' hk' x hx=>?_⟩
   rcases Adb.1 hk' with rfl|hk'
   ·exact g3 x hx
   ·exact FZ (g3 x hx) ((KO.cons.1 q2).2.2 k' hk')
 rcases List.eq_nil_or_concat ka with rfl|⟨ka',k,rfl⟩
 ·have:ca=[]:=Acm e1
  subst this
  simp only [Adt] at h hk
  obtain⟨m,l2,Pm,P2,rfl,rfl,g1,g2,g3⟩:=right h e2 hk
  exact⟨[],m,l2,[],Pm,P2,by simp,by simp,.inl ⟨rfl,rfl,rfl,rfl⟩,g1,g2,fun k hk=>(by cases hk),g3⟩
 ·have h:Kd R (ka'++k::(km++kb)) (ca++(cm++cb)) l P:=by simpa using h
  have hk:KO (ka'++k::(km++kb)):=by simpa using hk
  obtain⟨q1,q2,q3⟩:=KO.app.1 hk
  obtain⟨l1,l2,P1,P2,rfl,rfl,g1,g2,g3,g4⟩:=h.split (by simpa using e1) (fun x hx=>q3 x hx k (Acu ..))
  obtain⟨m,l2,Pm,P2,rfl,rfl,f1,f2,f3⟩:=right g2 e2 (KO.cons.1 q2).2.1
  refine⟨l1,m,l2,P1,Pm,P2,by simp,by simp,.inr ⟨ka',k,by simp,g1,g3⟩,f1,f2,fun k' hk' x hx=>?_,f3⟩
  have hx':=g4 x (Adh _ hx)
  rcases Ack.1 (show k'∈ka'++[k] by simpa using hk') with q|q
  ·exact fun e=>hx' (FZ e (q3 k' q k (Acu ..)))
  ·rw [Acv.1 q];exact hx'
theorem Kd.I8{R:RT}{ka km kb:List (List UInt8)}{ca cm cb:List Int}{l1 m l2:List KV}{P1 Pm P2:List Int} (h1:KL R ka ca l1 P1) (h2:Kd R km cm m Pm) (h3:KR R kb cb l2 P2) (hk:KO (ka++km++kb))
  (ha:∀k∈ka,∀x∈m,¬Lt x.1 k) (hb:∀k∈kb,∀x∈m,Lt x.1 k):Kd R (ka++km++kb) (ca++cm++cb) (l1++m++l2) (P1++Pm++P2):=by
 obtain⟨hk1,hk2,hk3⟩:=KO.app.1 hk
 obtain⟨hk4,hk5,hk6⟩:=KO.app.1 hk1
 have right:Kd R (km++kb) (cm++cb) (m++l2) (Pm++P2):=by
  rcases h3 with ⟨rfl,rfl,rfl,rfl⟩|⟨k,ks',rfl,g1,g2⟩
  ·simpa using h2
  ·exact h2.join g1 (fun x hx=>hk3 x (Adk _ hx) k (Acu ..)) (fun x hx=>hb k (Acu ..) x hx) g2
 rcases h1 with ⟨rfl,rfl,rfl,rfl⟩|⟨ks',k,rfl,g1,g2⟩
 ·simpa using right
 ·have hl2:∀x∈l2,¬Lt x.1 k:=fun x hx=>by
   obtain⟨k',q1,q2⟩:=h3.QB x hx
   exact fun e=>q2 (FZ e (hk3 k (by simp) k' q1))
  have:=g1.join right (k:=k) (fun x hx=>(KO.app.1 hk4).2.2 x hx k (by simp)) g2 (fun x hx=>(Ack.1 hx).elim (ha k (by simp) x) (hl2 x))
  simpa using this
def Nd(s:PD) (R:RT) (lf:Bool) (n:AF) (l:List KV) (Q:List Int):Prop:=n.leaf=lf∧if lf=true then Lf s n.keys n.vals l Q else Kd R n.keys n.kids l Q
def Tr(s:PD):Nat→RT
 |0,_,_,_=>False
 |h+1,k,l,P=>∃n Q,At s k n∧n.keys≠[]∧P=k::Q∧Nd s (Tr s h) (decide (h=0)) n l Q
theorem Nd.leaf{s:PD}{R:RT}{n:AF}{l:List KV}{Q:List Int} (h:Nd s R true n l Q):n.leaf=true∧Lf s n.keys n.vals l Q:=by
 obtain⟨h1,h2⟩:=h;rw [if_pos rfl] at h2;exact⟨h1,h2⟩
theorem Nd.inner{s:PD}{R:RT}{n:AF}{l:List KV}{Q:List Int} (h:Nd s R false n l Q):n.leaf=false∧Kd R n.keys n.kids l Q:=by
 obtain⟨h1,h2⟩:=h;rw [if_neg (by decide)] at h2;exact⟨h1,h2⟩
theorem Nd.mkl{s:PD}{R:RT}{n:AF}{l:List KV}{Q:List Int} (h1:n.leaf=true) (h2:Lf s n.keys n.vals l Q):Nd s R true n l Q:=⟨h1,by rw [if_pos rfl];exact h2⟩
theorem Nd.mki{s:PD}{R:RT}{n:AF}{l:List KV}{Q:List Int} (h1:n.leaf=false) (h2:Kd R n.keys n.kids l Q):Nd s R false n l Q:=⟨h1,by rw [if_neg (by decide)];exact h2⟩
theorem Kd.all{R:RT}{S:Int→Prop} (hR:∀c l P,R c l P→∀p∈P,S p):∀{ks:List (List UInt8)}{cs:List Int}{l:List KV}{P:List Int},Kd R ks cs l P→∀p∈P,S p
 |[],[c],l,P,h=>hR c l P h
 |[],[],l,P,h=>h.elim
 |[],_::_::_,l,P,h=>h.elim
 |_::_,[],l,P,h=>h.elim
 |k::ks,c::cs,l,P,h=>by
  obtain⟨l1,l2,P1,P2,rfl,rfl,h1,h2,h3,h4⟩:=Kd.cons.1 h
  intro p hp
  exact(Ack.1 hp).elim (hR _ _ _ h1 p) (Kd.all hR h4 p)
theorem Tr.live{s:PD}:∀{h:Nat}{k:Int}{l:List KV}{P:List Int},Tr s h k l P→∀p∈P,Bl s p
 |0,k,l,P,h=>h.elim
 |h+1,k,l,P,⟨n,Q,h1,h2,e,h3⟩=>by
  subst e
  intro p hp
  rcases Adb.1 hp with rfl|hp
  ·exact h1.liv
  ·by_cases e:h=0
   ·rw [decide_eq_true e] at h3;exact h3.leaf.2.live p hp
   ·rw [decide_eq_false e] at h3;exact Kd.all (fun c l P q=>Tr.live q) h3.inner.2 p hp
theorem Nd.live{s:PD}{h:Nat}{lf:Bool}{n:AF}{l:List KV}{Q:List Int} (h3:Nd s (Tr s h) lf n l Q):∀p∈Q,Bl s p:=by
 cases lf with
 |true=>exact h3.leaf.2.live
 |false=>exact Kd.all (fun c l P q=>Tr.live q) h3.inner.2
theorem Tr.ne{s:PD}:∀{h:Nat}{k:Int}{l:List KV}{P:List Int},Tr s h k l P→l≠[]
 |0,k,l,P,h=>h.elim
 |h+1,k,l,P,⟨n,Q,h1,h2,e,h3⟩=>by
  by_cases e:h=0
  ·rw [decide_eq_true e] at h3
   have:=h3.leaf.2.len.2
   intro q
   rw [q] at this
   exact h2 (Acm this.symm)
  ·rw [decide_eq_false e] at h3
   exact(Kd.btw (fun c l P q=>Tr.ne q) h3.inner.2).1
def Fs(s t:PD) (P:List Int):Prop:=∀p∈P,t.kind p=s.kind p∧t.bytes p=s.bytes p
theorem Nd.mono{s t:PD}{R R':RT}{lf:Bool}{n:AF}{l:List KV}{Q:List Int} (h:Nd s R lf n l Q) (hs:Fs s t Q) (hR:∀c l P,(∀p∈P,p∈Q)→R c l P→R' c l P):Nd t R' lf n l Q:=by
 cases lf with
 |true=>exact .mkl h.leaf.1 (h.leaf.2.stay hs)
 |false=>exact .mki h.inner.1 (h.inner.2.mono hR)
theorem Tr.stay{s t:PD}:∀{h:Nat}{k:Int}{l:List KV}{P:List Int},Tr s h k l P→Fs s t P→Tr t h k l P
 |0,k,l,P,h,_=>h.elim
 |h+1,k,l,P,⟨n,Q,h1,h2,e,h3⟩,hs=>by
  subst e
  exact⟨n,Q,h1.stay (hs k (Acu ..)),h2,rfl,h3.mono (fun p hp=>hs p (Acy _ hp)) (fun c l P hP q=>q.stay (fun p hp=>hs p (Acy _ (hP p hp))))⟩
theorem Nd.stay{s t:PD}{h:Nat}{lf:Bool}{n:AF}{l:List KV}{Q:List Int} (h3:Nd s (Tr s h) lf n l Q) (hs:Fs s t Q):Nd t (Tr t h) lf n l Q:=
 h3.mono hs (fun _ _ _ hP q=>q.stay (fun p hp=>hs p (hP p hp)))
theorem KL.stay{s t:PD}{h:Nat}{ks:List (List UInt8)}{cs:List Int}{l:List KV}{Q:List Int} (h3:KL (Tr s h) ks cs l Q) (hs:Fs s t Q):KL (Tr t h) ks cs l Q:=
 h3.mono (fun _ _ _ hP q=>q.stay (fun p hp=>hs p (hP p hp)))
theorem KR.stay{s t:PD}{h:Nat}{ks:List (List UInt8)}{cs:List Int}{l:List KV}{Q:List Int} (h3:KR (Tr s h) ks cs l Q) (hs:Fs s t Q):KR (Tr t h) ks cs l Q:=
 h3.mono (fun _ _ _ hP q=>q.stay (fun p hp=>hs p (hP p hp)))
theorem Mv.same{s t:PD}{A B Q:List Int}{c:Nat} (h:Mv s t A B c) (h1:∀p∈Q,Bl s p) (h2:∀p∈Q,p∉A):Fs s t Q:=fun p hp=>h.st p (h1 p hp) (h2 p hp)
theorem Nd.join{s:PD}{R:RT} (hR:∀c l P,R c l P→l≠[]) {lf:Bool}{a b:AF}{key:List UInt8}{l1 l2:List KV}{Q1 Q2:List Int} (ha:Nd s R lf a l1 Q1) (hb:Nd s R lf b l2 Q2) (sa:A6 a=true) (sb:A6 b=true)
  (h1:∀x∈l1,Lt x.1 key) (h2:∀x∈l2,¬Lt x.1 key) (hk:1≤key.length∧key.length≤64):
  Nd s R lf (Cj a b key) (l1++l2) (Q1++Q2)∧A6 (Cj a b key)=true∧A5 (Cj a b key)+2≤A5 a+A5 b+(if lf=true then 0 else 65)∧(Cj a b key).leaf=lf∧
  ((Cj a b key).keys=[]→lf=true∧a.keys=[]∧b.keys=[]):=by
 cases lf with
 |true=>
  obtain⟨a1,a2⟩:=ha.leaf
  obtain⟨b1,b2⟩:=hb.leaf
  have ea:=Ed sa a1
  have eb:=Ed sb b1
  have ka:=a2.keys
  have kb:=b2.keys
  have e:Cj a b key=⟨true,a.keys++b.keys,a.vals++b.vals,[]⟩:=by unfold Cj;rw [if_pos a1]
  rw [ea] at sa
  rw [eb] at sb
  obtain⟨s1,s2,s3⟩:=CJ.1 sa
  obtain⟨t1,t2,t3⟩:=CJ.1 sb
  have hso:A6 ⟨true,a.keys++b.keys,a.vals++b.vals,[]⟩=true:=by
   refine CJ.2 ⟨KO.app.2 ⟨s1,t1,fun x hx y hy=>?_⟩,by simp [s2,t2],fun v hv=>(Ack.1 hv).elim (s3 v) (t3 v)⟩
   rw [ka] at hx
   rw [kb] at hy
   obtain⟨x',hx',rfl⟩:=Agl.1 hx
   obtain⟨y',hy',rfl⟩:=Agl.1 hy
   exact Ij (h1 x' hx') (h2 y' hy')
  rw [e]
  refine⟨.mkl rfl (a2.join b2),hso,?_,rfl,fun q=>⟨rfl,List.append_eq_nil_iff.1 q⟩⟩
  have za:=(congrArg A5 ea).trans (size_leaf s2)
  have zb:=(congrArg A5 eb).trans (size_leaf t2)
  rw [za,zb,size_leaf (by simp [s2,t2]),Dw,Dw,Acl,if_pos rfl]
  omega
 |false=>
  obtain⟨a1,a2⟩:=ha.inner
  obtain⟨b1,b2⟩:=hb.inner
  have ea:=Ec sa a1
  have eb:=Ec sb b1
  have e:Cj a b key=⟨false,a.keys++[key]++b.keys,[],a.kids++b.kids⟩:=by unfold Cj;rw [if_neg (by rw [a1];decide)]
  have ka:=(Kd.btw hR a2).2
  have kb:=(Kd.btw hR b2).2
  rw [ea] at sa
  rw [eb] at sb
  obtain⟨s1,s2,s3⟩:=Cd.1 sa
  obtain⟨t1,t2,t3⟩:=Cd.1 sb
  have ka':∀k∈a.keys,Lt k key:=fun k q=>by
   obtain⟨-,x,x1,x2⟩:=ka k q
   exact Me x2 (h1 x x1)
  have kb':∀k∈b.keys,Lt key k:=fun k q=>by
   obtain⟨⟨x,x1,x2⟩, -⟩:=kb k q
   exact Me (h2 x x1) x2
  have hso:A6 ⟨false,a.keys++[key]++b.keys,[],a.kids++b.kids⟩=true:=by
   refine Cd.2 ⟨?_,by simp [s2,t2];omega,fun v hv=>(Ack.1 hv).elim (s3 v) (t3 v)⟩
   rw [Acg]
   refine KO.app.2 ⟨s1,KO.cons.2 ⟨hk,t1,kb'⟩,fun x hx y hy=>?_⟩
   rcases Adb.1 hy with rfl|hy
   ·exact ka' x hx
   ·exact FZ (ka' x hx) (kb' y hy)
  rw [e]
  refine⟨.mki rfl ?_,hso,?_,rfl,fun q=>by simp at q⟩
  ·show Kd R (a.keys++[key]++b.keys) (a.kids++b.kids) _ _
   rw [Acg]
   exact a2.join b2 ka' h1 h2
  ·have za:=(congrArg A5 ea).trans size_inner
   have zb:=(congrArg A5 eb).trans size_inner
   rw [za,zb,size_inner,Dw,Dw,Acl,Acl,Acl,if_neg (by decide)]
   simp only [C6,Afs]
   omega
theorem SV{n:AF} (hc:C9 n=true):(AW n).leaf=n.leaf:=by
 unfold AW;rw [if_pos hc];cases h:n.leaf<;>simp
theorem SM{n:AF} (hc:C9 n=true):(Ba n).leaf=n.leaf:=by
 unfold Ba;rw [if_pos hc];cases h:n.leaf<;>simp
theorem U6{n:AF} (hc:C9 n=true):BB n∈n.keys:=by
 obtain⟨h1, -⟩:=Ny n
 unfold BB
 rw [if_pos hc]
 simp only [C9,Acd,decide_eq_true_eq] at hc
 have hm:=hc.2
 have:(if n.leaf=true then atD n else at2 n - 1)<n.keys.length:=by
  cases hl:n.leaf with
  |true=>rw [hl] at hm;simp only [if_true] at hm⊢;omega
  |false=>rw [hl] at hm;simp only [Acj,if_false,at2] at hm⊢;omega
 rw [Acf,Ace this]
 exact Ada this
theorem MF{n:AF} (h:By n=true):A6 n=true:=by simp only [By,Acd] at h;exact h.1
theorem Nd.split{s:PD}{R:RT}{lf:Bool}{n:AF}{l:List KV}{Q:List Int} (hn:Nd s R lf n l Q) (hs:A6 n=true) (hc:C9 n=true) (hH:NP n):
  ∃l1 l2 Q1 Q2,l=l1++l2∧Q=Q1++Q2∧Nd s R lf (AW n) l1 Q1∧Nd s R lf (Ba n) l2 Q2∧(∀x∈l1,Lt x.1 (BB n))∧(∀x∈l2,¬Lt x.1 (BB n))∧1≤(BB n).length∧(BB n).length≤64:=by
 have hkm:=U6 hc
 have eL:=SV hc
 have eR:=SM hc
 have sL:=MF hH.r1
 have sR:=MF hH.r2
 have hall:=hH.all
 have hlo:∀k∈(AW n).keys,Lt k (BB n):=fun k hk=>by
  obtain⟨i,hi,rfl⟩:=Aei hk
  exact hH.lo i hi
 have hhi:∀k∈(Ba n).keys,¬Lt k (BB n):=fun k hk=>by
  obtain⟨i,hi,rfl⟩:=Aei hk
  rcases hH.hi i hi with q|⟨q,_⟩
  ·exact Uq q
  ·rw [q];exact KF
 cases lf with
 |true=>
  obtain⟨n1,n2⟩:=hn.leaf
  have ho:1≤(BB n).length∧(BB n).length≤64:=by
   rw [Ed hs n1] at hs
   exact(CJ.1 hs).1.1 _ hkm
  rw [n1] at eL eR
  unfold Cj at hall
  rw [if_pos eL] at hall
  have k1:(AW n).keys++(Ba n).keys=n.keys:=congrArg AF.keys hall
  have k2:(AW n).vals++(Ba n).vals=n.vals:=congrArg AF.vals hall
  rw [←k1,←k2] at n2
  have hL:(AW n).vals.length=(AW n).keys.length:=by
   rw [Ed sL eL] at sL
   exact(CJ.1 sL).2.1
  obtain⟨l1,l2,Q1,Q2,rfl,rfl,g1,g2⟩:=n2.split hL
  refine⟨l1,l2,Q1,Q2,rfl,rfl,.mkl eL g1,.mkl eR g2,fun x hx=>hlo _ ?_,fun x hx=>hhi _ ?_,ho⟩
  ·rw [g1.keys];exact Aff hx
  ·rw [g2.keys];exact Aff hx
 |false=>
  obtain⟨n1,n2⟩:=hn.inner
  have ho:1≤(BB n).length∧(BB n).length≤64:=by
   rw [Ec hs n1] at hs
   exact(Cd.1 hs).1.1 _ hkm
  rw [n1] at eL eR
  unfold Cj at hall
  rw [if_neg (by rw [eL];decide)] at hall
  have k1:(AW n).keys++[BB n]++(Ba n).keys=n.keys:=congrArg AF.keys hall
  have k2:(AW n).kids++(Ba n).kids=n.kids:=congrArg AF.kids hall
  rw [←k1,←k2,Acg] at n2
  have hL:(AW n).kids.length=(AW n).keys.length+1:=by
   rw [Ec sL eL] at sL
   exact(Cd.1 sL).2.1
  obtain⟨l1,l2,Q1,Q2,rfl,rfl,g1,g2,g3,g4⟩:=Kd.split n2 hL hlo
  exact⟨l1,l2,Q1,Q2,rfl,rfl,.mki eL g1,.mki eR g2,g3,g4,ho⟩
def Out(s:PD) (h z:Nat) (m:MdD) (l:List KV) (P:List Int):Prop:=
 (m.other<0∧∃n Q,At s m.page n∧m.size=A5 n∧P=m.page::Q∧z≤n.keys.length∧Nd s (Tr s h) (decide (h=0)) n l Q)∨
 (0≤m.other∧m.size=256∧∃l1 l2 P1 P2,l=l1++l2∧P=P1++P2∧Tr s (h+1) m.page l1 P1∧Tr s (h+1) m.other l2 P2∧(∀x∈l1,Lt x.1 m.key)∧(∀x∈l2,¬Lt x.1 m.key)∧1≤m.key.length∧m.key.length≤64)
theorem Out.stay{s t:PD}{h z:Nat}{m:MdD}{l:List KV}{P:List Int} (o:Out s h z m l P) (hs:Fs s t P):Out t h z m l P:=by
 rcases o with ⟨h1,n,Q,h2,h3,rfl,h4,h5⟩|⟨h1,h2,l1,l2,P1,P2,rfl,rfl,h3,h4,h5⟩
 ·exact .inl ⟨h1,n,Q,h2.stay (hs _ (Acu ..)),h3,rfl,h4,h5.stay (fun p hp=>hs p (Acy _ hp))⟩
 ·exact .inr ⟨h1,h2,l1,l2,P1,P2,rfl,rfl,h3.stay (fun p hp=>hs p (Adh _ hp)),h4.stay (fun p hp=>hs p (Adk _ hp)),h5⟩
theorem Out.live{s:PD}{h z:Nat}{m:MdD}{l:List KV}{P:List Int} (o:Out s h z m l P):∀p∈P,Bl s p:=by
 rcases o with ⟨h1,n,Q,h2,h3,rfl,h4,h5⟩|⟨h1,h2,l1,l2,P1,P2,rfl,rfl,h3,h4,h5⟩
 ·intro p hp
  rcases Adb.1 hp with rfl|hp
  ·exact h2.liv
  ·exact h5.live p hp
 ·exact fun p hp=>(Ack.1 hp).elim (h3.live p) (h4.live p)
theorem Out.tr{s:PD}{h z:Nat}{m:MdD}{l:List KV}{P:List Int} (o:Out s h z m l P) (h1:m.other<0) (hz:1≤z):Tr s (h+1) m.page l P:=by
 rcases o with ⟨h1,n,Q,h2,h3,rfl,h4,h5⟩|⟨h2,_⟩
 ·exact⟨n,Q,h2,fun e=>by rw [e] at h4;simp at h4;omega,rfl,h5⟩
 ·omega
theorem Gx{α:Type}{l:List α}:l≠[]↔1≤l.length:=by cases l<;>simp
theorem F8{s:PD} (hG:Pgr.Good s) {h z:Nat}{n:AF}{l:List KV}{Q:List Int}{k:Int} (hn:Nd s (Tr s h) (decide (h=0)) n l Q) (hs:A6 n=true) (hh:A5 n≤if n.leaf=true then 340 else 440) (hk:Bl s k) (hz:z≤n.keys.length)
  (hnd:(k::Q).Nodup):
  ((Bc s k n).2.2=0∧∃P',Mv s (Bc s k n).1 (k::Q) P' 2∧Out (Bc s k n).1 h z (Bc s k n).2.1 l P')∨((Bc s k n).2.2=190∧s.free<2):=by
 obtain⟨hkQ,hQ⟩:=Afr.1 hnd
 have hl:=hn.live
 have hkq:∀p∈Q,p∉ [k]:=fun p hp q=>hkQ (Acv.1 q▸hp)
 rcases Z1 hG hs (fun hz=>ZA hh (Vp hs hz)) hk with ⟨h1,⟨p,e,h2,h3⟩|⟨hc,hH,p,q,e,h0,h2,h3,h4⟩⟩|h1
 ·refine .inl ⟨h1,p::Q,h2.frame hl hQ hkq,.inl ?_⟩
  rw [e]
  exact⟨(by show(-1:Int)<0;decide),n,Q,h3,rfl,rfl,hz,hn.stay (h2.same hl hkq)⟩
 ·obtain⟨l1,l2,Q1,Q2,rfl,rfl,g1,g2,g3,g4,g5⟩:=(hn.stay (h2.same hl hkq)).split hs hc hH
  refine .inl ⟨h1,(p::Q1)++(q::Q2),(h2.frame hl hQ hkq).perm (Adp _) ?_,.inr ?_⟩
  ·refine Adw.2 fun a=>?_
   simp only [Aee,Aem,Age];omega
  ·rw [e]
   exact⟨h0,rfl,l1,l2,_,_,rfl,rfl,⟨_,Q1,h3,Gx.2 hH.n1,rfl,g1⟩,⟨_,Q2,h4,Gx.2 hH.n2,rfl,g2⟩,g3,g4,g5⟩
 ·exact .inr h1
section
section
variable {α:Type}
theorem Jb(l:List α) {i:Nat} (h:i<l.length):∃a x b,l=a++[x]++b∧a.length=i:=⟨l.take i,l[i],l.drop (i+1),by simp,by simp;omega⟩
theorem EI{a b:List α}{x d:α}:(a++[x]++b).getD a.length d=x:=by simp [Afw]
theorem Gg{a b:List α}{x y:α}:(a++[x]++b).set a.length y=a++[y]++b:=by simp
theorem IA{a b:List α}{x:α}:(a++[x]++b).eraseIdx a.length=a++b:=by simp [List.eraseIdx_append]
theorem Nn{a b:List α}{y:α}:BX (a++b) a.length y=a++[y]++b:=by simp [BX]
theorem V9{a b:List α}{x y:α}:BX (a++[x]++b) (a.length+1) y=a++[x,y]++b:=by
 have e:a.length+1=(a++[x]).length:=by simp
 unfold BX
 rw [e,Ahc,Agp];simp
end
theorem Q4{t:PD} (hG:Pgr.Good t) {h:Nat}{k c:Int}{a b:List (List UInt8)}{ca cb:List Int}{md:MdD}{l1 m' l2:List KV}{P1 Pm P2:List Int}
  (hat:At t k ⟨false,a++b,[],ca++[c]++cb⟩) (ea:ca.length=a.length) (hne:a++b≠[]) (hl:KL (Tr t (h+1)) a ca l1 P1) (hr:KR (Tr t (h+1)) b cb l2 P2) (ho:Out t h 1 md m' Pm)
  (ba:∀k∈a,∀x∈m',¬Lt x.1 k) (bb:∀k∈b,∀x∈m',Lt x.1 k) (hnd:(k::(P1++Pm++P2)).Nodup):
  ((Cm t k ⟨false,a++b,[],ca++[c]++cb⟩ a.length md).2.2=0∧∃P',Mv t (Cm t k ⟨false,a++b,[],ca++[c]++cb⟩ a.length md).1 (k::(P1++Pm++P2)) P' 2∧
   Out (Cm t k ⟨false,a++b,[],ca++[c]++cb⟩ a.length md).1 (h+1) 1 (Cm t k ⟨false,a++b,[],ca++[c]++cb⟩ a.length md).2.1 (l1++m'++l2) P')∨
  ((Cm t k ⟨false,a++b,[],ca++[c]++cb⟩ a.length md).2.2=190∧t.free<2):=by
 have hs:=Cd.1 hat.sound
 obtain⟨hko,hlen,hrng⟩:=hs
 have hsz:=hat.size
 rw [size_inner] at hsz
 have hd:decide (h+1=0)=false:=decide_eq_false (Aez _)
 have hkv:∀p∈P1++Pm++P2,Bl t p:=fun p hp=>by
  rcases Ack.1 hp with hp|hp
  ·rcases Ack.1 hp with hp|hp
   ·rcases hl with ⟨_,_,_,e⟩|⟨_,_,_,e,_⟩
    ·rw [e] at hp;cases hp
    ·exact Kd.all (fun c l P q=>Tr.live q) e p hp
   ·exact ho.live p hp
  ·rcases hr with ⟨_,_,_,e⟩|⟨_,_,_,e,_⟩
   ·rw [e] at hp;cases hp
   ·exact Kd.all (fun c l P q=>Tr.live q) e p hp
 have hkr:∀p,Bl t p→0≤p∧p≤8191:=fun p hp=>Ej hG hp
 have e0:(ca++[c]++cb).getD a.length 0=c:=by rw [←ea];exact EI
 have hz1:1≤(a++b).length:=Gx.1 hne
 have hsz':A5 (⟨false,a++b,[],ca++[c]++cb⟩:AF)≤256:=hat.size
 unfold Cm
 simp only [e0]
 by_cases h1:c=md.page∧md.other<0
 ·rw [if_pos h1]
  obtain⟨h1,h2⟩:=h1
  subst h1
  refine .inl ⟨rfl,k::(P1++Pm++P2),?_,.inl ⟨(by show(-1:Int)<0;decide),_,P1++Pm++P2,hat,rfl,rfl,hz1,?_⟩⟩
  ·have:=(Mv.refl hG).frame (R:=k::(P1++Pm++P2)) (fun p hp=>(Adb.1 hp).elim (fun e=>e▸hat.liv) (hkv p)) hnd (fun p _ q=>by cases q)
   exact this.mono (by omega)
  ·rw [hd]
   refine .mki rfl ?_
   have:=Kd.I8 (km:=[]) (cm:=[md.page]) hl (Kd.one.2 (ho.tr h2 (Ach _))) hr (by simpa using hko) ba bb
   simpa using this
 ·rw [if_neg h1]
  by_cases h2:0≤md.other
  ·rw [if_pos h2]
   rcases ho with ⟨q,_⟩|⟨_,_,m1,m2,Q1,Q2,rfl,rfl,g1,g2,g3,g4,g5,g6⟩
   ·omega
   ·have e1:BX (a++b) a.length md.key=a++[md.key]++b:=Nn
    have e2:BX ((ca++[c]++cb).set a.length md.page) (a.length+1) md.other=ca++[md.page,md.other]++cb:=by rw [←ea,Gg,V9]
    simp only [e1,e2]
    obtain⟨x1,r1,f1⟩:=Afa g1.ne
    obtain⟨x2,r2,f2⟩:=Afa g2.ne
    obtain⟨ko1,ko2,ko3⟩:=KO.app.1 hko
    have ha':∀k∈a,Lt k md.key:=fun p hp=>Me (ba p hp x1 (by simp [f1])) (g3 x1 (by simp [f1]))
    have hb':∀k∈b,Lt md.key k:=fun p hp=>Me (g4 x2 (by simp [f2])) (bb p hp x2 (by simp [f2]))
    have hko':KO (a++[md.key]++b):=by
     rw [Acg]
     refine KO.app.2 ⟨ko1,KO.cons.2 ⟨⟨g5,g6⟩,ko2,hb'⟩,fun x hx y hy=>?_⟩
     rcases Adb.1 hy with rfl|hy
     ·exact ha' x hx
     ·exact ko3 x hx y hy
    obtain⟨n1,n1Q,n1a,_,n1e,_⟩:=id g1
    obtain⟨n2,n2Q,n2a,_,n2e,_⟩:=id g2
    have hso:A6 ⟨false,a++[md.key]++b,[],ca++[md.page,md.other]++cb⟩=true:=by
     refine Cd.2 ⟨hko',?_,fun p hp=>?_⟩
     ·simp only [Acl,Acs,Ael] at hlen⊢;omega
     ·rcases Ack.1 hp with hp|hp
      ·rcases Ack.1 hp with hp|hp
       ·exact hrng p (by simp [hp])
       ·rcases Adb.1 hp with rfl|hp
        ·exact hkr _ n1a.liv
        ·rw [Acv.1 hp];exact hkr _ n2a.liv
      ·exact hrng p (by simp [hp])
    refine F8 hG (h:=h+1) (z:=1) ?_ hso ?_ hat.liv ?_ hnd
    ·rw [hd]
     exact .mki rfl (Kd.I8 (km:=[md.key]) (cm:=[md.page,md.other]) hl (Kd.cons.2 ⟨m1,m2,Q1,Q2,rfl,rfl,g1,g3,g4,Kd.one.2 g2⟩) hr hko' ba bb)
    ·simp only [Acj,if_false]
     rw [size_inner]
     simp only [Acl,Acs,Ael,Dw,C6] at hsz⊢
     omega
    ·simp;omega
  ·rw [if_neg h2]
   have e2:(ca++[c]++cb).set a.length md.page=ca++[md.page]++cb:=by rw [←ea,Gg]
   simp only [e2]
   have htr:=ho.tr (by omega) (Ach _)
   obtain⟨n1,n1Q,n1a,_,n1e,_⟩:=id htr
   have hso:A6 ⟨false,a++b,[],ca++[md.page]++cb⟩=true:=by
    refine Cd.2 ⟨hko,?_,fun p hp=>?_⟩
    ·simp only [Acl,Acs,Ael] at hlen⊢;omega
    ·rcases Ack.1 hp with hp|hp
     ·rcases Ack.1 hp with hp|hp
      ·exact hrng p (by simp [hp])
      ·rw [Acv.1 hp];exact hkr _ n1a.liv
     ·exact hrng p (by simp [hp])
   refine F8 hG (h:=h+1) (z:=1) ?_ hso ?_ hat.liv hz1 hnd
   ·rw [hd]
    refine .mki rfl ?_
    have:=Kd.I8 (km:=[]) (cm:=[md.page]) hl (Kd.one.2 htr) hr (by simpa using hko) ba bb
    simpa using this
   ·simp only [Acj,if_false]
    rw [size_inner]
    simp only [Acl,Acs,Ael] at hsz⊢
    omega
theorem KL.live{s:PD}{h:Nat}{ks:List (List UInt8)}{cs:List Int}{l:List KV}{Q:List Int} (hl:KL (Tr s h) ks cs l Q):∀p∈Q,Bl s p:=by
 rcases hl with ⟨_,_,_,e⟩|⟨_,_,_,e,_⟩
 ·rw [e];exact fun p hp=>by cases hp
 ·exact Kd.all (fun c l P q=>Tr.live q) e
theorem KR.live{s:PD}{h:Nat}{ks:List (List UInt8)}{cs:List Int}{l:List KV}{Q:List Int} (hl:KR (Tr s h) ks cs l Q):∀p∈Q,Bl s p:=by
 rcases hl with ⟨_,_,_,e⟩|⟨_,_,_,e,_⟩
 ·rw [e];exact fun p hp=>by cases hp
 ·exact Kd.all (fun c l P q=>Tr.live q) e
theorem ON{s:PD}{a b vs:List (List UInt8)}{key:List UInt8}{l:List KV}{Q:List Int} (h:Lf s (a++key::b) vs l Q):
  ∃va c vb l1 v0 l2 P1 Pv P2,vs=va++[c]++vb∧va.length=a.length∧l=l1++[(key,v0)]++l2∧Q=P1++Pv++P2∧Lf s a va l1 P1∧Ce s c v0 Pv∧Lf s b vb l2 P2:=by
 have hl:=h.len.1
 obtain⟨va,c,vb,rfl,e⟩:=Jb vs (i:=a.length) (by rw [hl];simp)
 rw [Acg] at h
 obtain⟨l1,l',P1,P',rfl,rfl,h1,h2⟩:=h.split e
 obtain⟨l0,l2,Pv,P2,rfl,rfl,h3,h4⟩:=Lf.split (ks:=[key]) (vs:=[c]) h2 rfl
 obtain⟨v0,rfl,h5⟩:=h3.AaQ
 exact⟨va,c,vb,l1,v0,l2,P1,Pv,P2,rfl,e,by simp,by simp,h1,h5,h4⟩
theorem O0{s:PD}{a b vs:List (List UInt8)}{l:List KV}{Q:List Int} (h:Lf s (a++b) vs l Q):
  ∃va vb l1 l2 P1 P2,vs=va++vb∧va.length=a.length∧l=l1++l2∧Q=P1++P2∧Lf s a va l1 P1∧Lf s b vb l2 P2:=by
 have hl:=h.len.1
 have e:vs=vs.take a.length++vs.drop a.length:=(Agv _ _).symm
 have e2:(vs.take a.length).length=a.length:=by simp at hl⊢;omega
 rw [e] at h
 obtain⟨l1,l2,P1,P2,rfl,rfl,h1,h2⟩:=h.split e2
 exact⟨_,_,l1,l2,P1,P2,e,e2,rfl,rfl,h1,h2⟩
theorem I6{s:PD}{a va:List (List UInt8)}{key:List UInt8}{l1:List KV}{P1:List Int} (h:Lf s a va l1 P1) (ha:∀x∈a,Lt x key):∀x∈l1,Lt x.1 key:=fun x hx=>ha _ (by rw [h.keys];exact Aff hx)
theorem Ji{s:PD}{a va:List (List UInt8)}{key:List UInt8}{l1:List KV}{P1:List Int} (h:Lf s a va l1 P1) (ha:∀x∈a,Lt key x):∀x∈l1,Lt key x.1:=fun x hx=>ha _ (by rw [h.keys];exact Aff hx)
theorem VF{key cell v:List UInt8} (hk:1≤key.length∧key.length≤64):∀(h:Nat) {s:PD}{k:Int}{l:List KV}{P Pc:List Int},Pgr.Good s→Tr s (h+1) k l P→(P++Pc).Nodup→Ce s cell v Pc→
  ((BY s k key cell (h+1)).2.2.2=0∧(BY s k key cell (h+1)).2.2.1= !isK l key∧∃P',Mv s (BY s k key cell (h+1)).1 (P++Pc) P' (2*(h+1))∧Out (BY s k key cell (h+1)).1 h 1 (BY s k key cell (h+1)).2.1 (D5 l key v) P')∨
  ((BY s k key cell (h+1)).2.2.2=190∧s.free<2*(h+1))
 |0,s,k,l,P,Pc,hG,⟨n,Q,hat,hne,eP,hn⟩,hnd,hc=>by
  subst eP
  rw [decide_eq_true rfl] at hn
  obtain⟨n1,n2⟩:=hn.leaf
  have ef:=Ed hat.sound n1
  obtain⟨ks,vs,rfl⟩:∃ks vs,n=⟨true,ks,vs,[]⟩:=⟨_,_,ef⟩
  simp only at n2 hne
  obtain⟨hko,hvl,hv16⟩:=CJ.1 hat.sound
  have hlv:=hat.level (x:=((0+1:Nat):Int)) rfl
  have hlz:(A4 s k ((0+1:Nat):Int)).2=0:=by rw [hlv]
  have hln:(A4 s k ((0+1:Nat):Int)).1=⟨true,ks,vs,[]⟩:=by rw [hlv]
  have hsz:=hat.size
  rw [size_leaf hvl] at hsz
  have hcl:=hc.len
  have hQl:=n2.live
  have hPl:=hc.live
  rcases Ky hko (vs:=vs) key with ⟨a,b,rfl,hf,ha,hb⟩|⟨a,b,rfl,hf,ha,hb⟩
  ·rw [Te hlz hln hf]
   obtain⟨va,c,vb,l1,v0,l2,P1,Pv,P2,rfl,ev,rfl,rfl,g1,g2,g3⟩:=ON n2
   have e0:(va++[c]++vb).getD a.length []=c:=by rw [←ev];exact EI
   have e1:(va++[c]++vb).set a.length cell=va++[cell]++vb:=by rw [←ev];exact Gg
   simp only [e0,e1]
   have hnd':(k::(P1++Pc++P2)).Nodup∧Pv.Nodup∧∀p∈k::(P1++Pc++P2),p∉Pv:=by
    have hp:(k::(P1++Pv++P2)++Pc).Perm ((k::(P1++Pc++P2))++Pv):=Adw.2 fun a=>by
     simp only [Aee,Aem];omega
    obtain⟨q1,q2,q3⟩:=Afi.1 (hp.nodup_iff.1 hnd)
    exact⟨q1,q2,fun p h1 h2=>q3 p h1 p h2 rfl⟩
   obtain⟨q1,q2,q3⟩:=hnd'
   obtain⟨d1,d2⟩:=g2.AaB hG q2
   rw [if_neg (by rw [d1];decide)]
   have hR:∀p∈k::(P1++Pc++P2),Bl s p:=fun p hp=>by
    rcases Adb.1 hp with rfl|hp
    ·exact hat.liv
    ·rcases Ack.1 hp with hp|hp
     ·rcases Ack.1 hp with hp|hp
      ·exact hQl p (by simp [hp])
      ·exact hPl p hp
     ·exact hQl p (by simp [hp])
   have hsm:=d2.same hR q3
   have hl1:=I6 g1 ha
   have hl2:=Ji g3 hb
   have hput:D5 (l1++[(key,v0)]++l2) key v=l1++[(key,v)]++l2:=by rw [MX hl1 hl2,Xw]
   have hisk:isK (l1++[(key,v0)]++l2) key=true:=by rw [Ev hl1 hl2,Hw]
   have hLf:Lf (BO s c).1 (a++key::b) (va++[cell]++vb) (l1++[(key,v)]++l2) (P1++Pc++P2):=by
    have w1:=g1.stay (t:=(BO s c).1) (fun p hp=>hsm p (by simp [hp]))
    have w2:=hc.stay (t:=(BO s c).1) (fun p hp=>hsm p (by simp [hp]))
    have w3:=g3.stay (t:=(BO s c).1) (fun p hp=>hsm p (by simp [hp]))
    have:=w1.join ((Lf.one (k:=key) w2).join w3)
    simpa using this
   have hso:A6 ⟨true,a++key::b,va++[cell]++vb,[]⟩=true:=by
    refine CJ.2 ⟨hko,by simp at hvl⊢;omega,fun x hx=>?_⟩
    rcases Ack.1 hx with hx|hx
    ·rcases Ack.1 hx with hx|hx
     ·exact hv16 x (by simp [hx])
     ·rw [Acv.1 hx];exact hcl
    ·exact hv16 x (by simp [hx])
   have hnd2:Nd (BO s c).1 (Tr (BO s c).1 0) (decide (0=0)) ⟨true,a++key::b,va++[cell]++vb,[]⟩ (l1++[(key,v)]++l2) (P1++Pc++P2):=by
    rw [decide_eq_true rfl];exact .mkl rfl hLf
   have hzz:A5 (⟨true,a++key::b,va++[cell]++vb,[]⟩:AF)≤340:=by
    rw [size_leaf (by simp at hvl⊢;omega)]
    simp only [Acl,Acs,Ael,Dw,C6] at hsz⊢
    omega
   rcases F8 d2.gd (h:=0) (z:=1) hnd2 hso hzz (by unfold Bl;rw [(hsm k (by simp)).1];exact hat.liv) (by simp;omega) q1 with ⟨w1,P',w2,w3⟩|⟨w1,w2⟩
   ·refine .inl ⟨w1,by rw [hisk];rfl,P',?_,by rw [hput];exact w3⟩
    refine((d2.then w2 (Adp _) hR q1 q3).perm ?_ (Adp _)).mono (by omega)
    refine Adw.2 fun a=>?_
    simp only [Aee,Aem];omega
   ·exact .inr ⟨w1,by have:=d2.fr;omega⟩
  ·rw [TQ hlz hln hf]
   obtain⟨va,vb,l1,l2,P1,P2,rfl,ev,rfl,rfl,g1,g3⟩:=O0 n2
   have e0:BX (a++b) a.length key=a++[key]++b:=Nn
   have e1:BX (va++vb) a.length cell=va++[cell]++vb:=by rw [←ev];exact Nn
   simp only [e0,e1]
   have hl1:=I6 g1 ha
   have hl2:=Ji g3 hb
   have hput:D5 (l1++l2) key v=l1++[(key,v)]++l2:=by
    have:=MX (m:=[]) (v:=v) hl1 hl2
    rw [Ym,Ads] at this;exact this
   have hisk:isK (l1++l2) key=false:=by
    have:=Ev (m:=[]) hl1 hl2
    rw [OY,Ads] at this;exact this
   have hLf:Lf s (a++[key]++b) (va++[cell]++vb) (l1++[(key,v)]++l2) (P1++Pc++P2):=by
    have:=g1.join ((Lf.one (k:=key) hc).join g3)
    simpa using this
   have hko':KO (a++[key]++b):=by
    obtain⟨k1,k2,k3⟩:=KO.app.1 hko
    rw [Acg]
    refine KO.app.2 ⟨k1,KO.cons.2 ⟨hk,k2,hb⟩,fun x hx y hy=>?_⟩
    rcases Adb.1 hy with rfl|hy
    ·exact ha x hx
    ·exact k3 x hx y hy
   have hso:A6 ⟨true,a++[key]++b,va++[cell]++vb,[]⟩=true:=by
    refine CJ.2 ⟨hko',by simp at hvl⊢;omega,fun x hx=>?_⟩
    rcases Ack.1 hx with hx|hx
    ·rcases Ack.1 hx with hx|hx
     ·exact hv16 x (by simp [hx])
     ·rw [Acv.1 hx];exact hcl
    ·exact hv16 x (by simp [hx])
   have hnd2:Nd s (Tr s 0) (decide (0=0)) ⟨true,a++[key]++b,va++[cell]++vb,[]⟩ (l1++[(key,v)]++l2) (P1++Pc++P2):=by
    rw [decide_eq_true rfl];exact .mkl rfl hLf
   have hzz:A5 (⟨true,a++[key]++b,va++[cell]++vb,[]⟩:AF)≤340:=by
    rw [size_leaf (by simp at hvl⊢;omega)]
    simp only [Acl,Acs,Ael,Dw,C6] at hsz⊢
    omega
   have hp:(k::(P1++P2)++Pc).Perm (k::(P1++Pc++P2)):=Adw.2 fun a=>by
     simp only [Aee,Aem];omega
   rcases F8 hG (h:=0) (z:=1) hnd2 hso hzz hat.liv (by simp;omega) (hp.nodup_iff.1 hnd) with ⟨w1,P',w2,w3⟩|⟨w1,w2⟩
   ·exact .inl ⟨w1,by rw [hisk];rfl,P',(w2.perm hp (Adp _)).mono (by omega),by rw [hput];exact w3⟩
   ·exact .inr ⟨w1,by omega⟩
 |h+1,s,k,l,P,Pc,hG,⟨n,Q,hat,hne,eP,hn⟩,hnd,hc=>by
  subst eP
  rw [decide_eq_false (Aez _)] at hn
  obtain⟨n1,n2⟩:=hn.inner
  have ef:=Ec hat.sound n1
  obtain⟨ks,cs,rfl⟩:∃ks cs,n=⟨false,ks,[],cs⟩:=⟨_,_,ef⟩
  simp only at n2 hne
  obtain⟨hko,hcl,hrng⟩:=Cd.1 hat.sound
  have hlv:=hat.level (x:=((h+1+1:Nat):Int)) (by show false=_;exact(decide_eq_false (by omega)).symm)
  have hlz:(A4 s k ((h+1+1:Nat):Int)).2=0:=by rw [hlv]
  have hln:(A4 s k ((h+1+1:Nat):Int)).1=⟨false,ks,[],cs⟩:=by rw [hlv]
  obtain⟨a,b,rfl,hf,ha,hb⟩:=J0 hat.sound key
  rw [NO hlz hln hf]
  obtain⟨ca,c,cb,rfl,ec⟩:=Jb cs (i:=a.length) (by rw [hcl];simp;omega)
  have e0:(ca++[c]++cb).getD a.length 0=c:=by rw [←ec];exact EI
  simp only [e0]
  have n2':Kd (Tr s (h+1)) (a++[]++b) (ca++[c]++cb) l Q:=by simpa using n2
  obtain⟨l1,m,l2,P1,Pm,P2,rfl,rfl,g1,g2,g3,g4,g5⟩:=n2'.focus (by simpa using hko) ec rfl
  have hl1:∀x∈l1,Lt x.1 key:=fun x hx=>by
   obtain⟨p,p1,p2⟩:=g1.below x hx
   exact Ij p2 (ha p p1)
  have hl2:∀x∈l2,Lt key x.1:=fun x hx=>by
   obtain⟨p,p1,p2⟩:=g3.QB x hx
   exact Ij (hb p p1) p2
  have hp:(k::(P1++Pm++P2)++Pc).Perm ((Pm++Pc)++(k::(P1++P2))):=Adw.2 fun a=>by
     simp only [Aee,Aem];omega
  obtain⟨q1,q2,q3⟩:=Afi.1 (hp.nodup_iff.1 hnd)
  have q3':∀p∈k::(P1++P2),p∉Pm++Pc:=fun p h1 h2=>q3 p h2 p h1 rfl
  have hR:∀p∈k::(P1++P2),Bl s p:=fun p hp=>by
   rcases Adb.1 hp with rfl|hp
   ·exact hat.liv
   ·exact(Ack.1 hp).elim (g1.live p) (g3.live p)
  rcases VF hk h hG g2 q1 hc with ⟨w1,w2,P',w3,w4⟩|⟨w1,w2⟩
  ·rw [if_neg (by rw [w1];decide)]
   generalize BY s c key cell (h+1)=u at w1 w2 w3 w4⊢
   have hsm:=w3.same hR q3'
   have hput:D5 (l1++m++l2) key v=l1++D5 m key v++l2:=MX hl1 hl2
   have hisk:isK (l1++m++l2) key=isK m key:=Ev hl1 hl2
   have w5:=w3.frame hR q2 q3'
   have hp2:(P'++(k::(P1++P2))).Perm (k::(P1++P'++P2)):=Adw.2 fun a=>by
     simp only [Aee,Aem];omega
   have hat':=hat.stay (hsm k (Acu ..))
   rcases Q4 w3.gd hat' ec hne (g1.stay (fun p hp=>hsm p (by simp [hp]))) (g3.stay (fun p hp=>hsm p (by simp [hp]))) w4
    (fun p hp x hx=>by
     rcases Nq hx with rfl|hx
     ·exact ha p hp
     ·exact g4 p hp x hx) (fun p hp x hx=>by
     rcases Nq hx with rfl|hx
     ·exact hb p hp
     ·exact g5 p hp x hx) (hp2.nodup_iff.1 w5.nd) with ⟨y1,P2',y2,y3⟩|⟨y1,y2⟩
   ·refine .inl ⟨y1,by rw [w2,hisk],P2',?_,by rw [hput];exact y3⟩
    exact((w5.trans (y2.perm hp2 (Adp _))).perm hp (Adp _)).mono (by omega)
   ·exact .inr ⟨y1,by have:=w3.fr;omega⟩
  ·rw [if_pos (by rw [w1];decide)]
   exact .inr ⟨w1,by omega⟩
end
end Go.Gk.Tre
end
section
namespace Go.Gk
theorem Rz{b:Nat}{T T':TypeId}{l l':List Value} (h:bx b T l=bx b T' l'):T=T'∧l=l':=by
 have h1:bx b T l b (Obj.cells l.toArray T (0,0)):=Cy _ _
 rw [h] at h1
 have h2:=(GR h1).2
 simp only [Obj.cells.injEq] at h2
 exact⟨h2.2.1,by simpa using h2.1⟩
theorem As.all{α:Type}{R:Ac→List Value→α→Prop} (hR:F7 R) {d:Ac}{v:Value}{xs:List α}{h:Ac} (o:As 1 R d v xs h) (hx:0<xs.length):
  ∃b T l c,v=.slice (some ⟨b,0,none⟩) xs.length c∧h=bx b T l∧xs.length≤l.length∧(∀j (hj:j<xs.length),∃u,l[j*1+0]?=some u∧R d [u] xs[j])∧
   ∀d' j u x,Le d d'→j<xs.length→R d' [u] x→As 1 R d' v (xs.set j x) (bx b T (patch l (j*1) [u])):=by
 obtain⟨b,T,l,c,cs,e1,e2, -, -, -, -, -⟩:=As.at (by omega) o hx
 subst e1;subst e2
 have key:∀j (hj:j<xs.length),j*1+1≤l.length∧(∃u,l[j*1+0]?=some u∧R d [u] xs[j]):=by
  intro j hj
  obtain⟨b',T',l',c',cs',q1,q2,q3,q4,q5,q6,q7⟩:=As.at (by omega) o hj
  cases q1
  obtain⟨rfl,rfl⟩:=Rz q2
  refine⟨q5,?_⟩
  match cs',q3 with
  |[u],_=>exact⟨u,q4 0 u rfl,q6⟩
 refine⟨b,T,l,c,rfl,rfl,?_,fun j hj=>(key j hj).2,fun d' j u x hl hj hu=>?_⟩
 rotate_left
 ·obtain⟨b',T',l',c',cs',q1,q2,q3,q4,q5,q6,q7⟩:=As.at (by omega) (As.mono (R:=R) hR o hl) hj
  cases q1
  obtain⟨rfl,rfl⟩:=Rz q2
  exact q7 [u] x rfl hu
 have:=(key (xs.length - 1) (by omega)).1
 omega
theorem RL{P:Program}{Q:BZ}{ρ:Env}{d:Ac}{L:List Ac}{s:GS} (Ls L1:List Ac) (hL:L.Perm (Ls++L1)) (h:gws P Q.pan Q.n s Ls ρ d L1):gwp P (.reg true s) Q ρ d L:=⟨d,Ls,L1,Vs.perm hL,h⟩
end Go.Gk
namespace Go.Gk.Tre
open Go Go.Gk Go.Gk.Dev Go.Gk.Cch Go.Gk.Pgr Go.Gk.Chn Go.Gk.Node
theorem QV{s:PD}{k:Int}{n:AF}{i0 i:Nat}{a b:AF×Int} (hk:n.keys.length≠0) (hi:i=if i0=n.keys.length then i0 - 1 else i0) (ha:Bn s (n.kids.getD i 0)=a) (hb:Bn s (n.kids.getD (i+1) 0)=b):
  Du s k n i0=if a.2≠0 then(s,Ci,a.2) else if b.2≠0 then(s,Ci,b.2) else if a.1.leaf≠b.1.leaf then(s,Ci,200) else
   let w:=Bc s (n.kids.getD i 0) (Cj a.1 b.1 (n.keys.getD i []))
   if w.2.2≠0 then(w.1,Ci,w.2.2) else
   let u:=w.1.drop (n.kids.getD (i+1) 0)
   if u.2≠0 then(u.1,Ci,u.2) else
   if 0≤w.2.1.other then Bc u.1 k {n with keys:=n.keys.set i w.2.1.key,kids:=(n.kids.set i w.2.1.page).set (i+1) w.2.1.other}
   else Bc u.1 k {n with keys:=n.keys.eraseIdx i,kids:=(n.kids.set i w.2.1.page).eraseIdx (i+1)}:=by
 subst hi;subst ha;subst hb
 unfold Du
 exact if_neg hk
end Go.Gk.Tre
end
section
namespace Go.Gk.Tre
open Go Go.Gk Go.Gk.Dev Go.Gk.Cch Go.Gk.Pgr Go.Gk.Chn Go.Gk.Node
section
theorem Fs.trans{s t u:PD}{P:List Int} (h:Fs s t P) (k:Fs t u P):Fs s u P:=fun p hp=>⟨(k p hp).1.trans (h p hp).1,(k p hp).2.trans (h p hp).2⟩
theorem Fs.sub{s t:PD}{P Q:List Int} (h:Fs s t P) (hs:∀p∈Q,p∈P):Fs s t Q:=fun p hp=>h p (hs p hp)
theorem ZK{n:AF} (hs:A6 n=true) (hz:5≤A5 n):n.keys≠[]:=by
 intro e
 cases hl:n.leaf with
 |true=>
  have ef:=Ed hs hl
  rw [ef] at hs
  have h2:=(CJ.1 hs).2.1
  have:=(congrArg A5 ef).trans (size_leaf h2)
  rw [e] at this h2
  rw [Acm h2] at this
  simp only [C6,Ael] at this;omega
 |false=>
  have ef:=Ec hs hl
  rw [ef] at hs
  have h2:=(Cd.1 hs).2.1
  have:=(congrArg A5 ef).trans size_inner
  rw [h2,e] at this
  simp only [C6,Ael] at this;omega
section
variable {α:Type}
theorem WL{a b:List α}{x y d:α}:(a++[x,y]++b).getD (a.length+1) d=y:=by
 rw [show a++[x,y]++b=(a++[x])++[y]++b by simp,show a.length+1=(a++[x]).length by simp];exact EI
theorem VV{a b:List α}{x y d:α}:(a++[x,y]++b).getD a.length d=x:=by
 rw [show a++[x,y]++b=a++[x]++(y::b) by simp];exact EI
theorem XJ{a b:List α}{x y u w:α}:((a++[x,y]++b).set a.length u).set (a.length+1) w=a++[u,w]++b:=by
 rw [show a++[x,y]++b=a++[x]++(y::b) by simp,Gg,show a++[u]++y::b=(a++[u])++[y]++b by simp,show a.length+1=(a++[u]).length by simp,Gg];simp
theorem Un{a b:List α}{x y u:α}:((a++[x,y]++b).set a.length u).eraseIdx (a.length+1)=a++[u]++b:=by
 rw [show a++[x,y]++b=a++[x]++(y::b) by simp,Gg,show a++[u]++y::b=(a++[u])++[y]++b by simp,show a.length+1=(a++[u]).length by simp,IA]
end
theorem TG{t:PD} (hG:Pgr.Good t) {h i0:Nat}{k c1 c2:Int}{a b:List (List UInt8)}{kk:List UInt8}{ca cb:List Int}{n1 n2:AF}{l1 m1 m2 l2:List KV}{P1 Q1 Q2 P2:List Int}
  (hk:Bl t k) (ea:ca.length=a.length) (eb:cb.length=b.length) (hko:KO (a++[kk]++b)) (hrng:∀c∈ca++cb,0≤c∧c≤8191) (hsz:A5 (⟨false,a++[kk]++b,[],ca++[c1,c2]++cb⟩:AF)≤256)
  (hi:a.length=if i0=(a++[kk]++b).length then i0 - 1 else i0)
  (hl:KL (Tr t (h+1)) a ca l1 P1) (hr:KR (Tr t (h+1)) b cb l2 P2) (a1:At t c1 n1) (d1:Nd t (Tr t h) (decide (h=0)) n1 m1 Q1) (a2:At t c2 n2) (d2:Nd t (Tr t h) (decide (h=0)) n2 m2 Q2)
  (hz:A5 n1+A5 n2≤335) (hne:n1.keys≠[]∨n2.keys≠[]) (b1:∀x∈m1,Lt x.1 kk) (b2:∀x∈m2,¬Lt x.1 kk) (ba:∀k∈a,∀x∈m1++m2,¬Lt x.1 k) (bb:∀k∈b,∀x∈m1++m2,Lt x.1 k)
  (hnd:(k::(P1++(c1::Q1++c2::Q2)++P2)).Nodup):
  ((Du t k ⟨false,a++[kk]++b,[],ca++[c1,c2]++cb⟩ i0).2.2=0∧∃P',Mv t (Du t k ⟨false,a++[kk]++b,[],ca++[c1,c2]++cb⟩ i0).1 (k::(P1++(c1::Q1++c2::Q2)++P2)) P' 4∧
   Out (Du t k ⟨false,a++[kk]++b,[],ca++[c1,c2]++cb⟩ i0).1 (h+1) 0 (Du t k ⟨false,a++[kk]++b,[],ca++[c1,c2]++cb⟩ i0).2.1 (l1++(m1++m2)++l2) P')∨
  ((Du t k ⟨false,a++[kk]++b,[],ca++[c1,c2]++cb⟩ i0).2.2=190∧t.free<4):=by
 obtain⟨ko1,ko2,ko3⟩:=KO.app.1 hko
 obtain⟨ko4,ko5,ko6⟩:=KO.app.1 ko1
 have hkk:=ko5.1 kk (by simp)
 have e1:(ca++[c1,c2]++cb).getD a.length 0=c1:=by rw [←ea];exact VV
 have e2:(ca++[c1,c2]++cb).getD (a.length+1) 0=c2:=by rw [←ea];exact WL
 have e3:(a++[kk]++b).getD a.length []=kk:=EI
 have hm:=QV (s:=t) (k:=k) (n:=⟨false,a++[kk]++b,[],ca++[c1,c2]++cb⟩) (i0:=i0) (i:=a.length) (a:=(n1,0)) (b:=(n2,0)) (by simp) hi (by rw [show(⟨false,a++[kk]++b,[],ca++[c1,c2]++cb⟩:AF).kids.getD a.length 0=c1 from e1];exact a1.read)
  (by rw [show(⟨false,a++[kk]++b,[],ca++[c1,c2]++cb⟩:AF).kids.getD (a.length+1) 0=c2 from e2];exact a2.read)
 rw [hm,if_neg (fun q=>q rfl),if_neg (fun q=>q rfl),if_neg (fun q=>q (d1.1.trans d2.1.symm))]
 clear hm
 simp only [e1,e2,e3]
 obtain⟨dj,sj,zj,lj,ej⟩:=d1.join (fun c l P q=>Tr.ne q) d2 a1.sound a2.sound b1 b2 hkk
 have hp0:(k::(P1++(c1::Q1++c2::Q2)++P2)).Perm ((c1::(Q1++Q2))++([c2]++(k::(P1++P2)))):=Adw.2 fun a=>by
  simp only [Aee,Aem,Age];omega
 obtain⟨q1,q2,q3⟩:=Afi.1 (hp0.nodup_iff.1 hnd)
 have q3':∀p∈[c2]++(k::(P1++P2)),p∉c1::(Q1++Q2):=fun p h1 h2=>q3 p h2 p h1 rfl
 have hR:∀p∈[c2]++(k::(P1++P2)),Bl t p:=fun p hp=>by
  rcases Ack.1 hp with hp|hp
  ·rw [Acv.1 hp];exact a2.liv
  ·rcases Adb.1 hp with rfl|hp
   ·exact hk
   ·exact(Ack.1 hp).elim (hl.live p) (hr.live p)
 have hzj:A5 (Cj n1 n2 kk)≤if (Cj n1 n2 kk).leaf=true then 340 else 440:=by
  rw [lj]
  cases hb:decide (h=0) with
  |true=>rw [hb] at zj;simp only [if_true] at zj⊢;omega
  |false=>rw [hb] at zj;simp only [Acj,if_false] at zj⊢;omega
 have hkj:1≤(Cj n1 n2 kk).keys.length:=Gx.1 fun e=>by
  obtain⟨-,f1,f2⟩:=ej e
  exact hne.elim (fun q=>q f1) (fun q=>q f2)
 have hs0:=F8 hG (h:=h) (z:=1) dj sj hzj a1.liv hkj q1
 generalize Bc t c1 (Cj n1 n2 kk)=w at hs0⊢
 rcases hs0.symm with ⟨w1,w2⟩|⟨w1,Pj,w2,w3⟩
 ·rw [if_pos (by rw [w1];decide)]
  exact .inr ⟨w1,by omega⟩
 rw [if_neg (by rw [w1];decide)]
 have hsm1:=w2.same hR q3'
 have w4:=w2.frame hR q2 q3'
 have hp1:(Pj++([c2]++(k::(P1++P2)))).Perm ([c2]++(Pj++(k::(P1++P2)))):=Adw.2 fun a=>by
  simp only [Aee,Aem,Age];omega
 obtain⟨r1,r2,r3⟩:=Afi.1 (hp1.nodup_iff.1 w4.nd)
 have r3':∀p∈Pj++(k::(P1++P2)),p∉ [c2]:=fun p h1 h2=>r3 p h2 p h1 rfl
 have hc2:Bl w.1 c2:=by unfold Bl;rw [(hsm1 c2 (by simp)).1];exact a2.liv
 obtain⟨u1,u2⟩:=IB w2.gd hc2
 have hR2:∀p∈Pj++(k::(P1++P2)),Bl w.1 p:=fun p hp=>(w4.lv p).2 (.inr (by
  rcases Ack.1 hp with q|q
  ·exact Adh _ q
  ·exact Adk _ (Adk _ q)))
 have hsm2:=u2.same hR2 r3'
 have u3:=u2.frame hR2 r2 r3'
 generalize w.1.drop c2=u at u1 u2 u3 hsm2⊢
 rw [if_neg (by rw [u1];decide)]
 have hsm:Fs t u.1 (k::(P1++P2)):=(hsm1.sub (fun p hp=>Adk _ hp)).trans (hsm2.sub (fun p hp=>Adk _ hp))
 have hl':=hl.stay (hsm.sub (fun p hp=>by simp [hp]))
 have hr':=hr.stay (hsm.sub (fun p hp=>by simp [hp]))
 have ho':=w3.stay (hsm2.sub (fun p hp=>Adh _ hp))
 have hk':Bl u.1 k:=by unfold Bl;rw [(hsm k (by simp)).1];exact hk
 have M:Mv t u.1 (k::(P1++(c1::Q1++c2::Q2)++P2)) (k::(P1++Pj++P2)) 2:=by
  refine((w4.trans (u3.perm hp1 (Adp _))).perm hp0 ?_).mono (by omega)
  refine Adw.2 fun a=>?_
  simp only [Aee,Aem,Age];omega
 have hd:decide (h+1=0)=false:=decide_eq_false (Aez _)
 have hGu:=u2.gd
 have hszE:=hsz
 rw [size_inner] at hszE
 have fin:∀{n':AF}{l:List KV},n'.leaf=false→Nd u.1 (Tr u.1 (h+1)) (decide (h+1=0)) n' l (P1++Pj++P2)→A6 n'=true→A5 n'≤440→
   ((Bc u.1 k n').2.2=0∧∃P',Mv t (Bc u.1 k n').1 (k::(P1++(c1::Q1++c2::Q2)++P2)) P' 4∧Out (Bc u.1 k n').1 (h+1) 0 (Bc u.1 k n').2.1 l P')∨((Bc u.1 k n').2.2=190∧t.free<4):=by
  intro n' l hlf hnd' hs' hz'
  rcases F8 hGu (h:=h+1) (z:=0) hnd' hs' (by rw [hlf];simpa using hz') hk' (Adf _) M.nd with ⟨y1,P',y2,y3⟩|⟨y1,y2⟩
  ·exact .inl ⟨y1,P',(M.trans y2).mono (by omega),y3⟩
  ·exact .inr ⟨y1,by have:=M.fr;omega⟩
 by_cases h2:0≤w.2.1.other
 ·rw [if_pos h2]
  have f1:(a++[kk]++b).set a.length w.2.1.key=a++[w.2.1.key]++b:=Gg
  have f2:((ca++[c1,c2]++cb).set a.length w.2.1.page).set (a.length+1) w.2.1.other=ca++[w.2.1.page,w.2.1.other]++cb:=by rw [←ea];exact XJ
  simp only [f1,f2]
  rcases ho' with ⟨q,_⟩|⟨_,_,x1,x2,X1,X2,ex,rfl,g1,g2,g3,g4,g5,g6⟩
  ·omega
  ·obtain⟨y1,t1,f3⟩:=Afa g1.ne
   obtain⟨y2,t2,f4⟩:=Afa g2.ne
   have ha':∀k∈a,Lt k w.2.1.key:=fun p hp=>Me (ba p hp y1 (by rw [ex,f3];simp)) (g3 y1 (by simp [f3]))
   have hb':∀k∈b,Lt w.2.1.key k:=fun p hp=>Me (g4 y2 (by simp [f4])) (bb p hp y2 (by rw [ex,f4];simp))
   have hko':KO (a++[w.2.1.key]++b):=by
    rw [Acg]
    refine KO.app.2 ⟨ko4,KO.cons.2 ⟨⟨g5,g6⟩,ko2,hb'⟩,fun x hx y hy=>?_⟩
    rcases Adb.1 hy with rfl|hy
    ·exact ha' x hx
    ·exact ko3 x (Adh _ hx) y hy
   obtain⟨v1,v1Q,v1a,_,v1e,_⟩:=id g1
   obtain⟨v2,v2Q,v2a,_,v2e,_⟩:=id g2
   refine fin rfl ?_ (Cd.2 ⟨hko',by simp [ea,eb];omega,fun p hp=>?_⟩) ?_
   ·rw [hd]
    have:=Kd.I8 (km:=[w.2.1.key]) (cm:=[w.2.1.page,w.2.1.other]) hl' (Kd.cons.2 ⟨x1,x2,X1,X2,rfl,rfl,g1,g3,g4,Kd.one.2 g2⟩) hr' hko' (by rw [←ex];exact ba) (by rw [←ex];exact bb)
    rw [←ex] at this
    exact .mki rfl this
   ·rcases Ack.1 hp with hp|hp
    ·rcases Ack.1 hp with hp|hp
     ·exact hrng p (by simp [hp])
     ·rcases Adb.1 hp with rfl|hp
      ·exact Ej hGu v1a.liv
      ·rw [Acv.1 hp];exact Ej hGu v2a.liv
    ·exact hrng p (by simp [hp])
   ·rw [size_inner]
    simp only [Acl,Acs,Ael,Dw,C6] at hszE⊢
    omega
 ·rw [if_neg h2]
  have f1:(a++[kk]++b).eraseIdx a.length=a++b:=IA
  have f2:((ca++[c1,c2]++cb).set a.length w.2.1.page).eraseIdx (a.length+1)=ca++[w.2.1.page]++cb:=by rw [←ea];exact Un
  simp only [f1,f2]
  have htr:=ho'.tr (by omega) (Ach _)
  obtain⟨v1,v1Q,v1a,_,v1e,_⟩:=id htr
  have hko':KO (a++b):=KO.app.2 ⟨ko4,ko2,fun x hx y hy=>ko3 x (Adh _ hx) y hy⟩
  refine fin rfl ?_ (Cd.2 ⟨hko',by simp [ea,eb];omega,fun p hp=>?_⟩) ?_
  ·rw [hd]
   refine .mki rfl ?_
   have:=Kd.I8 (km:=[]) (cm:=[w.2.1.page]) hl' (Kd.one.2 htr) hr' (by simpa using hko') ba bb
   simpa using this
  ·rcases Ack.1 hp with hp|hp
   ·rcases Ack.1 hp with hp|hp
    ·exact hrng p (by simp [hp])
    ·rw [Acv.1 hp];exact Ej hGu v1a.liv
   ·exact hrng p (by simp [hp])
  ·rw [size_inner]
   simp only [Acl,Acs,Ael,Dw,C6] at hszE⊢
   omega
end
def Qu(key:List UInt8) (h:Nat):Prop:=∀{s:PD}{k:Int}{l:List KV}{P:List Int},Pgr.Good s→Tr s (h+1) k l P→P.Nodup→
  ((BT s k key (h+1)).2.2.2=0∧(BT s k key (h+1)).2.2.1=isK l key∧((isK l key=false∧(BT s k key (h+1)).1=s)∨
   (isK l key=true∧∃P',Mv s (BT s k key (h+1)).1 P P' (4*(h+1))∧Out (BT s k key (h+1)).1 h 0 (BT s k key (h+1)).2.1 (B8 l key).1 P')))∨
  ((BT s k key (h+1)).2.2.2=190∧s.free<4*(h+1))
theorem XL{key:List UInt8}:Qu key 0:=by
  intro s k l P hG ⟨n,Q,hat,hne,eP,hn⟩ hnd
  subst eP
  rw [decide_eq_true rfl] at hn
  obtain⟨n1,n2⟩:=hn.leaf
  have ef:=Ed hat.sound n1
  obtain⟨ks,vs,rfl⟩:∃ks vs,n=⟨true,ks,vs,[]⟩:=⟨_,_,ef⟩
  simp only at n2 hne
  obtain⟨hko,hvl,hv16⟩:=CJ.1 hat.sound
  have hlv:=hat.level (x:=((0+1:Nat):Int)) rfl
  have hlz:(A4 s k ((0+1:Nat):Int)).2=0:=by rw [hlv]
  have hln:(A4 s k ((0+1:Nat):Int)).1=⟨true,ks,vs,[]⟩:=by rw [hlv]
  have hsz:=hat.size
  rw [size_leaf hvl] at hsz
  have hQl:=n2.live
  rcases Ky hko (vs:=vs) key with ⟨a,b,rfl,hf,ha,hb⟩|⟨a,b,rfl,hf,ha,hb⟩
  ·rw [TK hlz hln hf]
   obtain⟨va,c,vb,l1,v0,l2,P1,Pv,P2,rfl,ev,rfl,rfl,g1,g2,g3⟩:=ON n2
   have e0:(va++[c]++vb).getD a.length []=c:=by rw [←ev];exact EI
   have e1:(va++[c]++vb).eraseIdx a.length=va++vb:=by rw [←ev];exact IA
   have e2:(a++key::b).eraseIdx a.length=a++b:=by
    have:=IA (a:=a) (b:=b) (x:=key)
    simpa using this
   simp only [e0,e1,e2]
   have hp:(k::(P1++Pv++P2)).Perm ((k::(P1++P2))++Pv):=Adw.2 fun a=>by
    simp only [Aee,Aem];omega
   obtain⟨q1,q2,q3⟩:=Afi.1 (hp.nodup_iff.1 hnd)
   have q3':∀p∈k::(P1++P2),p∉Pv:=fun p h1 h2=>q3 p h1 p h2 rfl
   obtain⟨d1,d2⟩:=g2.AaB hG q2
   rw [if_neg (by rw [d1];decide)]
   have hR:∀p∈k::(P1++P2),Bl s p:=fun p hp=>by
    rcases Adb.1 hp with rfl|hp
    ·exact hat.liv
    ·rcases Ack.1 hp with hp|hp
     ·exact hQl p (by simp [hp])
     ·exact hQl p (by simp [hp])
   have hsm:=d2.same hR q3'
   have hl1:=I6 g1 ha
   have hl2:=Ji g3 hb
   have hdel:(B8 (l1++[(key,v0)]++l2) key).1=l1++l2:=by rw [Ng hl1 hl2,Rq];simp
   have hisk:isK (l1++[(key,v0)]++l2) key=true:=by rw [Ev hl1 hl2,Hw]
   have hLf:Lf (BO s c).1 (a++b) (va++vb) (l1++l2) (P1++P2):=by
    have w1:=g1.stay (t:=(BO s c).1) (fun p hp=>hsm p (by simp [hp]))
    have w3:=g3.stay (t:=(BO s c).1) (fun p hp=>hsm p (by simp [hp]))
    exact w1.join w3
   have hko':KO (a++b):=by
    obtain⟨k1,k2,k3⟩:=KO.app.1 hko
    exact KO.app.2 ⟨k1,(KO.cons.1 k2).2.1,fun x hx y hy=>k3 x hx y (Acy _ hy)⟩
   have hso:A6 ⟨true,a++b,va++vb,[]⟩=true:=by
    refine CJ.2 ⟨hko',by simp at hvl⊢;omega,fun x hx=>?_⟩
    rcases Ack.1 hx with hx|hx
    ·exact hv16 x (by simp [hx])
    ·exact hv16 x (by simp [hx])
   have hnd2:Nd (BO s c).1 (Tr (BO s c).1 0) (decide (0=0)) ⟨true,a++b,va++vb,[]⟩ (l1++l2) (P1++P2):=by
    rw [decide_eq_true rfl];exact .mkl rfl hLf
   have hzz:A5 (⟨true,a++b,va++vb,[]⟩:AF)≤340:=by
    rw [size_leaf (by simp at hvl⊢;omega)]
    simp only [Acl,Acs,Dw,C6] at hsz⊢
    omega
   rcases F8 d2.gd (h:=0) (z:=0) hnd2 hso hzz (by unfold Bl;rw [(hsm k (by simp)).1];exact hat.liv) (Adf _) q1 with ⟨w1,P',w2,w3⟩|⟨w1,w2⟩
   ·refine .inl ⟨w1,by rw [hisk],.inr ⟨hisk,P',?_,by rw [hdel];exact w3⟩⟩
    refine((d2.then w2 (Adp _) hR q1 q3').perm ?_ (Adp _)).mono (by omega)
    refine Adw.2 fun a=>?_
    simp only [Aee,Aem];omega
   ·exact .inr ⟨w1,by have:=d2.fr;omega⟩
  ·rw [TJ hlz hln hf]
   obtain⟨va,vb,l1,l2,P1,P2,rfl,ev,rfl,rfl,g1,g3⟩:=O0 n2
   have hl1:=I6 g1 ha
   have hl2:=Ji g3 hb
   have hisk:isK (l1++l2) key=false:=by
    have:=Ev (m:=[]) hl1 hl2
    rw [OY,Ads] at this;exact this
   exact .inl ⟨rfl,by rw [hisk],.inl ⟨hisk,rfl⟩⟩
theorem X7{key:List UInt8}{h:Nat} (ihh:Qu key h):Qu key (h+1):=by
  intro s k l P hG ⟨n,Q,hat,hne,eP,hn⟩ hnd
  subst eP
  rw [decide_eq_false (Aez _)] at hn
  obtain⟨n1,n2⟩:=hn.inner
  have ef:=Ec hat.sound n1
  obtain⟨ks,cs,rfl⟩:∃ks cs,n=⟨false,ks,[],cs⟩:=⟨_,_,ef⟩
  simp only at n2 hne
  obtain⟨hko,hcl,hrng⟩:=Cd.1 hat.sound
  have hlv:=hat.level (x:=((h+1+1:Nat):Int)) (by show false=_;exact(decide_eq_false (by omega)).symm)
  have hlz:(A4 s k ((h+1+1:Nat):Int)).2=0:=by rw [hlv]
  have hln:(A4 s k ((h+1+1:Nat):Int)).1=⟨false,ks,[],cs⟩:=by rw [hlv]
  obtain⟨a,b,rfl,hf,ha,hb⟩:=J0 hat.sound key
  obtain⟨ca,c,cb,rfl,ec⟩:=Jb cs (i:=a.length) (by rw [hcl];simp;omega)
  have ecb:cb.length=b.length:=by simp at hcl;omega
  have e0:(⟨false,a++b,[],ca++[c]++cb⟩:AF).kids.getD a.length 0=c:=by show(ca++[c]++cb).getD a.length 0=c;rw [←ec];exact EI
  have n2':Kd (Tr s (h+1)) (a++[]++b) (ca++[c]++cb) l Q:=by simpa using n2
  obtain⟨l1,m,l2,P1,Pm,P2,rfl,rfl,g1,g2,g3,g4,g5⟩:=n2'.focus (by simpa using hko) ec rfl
  have hl1:∀x∈l1,Lt x.1 key:=fun x hx=>by
   obtain⟨p,p1,p2⟩:=g1.below x hx
   exact Ij p2 (ha p p1)
  have hl2:∀x∈l2,Lt key x.1:=fun x hx=>by
   obtain⟨p,p1,p2⟩:=g3.QB x hx
   exact Ij (hb p p1) p2
  have hp:(k::(P1++Pm++P2)).Perm (Pm++(k::(P1++P2))):=Adw.2 fun a=>by
     simp only [Aee,Aem];omega
  obtain⟨q1,q2,q3⟩:=Afi.1 (hp.nodup_iff.1 hnd)
  have q3':∀p∈k::(P1++P2),p∉Pm:=fun p h1 h2=>q3 p h2 p h1 rfl
  have hR:∀p∈k::(P1++P2),Bl s p:=fun p hp=>by
   rcases Adb.1 hp with rfl|hp
   ·exact hat.liv
   ·exact(Ack.1 hp).elim (g1.live p) (g3.live p)
  rw [NL hlz hln hf (u:=BT s c key (h+1)) (by rw [e0])]
  have hisk:isK (l1++m++l2) key=isK m key:=Ev hl1 hl2
  have hdel:(B8 (l1++m++l2) key).1=l1++(B8 m key).1++l2:=by rw [Ng hl1 hl2]
  have ih:=ihh hG g2 q1
  generalize BT s c key (h+1)=u at ih⊢
  rcases ih with ⟨w1,w2,⟨w3,w4⟩|⟨w3,P',w4,w5⟩⟩|⟨w1,w2⟩
  ·rw [if_pos (.inr (by rw [w2,w3]))]
   exact .inl ⟨w1,by rw [w2,hisk],.inl ⟨by rw [hisk,w3],w4⟩⟩
  ·rw [if_neg (by rw [w1,w2,w3];simp)]
   have hsm:=w4.same hR q3'
   have w6:=w4.frame hR q2 q3'
   have hp2:(P'++(k::(P1++P2))).Perm (k::(P1++P'++P2)):=Adw.2 fun a=>by
     simp only [Aee,Aem];omega
   have hnd2:=hp2.nodup_iff.1 w6.nd
   have w7:=w6.perm hp hp2.symm
   have hat':=hat.stay (hsm k (Acu ..))
   have g1':=g1.stay (fun p hp=>hsm p (by simp [hp]))
   have g3':=g3.stay (fun p hp=>hsm p (by simp [hp]))
   have ba:∀k∈a,∀x∈(B8 m key).1,¬Lt x.1 k:=fun p hp x hx=>g4 p hp x (HN hx)
   have bb:∀k∈b,∀x∈(B8 m key).1,Lt x.1 k:=fun p hp x hx=>g5 p hp x (HN hx)
   by_cases h2:u.2.1.other<0∧u.2.1.size<80
   ·rw [if_pos h2]
    obtain⟨n0,Q0,b1,b2,eP',b4⟩:∃n0 Q0,At u.1 u.2.1.page n0∧u.2.1.size=A5 n0∧P'=u.2.1.page::Q0∧Nd u.1 (Tr u.1 h) (decide (h=0)) n0 (B8 m key).1 Q0:=by
     rcases w5 with ⟨_,n0,Q0,b1,b2,e,_,b4⟩|⟨z1,_⟩
     ·exact⟨n0,Q0,b1,b2,e,b4⟩
     ·omega
    subst eP'
    have hz0:A5 n0≤79:=by have:=h2.2;omega
    have hsz:=hat.size
    rw [size_inner] at hsz
    have e1:(ca++[c]++cb).set a.length u.2.1.page=ca++[u.2.1.page]++cb:=by rw [←ec,Gg]
    simp only [e1]
    have fin:∀{r:PD×MdD×Int}{A:List Int}{l:List KV},(k::(P1++(u.2.1.page::Q0)++P2)).Perm A→l=l1++(B8 m key).1++l2→((r.2.2=0∧∃P'',Mv u.1 r.1 A P'' 4∧Out r.1 (h+1) 0 r.2.1 l P'')∨(r.2.2=190∧u.1.free<4))→
      ((r.2.2=0∧true=isK (l1++m++l2) key∧((isK (l1++m++l2) key=false∧r.1=s)∨(isK (l1++m++l2) key=true∧∃P'',Mv s r.1 (k::(P1++Pm++P2)) P'' (4*(h+1+1))∧Out r.1 (h+1) 0 r.2.1 (B8 (l1++m++l2) key).1 P'')))∨(r.2.2=190∧s.free<4*(h+1+1))):=by
     intro r A l hA el hr
     rcases hr with ⟨y1,P2',y2,y3⟩|⟨y1,y2⟩
     ·exact .inl ⟨y1,by rw [hisk,w3],.inr ⟨by rw [hisk,w3],P2',(w7.trans (y2.perm hA (Adp _))).mono (by omega),by rw [hdel,←el];exact y3⟩⟩
     ·exact .inr ⟨y1,by have:=w4.fr;omega⟩
    by_cases hbe:b=[]
    ·-- the kid is the last one:the one ahead of it
     subst hbe
     rcases g3 with ⟨_,rfl,rfl,rfl⟩|⟨_,_,q,_⟩
     ·rcases g1' with ⟨rfl,_⟩|⟨a',kk,rfl,r1,r2⟩
      ·exact absurd rfl hne
      ·have hca:ca.length=a'.length+1:=by rw [ec];simp
       obtain⟨ca',c1,cx,rfl,ec'⟩:=Jb ca (i:=a'.length) (by omega)
       have hcx:cx=[]:=Acm (by simp at hca;omega)
       subst hcx
       have r1':Kd (Tr u.1 (h+1)) (a'++[]++[]) (ca'++[c1]++[]) l1 P1:=by simpa using r1
       have hka:KO (a'++[kk]):=(KO.app.1 hko).1
       obtain⟨x1,m1,x2,X1,Y1,X2,rfl,rfl,f1,f2,f3,f4,f5⟩:=r1'.focus (by simpa using (KO.app.1 hka).1) ec' rfl
       rcases f3 with ⟨_,_,rfl,rfl⟩|⟨_,_,q,_⟩
       ·obtain⟨v1,V1,va,vb,rfl,vd⟩:=Kd.one.1 f2
        refine fin (A:=k::(X1++(c1::V1++u.2.1.page::Q0)++[])) (l:=x1++(m1++(B8 m key).1)++[]) ?_ (by simp) ?_
        ·refine Adw.2 fun a=>?_
         simp only [Aee,Aem,Age];omega
        ·have hm:=TG w4.gd (i0:=a'.length+1) (a:=a') (b:=[]) (kk:=kk) (ca:=ca') (cb:=[]) (c1:=c1) (c2:=u.2.1.page) (l1:=x1) (l2:=[]) (P1:=X1) (P2:=[]) hat'.liv ec' rfl (by simpa using hka)
          (fun p hp=>hrng p (by simp at hp⊢;simp [hp])) (by rw [size_inner];simp only [Acl,Acs,Ael,Dw,C6] at hsz⊢;omega) (by simp) f1 (.inl ⟨rfl,rfl,rfl,rfl⟩) va vd b1 b4
          (by have:=va.size;omega) (.inl vb) (fun x hx=>r2 x (by simp [hx])) (fun x hx=>ba kk (by simp) x hx)
          (fun p hp x hx=>(Ack.1 hx).elim (f4 p hp x) (ba p (by simp [hp]) x)) (fun p hp=>by cases hp) ?_
         ·have e2:(ca'++[c1]++[]++[u.2.1.page]++[]:List Int)=ca'++[c1,u.2.1.page]++[]:=by simp
          have e3:(a'++[kk]).length=a'.length+1:=by simp
          rw [e2,e3]
          exact hm
         ·refine(List.Perm.nodup_iff ?_).1 hnd2
          refine Adw.2 fun a=>?_
          simp only [Aee,Aem,Age];omega
       ·cases q
     ·cases q
    ·-- the one behind it
     rcases g3' with ⟨q,_⟩|⟨kk,b',rfl,r1,r2⟩
     ·exact absurd q hbe
     ·obtain⟨cx,c2,cb',rfl,ec'⟩:=Jb cb (i:=0) (by rw [ecb];simp)
      have hcx:cx=[]:=Acm ec'
      subst hcx
      have r1':Kd (Tr u.1 (h+1)) ([]++[]++b') ([]++[c2]++cb') l2 P2:=by simpa using r1
      have hkb:KO (kk::b'):=(KO.app.1 hko).2.1
      obtain⟨x1,m2,x2,X1,Y1,X2,rfl,rfl,f1,f2,f3,f4,f5⟩:=r1'.focus (by simpa using (KO.cons.1 hkb).2.1) rfl rfl
      rcases f1 with ⟨_,_,rfl,rfl⟩|⟨_,_,q,_⟩
      ·obtain⟨v2,V2,va,vb,rfl,vd⟩:=Kd.one.1 f2
       refine fin (A:=k::(P1++(u.2.1.page::Q0++c2::V2)++X2)) (l:=l1++((B8 m key).1++m2)++x2) ?_ (by simp) ?_
       ·refine Adw.2 fun a=>?_
        simp only [Aee,Aem,Age];omega
       ·have hm:=TG w4.gd (i0:=a.length) (a:=a) (b:=b') (kk:=kk) (ca:=ca) (cb:=cb') (c1:=u.2.1.page) (c2:=c2) (l1:=l1) (l2:=x2) (P1:=P1) (P2:=X2) hat'.liv ec (by simp at ecb;omega) (by simpa using hko)
          (fun p hp=>hrng p (by simp at hp⊢;rcases hp with hp|hp<;>simp [hp])) (by rw [size_inner];simp only [Acl,Acs,Ael,Dw,C6] at hsz⊢;omega) (by simp) g1' f3 b1 b4 va vd
          (by have:=va.size;omega) (.inr vb) (fun x hx=>bb kk (by simp) x hx) (fun x hx=>r2 x (by simp [hx]))
          (fun p hp x hx=>(Ack.1 hx).elim (ba p hp x) (fun hx e=>r2 x (by simp [hx]) (FZ e ((KO.app.1 hko).2.2 p hp kk (by simp)))))
          (fun p hp x hx=>(Ack.1 hx).elim (bb p (by simp [hp]) x) (f5 p hp x)) ?_
        ·have e2:(ca++[u.2.1.page]++([]++[c2]++cb'):List Int)=ca++[u.2.1.page,c2]++cb':=by simp
         have e3:a++kk::b'=a++[kk]++b':=by simp
         rw [e2,e3]
         exact hm
        ·refine(List.Perm.nodup_iff ?_).1 hnd2
         refine Adw.2 fun a=>?_
         simp only [Aee,Aem,Age];omega
      ·simp at q
   ·rw [if_neg h2]
    have w5':Out u.1 h 1 u.2.1 (B8 m key).1 P':=by
     rcases w5 with ⟨z1,n0,Q0,b1,b2,rfl,_,b4⟩|w5
     ·refine .inl ⟨z1,n0,Q0,b1,b2,rfl,Gx.1 (ZK b1.sound ?_),b4⟩
      have:¬u.2.1.size<80:=fun q=>h2 ⟨z1,q⟩
      omega
     ·exact .inr w5
    rcases Q4 w4.gd hat' ec hne g1' g3' w5' ba bb hnd2 with ⟨y1,P2',y2,y3⟩|⟨y1,y2⟩
    ·refine .inl ⟨y1,by rw [hisk,w3],.inr ⟨by rw [hisk,w3],P2',(w7.trans y2).mono (by omega),?_⟩⟩
     rw [hdel]
     rcases y3 with ⟨z1,n0,Q0,b1,b2,rfl,_,b4⟩|y3
     ·exact .inl ⟨z1,n0,Q0,b1,b2,rfl,Adf _,b4⟩
     ·exact .inr y3
    ·exact .inr ⟨y1,by have:=w4.fr;omega⟩
  ·rw [if_pos (.inl (by rw [w1];decide))]
   exact .inr ⟨w1,by omega⟩
theorem Sl{key:List UInt8}:∀h,Qu key h
 |0=>XL
 |h+1=>X7 (Sl h)
end Go.Gk.Tre
end
section
namespace Go.Gk.Tre
open Go Go.Gk Go.Gk.Dev Go.Gk.Cch Go.Gk.Pgr Go.Gk.Chn Go.Gk.Node
attribute [local irreducible] gwp gws xwp
def Oj(P:Program) (f:FuncId):Prop:=∀(x:Nat) {d:Ac}{s:PD}{dv pv w cv:Value}{L:List Ac}{bt:Nat}{Tt:TypeId}{r h c k:Int}{key cell:List UInt8},x≤1000000→PgT d s dv pv L→AM d w key→AM d cv cell→key.length≤1000→cell.length≤1000→ -1≤k→k≤16384→
 Aw P f [.pointer (some ⟨bt,0,none⟩),.int .i64 k,.int .i64 ((x+1:Nat):Int),w,cv] d (tb bt Tt pv r h c::L) (Ret fun v d' L'=>Le d d'∧∃ua uc L2,v=.tuple #[mdV (BY s k key cell (x+1)).2.1 ua uc,.bool (BY s k key cell (x+1)).2.2.1,.int .i64 (BY s k key cell (x+1)).2.2.2]∧
  AM d' (.slice ua (BY s k key cell (x+1)).2.1.key.length uc) (BY s k key cell (x+1)).2.1.key∧MOk (BY s k key cell (x+1)).2.1∧L'=tb bt Tt pv r h c::L2∧PgT d' (BY s k key cell (x+1)).1 dv pv L2)
def K7(a0 a1 a2 a3 a4 a5 a6 a7:Nat):AY:=⟨116,[(.cell 10 (some 4)),(.tmp 11),(.tmp 12)],(sR (o1 10 (.alo (.agg #[(.int .i64 0),(.int .i64 0),(.slice none 0 0),(.int .i64 0)]))<|o1 11 (.mv (.const (.bool false)))<|o1 12 (.mv (kZ 0)) .done) (sR (om 24 0<|om 25 1<|om 26 2<|oc 27 a0 [(tP 24),(tP 25),(tP 26)]<|om 23 27<|oe 28 23 0<|oe 29 23 1<|o1 13 (.alo (.agg #[(.bool false),(.slice none 0 0),(.slice none 0 0),(.slice none 0 0)]))<|o0 (.st 4 (tP 13) (tP 28))<|om 14 29 .done) (.seq (sR (om 30 14<|ob 31 .neq (tP 30) (kZ 0) .done) (.cond (tP 31) (sR (o1 32 (.bld [(0,1),(1,1),(2,1),(3,1)] [(.int .i64 0),(.int .i64 0),(.slice none 0 0),(.int .i64 0)] [])<|om 33 14<|o0 (.st 4 (tP 10) (tP 32))<|o1 11 (.mv (.const (.bool false)))<|om 12 33 .done) .ret) .skip)) (sR (o1 35 (.ld (some 4) (tP 13))<|om 36 3<|oc 37 a1 [(tP 35),(tP 36)]<|om 34 37<|oe 38 34 0<|oe 39 34 1<|om 15 38<|om 16 39 .done) (.seq (sR (om 40 2<|ob 41 .eql (tP 40) (kZ 1) .done) (.cond (tP 41) (.seq (sR (om 42 16 .done) (.cond (tP 42) (.seq (sR (om 43 0<|oj 44 2 13<|ol 45 44<|om 46 15<|oI 47 1 45 46<|ol 48 47<|oc 49 a2 [(tP 43),(tP 48)]<|om 17 49 .done) (sR (om 50 17<|ob 51 .neq (tP 50) (kZ 0) .done) (.cond (tP 51) (sR (o1 52 (.bld [(0,1),(1,1),(2,1),(3,1)] [(.int .i64 0),(.int .i64 0),(.slice none 0 0),(.int .i64 0)] [])<|om 53 17<|o0 (.st 4 (tP 10) (tP 52))<|o1 11 (.mv (.const (.bool false)))<|om 12 53 .done) .ret) .skip))) (rG (oj 54 2 13<|ol 55 54<|om 56 15<|om 57 4<|oI 58 1 55 56<|o0 (.st 1 (tP 58) (tP 57)) .done))) (.reg true (p1 59 (.fld 1 (tP 13))<|pl 60 59<|pm 61 15<|pm 62 3<|p1 66 (.fld 2 (tP 13))<|pl 67 66<|pm 68 15<|pm 69 4 (.par (o1 70 (.bsl 1 1 [(.slice none 0 0)] [(0,(tP 69))]) .done) (oc 63 a3 [(tP 62)] (o1 64 (.bsl 1 1 [(.slice none 0 0)] [(0,(tP 63))]) (oc 65 a4 [(tP 60),(tP 61),(tP 64)] (p1 72 (.fld 1 (tP 13)) .done)))) (oc 71 a4 [(tP 67),(tP 68),(tP 70)] (.bar (o0 (.st 1 (tP 72) (tP 65)) (p1 73 (.fld 2 (tP 13)) (o0 (.st 1 (tP 73) (tP 71)) .done)))))))))) (sR (om 75 0<|om 76 1<|o1 77 (.ld (some 4) (tP 13))<|oc 78 a5 [(tP 75),(tP 76),(tP 77)]<|om 74 78<|oe 79 74 0<|oe 80 74 1<|o1 18 (.alo (.agg #[(.int .i64 0),(.int .i64 0),(.slice none 0 0),(.int .i64 0)]))<|o0 (.st 4 (tP 18) (tP 79))<|om 19 80 .done) (sR (o1 81 (.ld (some 4) (tP 18))<|om 82 16<|o1 83 (.un .not (tP 82))<|om 84 19<|o0 (.st 4 (tP 10) (tP 81))<|om 11 83<|om 12 84 .done) .ret))) .skip)) (sR (om 86 0<|oj 87 3 13<|ol 88 87<|om 89 15<|oI 90 1 88 89<|ol 91 90<|om 92 2<|ob 93 .sub (tP 92) (kZ 1)<|om 94 3<|om 95 4<|oc 96 a6 [(tP 86),(tP 91),(tP 93),(tP 94),(tP 95)]<|om 85 96<|oe 97 85 0<|oe 98 85 1<|oe 99 85 2<|o1 20 (.alo (.agg #[(.int .i64 0),(.int .i64 0),(.slice none 0 0),(.int .i64 0)]))<|o0 (.st 4 (tP 20) (tP 97))<|om 21 98<|om 14 99 .done) (.seq (sR (om 100 14<|ob 101 .neq (tP 100) (kZ 0) .done) (.cond (tP 101) (sR (o1 102 (.bld [(0,1),(1,1),(2,1),(3,1)] [(.int .i64 0),(.int .i64 0),(.slice none 0 0),(.int .i64 0)] [])<|om 103 14<|o0 (.st 4 (tP 10) (tP 102))<|o1 11 (.mv (.const (.bool false)))<|om 12 103 .done) .ret) .skip)) (sR (om 105 0<|om 106 1<|o1 107 (.ld (some 4) (tP 13))<|om 108 15<|o1 109 (.ld (some 4) (tP 20))<|oc 110 a7 [(tP 105),(tP 106),(tP 107),(tP 108),(tP 109)]<|om 104 110<|oe 111 104 0<|oe 112 104 1<|o1 22 (.alo (.agg #[(.int .i64 0),(.int .i64 0),(.slice none 0 0),(.int .i64 0)]))<|o0 (.st 4 (tP 22) (tP 111))<|om 14 112 .done) (sR (o1 113 (.ld (some 4) (tP 22))<|om 114 21<|om 115 14<|o0 (.st 4 (tP 10) (tP 113))<|om 11 114<|om 12 115 .done) .ret)))))))))⟩
set_option maxRecDepth 4000 in
set_option maxHeartbeats 4000000 in
theorem ZS{P:Program}{f f1 f2 f3 f4 f5 f6 f8:FuncId} (hd:Jn P f=some (K7 f1 f2 f3 f4 f5 f6 f f8)) (h1:H0 P f1) (h2:IS P f2 findD) (h3:LY P f3) (h4:DZ AP 1 P f4) (h5:JH RBs P f5) (h6:HA P f6) (h8:Jt P f8):Oj P f:=by
 intro x
 induction x using Nat.strongRecOn with
 |ind x ih=>
 intro d s dv pv w cv L bt Tt r h c k key cell hx hp hw hcv hkl hcl hk0 hk1
 obtain⟨bp,rfl⟩:=hp.ptr
 have hG:=hp.E0
 obtain⟨tc0,hp⟩:=hp
 obtain⟨wa,wc,rfl⟩:=hw.val
 obtain⟨ca,cc,rfl⟩:=hcv.val
 refine AG hd (Aca rfl) ?_
 show gwp P _ _ _ _ _
 apply Ah;apply AE
 refine BV (fun b10 T10=>?_)
 (refine Ae rfl<|Ab rfl<|Aa<|Ad<|Ak rfl<|Ab rfl<|Ab rfl ?_)
 refine A3 [_] (h1 (k:=k) (x:=((x+1:Nat):Int)) hp) rfl rfl (fun v d2 L2 hl ⟨_,cs,hk,hv,hi,L3,tc,e1,e2,hn,hp2,htc⟩=>?_)
 subst e1;subst e2
 have hp2:PgT d2 s dv (.pointer (some ⟨bp,0,none⟩)) L3:=⟨tc,hp2⟩
 rw [show A4 {s with tc:=tc0} k ((x+1:Nat):Int)=A4 s k ((x+1:Nat):Int) from rfl] at hn⊢
 obtain⟨ka,kc,va,vc,ia,ic,rfl⟩:=hn.cells
 (refine AU rfl<|Ap rfl rfl<|Ap rfl rfl<|BV (fun _ _=>?_))
 rename_i b13 T13
 refine Bq 0 rfl rfl rfl rfl (Ach _) rfl ?_
 by_cases he:(A4 s k ((x+1:Nat):Int)).2=0
 ·obtain⟨hr,hlf⟩:=IK he
  obtain⟨n,hne⟩:∃n,(A4 s k ((x+1:Nat):Int)).1=n:=⟨_,rfl⟩
  rw [hne] at hn hr hlf⊢
  obtain⟨hfit,hk64⟩:=KH hr
  obtain⟨i,b,hfd⟩:∃i b,findD n key=(i,b):=⟨_,_,rfl⟩
  have hile:i≤n.keys.length:=by have:=Nc (n:=n) (key:=key);rw [hfd] at this;exact this
  rw [he]
  have hw2:=RSl.mono (R:=AP) AX hw hl
  have hcv2:=RSl.mono (R:=AP) AX hcv hl
  have hlv:n.leaf=true→n.vals.length=n.keys.length:=Jr hr
  have hli:n.leaf=false→n.kids.length=n.keys.length+1:=Hr hr
  have hkd:=PV hr
  clear hr
  have hnk:=hn
  obtain⟨kv,vv,iv,q,r1,r2,r3⟩:=hn
  cases q
  (refine Ab rfl<|Aa<|Ah<|Ad<|Ab rfl<|AO rfl rfl<|Aa<|Ar rfl (by omega)<|Al<|Ad<|Bg 0 rfl rfl rfl<|Am rfl ?_)
  refine Jj rfl (v:=.tuple #[.int .i64 i,.bool b]) (fun d1 hl1 hk1=>by
   have:=h2 (DJ.Ii ⟨_,_,_,rfl,r1,r2,r3⟩ hl1 (hk1 _ (by simp)) (hk1 _ (by simp)) (hk1 _ (by simp))) (RSl.mono (R:=AP) AX hw2 hl1)
   rw [hfd] at this;exact this) ?_
  (refine AU rfl<|Ap rfl rfl<|Ap rfl rfl<|Ab rfl<|Ae rfl<|Aa ?_)
  apply Ah;apply Ah;apply AE
  (refine Ab rfl<|AJ rfl rfl<|Aa ?_)
  by_cases hx0:x=0
  ·subst hx0
   have hvl:=hlv (by rw [hlf];rfl)
   clear hlv hli hlf
   refine Ay rfl (by omega) ?_
   refine FX (fun ρ d' L'=>Le d2 d'∧∃cs' n' s' hk' hv' hi' L4 Lr,BD ρ [(0,.pointer (some ⟨bt,0,none⟩)),(1,.int .i64 k),(10,.pointer (some ⟨b10,0,none⟩)),(13,.pointer (some ⟨b13,0,none⟩)),(16,.bool b)]∧DJ d' cs' n' hk' hv' hi'∧Fit n' 600∧PgT d' s' dv (.pointer (some ⟨bp,0,none⟩)) L4∧
    BY s k key cell (0+1)=((Bc s' k n').1,(Bc s' k n').2.1, !b,(Bc s' k n').2.2)∧Lr.Perm [hk',hv',hi']∧L'=bx b13 T13 cs'::bx b10 T10 [.int .i64 0,.int .i64 0,.slice none 0 0,.int .i64 0]::(Lr++tb bt Tt (.pointer (some ⟨bp,0,none⟩)) r h c::L4)) ?_ ?_
   ·cases b with
    |true=>
     have hilt:i<n.keys.length:=by have:=MP (n:=n) (key:=key) (by rw [hfd]);rw [hfd] at this;exact this
     have hiv:i<n.vals.length:=by omega
     have hI:=Te (cell:=cell) he hne hfd
     have hgv:n.vals.getD i []=n.vals[i]:=by rw [Acf,Ace hiv];rfl
     rw [hgv] at hI
     obtain⟨b1,T1,l1,c1,cs1,q1,rfl,hcl1,hcs,hle1,⟨u,rfl,hu⟩,hset⟩:=As.at (by omega) r2 hiv
     cases q1
     have c0:=hcs 0 _ rfl
     (refine Ad<|Ae rfl<|Aa<|Be rfl<|Ah<|Ad<|Ak rfl<|Ai rfl<|Ag rfl (Aj 0 rfl rfl)<|Ab rfl<|Bx _ rfl rfl rfl (by omega)<|Ag rfl (Aj 3 rfl (by assumption)) ?_)
     refine A3 [_,_,_,_,_] (h3 hp2 hu) rfl rfl (fun v d3 L4 hl3 ⟨_,e3,L5,e4,hp5⟩=>?_)
     subst e3;subst e4
     by_cases hz:(BO s n.vals[i]).2=0
     ·rw [if_neg (fun q=>q hz)] at hI
      rw [hz]
      have hrow:=hset [.slice ca cell.length cc] cell rfl ⟨_,rfl,hcv2⟩
      (refine Ab rfl<|Aa<|Ad<|Ab rfl<|AO rfl rfl<|Aa<|Ar rfl (by omega)<|Al<|AE<|Ai rfl<|Ag rfl (Aj 0 rfl rfl)<|Ab rfl<|Am rfl<|Bx _ rfl rfl rfl (by omega) ?_)
      refine A0 3 (patch l1 (i*1) [.slice ca cell.length cc]) rfl rfl rfl rfl (by omega) rfl rfl ?_
      (apply Aa)
      refine⟨hl3,_,{n with vals:=n.vals.set i cell},_,hk,_,hi,L5,[_,_,_],⟨rfl,rfl,rfl,rfl,rfl,trivial⟩,⟨_,_,_,rfl,r1.D7 hl3,hrow.D7 hl3,r3.Ih hl3⟩,⟨?_,?_,?_,hfit.kl,fun y hy=>?_⟩,hp5,hI,Adp _,?_⟩
      ·have:=hfit.k;show n.keys.length≤600;omega
      ·have:=hfit.v;show(n.vals.set i cell).length≤600;rw [Adg];omega
      ·have:=hfit.i;show n.kids.length≤600;omega
      ·rcases OZ hy with rfl|hy
       ·exact hcl
       ·exact hfit.vl y hy
      ·rfl
     ·rw [if_pos hz] at hI
      rw [hI]
      (refine Ab rfl<|Aa<|Ad<|Ab rfl<|AO rfl rfl<|Aa<|Ay rfl (by omega)<|Ad<|BI rfl<|Ab rfl ?_)
      refine Bq 1 rfl rfl rfl rfl (Ach _) rfl ?_
      (refine Ae rfl<|Ab rfl<|Aa<|Ao ?_)
      exact A7 [mdV Ci none 0,.bool false,.int .i64 (BO s n.vals[i]).2] ⟨AT 1 rfl rfl rfl,Au rfl,Au rfl,trivial⟩ (d':=d3) (L':=tb bt Tt (.pointer (some ⟨bp,0,none⟩)) r h c::L5) (Vs.drop (.cons _ (.cons _ (.cons _ (.cons _ (.cons _ (Acb _))))))) ⟨hl.trans hl3,none,0,L5,rfl,RSl.nil,D3,rfl,hp5⟩
    |false=>
     have hI:=TQ (cell:=cell) he hne hfd
     have hfk:=hfit.k
     have hfv:=hfit.v
     (refine Ad<|Ae rfl<|Aa<|AR rfl ?_)
     refine Br [_,_] (hk::hv::hi::tb bt Tt (.pointer (some ⟨bp,0,none⟩)) r h c::L3) rfl ?_
     (refine Ai rfl<|Ag rfl (Aj 0 rfl rfl)<|Ab rfl<|Am rfl<|Ai rfl<|Ag rfl (Aj 0 rfl rfl)<|Ab rfl<|Am rfl ?_)
     refine Gz (α:=Nat×TypeId) (β:=Option Addr×Nat×Ac) [(0,.pointer (some ⟨bt,0,none⟩)),(1,.int .i64 k),(10,.pointer (some ⟨b10,0,none⟩)),(13,.pointer (some ⟨b13,0,none⟩)),(16,.bool false),(67,.slice va n.vals.length vc),(68,.int .i64 i)]
      (fun x=>[(70,.slice (some ⟨x.1,0,none⟩) 1 1)]) (fun x d L=>L=[bx x.1 x.2 [.slice ca cell.length cc]]) (fun y=>[(65,.slice y.1 (n.keys.length+1) y.2.1),(72,.pointer (some ⟨b13,1,none⟩))])
      (fun y d' M=>As 1 RBs d' (.slice y.1 (n.keys.length+1) y.2.1) (BX n.keys i key) y.2.2∧M=y.2.2::hv::hi::tb bt Tt (.pointer (some ⟨bp,0,none⟩)) r h c::L3) [] _ rfl
      (fun x d d' M hl h=>h) (fun y d d' M hl h=>⟨h.1.D7 hl,h.2⟩) (fun x=>rfl) (fun y=>rfl) rfl ⟨rfl,rfl,rfl,rfl,rfl,rfl,rfl,trivial⟩ ?_ ?_ ?_
     ·refine Ea (v0:=.slice ca cell.length cc) rfl rfl (fun b70 T70=>?_)
      (apply A8)
      exact⟨_,rfl,(b70,T70),⟨rfl,trivial⟩,rfl⟩
     ·refine Bk rfl (h4 hw2 (by omega)) (fun v d3 L3' _ ⟨e0,hc,e1,hgc⟩=>?_)
      subst e0;subst e1
      obtain⟨ga0,gc0,rfl⟩:=hgc.val
      refine Mg (fun d4 hl4 hg4=>?_)
      have hkey4:AM d4 (.slice ga0 key.length gc0) key:=As.rsl (R:=AP) (sz:=1) hgc AX (by omega) hl4 hg4
      refine Ea (v0:=.slice ga0 key.length gc0) rfl rfl (fun b64 T64=>?_)
      refine DD (A:=[_,_]) rfl rfl (h5 (r1.D7 hl4) hile (by omega) ⟨_,rfl,hkey4⟩ Fx) (fun v d5 L5 hl5 ⟨e2,h',e3,hg⟩=>?_)
      subst e2;subst e3
      have hgl:=E4 (y:=key) hile
      obtain⟨ga,gc,rfl⟩:=hg.val
      rw [hgl] at hg⊢
      (refine Ai rfl<|A8 ?_)
      exact⟨_,rfl,(ga,gc,h'),⟨rfl,rfl,trivial⟩,hg,rfl⟩
     ·rintro⟨b70,T70⟩ ⟨ga,gc,h65⟩ ρ2 d3 M1 M2 hl3 hM1 ⟨hg65,hM2⟩
      subst hM1;subst hM2
      simp only at hg65⊢
      refine CU (A:=[bx b70 T70 [.slice ca cell.length cc],hv]) (h5 (r2.D7 hl3) (show i≤n.vals.length by omega) (by omega) ⟨_,rfl,RSl.mono (R:=AP) AX hcv2 hl3⟩ Fx) (Acn _ (Adj (l₁:=[_]))) rfl (fun v d4 L4 hl4 ⟨e0,h71,e1,hg71⟩=>?_)
      subst e0;subst e1
      obtain⟨za,zc,rfl⟩:=hg71.val
      refine⟨_,_,Vs.refl _ _,?_⟩
      apply B4
      refine A0 0 [.bool n.leaf,.slice ga (n.keys.length+1) gc,.slice va n.vals.length vc,.slice ia n.kids.length ic] rfl rfl rfl rfl (Aca rfl) rfl rfl ?_
      (apply Ai;rfl)
      refine A0 0 [.bool n.leaf,.slice ga (n.keys.length+1) gc,.slice za (BX n.vals i cell).length zc,.slice ia n.kids.length ic] rfl rfl rfl rfl (Aca rfl) rfl rfl ?_
      (apply Aa)
      refine⟨hl3,_,{n with keys:=BX n.keys i key,vals:=BX n.vals i cell},s,h65,h71,hi,L3,[_,_,_],⟨rfl,rfl,rfl,rfl,rfl,trivial⟩,⟨_,_,_,rfl,hg65,hg71,r3.Ih hl3⟩,⟨?_,?_,?_,fun y hy=>?_,fun y hy=>?_⟩,hp2.mono hl3,hI,Adc _ _ _,?_⟩
      ·show(BX n.keys i key).length≤600
       rw [E4 hile];omega
      ·show(BX n.vals i cell).length≤600
       rw [E4 (by omega)];omega
      ·have:=hfit.i;show n.kids.length≤600;omega
      ·rcases Jo hy with rfl|hy
       ·exact hkl
       ·exact hfit.kl y hy
      ·rcases Jo hy with rfl|hy
       ·exact hcl
       ·exact hfit.vl y hy
      ·rfl
   ·rintro ρ d' L' ⟨hle,cs',n',s',hk',hv',hi',L4,Lr,hsl,hn',hfit',hp',hI,hpm,hLL⟩
    subst hLL
    rw [hI]
    obtain⟨ka',kc',va',vc',ia',ic',rfl⟩:=hn'.cells
    refine Dl _ hsl ?_
    obtain⟨d4,hl4,v4,hn4⟩:=F4 hn'
    have hmo:=GG hp'.E0 (n:=n') hk0 hk1 hfit'.kl
    (refine Ad<|Ak rfl<|Ab rfl<|Bg 0 rfl rfl rfl ?_)
    refine B9 _ _ (Vs.out [_,_] _ hpm v4) ?_
    refine A3 [_,_] (h6 (k:=k) (hp'.mono hl4) hn4 (hfit'.small (by omega))) rfl rfl (fun v d5 L5 hl5 ⟨_,ua,uc,L6,e5,hk5,e6,hp6⟩=>?_)
    subst e5;subst e6
    (refine AU rfl<|Ap rfl rfl<|Ap rfl rfl<|BV (fun _ _=>?_))
    rename_i b18 T18
    refine Bq 0 rfl rfl rfl rfl (Ach _) rfl ?_
    (refine Ab rfl<|Aa<|Ad<|Bg 0 rfl rfl rfl<|Ae rfl<|Bj rfl<|Ab rfl ?_)
    refine Bq 2 rfl rfl rfl rfl (Ach _) rfl ?_
    (refine Ae rfl<|Ab rfl<|Aa<|Ao ?_)
    exact A7 [mdV (Bc s' k n').2.1 ua uc,.bool (!b),.int .i64 (Bc s' k n').2.2] ⟨AT 2 rfl rfl rfl,Au rfl,Au rfl,trivial⟩ (d':=d5) (L':=tb bt Tt (.pointer (some ⟨bp,0,none⟩)) r h c::L6) (Vs.drop (.cons _ (.cons _ (.cons _ (Acb _))))) ⟨((hl.trans hle).trans hl4).trans hl5,ua,uc,L6,rfl,hk5,hmo,rfl,hp6⟩
  ·obtain⟨x,rfl⟩:∃y,x=y+1:=⟨x - 1,by omega⟩
   have hil:=hli (by rw [hlf];simp;omega)
   clear hlv hli hlf
   have hI:=NO (key:=key) (cell:=cell) he hne hfd
   have hii:i<n.kids.length:=by omega
   have hgk:n.kids.getD i 0=n.kids[i]:=by rw [Acf,Ace hii];rfl
   rw [hgk] at hI
   have hkb:=hkd _ (Ada hii)
   have hnk0:=hnk
   obtain⟨b1,T1,l1,c1,cs1,q1,rfl,hcl1,hcs,hle1,⟨rfl,hb1,hb2⟩, -⟩:=As.at (by omega) r3 hii
   cases q1
   have c0:=hcs 0 _ rfl
   refine Ar rfl (by omega) ?_
   (refine Al<|Ad<|Ak rfl<|Ai rfl<|Ag rfl (Aj 0 rfl rfl)<|Ab rfl<|Bx _ rfl rfl rfl (by omega)<|Ag rfl (Aj 4 rfl (by assumption))<|Ab rfl<|CY rfl rfl (by omega) (by omega)<|Am rfl<|Am rfl ?_)
   refine Fc (g:=93) (v:=.int .i64 ((x+1:Nat):Int)) (congrArg (Value.int .i64) (by push_cast;omega)) ?_
   skip
   refine A3 [_,_,_,_,_] (ih x (Nat.lt_succ_self x) (k:=n.kids[i]) (by omega) hp2 hw2 hcv2 hkl hcl (by omega) (by omega)) rfl rfl (fun v d3 L4 hl3 ⟨_,ua,uc,L5,e3,hk3,hm3,e4,hp5⟩=>?_)
   subst e3;subst e4
   generalize BY s n.kids[i] key cell (x+1)=U at hI hk3 hm3 hp5
   (refine AU rfl<|Ap rfl rfl<|Ap rfl rfl<|Ap rfl rfl<|BV (fun _ _=>?_))
   rename_i b20 T20
   refine Bq 0 rfl rfl rfl rfl (Ach _) rfl ?_
   by_cases hz:U.2.2.2=0
   ·rw [if_neg (fun q=>q hz)] at hI
    rw [hI,hz]
    have hmo:=PR hp5.E0 (n:=n) (i:=i) hk0 hk1 hfit.kl hm3
    (refine Ae rfl<|Ab rfl<|Aa<|Ah<|Ad<|Ab rfl<|AO rfl rfl<|Aa<|Ar rfl (by omega)<|Al<|Ad<|Ak rfl<|Ab rfl<|Bg 1 rfl rfl rfl<|Ab rfl<|Bg 0 rfl rfl rfl ?_)
    refine A3 [_,_,_] (h8 (k:=k) (n:=n) (i:=i) (m:=U.2.1) hp5 (hnk0.mono hl3) ⟨by have:=hfit.k;omega,by have:=hfit.v;omega,by have:=hfit.i;omega,hfit.kl,hfit.vl⟩ hii (fun _=>hile) hm3 hk3) rfl rfl (fun v d6 L6 hl6 ⟨_,ua',uc',L7,e6,hk6,e7,hp7⟩=>?_)
    subst e6;subst e7
    (refine AU rfl<|Ap rfl rfl<|Ap rfl rfl<|BV (fun _ _=>?_))
    rename_i b22 T22
    refine Bq 0 rfl rfl rfl rfl (Ach _) rfl ?_
    (refine Ab rfl<|Aa<|Ad<|Bg 0 rfl rfl rfl<|Ae rfl<|Ab rfl ?_)
    refine Bq 3 rfl rfl rfl rfl (Ach _) rfl ?_
    (refine Ae rfl<|Ab rfl<|Aa<|Ao ?_)
    exact A7 [mdV (Cm U.1 k n i U.2.1).2.1 ua' uc',.bool U.2.2.1,.int .i64 (Cm U.1 k n i U.2.1).2.2] ⟨AT 3 rfl rfl rfl,Au rfl,Au rfl,trivial⟩ (d':=d6) (L':=tb bt Tt (.pointer (some ⟨bp,0,none⟩)) r h c::L7) (Vs.drop (.cons _ (.cons _ (.cons _ (.cons _ (Acb _)))))) ⟨(hl.trans hl3).trans hl6,ua',uc',L7,rfl,hk6,hmo,rfl,hp7⟩
   ·rw [if_pos hz] at hI
    rw [hI]
    (refine Ae rfl<|Ab rfl<|Aa<|Ah<|Ad<|Ab rfl<|AO rfl rfl<|Aa<|Ay rfl (by omega)<|Ad<|BI rfl<|Ab rfl ?_)
    refine Bq 2 rfl rfl rfl rfl (Ach _) rfl ?_
    (refine Ae rfl<|Ab rfl<|Aa<|Ao ?_)
    exact A7 [mdV Ci none 0,.bool false,.int .i64 U.2.2.2] ⟨AT 2 rfl rfl rfl,Au rfl,Au rfl,trivial⟩ (d':=d3) (L':=tb bt Tt (.pointer (some ⟨bp,0,none⟩)) r h c::L5) (Vs.drop (.cons _ (.cons _ (.cons _ (.cons _ (.cons _ (.cons _ (Acb _)))))))) ⟨hl.trans hl3,none,0,L5,rfl,RSl.nil,D3,rfl,hp5⟩
 ·rw [Yp he]
  (refine Ab rfl<|Aa<|Ah<|Ad<|Ab rfl<|AO rfl rfl<|Aa<|Ay rfl (by omega)<|Ad<|BI rfl<|Ab rfl ?_)
  refine Bq 1 rfl rfl rfl rfl (Ach _) rfl ?_
  (refine Ae rfl<|Ab rfl<|Aa<|Ao ?_)
  exact A7 [mdV Ci none 0,.bool false,.int .i64 (A4 s k ((x+1:Nat):Int)).2] ⟨AT 1 rfl rfl rfl,Au rfl,Au rfl,trivial⟩ (d':=d2) (L':=tb bt Tt (.pointer (some ⟨bp,0,none⟩)) r h c::L3) (Vs.drop (.cons _ (.cons _ (.cons _ (.cons _ (.cons _ (Acb _))))))) ⟨hl,none,0,L3,rfl,RSl.nil,D3,rfl,hp2⟩
end Go.Gk.Tre
end
section
namespace Go.Gk.Tre
open Go Go.Gk Go.Gk.Dev Go.Gk.Cch Go.Gk.Pgr Go.Gk.Chn Go.Gk.Node
theorem RH:∀(l:List Int) (s:PD),Pgr.AH s (Dp s l)
 |[],s=>Pgr.AH.refl s
 |k::l,s=>(Pgr.AH.drop s k).trans (RH l _)
theorem NC:∀(n:Nat) (s:PD) (l:List Int),Pgr.AH s (BQ s l n).1
 |0,s,l=>Pgr.AH.refl s
 |n+1,s,l=>by
  rw [BQ]
  split
  ·exact(Pgr.AH.AV s).trans (NC n _ _)
  ·exact Pgr.AH.AV s
theorem Tw{s:PD}{l:List Int}{b:List UInt8}:∀i,Pgr.AH s (Chn.Ds s l b i)
 |0=>Pgr.AH.refl s
 |i+1=>(Tw i).trans (Pgr.AH.put _ _ _)
theorem Zt(s:PD) (b:List UInt8):Pgr.AH s (B0 s b).1:=by
 have h:Pgr.AH s (Chn.Bz s (AQ b.length)).1:=by
  unfold Chn.Bz
  split
  ·exact NC _ _ _
  ·exact(NC _ _ _).trans (RH _ _)
 unfold B0
 dsimp only
 split
 ·exact h.trans (Tw _)
 ·exact h
theorem RQ:∀(l:List Int) (s:PD),Pgr.AH s (Dy s l).1
 |[],s=>Pgr.AH.refl s
 |k::l,s=>by
  rw [Dy]
  split
  ·exact(Pgr.AH.drop s k).trans (RQ l _)
  ·exact Pgr.AH.drop s k
theorem Xa(s:PD) (k n:Int):Pgr.AH s (DN s k n).1:=by
 unfold DN
 split
 ·exact RQ _ _
 ·exact Pgr.AH.refl s
theorem LF(s:PD) (c:List UInt8):Pgr.AH s (BO s c).1:=by
 unfold BO
 split
 ·exact Pgr.AH.refl s
 ·split
  ·exact Xa _ _ _
  ·exact Pgr.AH.refl s
theorem LJ(s:PD) (v:List UInt8):Pgr.AH s (BU s v).1:=by
 unfold BU
 split
 ·exact Pgr.AH.refl s
 ·exact Zt s v
theorem HJ(s:PD) (k:Int) (n:AF):Pgr.AH s (Bt s k n).1:=by
 unfold Bt
 split
 ·split
  ·exact Pgr.AH.put _ _ _
  ·split
   ·exact Pgr.AH.AV s
   ·split
    ·split
     ·exact(Pgr.AH.AV s).trans (Pgr.AH.drop _ _)
     ·exact((Pgr.AH.AV s).trans (Pgr.AH.drop _ _)).trans (Pgr.AH.put _ _ _)
    ·exact(Pgr.AH.AV s).trans (Pgr.AH.put _ _ _)
 ·exact Pgr.AH.refl s
theorem ER(s:PD) (k:Int) (n:AF):Pgr.AH s (Bc s k n).1:=by
 unfold Bc
 split
 ·exact HJ _ _ _
 ·split
  ·show Pgr.AH s (if (Bt s k (AW n)).2.2=0 then _ else _:PD×MdD×Int).1
   split
   ·exact(HJ _ _ _).trans (HJ _ _ _)
   ·exact HJ _ _ _
  ·exact Pgr.AH.refl s
theorem QP(s:PD) (k:Int) (n:AF) (i:Nat) (m:MdD):Pgr.AH s (Cm s k n i m).1:=by
 unfold Cm
 split
 ·exact Pgr.AH.refl s
 ·split
  ·exact ER _ _ _
  ·exact ER _ _ _
theorem NK(key cell:List UInt8):∀(h:Nat) (s:PD) (k:Int),Pgr.AH s (BY s k key cell h).1
 |0,s,k=>Pgr.AH.refl s
 |h+1,s,k=>by
  rw [BY]
  dsimp only
  split
  ·exact Pgr.AH.refl s
  ·split
   ·split
    ·split
     ·exact LF _ _
     ·exact(LF _ _).trans (ER _ _ _)
    ·exact ER _ _ _
   ·split
    ·exact NK key cell h _ _
    ·exact(NK key cell h _ _).trans (QP _ _ _ _ _)
theorem ZV(s:PD) (k:Int) (n:AF) (i:Nat):Pgr.AH s (Du s k n i).1:=by
 unfold Du
 split
 ·exact Pgr.AH.refl s
 ·dsimp only
  generalize (if i=n.keys.length then i - 1 else i)=j
  split
  ·exact Pgr.AH.refl s
  ·split
   ·exact Pgr.AH.refl s
   ·split
    ·exact Pgr.AH.refl s
    ·split
     ·exact ER _ _ _
     ·split
      ·exact(ER _ _ _).trans (Pgr.AH.drop _ _)
      ·split
       ·exact((ER _ _ _).trans (Pgr.AH.drop _ _)).trans (ER _ _ _)
       ·exact((ER _ _ _).trans (Pgr.AH.drop _ _)).trans (ER _ _ _)
theorem Oq(key:List UInt8):∀(h:Nat) (s:PD) (k:Int),Pgr.AH s (BT s k key h).1
 |0,s,k=>Pgr.AH.refl s
 |h+1,s,k=>by
  rw [BT]
  dsimp only
  split
  ·exact Pgr.AH.refl s
  ·split
   ·split
    ·split
     ·exact LF _ _
     ·exact(LF _ _).trans (ER _ _ _)
    ·exact Pgr.AH.refl s
   ·split
    ·exact Oq key h _ _
    ·have h0:=Oq key h s ((A4 s k ((h+1:Nat):Int)).1.kids.getD (findD (A4 s k ((h+1:Nat):Int)).1 key).1 0)
     split
     ·exact h0.trans (ZV _ _ _ _)
     ·exact h0.trans (QP _ _ _ _ _)
theorem Tl(t:TD) (m:MdD):Pgr.AH t.s (CK t m).1.s:=by
 unfold CK
 split
 ·exact Pgr.AH.refl _
 ·exact HJ _ _ _
theorem Vv(t:TD):Pgr.AH t.s (DE t).1.s:=by
 unfold DE
 dsimp only
 split
 ·exact Pgr.AH.refl _
 ·split
  ·exact Pgr.AH.drop _ _
  ·exact Pgr.AH.drop _ _
theorem Sw(t:TD) (key value:List UInt8):Pgr.AH t.s (CL t key value).1.s:=by
 unfold CL
 dsimp only
 split
 ·exact LJ _ _
 ·split
  ·exact(LJ _ _).trans (HJ _ _ _)
  ·split
   ·exact(LJ _ _).trans (NK _ _ _ _ _)
   ·exact((LJ _ _).trans (NK _ _ _ _ _)).trans (Tl {t with s:=_,count:=_} _)
theorem RW(t:TD) (key:List UInt8):Pgr.AH t.s (BP t key).1.s:=by
 unfold BP
 split
 ·exact Pgr.AH.refl _
 ·dsimp only
  split
  ·exact Oq _ _ _ _
  ·have h:=(Oq key t.height t.s t.root).trans (Tl {t with s:=(BT t.s t.root key t.height).1,count:=t.count - 1} (BT t.s t.root key t.height).2.1)
   split
   ·exact h
   ·exact h.trans (Vv _)
theorem Qh{t r:TD}{e:Int} (h:Pgr.AH t.s r.s):Pgr.AH t.s (B2 t r e).s:=by
 unfold B2
 split
 ·exact h
 ·exact h.back
end Go.Gk.Tre
end
section
namespace Go.Gk.Tre
open Go Go.Gk Go.Gk.Dev Go.Gk.Cch Go.Gk.Pgr Go.Gk.Chn Go.Gk.Node
attribute [local irreducible] gwp gws xwp
structure Kg (t:TD):Prop where
 r0: -1≤t.root
 r1:t.root≤16384
 h:t.height≤900000
 c:t.count≤900000
theorem YA(s:PD) (v:List UInt8):(BU s v).2.1.length≤16:=by
 unfold BU
 split
 ·rename_i h;simp;omega
 ·simp [F6]
def Ml(a0 a1 a2 a3 a4:Nat):AY:=⟨76,[(.tmp 3)],(sR (o1 3 (.mv (kZ 0)) .done) (sR (ol 11 0<|ol 12 1<|oc 13 a0 [(tP 11),(tP 12)]<|om 10 13<|oe 14 10 0<|oe 15 10 1<|om 4 14<|om 5 15 .done) (.seq (sR (om 16 5<|ob 17 .neq (tP 16) (kZ 0) .done) (.cond (tP 17) (sR (om 18 5<|om 3 18 .done) .ret) .skip)) (.seq (sR (ol 19 0<|o1 20 (.nilc (tP 19))<|oj 21 2 20<|ol 22 21<|ob 23 .eql (tP 22) (kZ 0) .done) (.cond (tP 23) (sR (ol 25 0<|ol 26 2<|o1 27 (.bsl 1 1 [(.slice none 0 0)] [(0,(tP 26))])<|om 28 4<|o1 29 (.bsl 1 1 [(.slice none 0 0)] [(0,(tP 28))])<|o1 30 (.bld [(0,1),(1,1),(2,1),(3,1)] [(.bool false),(.slice none 0 0),(.slice none 0 0),(.slice none 0 0)] [(0,(.const (.bool true))),(1,(tP 27)),(2,(tP 29))])<|oc 31 a1 [(tP 25),(kZ (-1)),(tP 30)]<|om 24 31<|oe 32 24 0<|oe 33 24 1<|om 6 32<|om 7 33 .done) (sR (ol 34 0<|ol 35 0<|ol 36 0<|om 37 6<|o1 38 (.nilc (tP 34))<|oj 39 1 38<|o0 (.st 1 (tP 39) (tP 37))<|o1 40 (.nilc (tP 35))<|oj 41 2 40<|o0 (.st 1 (tP 41) (kZ 1))<|o1 42 (.nilc (tP 36))<|oj 43 3 42<|o0 (.st 1 (tP 43) (kZ 1)) .done) (sR (om 44 7<|om 3 44 .done) .ret))) .skip)) (.seq (.reg true (pl 46 0<|pl 47 0<|p1 48 (.nilc (tP 47))<|p1 49 (.fld 1 (tP 48))<|pl 50 49<|pl 51 0<|p1 52 (.nilc (tP 51))<|p1 53 (.fld 2 (tP 52))<|pl 54 53<|pl 55 2<|pm 56 4 (.par (o1 8 (.alo (.agg #[(.int .i64 0),(.int .i64 0),(.slice none 0 0),(.int .i64 0)])) .done) (oc 57 a2 [(tP 46),(tP 50),(tP 54),(tP 55),(tP 56)] (pm 45 57 (p1 58 (.ext (tP 45) 0) (p1 59 (.ext (tP 45) 1) (p1 60 (.ext (tP 45) 2) .done))))) (o0 (.st 4 (tP 8) (tP 58)) (pm 9 59 (pm 5 60 .done)))))) (.seq (sR (om 61 5<|ob 62 .neq (tP 61) (kZ 0) .done) (.cond (tP 62) (sR (om 63 5<|om 3 63 .done) .ret) .skip)) (.seq (.reg true (pl 64 0<|p1 65 (.nilc (tP 64))<|p1 66 (.fld 3 (tP 65))<|pl 67 66<|pm 68 9<|oc 69 a3 [(tP 68)]<|p1 70 (.bin .add (tP 67) (tP 69))<|p1 71 (.nilc (tP 64))<|p1 72 (.fld 3 (tP 71)) (.bar (o0 (.st 1 (tP 72) (tP 70)) .done)))) (sR (ol 73 0<|o1 74 (.ld (some 4) (tP 8))<|oc 75 a4 [(tP 73),(tP 74)]<|om 3 75 .done) .ret))))))))⟩
def Cq(t:TD) (key value:List UInt8):TD×Int:=
 if BL key≠0 then(t,BL key) else if 16384<value.length then(t,3) else(B2 t (CL t key value).1 (CL t key value).2,(CL t key value).2)
def N5(a0 a1 a2:Nat):AY:=⟨20,[(.tmp 6)],(sR (o1 3 (.box (tP 0))<|o1 4 (.box (tP 1))<|o1 5 (.box (tP 2))<|o1 6 (.mv (kZ 0)) .done) (.seq (sR (ol 8 3<|ol 9 4<|oc 10 a0 [(tP 8),(tP 9)]<|om 7 10 .done) (sR (om 11 7<|ob 12 .neq (tP 11) (kZ 0) .done) (.cond (tP 12) (sR (om 13 7<|om 6 13 .done) .ret) .skip))) (.seq (sR (ol 14 5<|oL 15 14<|ob 16 .gtr (tP 15) (kZ 16384) .done) (.cond (tP 16) (sR (o1 6 (.mv (kZ 3)) .done) .ret) .skip)) (sR (ol 17 3<|o1 18 (.mkf (.func a1) [] [(tP 3),(tP 5),(tP 4)])<|oc 19 a2 [(tP 17),(tP 18)]<|om 6 19 .done) .ret))))⟩
def LN(P:Program) (f:FuncId):Prop:=∀{d:Ac}{t:TD}{bt pb:Nat}{Tt:TypeId}{L:List Ac},CW P f [.pointer (some ⟨bt,0,none⟩)] d (tbD bt Tt (.pointer (some ⟨pb,0,none⟩)) t::L) (.int .i64 t.root)
def NH(a0:Nat):AY:=⟨9,[(.tmp 2)],(sR (o1 2 (.mv (kZ 0)) .done) (.seq (sR (om 3 0<|oc 4 a0 [(tP 3)] .done) (.cond (tP 4) (sR (o1 2 (.mv (kZ (-1))) .done) .ret) .skip)) (sR (om 5 0<|o1 6 (.nilc (tP 5))<|oj 7 1 6<|ol 8 7<|om 2 8 .done) .ret)))⟩
theorem Yu{P:Program}{f f1:FuncId} (hd:dec P f=some (NH f1)) (h1:HH P f1):LN P f:=by
 intro d t bt pb Tt L
 refine AG hd (Aca rfl) ?_
 show gwp P _ _ _ _ _
 (refine Ad<|Ab rfl<|Aa<|Ah<|Ad<|Ak rfl ?_)
 refine B3 [] (h1 (L:=L)) rfl rfl ?_
 (refine Aa<|AR rfl<|Al<|Ad<|Ak rfl<|Av rfl<|Ai rfl<|Ag rfl (Aj 0 rfl rfl)<|Ab rfl<|Aa<|Ao ?_)
 exact BG rfl (Acb _) ⟨rfl,rfl,rfl⟩
def Hb(P:Program) (f:FuncId):Prop:=∀{d:Ac}{t:TD}{bt pb:Nat}{Tt:TypeId}{L:List Ac},CW P f [.pointer (some ⟨bt,0,none⟩)] d (tbD bt Tt (.pointer (some ⟨pb,0,none⟩)) t::L) (.int .i64 t.height)
def Kz(a0:Nat):AY:=⟨9,[(.tmp 2)],(sR (o1 2 (.mv (kZ 0)) .done) (.seq (sR (om 3 0<|oc 4 a0 [(tP 3)] .done) (.cond (tP 4) (sR (o1 2 (.mv (kZ 0)) .done) .ret) .skip)) (sR (om 5 0<|o1 6 (.nilc (tP 5))<|oj 7 2 6<|ol 8 7<|om 2 8 .done) .ret)))⟩
theorem UU{P:Program}{f f1:FuncId} (hd:dec P f=some (Kz f1)) (h1:HH P f1):Hb P f:=by
 intro d t bt pb Tt L
 refine AG hd (Aca rfl) ?_
 show gwp P _ _ _ _ _
 (refine Ad<|Ab rfl<|Aa<|Ah<|Ad<|Ak rfl ?_)
 refine B3 [] (h1 (L:=L)) rfl rfl ?_
 (refine Aa<|AR rfl<|Al<|Ad<|Ak rfl<|Av rfl<|Ai rfl<|Ag rfl (Aj 0 rfl rfl)<|Ab rfl<|Aa<|Ao ?_)
 exact BG rfl (Acb _) ⟨rfl,rfl,rfl⟩
def GP(P:Program) (f:FuncId):Prop:=∀{d:Ac}{t:TD}{bt pb:Nat}{Tt:TypeId}{L:List Ac},CW P f [.pointer (some ⟨bt,0,none⟩)] d (tbD bt Tt (.pointer (some ⟨pb,0,none⟩)) t::L) (.int .i64 t.count)
def Mi(a0:Nat):AY:=⟨9,[(.tmp 2)],(sR (o1 2 (.mv (kZ 0)) .done) (.seq (sR (om 3 0<|oc 4 a0 [(tP 3)] .done) (.cond (tP 4) (sR (o1 2 (.mv (kZ 0)) .done) .ret) .skip)) (sR (om 5 0<|o1 6 (.nilc (tP 5))<|oj 7 3 6<|ol 8 7<|om 2 8 .done) .ret)))⟩
theorem V0{P:Program}{f f1:FuncId} (hd:dec P f=some (Mi f1)) (h1:HH P f1):GP P f:=by
 intro d t bt pb Tt L
 refine AG hd (Aca rfl) ?_
 show gwp P _ _ _ _ _
 (refine Ad<|Ab rfl<|Aa<|Ah<|Ad<|Ak rfl ?_)
 refine B3 [] (h1 (L:=L)) rfl rfl ?_
 (refine Aa<|AR rfl<|Al<|Ad<|Ak rfl<|Av rfl<|Ai rfl<|Ag rfl (Aj 0 rfl rfl)<|Ab rfl<|Aa<|Ao ?_)
 exact BG rfl (Acb _) ⟨rfl,rfl,rfl⟩
theorem Tu{s:PD}{n:Nat}{key:List UInt8}:∀(x:Nat) (k:Int),EH (wtc s n) key k x=EH s key k x
 |0,_=>rfl
 |x+1,k=>by
  rw [EH,EH,show A4 (wtc s n) k ((x+1:Nat):Int)=A4 s k ((x+1:Nat):Int) from rfl]
  simp only [Uc,Tu x]
theorem XO{s:PD}{n:Nat}{root:Int}{h c:Nat}{key:List UInt8}:CX ⟨wtc s n,root,h,c⟩ key=CX ⟨s,root,h,c⟩ key:=by
 unfold CX
 simp only [Tu]
theorem Ud{P:Program}{f:FuncId}{d:Ac}{s:PD}{root:Int}{h c:Nat}{dv pv kv:Value}{L:List Ac}{bt:Nat}{Tt:TypeId}{key:List UInt8} (hf:IW P f) (hp:PgT d s dv pv L) (hk:AM d kv key) (hh:h≤1000000):
  Aw P f [.pointer (some ⟨bt,0,none⟩),kv] d (tb bt Tt pv root h c::L) (Ret fun v d' L'=>Le d d'∧∃u L2,v=.tuple #[u,.bool (CX ⟨s,root,h,c⟩ key).2.1,.int .i64 (CX ⟨s,root,h,c⟩ key).2.2]∧AM d' u (CX ⟨s,root,h,c⟩ key).1∧L'=tb bt Tt pv root h c::L2∧PgT d' s dv pv L2):=by
 obtain⟨n,hp⟩:=hp
 refine Aw.Dr (hf (t:=⟨wtc s n,root,h,c⟩) (bt:=bt) (Tt:=Tt) hp hk hh) (fun r d' L' _ ⟨h0,u,L2,tc,h1,h2,h3,h4,_⟩=>⟨d',L',Vs.refl _ _,?_⟩)
 rw [XO] at h1 h2
 exact⟨h0,u,L2,h1,h2,h3,tc,h4⟩
theorem WQ{d:Ac}{v:Value}{l:List UInt8} (hl:l.length≤140737488355328) (h:∃b c cs,v=.slice (some ⟨b,0,none⟩) l.length c∧l.length≤c∧c≤9223372036854775807∧DCs d b 0 cs∧cs.length=c∧cs.take l.length=l.map Az):AM d v l:=by
 obtain⟨b,c,cs,rfl,h1,h2,h3,h4,h5⟩:=h
 refine⟨some ⟨b,0,none⟩,c,b,0,rfl,SAd.some _ _ _,fun _ a' q=>(by cases q;rfl),fun q=>(by cases q),h1,h2,hl,fun i hi=>⟨[Az l[i]],rfl,?_,rfl⟩⟩
 have h6:cs[i]?=some (Az l[i]):=by
  have:=congrArg (·[i]?) h5
  simp only [Aep,Ace hi,Aeq] at this
  rw [Adu hi] at this
  exact this
 have:=(h3.at h6).cells
 rw [Aen]
 exact this
def JB(t:TD) (x:KV):Bool:=decide ((CX t x.1).2.2=0)&&((CX t x.1).2.1 && decide ((CX t x.1).1=x.2))
def Ga(t:TD) (m:List KV):Bool:=m.all (JB t)&& decide (t.count=m.length)
def Sp(P:Program) (f:FuncId):Prop:=∀{d:Ac}{s:PD}{root:Int}{h c:Nat}{dv pv w:Value}{L:List Ac}{bt:Nat}{Tt:TypeId}{m:List KV},PgT d s dv pv L→RSl 2 RKv d w m→h≤1000000→c≤1000000000→
 Aw P f [.pointer (some ⟨bt,0,none⟩),w] d (tb bt Tt pv root h c::L) (Ret fun v d' L'=>Le d d'∧v=.bool (Ga ⟨s,root,h,c⟩ m)∧∃L2,L'=tb bt Tt pv root h c::L2∧PgT d' s dv pv L2)
def Li(a0 a1:Nat):AY:=⟨44,[(.tmp 4)],(sR (o1 4 (.mv (.const (.bool false))) .done) (.seq (sR (om 10 1<|oL 11 10<|o1 12 (.mv (kZ 0)) .done) (.block 0 (.loop (sR (ob 13 .lss (tP 12) (tP 11) .done) (.seq (.cond (tP 13) .skip (.exit 0)) (.seq (.block 1 (sR (oI 14 2 10 12<|o1 15 (.ld (some 2) (tP 14))<|o1 6 (.alo (.agg #[(Bs []),(Bs [])]))<|o0 (.st 2 (tP 6) (tP 15)) .done) (sR (om 17 0<|oj 18 0 6<|ol 19 18<|o1 20 (.mop (.s2b (tP 19)))<|oc 21 a0 [(tP 17),(tP 20)]<|om 16 21<|oe 22 16 0<|oe 23 16 1<|oe 24 16 2<|om 7 22<|om 8 23<|om 9 24 .done) (sR (om 25 9<|ob 26 .neq (tP 25) (kZ 0)<|om 27 26<|gF 28 27 8<|oF 29 27 (.un .not (tP 28))<|o1 30 (.pick (tP 27) (.const (.bool true)) (tP 29))<|om 31 30<|gF 32 31 7<|oF 33 31 (.b2s (tP 32))<|oF 34 31 (.fld 1 (tP 6))<|oF 35 31 (.ld none (tP 34))<|oF 36 31 (.bin .neq (tP 33) (tP 35))<|o1 37 (.pick (tP 31) (.const (.bool true)) (tP 36)) .done) (.cond (tP 37) (sR (o1 4 (.mv (.const (.bool false))) .done) .ret) .skip))))) (rG (ob 38 .add (tP 12) (kZ 1)<|om 12 38 .done)))))))) (sR (om 39 0<|oc 40 a1 [(tP 39)]<|om 41 1<|oL 42 41<|ob 43 .eql (tP 40) (tP 42)<|om 4 43 .done) .ret)))⟩
set_option maxRecDepth 4000 in
theorem ZC{P:Program}{f f1 f2:FuncId} (hd:dec P f=some (Li f1 f2)) (h1:IW P f1) (h2:GP P f2):Sp P f:=by
 intro d s root h c dv pv w L bt Tt m hp hw hh hcc
 obtain⟨bp,rfl⟩:=hp.ptr
 have hwl:=hw.BW
 obtain⟨a,cw,rfl⟩:=hw.val
 refine AG hd (Aca rfl) ?_
 show gwp P _ _ _ _ _
 (refine Ad<|Ae rfl<|Aa<|Ah<|Ad<|Am rfl<|AL rfl<|Ab rfl<|Aa<|Ax ?_)
 refine CI (α:=Nat) (fun x=>[(0,.pointer (some ⟨bt,0,none⟩)),(1,.slice a m.length cw),(10,.slice a m.length cw),(11,.int .i64 m.length),(12,.int .i64 x)])
  (fun x d' L'=>Le d d'∧x≤m.length∧m.all (JB ⟨s,root,h,c⟩)=(m.drop x).all (JB ⟨s,root,h,c⟩)∧∃J L2,L'=J++tb bt Tt (.pointer (some ⟨bp,0,none⟩)) root h c::L2∧PgT d' s dv (.pointer (some ⟨bp,0,none⟩)) L2) (fun x=>m.length - x) 0 ⟨rfl,rfl,rfl,rfl,rfl,trivial⟩
  ⟨Le.refl _,Adf _,rfl,[],L,rfl,hp⟩ ?_
 rintro i ρ d' L' ⟨hle,hi,hal,J,L2,rfl,hp2⟩
 simp only at hi hal⊢
 have hw2:=RSl.mono (R:=RKv) Ef hw hle
 by_cases e:i<m.length
 ·rw [Adi e,Agy] at hal
  (refine Ad<|AA rfl rfl<|Aa<|Ah<|Ay rfl (by omega)<|Al<|Ah<|Ax<|Ad ?_)
  refine BH (m:=i) rfl hw2 rfl rfl e (fun b o cs hcl hdc ⟨q,q1,q2⟩=>?_)
  subst q
  (refine YH rfl (by assumption) rfl<|BV (fun _ _=>?_))
  rename_i b6 T6
  refine Bq 0 rfl rfl rfl rfl (Ach _) rfl ?_
  have hE:JB ⟨s,root,h,c⟩ m[i]=(decide ((CX ⟨s,root,h,c⟩ m[i].1).2.2=0)&&((CX ⟨s,root,h,c⟩ m[i].1).2.1 && decide ((CX ⟨s,root,h,c⟩ m[i].1).1=m[i].2))):=rfl
  rw [hE] at hal
  clear hE
  (refine Aa<|Ad<|Ak rfl<|Ai rfl<|Ag rfl (Aj 0 rfl rfl) ?_)
  refine Aa7 (l:=m[i].1) rfl q1 (fun v20 d3 hl3 hva hvb=>?_)
  have hb20:=WQ q1 hvb
  clear hvb
  obtain⟨xa,xc,rfl⟩:=hva
  have hcl:=Ud (root:=root) (c:=c) (bt:=bt) (Tt:=Tt) h1 (hp2.mono hl3) hb20 hh
  generalize CX ⟨s,root,h,c⟩ m[i].1=R at hcl hal
  obtain⟨ru,rb,re⟩:=R
  simp only at hcl hal
  refine A3 (_::J) hcl rfl rfl (fun v d4 L4 hl4 ⟨_,u,L5,e1,hu,e2,hp5⟩=>?_)
  subst e1;subst e2
  obtain⟨ua,uc,rfl⟩:=hu.val
  by_cases z1:re=0
  ·subst z1
   cases rb with
   |true=>
    rw [show(decide ((0:Int)=0)&&(true && decide (ru=m[i].2)))=decide (ru=m[i].2) by simp] at hal
    by_cases z2:ru=m[i].2
    ·rw [decide_eq_true z2,Afl] at hal
     (refine AU rfl<|Ap rfl rfl<|Ap rfl rfl<|Ap rfl rfl<|Am rfl<|Ae rfl<|Ab rfl<|Aa<|Ad<|Ab rfl<|AO rfl rfl<|Ae rfl<|AZ rfl (by omega)<|Af rfl<|Ae rfl<|Af rfl<|Bj rfl<|Aq rfl rfl<|Ae rfl<|Af rfl<|Am rfl<|Af rfl<|Bf rfl (by assumption)<|Af rfl<|Ai rfl<|Af rfl<|Ag rfl (Aj 0 rfl rfl)<|Af rfl<|LS rfl rfl<|Aq rfl rfl<|Aa ?_)
     show gwp P _ _ _ _ _
     first|refine Hq rfl (fun h9=>?_) (fun h9=>?_)|refine JR rfl (fun h9=>?_) (fun h9=>?_)
     ·exact absurd z2 h9
     ·clear h9
      (refine Al<|AE<|AN rfl rfl (by omega) (by omega)<|Ab rfl<|Aa ?_)
      exact⟨i+1,by omega,⟨rfl,rfl,rfl,rfl,rfl,trivial⟩,(hle.trans hl3).trans hl4,e,hal,_::J,L5,rfl,hp5⟩
    ·rw [decide_eq_false z2,Bool.false_and] at hal
     have hal:(m.all (JB ⟨s,root,h,c⟩)=false)∧True:=⟨hal,trivial⟩
     (refine AU rfl<|Ap rfl rfl<|Ap rfl rfl<|Ap rfl rfl<|Am rfl<|Ae rfl<|Ab rfl<|Aa<|Ad<|Ab rfl<|AO rfl rfl<|Ae rfl<|AZ rfl (by omega)<|Af rfl<|Ae rfl<|Af rfl<|Bj rfl<|Aq rfl rfl<|Ae rfl<|Af rfl<|Am rfl<|Af rfl<|Bf rfl (by assumption)<|Af rfl<|Ai rfl<|Af rfl<|Ag rfl (Aj 0 rfl rfl)<|Af rfl<|LS rfl rfl<|Aq rfl rfl<|Aa<|Ay rfl (by omega)<|Ad<|Ae rfl<|Aa<|Ao ?_)
     exact A7 [.bool false] ⟨Au rfl,trivial⟩ (d':=d4) (L':=tb bt Tt (.pointer (some ⟨bp,0,none⟩)) root h c::L5) (Vs.drop (Adm (_::J) _)) ⟨(hle.trans hl3).trans hl4,(by show Value.bool false=_;rw [show Ga ⟨s,root,h,c⟩ m=false by unfold Ga;rw [hal.1];rfl]),L5,rfl,hp5⟩
   |false=>
    rw [show(decide ((0:Int)=0)&&(false && decide (ru=m[i].2)))=false by simp,Bool.false_and] at hal
    have hal:(m.all (JB ⟨s,root,h,c⟩)=false)∧True:=⟨hal,trivial⟩
    (refine AU rfl<|Ap rfl rfl<|Ap rfl rfl<|Ap rfl rfl<|Am rfl<|Ae rfl<|Ab rfl<|Aa<|Ad<|Ab rfl<|AO rfl rfl<|Ae rfl<|AZ rfl (by omega)<|Af rfl<|Ae rfl<|Af rfl<|Bj rfl<|Aq rfl rfl<|Ae rfl<|An rfl<|An rfl<|An rfl<|An rfl<|An rfl<|AB rfl rfl<|Aa<|Be rfl<|Ad<|Ae rfl<|Aa<|Ao ?_)
    exact A7 [.bool false] ⟨Au rfl,trivial⟩ (d':=d4) (L':=tb bt Tt (.pointer (some ⟨bp,0,none⟩)) root h c::L5) (Vs.drop (Adm (_::J) _)) ⟨(hle.trans hl3).trans hl4,(by show Value.bool false=_;rw [show Ga ⟨s,root,h,c⟩ m=false by unfold Ga;rw [hal.1];rfl]),L5,rfl,hp5⟩
  ·rw [decide_eq_false z1,Bool.false_and,Bool.false_and] at hal
   have hal:(m.all (JB ⟨s,root,h,c⟩)=false)∧True:=⟨hal,trivial⟩
   (refine AU rfl<|Ap rfl rfl<|Ap rfl rfl<|Ap rfl rfl<|Am rfl<|Ae rfl<|Ab rfl<|Aa<|Ad<|Ab rfl<|AO rfl rfl<|Ae rfl<|Bd rfl (by omega)<|An rfl<|An rfl<|AB rfl rfl<|Ae rfl<|An rfl<|An rfl<|An rfl<|An rfl<|An rfl<|AB rfl rfl<|Aa<|Be rfl<|Ad<|Ae rfl<|Aa<|Ao ?_)
   exact A7 [.bool false] ⟨Au rfl,trivial⟩ (d':=d4) (L':=tb bt Tt (.pointer (some ⟨bp,0,none⟩)) root h c::L5) (Vs.drop (Adm (_::J) _)) ⟨(hle.trans hl3).trans hl4,(by show Value.bool false=_;rw [show Ga ⟨s,root,h,c⟩ m=false by unfold Ga;rw [hal.1];rfl]),L5,rfl,hp5⟩
 ·have:i=m.length:=by omega
  subst this
  rw [Afv,List.all_nil] at hal
  have hal:(m.all (JB ⟨s,root,h,c⟩)=true)∧True:=⟨hal,trivial⟩
  (refine Ad<|AA rfl rfl<|Aa<|Ah<|Ar rfl (by omega)<|Bh<|Ad<|Ak rfl ?_)
  refine B3 J (h2 (t:=⟨s,root,h,c⟩) (L:=L2)) rfl rfl ?_
  (refine Am rfl<|AL rfl<|AJ rfl rfl<|Ae rfl<|Aa<|Ao ?_)
  exact A7 [.bool (decide ((c:Int)=(m.length:Int)))] ⟨Au rfl,trivial⟩ (d':=d') (L':=tb bt Tt (.pointer (some ⟨bp,0,none⟩)) root h c::L2) (Vs.drop (Adm J _)) ⟨hle,(by show Value.bool _=_;rw [show Ga ⟨s,root,h,c⟩ m=decide ((c:Int)=(m.length:Int)) by unfold Ga;rw [hal.1,Afl];exact decide_eq_decide.2 (by show c=m.length↔_;omega)]),L2,rfl,hp2⟩
end Go.Gk.Tre
end
section
namespace Go.Gk.Tre
open Go Go.Gk Go.Gk.Dev Go.Gk.Cch Go.Gk.Pgr Go.Gk.Chn Go.Gk.Node
structure Tok (t:TD) (l:List KV) (P:List Int):Prop where
 gd:Pgr.Good t.s
 nd:P.Nodup
 ct:t.count=l.length
 tr:(t.height=0∧t.root= -1∧l=[]∧P=[])∨∃h,t.height=h+1∧Tr t.s (h+1) t.root l P
theorem Tok.live{t:TD}{l:List KV}{P:List Int} (h:Tok t l P):∀p∈P,Bl t.s p:=by
 rcases h.tr with ⟨_,_,_,rfl⟩|⟨x,_,q⟩
 ·exact fun p hp=>by cases hp
 ·exact q.live
theorem Mv.id{s:PD} (hG:Pgr.Good s) {P:List Int} (h1:∀p∈P,Bl s p) (h2:P.Nodup):Mv s s P P 0:=by
 simpa using (Mv.refl hG).frame h1 h2 (fun p _ q=>by cases q)
theorem Tok.id{t:TD}{l:List KV}{P:List Int} (h:Tok t l P):Mv t.s t.s P P 0:=Mv.id h.gd h.live h.nd
theorem Q7{s:PD} (hG:Pgr.Good s) {h:Nat}{md:MdD}{l:List KV}{P:List Int} (ho:0≤md.other) (o:Out s h 0 md l P) (hnd:P.Nodup):
  ((Bt s (-1) ⟨false,[md.key],[],[md.page,md.other]⟩).2.2=0∧∃P',Mv s (Bt s (-1) ⟨false,[md.key],[],[md.page,md.other]⟩).1 P P' 1∧
   Tr (Bt s (-1) ⟨false,[md.key],[],[md.page,md.other]⟩).1 (h+1+1) (Bt s (-1) ⟨false,[md.key],[],[md.page,md.other]⟩).2.1 l P'∧
   At (Bt s (-1) ⟨false,[md.key],[],[md.page,md.other]⟩).1 (Bt s (-1) ⟨false,[md.key],[],[md.page,md.other]⟩).2.1 ⟨false,[md.key],[],[md.page,md.other]⟩)∨
  ((Bt s (-1) ⟨false,[md.key],[],[md.page,md.other]⟩).2.2=190∧s.free<1):=by
 have hlv:=o.live
 rcases o with ⟨q,_⟩|⟨_,_,l1,l2,P1,P2,rfl,rfl,g1,g2,g3,g4,g5,g6⟩
 ·omega
 ·obtain⟨v1,_,va,_⟩:=id g1
  obtain⟨v2,_,vb,_⟩:=id g2
  have hs:A6 ⟨false,[md.key],[],[md.page,md.other]⟩=true:=by
   refine Cd.2 ⟨KO.cons.2 ⟨⟨g5,g6⟩,KO.nil,fun _ h=>by cases h⟩,rfl,fun c hc=>?_⟩
   rcases Adb.1 hc with rfl|hc
   ·exact Ej hG va.liv
   ·rw [Acv.1 hc];exact Ej hG vb.liv
  have hr:By ⟨false,[md.key],[],[md.page,md.other]⟩=true:=by
   simp only [By,hs,Afl,decide_eq_true_eq]
   rw [size_inner]
   simp only [C6,Acs,Ael];omega
  rcases Po hG hr with ⟨h1,h2,h3⟩|h1
  ·have hfr:=h2.frame hlv hnd (fun p _ q=>by cases q)
   have hsm:=h2.same hlv (fun p _ q=>by cases q)
   refine .inl ⟨h1,_,hfr,⟨_,_,h3,by simp,rfl,?_⟩,h3⟩
   rw [decide_eq_false (Aez _)]
   exact .mki rfl (Kd.cons.2 ⟨l1,l2,P1,P2,rfl,rfl,g1.stay (hsm.sub (fun p hp=>Adh _ hp)),g3,g4,Kd.one.2 (g2.stay (hsm.sub (fun p hp=>Adk _ hp)))⟩)
  ·exact .inr h1
theorem XU{t:TD}{l:List KV}{P:List Int} (h:Tok t l P) {key v:List UInt8} (hk:1≤key.length∧key.length≤64) (hv:v.length≤16384):
  ((CL t key v).2=0∧∃P',Tok (CL t key v).1 (D5 l key v) P'∧Mv t.s (CL t key v).1.s P P' (AQ v.length+2*t.height+1))∨((CL t key v).2=190∧t.s.free<AQ v.length+2*t.height+1):=by
 unfold CL
 dsimp only
 have hc:=Zd h.gd hv
 generalize BU t.s v=c at hc⊢
 rcases hc with ⟨c1,Pc,c2,c3⟩|⟨c1,c2⟩
 ·rw [if_neg (by rw [c1];decide)]
  have hsmc:=c2.same h.live (fun p _ q=>by cases q)
  have c4:=c2.frame h.live h.nd (fun p _ q=>by cases q)
  rcases h.tr with ⟨e1,e2,rfl,rfl⟩|⟨x,e1,e2⟩
  ·rw [if_pos e1]
   have hs:A6 ⟨true,[key],[c.2.1],[]⟩=true:=CJ.2 ⟨KO.cons.2 ⟨hk,KO.nil,fun _ h=>by cases h⟩,rfl,fun v hv=>by rw [Acv.1 hv];exact c3.len⟩
   have hr:By ⟨true,[key],[c.2.1],[]⟩=true:=by
    simp only [By,hs,Afl,decide_eq_true_eq]
    rw [size_leaf (ks:=[key]) (vs:=[c.2.1]) rfl]
    have:=c3.len
    simp only [C6,Acs,Ael];omega
   have hp:=Po c2.gd hr
   generalize Bt c.1 (-1) ⟨true,[key],[c.2.1],[]⟩=k at hp⊢
   rcases hp with ⟨p1,p2,p3⟩|⟨p1,p2⟩
   ·have hlv:=c3.live
    have hnd:=c2.nd
    have p4:=p2.frame hlv hnd (fun p _ q=>by cases q)
    have hsm:=p2.same hlv (fun p _ q=>by cases q)
    have hM:Mv t.s k.1 [] (k.2.1::Pc) (AQ v.length+1):=c2.trans p4
    refine .inl ⟨p1,k.2.1::Pc,⟨p2.gd,hM.nd,rfl,.inr ⟨0,rfl,⟨_,Pc,p3,by simp,rfl,?_⟩⟩⟩,by rw [e1];exact hM.mono (by omega)⟩
    rw [decide_eq_true rfl]
    exact .mkl rfl (Lf.one (c3.stay hsm))
   ·exact .inr ⟨p1,by have:=c2.fr;omega⟩
  ·rw [if_neg (by omega)]
   have hnd:(P++Pc).Nodup:=(List.perm_append_comm.nodup_iff).1 c4.nd
   have hi:=VF (v:=v) hk x c2.gd (e2.stay hsmc) hnd c3
   rw [e1]
   generalize BY c.1 t.root key c.2.1 (x+1)=u at hi⊢
   rcases hi with ⟨i1,i2,P',i3,i4⟩|⟨i1,i2⟩
   ·rw [if_neg (by rw [i1];decide)]
    have hM:Mv t.s u.1 P P' (AQ v.length+2*(x+1)):=(c4.perm (A':=P) (by simp) Aci).trans i3
    have hct:t.count+(if u.2.2.1=true then 1 else 0)=(D5 l key v).length:=by
     rw [RV,h.ct,i2]
     cases isK l key<;>simp
    unfold CK
    by_cases ho:u.2.1.other<0
    ·rw [if_pos ho]
     exact .inl ⟨rfl,P',⟨i3.gd,hM.nd,hct,.inr ⟨x,rfl,i4.tr ho (Ach _)⟩⟩,hM.mono (by omega)⟩
    ·rw [if_neg ho]
     have i4':Out u.1 x 0 u.2.1 (D5 l key v) P':=by
      rcases i4 with ⟨q,_⟩|q
      ·exact absurd q ho
      ·exact .inr q
     have hr:=Q7 i3.gd (by omega) i4' hM.nd
     dsimp only
     generalize Bt u.1 (-1) ⟨false,[u.2.1.key],[],[u.2.1.page,u.2.1.other]⟩=r at hr⊢
     rcases hr with ⟨r1,P2,r2,r3,r4⟩|⟨r1,r2⟩
     ·exact .inl ⟨r1,P2,⟨r2.gd,r2.nd,hct,.inr ⟨x+1,rfl,r3⟩⟩,(hM.trans r2).mono (by omega)⟩
     ·exact .inr ⟨r1,by have:=hM.fr;omega⟩
   ·rw [if_pos (by rw [i1];decide)]
    exact .inr ⟨i1,by have:=c2.fr;omega⟩
 ·rw [if_pos (by rw [c1];decide)]
  exact .inr ⟨c1,by omega⟩
theorem Qg{t:TD} (hG:Pgr.Good t.s) {h:Nat}{n:AF}{l:List KV}{Q:List Int} (e:t.height=h+1) (hat:At t.s t.root n) (hn:Nd t.s (Tr t.s h) (decide (h=0)) n l Q) (hnd:(t.root::Q).Nodup) (hc:t.count=l.length):
  (DE t).2=0∧∃P',Tok (DE t).1 l P'∧Mv t.s (DE t).1.s (t.root::Q) P' 0:=by
 unfold DE
 rw [hat.read]
 dsimp only
 have hlv:∀p∈t.root::Q,Bl t.s p:=fun p hp=>(Adb.1 hp).elim (fun e=>e▸hat.liv) (hn.live p)
 by_cases hk:n.keys=[]
 ·rw [if_neg (by simp [hk])]
  obtain⟨q1,q2⟩:=Afr.1 hnd
  obtain⟨d1,d2⟩:=IB hG hat.liv
  rw [if_neg (by rw [d1];decide)]
  have hx:∀p∈Q,p∉ [t.root]:=fun p hp q=>q1 (Acv.1 q▸hp)
  have d3:=d2.frame hn.live q2 hx
  have hsm:=d2.same hn.live hx
  by_cases h0:h=0
  ·rw [decide_eq_true h0] at hn
   obtain⟨n1,n2⟩:=hn.leaf
   rw [hk] at n2
   have hl0:=n2.len
   have hvl:=Acm hl0.1
   rw [hvl,Lf] at n2
   obtain⟨rfl,rfl⟩:=n2
   refine⟨rfl,[],⟨d2.gd,Agq,hc,.inl ⟨?_,?_,rfl,rfl⟩⟩,d3⟩
   ·show t.height - 1=0;omega
   ·show(if n.leaf=true then(-1:Int) else _)= -1;rw [if_pos n1]
  ·rw [decide_eq_false h0] at hn
   obtain⟨n1,n2⟩:=hn.inner
   rw [hk] at n2
   have hl0:=n2.len
   obtain⟨c,ec⟩:∃c,n.kids=[c]:=by
    cases hq:n.kids with
    |nil=>rw [hq] at hl0;cases hl0
    |cons c r=>
     rw [hq] at hl0
     exact⟨c,by rw [Acm (show r.length=0 by simpa using hl0)]⟩
   rw [ec] at n2
   have n3:=Kd.one.1 n2
   obtain⟨h',rfl⟩:∃h',h=h'+1:=⟨h - 1,by omega⟩
   refine⟨rfl,Q,⟨d2.gd,q2,hc,.inr ⟨h',?_,?_⟩⟩,d3⟩
   ·show t.height - 1=h'+1;omega
   ·show Tr (t.s.drop t.root).1 (h'+1) (if n.leaf=true then(-1:Int) else n.kids.getD 0 0) l Q
    rw [if_neg (by rw [n1];decide),ec]
    exact n3.stay hsm
 ·rw [if_pos (by simp [hk])]
  exact⟨rfl,_,⟨hG,hnd,hc,.inr ⟨h,e,⟨n,Q,hat,hk,rfl,hn⟩⟩⟩,Mv.id hG hlv hnd⟩
theorem XT{t:TD}{l:List KV}{P:List Int} (h:Tok t l P) (key:List UInt8):
  ((BP t key).2.2=0∧(BP t key).2.1=isK l key∧∃P',Tok (BP t key).1 (B8 l key).1 P'∧Mv t.s (BP t key).1.s P P' (4*t.height+1))∨((BP t key).2.2=190∧t.s.free<4*t.height+1):=by
 unfold BP
 rcases h.tr with ⟨e1,e2,rfl,rfl⟩|⟨x,e1,e2⟩
 ·rw [if_pos e1]
  exact .inl ⟨rfl,rfl,[],h,(Mv.refl h.gd).mono (Adf _)⟩
 ·rw [if_neg (by omega)]
  dsimp only
  have hr:=Sl (key:=key) x h.gd e2 h.nd
  rw [e1]
  generalize BT t.s t.root key (x+1)=u at hr⊢
  rcases hr with ⟨r1,r2,⟨r3,r4⟩|⟨r3,P',r4,r5⟩⟩|⟨r1,r2⟩
  ·rw [if_pos (.inr (by rw [r2,r3]))]
   refine .inl ⟨r1,r3.symm,P,?_,?_⟩
   ·have e:(B8 l key).1=l:=by unfold B8;rw [if_neg (by rw [r3];decide)]
    rw [e]
    show Tok ⟨u.1,t.root,x+1,t.count⟩ l P
    rw [r4,←e1];exact h
   ·show Mv t.s u.1 P P _
    rw [r4];exact h.id.mono (Adf _)
  ·rw [if_neg (by rw [r1,r2,r3];simp)]
   have hct:t.count - 1=(B8 l key).1.length:=by
    have:=RU (l:=l) (key:=key)
    rw [r3,if_pos rfl] at this
    have:=h.ct;omega
   unfold CK
   by_cases ho:u.2.1.other<0
   ·rw [if_pos ho]
    rcases r5 with ⟨_,n,Q,b1,b2,rfl,_,b4⟩|⟨q,_⟩
    ·rw [if_neg (fun q=>q rfl)]
     obtain⟨s1,P2,s2,s3⟩:=Qg (t:=⟨u.1,u.2.1.page,x+1,t.count - 1⟩) r4.gd (h:=x) rfl b1 b4 r4.nd hct
     exact .inl ⟨s1,r3.symm,P2,s2,(r4.trans s3).mono (by omega)⟩
    ·omega
   ·rw [if_neg ho]
    have hrt:=Q7 r4.gd (by omega) r5 r4.nd
    dsimp only
    generalize Bt u.1 (-1) ⟨false,[u.2.1.key],[],[u.2.1.page,u.2.1.other]⟩=r at hrt⊢
    rcases hrt with ⟨w1,P2,w2,w3,w4⟩|⟨w1,w2⟩
    ·rw [if_neg (by rw [w1];decide)]
     obtain⟨n,Q,b1,b2,b3,b4⟩:=w3
     subst b3
     obtain⟨s1,P3,s2,s3⟩:=Qg (t:=⟨r.1,r.2.1,x+1+1,t.count - 1⟩) w2.gd (h:=x+1) rfl b1 b4 w2.nd hct
     exact .inl ⟨s1,r3.symm,P3,s2,((r4.trans w2).trans s3).mono (by omega)⟩
    ·rw [if_pos (by rw [w1];decide)]
     exact .inr ⟨w1,by have:=r4.fr;omega⟩
  ·rw [if_pos (.inl (by rw [r1];decide))]
   exact .inr ⟨r1,by omega⟩
theorem Wt{key:List UInt8}:∀(h:Nat) {s:PD}{k:Int}{l:List KV}{P:List Int},Tr s (h+1) k l P→
  EH s key k (h+1)=((DP l key).1,(DP l key).2,0)∧∃n,GO s key k (h+1)=h+1+n∧n=if isK l key=true then(if 15<(DP l key).1.length then AQ (DP l key).1.length else 0) else 0
 |0,s,k,l,P,⟨n,Q,hat,hne,eP,hn⟩=>by
  subst eP
  rw [decide_eq_true rfl] at hn
  obtain⟨n1,n2⟩:=hn.leaf
  have ef:=Ed hat.sound n1
  obtain⟨ks,vs,rfl⟩:∃ks vs,n=⟨true,ks,vs,[]⟩:=⟨_,_,ef⟩
  simp only at n2 hne
  obtain⟨hko,hvl,hv16⟩:=CJ.1 hat.sound
  have hlv:=hat.level (x:=((0+1:Nat):Int)) rfl
  have hlz:(A4 s k ((0+1:Nat):Int)).2=0:=by rw [hlv]
  have hln:(A4 s k ((0+1:Nat):Int)).1=⟨true,ks,vs,[]⟩:=by rw [hlv]
  rcases Ky hko (vs:=vs) key with ⟨a,b,rfl,hf,ha,hb⟩|⟨a,b,rfl,hf,ha,hb⟩
  ·obtain⟨va,c,vb,l1,v0,l2,P1,Pv,P2,rfl,ev,rfl,rfl,g1,g2,g3⟩:=ON n2
   have e0:(va++[c]++vb).getD a.length []=c:=by rw [←ev];exact EI
   have hl1:=I6 g1 ha
   have hl2:=Ji g3 hb
   have hget:DP (l1++[(key,v0)]++l2) key=(v0,true):=by rw [Na hl1 hl2,Ss]
   have hisk:isK (l1++[(key,v0)]++l2) key=true:=by rw [Ev hl1 hl2,Hw]
   have hg:=Ta hlz hln hf
   simp only [e0] at hg
   rw [hget,hisk]
   refine⟨?_,_,?_,rfl⟩
   ·rw [hg.1,g2.val];simp
   ·rw [hg.2,g2.F5,if_pos rfl]
  ·obtain⟨va,vb,l1,l2,P1,P2,rfl,ev,rfl,rfl,g1,g3⟩:=O0 n2
   have hl1:=I6 g1 ha
   have hl2:=Ji g3 hb
   have hisk:isK (l1++l2) key=false:=by
    have:=Ev (m:=[]) hl1 hl2
    rw [OY,Ads] at this;exact this
   have hget:DP (l1++l2) key=([],false):=by unfold DP;rw [if_neg (by rw [hisk];decide)]
   obtain⟨y1,y2⟩:=TI hlz hln hf
   rw [hget,hisk]
   exact⟨y1,0,y2,rfl⟩
 |h+1,s,k,l,P,⟨n,Q,hat,hne,eP,hn⟩=>by
  subst eP
  rw [decide_eq_false (Aez _)] at hn
  obtain⟨n1,n2⟩:=hn.inner
  have ef:=Ec hat.sound n1
  obtain⟨ks,cs,rfl⟩:∃ks cs,n=⟨false,ks,[],cs⟩:=⟨_,_,ef⟩
  simp only at n2 hne
  obtain⟨hko,hcl,hrng⟩:=Cd.1 hat.sound
  have hlv:=hat.level (x:=((h+1+1:Nat):Int)) (by show false=_;exact(decide_eq_false (by omega)).symm)
  have hlz:(A4 s k ((h+1+1:Nat):Int)).2=0:=by rw [hlv]
  have hln:(A4 s k ((h+1+1:Nat):Int)).1=⟨false,ks,[],cs⟩:=by rw [hlv]
  obtain⟨a,b,rfl,hf,ha,hb⟩:=J0 hat.sound key
  obtain⟨ca,c,cb,rfl,ec⟩:=Jb cs (i:=a.length) (by rw [hcl];simp;omega)
  have e0:(ca++[c]++cb).getD a.length 0=c:=by rw [←ec];exact EI
  have n2':Kd (Tr s (h+1)) (a++[]++b) (ca++[c]++cb) l Q:=by simpa using n2
  obtain⟨l1,m,l2,P1,Pm,P2,rfl,rfl,g1,g2,g3,g4,g5⟩:=n2'.focus (by simpa using hko) ec rfl
  have hl1:∀x∈l1,Lt x.1 key:=fun x hx=>by
   obtain⟨p,p1,p2⟩:=g1.below x hx
   exact Ij p2 (ha p p1)
  have hl2:∀x∈l2,Lt key x.1:=fun x hx=>by
   obtain⟨p,p1,p2⟩:=g3.QB x hx
   exact Ij (hb p p1) p2
  have hg:=NV hlz hln hf
  simp only [e0] at hg
  obtain⟨i1,i2,i3,i4⟩:=Wt (key:=key) h g2
  rw [Na hl1 hl2,Ev hl1 hl2]
  exact⟨hg.1.trans i1,i2,by rw [hg.2,i3];omega,i4⟩
theorem Sk{R:RT}{m:Nat} (hR:∀c l P,R c l P→m≤l.length):∀{ks:List (List UInt8)}{cs:List Int}{l:List KV}{P:List Int},Kd R ks cs l P→m*(ks.length+1)≤l.length
 |[],[c],l,P,h=>by simpa using hR c l P h
 |[],[],l,P,h=>h.elim
 |[],_::_::_,l,P,h=>h.elim
 |_::_,[],l,P,h=>h.elim
 |k::ks,c::cs,l,P,h=>by
  obtain⟨l1,l2,P1,P2,rfl,rfl,h1,h2,h3,h4⟩:=Kd.cons.1 h
  have a:=hR _ _ _ h1
  have b:=Sk hR h4
  rw [Acl,Acs,Nat.mul_succ];omega
theorem Sc:∀(h:Nat) {s:PD}{k:Int}{l:List KV}{P:List Int},Tr s (h+1) k l P→2 ^ h≤l.length
 |0,s,k,l,P,ht=>Gx.1 ht.ne
 |h+1,s,k,l,P,⟨n,Q,hat,hne,eP,hn⟩=>by
  rw [decide_eq_false (Aez _)] at hn
  have h1:=Sk (m:=2 ^ h) (fun c l P q=>Sc h q) hn.inner.2
  have h2:=Gx.1 hne
  have:2 ^ h*2≤2 ^ h*(n.keys.length+1):=Nat.mul_le_mul_left _ (by omega)
  rw [Nat.pow_succ];omega
theorem Tok.high{t:TD}{l:List KV}{P:List Int} (h:Tok t l P):(l=[]∧t.height=0∧t.root= -1)∨(l≠[]∧1≤t.height∧2 ^ t.height≤2*l.length):=by
 rcases h.tr with ⟨e1,e2,rfl,_⟩|⟨x,e1,e2⟩
 ·exact .inl ⟨rfl,e1,e2⟩
 ·refine .inr ⟨e2.ne,by omega,?_⟩
  have:=Sc x e2
  rw [e1,Nat.pow_succ];omega
theorem Tok.get{t:TD}{l:List KV}{P:List Int} (h:Tok t l P) (key:List UInt8):EH t.s key t.root t.height=((DP l key).1,(DP l key).2,0):=by
 rcases h.tr with ⟨e1,e2,rfl,_⟩|⟨x,e1,e2⟩
 ·rw [e1];rfl
 ·rw [e1];exact(Wt x e2).1
end Go.Gk.Tre
end
