/-
  Our own texts, one behind the other: GkH7 GkH8 GkTU GkTV GkTW GkTX GkWA GkWB GkWC GkWD GkWE GkTrH GkWF GkWG GkTr9 GkTrL GkTrM GkTrN GkTY GkWH.
-/
import Derived.Test.YtpkcbopokjffhaaGreatPkF
open Nat renaming le_of_ble_eq_true→Aca,le_refl→Ach,zero_le→Adg,mul_one→Aeo,succ_ne_zero→Aez
open List.Sublist renaming refl→Acb
open Bool renaming and_eq_true→Acd,false_eq_true→Aci,or_eq_true→Ady,not_eq_true→Aev,true_and→Afl
open List renaming getElem?_eq_getElem→Ace,getD_eq_getElem?_getD→Acf,append_assoc→Acg,mem_append→Acj,perm_append_comm→Ack,length_append→Acl,eq_nil_of_length_eq_zero→Acm,length_drop→Acn,all_eq_true→Acq,replicate→Acr,length_cons→Acs,mem_cons_self→Acu,mem_singleton→Acv,length_take→Acw,take_succ_eq_append_getElem→Acx,mem_cons_of_mem→Acy,getElem_mem→Ada,mem_cons→Adb,length_set→Adf,mem_append_left→Adh,drop_eq_getElem_cons→Adi,perm_middle→Adj,mem_append_right→Adk,sublist_append_right→Adm,length_replicate→Adn,append_nil→Adr,getElem?_append_right→Ads,getElem?_take_of_lt→Adu,perm_iff_count→Adw,nil_append→Aea,take_of_length_le→Aec,getElem?_append_left→Aed,count_append→Aee,take_length→Aef,getElem_of_mem→Aeh,cons_append→Aei,nil_sublist→Aej,length_nil→Ael,count_cons→Aem,getElem?_map→Aeq,getD_cons_succ→Aeu,drop_of_length_le→Aex,getD_cons_zero→Aey,exists_cons_of_ne_nil→Afa,pairwise_iff_getElem→Afc,take_append_of_le_length→Afe,mem_map_of_mem→Aff,nodup_append→Afi,map_cons→Afj,nodup_cons→Afr,length_singleton→Afs,drop_length→Afv,getD→Afy,count_nil→Age,mem_of_mem_drop→Agf,takeWhile_append_dropWhile→Agj,mem_map→Agl,drop_append_of_le_length→Ago,drop_left→Agp,nodup_nil→Agq,take_append_drop→Agv,all_cons→Agy,mem_of_mem_take→Aha,take_left→Ahc,drop_append→Ahf,pairwise_cons→Ahi
open List.Perm renaming cons→Aco,swap→Adc,refl→Adp
open Option renaming map_some→Aen,getD_some→Afo
section
namespace Go.Gk.Chn
open Go Go.Gk Go.Gk.Dev Go.Gk.Cch Go.Gk.Pgr Go.Gk.Node
attribute [local irreducible] gwp gws xwp
def Ui(P:Program) (f:FuncId):Prop:=∀{d:Ae}{b n c:Nat}{a:Option Addr},DC d b 0 (.slice a (n+2) c)→1≤n→n≤8000→CP P f [.pointer (some ⟨b,0,none⟩),.int .i64 2,.int .i64 n] d (.bool true)
def Jd:AX:=⟨31,[(.tmp 6)],(.seq (rG (o1 6 (.mv (.const (.bool false))) .done)) (.seq (rG (om 8 0 (o1 9 (.nilc (tP 8)) (oj 10 0 9 (ol 11 10 (oL 12 11 (om 7 12 .done))))))) (.seq (rG (om 13 1 (ob 14 .geq (tP 13) (kZ 0) (om 15 14 (gT 16 15 1 (gT 17 15 7 (oT 18 15 (.bin .leq (tP 16) (tP 17)) (gP 19 15 18 (om 20 19 (gT 21 20 2 (oT 22 20 (.bin .geq (tP 21) (kZ 1)) (gP 23 20 22 (om 24 23 (gT 25 24 2 (gT 26 24 7 (gT 27 24 1 (oT 28 24 (.bin .sub (tP 26) (tP 27)) (oT 29 24 (.bin .leq (tP 25) (tP 28)) (gP 30 24 29 (om 6 30 .done)))))))))))))))))))) .ret)))⟩
theorem AaQ{P:Program}{f:FuncId} (hd:dec P f=some Jd):Ui P f:=by
 intro d b n c a hb hn1 hn2
 refine AE hd (Aca rfl) ?_
 show gwp P _ _ _ _ _
 have h2:(2:Int)≤((n+2:Nat):Int):=by omega
 have h3:(n:Int)≤((n+2:Nat):Int) - 2:=by omega
 (refine Ac (Ad (Af rfl (Aa (Ac (Ad (Al rfl (Au rfl (Ai rfl (Ah rfl (BE (by assumption)) (AK rfl (Ab rfl (Aa (Ac (Ad (Ab rfl (DF rfl rfl (Af rfl (Bn rfl (by omega) (Ag rfl (Ab rfl (Ag rfl (Ab rfl (Ag rfl (NC rfl rfl (AG rfl rfl (Af rfl (Bn rfl (by omega) (Ag rfl (Ab rfl (Ag rfl (DF rfl rfl (AG rfl rfl (Af rfl (Bn rfl (by omega) (Ag rfl (Ab rfl (Ag rfl (Ab rfl (Ag rfl (Ab rfl (Ag rfl (CU rfl rfl (by omega) (by omega) (Ag rfl (NC rfl rfl (AG rfl rfl (Af rfl (Aa (An ?_)))))))))))))))))))))))))))))))))))))))))))))))))
 exact BF (v:=.bool (decide ((n:Int)≤((n+2:Nat):Int) - 2))) rfl (Acb _) ⟨congrArg Value.bool (decide_eq_true h3),rfl,rfl⟩
def UT(P:Program) (f:FuncId):Prop:=∀{d:Ae}{b q n c:Nat}{a:Option Addr},DC d b 0 (.slice a (n+2) c)→1≤n→n≤8000→
 Aw P f [.pointer (some ⟨b,0,none⟩),.pointer (some ⟨q,0,none⟩),.int .i64 2,.int .i64 n,.slice none 0 0] d [] (Ret fun r d' L'=>L'=[]∧∃v,r=.tuple #[.pointer (some ⟨v,0,none⟩),.int .i64 0])
def Lm(a0 a1:Nat):AX:=⟨52,[(.tmp 10),(.tmp 11)],(.seq (rG (o1 10 (.mv (.const (.pointer none))) (o1 11 (.mv (kZ 0)) .done))) (.seq (.seq (rG (om 14 0 (om 15 2 (om 16 3 (oc 17 a0 [(tP 14),(tP 15),(tP 16)] (o1 18 (.un .not (tP 17)) .done)))))) (.cond (tP 18) (.seq (rG (o1 10 (.mv (.const (.pointer none))) (o1 11 (.mv (kZ 2)) .done))) .ret) .skip)) (.seq (rG (om 19 0 (om 20 1 (om 21 2 (om 22 3 (o1 23 (.mks 2 24 [(.int .i64 0),(Bp [])] (tP 22) (tP 22)) (o1 24 (.bld [(0,1),(1,1),(2,1),(3,1),(4,1),(5,1)] [(.pointer none),(.pointer none),(.int .i64 0),(.slice none 0 0),(.int .i64 0),(.int .i64 0)] [(0,(tP 19)),(1,(tP 20)),(2,(tP 21)),(3,(tP 23))]) (o1 25 (.box (tP 24)) (om 12 25 .done))))))))) (.seq (.seq (rG (o1 13 (.mv (kZ 0)) .done)) (.block 0 (.loop (.seq (.seq (rG (om 26 13 (om 27 4 (oL 28 27 (ob 29 .lss (tP 26) (tP 28) .done))))) (.cond (tP 29) .skip (.exit 0))) (.seq (.block 1 (.seq (.seq (rG (om 32 12 (om 33 4 (om 34 13 (oI 35 1 33 34 (ol 36 35 (oc 37 a1 [(tP 32),(tP 36)] (ob 38 .neq (tP 37) (kZ 0) .done)))))))) (.cond (tP 38) (.seq (rG (o1 10 (.mv (.const (.pointer none))) (o1 11 (.mv (kZ 2)) .done))) .ret) .skip)) (.reg true (pm 39 12 (p1 40 (.nilc (tP 39)) (p1 41 (.fld 3 (tP 40)) (pl 42 41 (pm 43 4 (pm 44 13 (p1 45 (.idx 1 (tP 43) (tP 44)) (pl 46 45 (pm 47 2 (p1 48 (.bin .sub (tP 46) (tP 47)) (p1 49 (.idx 2 (tP 42) (tP 48)) (p1 50 (.fld 0 (tP 49)) (o0 (.st 1 (tP 50) (kZ 2)) .done)))))))))))))))) (rG (om 30 13 (ob 31 .add (tP 30) (kZ 1) (om 13 31 .done))))))))) (.seq (rG (om 51 12 (om 10 51 (o1 11 (.mv (kZ 0)) .done)))) .ret)))))⟩
set_option maxRecDepth 4000 in
theorem Aag{P:Program}{f f1 f2:FuncId} (hd:dec P f=some (Lm f1 f2)) (h1:Ui P f1):UT P f:=by
 intro d b q n c a hb hn1 hn2
 refine AE hd (Aca rfl) ?_
 show gwp P _ _ _ _ _
 (refine Ac (Ad (Al rfl (Ab rfl (Aa (Ac (Ac (Ad (Al rfl (Ab rfl (Ab rfl ?_)))))))))))
 refine Bi rfl (h1 hb hn1 hn2) (fun u d1 L1 _ ⟨e1,e2,e3⟩=>?_)
 subst e1;subst e2;subst e3
 (refine Bt rfl (Aa (AR rfl (Ak (Ac (Ad (Al rfl (Al rfl (Ab rfl (Ab rfl ?_))))))))))
 refine Hg (n:=n) (c:=n) rfl rfl (Ach _) (by omega) (by omega) (fun b23 T23=>?_)
 (refine BI rfl (Cl rfl (fun _ _=>Al rfl (Aa (Ac (Ac (Ad (Ab rfl (Aa (Az ?_))))))))))
 rename_i bb TT
 refine CL (α:=Unit) (fun _=>[(4,.slice none 0 0),(12,.pointer (some ⟨bb,0,none⟩)),(13,.int .i64 0)]) (fun _ _ _=>True) (fun _=>0) () ⟨rfl,rfl,rfl,trivial⟩ trivial ?_
 rintro - ρ d' L' -
 (refine Ac (Ac (Ad (Ab rfl (Am rfl (AK rfl (AB rfl rfl (Aa (Ar rfl (by omega) (Bg (Ac (Ad (Al rfl (Al rfl (Ab rfl (Aa (An ?_)))))))))))))))))
 exact CB rfl rfl (Aej _) ⟨rfl,_,rfl⟩
def Ud(P:Program) (f:FuncId):Prop:=∀{d:Ae}{b:Nat},Aw P f [.pointer (some ⟨b,0,none⟩),.int .i64 4] d [] (Ret fun r d' L'=>L'=[]∧∃q,r=.tuple #[.pointer (some ⟨q,0,none⟩),.int .i64 0])
def KU:AX:=⟨48,[(.tmp 4),(.tmp 5)],(.seq (rG (o1 4 (.mv (.const (.pointer none))) (o1 5 (.mv (kZ 0)) .done))) (.seq (.seq (rG (om 8 1 (ob 9 .lss (tP 8) (kZ 1) (om 10 9 (gF 11 10 1 (oF 12 10 (.bin .gtr (tP 11) (kZ 64)) (o1 13 (.pick (tP 10) (.const (.bool true)) (tP 12)) .done))))))) (.cond (tP 13) (.seq (rG (o1 4 (.mv (.const (.pointer none))) (o1 5 (.mv (kZ 2)) .done))) .ret) .skip)) (.seq (.reg true (pm 14 0 (pm 15 1 (pm 17 1 (pm 19 1 (.par (o1 20 (.mks 1 16 [(Bp [])] (tP 19) (tP 19)) .done) (.par (o1 16 (.mks 1 8 [(.int .i64 0)] (tP 15) (tP 15)) .done) (o1 18 (.mks 1 1 [(.bool false)] (tP 17) (tP 17)) .done) .done) (p1 21 (.bld [(0,1),(1,1),(2,1),(3,1),(4,1),(5,1),(6,1),(7,1),(8,1)] [(.pointer none),(.slice none 0 0),(.slice none 0 0),(.slice none 0 0),(.slice none 0 0),(.slice none 0 0),(.int .i64 0),(.int .i64 0),(.int .i64 0)] [(0,(tP 14)),(2,(tP 16)),(3,(tP 18)),(4,(tP 20))]) (o1 22 (.box (tP 21)) (.bar (pm 6 22 .done)))))))))) (.seq (.seq (rG (o1 7 (.mv (kZ 0)) .done)) (.block 0 (.loop (.seq (.seq (rG (om 23 7 (om 24 1 (ob 25 .lss (tP 23) (tP 24) .done)))) (.cond (tP 25) .skip (.exit 0))) (.seq (.block 1 (.seq (rG (om 28 6 (om 29 6 (o1 30 (.nilc (tP 29)) (oj 31 1 30 (ol 32 31 (o1 33 (.bsl 1 1 [(.int .i64 0)] [(0,(kZ (-1)))]) (o1 34 (.app 1 8 [(.int .i64 0)] (tP 32) (tP 33)) (o1 35 (.nilc (tP 28)) (oj 36 1 35 (o0 (.st 1 (tP 36) (tP 34)) .done))))))))))) (rG (om 37 6 (om 38 6 (o1 39 (.nilc (tP 38)) (oj 40 5 39 (ol 41 40 (om 42 7 (o1 43 (.bsl 1 1 [(.int .i64 0)] [(0,(tP 42))]) (o1 44 (.app 1 8 [(.int .i64 0)] (tP 41) (tP 43)) (o1 45 (.nilc (tP 37)) (oj 46 5 45 (o0 (.st 1 (tP 46) (tP 44)) .done)))))))))))))) (rG (om 26 7 (ob 27 .add (tP 26) (kZ 1) (om 7 27 .done))))))))) (.seq (rG (om 47 6 (om 4 47 (o1 5 (.mv (kZ 0)) .done)))) .ret)))))⟩
set_option maxRecDepth 4000 in
set_option maxHeartbeats 1000000 in
theorem AaJ{P:Program}{f:FuncId} (hd:JU P f=some KU):Ud P f:=by
 intro d b
 refine AE hd (Aca rfl) ?_
 show gwp P _ _ _ _ _
 (refine Ac (Ad (Al rfl (Ab rfl (Aa (Ac (Ac (Ad (Ab rfl (AB rfl rfl (Af rfl (Bb rfl (by omega) (Ag rfl (Ab rfl (Ag rfl (BQ rfl rfl (As rfl rfl (Aa (Ar rfl (by omega) (Ak (Ac ?_)))))))))))))))))))))
 refine Bs [] [] rfl ?_
 (refine Al rfl (Ab rfl (Ab rfl (Ab rfl ?_))))
 refine Gj (α:=Nat) (β:=Nat×Nat) [(1,.int .i64 4),(14,.pointer (some ⟨b,0,none⟩))] (fun x=>[(20,.slice (some ⟨x,0,none⟩) 4 4)]) (fun _ _ L=>L=[]) (fun y=>[(16,.slice (some ⟨y.1,0,none⟩) 4 4),(18,.slice (some ⟨y.2,0,none⟩) 4 4)]) (fun _ _ L=>L=[]) [] [] rfl
  (fun _ _ _ _ _ q=>q) (fun _ _ _ _ _ q=>q) (fun _=>rfl) (fun _=>rfl) rfl ⟨rfl,rfl,trivial⟩ ?_ ?_ ?_
 ·refine Ot (n:=4) (c:=4) rfl rfl (Ach _) (by omega) (by omega) (fun b20 T20=>?_)
  (apply Aa)
  exact⟨_,rfl,b20,⟨rfl,trivial⟩,rfl⟩
 ·refine Gj (α:=Nat) (β:=Nat) [] (fun x=>[(16,.slice (some ⟨x,0,none⟩) 4 4)]) (fun _ _ L=>L=[]) (fun y=>[(18,.slice (some ⟨y,0,none⟩) 4 4)]) (fun _ _ L=>L=[]) [] [] rfl
   (fun _ _ _ _ _ q=>q) (fun _ _ _ _ _ q=>q) (fun _=>rfl) (fun _=>rfl) rfl trivial ?_ ?_ ?_
  ·refine Ot (n:=4) (c:=4) rfl rfl (Ach _) (by omega) (by omega) (fun b16 T16=>?_)
   (apply Aa)
   exact⟨_,rfl,b16,⟨rfl,trivial⟩,rfl⟩
  ·refine Ot (n:=4) (c:=4) rfl rfl (Ach _) (by omega) (by omega) (fun b18 T18=>?_)
   (apply Aa)
   exact⟨_,rfl,b18,⟨rfl,trivial⟩,rfl⟩
  ·rintro b16 b18 ρ2 d2 M1 M2 hl2 rfl rfl
   (apply Aa)
   exact⟨_,rfl,(b16,b18),⟨rfl,rfl,trivial⟩,rfl⟩
 ·rintro b20 ⟨b16,b18⟩ ρ2 d2 M1 M2 hl2 rfl rfl
  refine BI (cs:=[.pointer (some ⟨b,0,none⟩),.slice none 0 0,.slice (some ⟨b16,0,none⟩) 4 4,.slice (some ⟨b18,0,none⟩) 4 4,.slice (some ⟨b20,0,none⟩) 4 4,.slice none 0 0,.int .i64 0,.int .i64 0,.int .i64 0]) rfl ?_
  refine B6 d2 [emp,emp] (Vs.emp.trans Vs.emp) ?_
  refine Cl rfl (fun q T=>?_)
  (refine B1 (Al rfl (Aa (Ac (Ac (Ad (Ab rfl (Aa (Az ?_)))))))))
  refine CL (α:=Nat×Option Addr×Nat×Option Addr×Nat) (fun x=>[(1,.int .i64 4),(6,.pointer (some ⟨q,0,none⟩)),(7,.int .i64 x.1)])
   (fun x d' L'=>x.1≤4∧∃h1 h5 xs ys,[bx q T [.pointer (some ⟨b,0,none⟩),.slice x.2.1 x.1 x.2.2.1,.slice (some ⟨b16,0,none⟩) 4 4,.slice (some ⟨b18,0,none⟩) 4 4,.slice (some ⟨b20,0,none⟩) 4 4,.slice x.2.2.2.1 x.1 x.2.2.2.2,.int .i64 0,.int .i64 0,.int .i64 0],h1,h5].Sublist L'∧
    Aq 1 Be d' (.slice x.2.1 x.1 x.2.2.1) xs h1∧Aq 1 Be d' (.slice x.2.2.2.1 x.1 x.2.2.2.2) ys h5∧xs.length=x.1∧ys.length=x.1) (fun x=>4 - x.1) (0,none,0,none,0) ⟨rfl,rfl,rfl,trivial⟩ ⟨Adg _,emp,emp,[],[],Acb _,Aq.nil,Aq.nil,rfl,rfl⟩ ?_
  rintro⟨i,a1,c1,a5,c5⟩ ρ d' L' ⟨hi,h1,h5,xs,ys,hsub,r1,r5,x1,y1⟩
  simp only at hi hsub r1 r5 x1 y1⊢
  apply Ac;apply Ac;apply Ad
  refine B6 d' _ (Vs.drop hsub) ?_
  by_cases e:i<4
  ·(refine Ab rfl (Ab rfl (AB rfl rfl (Aa (Ax rfl (by omega) (Ak (Ac (Az (Ac (Ad (Al rfl (Al rfl (Au rfl (Ai rfl (Ah rfl (Aj 0 rfl rfl) ?_)))))))))))))))
   refine D9 (v0:=.int .i64 (-1)) rfl rfl (fun b33 T33=>?_)
   refine D6 (R:=Be) 1 rfl rfl r1 rfl (Aq.En (R:=Be) (x:= -1) rfl ⟨rfl,by omega,by omega⟩) De (by omega) (by simp;omega) (by simp;omega) (fun v1 h1' o1=>?_)
   obtain⟨a1',c1',rfl⟩:=o1.val
   rw [Acl,x1] at o1⊢
   (refine Au rfl (Ai rfl ?_))
   refine AY 0 [.pointer (some ⟨b,0,none⟩),.slice a1' (i+1) c1',.slice (some ⟨b16,0,none⟩) 4 4,.slice (some ⟨b18,0,none⟩) 4 4,.slice (some ⟨b20,0,none⟩) 4 4,.slice a5 i c5,.int .i64 0,.int .i64 0,.int .i64 0] rfl rfl rfl rfl (Aca rfl) rfl rfl ?_
   (refine Aa (Ad (Al rfl (Al rfl (Au rfl (Ai rfl (Ah rfl (Aj 0 rfl rfl) (Ab rfl ?_))))))))
   refine D9 (v0:=.int .i64 i) rfl rfl (fun b43 T43=>?_)
   refine D6 (R:=Be) 2 rfl rfl r5 rfl (Aq.En (R:=Be) (x:=(i:Int)) rfl ⟨rfl,by omega,by omega⟩) De (by omega) (by simp;omega) (by simp;omega) (fun v5 h5' o5=>?_)
   obtain⟨a5',c5',rfl⟩:=o5.val
   rw [Acl,y1] at o5⊢
   (refine Au rfl (Ai rfl ?_))
   refine AY 0 [.pointer (some ⟨b,0,none⟩),.slice a1' (i+1) c1',.slice (some ⟨b16,0,none⟩) 4 4,.slice (some ⟨b18,0,none⟩) 4 4,.slice (some ⟨b20,0,none⟩) 4 4,.slice a5' (i+1) c5',.int .i64 0,.int .i64 0,.int .i64 0] rfl rfl rfl rfl (Aca rfl) rfl rfl ?_
   (refine Aa (Ad (Ab rfl (AL rfl rfl (by omega) (by omega) (Ab rfl (Aa ?_))))))
   exact⟨(i+1,a1',c1',a5',c5'),by simp only;omega,⟨rfl,rfl,rfl,trivial⟩,e,h1',h5',_,_,Acb _,o1,o5,by rw [Acl,x1];rfl,by rw [Acl,y1];rfl⟩
  ·have:i=4:=by omega
   subst this
   (refine Ab rfl (Ab rfl (AB rfl rfl (Aa (Ar rfl (by omega) (Bg (Ac (Ad (Al rfl (Al rfl (Ab rfl (Aa (An ?_)))))))))))))
   exact CB rfl rfl (Aej _) ⟨rfl,q,rfl⟩
def pdN(n:Nat):PD:=⟨2,Du n [],fun _=>[],Acr (n+2) II,0,0⟩
def Nh(P:Program) (f:FuncId):Prop:=∀{d:Ae}{n:Nat},1≤n→n≤1000→Aw P f [.int .i64 n] d [] (Ret fun r d' L'=>∃b bd bp,r=.pointer (some ⟨b,0,none⟩)∧DC d' b 0 (.pointer (some ⟨bp,0,none⟩))∧Pg d' (pdN n) (.pointer (some ⟨bd,0,none⟩)) (.pointer (some ⟨bp,0,none⟩)) L')
def J7(a0 a1 a2 a3 a4 a5:Nat):AX:=⟨75,[(.tmp 2)],(.seq (rG (o1 2 (.mv (.const (.pointer none))) .done)) (.seq (rG (om 14 0 (ob 15 .add (tP 14) (kZ 2) (oc 16 a0 [(tP 15)] (om 13 16 (oe 17 13 0 (oe 18 13 1 (om 3 17 (om 4 18 .done))))))))) (.seq (rG (om 20 0 (ob 21 .add (tP 20) (kZ 2) (oc 22 a1 [(tP 21)] (om 19 22 (oe 23 19 0 (oe 24 19 1 (om 5 23 (om 6 24 .done))))))))) (.seq (.seq (rG (om 25 4 (ob 26 .neq (tP 25) (kZ 0) (om 27 26 (gF 28 27 3 (oF 29 27 (.eqp false (tP 28) (.const (.pointer none))) (o1 30 (.pick (tP 27) (.const (.bool true)) (tP 29)) (om 31 30 (gF 32 31 5 (oF 33 31 (.eqp false (tP 32) (.const (.pointer none))) (o1 34 (.pick (tP 31) (.const (.bool true)) (tP 33)) .done))))))))))) (.cond (tP 34) (.seq (rG (o1 2 (.mv (.const (.pointer none))) .done)) .ret) .skip)) (.seq (rG (om 36 3 (oc 37 a2 [(tP 36),(kZ 4)] (om 35 37 (oe 38 35 0 (oe 39 35 1 (om 7 38 (om 4 39 .done)))))))) (.seq (rG (om 41 5 (oc 42 a3 [(tP 41),(kZ 4)] (om 40 42 (oe 43 40 0 (oe 44 40 1 (om 8 43 (om 9 44 .done)))))))) (.seq (.seq (rG (om 45 4 (ob 46 .neq (tP 45) (kZ 0) (om 47 46 (gF 48 47 7 (oF 49 47 (.eqp false (tP 48) (.const (.pointer none))) (o1 50 (.pick (tP 47) (.const (.bool true)) (tP 49)) .done))))))) (.cond (tP 50) (.seq (rG (o1 2 (.mv (.const (.pointer none))) .done)) .ret) .skip)) (.seq (rG (om 52 3 (om 53 7 (om 54 0 (oc 55 a4 [(tP 52),(tP 53),(kZ 2),(tP 54),(.const (.slice none 0 0))] (om 51 55 (oe 56 51 0 (oe 57 51 1 (om 10 56 (om 4 57 .done)))))))))) (.seq (rG (om 59 5 (om 60 8 (om 61 0 (oc 62 a5 [(tP 59),(tP 60),(kZ 2),(tP 61),(.const (.slice none 0 0))] (om 58 62 (oe 63 58 0 (oe 64 58 1 (om 11 63 (om 12 64 .done)))))))))) (.seq (.seq (rG (om 65 4 (ob 66 .neq (tP 65) (kZ 0) (om 67 66 (gF 68 67 10 (oF 69 67 (.eqp false (tP 68) (.const (.pointer none))) (o1 70 (.pick (tP 67) (.const (.bool true)) (tP 69)) .done))))))) (.cond (tP 70) (.seq (rG (o1 2 (.mv (.const (.pointer none))) .done)) .ret) .skip)) (.seq (rG (om 71 10 (om 72 11 (o1 73 (.bld [(0,1),(1,1)] [(.pointer none),(.pointer none)] [(0,(tP 71)),(1,(tP 72))]) (o1 74 (.box (tP 73)) (om 2 74 .done)))))) .ret)))))))))))⟩
set_option maxRecDepth 4000 in
set_option maxHeartbeats 1000000 in
theorem VF{P:Program}{f f1 f2 f3 f4 f5 f6:FuncId} (hd:dec P f=some (J7 f1 f2 f3 f4 f5 f6)) (h1:MO P f1) (h2:UW P f2) (h3:Jw P f3) (h4:Ud P f4) (h5:R3 P f5) (h6:UT P f6):Nh P f:=by
 intro d n hn1 hn2
 refine AE hd (Aca rfl) ?_
 show gwp P _ _ _ _ _
 (refine Ac (Ad (Al rfl (Aa (Ac (Ad (Ab rfl (AL rfl rfl (by omega) (by omega) ?_))))))))
 refine DZ (h1 (n:=n+2) (by omega) (by omega)) rfl (fun u d1 L1 hl1 ⟨dv,e1,e2,e3⟩=>?_)
 subst e1;subst e2
 obtain⟨bd,rfl⟩:∃b,dv=.pointer (some ⟨b,0,none⟩):=let ⟨b,_,_,_,_,_,_,h,_⟩:=e3;⟨b,h⟩
 (refine AU rfl (Ao rfl rfl (Ao rfl rfl (Al rfl (Ab rfl (Aa (Ac (Ad (Ab rfl (AL rfl rfl (by omega) (by omega) ?_))))))))))
 refine Dx (A:=[]) (B:=L1) rfl rfl (h2 (n:=n+2) (by omega) (by omega)) (fun u d2 L2 hl2 ⟨q1,br,ar,cr,q2,q3⟩=>?_)
 subst q1;subst q2
 rw [Aea]
 (refine AU rfl (Ao rfl rfl (Ao rfl rfl (Al rfl (Ab rfl (Aa (Ac (Ac (Ad (Ab rfl (AP rfl rfl (Af rfl (Bb rfl (by omega) (Ag rfl (Al rfl (Ag rfl (C5 rfl rfl (As rfl rfl (Af rfl (Ag rfl (Al rfl (Ag rfl (C5 rfl rfl (As rfl rfl (Aa (AR rfl (Ak (Ac (Ad (Al rfl ?_))))))))))))))))))))))))))))))
 refine DZ (h3 (n:=4) (e3.mono hl2) (show 1≤(Acr (n+2) II).length by rw [Adn];omega) (by omega) (by omega)) rfl (fun u d3 L3 _ ⟨q4,cv,LC,q5,q6,q7⟩=>?_)
 subst q4;subst q5;subst q6
 obtain⟨bc,rfl⟩:∃b,cv=.pointer (some ⟨b,0,none⟩):=let ⟨b,_,_,_,_,_,_,_,_,h,_⟩:=q7;⟨b,h⟩
 (refine AU rfl (Ao rfl rfl (Ao rfl rfl (Al rfl (Ab rfl (Aa (Ac (Ad (Al rfl ?_)))))))))
 refine Dx (A:=[]) (B:=LC++L1) rfl rfl (h4 (b:=br)) (fun u d4 L4 hl4 ⟨p1,bq,p2⟩=>?_)
 subst p1;subst p2
 rw [Aea]
 (refine AU rfl (Ao rfl rfl (Ao rfl rfl (Al rfl (Ab rfl (Aa (Ac (Ac (Ad (Ab rfl (AP rfl rfl (Af rfl (Bb rfl (by omega) (Ag rfl (Al rfl (Ag rfl (C5 rfl rfl (As rfl rfl (Aa (AR rfl (Ak (Ac (Ad (Al rfl (Al rfl (Ab rfl ?_))))))))))))))))))))))))))
 refine DZ (h5 (frm:=2) (n:=n) (m:=4) (live:=[]) ((e3.mono hl2).mono hl4) (q7.mono hl4) (by omega) (by omega) (by omega) (by rw [Adn];omega) (by rw [Adn];omega) Agq (fun k hk=>(by cases hk)) (RSl.nil:Dq d4 (.slice none 0 0) [])) rfl (fun u d5 L5 hl5 ⟨pv,g1,g2,g3⟩=>?_)
 subst g1
 obtain⟨bp,rfl⟩:=g3.ptr
 (refine AU rfl (Ao rfl rfl (Ao rfl rfl (Al rfl (Ab rfl (Aa (Ac (Ad (Al rfl (Al rfl (Ab rfl ?_)))))))))))
 refine Dx (A:=[]) (B:=L5) rfl rfl (h6 (n:=n) (b:=br) (q:=bq) ((q3.mono hl4).mono hl5) hn1 (by omega)) (fun u d6 L6 hl6 ⟨p1,xv,p2⟩=>?_)
 subst p1;subst p2
 rw [Aea]
 (refine AU rfl (Ao rfl rfl (Ao rfl rfl (Al rfl (Ab rfl (Aa (Ac (Ac (Ad (Ab rfl (AP rfl rfl (Af rfl (Bb rfl (by omega) (Ag rfl (Al rfl (Ag rfl (C5 rfl rfl (As rfl rfl (Aa (AR rfl (Ak (Ac (Ad (Al rfl (Al rfl (BI rfl (Cl rfl (fun _ _=>Al rfl (Aa (An ?_))))))))))))))))))))))))))))))
 rename_i bm Tm
 exact A8 [.pointer (some ⟨bm,0,none⟩)] ⟨rfl,trivial⟩ (d':=join d6 (bx bm Tm [.pointer (some ⟨bp,0,none⟩),.pointer (some ⟨xv,0,none⟩)])) (L':=L5) Vs.freeze ⟨bm,bd,bp,rfl,(Le.dcs (Le.A5 _ _)).at (i:=0) rfl,(g3.mono hl6).mono (Le.AF _ _)⟩
end Go.Gk.Chn
end
section
namespace Go.Gk.Tre
open Go Go.Gk Go.Gk.Dev Go.Gk.Cch Go.Gk.Pgr Go.Gk.Chn Go.Gk.Node
attribute [local irreducible] gwp gws xwp
def MV(P:Program) (f:FuncId):Prop:=∀{d:Ae}{w:Value}{key:List UInt8},AJ d w key→CP P f [w] d (.int .i64 (BM key))
def Jg:AX:=⟨11,[(.tmp 2)],(.seq (rG (o1 2 (.mv (kZ 0)) .done)) (.seq (.seq (rG (om 3 0 (oL 4 3 (ob 5 .lss (tP 4) (kZ 1) (om 6 5 (gF 7 6 0 (oF 8 6 (.len (tP 7)) (oF 9 6 (.bin .gtr (tP 8) (kZ 64)) (o1 10 (.pick (tP 6) (.const (.bool true)) (tP 9)) .done))))))))) (.cond (tP 10) (.seq (rG (o1 2 (.mv (kZ 2)) .done)) .ret) .skip)) (.seq (rG (o1 2 (.mv (kZ 0)) .done)) .ret)))⟩
theorem Wi{P:Program}{f:FuncId} (hd:dec P f=some Jg):MV P f:=by
 intro d w key hw
 have hwl:=hw.BV
 obtain⟨a,c,rfl⟩:=hw.val
 refine AE hd (Aca rfl) ?_
 show gwp P _ _ _ _ _
 by_cases e1:key.length<1
 ·have hF:BM key=2:=by unfold BM;rw [if_pos (.inl e1)]
  rw [hF]
  (refine Ac (Ad (Ab rfl (Aa (Ac (Ac (Ad (Am rfl (AK rfl (AB rfl rfl (Af rfl (Bn rfl (by omega) (Ap rfl (Ap rfl (Ap rfl (AG rfl rfl (Aa (Bf rfl (Ac (Ad (Ab rfl (Aa (An ?_)))))))))))))))))))))))
  exact BF rfl (Acb _) ⟨rfl,rfl,rfl⟩
 ·by_cases e2:64<key.length
  ·have hF:BM key=2:=by unfold BM;rw [if_pos (.inr e2)]
   rw [hF]
   (refine Ac (Ad (Ab rfl (Aa (Ac (Ac (Ad (Am rfl (AK rfl (AB rfl rfl (Af rfl (Bb rfl (by omega) (Ag rfl (Am rfl (Ag rfl (AK rfl (Ag rfl (BQ rfl rfl (As rfl rfl (Aa (Ax rfl (by omega) (Ac (Ad (Ab rfl (Aa (An ?_))))))))))))))))))))))))))
   exact BF rfl (Acb _) ⟨rfl,rfl,rfl⟩
  ·have hF:BM key=0:=by unfold BM;rw [if_neg (by omega)]
   rw [hF]
   (refine Ac (Ad (Ab rfl (Aa (Ac (Ac (Ad (Am rfl (AK rfl (AB rfl rfl (Af rfl (Bb rfl (by omega) (Ag rfl (Am rfl (Ag rfl (AK rfl (Ag rfl (BQ rfl rfl (As rfl rfl (Aa (Ar rfl (by omega) (Ak (Ac (Ad (Ab rfl (Aa (An ?_)))))))))))))))))))))))))))
   exact BF rfl (Acb _) ⟨rfl,rfl,rfl⟩
def Oz(P:Program) (f:FuncId):Prop:=∀{d:Ae}{w:Value}{b:List UInt8}{n:Nat},AJ d w b→n≤1000000→Aw P f [w,.int .i64 n] d [] (Ret fun v d' L'=>L'=[]∧d'=d∧AJ d v (b.take n))
def Jz:AX:=⟨13,[(.tmp 4)],(.seq (rG (o1 4 (.mv (.const (.slice none 0 0))) .done)) (.seq (.seq (rG (om 5 0 (oL 6 5 (om 7 1 (ob 8 .gtr (tP 6) (tP 7) .done))))) (.cond (tP 8) (.seq (rG (om 9 0 (om 10 1 (o1 11 (.sl 1 (tP 9) none (some (tP 10)) none) (om 4 11 .done))))) .ret) .skip)) (.seq (rG (om 12 0 (om 4 12 .done))) .ret)))⟩
theorem Yx{P:Program}{f:FuncId} (hd:dec P f=some Jz):Oz P f:=by
 intro d w b n hw hn
 have hwl:=hw.BV
 obtain⟨a,c,rfl⟩:=hw.val
 refine AE hd (Aca rfl) ?_
 show gwp P _ _ _ _ _
 by_cases e1:n<b.length
 ·(refine Ac (Ad (Am rfl (Aa (Ac (Ac (Ad (Am rfl (AK rfl (Ab rfl (BQ rfl rfl (Aa (Ax rfl (by omega) (Ac (Ad (Am rfl (Ab rfl ?_)))))))))))))))))
  refine NJ (n:=n) rfl hw rfl rfl (by omega) (fun v11 r11=>?_)
  obtain⟨a1,c1,rfl⟩:=r11.val
  (refine Am rfl (Aa (An ?_)))
  exact BF rfl (Acb _) ⟨rfl,rfl,r11⟩
 ·rw [Aec (by omega)]
  (refine Ac (Ad (Am rfl (Aa (Ac (Ac (Ad (Am rfl (AK rfl (Ab rfl (BQ rfl rfl (Aa (Ar rfl (by omega) (Ak (Ac (Ad (Am rfl (Am rfl (Aa (An ?_))))))))))))))))))))
  exact BF rfl (Acb _) ⟨rfl,rfl,hw⟩
def H7(P:Program) (f:FuncId):Prop:=∀{d:Ae}{n:Nat},1≤n→n≤1000→Aw P f [.int .i64 n] d [] (Ret fun r d' L'=>∃bt Tt bd bp L2,r=.tuple #[.pointer (some ⟨bp,0,none⟩),.pointer (some ⟨bt,0,none⟩)]∧L'=tb bt Tt (.pointer (some ⟨bp,0,none⟩)) (-1) 0 0::L2∧Pg d' (pdN n) (.pointer (some ⟨bd,0,none⟩)) (.pointer (some ⟨bp,0,none⟩)) L2)
def IF(a0 a1:Nat):AX:=⟨26,[(.tmp 2),(.tmp 3)],(.seq (rG (o1 2 (.mv (.const (.pointer none))) (o1 3 (.mv (.const (.pointer none))) .done))) (.seq (rG (om 7 0 (oc 8 a0 [(tP 7)] (om 4 8 .done)))) (.seq (.seq (rG (om 9 4 (o1 10 (.eqp false (tP 9) (.const (.pointer none))) .done))) (.cond (tP 10) (.seq (rG (o1 2 (.mv (.const (.pointer none))) (o1 3 (.mv (.const (.pointer none))) .done))) .ret) .skip)) (.seq (rG (om 12 4 (o1 13 (.nilc (tP 12)) (oj 14 0 13 (ol 15 14 (oc 16 a1 [(tP 15)] (om 11 16 (oe 17 11 0 (oe 18 11 1 (om 5 17 (om 6 18 .done))))))))))) (.seq (.seq (rG (om 19 6 (ob 20 .neq (tP 19) (kZ 0) .done))) (.cond (tP 20) (.seq (rG (o1 2 (.mv (.const (.pointer none))) (o1 3 (.mv (.const (.pointer none))) .done))) .ret) .skip)) (.seq (rG (om 21 4 (o1 22 (.nilc (tP 21)) (oj 23 0 22 (ol 24 23 (om 25 5 (om 2 24 (om 3 25 .done)))))))) .ret))))))⟩
theorem UZ{P:Program}{f f1 f2:FuncId} (hd:dec P f=some (IF f1 f2)) (h1:Nh P f1) (h2:QU P f2):H7 P f:=by
 intro d n hn1 hn2
 refine AE hd (Aca rfl) ?_
 show gwp P _ _ _ _ _
 (refine Ac (Ad (Al rfl (Al rfl (Aa (Ac (Ad (Ab rfl ?_))))))))
 refine DZ (h1 (n:=n) hn1 hn2) rfl (fun u d1 L1 hl1 ⟨b,bd,bp,e1,e2,e3⟩=>?_)
 subst e1
 (refine Al rfl (Aa (Ac (Ac (Ad (Al rfl (C5 rfl rfl (Aa (AR rfl (Ak (Ac (Ad (Al rfl (Au rfl (Ai rfl (Ah rfl (BE (by assumption)) ?_))))))))))))))))
 refine DZ (h2 e3) rfl (fun u d2 L2 hl2 ⟨_,bt,Tt,e4,e5⟩=>?_)
 subst e4;subst e5
 have e2':=e2.mono hl2
 (refine AU rfl (Ao rfl rfl (Ao rfl rfl (Al rfl (Ab rfl (Aa (Ac (Ac (Ad (Ab rfl (AP rfl rfl (Aa (Ar rfl (by omega) (Ak (Ac (Ad (Al rfl (Au rfl (Ai rfl (Ah rfl (BE (by assumption)) (Al rfl (Al rfl (Al rfl (Aa (An ?_)))))))))))))))))))))))))
 exact A8 [.pointer (some ⟨bp,0,none⟩),.pointer (some ⟨bt,0,none⟩)] ⟨Av rfl,Av rfl,trivial⟩ (Vs.refl _ _) ⟨bt,Tt,bd,bp,_,rfl,rfl,e3.mono hl2⟩
abbrev KV:=List UInt8×List UInt8
def RKv(_:Ae) (cs:List Value) (x:KV):Prop:=cs=[Bp x.1,Bp x.2]∧x.1.length≤140737488355328∧x.2.length≤140737488355328
theorem E7:F7 RKv:=fun _ h=>h
def Bx:List KV→List UInt8→Nat
 |[],_=>0
 |x::l,key=>if Op.bytesLess x.1 key=true then Bx l key+1 else 0
def IX(P:Program) (f:FuncId):Prop:=∀{d:Ae}{w:Value}{l:List KV}{key:List UInt8},RSl 2 RKv d w l→key.length≤140737488355328→CP P f [w,Bp key] d (.int .i64 (Bx l key:Nat))
def J5:AX:=⟨22,[(.tmp 4)],(.seq (rG (o1 4 (.mv (kZ 0)) .done)) (.seq (rG (o1 5 (.mv (kZ 0)) .done)) (.seq (.block 0 (.loop (.seq (.seq (rG (om 6 5 (om 7 0 (oL 8 7 (ob 9 .lss (tP 6) (tP 8) (om 10 9 (gT 11 10 0 (gT 12 10 5 (oT 13 10 (.idx 2 (tP 11) (tP 12)) (oT 14 10 (.fld 0 (tP 13)) (oT 15 10 (.ld none (tP 14)) (gT 16 10 1 (oT 17 10 (.bin .lss (tP 15) (tP 16)) (gP 18 10 17 .done)))))))))))))) (.cond (tP 18) .skip (.exit 0))) (.block 1 (rG (om 19 5 (ob 20 .add (tP 19) (kZ 1) (om 5 20 .done)))))))) (.seq (rG (om 21 5 (om 4 21 .done))) .ret))))⟩
theorem QT{P:Program}{f:FuncId} (hd:dec P f=some J5):IX P f:=by
 intro d w l key hw hk
 have hwl:=hw.BV
 obtain⟨a,c,rfl⟩:=hw.val
 refine AE hd (Aca rfl) ?_
 show gwp P _ _ _ _ _
 (refine Ac (Ad (Ab rfl (Aa (Ac (Ad (Ab rfl (Aa (Ac (Az ?_))))))))))
 refine CL (α:=Nat) (fun x=>[(0,.slice a l.length c),(1,Bp key),(5,.int .i64 x)]) (fun x d' L'=>d'=d∧L'=[]∧x≤l.length∧Bx l key=x+Bx (l.drop x) key) (fun x=>l.length - x) 0 ⟨rfl,rfl,rfl,trivial⟩ ⟨rfl,rfl,Adg _,by simp⟩ ?_
 rintro i ρ d' L' ⟨rfl,rfl,hi,hf⟩
 simp only at hi hf⊢
 by_cases e:i<l.length
 ·rw [Adi e,Bx] at hf
  (refine Ac (Ac (Ad (Ab rfl (Am rfl (AK rfl (AB rfl rfl (Af rfl (Bn rfl (by omega) (Ag rfl (Am rfl (Ag rfl (Ab rfl (Ag rfl ?_))))))))))))))
  refine BK (m:=i) rfl hw rfl rfl e (fun b o cs hcl hdc ⟨q,q1,q2⟩=>?_)
  subst q
  by_cases e2:Op.bytesLess l[i].1 key=true
  ·rw [if_pos e2] at hf
   (refine Ag rfl (Ai rfl (Ag rfl (Ah rfl (Fg (by assumption) rfl) (Ag rfl (DQ rfl (Ag rfl (Fb rfl rfl (AG rfl rfl (Aa ?_)))))))));apply Wv;rfl;(with_reducible assumption);refine Ak (Az (Ad (Ab rfl (AL rfl rfl (by omega) (by omega) (Ab rfl (Aa ?_)))))))
   exact⟨i+1,by omega,⟨rfl,rfl,rfl,trivial⟩,rfl,rfl,e,by omega⟩
  ·rw [if_neg e2,Nat.add_zero] at hf
   (refine Ag rfl (Ai rfl (Ag rfl (Ah rfl (Fg (by assumption) rfl) (Ag rfl (DQ rfl (Ag rfl (Fb rfl rfl (AG rfl rfl (Aa ?_))))))))))
   show gwp P _ _ _ _ _
   first|refine He rfl (fun h9=>?_) (fun h9=>?_)|refine JL rfl (fun h9=>?_) (fun h9=>?_)
   ·exact absurd h9 e2
   ·clear h9 e2
    rw [hf]
    (refine Bg (Ac (Ad (Ab rfl (Ab rfl (Aa (An ?_)))))))
    exact BF rfl (Acb _) ⟨rfl,rfl,rfl⟩
 ·have:i=l.length:=by omega
  subst this
  rw [Afv,Bx] at hf
  rw [hf]
  (refine Ac (Ac (Ad (Ab rfl (Am rfl (AK rfl (AB rfl rfl (Af rfl (Bb rfl (by omega) (Ap rfl (Ap rfl (Ap rfl (Ap rfl (Ap rfl (Ap rfl (Ap rfl (As rfl rfl (Aa (AR rfl (Bg (Ac (Ad (Ab rfl (Ab rfl (Aa (An ?_))))))))))))))))))))))))))
  exact BF rfl (Acb _) ⟨rfl,rfl,rfl⟩
theorem JQ:Fx RKv:=fun _ _ _ h=>by obtain⟨rfl,_⟩:=h;rfl
def isK(l:List KV) (key:List UInt8):Bool:=decide (Bx l key<l.length)&& decide ((l.getD (Bx l key) ([],[])).1=key)
def D4(l:List KV) (key:List UInt8):List UInt8×Bool:=if isK l key=true then((l.getD (Bx l key) ([],[])).2,true) else([],false)
def Cr(l:List KV) (key:List UInt8):List KV×Bool:=if isK l key=true then(l.take (Bx l key)++l.drop (Bx l key+1),true) else(l,false)
theorem F1:∀(l:List KV) (key:List UInt8),Bx l key≤l.length
 |[],_=>Ach _
 |x::l,key=>by
  rw [Bx,Acs]
  have:=F1 l key
  by_cases h:Op.bytesLess x.1 key=true
  ·rw [if_pos h];omega
  ·rw [if_neg h];omega
def Pn(P:Program) (f:FuncId):Prop:=∀{d:Ae}{w:Value}{l:List KV}{key:List UInt8},RSl 2 RKv d w l→key.length≤140737488355328→CP P f [w,Bp key] d (.tuple #[Bp (D4 l key).1,.bool (D4 l key).2])
def KS(a0:Nat):AX:=⟨28,[(.tmp 4),(.tmp 5)],(.seq (rG (o1 4 (.mv (.const (Bp []))) (o1 5 (.mv (.const (.bool false))) .done))) (.seq (rG (om 7 0 (om 8 1 (oc 9 a0 [(tP 7),(tP 8)] (om 6 9 .done))))) (.seq (.seq (rG (om 10 6 (om 11 0 (oL 12 11 (ob 13 .lss (tP 10) (tP 12) (om 14 13 (gT 15 14 0 (gT 16 14 6 (oT 17 14 (.idx 2 (tP 15) (tP 16)) (oT 18 14 (.fld 0 (tP 17)) (oT 19 14 (.ld none (tP 18)) (gT 20 14 1 (oT 21 14 (.bin .eql (tP 19) (tP 20)) (gP 22 14 21 .done)))))))))))))) (.cond (tP 22) (.seq (rG (om 23 0 (om 24 6 (oI 25 2 23 24 (oj 26 1 25 (ol 27 26 (om 4 27 (o1 5 (.mv (.const (.bool true))) .done)))))))) .ret) .skip)) (.seq (rG (o1 4 (.mv (.const (Bp []))) (o1 5 (.mv (.const (.bool false))) .done))) .ret))))⟩
theorem Yu{P:Program}{f f1:FuncId} (hd:dec P f=some (KS f1)) (h1:IX P f1):Pn P f:=by
 intro d w l key hw hk
 have hwl:=hw.BV
 have hc:=h1 hw hk
 have hfl:=F1 l key
 obtain⟨i,hi⟩:∃i,Bx l key=i:=⟨_,rfl⟩
 rw [hi] at hc hfl
 have hIs:isK l key=(decide (i<l.length)&& decide ((l.getD i ([],[])).1=key)):=by unfold isK;rw [hi]
 have hG:D4 l key=if isK l key=true then((l.getD i ([],[])).2,true) else([],false):=by unfold D4;rw [hi]
 rw [hG,hIs]
 clear hG hIs hi
 obtain⟨a,c,rfl⟩:=hw.val
 refine AE hd (Aca rfl) ?_
 show gwp P _ _ _ _ _
 (refine Ac (Ad (DQ rfl (Af rfl (Aa (Ac (Ad (Am rfl (DQ rfl ?_)))))))))
 refine BP rfl hc ?_
 by_cases e:i<l.length
 ·have hgd:l.getD i ([],[])=l[i]:=by rw [Acf,Ace e];rfl
  rw [hgd]
  by_cases e2:l[i].1=key
  ·rw [if_pos (by simp [e,e2])]
   (refine Ab rfl (Aa (Ac (Ac (Ad (Ab rfl (Am rfl (AK rfl (AB rfl rfl (Af rfl (Bn rfl (by omega) (Ag rfl (Am rfl (Ag rfl (Ab rfl (Ag rfl ?_))))))))))))))))
   refine BK (m:=i) rfl hw rfl rfl e (fun b o cs hcl hdc ⟨q,q1,q2⟩=>?_)
   subst q
   (refine Ag rfl (Ai rfl (Ag rfl (Ah rfl (Fg (by assumption) rfl) (Ag rfl (DQ rfl (Ag rfl (Qy rfl rfl (AG rfl rfl (Aa (Ax rfl (by omega) (Ac (Ad (Am rfl (Ab rfl ?_)))))))))))))))
   refine BK (m:=i) rfl hw rfl rfl e (fun b o cs hcl hdc ⟨q,q1,q2⟩=>?_)
   subst q
   (refine Ai rfl (Ah rfl (Fg (by assumption) rfl) (DQ rfl (Af rfl (Aa (An ?_))))))
   exact A8 [Bp l[i].2,.bool true] ⟨Av rfl,Av rfl,trivial⟩ (Vs.refl _ _) ⟨rfl,rfl,rfl⟩
  ·rw [if_neg (by simp [e2])]
   (refine Ab rfl (Aa (Ac (Ac (Ad (Ab rfl (Am rfl (AK rfl (AB rfl rfl (Af rfl (Bn rfl (by omega) (Ag rfl (Am rfl (Ag rfl (Ab rfl (Ag rfl ?_))))))))))))))))
   refine BK (m:=i) rfl hw rfl rfl e (fun b o cs hcl hdc ⟨q,q1,q2⟩=>?_)
   subst q
   (refine Ag rfl (Ai rfl (Ag rfl (Ah rfl (Fg (by assumption) rfl) (Ag rfl (DQ rfl (Ag rfl (Qy rfl rfl (AG rfl rfl (Aa (Ar rfl (by omega) (Ak (Ac (Ad (DQ rfl (Af rfl (Aa (An ?_))))))))))))))))))
   exact A8 [Bp [],.bool false] ⟨Av rfl,Av rfl,trivial⟩ (Vs.refl _ _) ⟨rfl,rfl,rfl⟩
 ·rw [if_neg (by simp [e])]
  (refine Ab rfl (Aa (Ac (Ac (Ad (Ab rfl (Am rfl (AK rfl (AB rfl rfl (Af rfl (Bb rfl (by omega) (Ap rfl (Ap rfl (Ap rfl (Ap rfl (Ap rfl (Ap rfl (Ap rfl (As rfl rfl (Aa (AR rfl (Ak (Ac (Ad (DQ rfl (Af rfl (Aa (An ?_))))))))))))))))))))))))))))
  exact A8 [Bp [],.bool false] ⟨Av rfl,Av rfl,trivial⟩ (Vs.refl _ _) ⟨rfl,rfl,rfl⟩
def LU(P:Program) (f:FuncId):Prop:=∀{d:Ae}{w:Value}{l:List KV}{key:List UInt8},RSl 2 RKv d w l→key.length≤140737488355328→l.length≤1000000→
 Aw P f [w,Bp key] d [] (Ret fun v d' L'=>L'=[]∧Le d d'∧∃u,v=.tuple #[u,.bool (Cr l key).2]∧RSl 2 RKv d' u (Cr l key).1)
def KP(a0:Nat):AX:=⟨34,[(.tmp 4),(.tmp 5)],(.seq (rG (o1 4 (.mv (.const (.slice none 0 0))) (o1 5 (.mv (.const (.bool false))) .done))) (.seq (rG (om 7 0 (om 8 1 (oc 9 a0 [(tP 7),(tP 8)] (om 6 9 .done))))) (.seq (.seq (rG (om 10 6 (om 11 0 (oL 12 11 (ob 13 .eql (tP 10) (tP 12) (om 14 13 (gF 15 14 0 (gF 16 14 6 (oF 17 14 (.idx 2 (tP 15) (tP 16)) (oF 18 14 (.fld 0 (tP 17)) (oF 19 14 (.ld none (tP 18)) (gF 20 14 1 (oF 21 14 (.bin .neq (tP 19) (tP 20)) (o1 22 (.pick (tP 14) (.const (.bool true)) (tP 21)) .done)))))))))))))) (.cond (tP 22) (.seq (rG (om 23 0 (om 4 23 (o1 5 (.mv (.const (.bool false))) .done)))) .ret) .skip)) (.seq (.reg true (pm 25 0 (pm 26 6 (p1 27 (.sl 2 (tP 25) none (some (tP 26)) none) (pm 29 0 (pm 30 6 (p1 31 (.bin .add (tP 30) (kZ 1)) (p1 32 (.sl 2 (tP 29) (some (tP 31)) none none) (o1 24 (.bsl 0 2 [(Bp []),(Bp [])] []) (o1 28 (.app 2 32 [(Bp []),(Bp [])] (tP 24) (tP 27)) (o1 33 (.app 2 32 [(Bp []),(Bp [])] (tP 28) (tP 32)) (.bar (pm 4 33 (p1 5 (.mv (.const (.bool true))) .done)))))))))))))) .ret))))⟩
theorem Ye{P:Program}{f f1:FuncId} (hd:dec P f=some (KP f1)) (h1:IX P f1):LU P f:=by
 intro d w l key hw hk hln
 have hwl:=hw.BV
 have hc:=h1 hw hk
 have hfl:=F1 l key
 obtain⟨i,hi⟩:∃i,Bx l key=i:=⟨_,rfl⟩
 rw [hi] at hc hfl
 have hIs:isK l key=(decide (i<l.length)&& decide ((l.getD i ([],[])).1=key)):=by unfold isK;rw [hi]
 have hG:Cr l key=if isK l key=true then(l.take i++l.drop (i+1),true) else(l,false):=by unfold Cr;rw [hi]
 rw [hG,hIs]
 clear hG hIs hi
 obtain⟨a,c,rfl⟩:=hw.val
 refine AE hd (Aca rfl) ?_
 show gwp P _ _ _ _ _
 (refine Ac (Ad (Am rfl (Af rfl (Aa (Ac (Ad (Am rfl (DQ rfl ?_)))))))))
 refine BP rfl hc ?_
 by_cases e:i<l.length
 ·have hgd:l.getD i ([],[])=l[i]:=by rw [Acf,Ace e];rfl
  rw [hgd]
  by_cases e2:l[i].1=key
  ·rw [if_pos (by simp [e,e2])]
   (refine Ab rfl (Aa (Ac (Ac (Ad (Ab rfl (Am rfl (AK rfl (AO rfl rfl (Af rfl (Bb rfl (by omega) (Ag rfl (Am rfl (Ag rfl (Ab rfl (Ag rfl ?_))))))))))))))))
   refine BK (m:=i) rfl hw rfl rfl e (fun b o cs hcl hdc ⟨q,q1,q2⟩=>?_)
   subst q
   (refine Ag rfl (Ai rfl (Ag rfl (Ah rfl (Fg (by assumption) rfl) (Ag rfl (DQ rfl (Ag rfl (LQ rfl rfl (As rfl rfl (Aa ?_))))))))))
   show gwp P _ _ _ _ _
   first|refine He rfl (fun h9=>?_) (fun h9=>?_)|refine JL rfl (fun h9=>?_) (fun h9=>?_)
   ·exact absurd e2 h9
   ·clear h9
    (refine Ak (Ac ?_))
    refine Br ?_
    (refine Am rfl (Ab rfl ?_))
    refine NJ (n:=i) rfl hw rfl rfl (by omega) (fun v27 r27=>?_)
    (refine Am rfl (Ab rfl (AL rfl rfl (by omega) (by omega) ?_)))
    refine EA (n:=i+1) rfl hw rfl rfl (by omega) (fun v32 r32=>?_)
    refine AaC (R:=RKv) (xs:=l.take i) (ys:=l.drop (i+1)) E7 JQ (by omega) rfl r27 r32 (fun _=>rfl) (fun _ _=>rfl) (by simp;omega) (by simp;omega) (fun v0 v1 a c d3 hl3 hr3=>?_)
    (refine B1 (Am rfl (Af rfl (Aa (An ?_)))))
    exact A8 [.slice a (l.take i++l.drop (i+1)).length c,.bool true] ⟨Av rfl,Av rfl,trivial⟩ (Vs.refl _ _) ⟨rfl,hl3,_,rfl,hr3⟩
  ·rw [if_neg (by simp [e2])]
   (refine Ab rfl (Aa (Ac (Ac (Ad (Ab rfl (Am rfl (AK rfl (AO rfl rfl (Af rfl (Bb rfl (by omega) (Ag rfl (Am rfl (Ag rfl (Ab rfl (Ag rfl ?_))))))))))))))))
   refine BK (m:=i) rfl hw rfl rfl e (fun b o cs hcl hdc ⟨q,q1,q2⟩=>?_)
   subst q
   (refine Ag rfl (Ai rfl (Ag rfl (Ah rfl (Fg (by assumption) rfl) (Ag rfl (DQ rfl (Ag rfl (LQ rfl rfl (As rfl rfl (Aa (Ax rfl (by omega) (Ac (Ad (Am rfl (Am rfl (Af rfl (Aa (An ?_))))))))))))))))))
   exact A8 [.slice a l.length c,.bool false] ⟨Av rfl,Av rfl,trivial⟩ (Vs.refl _ _) ⟨rfl,Le.refl _,_,rfl,hw⟩
 ·rw [if_neg (by simp [e])]
  (refine Ab rfl (Aa (Ac (Ac (Ad (Ab rfl (Am rfl (AK rfl (AO rfl rfl (Af rfl (Bn rfl (by omega) (Ap rfl (Ap rfl (Ap rfl (Ap rfl (Ap rfl (Ap rfl (Ap rfl (AG rfl rfl (Aa (Bf rfl (Ac (Ad (Am rfl (Am rfl (Af rfl (Aa (An ?_))))))))))))))))))))))))))))
  exact A8 [.slice a l.length c,.bool false] ⟨Av rfl,Av rfl,trivial⟩ (Vs.refl _ _) ⟨rfl,Le.refl _,_,rfl,hw⟩
def Eg(l:List KV) (key v:List UInt8):List KV:=(Cr l key).1.take (Bx (Cr l key).1 key)++[(key,v)]++(Cr l key).1.drop (Bx (Cr l key).1 key)
theorem S3(l:List KV) (key:List UInt8):(Cr l key).1.length≤l.length:=by
 unfold Cr
 by_cases h:isK l key=true
 ·rw [if_pos h];simp only [Acl,Acw,Acn];omega
 ·rw [if_neg h];exact Ach _
def Ph(P:Program) (f:FuncId):Prop:=∀{d:Ae}{w:Value}{l:List KV}{key v:List UInt8},RSl 2 RKv d w l→key.length≤140737488355328→v.length≤140737488355328→l.length≤1000000→
 Aw P f [w,Bp key,Bp v] d [] (Ret fun r d' L'=>L'=[]∧Le d d'∧RSl 2 RKv d' r (Eg l key v))
def K7(a0 a1:Nat):AX:=⟨31,[(.tmp 6)],(.seq (rG (o1 6 (.mv (.const (.slice none 0 0))) .done)) (.seq (rG (om 9 0 (om 10 1 (oc 11 a0 [(tP 9),(tP 10)] (om 8 11 (oe 12 8 0 (oe 13 8 1 (om 0 12 .done)))))))) (.seq (rG (om 14 0 (om 15 1 (oc 16 a1 [(tP 14),(tP 15)] (om 7 16 .done))))) (.seq (.reg true (pm 18 0 (pm 19 7 (p1 20 (.sl 2 (tP 18) none (some (tP 19)) none) (pm 22 1 (pm 23 2 (p1 24 (.bld [(0,1),(1,1)] [(Bp []),(Bp [])] [(0,(tP 22)),(1,(tP 23))]) (pm 27 0 (pm 28 7 (p1 29 (.sl 2 (tP 27) (some (tP 28)) none none) (.par (o1 25 (.bsl 1 2 [(Bp []),(Bp [])] [(0,(tP 24))]) .done) (o1 17 (.bsl 0 2 [(Bp []),(Bp [])] []) (o1 21 (.app 2 32 [(Bp []),(Bp [])] (tP 17) (tP 20)) .done)) (o1 26 (.app 2 32 [(Bp []),(Bp [])] (tP 21) (tP 25)) (o1 30 (.app 2 32 [(Bp []),(Bp [])] (tP 26) (tP 29)) (.bar (pm 6 30 .done))))))))))))))) .ret))))⟩
set_option maxRecDepth 4000 in
theorem Yg{P:Program}{f f1 f2:FuncId} (hd:JU P f=some (K7 f1 f2)) (h1:LU P f1) (h2:IX P f2):Ph P f:=by
 intro d w l key v hw hk hv hln
 have hwl:=hw.BV
 have hdl:=S3 l key
 obtain⟨a,c,rfl⟩:=hw.val
 refine AE hd (Aca rfl) ?_
 show gwp P _ _ _ _ _
 (refine Ac (Ad (Am rfl (Aa (Ac (Ad (Am rfl (DQ rfl ?_))))))))
 refine DZ (h1 hw hk hln) rfl (fun u d2 L2 hl2 ⟨e1,_,w2,e2,hw2⟩=>?_)
 subst e1;subst e2
 have hc:=h2 hw2 hk
 have hfl:=F1 (Cr l key).1 key
 unfold Eg
 generalize hm:(Cr l key).1=m at hw2 hc hfl hdl⊢
 generalize hi:Bx m key=i at hc hfl⊢
 obtain⟨a2,c2,rfl⟩:=hw2.val
 clear hm hi hw
 (refine AU rfl (Ao rfl rfl (Ao rfl rfl (Am rfl (Aa (Ac (Ad (Am rfl (DQ rfl ?_)))))))))
 refine BP rfl hc ?_
 (refine Ab rfl (Aa (Ac ?_)))
 refine Br ?_
 (refine Am rfl (Ab rfl ?_))
 refine NJ (n:=i) rfl hw2 rfl rfl (by omega) (fun v20 r20=>?_)
 (refine DQ rfl (DQ rfl (BI rfl (Am rfl (Ab rfl ?_)))))
 refine EA (n:=i) rfl hw2 rfl rfl (by omega) (fun v29 r29=>?_)
 refine Gj (α:=Nat×TypeId) (β:=Value×Ae) [(29,v29)]
  (fun x=>[(25,.slice (some ⟨x.1,0,none⟩) 1 1)]) (fun x d L=>L=[bx x.1 x.2 [Bp key,Bp v]])
  (fun y=>[(21,y.1)]) (fun y d L=>Aq 2 RKv d y.1 (m.take i) y.2∧L=[y.2]) [] [] rfl
  (fun x d d' M hl h=>h) (fun y d d' M hl h=>⟨Aq.mono (R:=RKv) E7 h.1 hl,h.2⟩) (fun x=>rfl) (fun y=>rfl) rfl ⟨rfl,trivial⟩ ?_ ?_ ?_
 ·refine Rq (cs:=[Bp key,Bp v]) rfl rfl rfl (by omega) (fun b25 T25=>?_)
  refine A4 ?_
  exact⟨_,rfl,(b25,T25),⟨rfl,trivial⟩,rfl⟩
 ·refine AaS (R:=RKv) (xs:=m.take i) E7 JQ (by omega) r20 (fun _=>rfl) (by simp;omega) (by simp;omega) (fun v0 v1 g1 o1=>?_)
  refine A4 ?_
  exact⟨_,rfl,(v1,g1),⟨rfl,trivial⟩,o1,rfl⟩
 rintro⟨b25,T25⟩ ⟨v21,g21⟩ ρ d5 M1 M2 hl5 hM1 ⟨o21,hM2⟩
 subst hM1;subst hM2
 refine D6 (R:=RKv) 0 rfl rfl o21 rfl (Aq.En (R:=RKv) (x:=(key,v)) rfl ⟨rfl,hk,hv⟩) JQ (by omega) (by simp;omega) (by simp;omega) (fun v26 g26 o26=>?_)
 refine OF (R:=RKv) (xs:=m.take i++[(key,v)]) (ys:=m.drop i) E7 rfl o26 rfl (RSl.src (R:=RKv) (RSl.mono (R:=RKv) E7 r29 hl5) JQ (by omega) _) (by omega) (by simp;omega) (by simp;omega) (fun a30 c30 d6 hl6 r30=>?_)
 (refine B1 (Am rfl (Aa (An ?_))))
 exact BF rfl (Acb _) ⟨rfl,(hl2.trans hl5).trans hl6,r30⟩
end Go.Gk.Tre
end
section
namespace Go.Gk.Tre
open Go Go.Gk Go.Gk.Dev Go.Gk.Cch Go.Gk.Pgr Go.Gk.Chn Go.Gk.Node
abbrev Lt(a b:List UInt8):Prop:=Op.bytesLess a b=true
theorem KZ{a:List UInt8}:¬Lt a a:=by simp [Lt,EU]
theorem FT{a b c:List UInt8} (h:Lt a b) (k:Lt b c):Lt a c:=JE h k
theorem U7{a b:List UInt8} (h:Lt a b):¬Lt b a:=fun k=>KZ (FT h k)
theorem Lu{a b c:List UInt8} (h:¬Lt b a) (k:Lt b c):Lt a c:=by
 rcases JP a b with q|q|q
 ·exact FT q k
 ·rw [q];exact k
 ·exact absurd q h
theorem Ip{a b c:List UInt8} (h:Lt a b) (k:¬Lt c b):Lt a c:=by
 rcases JP b c with q|q|q
 ·exact FT h q
 ·rw [←q];exact h
 ·exact absurd q k
theorem YF{a b:List UInt8} (h:¬Lt a b):a=b∨Lt b a:=by
 rcases JP a b with q|q|q
 ·exact absurd q h
 ·exact .inl q
 ·exact .inr q
def KO(ks:List (List UInt8)):Prop:=(∀k∈ks,1≤k.length∧k.length≤64)∧ks.Pairwise Lt
theorem P0{ks:List (List UInt8)}:Dg ks ks.length=true↔KO ks:=by
 constructor
 ·intro h
  refine⟨fun k hk=>?_,Afc.2 fun i j hi hj hij=>Kj h hj hij⟩
  obtain⟨i,hi,rfl⟩:=Aeh hk
  have:=Gv.1 h i hi
  simp only [kOk,Acd,decide_eq_true_eq,Acf,Ace hi,Afo] at this
  exact this.1
 ·rintro⟨h1,h2⟩
  rw [Gv]
  intro k hk
  have:=h1 _ (Ada hk)
  simp only [kOk,Acd,decide_eq_true_eq,Acf,Ace hk,Afo,Ady,beq_iff_eq]
  refine⟨this,?_⟩
  by_cases e:k=0
  ·exact .inl e
  ·refine .inr ?_
   rw [Ace (show k - 1<ks.length by omega)]
   exact Afc.1 h2 (k - 1) k (by omega) hk (by omega)
theorem KO.app{a b:List (List UInt8)}:KO (a++b)↔KO a∧KO b∧∀x∈a,∀y∈b,Lt x y:=by
 simp only [KO,List.pairwise_append,Acj]
 exact⟨fun⟨h,p1,p2,p3⟩=>⟨⟨fun k hk=>h k (.inl hk),p1⟩,⟨fun k hk=>h k (.inr hk),p2⟩,p3⟩,
  fun⟨⟨a1,a2⟩,⟨b1,b2⟩,c⟩=>⟨fun k hk=>hk.elim (a1 k) (b1 k),a2,b2,c⟩⟩
theorem KO.cons{x:List UInt8}{b:List (List UInt8)}:KO (x::b)↔(1≤x.length∧x.length≤64)∧KO b∧∀y∈b,Lt x y:=by
 simp only [KO,Ahi,Adb]
 exact⟨fun⟨h,p1,p2⟩=>⟨h x (.inl rfl),⟨fun k hk=>h k (.inr hk),p2⟩,p1⟩,
  fun⟨a,⟨b1,b2⟩,c⟩=>⟨fun k hk=>hk.elim (fun e=>e▸a) (b1 k),c,b2⟩⟩
theorem KO.nil:KO []:=⟨fun _ h=>(by cases h),List.Pairwise.nil⟩
theorem CH{ks vs:List (List UInt8)}:A3 ⟨true,ks,vs,[]⟩=true↔KO ks∧vs.length=ks.length∧∀v∈vs,v.length≤16:=by
 simp only [A3,Acd,if_true,decide_eq_true_eq,Acq,Ha,P0]
 exact⟨fun⟨a,⟨b,_⟩,c⟩=>⟨a,b,c⟩,fun⟨a,b,c⟩=>⟨a,⟨b,rfl⟩,c⟩⟩
theorem B7{ks:List (List UInt8)}{cs:List Int}:A3 ⟨false,ks,[],cs⟩=true↔KO ks∧cs.length=ks.length+1∧∀c∈cs,0≤c∧c≤8191:=by
 simp only [A3,Acd,Aci,if_false,decide_eq_true_eq,Acq,FQ,P0]
 exact⟨fun⟨a,⟨_,b⟩,c⟩=>⟨a,b,c⟩,fun⟨a,b,c⟩=>⟨a,⟨rfl,b⟩,c⟩⟩
theorem Ea{n:AA} (h:A3 n=true) (hl:n.leaf=true):n=⟨true,n.keys,n.vals,[]⟩:=by
 obtain⟨lf,ks,vs,cs⟩:=n
 simp only at hl;subst hl
 simp only [A3,Acd,if_true,decide_eq_true_eq] at h
 rw [Acm h.2.1.2]
theorem D8{n:AA} (h:A3 n=true) (hl:n.leaf=false):n=⟨false,n.keys,[],n.kids⟩:=by
 obtain⟨lf,ks,vs,cs⟩:=n
 simp only at hl;subst hl
 simp only [A3,Acd,Aci,if_false,decide_eq_true_eq] at h
 rw [Acm h.2.1.1]
def C1:List (List UInt8)→Nat
 |[]=>0
 |x::l=>x.length+C1 l
theorem Dr:∀a b:List (List UInt8),C1 (a++b)=C1 a+C1 b
 |[],b=>by simp [C1]
 |x::a,b=>by simp only [Aei,C1,Dr a b];omega
theorem KM{l:List (List UInt8)}{k:Nat} (h:k<l.length):C1 (l.take (k+1))=C1 (l.take k)+l[k].length:=by
 rw [Acx h,Dr];simp [C1]
theorem size_leaf{ks vs:List (List UInt8)} (h:vs.length=ks.length):A0 ⟨true,ks,vs,[]⟩=2+2*ks.length+C1 ks+C1 vs:=by
 have key:∀k,k≤ks.length→Bj ⟨true,ks,vs,[]⟩ k=2*k+C1 (ks.take k)+C1 (vs.take k):=by
  intro k
  induction k with
  |zero=>intro _;simp [Bj,C1]
  |succ k ih=>
   intro hk
   rw [Bj,ih (by omega),KM (show k<ks.length by omega),KM (show k<vs.length by omega)]
   simp only [DR,if_true,Da,EL,Acf,Ace (show k<ks.length by omega),Ace (show k<vs.length by omega),Afo]
   omega
 have:=key ks.length (Ach _)
 rw [Aef,←h,Aef,h] at this
 simp only [A0,if_true,this];omega
theorem size_inner{ks:List (List UInt8)}{cs:List Int}:A0 ⟨false,ks,[],cs⟩=2+2*cs.length+ks.length+C1 ks:=by
 have key:∀k,k≤ks.length→Bj ⟨false,ks,[],cs⟩ k=k+C1 (ks.take k):=by
  intro k
  induction k with
  |zero=>intro _;simp [Bj,C1]
  |succ k ih=>
   intro hk
   rw [Bj,ih (by omega),KM (show k<ks.length by omega)]
   simp only [DR,Aci,if_false,Da,Acf,Ace (show k<ks.length by omega),Afo]
   omega
 have:=key ks.length (Ach _)
 rw [Aef] at this
 simp only [A0,Aci,if_false,this];omega
theorem O2{l:List (List UInt8)}{n:Nat} (h:∀x∈l,x.length≤n):C1 l≤n*l.length:=by
 induction l with
 |nil=>simp [C1]
 |cons x l ih=>
  have h1:=ih (fun y hy=>h y (Acy _ hy))
  have h2:=h x (Acu ..)
  simp only [C1,Acs,Nat.mul_succ];omega
theorem WC{n:AA} (hs:A3 n=true) (h:256<A0 n):C6 n=true:=by
 cases hl:n.leaf with
 |true=>
  have e:=Ea hs hl
  rw [e] at hs h⊢
  obtain⟨h1,h2,h3⟩:=CH.1 hs
  rw [size_leaf h2] at h
  have k1:=O2 (fun x hx=>(h1.1 x hx).2)
  have k2:=O2 h3
  simp only [C6,hs,Afl,if_true,decide_eq_true_eq]
  omega
 |false=>
  have e:=D8 hs hl
  rw [e] at hs h⊢
  obtain⟨h1,h2,h3⟩:=B7.1 hs
  rw [size_inner] at h
  have k1:=O2 (fun x hx=>(h1.1 x hx).2)
  simp only [C6,hs,Afl,Aci,if_false,decide_eq_true_eq]
  omega
theorem KQ{ks vs:List (List UInt8)} (hk:KO ks) (key:List UInt8):
  (∃a b,ks=a++key::b∧findD ⟨true,ks,vs,[]⟩ key=(a.length,true)∧(∀x∈a,Lt x key)∧∀x∈b,Lt key x)∨
  (∃a b,ks=a++b∧findD ⟨true,ks,vs,[]⟩ key=(a.length,false)∧(∀x∈a,Lt x key)∧∀x∈b,Lt key x):=by
 have e:ks=ks.takeWhile (Op.bytesLess · key)++ks.dropWhile (Op.bytesLess · key):=(Agj).symm
 have h1:∀x∈ks.takeWhile (Op.bytesLess · key),Lt x key:=fun x hx=>by
  have:=List.all_takeWhile (p:=(Op.bytesLess · key)) (l:=ks)
  exact Acq.1 this x hx
 have hl:low ⟨true,ks,vs,[]⟩ key=(ks.takeWhile (Op.bytesLess · key)).length:=rfl
 have hf:findD ⟨true,ks,vs,[]⟩ key=(low ⟨true,ks,vs,[]⟩ key,decide (low ⟨true,ks,vs,[]⟩ key<ks.length)&& decide (ks.getD (low ⟨true,ks,vs,[]⟩ key) []=key)):=rfl
 rw [hf,hl]
 generalize hA:ks.takeWhile (Op.bytesLess · key)=A at*
 cases hB:ks.dropWhile (Op.bytesLess · key) with
 |nil=>
  rw [hB] at e
  refine .inr ⟨A,[],e,?_,h1,fun x hx=>(by cases hx)⟩
  rw [e];simp
 |cons y B=>
  rw [hB] at e
  have hy:¬Lt y key:=by
   have:=List.head?_dropWhile_not (Op.bytesLess · key) ks
   rw [hB] at this
   simpa [Lt] using this
  have hr:∀x∈B,Lt y x:=by
   rw [e] at hk
   exact(KO.cons.1 (KO.app.1 hk).2.1).2.2
  have hg:(A++y::B).getD A.length []=y:=by simp
  rcases YF hy with q|q
  ·subst q
   refine .inl ⟨A,B,e,?_,h1,hr⟩
   rw [e,hg];simp
  ·refine .inr ⟨A,y::B,e,?_,h1,fun x hx=>?_⟩
   ·rw [e,hg]
    have:y≠key:=fun h=>KZ (h▸q)
    simp [this]
   ·rcases Adb.1 hx with rfl|hx
    ·exact q
    ·exact FT q (hr x hx)
theorem JG{ks:List (List UInt8)}{cs:List Int} (hs:A3 ⟨false,ks,[],cs⟩=true) (key:List UInt8):
  ∃a b,ks=a++b∧findD ⟨false,ks,[],cs⟩ key=(a.length,false)∧(∀x∈a,¬Lt key x)∧∀x∈b,Lt key x:=by
 have hk:=(B7.1 hs).1
 rw [find_eq _ _ hs]
 refine⟨ks.takeWhile (leB · key),ks.dropWhile (leB · key),(Agj).symm,rfl,fun x hx=>?_,fun x hx=>?_⟩
 ·have:=Acq.1 (List.all_takeWhile (p:=(leB · key)) (l:=ks)) x hx
  simp only [leB,Ady,decide_eq_true_eq] at this
  rcases this with h|h
  ·exact U7 h
  ·rw [h];exact KZ
 ·cases hB:ks.dropWhile (leB · key) with
  |nil=>rw [hB] at hx;cases hx
  |cons y B=>
   have hy:Lt key y:=by
    have:=List.head?_dropWhile_not (leB · key) ks
    rw [hB] at this
    simp only [leB,List.head?_cons,Bool.or_eq_false_iff,decide_eq_false_iff_not] at this
    rcases YF (a:=y) (b:=key) (by simp [Lt,this.1]) with q|q
    ·exact absurd q this.2
    ·exact q
   have hr:∀x∈B,Lt y x:=by
    rw [←Agj (p:=(leB · key)) (l:=ks),hB] at hk
    exact(KO.cons.1 (KO.app.1 hk).2.1).2.2
   rw [hB] at hx
   rcases Adb.1 hx with rfl|hx
   ·exact hy
   ·exact FT hy (hr x hx)
theorem H6{a b:List KV}{key:List UInt8} (h:∀x∈a,Lt x.1 key):Bx (a++b) key=a.length+Bx b key:=by
 induction a with
 |nil=>simp
 |cons x a ih=>
  rw [Aei,Bx,if_pos (h x (Acu ..)),ih (fun y hy=>h y (Acy _ hy)),Acs];omega
theorem H5{m b:List KV}{key:List UInt8} (h:∀x∈b,Lt key x.1):Bx (m++b) key=Bx m key:=by
 induction m with
 |nil=>
  cases b with
  |nil=>rfl
  |cons x b=>
   have:=U7 (h x (Acu ..))
   show(if Op.bytesLess x.1 key=true then Bx b key+1 else 0)=0
   rw [if_neg this]
 |cons x m ih=>
  rw [Aei,Bx,Bx,ih]
theorem Ep{a m b:List KV}{key:List UInt8} (ha:∀x∈a,Lt x.1 key) (hb:∀x∈b,Lt key x.1):isK (a++m++b) key=isK m key:=by
 unfold isK
 rw [Acg,H6 ha,H5 hb]
 have hle:=F1 m key
 by_cases e:Bx m key<m.length
 ·rw [show(a++(m++b)).getD (a.length+Bx m key) ([],[])=m.getD (Bx m key) ([],[]) by simp [Afy,Ads,Aed e]]
  simp [e];omega
 ·have e1:Bx m key=m.length:=by omega
  rw [e1]
  cases b with
  |nil=>simp
  |cons x b=>
   have hx:=hb x (Acu ..)
   have:(a++(m++x::b)).getD (a.length+m.length) ([],[])=x:=by simp [Afy,Ads]
   rw [this]
   have hne:x.1≠key:=fun h=>KZ (h▸hx)
   simp [hne]
theorem MP{a m b:List KV}{key:List UInt8} (ha:∀x∈a,Lt x.1 key) (hb:∀x∈b,Lt key x.1):Cr (a++m++b) key=(a++(Cr m key).1++b,isK m key):=by
 unfold Cr
 rw [Ep ha hb]
 by_cases h:isK m key=true
 ·have hlt:Bx m key<m.length:=by simp only [isK,Acd,decide_eq_true_eq] at h;exact h.1
  rw [if_pos h,if_pos h,h,Acg,H6 ha,H5 hb]
  congr 1
  rw [List.take_append,Ahf,Aec (show a.length≤a.length+Bx m key by omega),Aex (show a.length≤a.length+Bx m key+1 by omega),
   show a.length+Bx m key - a.length=Bx m key by omega,show a.length+Bx m key+1 - a.length=Bx m key+1 by omega,Afe (by omega),Ago (by omega)]
  simp
 ·rw [if_neg h,if_neg h]
  simp only [Aev] at h
  rw [h]
theorem Nz{a m b:List KV}{key:List UInt8} (ha:∀x∈a,Lt x.1 key) (hb:∀x∈b,Lt key x.1):D4 (a++m++b) key=D4 m key:=by
 unfold D4
 rw [Ep ha hb]
 by_cases h:isK m key=true
 ·have hlt:Bx m key<m.length:=by simp only [isK,Acd,decide_eq_true_eq] at h;exact h.1
  rw [if_pos h,if_pos h,Acg,H6 ha,H5 hb]
  congr 2
  simp [Afy,Ads,Aed hlt]
 ·rw [if_neg h,if_neg h]
theorem Na{a m b:List KV}{key v:List UInt8} (ha:∀x∈a,Lt x.1 key) (hb:∀x∈b,Lt key x.1):Eg (a++m++b) key v=a++Eg m key v++b:=by
 unfold Eg
 rw [MP ha hb]
 simp only
 generalize (Cr m key).1=m
 have hle:=F1 m key
 rw [show a++m++b=a++(m++b) from Acg ..,H6 ha,H5 hb,List.take_append,Ahf,Aec (show a.length≤a.length+Bx m key by omega),Aex (show a.length≤a.length+Bx m key by omega),
   show a.length+Bx m key - a.length=Bx m key by omega,Afe (by omega),Ago (by omega)]
 simp
theorem Pk{key:List UInt8}:isK [] key=false:=rfl
theorem Yi{key v:List UInt8}:Eg [] key v=[(key,v)]:=rfl
theorem Hr{key w:List UInt8}:isK [(key,w)] key=true:=by
 simp [isK,Bx,EU]
theorem Sn{key w:List UInt8}:(Cr [(key,w)] key).1=[]:=by
 simp [Cr,Hr,Bx,EU]
theorem WZ{key v w:List UInt8}:Eg [(key,w)] key v=[(key,v)]:=by
 unfold Eg;rw [Sn];rfl
theorem QD{key w:List UInt8}:D4 [(key,w)] key=(w,true):=by
 simp [D4,Hr,Bx,EU]
theorem HP{l:List KV}{key:List UInt8}{x:KV} (h:x∈(Cr l key).1):x∈l:=by
 unfold Cr at h
 split at h
 ·rcases Acj.1 h with q|q
  ·exact Aha q
  ·exact Agf q
 ·exact h
theorem MM{l:List KV}{key v:List UInt8}{x:KV} (h:x∈Eg l key v):x=(key,v)∨x∈l:=by
 unfold Eg at h
 rcases Acj.1 h with q|q
 ·rcases Acj.1 q with q|q
  ·exact .inr (HP (Aha q))
  ·exact .inl (Acv.1 q)
 ·exact .inr (HP (Agf q))
theorem Rz{l:List KV}{key:List UInt8}:(Cr l key).1.length+(if isK l key=true then 1 else 0)=l.length:=by
 unfold Cr
 by_cases h:isK l key=true
 ·have hlt:Bx l key<l.length:=by simp only [isK,Acd,decide_eq_true_eq] at h;exact h.1
  rw [if_pos h,if_pos h];simp only [Acl,Acw,Acn];omega
 ·rw [if_neg h,if_neg h];rfl
theorem Q8{l:List KV}{key v:List UInt8}:(Eg l key v).length=l.length+(if isK l key=true then 0 else 1):=by
 have h1:=Rz (l:=l) (key:=key)
 have h2:=F1 (Cr l key).1 key
 unfold Eg
 simp only [Acl,Acw,Acn,Afs]
 by_cases h:isK l key=true
 ·rw [if_pos h] at h1⊢;omega
 ·rw [if_neg h] at h1⊢;omega
structure Mv (s t:PD) (A B:List Int) (c:Nat):Prop where
 lv:∀k,Bh t k↔(Bh s k∧k∉A)∨k∈B
 nw:∀k∈B,Bh s k→k∈A
 nd:B.Nodup
 st:∀k,Bh s k→k∉A→t.kind k=s.kind k∧t.bytes k=s.bytes k
 fr:s.free≤t.free+c
 gd:Pgr.Good t
theorem Mv.refl{s:PD} (h:Pgr.Good s):Mv s s [] [] 0:=⟨fun k=>by simp,fun k hk=>(by cases hk),Agq,fun _ _ _=>⟨rfl,rfl⟩,Ach _,h⟩
theorem Mv.trans{s t u:PD}{A B C:List Int}{c c':Nat} (h:Mv s t A B c) (k:Mv t u B C c'):Mv s u A C (c+c'):=by
 have hx:∀p,Bh s p→p∉A→p∉B:=fun p h1 h2 h3=>h2 (h.nw p h3 h1)
 refine⟨fun p=>?_,fun p hp hs=>?_,k.nd,fun p hs hA=>?_,by have:=h.fr;have:=k.fr;omega,k.gd⟩
 ·rw [k.lv,h.lv]
  constructor
  ·rintro(⟨h1|h1,h2⟩|h1)
   ·exact .inl h1
   ·exact absurd h1 h2
   ·exact .inr h1
  ·rintro(h1|h1)
   ·exact .inl ⟨.inl h1,hx p h1.1 h1.2⟩
   ·exact .inr h1
 ·by_cases q:p∈A
  ·exact q
  ·exact absurd (k.nw p hp ((h.lv p).2 (.inl ⟨hs,q⟩))) (hx p hs q)
 ·obtain⟨a1,a2⟩:=h.st p hs hA
  obtain⟨b1,b2⟩:=k.st p ((h.lv p).2 (.inl ⟨hs,hA⟩)) (hx p hs hA)
  exact⟨b1.trans a1,b2.trans a2⟩
theorem Mv.frame{s t:PD}{A B R:List Int}{c:Nat} (h:Mv s t A B c) (h1:∀k∈R,Bh s k) (h2:R.Nodup) (h3:∀k∈R,k∉A):Mv s t (A++R) (B++R) c:=by
 refine⟨fun p=>?_,fun p hp hs=>?_,?_,fun p hs hA=>h.st p hs (fun q=>hA (Adh _ q)),h.fr,h.gd⟩
 ·rw [h.lv]
  simp only [Acj]
  constructor
  ·rintro(⟨a,b⟩|a)
   ·by_cases q:p∈R
    ·exact .inr (.inr q)
    ·exact .inl ⟨a,fun e=>e.elim b q⟩
   ·exact .inr (.inl a)
  ·rintro(⟨a,b⟩|a|a)
   ·exact .inl ⟨a,fun q=>b (.inl q)⟩
   ·exact .inr a
   ·exact .inl ⟨h1 p a,h3 p a⟩
 ·rcases Acj.1 hp with q|q
  ·exact Adh _ (h.nw p q hs)
  ·exact Adk _ q
 ·refine Afi.2 ⟨h.nd,h2,fun a ha b hb e=>?_⟩
  subst e
  exact h3 a hb (h.nw a ha (h1 a hb))
theorem Mv.perm{s t:PD}{A B A' B':List Int}{c:Nat} (h:Mv s t A B c) (ha:A'.Perm A) (hb:B'.Perm B):Mv s t A' B' c:=
 ⟨fun p=>by rw [h.lv,ha.mem_iff,hb.mem_iff],fun p hp hs=>ha.mem_iff.2 (h.nw p (hb.mem_iff.1 hp) hs),hb.nodup_iff.2 h.nd,fun p hs hA=>h.st p hs (fun q=>hA (ha.mem_iff.2 q)),h.fr,h.gd⟩
theorem Mv.mono{s t:PD}{A B:List Int}{c c':Nat} (h:Mv s t A B c) (hc:c≤c'):Mv s t A B c':=⟨h.lv,h.nw,h.nd,h.st,by have:=h.fr;omega,h.gd⟩
theorem Mv.then{s t u:PD}{A B A' B' R:List Int}{c c':Nat} (h:Mv s t A B c) (k:Mv t u A' B' c') (hp:(B++R).Perm A') (h1:∀k∈R,Bh s k) (h2:R.Nodup) (h3:∀k∈R,k∉A):Mv s u (A++R) B' (c+c'):=
 (h.frame h1 h2 h3).trans (k.perm hp (Adp _))
theorem W9{s:PD}{i:Nat}{x:Int}{k:Int}{fb:Nat→Sec} (hi:i<s.kinds.length):({s with kinds:=s.kinds.set i x,fb:=fb}:PD).kind k=if k=((s.frm+i:Nat):Int) then x else s.kind k:=by
 unfold PD.kind
 simp only [Adf]
 by_cases e:k=((s.frm+i:Nat):Int)
 ·subst e
  rw [if_pos (by omega),if_pos rfl]
  show(s.kinds.set i x).getD _ 0=x
  rw [CZ hi,if_pos (by omega)]
 ·rw [if_neg e]
  by_cases q:(s.frm:Int)≤k∧k<(s.frm:Int)+s.kinds.length
  ·rw [if_pos q,if_pos q]
   show(s.kinds.set i x).getD _ 0=s.kinds.getD _ 0
   rw [CZ hi,if_neg (by omega)]
  ·rw [if_neg q,if_neg q]
theorem Iw{s:PD} (hG:Pgr.Good s) {k:Int} (hk:Bh s k):(s.drop k).2=0∧Mv s (s.drop k).1 [k] [] 0:=by
 obtain⟨x,hx,i,i1,rfl,i2,i3,he⟩:∃x:Int,(x=0∨x=3)∧∃i,i<s.kinds.length∧k=((s.frm+i:Nat):Int)∧(s.kd i=1∨s.kd i=2)∧(k - s.frm).toNat=i∧s.drop k=({s with kinds:=s.kinds.set i x},0):=by
  rcases hk with hk|hk
  ·obtain⟨i,i1,i2,i3,i4⟩:=CK hk (by omega)
   exact⟨0,.inl rfl,i,i1,i2,.inl i3,i4,by unfold PD.drop;rw [if_pos hk,i4]⟩
  ·obtain⟨i,i1,i2,i3,i4⟩:=CK hk (by omega)
   exact⟨3,.inr rfl,i,i1,i2,.inr i3,i4,by unfold PD.drop;rw [if_neg (by omega),if_pos hk,i4]⟩
 have hGd:=Iv hG ((s.frm+i:Nat):Int)
 rw [he] at hGd⊢
 have hkind:∀p,({s with kinds:=s.kinds.set i x}:PD).kind p=if p=((s.frm+i:Nat):Int) then x else s.kind p:=fun p=>W9 (fb:=s.fb) i1
 refine⟨rfl,fun p=>?_,fun p hp=>(by cases hp),Agq,fun p hs hp=>?_,?_,hGd⟩
 ·unfold Bh
  rw [hkind]
  by_cases e:p=((s.frm+i:Nat):Int)
  ·subst e;rw [if_pos rfl];rcases hx with rfl|rfl<;>simp
  ·rw [if_neg e]
   exact⟨fun h=>.inl ⟨h,fun q=>e (Acv.1 q)⟩,fun h=>h.elim And.left (fun q=>by cases q)⟩
 ·have e:p≠((s.frm+i:Nat):Int):=by simpa using hp
  have:=hkind p
  rw [if_neg e] at this
  refine⟨this,?_⟩
  unfold PD.bytes
  rw [this]
 ·have:=Ny (s:=s) (i:=i) (x:=x) i1
  rw [if_neg (by rw [←IT i1];omega)] at this
  show s.free≤(s.kinds.set i x).countP (·==0)+0
  omega
theorem Tk.mv{s t:PD}{l:List Int} (h:Tk s t l) (hG:Pgr.Good t):Mv s t [] l l.length:=by
 refine⟨fun p=>?_,fun p hp hs=>?_,h.nd,fun p hs _=>?_,by have:=h.free;omega,hG⟩
 ·unfold Bh
  rw [h.kind]
  by_cases q:p∈l
  ·simp [q]
  ·simp [q]
 ·refine absurd hp (h.not ?_)
  rcases hs with hs|hs<;>omega
 ·have:p∉l:=h.not (by rcases hs with hs|hs<;>omega)
  exact⟨by rw [h.kind,if_neg this],h.bytes this⟩
theorem Tw{s:PD} (hG:Pgr.Good s):(s.AT.2.2=0∧Mv s s.AT.1 [] [s.AT.2.1] 1∧s.AT.1.kind s.AT.2.1=1)∨(s.AT.2.2=190∧s.free=0):=by
 rcases (Tk.nil s).take with ⟨h1,h2⟩|⟨h1,_,h3⟩
 ·refine .inl ⟨h1,Tk.mv h2 (Fo hG),?_⟩
  rw [h2.kind,if_pos (by simp)]
 ·exact .inr ⟨h1,h3⟩
theorem Se{s:PD} (hG:Pgr.Good s) {k:Int}{b:Sec} (hk:s.kind k=1) (hb:b.length=256):(s.put k b).2=0∧Mv s (s.put k b).1 [k] [k] 0∧(s.put k b).1.bytes k=b∧(s.put k b).1.kind k=1:=by
 have hg:=HE hG k b
 have hkd:=fun p=>Rr (k':=p) hk hb
 have hby:=fun p=>KC (k':=p) hk hb
 refine⟨by unfold PD.put;rw [if_pos hk,if_pos hb],⟨fun p=>?_,fun p hp _=>hp,by simp,fun p hs hp=>⟨hkd p,?_⟩,?_,hg⟩,by rw [hby,if_pos rfl],by rw [hkd];exact hk⟩
 ·unfold Bh
  rw [hkd]
  by_cases e:p=k
  ·subst e;simp [hk]
  ·simp [e]
 ·rw [hby,if_neg (by simpa using hp)]
 ·rw [Ig hk hb];exact Ach _
structure At (s:PD) (k:Int) (n:AA):Prop where
 liv:Bh s k
 byt:s.bytes k=B3 n
 rgt:Bv n=true
theorem At.sound{s:PD}{k:Int}{n:AA} (h:At s k n):A3 n=true:=by have:=h.rgt;simp only [Bv,Acd] at this;exact this.1
theorem At.size{s:PD}{k:Int}{n:AA} (h:At s k n):A0 n≤256:=by have:=h.rgt;simp only [Bv,Acd,decide_eq_true_eq] at this;exact this.2
theorem At.read{s:PD}{k:Int}{n:AA} (h:At s k n):Bk s k=(n,0):=by
 unfold Bk NO Oh
 rw [if_pos h.liv,h.byt,WI h.rgt];rfl
theorem At.level{s:PD}{k:Int}{n:AA}{x:Int} (h:At s k n) (hl:n.leaf=decide (x=1)):AZ s k x=(n,0):=by
 unfold AZ
 rw [h.read]
 simp [hl]
theorem At.stay{s t:PD}{k:Int}{n:AA} (h:At s k n) (hs:t.kind k=s.kind k∧t.bytes k=s.bytes k):At t k n:=
 ⟨by unfold Bh;rw [hs.1];exact h.liv,by rw [hs.2];exact h.byt,h.rgt⟩
theorem ED{s:PD} (hG:Pgr.Good s) {k:Int} (h:Bh s k):0≤k∧k≤8191:=by
 have key:∀x:Int,0≤x→s.kind k=x→0≤k∧k≤8191:=fun x hx hk=>by
  obtain⟨i,i1,rfl, -⟩:=CK hk hx
  have:=hG.inn;have:=hG.syn
  omega
 rcases h with h|h
 ·exact key 1 (by omega) h
 ·exact key 2 (by omega) h
theorem OQ{s:PD} (hG:Pgr.Good s) {n:AA} (hr:Bv n=true):
  ((Bo s (-1) n).2.2=0∧Mv s (Bo s (-1) n).1 [] [(Bo s (-1) n).2.1] 1∧At (Bo s (-1) n).1 (Bo s (-1) n).2.1 n)∨((Bo s (-1) n).2.2=190∧s.free<1):=by
 have hg:=PM hG (k:= -1) (n:=n)
 unfold Bo at*
 rw [if_pos hr,if_neg (by omega)] at*
 rcases Tw hG with ⟨h1,h2,h3⟩|⟨h1,h2⟩
 ·rw [if_neg (by omega),if_neg (by omega)] at*
  obtain⟨p1,p2,p3,p4⟩:=Se h2.gd h3 (Ft hr)
  refine .inl ⟨p1,(h2.trans p2).mono (by omega),⟨.inl p4,p3,hr⟩⟩
 ·rw [if_pos (by omega)]
  exact .inr ⟨h1,by omega⟩
theorem VZ{s:PD} (hG:Pgr.Good s) {n:AA} (hr:Bv n=true) {k:Int} (hk:Bh s k):
  ((Bo s k n).2.2=0∧Mv s (Bo s k n).1 [k] [(Bo s k n).2.1] 1∧At (Bo s k n).1 (Bo s k n).2.1 n)∨((Bo s k n).2.2=190∧s.free<1):=by
 have h0:=(ED hG hk).1
 unfold Bo
 rw [if_pos hr]
 rcases hk with hk|hk
 ·obtain⟨p1,p2,p3,p4⟩:=Se hG hk (Ft hr)
  rw [if_pos ⟨h0,by rw [p1];decide⟩]
  exact .inl ⟨p1,p2.mono (by omega),⟨.inl p4,p3,hr⟩⟩
 ·rw [if_neg (by unfold PD.put;rw [if_neg (by omega)];simp)]
  rcases Tw hG with ⟨h1,h2,h3⟩|⟨h1,h2⟩
  ·rw [if_neg (by omega),if_pos h0]
   have hl:Bh s.AT.1 k:=(h2.lv k).2 (.inl ⟨.inr hk,by simp⟩)
   obtain⟨d1,d2⟩:=Iw h2.gd hl
   rw [if_neg (by omega)]
   have hne:s.AT.2.1≠k:=fun e=>by
    have:=h2.nw s.AT.2.1 (by simp) (by rw [e];exact .inr hk)
    cases this
   have hl2:Bh s.AT.1 s.AT.2.1:=.inl h3
   have hk2:(s.AT.1.drop k).1.kind s.AT.2.1=1:=by rw [(d2.st _ hl2 (by simpa using hne)).1];exact h3
   obtain⟨p1,p2,p3,p4⟩:=Se d2.gd hk2 (Ft hr)
   refine .inl ⟨p1,?_,⟨.inl p4,p3,hr⟩⟩
   have m1:=h2.frame (R:=[k]) (by simp;exact .inr hk) (by simp) (by simp)
   have m2:=d2.frame (R:=[s.AT.2.1]) (by simp;exact hl2) (by simp) (by simpa using hne)
   exact((m1.trans (m2.perm (by simpa using Adc _ _ _) (Adp _))).trans p2).mono (by omega)
  ·rw [if_pos (by omega)]
   exact .inr ⟨h1,by omega⟩
theorem ZQ{s:PD} (hG:Pgr.Good s) {n:AA} (hs:A3 n=true) (hh:256<A0 n→Oe n) {k:Int} (hk:Bh s k):
  ((A9 s k n).2.2=0∧((∃p,(A9 s k n).2.1=⟨p, -1,[],A0 n⟩∧Mv s (A9 s k n).1 [k] [p] 2∧At (A9 s k n).1 p n)∨
   (C6 n=true∧Oe n∧∃p q,(A9 s k n).2.1=⟨p,q,BA n,256⟩∧0≤q∧Mv s (A9 s k n).1 [k] [p,q] 2∧At (A9 s k n).1 p (AV n)∧At (A9 s k n).1 q (A6 n))))∨
  ((A9 s k n).2.2=190∧s.free<2):=by
 unfold A9
 by_cases hr:Bv n=true
 ·rw [if_pos hr]
  rcases VZ hG hr hk with ⟨h1,h2,h3⟩|⟨h1,h2⟩
  ·exact .inl ⟨h1,.inl ⟨_,rfl,h2.mono (by omega),h3⟩⟩
  ·exact .inr ⟨h1,by omega⟩
 ·have hz:256<A0 n:=by
   simp only [Bv,hs,Afl,decide_eq_true_eq] at hr;omega
  have hc:=WC hs hz
  have hH:=hh hz
  rw [if_neg hr,if_pos hc]
  dsimp only
  rcases VZ hG hH.r1 hk with ⟨h1,h2,h3⟩|⟨h1,h2⟩
  ·rw [if_pos h1]
   rcases OQ h2.gd hH.r2 with ⟨k1,k2,k3⟩|⟨k1,k2⟩
   ·refine .inl ⟨k1,.inr ⟨hc,hH,_,_,rfl,(ED k2.gd k3.liv).1,?_,?_,k3⟩⟩
    ·refine((h2.trans (k2.frame (R:=[(Bo s k (AV n)).2.1]) (by simp;exact h3.liv) (by simp) (by simp))).perm (Adp _) ?_).mono (by omega)
     exact Adc _ _ _
    ·exact h3.stay (k2.st _ h3.liv (by simp))
   ·exact .inr ⟨k1,by have:=h2.fr;omega⟩
  ·rw [if_neg (by omega)]
   exact .inr ⟨h1,by omega⟩
def Ce(s:PD) (c v:List UInt8) (P:List Int):Prop:=(v.length≤15∧c=0::v∧P=[])∨(15<v.length∧v.length≤16384∧FV s v P∧c=FZ (P.getD 0 0) v.length)
theorem I7{x:Int} (h0:0≤x):(bI x).toNat=(x % 256).toNat:=by
 unfold bI
 rw [UInt8.toNat_ofNat']
 omega
theorem Sk{h n:Int}:Fi (FZ h n)=true:=by simp [Fi,FZ]
theorem Pa{h n:Int}:inB (FZ h n)=false:=by simp [inB,FZ]
theorem RL{h n:Int} (h0:0≤h) (h1:h<65536):((Fs (FZ h n):Nat):Int)=h:=by
 unfold Fs FZ
 simp only [Aey,Aeu]
 rw [I7 (by omega),I7 h0]
 omega
theorem M8{h:Int}{n:Nat} (h1:n<4294967296):EK (FZ h n)=n:=by
 unfold EK FZ
 simp only [Aey,Aeu]
 rw [I7 (by omega),I7 (by omega),I7 (by omega),I7 (by omega)]
 omega
theorem Ce.len{s:PD}{c v:List UInt8}{P:List Int} (h:Ce s c v P):c.length≤16:=by
 rcases h with ⟨h1,rfl, -⟩|⟨-, -, -,rfl⟩
 ·simp;omega
 ·simp [FZ]
theorem Ce.live{s:PD}{c v:List UInt8}{P:List Int} (h:Ce s c v P):∀k∈P,Bh s k:=by
 rcases h with ⟨-, -,rfl⟩|⟨-, -,h, -⟩
 ·exact fun k hk=>by cases hk
 ·intro k hk
  obtain⟨j,hj,rfl⟩:=Aeh hk
  exact h.live j hj
theorem Ce.stay{s t:PD}{c v:List UInt8}{P:List Int} (h:Ce s c v P) (hs:∀k∈P,t.kind k=s.kind k∧t.bytes k=s.bytes k):Ce t c v P:=by
 rcases h with h|⟨h1,h2,h3,h4⟩
 ·exact .inl h
 ·exact .inr ⟨h1,h2,h3.stay hs,h4⟩
theorem Oo{s:PD}{v:List UInt8}{P:List Int} (h:FV s v P):0≤P.getD 0 0∧P.getD 0 0<65535:=by
 have h0:0<P.length:=by rw [h.len];exact PG
 rw [Hx h0]
 exact h.rng _ (Ada h0)
theorem Ce.val{s:PD}{c v:List UInt8}{P:List Int} (h:Ce s c v P):DE s c=(v,0):=by
 unfold DE
 rcases h with ⟨h1,rfl, -⟩|⟨h1,h2,h3,rfl⟩
 ·rw [if_pos (by simp [inB])];rfl
 ·obtain⟨q1,q2⟩:=Oo h3
  rw [if_neg (by rw [Pa];decide),if_pos Sk,M8 (by omega),RL q1 (by omega),Mp h3 h2]
theorem Ce.F3{s:PD}{c v:List UInt8}{P:List Int} (h:Ce s c v P):F3 c=if 15<v.length then AN v.length else 0:=by
 unfold Tre.F3
 rcases h with ⟨h1,rfl, -⟩|⟨h1,h2,h3,rfl⟩
 ·rw [if_pos (by simp [inB]),if_neg (by omega)]
 ·rw [if_neg (by rw [Pa];decide),if_pos h1,M8 (by omega)]
theorem NF:∀{l:List Int}{s:PD},Pgr.Good s→(∀k∈l,Bh s k)→l.Nodup→(Ds s l).2=0∧Mv s (Ds s l).1 l [] 0
 |[],s,hG,_,_=>⟨rfl,Mv.refl hG⟩
 |k::l,s,hG,hl,hn=>by
  obtain⟨n1,n2⟩:=Afr.1 hn
  obtain⟨d1,d2⟩:=Iw hG (hl k (Acu ..))
  have hne:∀p∈l,p∉ [k]:=fun p hp q=>n1 (Acv.1 q▸hp)
  obtain⟨k1,k2⟩:=NF (l:=l) d2.gd (fun p hp=>(d2.lv p).2 (.inl ⟨hl p (Acy _ hp),hne p hp⟩)) n2
  rw [Ds,if_pos d1]
  refine⟨k1,?_⟩
  have:=d2.then (R:=l) k2 (Adp _) (fun p hp=>hl p (Acy _ hp)) n2 hne
  exact this
theorem Ce.Aaz{s:PD} (hG:Pgr.Good s) {c v:List UInt8}{P:List Int} (h:Ce s c v P) (hn:P.Nodup):(BN s c).2=0∧Mv s (BN s c).1 P [] 0:=by
 have hl:=h.live
 unfold BN
 rcases h with ⟨h1,rfl,rfl⟩|⟨h1,h2,h3,rfl⟩
 ·rw [if_pos (by simp [inB])]
  exact⟨rfl,Mv.refl hG⟩
 ·obtain⟨q1,q2⟩:=Oo h3
  rw [if_neg (by rw [Pa];decide),if_pos Sk,M8 (by omega),RL q1 (by omega)]
  unfold DK
  rw [Mp h3 h2,if_pos rfl]
  exact NF hG hl hn
theorem Jp:∀(n:Nat) {s:PD} (l:List Int),Pgr.Good s→Pgr.Good (BR s l n).1
 |0,s,l,h=>h
 |n+1,s,l,h=>by
  rw [BR]
  split
  ·exact Jp n _ (Fo h)
  ·exact Fo h
theorem Ov:∀(l:List Int) {s:PD},Pgr.Good s→Pgr.Good (Dj s l)
 |[],s,h=>h
 |k::l,s,h=>Ov l (Iv h k)
theorem PJ{s:PD} (h:Pgr.Good s) {l:List Int}{b:List UInt8}:∀i,Pgr.Good (Chn.Dn s l b i)
 |0=>h
 |i+1=>HE (PJ h i) _ _
theorem Ve{s:PD} (h:Pgr.Good s) {b:List UInt8}:Pgr.Good (BY s b).1:=by
 have ht:Pgr.Good (Chn.By s (AN b.length)).1:=by
  unfold Chn.By
  split
  ·exact Jp _ _ h
  ·exact Ov _ (Jp _ _ h)
 unfold BY
 dsimp only
 split
 ·exact PJ ht _
 ·exact ht
theorem Zz{s:PD} (hG:Pgr.Good s) {v:List UInt8} (hv:v.length≤16384):
  ((BT s v).2.2=0∧∃P,Mv s (BT s v).1 [] P (AN v.length)∧Ce (BT s v).1 (BT s v).2.1 v P)∨((BT s v).2.2=190∧s.free<AN v.length):=by
 have hg:Pgr.Good (BT s v).1:=by
  unfold BT
  split
  ·exact hG
  ·exact Ve hG
 unfold BT at*
 by_cases h:v.length≤15
 ·rw [if_pos h] at*
  exact .inl ⟨rfl,[],(Mv.refl hG).mono (Adg _),.inl ⟨h,rfl,rfl⟩⟩
 ·rw [if_neg h] at*
  by_cases hr:AN v.length≤s.free
  ·obtain⟨t,l,e,h1,h2,h3,h4,h5,h6⟩:=WK hG hr
   rw [e] at hg⊢
   refine .inl ⟨rfl,l,⟨fun p=>?_,fun p hp hs=>?_,h6,fun p hs _=>?_,(by show s.free≤t.free+_;omega),hg⟩,.inr ⟨by omega,hv,h1,rfl⟩⟩
   ·by_cases q:p∈l
    ·have:=(h2 p q).1;simp [Bh,q,this]
    ·have:=(h5 p q).1;simp [Bh,q,this]
   ·have:=(h2 p hp).2
    rcases hs with hs|hs<;>omega
   ·refine h5 p (fun hp=>?_)
    have:=(h2 p hp).2
    rcases hs with hs|hs<;>omega
  ·obtain⟨t,e, -⟩:=Wa (b:=v) (show s.free<AN v.length by omega)
   rw [e]
   exact .inr ⟨rfl,by omega⟩
def Lf(s:PD):List (List UInt8)→List (List UInt8)→List KV→List Int→Prop
 |[],[],l,P=>l=[]∧P=[]
 |k::ks,c::cs,l,P=>∃v l' P1 P2,l=(k,v)::l'∧P=P1++P2∧Ce s c v P1∧Lf s ks cs l' P2
 |_,_,_,_=>False
theorem Lf.len{s:PD}:∀{ks vs:List (List UInt8)}{l:List KV}{P:List Int},Lf s ks vs l P→vs.length=ks.length∧l.length=ks.length
 |[],[],l,P,h=>by rw [Lf] at h;rw [h.1];exact⟨rfl,rfl⟩
 |[],_::_,l,P,h=>by rw [Lf] at h<;>simp_all
 |_::_,[],l,P,h=>by rw [Lf] at h<;>simp_all
 |k::ks,c::cs,l,P,h=>by
  rw [Lf] at h
  obtain⟨v,l',P1,P2,rfl,rfl,h1,h2⟩:=h
  obtain⟨a,b⟩:=h2.len
  simp [a,b]
theorem Lf.keys{s:PD}:∀{ks vs:List (List UInt8)}{l:List KV}{P:List Int},Lf s ks vs l P→ks=l.map Prod.fst
 |[],[],l,P,h=>by rw [Lf] at h;rw [h.1];rfl
 |[],_::_,l,P,h=>by rw [Lf] at h<;>simp_all
 |_::_,[],l,P,h=>by rw [Lf] at h<;>simp_all
 |k::ks,c::cs,l,P,h=>by
  rw [Lf] at h
  obtain⟨v,l',P1,P2,rfl,rfl,h1,h2⟩:=h
  rw [Afj,←h2.keys]
theorem Lf.join{s:PD}:∀{ks vs ks' vs':List (List UInt8)}{l l':List KV}{P P':List Int},Lf s ks vs l P→Lf s ks' vs' l' P'→Lf s (ks++ks') (vs++vs') (l++l') (P++P')
 |[],[],ks',vs',l,l',P,P',h,h'=>by rw [Lf] at h;obtain⟨rfl,rfl⟩:=h;exact h'
 |[],_::_,ks',vs',l,l',P,P',h,h'=>by rw [Lf] at h<;>simp_all
 |_::_,[],ks',vs',l,l',P,P',h,h'=>by rw [Lf] at h<;>simp_all
 |k::ks,c::cs,ks',vs',l,l',P,P',h,h'=>by
  rw [Lf] at h
  obtain⟨v,l1,P1,P2,rfl,rfl,h1,h2⟩:=h
  rw [Aei,Aei,Lf]
  exact⟨v,l1++l',P1,P2++P',rfl,by rw [Acg],h1,h2.join h'⟩
theorem Lf.split{s:PD}:∀{ks vs ks' vs':List (List UInt8)}{l:List KV}{P:List Int},Lf s (ks++ks') (vs++vs') l P→vs.length=ks.length→∃l1 l2 P1 P2,l=l1++l2∧P=P1++P2∧Lf s ks vs l1 P1∧Lf s ks' vs' l2 P2
 |[],[],ks',vs',l,P,h,_=>⟨[],l,[],P,rfl,rfl,⟨rfl,rfl⟩,h⟩
 |[],_::_,ks',vs',l,P,h,e=>by cases e
 |_::_,[],ks',vs',l,P,h,e=>by cases e
 |k::ks,c::cs,ks',vs',l,P,h,e=>by
  rw [Aei,Aei,Lf] at h
  obtain⟨v,l',P1,P2,rfl,rfl,h1,h2⟩:=h
  obtain⟨l1,l2,Q1,Q2,rfl,rfl,k1,k2⟩:=h2.split (by simpa using e)
  exact⟨(k,v)::l1,l2,P1++Q1,Q2,rfl,by rw [Acg],⟨v,l1,P1,Q1,rfl,rfl,h1,k1⟩,k2⟩
theorem Lf.stay{s t:PD}:∀{ks vs:List (List UInt8)}{l:List KV}{P:List Int},Lf s ks vs l P→(∀k∈P,t.kind k=s.kind k∧t.bytes k=s.bytes k)→Lf t ks vs l P
 |[],[],l,P,h,_=>by rw [Lf] at h⊢;exact h
 |[],_::_,l,P,h,_=>by rw [Lf] at h<;>simp_all
 |_::_,[],l,P,h,_=>by rw [Lf] at h<;>simp_all
 |k::ks,c::cs,l,P,h,hs=>by
  rw [Lf] at h⊢
  obtain⟨v,l',P1,P2,rfl,rfl,h1,h2⟩:=h
  exact⟨v,l',P1,P2,rfl,rfl,h1.stay (fun k hk=>hs k (Adh _ hk)),h2.stay (fun k hk=>hs k (Adk _ hk))⟩
theorem Lf.live{s:PD}:∀{ks vs:List (List UInt8)}{l:List KV}{P:List Int},Lf s ks vs l P→∀k∈P,Bh s k
 |[],[],l,P,h=>by rw [Lf] at h;rw [h.2];exact fun k hk=>by cases hk
 |[],_::_,l,P,h=>by rw [Lf] at h<;>simp_all
 |_::_,[],l,P,h=>by rw [Lf] at h<;>simp_all
 |k::ks,c::cs,l,P,h=>by
  rw [Lf] at h
  obtain⟨v,l',P1,P2,rfl,rfl,h1,h2⟩:=h
  intro k hk
  rcases Acj.1 hk with q|q
  ·exact h1.live k q
  ·exact h2.live k q
theorem Lf.one{s:PD}{k c v:List UInt8}{P:List Int} (h:Ce s c v P):Lf s [k] [c] [(k,v)] P:=⟨v,[],P,[],rfl,by simp,h,⟨rfl,rfl⟩⟩
theorem Lf.Aay{s:PD}{k c:List UInt8}{l:List KV}{P:List Int} (h:Lf s [k] [c] l P):∃v,l=[(k,v)]∧Ce s c v P:=by
 rw [Lf] at h
 obtain⟨v,l',P1,P2,rfl,rfl,h1,h2⟩:=h
 rw [Lf] at h2
 obtain⟨rfl,rfl⟩:=h2
 exact⟨v,rfl,by simpa using h1⟩
abbrev RT:=Int→List KV→List Int→Prop
def Kd(R:RT):List (List UInt8)→List Int→List KV→List Int→Prop
 |[],[c],l,P=>R c l P
 |k::ks,c::cs,l,P=>∃l1 l2 P1 P2,l=l1++l2∧P=P1++P2∧R c l1 P1∧(∀x∈l1,Lt x.1 k)∧(∀x∈l2,¬Lt x.1 k)∧Kd R ks cs l2 P2
 |_,_,_,_=>False
theorem Kd.one{R:RT}{c:Int}{l:List KV}{P:List Int}:Kd R [] [c] l P↔R c l P:=Iff.rfl
theorem Kd.cons{R:RT}{k:List UInt8}{ks:List (List UInt8)}{c:Int}{cs:List Int}{l:List KV}{P:List Int}:
  Kd R (k::ks) (c::cs) l P↔∃l1 l2 P1 P2,l=l1++l2∧P=P1++P2∧R c l1 P1∧(∀x∈l1,Lt x.1 k)∧(∀x∈l2,¬Lt x.1 k)∧Kd R ks cs l2 P2:=Iff.rfl
theorem Kd.len{R:RT}:∀{ks:List (List UInt8)}{cs:List Int}{l:List KV}{P:List Int},Kd R ks cs l P→cs.length=ks.length+1
 |[],[c],l,P,_=>rfl
 |[],[],l,P,h=>h.elim
 |[],_::_::_,l,P,h=>h.elim
 |_::_,[],l,P,h=>h.elim
 |k::ks,c::cs,l,P,h=>by
  obtain⟨l1,l2,P1,P2,rfl,rfl,h1,h2,h3,h4⟩:=Kd.cons.1 h
  simp [h4.len]
theorem Kd.mono{R R':RT}:∀{ks:List (List UInt8)}{cs:List Int}{l:List KV}{P:List Int},Kd R ks cs l P→(∀c l Q,(∀k∈Q,k∈P)→R c l Q→R' c l Q)→Kd R' ks cs l P
 |[],[c],l,P,h,hR=>hR c l P (fun _ h=>h) h
 |[],[],l,P,h,_=>h.elim
 |[],_::_::_,l,P,h,_=>h.elim
 |_::_,[],l,P,h,_=>h.elim
 |k::ks,c::cs,l,P,h,hR=>by
  obtain⟨l1,l2,P1,P2,rfl,rfl,h1,h2,h3,h4⟩:=Kd.cons.1 h
  exact Kd.cons.2 ⟨l1,l2,P1,P2,rfl,rfl,hR _ _ _ (fun k hk=>Adh _ hk) h1,h2,h3,h4.mono (fun c l Q hQ=>hR c l Q (fun k hk=>Adk _ (hQ k hk)))⟩
theorem Kd.split{R:RT}:∀{ks ks':List (List UInt8)}{k:List UInt8}{cs cs':List Int}{l:List KV}{P:List Int},Kd R (ks++k::ks') (cs++cs') l P→cs.length=ks.length+1→(∀x∈ks,Lt x k)→
  ∃l1 l2 P1 P2,l=l1++l2∧P=P1++P2∧Kd R ks cs l1 P1∧Kd R ks' cs' l2 P2∧(∀x∈l1,Lt x.1 k)∧∀x∈l2,¬Lt x.1 k
 |_,_,_,[],_,_,_,_,e,_=>by cases e
 |[],ks',k,[c],cs',l,P,h,_,_=>by
  obtain⟨l1,l2,P1,P2,rfl,rfl,h1,h2,h3,h4⟩:=Kd.cons.1 h
  exact⟨l1,l2,P1,P2,rfl,rfl,h1,h4,h2,h3⟩
 |[],_,_,_::_::_,_,_,_,_,e,_=>by simp at e
 |k0::ks,ks',k,c::cs,cs',l,P,h,e,hk=>by
  obtain⟨l1,l2,P1,P2,rfl,rfl,h1,h2,h3,h4⟩:=Kd.cons.1 h
  obtain⟨m1,m2,Q1,Q2,rfl,rfl,g1,g2,g3,g4⟩:=Kd.split h4 (by simpa using e) (fun x hx=>hk x (Acy _ hx))
  refine⟨l1++m1,m2,P1++Q1,Q2,by rw [Acg],by rw [Acg],Kd.cons.2 ⟨l1,m1,P1,Q1,rfl,rfl,h1,h2,fun x hx=>h3 x (Adh _ hx),g1⟩,g2,fun x hx=>?_,g4⟩
  rcases Acj.1 hx with q|q
  ·exact FT (h2 x q) (hk k0 (Acu ..))
  ·exact g3 x q
theorem Kd.join{R:RT}:∀{ks ks':List (List UInt8)}{k:List UInt8}{cs cs':List Int}{l l':List KV}{P P':List Int},Kd R ks cs l P→Kd R ks' cs' l' P'→(∀x∈ks,Lt x k)→(∀x∈l,Lt x.1 k)→(∀x∈l',¬Lt x.1 k)→
  Kd R (ks++k::ks') (cs++cs') (l++l') (P++P')
 |[],ks',k,[c],cs',l,l',P,P',h,h',_,h1,h2=>Kd.cons.2 ⟨l,l',P,P',rfl,rfl,h,h1,h2,h'⟩
 |[],_,_,[],_,_,_,_,_,h,_,_,_,_=>h.elim
 |[],_,_,_::_::_,_,_,_,_,_,h,_,_,_,_=>h.elim
 |_::_,_,_,[],_,_,_,_,_,h,_,_,_,_=>h.elim
 |k0::ks,ks',k,c::cs,cs',l,l',P,P',h,h',hk,h1,h2=>by
  obtain⟨l1,l2,P1,P2,rfl,rfl,g1,g2,g3,g4⟩:=Kd.cons.1 h
  refine Kd.cons.2 ⟨l1,l2++l',P1,P2++P',by rw [Acg],by rw [Acg],g1,g2,fun x hx=>?_,Kd.join g4 h' (fun x hx=>hk x (Acy _ hx)) (fun x hx=>h1 x (Adk _ hx)) h2⟩
  rcases Acj.1 hx with q|q
  ·exact g3 x q
  ·exact fun e=>h2 x q (FT e (hk k0 (Acu ..)))
theorem Kd.btw{R:RT} (hR:∀c l P,R c l P→l≠[]):∀{ks:List (List UInt8)}{cs:List Int}{l:List KV}{P:List Int},Kd R ks cs l P→l≠[]∧∀k∈ks,(∃x∈l,Lt x.1 k)∧∃x∈l,¬Lt x.1 k
 |[],[c],l,P,h=>⟨hR c l P h,fun k hk=>by cases hk⟩
 |[],[],l,P,h=>h.elim
 |[],_::_::_,l,P,h=>h.elim
 |_::_,[],l,P,h=>h.elim
 |k0::ks,c::cs,l,P,h=>by
  obtain⟨l1,l2,P1,P2,rfl,rfl,g1,g2,g3,g4⟩:=Kd.cons.1 h
  obtain⟨i1,i2⟩:=Kd.btw hR g4
  obtain⟨x1,r1,e1⟩:=Afa (hR _ _ _ g1)
  obtain⟨x2,r2,e2⟩:=Afa i1
  refine⟨by simp [e1],fun k hk=>?_⟩
  rcases Adb.1 hk with rfl|hk
  ·exact⟨⟨x1,by simp [e1],g2 x1 (by simp [e1])⟩,x2,by simp [e2],g3 x2 (by simp [e2])⟩
  ·obtain⟨⟨y,y1,y2⟩,z,z1,z2⟩:=i2 k hk
   exact⟨⟨y,Adk _ y1,y2⟩,z,Adk _ z1,z2⟩
def KL(R:RT) (ks:List (List UInt8)) (cs:List Int) (l:List KV) (P:List Int):Prop:=(ks=[]∧cs=[]∧l=[]∧P=[])∨∃ks' k,ks=ks'++[k]∧Kd R ks' cs l P∧(∀x∈l,Lt x.1 k)
def KR(R:RT) (ks:List (List UInt8)) (cs:List Int) (l:List KV) (P:List Int):Prop:=(ks=[]∧cs=[]∧l=[]∧P=[])∨∃k ks',ks=k::ks'∧Kd R ks' cs l P∧(∀x∈l,¬Lt x.1 k)
theorem KL.mono{R R':RT}{ks:List (List UInt8)}{cs:List Int}{l:List KV}{P:List Int} (h:KL R ks cs l P) (hR:∀c l Q,(∀k∈Q,k∈P)→R c l Q→R' c l Q):KL R' ks cs l P:=by
 rcases h with h|⟨ks',k,e,h1,h2⟩
 ·exact .inl h
 ·exact .inr ⟨ks',k,e,h1.mono hR,h2⟩
theorem KR.mono{R R':RT}{ks:List (List UInt8)}{cs:List Int}{l:List KV}{P:List Int} (h:KR R ks cs l P) (hR:∀c l Q,(∀k∈Q,k∈P)→R c l Q→R' c l Q):KR R' ks cs l P:=by
 rcases h with h|⟨ks',k,e,h1,h2⟩
 ·exact .inl h
 ·exact .inr ⟨ks',k,e,h1.mono hR,h2⟩
theorem KL.below{R:RT}{ks:List (List UInt8)}{cs:List Int}{l:List KV}{P:List Int} (h:KL R ks cs l P):∀x∈l,∃k∈ks,Lt x.1 k:=by
 rcases h with ⟨_,_,rfl,_⟩|⟨ks',k,rfl,h1,h2⟩
 ·exact fun x hx=>by cases hx
 ·exact fun x hx=>⟨k,by simp,h2 x hx⟩
theorem KR.Qt{R:RT}{ks:List (List UInt8)}{cs:List Int}{l:List KV}{P:List Int} (h:KR R ks cs l P):∀x∈l,∃k∈ks,¬Lt x.1 k:=by
 rcases h with ⟨_,_,rfl,_⟩|⟨k,ks',rfl,h1,h2⟩
 ·exact fun x hx=>by cases hx
 ·exact fun x hx=>⟨k,by simp,h2 x hx⟩
theorem Kd.focus{R:RT}{ka km kb:List (List UInt8)}{ca cm cb:List Int}{l:List KV}{P:List Int} (h:Kd R (ka++km++kb) (ca++cm++cb) l P) (hk:KO (ka++km++kb)) (e1:ca.length=ka.length) (e2:cm.length=km.length+1):
  ∃l1 m l2 P1 Pm P2,l=l1++m++l2∧P=P1++Pm++P2∧KL R ka ca l1 P1∧Kd R km cm m Pm∧KR R kb cb l2 P2∧(∀k∈ka,∀x∈m,¬Lt x.1 k)∧∀k∈kb,∀x∈m,Lt x.1 k:=by
 have hlen:=h.len
 simp only [Acl] at hlen
 obtain⟨hk1,hk2,hk3⟩:=KO.app.1 hk
 obtain⟨hk4,hk5,hk6⟩:=KO.app.1 hk1
 have right:∀{cm:List Int}{km:List (List UInt8)}{l:List KV}{P:List Int},Kd R (km++kb) (cm++cb) l P→cm.length=km.length+1→KO (km++kb)→∃m l2 Pm P2,l=m++l2∧P=Pm++P2∧Kd R km cm m Pm∧KR R kb cb l2 P2∧∀k∈kb,∀x∈m,Lt x.1 k:=by
  intro cm km l P h e2 hk
  cases kb with
  |nil=>
   have hl:=h.len
   simp only [Adr,Acl] at hl h
   have:cb=[]:=Acm (by omega)
   subst this
   rw [Adr] at h
   exact⟨l,[],P,[],by simp,by simp,h,.inl ⟨rfl,rfl,rfl,rfl⟩,fun k hk=>by cases hk⟩
  |cons k kb=>
   obtain⟨q1,q2,q3⟩:=KO.app.1 hk
   obtain⟨l1,l2,P1,P2,rfl,rfl,g1,g2,g3,g4⟩:=h.split e2 (fun x hx=>q3 x hx k (Acu ..))
   refine⟨l1,l2,P1,P2,rfl,rfl,g1,.inr ⟨k,kb,rfl,g2,g4⟩,fun k' hk' x hx=>?_⟩
   rcases Adb.1 hk' with rfl|hk'
   ·exact g3 x hx
   ·exact FT (g3 x hx) ((KO.cons.1 q2).2.2 k' hk')
 rcases List.eq_nil_or_concat ka with rfl|⟨ka',k,rfl⟩
 ·have:ca=[]:=Acm e1
  subst this
  simp only [Aea] at h hk
  obtain⟨m,l2,Pm,P2,rfl,rfl,g1,g2,g3⟩:=right h e2 hk
  exact⟨[],m,l2,[],Pm,P2,by simp,by simp,.inl ⟨rfl,rfl,rfl,rfl⟩,g1,g2,fun k hk=>(by cases hk),g3⟩
 ·have h:Kd R (ka'++k::(km++kb)) (ca++(cm++cb)) l P:=by simpa using h
  have hk:KO (ka'++k::(km++kb)):=by simpa using hk
  obtain⟨q1,q2,q3⟩:=KO.app.1 hk
  obtain⟨l1,l2,P1,P2,rfl,rfl,g1,g2,g3,g4⟩:=h.split (by simpa using e1) (fun x hx=>q3 x hx k (Acu ..))
  obtain⟨m,l2,Pm,P2,rfl,rfl,f1,f2,f3⟩:=right g2 e2 (KO.cons.1 q2).2.1
  refine⟨l1,m,l2,P1,Pm,P2,by simp,by simp,.inr ⟨ka',k,by simp,g1,g3⟩,f1,f2,fun k' hk' x hx=>?_,f3⟩
  have hx':=g4 x (Adh _ hx)
  rcases Acj.1 (show k'∈ka'++[k] by simpa using hk') with q|q
  ·exact fun e=>hx' (FT e (q3 k' q k (Acu ..)))
  ·rw [Acv.1 q];exact hx'
theorem Kd.I2{R:RT}{ka km kb:List (List UInt8)}{ca cm cb:List Int}{l1 m l2:List KV}{P1 Pm P2:List Int} (h1:KL R ka ca l1 P1) (h2:Kd R km cm m Pm) (h3:KR R kb cb l2 P2) (hk:KO (ka++km++kb))
  (ha:∀k∈ka,∀x∈m,¬Lt x.1 k) (hb:∀k∈kb,∀x∈m,Lt x.1 k):Kd R (ka++km++kb) (ca++cm++cb) (l1++m++l2) (P1++Pm++P2):=by
 obtain⟨hk1,hk2,hk3⟩:=KO.app.1 hk
 obtain⟨hk4,hk5,hk6⟩:=KO.app.1 hk1
 have right:Kd R (km++kb) (cm++cb) (m++l2) (Pm++P2):=by
  rcases h3 with ⟨rfl,rfl,rfl,rfl⟩|⟨k,ks',rfl,g1,g2⟩
  ·simpa using h2
  ·exact h2.join g1 (fun x hx=>hk3 x (Adk _ hx) k (Acu ..)) (fun x hx=>hb k (Acu ..) x hx) g2
 rcases h1 with ⟨rfl,rfl,rfl,rfl⟩|⟨ks',k,rfl,g1,g2⟩
 ·simpa using right
 ·have hl2:∀x∈l2,¬Lt x.1 k:=fun x hx=>by
   obtain⟨k',q1,q2⟩:=h3.Qt x hx
   exact fun e=>q2 (FT e (hk3 k (by simp) k' q1))
  have:=g1.join right (k:=k) (fun x hx=>(KO.app.1 hk4).2.2 x hx k (by simp)) g2 (fun x hx=>(Acj.1 hx).elim (ha k (by simp) x) (hl2 x))
  simpa using this
def Nd(s:PD) (R:RT) (lf:Bool) (n:AA) (l:List KV) (Q:List Int):Prop:=n.leaf=lf∧if lf=true then Lf s n.keys n.vals l Q else Kd R n.keys n.kids l Q
def Tr(s:PD):Nat→RT
 |0,_,_,_=>False
 |h+1,k,l,P=>∃n Q,At s k n∧n.keys≠[]∧P=k::Q∧Nd s (Tr s h) (decide (h=0)) n l Q
theorem Nd.leaf{s:PD}{R:RT}{n:AA}{l:List KV}{Q:List Int} (h:Nd s R true n l Q):n.leaf=true∧Lf s n.keys n.vals l Q:=by
 obtain⟨h1,h2⟩:=h;rw [if_pos rfl] at h2;exact⟨h1,h2⟩
theorem Nd.inner{s:PD}{R:RT}{n:AA}{l:List KV}{Q:List Int} (h:Nd s R false n l Q):n.leaf=false∧Kd R n.keys n.kids l Q:=by
 obtain⟨h1,h2⟩:=h;rw [if_neg (by decide)] at h2;exact⟨h1,h2⟩
theorem Nd.mkl{s:PD}{R:RT}{n:AA}{l:List KV}{Q:List Int} (h1:n.leaf=true) (h2:Lf s n.keys n.vals l Q):Nd s R true n l Q:=⟨h1,by rw [if_pos rfl];exact h2⟩
theorem Nd.mki{s:PD}{R:RT}{n:AA}{l:List KV}{Q:List Int} (h1:n.leaf=false) (h2:Kd R n.keys n.kids l Q):Nd s R false n l Q:=⟨h1,by rw [if_neg (by decide)];exact h2⟩
theorem Kd.all{R:RT}{S:Int→Prop} (hR:∀c l P,R c l P→∀p∈P,S p):∀{ks:List (List UInt8)}{cs:List Int}{l:List KV}{P:List Int},Kd R ks cs l P→∀p∈P,S p
 |[],[c],l,P,h=>hR c l P h
 |[],[],l,P,h=>h.elim
 |[],_::_::_,l,P,h=>h.elim
 |_::_,[],l,P,h=>h.elim
 |k::ks,c::cs,l,P,h=>by
  obtain⟨l1,l2,P1,P2,rfl,rfl,h1,h2,h3,h4⟩:=Kd.cons.1 h
  intro p hp
  exact(Acj.1 hp).elim (hR _ _ _ h1 p) (Kd.all hR h4 p)
theorem Tr.live{s:PD}:∀{h:Nat}{k:Int}{l:List KV}{P:List Int},Tr s h k l P→∀p∈P,Bh s p
 |0,k,l,P,h=>h.elim
 |h+1,k,l,P,⟨n,Q,h1,h2,e,h3⟩=>by
  subst e
  intro p hp
  rcases Adb.1 hp with rfl|hp
  ·exact h1.liv
  ·by_cases e:h=0
   ·rw [decide_eq_true e] at h3;exact h3.leaf.2.live p hp
   ·rw [decide_eq_false e] at h3;exact Kd.all (fun c l P q=>Tr.live q) h3.inner.2 p hp
theorem Nd.live{s:PD}{h:Nat}{lf:Bool}{n:AA}{l:List KV}{Q:List Int} (h3:Nd s (Tr s h) lf n l Q):∀p∈Q,Bh s p:=by
 cases lf with
 |true=>exact h3.leaf.2.live
 |false=>exact Kd.all (fun c l P q=>Tr.live q) h3.inner.2
theorem Tr.ne{s:PD}:∀{h:Nat}{k:Int}{l:List KV}{P:List Int},Tr s h k l P→l≠[]
 |0,k,l,P,h=>h.elim
 |h+1,k,l,P,⟨n,Q,h1,h2,e,h3⟩=>by
  by_cases e:h=0
  ·rw [decide_eq_true e] at h3
   have:=h3.leaf.2.len.2
   intro q
   rw [q] at this
   exact h2 (Acm this.symm)
  ·rw [decide_eq_false e] at h3
   exact(Kd.btw (fun c l P q=>Tr.ne q) h3.inner.2).1
def Fk(s t:PD) (P:List Int):Prop:=∀p∈P,t.kind p=s.kind p∧t.bytes p=s.bytes p
theorem Nd.mono{s t:PD}{R R':RT}{lf:Bool}{n:AA}{l:List KV}{Q:List Int} (h:Nd s R lf n l Q) (hs:Fk s t Q) (hR:∀c l P,(∀p∈P,p∈Q)→R c l P→R' c l P):Nd t R' lf n l Q:=by
 cases lf with
 |true=>exact .mkl h.leaf.1 (h.leaf.2.stay hs)
 |false=>exact .mki h.inner.1 (h.inner.2.mono hR)
theorem Tr.stay{s t:PD}:∀{h:Nat}{k:Int}{l:List KV}{P:List Int},Tr s h k l P→Fk s t P→Tr t h k l P
 |0,k,l,P,h,_=>h.elim
 |h+1,k,l,P,⟨n,Q,h1,h2,e,h3⟩,hs=>by
  subst e
  exact⟨n,Q,h1.stay (hs k (Acu ..)),h2,rfl,h3.mono (fun p hp=>hs p (Acy _ hp)) (fun c l P hP q=>q.stay (fun p hp=>hs p (Acy _ (hP p hp))))⟩
theorem Nd.stay{s t:PD}{h:Nat}{lf:Bool}{n:AA}{l:List KV}{Q:List Int} (h3:Nd s (Tr s h) lf n l Q) (hs:Fk s t Q):Nd t (Tr t h) lf n l Q:=
 h3.mono hs (fun c l P hP q=>q.stay (fun p hp=>hs p (hP p hp)))
theorem KL.stay{s t:PD}{h:Nat}{ks:List (List UInt8)}{cs:List Int}{l:List KV}{Q:List Int} (h3:KL (Tr s h) ks cs l Q) (hs:Fk s t Q):KL (Tr t h) ks cs l Q:=
 h3.mono (fun c l P hP q=>q.stay (fun p hp=>hs p (hP p hp)))
theorem KR.stay{s t:PD}{h:Nat}{ks:List (List UInt8)}{cs:List Int}{l:List KV}{Q:List Int} (h3:KR (Tr s h) ks cs l Q) (hs:Fk s t Q):KR (Tr t h) ks cs l Q:=
 h3.mono (fun c l P hP q=>q.stay (fun p hp=>hs p (hP p hp)))
theorem Mv.same{s t:PD}{A B Q:List Int}{c:Nat} (h:Mv s t A B c) (h1:∀p∈Q,Bh s p) (h2:∀p∈Q,p∉A):Fk s t Q:=fun p hp=>h.st p (h1 p hp) (h2 p hp)
theorem Nd.join{s:PD}{R:RT} (hR:∀c l P,R c l P→l≠[]) {lf:Bool}{a b:AA}{key:List UInt8}{l1 l2:List KV}{Q1 Q2:List Int} (ha:Nd s R lf a l1 Q1) (hb:Nd s R lf b l2 Q2) (sa:A3 a=true) (sb:A3 b=true)
  (h1:∀x∈l1,Lt x.1 key) (h2:∀x∈l2,¬Lt x.1 key) (hk:1≤key.length∧key.length≤64):
  Nd s R lf (Cd a b key) (l1++l2) (Q1++Q2)∧A3 (Cd a b key)=true∧A0 (Cd a b key)+2≤A0 a+A0 b+(if lf=true then 0 else 65)∧(Cd a b key).leaf=lf∧
  ((Cd a b key).keys=[]→lf=true∧a.keys=[]∧b.keys=[]):=by
 cases lf with
 |true=>
  obtain⟨a1,a2⟩:=ha.leaf
  obtain⟨b1,b2⟩:=hb.leaf
  have ea:=Ea sa a1
  have eb:=Ea sb b1
  have ka:=a2.keys
  have kb:=b2.keys
  have e:Cd a b key=⟨true,a.keys++b.keys,a.vals++b.vals,[]⟩:=by unfold Cd;rw [if_pos a1]
  rw [ea] at sa
  rw [eb] at sb
  obtain⟨s1,s2,s3⟩:=CH.1 sa
  obtain⟨t1,t2,t3⟩:=CH.1 sb
  have hso:A3 ⟨true,a.keys++b.keys,a.vals++b.vals,[]⟩=true:=by
   refine CH.2 ⟨KO.app.2 ⟨s1,t1,fun x hx y hy=>?_⟩,by simp [s2,t2],fun v hv=>(Acj.1 hv).elim (s3 v) (t3 v)⟩
   rw [ka] at hx
   rw [kb] at hy
   obtain⟨x',hx',rfl⟩:=Agl.1 hx
   obtain⟨y',hy',rfl⟩:=Agl.1 hy
   exact Ip (h1 x' hx') (h2 y' hy')
  rw [e]
  refine⟨.mkl rfl (a2.join b2),hso,?_,rfl,fun q=>⟨rfl,List.append_eq_nil_iff.1 q⟩⟩
  have za:=(congrArg A0 ea).trans (size_leaf s2)
  have zb:=(congrArg A0 eb).trans (size_leaf t2)
  rw [za,zb,size_leaf (by simp [s2,t2]),Dr,Dr,Acl,if_pos rfl]
  omega
 |false=>
  obtain⟨a1,a2⟩:=ha.inner
  obtain⟨b1,b2⟩:=hb.inner
  have ea:=D8 sa a1
  have eb:=D8 sb b1
  have e:Cd a b key=⟨false,a.keys++[key]++b.keys,[],a.kids++b.kids⟩:=by unfold Cd;rw [if_neg (by rw [a1];decide)]
  have ka:=(Kd.btw hR a2).2
  have kb:=(Kd.btw hR b2).2
  rw [ea] at sa
  rw [eb] at sb
  obtain⟨s1,s2,s3⟩:=B7.1 sa
  obtain⟨t1,t2,t3⟩:=B7.1 sb
  have ka':∀k∈a.keys,Lt k key:=fun k q=>by
   obtain⟨-,x,x1,x2⟩:=ka k q
   exact Lu x2 (h1 x x1)
  have kb':∀k∈b.keys,Lt key k:=fun k q=>by
   obtain⟨⟨x,x1,x2⟩, -⟩:=kb k q
   exact Lu (h2 x x1) x2
  have hso:A3 ⟨false,a.keys++[key]++b.keys,[],a.kids++b.kids⟩=true:=by
   refine B7.2 ⟨?_,by simp [s2,t2];omega,fun v hv=>(Acj.1 hv).elim (s3 v) (t3 v)⟩
   rw [Acg]
   refine KO.app.2 ⟨s1,KO.cons.2 ⟨hk,t1,kb'⟩,fun x hx y hy=>?_⟩
   rcases Adb.1 hy with rfl|hy
   ·exact ka' x hx
   ·exact FT (ka' x hx) (kb' y hy)
  rw [e]
  refine⟨.mki rfl ?_,hso,?_,rfl,fun q=>by simp at q⟩
  ·show Kd R (a.keys++[key]++b.keys) (a.kids++b.kids) _ _
   rw [Acg]
   exact a2.join b2 ka' h1 h2
  ·have za:=(congrArg A0 ea).trans size_inner
   have zb:=(congrArg A0 eb).trans size_inner
   rw [za,zb,size_inner,Dr,Dr,Acl,Acl,Acl,if_neg (by decide)]
   simp only [C1,Afs]
   omega
theorem SL{n:AA} (hc:C6 n=true):(AV n).leaf=n.leaf:=by
 unfold AV;rw [if_pos hc];cases h:n.leaf<;>simp
theorem Sz{n:AA} (hc:C6 n=true):(A6 n).leaf=n.leaf:=by
 unfold A6;rw [if_pos hc];cases h:n.leaf<;>simp
theorem UE{n:AA} (hc:C6 n=true):BA n∈n.keys:=by
 obtain⟨h1, -⟩:=M4 n
 unfold BA
 rw [if_pos hc]
 simp only [C6,Acd,decide_eq_true_eq] at hc
 have hm:=hc.2
 have:(if n.leaf=true then atD n else at2 n - 1)<n.keys.length:=by
  cases hl:n.leaf with
  |true=>rw [hl] at hm;simp only [if_true] at hm⊢;omega
  |false=>rw [hl] at hm;simp only [Aci,if_false,at2] at hm⊢;omega
 rw [Acf,Ace this]
 exact Ada this
theorem Mz{n:AA} (h:Bv n=true):A3 n=true:=by simp only [Bv,Acd] at h;exact h.1
theorem Nd.split{s:PD}{R:RT}{lf:Bool}{n:AA}{l:List KV}{Q:List Int} (hn:Nd s R lf n l Q) (hs:A3 n=true) (hc:C6 n=true) (hH:Oe n):
  ∃l1 l2 Q1 Q2,l=l1++l2∧Q=Q1++Q2∧Nd s R lf (AV n) l1 Q1∧Nd s R lf (A6 n) l2 Q2∧(∀x∈l1,Lt x.1 (BA n))∧(∀x∈l2,¬Lt x.1 (BA n))∧1≤(BA n).length∧(BA n).length≤64:=by
 have hkm:=UE hc
 have eL:=SL hc
 have eR:=Sz hc
 have sL:=Mz hH.r1
 have sR:=Mz hH.r2
 have hall:=hH.all
 have hlo:∀k∈(AV n).keys,Lt k (BA n):=fun k hk=>by
  obtain⟨i,hi,rfl⟩:=Aeh hk
  exact hH.lo i hi
 have hhi:∀k∈(A6 n).keys,¬Lt k (BA n):=fun k hk=>by
  obtain⟨i,hi,rfl⟩:=Aeh hk
  rcases hH.hi i hi with q|⟨q,_⟩
  ·exact U7 q
  ·rw [q];exact KZ
 cases lf with
 |true=>
  obtain⟨n1,n2⟩:=hn.leaf
  have ho:1≤(BA n).length∧(BA n).length≤64:=by
   rw [Ea hs n1] at hs
   exact(CH.1 hs).1.1 _ hkm
  rw [n1] at eL eR
  unfold Cd at hall
  rw [if_pos eL] at hall
  have k1:(AV n).keys++(A6 n).keys=n.keys:=congrArg AA.keys hall
  have k2:(AV n).vals++(A6 n).vals=n.vals:=congrArg AA.vals hall
  rw [←k1,←k2] at n2
  have hL:(AV n).vals.length=(AV n).keys.length:=by
   rw [Ea sL eL] at sL
   exact(CH.1 sL).2.1
  obtain⟨l1,l2,Q1,Q2,rfl,rfl,g1,g2⟩:=n2.split hL
  refine⟨l1,l2,Q1,Q2,rfl,rfl,.mkl eL g1,.mkl eR g2,fun x hx=>hlo _ ?_,fun x hx=>hhi _ ?_,ho⟩
  ·rw [g1.keys];exact Aff hx
  ·rw [g2.keys];exact Aff hx
 |false=>
  obtain⟨n1,n2⟩:=hn.inner
  have ho:1≤(BA n).length∧(BA n).length≤64:=by
   rw [D8 hs n1] at hs
   exact(B7.1 hs).1.1 _ hkm
  rw [n1] at eL eR
  unfold Cd at hall
  rw [if_neg (by rw [eL];decide)] at hall
  have k1:(AV n).keys++[BA n]++(A6 n).keys=n.keys:=congrArg AA.keys hall
  have k2:(AV n).kids++(A6 n).kids=n.kids:=congrArg AA.kids hall
  rw [←k1,←k2,Acg] at n2
  have hL:(AV n).kids.length=(AV n).keys.length+1:=by
   rw [D8 sL eL] at sL
   exact(B7.1 sL).2.1
  obtain⟨l1,l2,Q1,Q2,rfl,rfl,g1,g2,g3,g4⟩:=Kd.split n2 hL hlo
  exact⟨l1,l2,Q1,Q2,rfl,rfl,.mki eL g1,.mki eR g2,g3,g4,ho⟩
def Out(s:PD) (h z:Nat) (m:MdD) (l:List KV) (P:List Int):Prop:=
 (m.other<0∧∃n Q,At s m.page n∧m.size=A0 n∧P=m.page::Q∧z≤n.keys.length∧Nd s (Tr s h) (decide (h=0)) n l Q)∨
 (0≤m.other∧m.size=256∧∃l1 l2 P1 P2,l=l1++l2∧P=P1++P2∧Tr s (h+1) m.page l1 P1∧Tr s (h+1) m.other l2 P2∧(∀x∈l1,Lt x.1 m.key)∧(∀x∈l2,¬Lt x.1 m.key)∧1≤m.key.length∧m.key.length≤64)
theorem Out.stay{s t:PD}{h z:Nat}{m:MdD}{l:List KV}{P:List Int} (o:Out s h z m l P) (hs:Fk s t P):Out t h z m l P:=by
 rcases o with ⟨h1,n,Q,h2,h3,rfl,h4,h5⟩|⟨h1,h2,l1,l2,P1,P2,rfl,rfl,h3,h4,h5⟩
 ·exact .inl ⟨h1,n,Q,h2.stay (hs _ (Acu ..)),h3,rfl,h4,h5.stay (fun p hp=>hs p (Acy _ hp))⟩
 ·exact .inr ⟨h1,h2,l1,l2,P1,P2,rfl,rfl,h3.stay (fun p hp=>hs p (Adh _ hp)),h4.stay (fun p hp=>hs p (Adk _ hp)),h5⟩
theorem Out.live{s:PD}{h z:Nat}{m:MdD}{l:List KV}{P:List Int} (o:Out s h z m l P):∀p∈P,Bh s p:=by
 rcases o with ⟨h1,n,Q,h2,h3,rfl,h4,h5⟩|⟨h1,h2,l1,l2,P1,P2,rfl,rfl,h3,h4,h5⟩
 ·intro p hp
  rcases Adb.1 hp with rfl|hp
  ·exact h2.liv
  ·exact h5.live p hp
 ·exact fun p hp=>(Acj.1 hp).elim (h3.live p) (h4.live p)
theorem Out.tr{s:PD}{h z:Nat}{m:MdD}{l:List KV}{P:List Int} (o:Out s h z m l P) (h1:m.other<0) (hz:1≤z):Tr s (h+1) m.page l P:=by
 rcases o with ⟨h1,n,Q,h2,h3,rfl,h4,h5⟩|⟨h2,_⟩
 ·exact⟨n,Q,h2,fun e=>by rw [e] at h4;simp at h4;omega,rfl,h5⟩
 ·omega
theorem GW{α:Type}{l:List α}:l≠[]↔1≤l.length:=by cases l<;>simp
theorem F4{s:PD} (hG:Pgr.Good s) {h z:Nat}{n:AA}{l:List KV}{Q:List Int}{k:Int} (hn:Nd s (Tr s h) (decide (h=0)) n l Q) (hs:A3 n=true) (hh:A0 n≤if n.leaf=true then 340 else 440) (hk:Bh s k) (hz:z≤n.keys.length)
  (hnd:(k::Q).Nodup):
  ((A9 s k n).2.2=0∧∃P',Mv s (A9 s k n).1 (k::Q) P' 2∧Out (A9 s k n).1 h z (A9 s k n).2.1 l P')∨((A9 s k n).2.2=190∧s.free<2):=by
 obtain⟨hkQ,hQ⟩:=Afr.1 hnd
 have hl:=hn.live
 have hkq:∀p∈Q,p∉ [k]:=fun p hp q=>hkQ (Acv.1 q▸hp)
 rcases ZQ hG hs (fun hz=>Za hh (WC hs hz)) hk with ⟨h1,⟨p,e,h2,h3⟩|⟨hc,hH,p,q,e,h0,h2,h3,h4⟩⟩|h1
 ·refine .inl ⟨h1,p::Q,h2.frame hl hQ hkq,.inl ?_⟩
  rw [e]
  exact⟨(by show(-1:Int)<0;decide),n,Q,h3,rfl,rfl,hz,hn.stay (h2.same hl hkq)⟩
 ·obtain⟨l1,l2,Q1,Q2,rfl,rfl,g1,g2,g3,g4,g5⟩:=(hn.stay (h2.same hl hkq)).split hs hc hH
  refine .inl ⟨h1,(p::Q1)++(q::Q2),(h2.frame hl hQ hkq).perm (Adp _) ?_,.inr ?_⟩
  ·refine Adw.2 fun a=>?_
   simp only [Aee,Aem,Age];omega
  ·rw [e]
   exact⟨h0,rfl,l1,l2,_,_,rfl,rfl,⟨_,Q1,h3,GW.2 hH.n1,rfl,g1⟩,⟨_,Q2,h4,GW.2 hH.n2,rfl,g2⟩,g3,g4,g5⟩
 ·exact .inr h1
section
section
variable {α:Type}
theorem I1(l:List α) {i:Nat} (h:i<l.length):∃a x b,l=a++[x]++b∧a.length=i:=⟨l.take i,l[i],l.drop (i+1),by simp,by simp;omega⟩
theorem Ez{a b:List α}{x d:α}:(a++[x]++b).getD a.length d=x:=by simp [Afy]
theorem Gb{a b:List α}{x y:α}:(a++[x]++b).set a.length y=a++[y]++b:=by simp [List.set_append]
theorem Io{a b:List α}{x:α}:(a++[x]++b).eraseIdx a.length=a++b:=by simp [List.eraseIdx_append]
theorem Nk{a b:List α}{y:α}:BX (a++b) a.length y=a++[y]++b:=by simp [BX]
theorem WT{a b:List α}{x y:α}:BX (a++[x]++b) (a.length+1) y=a++[x,y]++b:=by
 have e:a.length+1=(a++[x]).length:=by simp
 unfold BX
 rw [e,Ahc,Agp];simp
end
theorem Rn{t:PD} (hG:Pgr.Good t) {h:Nat}{k c:Int}{a b:List (List UInt8)}{ca cb:List Int}{md:MdD}{l1 m' l2:List KV}{P1 Pm P2:List Int}
  (hat:At t k ⟨false,a++b,[],ca++[c]++cb⟩) (ea:ca.length=a.length) (hne:a++b≠[]) (hl:KL (Tr t (h+1)) a ca l1 P1) (hr:KR (Tr t (h+1)) b cb l2 P2) (ho:Out t h 1 md m' Pm)
  (ba:∀k∈a,∀x∈m',¬Lt x.1 k) (bb:∀k∈b,∀x∈m',Lt x.1 k) (hnd:(k::(P1++Pm++P2)).Nodup):
  ((Ci t k ⟨false,a++b,[],ca++[c]++cb⟩ a.length md).2.2=0∧∃P',Mv t (Ci t k ⟨false,a++b,[],ca++[c]++cb⟩ a.length md).1 (k::(P1++Pm++P2)) P' 2∧
   Out (Ci t k ⟨false,a++b,[],ca++[c]++cb⟩ a.length md).1 (h+1) 1 (Ci t k ⟨false,a++b,[],ca++[c]++cb⟩ a.length md).2.1 (l1++m'++l2) P')∨
  ((Ci t k ⟨false,a++b,[],ca++[c]++cb⟩ a.length md).2.2=190∧t.free<2):=by
 have hs:=B7.1 hat.sound
 obtain⟨hko,hlen,hrng⟩:=hs
 have hsz:=hat.size
 rw [size_inner] at hsz
 have hd:decide (h+1=0)=false:=decide_eq_false (Aez _)
 have hkv:∀p∈P1++Pm++P2,Bh t p:=fun p hp=>by
  rcases Acj.1 hp with hp|hp
  ·rcases Acj.1 hp with hp|hp
   ·rcases hl with ⟨_,_,_,e⟩|⟨_,_,_,e,_⟩
    ·rw [e] at hp;cases hp
    ·exact Kd.all (fun c l P q=>Tr.live q) e p hp
   ·exact ho.live p hp
  ·rcases hr with ⟨_,_,_,e⟩|⟨_,_,_,e,_⟩
   ·rw [e] at hp;cases hp
   ·exact Kd.all (fun c l P q=>Tr.live q) e p hp
 have hkr:∀p,Bh t p→0≤p∧p≤8191:=fun p hp=>ED hG hp
 have e0:(ca++[c]++cb).getD a.length 0=c:=by rw [←ea];exact Ez
 have hz1:1≤(a++b).length:=GW.1 hne
 have hsz':A0 (⟨false,a++b,[],ca++[c]++cb⟩:AA)≤256:=hat.size
 unfold Ci
 simp only [e0]
 by_cases h1:c=md.page∧md.other<0
 ·rw [if_pos h1]
  obtain⟨h1,h2⟩:=h1
  subst h1
  refine .inl ⟨rfl,k::(P1++Pm++P2),?_,.inl ⟨(by show(-1:Int)<0;decide),_,P1++Pm++P2,hat,rfl,rfl,hz1,?_⟩⟩
  ·have:=(Mv.refl hG).frame (R:=k::(P1++Pm++P2)) (fun p hp=>(Adb.1 hp).elim (fun e=>e▸hat.liv) (hkv p)) hnd (fun p _ q=>by cases q)
   exact this.mono (by omega)
  ·rw [hd]
   refine .mki rfl ?_
   have:=Kd.I2 (km:=[]) (cm:=[md.page]) hl (Kd.one.2 (ho.tr h2 (Ach _))) hr (by simpa using hko) ba bb
   simpa using this
 ·rw [if_neg h1]
  by_cases h2:0≤md.other
  ·rw [if_pos h2]
   rcases ho with ⟨q,_⟩|⟨_,_,m1,m2,Q1,Q2,rfl,rfl,g1,g2,g3,g4,g5,g6⟩
   ·omega
   ·have e1:BX (a++b) a.length md.key=a++[md.key]++b:=Nk
    have e2:BX ((ca++[c]++cb).set a.length md.page) (a.length+1) md.other=ca++[md.page,md.other]++cb:=by rw [←ea,Gb,WT]
    simp only [e1,e2]
    obtain⟨x1,r1,f1⟩:=Afa g1.ne
    obtain⟨x2,r2,f2⟩:=Afa g2.ne
    obtain⟨ko1,ko2,ko3⟩:=KO.app.1 hko
    have ha':∀k∈a,Lt k md.key:=fun p hp=>Lu (ba p hp x1 (by simp [f1])) (g3 x1 (by simp [f1]))
    have hb':∀k∈b,Lt md.key k:=fun p hp=>Lu (g4 x2 (by simp [f2])) (bb p hp x2 (by simp [f2]))
    have hko':KO (a++[md.key]++b):=by
     rw [Acg]
     refine KO.app.2 ⟨ko1,KO.cons.2 ⟨⟨g5,g6⟩,ko2,hb'⟩,fun x hx y hy=>?_⟩
     rcases Adb.1 hy with rfl|hy
     ·exact ha' x hx
     ·exact ko3 x hx y hy
    obtain⟨n1,n1Q,n1a,_,n1e,_⟩:=id g1
    obtain⟨n2,n2Q,n2a,_,n2e,_⟩:=id g2
    have hso:A3 ⟨false,a++[md.key]++b,[],ca++[md.page,md.other]++cb⟩=true:=by
     refine B7.2 ⟨hko',?_,fun p hp=>?_⟩
     ·simp only [Acl,Acs,Ael] at hlen⊢;omega
     ·rcases Acj.1 hp with hp|hp
      ·rcases Acj.1 hp with hp|hp
       ·exact hrng p (by simp [hp])
       ·rcases Adb.1 hp with rfl|hp
        ·exact hkr _ n1a.liv
        ·rw [Acv.1 hp];exact hkr _ n2a.liv
      ·exact hrng p (by simp [hp])
    refine F4 hG (h:=h+1) (z:=1) ?_ hso ?_ hat.liv ?_ hnd
    ·rw [hd]
     exact .mki rfl (Kd.I2 (km:=[md.key]) (cm:=[md.page,md.other]) hl (Kd.cons.2 ⟨m1,m2,Q1,Q2,rfl,rfl,g1,g3,g4,Kd.one.2 g2⟩) hr hko' ba bb)
    ·simp only [Aci,if_false]
     rw [size_inner]
     simp only [Acl,Acs,Ael,Dr,C1] at hsz⊢
     omega
    ·simp;omega
  ·rw [if_neg h2]
   have e2:(ca++[c]++cb).set a.length md.page=ca++[md.page]++cb:=by rw [←ea,Gb]
   simp only [e2]
   have htr:=ho.tr (by omega) (Ach _)
   obtain⟨n1,n1Q,n1a,_,n1e,_⟩:=id htr
   have hso:A3 ⟨false,a++b,[],ca++[md.page]++cb⟩=true:=by
    refine B7.2 ⟨hko,?_,fun p hp=>?_⟩
    ·simp only [Acl,Acs,Ael] at hlen⊢;omega
    ·rcases Acj.1 hp with hp|hp
     ·rcases Acj.1 hp with hp|hp
      ·exact hrng p (by simp [hp])
      ·rw [Acv.1 hp];exact hkr _ n1a.liv
     ·exact hrng p (by simp [hp])
   refine F4 hG (h:=h+1) (z:=1) ?_ hso ?_ hat.liv hz1 hnd
   ·rw [hd]
    refine .mki rfl ?_
    have:=Kd.I2 (km:=[]) (cm:=[md.page]) hl (Kd.one.2 htr) hr (by simpa using hko) ba bb
    simpa using this
   ·simp only [Aci,if_false]
    rw [size_inner]
    simp only [Acl,Acs,Ael] at hsz⊢
    omega
theorem KL.live{s:PD}{h:Nat}{ks:List (List UInt8)}{cs:List Int}{l:List KV}{Q:List Int} (hl:KL (Tr s h) ks cs l Q):∀p∈Q,Bh s p:=by
 rcases hl with ⟨_,_,_,e⟩|⟨_,_,_,e,_⟩
 ·rw [e];exact fun p hp=>by cases hp
 ·exact Kd.all (fun c l P q=>Tr.live q) e
theorem KR.live{s:PD}{h:Nat}{ks:List (List UInt8)}{cs:List Int}{l:List KV}{Q:List Int} (hl:KR (Tr s h) ks cs l Q):∀p∈Q,Bh s p:=by
 rcases hl with ⟨_,_,_,e⟩|⟨_,_,_,e,_⟩
 ·rw [e];exact fun p hp=>by cases hp
 ·exact Kd.all (fun c l P q=>Tr.live q) e
theorem OP{s:PD}{a b vs:List (List UInt8)}{key:List UInt8}{l:List KV}{Q:List Int} (h:Lf s (a++key::b) vs l Q):
  ∃va c vb l1 v0 l2 P1 Pv P2,vs=va++[c]++vb∧va.length=a.length∧l=l1++[(key,v0)]++l2∧Q=P1++Pv++P2∧Lf s a va l1 P1∧Ce s c v0 Pv∧Lf s b vb l2 P2:=by
 have hl:=h.len.1
 obtain⟨va,c,vb,rfl,e⟩:=I1 vs (i:=a.length) (by rw [hl];simp)
 rw [Acg] at h
 obtain⟨l1,l',P1,P',rfl,rfl,h1,h2⟩:=h.split e
 obtain⟨l0,l2,Pv,P2,rfl,rfl,h3,h4⟩:=Lf.split (ks:=[key]) (vs:=[c]) h2 rfl
 obtain⟨v0,rfl,h5⟩:=h3.Aay
 exact⟨va,c,vb,l1,v0,l2,P1,Pv,P2,rfl,e,by simp,by simp,h1,h5,h4⟩
theorem OG{s:PD}{a b vs:List (List UInt8)}{l:List KV}{Q:List Int} (h:Lf s (a++b) vs l Q):
  ∃va vb l1 l2 P1 P2,vs=va++vb∧va.length=a.length∧l=l1++l2∧Q=P1++P2∧Lf s a va l1 P1∧Lf s b vb l2 P2:=by
 have hl:=h.len.1
 have e:vs=vs.take a.length++vs.drop a.length:=(Agv _ _).symm
 have e2:(vs.take a.length).length=a.length:=by simp at hl⊢;omega
 rw [e] at h
 obtain⟨l1,l2,P1,P2,rfl,rfl,h1,h2⟩:=h.split e2
 exact⟨_,_,l1,l2,P1,P2,e,e2,rfl,rfl,h1,h2⟩
theorem Ja{s:PD}{a va:List (List UInt8)}{key:List UInt8}{l1:List KV}{P1:List Int} (h:Lf s a va l1 P1) (ha:∀x∈a,Lt x key):∀x∈l1,Lt x.1 key:=fun x hx=>ha _ (by rw [h.keys];exact Aff hx)
theorem Jc{s:PD}{a va:List (List UInt8)}{key:List UInt8}{l1:List KV}{P1:List Int} (h:Lf s a va l1 P1) (ha:∀x∈a,Lt key x):∀x∈l1,Lt key x.1:=fun x hx=>ha _ (by rw [h.keys];exact Aff hx)
theorem Vl{key cell v:List UInt8} (hk:1≤key.length∧key.length≤64):∀(h:Nat) {s:PD}{k:Int}{l:List KV}{P Pc:List Int},Pgr.Good s→Tr s (h+1) k l P→(P++Pc).Nodup→Ce s cell v Pc→
  ((BW s k key cell (h+1)).2.2.2=0∧(BW s k key cell (h+1)).2.2.1= !isK l key∧∃P',Mv s (BW s k key cell (h+1)).1 (P++Pc) P' (2*(h+1))∧Out (BW s k key cell (h+1)).1 h 1 (BW s k key cell (h+1)).2.1 (Eg l key v) P')∨
  ((BW s k key cell (h+1)).2.2.2=190∧s.free<2*(h+1))
 |0,s,k,l,P,Pc,hG,⟨n,Q,hat,hne,eP,hn⟩,hnd,hc=>by
  subst eP
  rw [decide_eq_true rfl] at hn
  obtain⟨n1,n2⟩:=hn.leaf
  have ef:=Ea hat.sound n1
  obtain⟨ks,vs,rfl⟩:∃ks vs,n=⟨true,ks,vs,[]⟩:=⟨_,_,ef⟩
  simp only at n2 hne
  obtain⟨hko,hvl,hv16⟩:=CH.1 hat.sound
  have hlv:=hat.level (x:=((0+1:Nat):Int)) rfl
  have hlz:(AZ s k ((0+1:Nat):Int)).2=0:=by rw [hlv]
  have hln:(AZ s k ((0+1:Nat):Int)).1=⟨true,ks,vs,[]⟩:=by rw [hlv]
  have hsz:=hat.size
  rw [size_leaf hvl] at hsz
  have hcl:=hc.len
  have hQl:=n2.live
  have hPl:=hc.live
  rcases KQ hko (vs:=vs) key with ⟨a,b,rfl,hf,ha,hb⟩|⟨a,b,rfl,hf,ha,hb⟩
  ·rw [S7 hlz hln hf]
   obtain⟨va,c,vb,l1,v0,l2,P1,Pv,P2,rfl,ev,rfl,rfl,g1,g2,g3⟩:=OP n2
   have e0:(va++[c]++vb).getD a.length []=c:=by rw [←ev];exact Ez
   have e1:(va++[c]++vb).set a.length cell=va++[cell]++vb:=by rw [←ev];exact Gb
   simp only [e0,e1]
   have hnd':(k::(P1++Pc++P2)).Nodup∧Pv.Nodup∧∀p∈k::(P1++Pc++P2),p∉Pv:=by
    have hp:(k::(P1++Pv++P2)++Pc).Perm ((k::(P1++Pc++P2))++Pv):=Adw.2 fun a=>by
     simp only [Aee,Aem];omega
    obtain⟨q1,q2,q3⟩:=Afi.1 (hp.nodup_iff.1 hnd)
    exact⟨q1,q2,fun p h1 h2=>q3 p h1 p h2 rfl⟩
   obtain⟨q1,q2,q3⟩:=hnd'
   obtain⟨d1,d2⟩:=g2.Aaz hG q2
   rw [if_neg (by rw [d1];decide)]
   have hR:∀p∈k::(P1++Pc++P2),Bh s p:=fun p hp=>by
    rcases Adb.1 hp with rfl|hp
    ·exact hat.liv
    ·rcases Acj.1 hp with hp|hp
     ·rcases Acj.1 hp with hp|hp
      ·exact hQl p (by simp [hp])
      ·exact hPl p hp
     ·exact hQl p (by simp [hp])
   have hsm:=d2.same hR q3
   have hl1:=Ja g1 ha
   have hl2:=Jc g3 hb
   have hput:Eg (l1++[(key,v0)]++l2) key v=l1++[(key,v)]++l2:=by rw [Na hl1 hl2,WZ]
   have hisk:isK (l1++[(key,v0)]++l2) key=true:=by rw [Ep hl1 hl2,Hr]
   have hLf:Lf (BN s c).1 (a++key::b) (va++[cell]++vb) (l1++[(key,v)]++l2) (P1++Pc++P2):=by
    have w1:=g1.stay (t:=(BN s c).1) (fun p hp=>hsm p (by simp [hp]))
    have w2:=hc.stay (t:=(BN s c).1) (fun p hp=>hsm p (by simp [hp]))
    have w3:=g3.stay (t:=(BN s c).1) (fun p hp=>hsm p (by simp [hp]))
    have:=w1.join ((Lf.one (k:=key) w2).join w3)
    simpa using this
   have hso:A3 ⟨true,a++key::b,va++[cell]++vb,[]⟩=true:=by
    refine CH.2 ⟨hko,by simp at hvl⊢;omega,fun x hx=>?_⟩
    rcases Acj.1 hx with hx|hx
    ·rcases Acj.1 hx with hx|hx
     ·exact hv16 x (by simp [hx])
     ·rw [Acv.1 hx];exact hcl
    ·exact hv16 x (by simp [hx])
   have hnd2:Nd (BN s c).1 (Tr (BN s c).1 0) (decide (0=0)) ⟨true,a++key::b,va++[cell]++vb,[]⟩ (l1++[(key,v)]++l2) (P1++Pc++P2):=by
    rw [decide_eq_true rfl];exact .mkl rfl hLf
   have hzz:A0 (⟨true,a++key::b,va++[cell]++vb,[]⟩:AA)≤340:=by
    rw [size_leaf (by simp at hvl⊢;omega)]
    simp only [Acl,Acs,Ael,Dr,C1] at hsz⊢
    omega
   rcases F4 d2.gd (h:=0) (z:=1) hnd2 hso hzz (by unfold Bh;rw [(hsm k (by simp)).1];exact hat.liv) (by simp;omega) q1 with ⟨w1,P',w2,w3⟩|⟨w1,w2⟩
   ·refine .inl ⟨w1,by rw [hisk];rfl,P',?_,by rw [hput];exact w3⟩
    refine((d2.then w2 (Adp _) hR q1 q3).perm ?_ (Adp _)).mono (by omega)
    refine Adw.2 fun a=>?_
    simp only [Aee,Aem];omega
   ·exact .inr ⟨w1,by have:=d2.fr;omega⟩
  ·rw [Tb hlz hln hf]
   obtain⟨va,vb,l1,l2,P1,P2,rfl,ev,rfl,rfl,g1,g3⟩:=OG n2
   have e0:BX (a++b) a.length key=a++[key]++b:=Nk
   have e1:BX (va++vb) a.length cell=va++[cell]++vb:=by rw [←ev];exact Nk
   simp only [e0,e1]
   have hl1:=Ja g1 ha
   have hl2:=Jc g3 hb
   have hput:Eg (l1++l2) key v=l1++[(key,v)]++l2:=by
    have:=Na (m:=[]) (v:=v) hl1 hl2
    rw [Yi,Adr] at this;exact this
   have hisk:isK (l1++l2) key=false:=by
    have:=Ep (m:=[]) hl1 hl2
    rw [Pk,Adr] at this;exact this
   have hLf:Lf s (a++[key]++b) (va++[cell]++vb) (l1++[(key,v)]++l2) (P1++Pc++P2):=by
    have:=g1.join ((Lf.one (k:=key) hc).join g3)
    simpa using this
   have hko':KO (a++[key]++b):=by
    obtain⟨k1,k2,k3⟩:=KO.app.1 hko
    rw [Acg]
    refine KO.app.2 ⟨k1,KO.cons.2 ⟨hk,k2,hb⟩,fun x hx y hy=>?_⟩
    rcases Adb.1 hy with rfl|hy
    ·exact ha x hx
    ·exact k3 x hx y hy
   have hso:A3 ⟨true,a++[key]++b,va++[cell]++vb,[]⟩=true:=by
    refine CH.2 ⟨hko',by simp at hvl⊢;omega,fun x hx=>?_⟩
    rcases Acj.1 hx with hx|hx
    ·rcases Acj.1 hx with hx|hx
     ·exact hv16 x (by simp [hx])
     ·rw [Acv.1 hx];exact hcl
    ·exact hv16 x (by simp [hx])
   have hnd2:Nd s (Tr s 0) (decide (0=0)) ⟨true,a++[key]++b,va++[cell]++vb,[]⟩ (l1++[(key,v)]++l2) (P1++Pc++P2):=by
    rw [decide_eq_true rfl];exact .mkl rfl hLf
   have hzz:A0 (⟨true,a++[key]++b,va++[cell]++vb,[]⟩:AA)≤340:=by
    rw [size_leaf (by simp at hvl⊢;omega)]
    simp only [Acl,Acs,Ael,Dr,C1] at hsz⊢
    omega
   have hp:(k::(P1++P2)++Pc).Perm (k::(P1++Pc++P2)):=Adw.2 fun a=>by
     simp only [Aee,Aem];omega
   rcases F4 hG (h:=0) (z:=1) hnd2 hso hzz hat.liv (by simp;omega) (hp.nodup_iff.1 hnd) with ⟨w1,P',w2,w3⟩|⟨w1,w2⟩
   ·exact .inl ⟨w1,by rw [hisk];rfl,P',(w2.perm hp (Adp _)).mono (by omega),by rw [hput];exact w3⟩
   ·exact .inr ⟨w1,by omega⟩
 |h+1,s,k,l,P,Pc,hG,⟨n,Q,hat,hne,eP,hn⟩,hnd,hc=>by
  subst eP
  rw [decide_eq_false (Aez _)] at hn
  obtain⟨n1,n2⟩:=hn.inner
  have ef:=D8 hat.sound n1
  obtain⟨ks,cs,rfl⟩:∃ks cs,n=⟨false,ks,[],cs⟩:=⟨_,_,ef⟩
  simp only at n2 hne
  obtain⟨hko,hcl,hrng⟩:=B7.1 hat.sound
  have hlv:=hat.level (x:=((h+1+1:Nat):Int)) (by show false=_;exact(decide_eq_false (by omega)).symm)
  have hlz:(AZ s k ((h+1+1:Nat):Int)).2=0:=by rw [hlv]
  have hln:(AZ s k ((h+1+1:Nat):Int)).1=⟨false,ks,[],cs⟩:=by rw [hlv]
  obtain⟨a,b,rfl,hf,ha,hb⟩:=JG hat.sound key
  rw [NW hlz hln hf]
  obtain⟨ca,c,cb,rfl,ec⟩:=I1 cs (i:=a.length) (by rw [hcl];simp;omega)
  have e0:(ca++[c]++cb).getD a.length 0=c:=by rw [←ec];exact Ez
  simp only [e0]
  have n2':Kd (Tr s (h+1)) (a++[]++b) (ca++[c]++cb) l Q:=by simpa using n2
  obtain⟨l1,m,l2,P1,Pm,P2,rfl,rfl,g1,g2,g3,g4,g5⟩:=n2'.focus (by simpa using hko) ec rfl
  have hl1:∀x∈l1,Lt x.1 key:=fun x hx=>by
   obtain⟨p,p1,p2⟩:=g1.below x hx
   exact Ip p2 (ha p p1)
  have hl2:∀x∈l2,Lt key x.1:=fun x hx=>by
   obtain⟨p,p1,p2⟩:=g3.Qt x hx
   exact Ip (hb p p1) p2
  have hp:(k::(P1++Pm++P2)++Pc).Perm ((Pm++Pc)++(k::(P1++P2))):=Adw.2 fun a=>by
     simp only [Aee,Aem];omega
  obtain⟨q1,q2,q3⟩:=Afi.1 (hp.nodup_iff.1 hnd)
  have q3':∀p∈k::(P1++P2),p∉Pm++Pc:=fun p h1 h2=>q3 p h2 p h1 rfl
  have hR:∀p∈k::(P1++P2),Bh s p:=fun p hp=>by
   rcases Adb.1 hp with rfl|hp
   ·exact hat.liv
   ·exact(Acj.1 hp).elim (g1.live p) (g3.live p)
  rcases Vl hk h hG g2 q1 hc with ⟨w1,w2,P',w3,w4⟩|⟨w1,w2⟩
  ·rw [if_neg (by rw [w1];decide)]
   generalize BW s c key cell (h+1)=u at w1 w2 w3 w4⊢
   have hsm:=w3.same hR q3'
   have hput:Eg (l1++m++l2) key v=l1++Eg m key v++l2:=Na hl1 hl2
   have hisk:isK (l1++m++l2) key=isK m key:=Ep hl1 hl2
   have w5:=w3.frame hR q2 q3'
   have hp2:(P'++(k::(P1++P2))).Perm (k::(P1++P'++P2)):=Adw.2 fun a=>by
     simp only [Aee,Aem];omega
   have hat':=hat.stay (hsm k (Acu ..))
   rcases Rn w3.gd hat' ec hne (g1.stay (fun p hp=>hsm p (by simp [hp]))) (g3.stay (fun p hp=>hsm p (by simp [hp]))) w4
    (fun p hp x hx=>by
     rcases MM hx with rfl|hx
     ·exact ha p hp
     ·exact g4 p hp x hx) (fun p hp x hx=>by
     rcases MM hx with rfl|hx
     ·exact hb p hp
     ·exact g5 p hp x hx) (hp2.nodup_iff.1 w5.nd) with ⟨y1,P2',y2,y3⟩|⟨y1,y2⟩
   ·refine .inl ⟨y1,by rw [w2,hisk],P2',?_,by rw [hput];exact y3⟩
    exact((w5.trans (y2.perm hp2 (Adp _))).perm hp (Adp _)).mono (by omega)
   ·exact .inr ⟨y1,by have:=w3.fr;omega⟩
  ·rw [if_pos (by rw [w1];decide)]
   exact .inr ⟨w1,by omega⟩
end
end Go.Gk.Tre
end
section
namespace Go.Gk
theorem RR{b:Nat}{T T':TypeId}{l l':List Value} (h:bx b T l=bx b T' l'):T=T'∧l=l':=by
 have h1:bx b T l b (Obj.cells l.toArray T (0,0)):=Cw _ _
 rw [h] at h1
 have h2:=(GC h1).2
 simp only [Obj.cells.injEq] at h2
 exact⟨h2.2.1,by simpa using h2.1⟩
theorem Aq.all{α:Type}{R:Ae→List Value→α→Prop} (hR:F7 R) {d:Ae}{v:Value}{xs:List α}{h:Ae} (o:Aq 1 R d v xs h) (hx:0<xs.length):
  ∃b T l c,v=.slice (some ⟨b,0,none⟩) xs.length c∧h=bx b T l∧xs.length≤l.length∧(∀j (hj:j<xs.length),∃u,l[j*1+0]?=some u∧R d [u] xs[j])∧
   ∀d' j u x,Le d d'→j<xs.length→R d' [u] x→Aq 1 R d' v (xs.set j x) (bx b T (patch l (j*1) [u])):=by
 obtain⟨b,T,l,c,cs,e1,e2, -, -, -, -, -⟩:=Aq.at (by omega) o hx
 subst e1;subst e2
 have key:∀j (hj:j<xs.length),j*1+1≤l.length∧(∃u,l[j*1+0]?=some u∧R d [u] xs[j]):=by
  intro j hj
  obtain⟨b',T',l',c',cs',q1,q2,q3,q4,q5,q6,q7⟩:=Aq.at (by omega) o hj
  cases q1
  obtain⟨rfl,rfl⟩:=RR q2
  refine⟨q5,?_⟩
  match cs',q3 with
  |[u],_=>exact⟨u,q4 0 u rfl,q6⟩
 refine⟨b,T,l,c,rfl,rfl,?_,fun j hj=>(key j hj).2,fun d' j u x hl hj hu=>?_⟩
 rotate_left
 ·obtain⟨b',T',l',c',cs',q1,q2,q3,q4,q5,q6,q7⟩:=Aq.at (by omega) (Aq.mono (R:=R) hR o hl) hj
  cases q1
  obtain⟨rfl,rfl⟩:=RR q2
  exact q7 [u] x rfl hu
 have:=(key (xs.length - 1) (by omega)).1
 omega
theorem Ri{P:Program}{Q:B0}{ρ:Env}{d:Ae}{L:List Ae}{s:GS} (Ls L1:List Ae) (hL:L.Perm (Ls++L1)) (h:gws P Q.pan Q.n s Ls ρ d L1):gwp P (.reg true s) Q ρ d L:=⟨d,Ls,L1,Vs.perm hL,h⟩
end Go.Gk
namespace Go.Gk.Tre
open Go Go.Gk Go.Gk.Dev Go.Gk.Cch Go.Gk.Pgr Go.Gk.Chn Go.Gk.Node
theorem Rh{s:PD}{k:Int}{n:AA}{i0 i:Nat}{a b:AA×Int} (hk:n.keys.length≠0) (hi:i=if i0=n.keys.length then i0 - 1 else i0) (ha:Bk s (n.kids.getD i 0)=a) (hb:Bk s (n.kids.getD (i+1) 0)=b):
  Dt s k n i0=if a.2≠0 then(s,Cc,a.2) else if b.2≠0 then(s,Cc,b.2) else if a.1.leaf≠b.1.leaf then(s,Cc,200) else
   let w:=A9 s (n.kids.getD i 0) (Cd a.1 b.1 (n.keys.getD i []))
   if w.2.2≠0 then(w.1,Cc,w.2.2) else
   let u:=w.1.drop (n.kids.getD (i+1) 0)
   if u.2≠0 then(u.1,Cc,u.2) else
   if 0≤w.2.1.other then A9 u.1 k {n with keys:=n.keys.set i w.2.1.key,kids:=(n.kids.set i w.2.1.page).set (i+1) w.2.1.other}
   else A9 u.1 k {n with keys:=n.keys.eraseIdx i,kids:=(n.kids.set i w.2.1.page).eraseIdx (i+1)}:=by
 subst hi;subst ha;subst hb
 unfold Dt
 exact if_neg hk
end Go.Gk.Tre
end
section
namespace Go.Gk.Tre
open Go Go.Gk Go.Gk.Dev Go.Gk.Cch Go.Gk.Pgr Go.Gk.Chn Go.Gk.Node
section
theorem Fk.trans{s t u:PD}{P:List Int} (h:Fk s t P) (k:Fk t u P):Fk s u P:=fun p hp=>⟨(k p hp).1.trans (h p hp).1,(k p hp).2.trans (h p hp).2⟩
theorem Fk.sub{s t:PD}{P Q:List Int} (h:Fk s t P) (hs:∀p∈Q,p∈P):Fk s t Q:=fun p hp=>h p (hs p hp)
theorem ZN{n:AA} (hs:A3 n=true) (hz:5≤A0 n):n.keys≠[]:=by
 intro e
 cases hl:n.leaf with
 |true=>
  have ef:=Ea hs hl
  rw [ef] at hs
  have h2:=(CH.1 hs).2.1
  have:=(congrArg A0 ef).trans (size_leaf h2)
  rw [e] at this h2
  rw [Acm h2] at this
  simp only [C1,Ael] at this;omega
 |false=>
  have ef:=D8 hs hl
  rw [ef] at hs
  have h2:=(B7.1 hs).2.1
  have:=(congrArg A0 ef).trans size_inner
  rw [h2,e] at this
  simp only [C1,Ael] at this;omega
section
variable {α:Type}
theorem Vt{a b:List α}{x y d:α}:(a++[x,y]++b).getD (a.length+1) d=y:=by
 rw [show a++[x,y]++b=(a++[x])++[y]++b by simp,show a.length+1=(a++[x]).length by simp];exact Ez
theorem VP{a b:List α}{x y d:α}:(a++[x,y]++b).getD a.length d=x:=by
 rw [show a++[x,y]++b=a++[x]++(y::b) by simp];exact Ez
theorem Ys{a b:List α}{x y u w:α}:((a++[x,y]++b).set a.length u).set (a.length+1) w=a++[u,w]++b:=by
 rw [show a++[x,y]++b=a++[x]++(y::b) by simp,Gb,show a++[u]++y::b=(a++[u])++[y]++b by simp,show a.length+1=(a++[u]).length by simp,Gb];simp
theorem Um{a b:List α}{x y u:α}:((a++[x,y]++b).set a.length u).eraseIdx (a.length+1)=a++[u]++b:=by
 rw [show a++[x,y]++b=a++[x]++(y::b) by simp,Gb,show a++[u]++y::b=(a++[u])++[y]++b by simp,show a.length+1=(a++[u]).length by simp,Io]
end
theorem TM{t:PD} (hG:Pgr.Good t) {h i0:Nat}{k c1 c2:Int}{a b:List (List UInt8)}{kk:List UInt8}{ca cb:List Int}{n1 n2:AA}{l1 m1 m2 l2:List KV}{P1 Q1 Q2 P2:List Int}
  (hk:Bh t k) (ea:ca.length=a.length) (eb:cb.length=b.length) (hko:KO (a++[kk]++b)) (hrng:∀c∈ca++cb,0≤c∧c≤8191) (hsz:A0 (⟨false,a++[kk]++b,[],ca++[c1,c2]++cb⟩:AA)≤256)
  (hi:a.length=if i0=(a++[kk]++b).length then i0 - 1 else i0)
  (hl:KL (Tr t (h+1)) a ca l1 P1) (hr:KR (Tr t (h+1)) b cb l2 P2) (a1:At t c1 n1) (d1:Nd t (Tr t h) (decide (h=0)) n1 m1 Q1) (a2:At t c2 n2) (d2:Nd t (Tr t h) (decide (h=0)) n2 m2 Q2)
  (hz:A0 n1+A0 n2≤335) (hne:n1.keys≠[]∨n2.keys≠[]) (b1:∀x∈m1,Lt x.1 kk) (b2:∀x∈m2,¬Lt x.1 kk) (ba:∀k∈a,∀x∈m1++m2,¬Lt x.1 k) (bb:∀k∈b,∀x∈m1++m2,Lt x.1 k)
  (hnd:(k::(P1++(c1::Q1++c2::Q2)++P2)).Nodup):
  ((Dt t k ⟨false,a++[kk]++b,[],ca++[c1,c2]++cb⟩ i0).2.2=0∧∃P',Mv t (Dt t k ⟨false,a++[kk]++b,[],ca++[c1,c2]++cb⟩ i0).1 (k::(P1++(c1::Q1++c2::Q2)++P2)) P' 4∧
   Out (Dt t k ⟨false,a++[kk]++b,[],ca++[c1,c2]++cb⟩ i0).1 (h+1) 0 (Dt t k ⟨false,a++[kk]++b,[],ca++[c1,c2]++cb⟩ i0).2.1 (l1++(m1++m2)++l2) P')∨
  ((Dt t k ⟨false,a++[kk]++b,[],ca++[c1,c2]++cb⟩ i0).2.2=190∧t.free<4):=by
 obtain⟨ko1,ko2,ko3⟩:=KO.app.1 hko
 obtain⟨ko4,ko5,ko6⟩:=KO.app.1 ko1
 have hkk:=ko5.1 kk (by simp)
 have e1:(ca++[c1,c2]++cb).getD a.length 0=c1:=by rw [←ea];exact VP
 have e2:(ca++[c1,c2]++cb).getD (a.length+1) 0=c2:=by rw [←ea];exact Vt
 have e3:(a++[kk]++b).getD a.length []=kk:=Ez
 have hm:=Rh (s:=t) (k:=k) (n:=⟨false,a++[kk]++b,[],ca++[c1,c2]++cb⟩) (i0:=i0) (i:=a.length) (a:=(n1,0)) (b:=(n2,0)) (by simp) hi (by rw [show(⟨false,a++[kk]++b,[],ca++[c1,c2]++cb⟩:AA).kids.getD a.length 0=c1 from e1];exact a1.read)
  (by rw [show(⟨false,a++[kk]++b,[],ca++[c1,c2]++cb⟩:AA).kids.getD (a.length+1) 0=c2 from e2];exact a2.read)
 rw [hm,if_neg (fun q=>q rfl),if_neg (fun q=>q rfl),if_neg (fun q=>q (d1.1.trans d2.1.symm))]
 clear hm
 simp only [e1,e2,e3]
 obtain⟨dj,sj,zj,lj,ej⟩:=d1.join (fun c l P q=>Tr.ne q) d2 a1.sound a2.sound b1 b2 hkk
 have hp0:(k::(P1++(c1::Q1++c2::Q2)++P2)).Perm ((c1::(Q1++Q2))++([c2]++(k::(P1++P2)))):=Adw.2 fun a=>by
  simp only [Aee,Aem,Age];omega
 obtain⟨q1,q2,q3⟩:=Afi.1 (hp0.nodup_iff.1 hnd)
 have q3':∀p∈[c2]++(k::(P1++P2)),p∉c1::(Q1++Q2):=fun p h1 h2=>q3 p h2 p h1 rfl
 have hR:∀p∈[c2]++(k::(P1++P2)),Bh t p:=fun p hp=>by
  rcases Acj.1 hp with hp|hp
  ·rw [Acv.1 hp];exact a2.liv
  ·rcases Adb.1 hp with rfl|hp
   ·exact hk
   ·exact(Acj.1 hp).elim (hl.live p) (hr.live p)
 have hzj:A0 (Cd n1 n2 kk)≤if (Cd n1 n2 kk).leaf=true then 340 else 440:=by
  rw [lj]
  cases hb:decide (h=0) with
  |true=>rw [hb] at zj;simp only [if_true] at zj⊢;omega
  |false=>rw [hb] at zj;simp only [Aci,if_false] at zj⊢;omega
 have hkj:1≤(Cd n1 n2 kk).keys.length:=GW.1 fun e=>by
  obtain⟨-,f1,f2⟩:=ej e
  exact hne.elim (fun q=>q f1) (fun q=>q f2)
 have hs0:=F4 hG (h:=h) (z:=1) dj sj hzj a1.liv hkj q1
 generalize A9 t c1 (Cd n1 n2 kk)=w at hs0⊢
 rcases hs0.symm with ⟨w1,w2⟩|⟨w1,Pj,w2,w3⟩
 ·rw [if_pos (by rw [w1];decide)]
  exact .inr ⟨w1,by omega⟩
 rw [if_neg (by rw [w1];decide)]
 have hsm1:=w2.same hR q3'
 have w4:=w2.frame hR q2 q3'
 have hp1:(Pj++([c2]++(k::(P1++P2)))).Perm ([c2]++(Pj++(k::(P1++P2)))):=Adw.2 fun a=>by
  simp only [Aee,Aem,Age];omega
 obtain⟨r1,r2,r3⟩:=Afi.1 (hp1.nodup_iff.1 w4.nd)
 have r3':∀p∈Pj++(k::(P1++P2)),p∉ [c2]:=fun p h1 h2=>r3 p h2 p h1 rfl
 have hc2:Bh w.1 c2:=by unfold Bh;rw [(hsm1 c2 (by simp)).1];exact a2.liv
 obtain⟨u1,u2⟩:=Iw w2.gd hc2
 have hR2:∀p∈Pj++(k::(P1++P2)),Bh w.1 p:=fun p hp=>(w4.lv p).2 (.inr (by
  rcases Acj.1 hp with q|q
  ·exact Adh _ q
  ·exact Adk _ (Adk _ q)))
 have hsm2:=u2.same hR2 r3'
 have u3:=u2.frame hR2 r2 r3'
 generalize w.1.drop c2=u at u1 u2 u3 hsm2⊢
 rw [if_neg (by rw [u1];decide)]
 have hsm:Fk t u.1 (k::(P1++P2)):=(hsm1.sub (fun p hp=>Adk _ hp)).trans (hsm2.sub (fun p hp=>Adk _ hp))
 have hl':=hl.stay (hsm.sub (fun p hp=>by simp [hp]))
 have hr':=hr.stay (hsm.sub (fun p hp=>by simp [hp]))
 have ho':=w3.stay (hsm2.sub (fun p hp=>Adh _ hp))
 have hk':Bh u.1 k:=by unfold Bh;rw [(hsm k (by simp)).1];exact hk
 have M:Mv t u.1 (k::(P1++(c1::Q1++c2::Q2)++P2)) (k::(P1++Pj++P2)) 2:=by
  refine((w4.trans (u3.perm hp1 (Adp _))).perm hp0 ?_).mono (by omega)
  refine Adw.2 fun a=>?_
  simp only [Aee,Aem,Age];omega
 have hd:decide (h+1=0)=false:=decide_eq_false (Aez _)
 have hGu:=u2.gd
 have hszE:=hsz
 rw [size_inner] at hszE
 have fin:∀{n':AA}{l:List KV},n'.leaf=false→Nd u.1 (Tr u.1 (h+1)) (decide (h+1=0)) n' l (P1++Pj++P2)→A3 n'=true→A0 n'≤440→
   ((A9 u.1 k n').2.2=0∧∃P',Mv t (A9 u.1 k n').1 (k::(P1++(c1::Q1++c2::Q2)++P2)) P' 4∧Out (A9 u.1 k n').1 (h+1) 0 (A9 u.1 k n').2.1 l P')∨((A9 u.1 k n').2.2=190∧t.free<4):=by
  intro n' l hlf hnd' hs' hz'
  rcases F4 hGu (h:=h+1) (z:=0) hnd' hs' (by rw [hlf];simpa using hz') hk' (Adg _) M.nd with ⟨y1,P',y2,y3⟩|⟨y1,y2⟩
  ·exact .inl ⟨y1,P',(M.trans y2).mono (by omega),y3⟩
  ·exact .inr ⟨y1,by have:=M.fr;omega⟩
 by_cases h2:0≤w.2.1.other
 ·rw [if_pos h2]
  have f1:(a++[kk]++b).set a.length w.2.1.key=a++[w.2.1.key]++b:=Gb
  have f2:((ca++[c1,c2]++cb).set a.length w.2.1.page).set (a.length+1) w.2.1.other=ca++[w.2.1.page,w.2.1.other]++cb:=by rw [←ea];exact Ys
  simp only [f1,f2]
  rcases ho' with ⟨q,_⟩|⟨_,_,x1,x2,X1,X2,ex,rfl,g1,g2,g3,g4,g5,g6⟩
  ·omega
  ·obtain⟨y1,t1,f3⟩:=Afa g1.ne
   obtain⟨y2,t2,f4⟩:=Afa g2.ne
   have ha':∀k∈a,Lt k w.2.1.key:=fun p hp=>Lu (ba p hp y1 (by rw [ex,f3];simp)) (g3 y1 (by simp [f3]))
   have hb':∀k∈b,Lt w.2.1.key k:=fun p hp=>Lu (g4 y2 (by simp [f4])) (bb p hp y2 (by rw [ex,f4];simp))
   have hko':KO (a++[w.2.1.key]++b):=by
    rw [Acg]
    refine KO.app.2 ⟨ko4,KO.cons.2 ⟨⟨g5,g6⟩,ko2,hb'⟩,fun x hx y hy=>?_⟩
    rcases Adb.1 hy with rfl|hy
    ·exact ha' x hx
    ·exact ko3 x (Adh _ hx) y hy
   obtain⟨v1,v1Q,v1a,_,v1e,_⟩:=id g1
   obtain⟨v2,v2Q,v2a,_,v2e,_⟩:=id g2
   refine fin rfl ?_ (B7.2 ⟨hko',by simp [ea,eb];omega,fun p hp=>?_⟩) ?_
   ·rw [hd]
    have:=Kd.I2 (km:=[w.2.1.key]) (cm:=[w.2.1.page,w.2.1.other]) hl' (Kd.cons.2 ⟨x1,x2,X1,X2,rfl,rfl,g1,g3,g4,Kd.one.2 g2⟩) hr' hko' (by rw [←ex];exact ba) (by rw [←ex];exact bb)
    rw [←ex] at this
    exact .mki rfl this
   ·rcases Acj.1 hp with hp|hp
    ·rcases Acj.1 hp with hp|hp
     ·exact hrng p (by simp [hp])
     ·rcases Adb.1 hp with rfl|hp
      ·exact ED hGu v1a.liv
      ·rw [Acv.1 hp];exact ED hGu v2a.liv
    ·exact hrng p (by simp [hp])
   ·rw [size_inner]
    simp only [Acl,Acs,Ael,Dr,C1] at hszE⊢
    omega
 ·rw [if_neg h2]
  have f1:(a++[kk]++b).eraseIdx a.length=a++b:=Io
  have f2:((ca++[c1,c2]++cb).set a.length w.2.1.page).eraseIdx (a.length+1)=ca++[w.2.1.page]++cb:=by rw [←ea];exact Um
  simp only [f1,f2]
  have htr:=ho'.tr (by omega) (Ach _)
  obtain⟨v1,v1Q,v1a,_,v1e,_⟩:=id htr
  have hko':KO (a++b):=KO.app.2 ⟨ko4,ko2,fun x hx y hy=>ko3 x (Adh _ hx) y hy⟩
  refine fin rfl ?_ (B7.2 ⟨hko',by simp [ea,eb];omega,fun p hp=>?_⟩) ?_
  ·rw [hd]
   refine .mki rfl ?_
   have:=Kd.I2 (km:=[]) (cm:=[w.2.1.page]) hl' (Kd.one.2 htr) hr' (by simpa using hko') ba bb
   simpa using this
  ·rcases Acj.1 hp with hp|hp
   ·rcases Acj.1 hp with hp|hp
    ·exact hrng p (by simp [hp])
    ·rw [Acv.1 hp];exact ED hGu v1a.liv
   ·exact hrng p (by simp [hp])
  ·rw [size_inner]
   simp only [Acl,Acs,Ael,Dr,C1] at hszE⊢
   omega
end
def Qj(key:List UInt8) (h:Nat):Prop:=∀{s:PD}{k:Int}{l:List KV}{P:List Int},Pgr.Good s→Tr s (h+1) k l P→P.Nodup→
  ((BS s k key (h+1)).2.2.2=0∧(BS s k key (h+1)).2.2.1=isK l key∧((isK l key=false∧(BS s k key (h+1)).1=s)∨
   (isK l key=true∧∃P',Mv s (BS s k key (h+1)).1 P P' (4*(h+1))∧Out (BS s k key (h+1)).1 h 0 (BS s k key (h+1)).2.1 (Cr l key).1 P')))∨
  ((BS s k key (h+1)).2.2.2=190∧s.free<4*(h+1))
theorem XX{key:List UInt8}:Qj key 0:=by
  intro s k l P hG ⟨n,Q,hat,hne,eP,hn⟩ hnd
  subst eP
  rw [decide_eq_true rfl] at hn
  obtain⟨n1,n2⟩:=hn.leaf
  have ef:=Ea hat.sound n1
  obtain⟨ks,vs,rfl⟩:∃ks vs,n=⟨true,ks,vs,[]⟩:=⟨_,_,ef⟩
  simp only at n2 hne
  obtain⟨hko,hvl,hv16⟩:=CH.1 hat.sound
  have hlv:=hat.level (x:=((0+1:Nat):Int)) rfl
  have hlz:(AZ s k ((0+1:Nat):Int)).2=0:=by rw [hlv]
  have hln:(AZ s k ((0+1:Nat):Int)).1=⟨true,ks,vs,[]⟩:=by rw [hlv]
  have hsz:=hat.size
  rw [size_leaf hvl] at hsz
  have hQl:=n2.live
  rcases KQ hko (vs:=vs) key with ⟨a,b,rfl,hf,ha,hb⟩|⟨a,b,rfl,hf,ha,hb⟩
  ·rw [SZ hlz hln hf]
   obtain⟨va,c,vb,l1,v0,l2,P1,Pv,P2,rfl,ev,rfl,rfl,g1,g2,g3⟩:=OP n2
   have e0:(va++[c]++vb).getD a.length []=c:=by rw [←ev];exact Ez
   have e1:(va++[c]++vb).eraseIdx a.length=va++vb:=by rw [←ev];exact Io
   have e2:(a++key::b).eraseIdx a.length=a++b:=by
    have:=Io (a:=a) (b:=b) (x:=key)
    simpa using this
   simp only [e0,e1,e2]
   have hp:(k::(P1++Pv++P2)).Perm ((k::(P1++P2))++Pv):=Adw.2 fun a=>by
    simp only [Aee,Aem];omega
   obtain⟨q1,q2,q3⟩:=Afi.1 (hp.nodup_iff.1 hnd)
   have q3':∀p∈k::(P1++P2),p∉Pv:=fun p h1 h2=>q3 p h1 p h2 rfl
   obtain⟨d1,d2⟩:=g2.Aaz hG q2
   rw [if_neg (by rw [d1];decide)]
   have hR:∀p∈k::(P1++P2),Bh s p:=fun p hp=>by
    rcases Adb.1 hp with rfl|hp
    ·exact hat.liv
    ·rcases Acj.1 hp with hp|hp
     ·exact hQl p (by simp [hp])
     ·exact hQl p (by simp [hp])
   have hsm:=d2.same hR q3'
   have hl1:=Ja g1 ha
   have hl2:=Jc g3 hb
   have hdel:(Cr (l1++[(key,v0)]++l2) key).1=l1++l2:=by rw [MP hl1 hl2,Sn];simp
   have hisk:isK (l1++[(key,v0)]++l2) key=true:=by rw [Ep hl1 hl2,Hr]
   have hLf:Lf (BN s c).1 (a++b) (va++vb) (l1++l2) (P1++P2):=by
    have w1:=g1.stay (t:=(BN s c).1) (fun p hp=>hsm p (by simp [hp]))
    have w3:=g3.stay (t:=(BN s c).1) (fun p hp=>hsm p (by simp [hp]))
    exact w1.join w3
   have hko':KO (a++b):=by
    obtain⟨k1,k2,k3⟩:=KO.app.1 hko
    exact KO.app.2 ⟨k1,(KO.cons.1 k2).2.1,fun x hx y hy=>k3 x hx y (Acy _ hy)⟩
   have hso:A3 ⟨true,a++b,va++vb,[]⟩=true:=by
    refine CH.2 ⟨hko',by simp at hvl⊢;omega,fun x hx=>?_⟩
    rcases Acj.1 hx with hx|hx
    ·exact hv16 x (by simp [hx])
    ·exact hv16 x (by simp [hx])
   have hnd2:Nd (BN s c).1 (Tr (BN s c).1 0) (decide (0=0)) ⟨true,a++b,va++vb,[]⟩ (l1++l2) (P1++P2):=by
    rw [decide_eq_true rfl];exact .mkl rfl hLf
   have hzz:A0 (⟨true,a++b,va++vb,[]⟩:AA)≤340:=by
    rw [size_leaf (by simp at hvl⊢;omega)]
    simp only [Acl,Acs,Ael,Dr,C1] at hsz⊢
    omega
   rcases F4 d2.gd (h:=0) (z:=0) hnd2 hso hzz (by unfold Bh;rw [(hsm k (by simp)).1];exact hat.liv) (Adg _) q1 with ⟨w1,P',w2,w3⟩|⟨w1,w2⟩
   ·refine .inl ⟨w1,by rw [hisk],.inr ⟨hisk,P',?_,by rw [hdel];exact w3⟩⟩
    refine((d2.then w2 (Adp _) hR q1 q3').perm ?_ (Adp _)).mono (by omega)
    refine Adw.2 fun a=>?_
    simp only [Aee,Aem];omega
   ·exact .inr ⟨w1,by have:=d2.fr;omega⟩
  ·rw [Tc hlz hln hf]
   obtain⟨va,vb,l1,l2,P1,P2,rfl,ev,rfl,rfl,g1,g3⟩:=OG n2
   have hl1:=Ja g1 ha
   have hl2:=Jc g3 hb
   have hisk:isK (l1++l2) key=false:=by
    have:=Ep (m:=[]) hl1 hl2
    rw [Pk,Adr] at this;exact this
   exact .inl ⟨rfl,by rw [hisk],.inl ⟨hisk,rfl⟩⟩
theorem XV{key:List UInt8}{h:Nat} (ihh:Qj key h):Qj key (h+1):=by
  intro s k l P hG ⟨n,Q,hat,hne,eP,hn⟩ hnd
  subst eP
  rw [decide_eq_false (Aez _)] at hn
  obtain⟨n1,n2⟩:=hn.inner
  have ef:=D8 hat.sound n1
  obtain⟨ks,cs,rfl⟩:∃ks cs,n=⟨false,ks,[],cs⟩:=⟨_,_,ef⟩
  simp only at n2 hne
  obtain⟨hko,hcl,hrng⟩:=B7.1 hat.sound
  have hlv:=hat.level (x:=((h+1+1:Nat):Int)) (by show false=_;exact(decide_eq_false (by omega)).symm)
  have hlz:(AZ s k ((h+1+1:Nat):Int)).2=0:=by rw [hlv]
  have hln:(AZ s k ((h+1+1:Nat):Int)).1=⟨false,ks,[],cs⟩:=by rw [hlv]
  obtain⟨a,b,rfl,hf,ha,hb⟩:=JG hat.sound key
  obtain⟨ca,c,cb,rfl,ec⟩:=I1 cs (i:=a.length) (by rw [hcl];simp;omega)
  have ecb:cb.length=b.length:=by simp at hcl;omega
  have e0:(⟨false,a++b,[],ca++[c]++cb⟩:AA).kids.getD a.length 0=c:=by show(ca++[c]++cb).getD a.length 0=c;rw [←ec];exact Ez
  have n2':Kd (Tr s (h+1)) (a++[]++b) (ca++[c]++cb) l Q:=by simpa using n2
  obtain⟨l1,m,l2,P1,Pm,P2,rfl,rfl,g1,g2,g3,g4,g5⟩:=n2'.focus (by simpa using hko) ec rfl
  have hl1:∀x∈l1,Lt x.1 key:=fun x hx=>by
   obtain⟨p,p1,p2⟩:=g1.below x hx
   exact Ip p2 (ha p p1)
  have hl2:∀x∈l2,Lt key x.1:=fun x hx=>by
   obtain⟨p,p1,p2⟩:=g3.Qt x hx
   exact Ip (hb p p1) p2
  have hp:(k::(P1++Pm++P2)).Perm (Pm++(k::(P1++P2))):=Adw.2 fun a=>by
     simp only [Aee,Aem];omega
  obtain⟨q1,q2,q3⟩:=Afi.1 (hp.nodup_iff.1 hnd)
  have q3':∀p∈k::(P1++P2),p∉Pm:=fun p h1 h2=>q3 p h2 p h1 rfl
  have hR:∀p∈k::(P1++P2),Bh s p:=fun p hp=>by
   rcases Adb.1 hp with rfl|hp
   ·exact hat.liv
   ·exact(Acj.1 hp).elim (g1.live p) (g3.live p)
  rw [NV hlz hln hf (u:=BS s c key (h+1)) (by rw [e0])]
  have hisk:isK (l1++m++l2) key=isK m key:=Ep hl1 hl2
  have hdel:(Cr (l1++m++l2) key).1=l1++(Cr m key).1++l2:=by rw [MP hl1 hl2]
  have ih:=ihh hG g2 q1
  generalize BS s c key (h+1)=u at ih⊢
  rcases ih with ⟨w1,w2,⟨w3,w4⟩|⟨w3,P',w4,w5⟩⟩|⟨w1,w2⟩
  ·rw [if_pos (.inr (by rw [w2,w3]))]
   exact .inl ⟨w1,by rw [w2,hisk],.inl ⟨by rw [hisk,w3],w4⟩⟩
  ·rw [if_neg (by rw [w1,w2,w3];simp)]
   have hsm:=w4.same hR q3'
   have w6:=w4.frame hR q2 q3'
   have hp2:(P'++(k::(P1++P2))).Perm (k::(P1++P'++P2)):=Adw.2 fun a=>by
     simp only [Aee,Aem];omega
   have hnd2:=hp2.nodup_iff.1 w6.nd
   have w7:=w6.perm hp hp2.symm
   have hat':=hat.stay (hsm k (Acu ..))
   have g1':=g1.stay (fun p hp=>hsm p (by simp [hp]))
   have g3':=g3.stay (fun p hp=>hsm p (by simp [hp]))
   have ba:∀k∈a,∀x∈(Cr m key).1,¬Lt x.1 k:=fun p hp x hx=>g4 p hp x (HP hx)
   have bb:∀k∈b,∀x∈(Cr m key).1,Lt x.1 k:=fun p hp x hx=>g5 p hp x (HP hx)
   by_cases h2:u.2.1.other<0∧u.2.1.size<80
   ·rw [if_pos h2]
    obtain⟨n0,Q0,b1,b2,eP',b4⟩:∃n0 Q0,At u.1 u.2.1.page n0∧u.2.1.size=A0 n0∧P'=u.2.1.page::Q0∧Nd u.1 (Tr u.1 h) (decide (h=0)) n0 (Cr m key).1 Q0:=by
     rcases w5 with ⟨_,n0,Q0,b1,b2,e,_,b4⟩|⟨z1,_⟩
     ·exact⟨n0,Q0,b1,b2,e,b4⟩
     ·omega
    subst eP'
    have hz0:A0 n0≤79:=by have:=h2.2;omega
    have hsz:=hat.size
    rw [size_inner] at hsz
    have e1:(ca++[c]++cb).set a.length u.2.1.page=ca++[u.2.1.page]++cb:=by rw [←ec,Gb]
    simp only [e1]
    have fin:∀{r:PD×MdD×Int}{A:List Int}{l:List KV},(k::(P1++(u.2.1.page::Q0)++P2)).Perm A→l=l1++(Cr m key).1++l2→((r.2.2=0∧∃P'',Mv u.1 r.1 A P'' 4∧Out r.1 (h+1) 0 r.2.1 l P'')∨(r.2.2=190∧u.1.free<4))→
      ((r.2.2=0∧true=isK (l1++m++l2) key∧((isK (l1++m++l2) key=false∧r.1=s)∨(isK (l1++m++l2) key=true∧∃P'',Mv s r.1 (k::(P1++Pm++P2)) P'' (4*(h+1+1))∧Out r.1 (h+1) 0 r.2.1 (Cr (l1++m++l2) key).1 P'')))∨(r.2.2=190∧s.free<4*(h+1+1))):=by
     intro r A l hA el hr
     rcases hr with ⟨y1,P2',y2,y3⟩|⟨y1,y2⟩
     ·exact .inl ⟨y1,by rw [hisk,w3],.inr ⟨by rw [hisk,w3],P2',(w7.trans (y2.perm hA (Adp _))).mono (by omega),by rw [hdel,←el];exact y3⟩⟩
     ·exact .inr ⟨y1,by have:=w4.fr;omega⟩
    by_cases hbe:b=[]
    ·-- the kid is the last one:the one ahead of it
     subst hbe
     rcases g3 with ⟨_,rfl,rfl,rfl⟩|⟨_,_,q,_⟩
     ·rcases g1' with ⟨rfl,_⟩|⟨a',kk,rfl,r1,r2⟩
      ·exact absurd rfl hne
      ·have hca:ca.length=a'.length+1:=by rw [ec];simp
       obtain⟨ca',c1,cx,rfl,ec'⟩:=I1 ca (i:=a'.length) (by omega)
       have hcx:cx=[]:=Acm (by simp at hca;omega)
       subst hcx
       have r1':Kd (Tr u.1 (h+1)) (a'++[]++[]) (ca'++[c1]++[]) l1 P1:=by simpa using r1
       have hka:KO (a'++[kk]):=(KO.app.1 hko).1
       obtain⟨x1,m1,x2,X1,Y1,X2,rfl,rfl,f1,f2,f3,f4,f5⟩:=r1'.focus (by simpa using (KO.app.1 hka).1) ec' rfl
       rcases f3 with ⟨_,_,rfl,rfl⟩|⟨_,_,q,_⟩
       ·obtain⟨v1,V1,va,vb,rfl,vd⟩:=Kd.one.1 f2
        refine fin (A:=k::(X1++(c1::V1++u.2.1.page::Q0)++[])) (l:=x1++(m1++(Cr m key).1)++[]) ?_ (by simp) ?_
        ·refine Adw.2 fun a=>?_
         simp only [Aee,Aem,Age];omega
        ·have hm:=TM w4.gd (i0:=a'.length+1) (a:=a') (b:=[]) (kk:=kk) (ca:=ca') (cb:=[]) (c1:=c1) (c2:=u.2.1.page) (l1:=x1) (l2:=[]) (P1:=X1) (P2:=[]) hat'.liv ec' rfl (by simpa using hka)
          (fun p hp=>hrng p (by simp at hp⊢;simp [hp])) (by rw [size_inner];simp only [Acl,Acs,Ael,Dr,C1] at hsz⊢;omega) (by simp) f1 (.inl ⟨rfl,rfl,rfl,rfl⟩) va vd b1 b4
          (by have:=va.size;omega) (.inl vb) (fun x hx=>r2 x (by simp [hx])) (fun x hx=>ba kk (by simp) x hx)
          (fun p hp x hx=>(Acj.1 hx).elim (f4 p hp x) (ba p (by simp [hp]) x)) (fun p hp=>by cases hp) ?_
         ·have e2:(ca'++[c1]++[]++[u.2.1.page]++[]:List Int)=ca'++[c1,u.2.1.page]++[]:=by simp
          have e3:(a'++[kk]).length=a'.length+1:=by simp
          rw [e2,e3]
          exact hm
         ·refine(List.Perm.nodup_iff ?_).1 hnd2
          refine Adw.2 fun a=>?_
          simp only [Aee,Aem,Age];omega
       ·cases q
     ·cases q
    ·-- the one behind it
     rcases g3' with ⟨q,_⟩|⟨kk,b',rfl,r1,r2⟩
     ·exact absurd q hbe
     ·obtain⟨cx,c2,cb',rfl,ec'⟩:=I1 cb (i:=0) (by rw [ecb];simp)
      have hcx:cx=[]:=Acm ec'
      subst hcx
      have r1':Kd (Tr u.1 (h+1)) ([]++[]++b') ([]++[c2]++cb') l2 P2:=by simpa using r1
      have hkb:KO (kk::b'):=(KO.app.1 hko).2.1
      obtain⟨x1,m2,x2,X1,Y1,X2,rfl,rfl,f1,f2,f3,f4,f5⟩:=r1'.focus (by simpa using (KO.cons.1 hkb).2.1) rfl rfl
      rcases f1 with ⟨_,_,rfl,rfl⟩|⟨_,_,q,_⟩
      ·obtain⟨v2,V2,va,vb,rfl,vd⟩:=Kd.one.1 f2
       refine fin (A:=k::(P1++(u.2.1.page::Q0++c2::V2)++X2)) (l:=l1++((Cr m key).1++m2)++x2) ?_ (by simp) ?_
       ·refine Adw.2 fun a=>?_
        simp only [Aee,Aem,Age];omega
       ·have hm:=TM w4.gd (i0:=a.length) (a:=a) (b:=b') (kk:=kk) (ca:=ca) (cb:=cb') (c1:=u.2.1.page) (c2:=c2) (l1:=l1) (l2:=x2) (P1:=P1) (P2:=X2) hat'.liv ec (by simp at ecb;omega) (by simpa using hko)
          (fun p hp=>hrng p (by simp at hp⊢;rcases hp with hp|hp<;>simp [hp])) (by rw [size_inner];simp only [Acl,Acs,Ael,Dr,C1] at hsz⊢;omega) (by simp) g1' f3 b1 b4 va vd
          (by have:=va.size;omega) (.inr vb) (fun x hx=>bb kk (by simp) x hx) (fun x hx=>r2 x (by simp [hx]))
          (fun p hp x hx=>(Acj.1 hx).elim (ba p hp x) (fun hx e=>r2 x (by simp [hx]) (FT e ((KO.app.1 hko).2.2 p hp kk (by simp)))))
          (fun p hp x hx=>(Acj.1 hx).elim (bb p (by simp [hp]) x) (f5 p hp x)) ?_
        ·have e2:(ca++[u.2.1.page]++([]++[c2]++cb'):List Int)=ca++[u.2.1.page,c2]++cb':=by simp
         have e3:a++kk::b'=a++[kk]++b':=by simp
         rw [e2,e3]
         exact hm
        ·refine(List.Perm.nodup_iff ?_).1 hnd2
         refine Adw.2 fun a=>?_
         simp only [Aee,Aem,Age];omega
      ·simp at q
   ·rw [if_neg h2]
    have w5':Out u.1 h 1 u.2.1 (Cr m key).1 P':=by
     rcases w5 with ⟨z1,n0,Q0,b1,b2,rfl,_,b4⟩|w5
     ·refine .inl ⟨z1,n0,Q0,b1,b2,rfl,GW.1 (ZN b1.sound ?_),b4⟩
      have:¬u.2.1.size<80:=fun q=>h2 ⟨z1,q⟩
      omega
     ·exact .inr w5
    rcases Rn w4.gd hat' ec hne g1' g3' w5' ba bb hnd2 with ⟨y1,P2',y2,y3⟩|⟨y1,y2⟩
    ·refine .inl ⟨y1,by rw [hisk,w3],.inr ⟨by rw [hisk,w3],P2',(w7.trans y2).mono (by omega),?_⟩⟩
     rw [hdel]
     rcases y3 with ⟨z1,n0,Q0,b1,b2,rfl,_,b4⟩|y3
     ·exact .inl ⟨z1,n0,Q0,b1,b2,rfl,Adg _,b4⟩
     ·exact .inr y3
    ·exact .inr ⟨y1,by have:=w4.fr;omega⟩
  ·rw [if_pos (.inl (by rw [w1];decide))]
   exact .inr ⟨w1,by omega⟩
theorem RO{key:List UInt8}:∀h,Qj key h
 |0=>XX
 |h+1=>XV (RO h)
end Go.Gk.Tre
end
section
namespace Go.Gk.Tre
open Go Go.Gk Go.Gk.Dev Go.Gk.Cch Go.Gk.Pgr Go.Gk.Chn Go.Gk.Node
attribute [local irreducible] gwp gws xwp
def NI(P:Program) (f:FuncId):Prop:=∀(x:Nat) {d:Ae}{s:PD}{dv pv w cv:Value}{L:List Ae}{bt:Nat}{Tt:TypeId}{r h c k:Int}{key cell:List UInt8},x≤1000000→PgT d s dv pv L→AJ d w key→AJ d cv cell→key.length≤1000→cell.length≤1000→ -1≤k→k≤16384→
 Aw P f [.pointer (some ⟨bt,0,none⟩),.int .i64 k,.int .i64 ((x+1:Nat):Int),w,cv] d (tb bt Tt pv r h c::L) (Ret fun v d' L'=>Le d d'∧∃ua uc L2,v=.tuple #[mdV (BW s k key cell (x+1)).2.1 ua uc,.bool (BW s k key cell (x+1)).2.2.1,.int .i64 (BW s k key cell (x+1)).2.2.2]∧
  AJ d' (.slice ua (BW s k key cell (x+1)).2.1.key.length uc) (BW s k key cell (x+1)).2.1.key∧MOk (BW s k key cell (x+1)).2.1∧L'=tb bt Tt pv r h c::L2∧PgT d' (BW s k key cell (x+1)).1 dv pv L2)
def KJ(a0 a1 a2 a3 a4 a5 a6 a7:Nat):AX:=⟨116,[(.cell 10 (some 4)),(.tmp 11),(.tmp 12)],(.seq (rG (o1 10 (.alo (.agg #[(.int .i64 0),(.int .i64 0),(.slice none 0 0),(.int .i64 0)])) (o1 11 (.mv (.const (.bool false))) (o1 12 (.mv (kZ 0)) .done)))) (.seq (rG (om 24 0 (om 25 1 (om 26 2 (oc 27 a0 [(tP 24),(tP 25),(tP 26)] (om 23 27 (oe 28 23 0 (oe 29 23 1 (o1 13 (.alo (.agg #[(.bool false),(.slice none 0 0),(.slice none 0 0),(.slice none 0 0)])) (o0 (.st 4 (tP 13) (tP 28)) (om 14 29 .done))))))))))) (.seq (.seq (rG (om 30 14 (ob 31 .neq (tP 30) (kZ 0) .done))) (.cond (tP 31) (.seq (rG (o1 32 (.bld [(0,1),(1,1),(2,1),(3,1)] [(.int .i64 0),(.int .i64 0),(.slice none 0 0),(.int .i64 0)] []) (om 33 14 (o0 (.st 4 (tP 10) (tP 32)) (o1 11 (.mv (.const (.bool false))) (om 12 33 .done)))))) .ret) .skip)) (.seq (rG (o1 35 (.ld (some 4) (tP 13)) (om 36 3 (oc 37 a1 [(tP 35),(tP 36)] (om 34 37 (oe 38 34 0 (oe 39 34 1 (om 15 38 (om 16 39 .done))))))))) (.seq (.seq (rG (om 40 2 (ob 41 .eql (tP 40) (kZ 1) .done))) (.cond (tP 41) (.seq (.seq (rG (om 42 16 .done)) (.cond (tP 42) (.seq (.seq (rG (om 43 0 (oj 44 2 13 (ol 45 44 (om 46 15 (oI 47 1 45 46 (ol 48 47 (oc 49 a2 [(tP 43),(tP 48)] (om 17 49 .done))))))))) (.seq (rG (om 50 17 (ob 51 .neq (tP 50) (kZ 0) .done))) (.cond (tP 51) (.seq (rG (o1 52 (.bld [(0,1),(1,1),(2,1),(3,1)] [(.int .i64 0),(.int .i64 0),(.slice none 0 0),(.int .i64 0)] []) (om 53 17 (o0 (.st 4 (tP 10) (tP 52)) (o1 11 (.mv (.const (.bool false))) (om 12 53 .done)))))) .ret) .skip))) (rG (oj 54 2 13 (ol 55 54 (om 56 15 (om 57 4 (oI 58 1 55 56 (o0 (.st 1 (tP 58) (tP 57)) .done)))))))) (.reg true (p1 59 (.fld 1 (tP 13)) (pl 60 59 (pm 61 15 (pm 62 3 (p1 66 (.fld 2 (tP 13)) (pl 67 66 (pm 68 15 (pm 69 4 (.par (o1 70 (.bsl 1 1 [(.slice none 0 0)] [(0,(tP 69))]) .done) (oc 63 a3 [(tP 62)] (o1 64 (.bsl 1 1 [(.slice none 0 0)] [(0,(tP 63))]) (oc 65 a4 [(tP 60),(tP 61),(tP 64)] (p1 72 (.fld 1 (tP 13)) .done)))) (oc 71 a4 [(tP 67),(tP 68),(tP 70)] (.bar (o0 (.st 1 (tP 72) (tP 65)) (p1 73 (.fld 2 (tP 13)) (o0 (.st 1 (tP 73) (tP 71)) .done))))))))))))))))) (.seq (rG (om 75 0 (om 76 1 (o1 77 (.ld (some 4) (tP 13)) (oc 78 a5 [(tP 75),(tP 76),(tP 77)] (om 74 78 (oe 79 74 0 (oe 80 74 1 (o1 18 (.alo (.agg #[(.int .i64 0),(.int .i64 0),(.slice none 0 0),(.int .i64 0)])) (o0 (.st 4 (tP 18) (tP 79)) (om 19 80 .done))))))))))) (.seq (rG (o1 81 (.ld (some 4) (tP 18)) (om 82 16 (o1 83 (.un .not (tP 82)) (om 84 19 (o0 (.st 4 (tP 10) (tP 81)) (om 11 83 (om 12 84 .done)))))))) .ret))) .skip)) (.seq (rG (om 86 0 (oj 87 3 13 (ol 88 87 (om 89 15 (oI 90 1 88 89 (ol 91 90 (om 92 2 (ob 93 .sub (tP 92) (kZ 1) (om 94 3 (om 95 4 (oc 96 a6 [(tP 86),(tP 91),(tP 93),(tP 94),(tP 95)] (om 85 96 (oe 97 85 0 (oe 98 85 1 (oe 99 85 2 (o1 20 (.alo (.agg #[(.int .i64 0),(.int .i64 0),(.slice none 0 0),(.int .i64 0)])) (o0 (.st 4 (tP 20) (tP 97)) (om 21 98 (om 14 99 .done)))))))))))))))))))) (.seq (.seq (rG (om 100 14 (ob 101 .neq (tP 100) (kZ 0) .done))) (.cond (tP 101) (.seq (rG (o1 102 (.bld [(0,1),(1,1),(2,1),(3,1)] [(.int .i64 0),(.int .i64 0),(.slice none 0 0),(.int .i64 0)] []) (om 103 14 (o0 (.st 4 (tP 10) (tP 102)) (o1 11 (.mv (.const (.bool false))) (om 12 103 .done)))))) .ret) .skip)) (.seq (rG (om 105 0 (om 106 1 (o1 107 (.ld (some 4) (tP 13)) (om 108 15 (o1 109 (.ld (some 4) (tP 20)) (oc 110 a7 [(tP 105),(tP 106),(tP 107),(tP 108),(tP 109)] (om 104 110 (oe 111 104 0 (oe 112 104 1 (o1 22 (.alo (.agg #[(.int .i64 0),(.int .i64 0),(.slice none 0 0),(.int .i64 0)])) (o0 (.st 4 (tP 22) (tP 111)) (om 14 112 .done))))))))))))) (.seq (rG (o1 113 (.ld (some 4) (tP 22)) (om 114 21 (om 115 14 (o0 (.st 4 (tP 10) (tP 113)) (om 11 114 (om 12 115 .done))))))) .ret)))))))))⟩
set_option maxRecDepth 4000 in
set_option maxHeartbeats 4000000 in
theorem Zu{P:Program}{f f1 f2 f3 f4 f5 f6 f8:FuncId} (hd:JU P f=some (KJ f1 f2 f3 f4 f5 f6 f f8)) (h1:HY P f1) (h2:I5 P f2 findD) (h3:LB P f3) (h4:DX AM 1 P f4) (h5:Jk RBs P f5) (h6:Hq P f6) (h8:JN P f8):NI P f:=by
 intro x
 induction x using Nat.strongRecOn with
 |ind x ih=>
 intro d s dv pv w cv L bt Tt r h c k key cell hx hp hw hcv hkl hcl hk0 hk1
 obtain⟨bp,rfl⟩:=hp.ptr
 have hG:=hp.EX
 obtain⟨tc0,hp⟩:=hp
 obtain⟨wa,wc,rfl⟩:=hw.val
 obtain⟨ca,cc,rfl⟩:=hcv.val
 refine AE hd (Aca rfl) ?_
 show gwp P _ _ _ _ _
 apply Ac;apply Ad
 refine BU (fun b10 T10=>?_)
 (refine Af rfl (Ab rfl (Aa (Ac (Ad (Al rfl (Ab rfl (Ab rfl ?_))))))))
 refine Ba [_] (h1 (k:=k) (x:=((x+1:Nat):Int)) hp) rfl rfl (fun v d2 L2 hl ⟨_,cs,hk,hv,hi,L3,tc,e1,e2,hn,hp2,htc⟩=>?_)
 subst e1;subst e2
 have hp2:PgT d2 s dv (.pointer (some ⟨bp,0,none⟩)) L3:=⟨tc,hp2⟩
 rw [show AZ {s with tc:=tc0} k ((x+1:Nat):Int)=AZ s k ((x+1:Nat):Int) from rfl] at hn⊢
 obtain⟨ka,kc,va,vc,ia,ic,rfl⟩:=hn.cells
 (refine AU rfl (Ao rfl rfl (Ao rfl rfl (BU (fun _ _=>?_)))))
 rename_i b13 T13
 refine Bm 0 rfl rfl rfl rfl (Ach _) rfl ?_
 by_cases he:(AZ s k ((x+1:Nat):Int)).2=0
 ·obtain⟨hr,hlf⟩:=Ix he
  obtain⟨n,hne⟩:∃n,(AZ s k ((x+1:Nat):Int)).1=n:=⟨_,rfl⟩
  rw [hne] at hn hr hlf⊢
  obtain⟨hfit,hk64⟩:=Kw hr
  obtain⟨i,b,hfd⟩:∃i b,findD n key=(i,b):=⟨_,_,rfl⟩
  have hile:i≤n.keys.length:=by have:=MN (n:=n) (key:=key);rw [hfd] at this;exact this
  rw [he]
  have hw2:=RSl.mono (R:=AM) AW hw hl
  have hcv2:=RSl.mono (R:=AM) AW hcv hl
  have hlv:n.leaf=true→n.vals.length=n.keys.length:=JT hr
  have hli:n.leaf=false→n.kids.length=n.keys.length+1:=Hc hr
  have hkd:=PQ hr
  clear hr
  have hnk:=hn
  obtain⟨kv,vv,iv,q,r1,r2,r3⟩:=hn
  cases q
  (refine Ab rfl (Aa (Ac (Ac (Ad (Ab rfl (AP rfl rfl (Aa (Ar rfl (by omega) (Ak (Ac (Ad (Bd 0 rfl rfl rfl (Am rfl ?_))))))))))))))
  refine IJ rfl (v:=.tuple #[.int .i64 i,.bool b]) (fun d1 hl1 hk1=>by
   have:=h2 (DH.Ij ⟨_,_,_,rfl,r1,r2,r3⟩ hl1 (hk1 _ (by simp)) (hk1 _ (by simp)) (hk1 _ (by simp))) (RSl.mono (R:=AM) AW hw2 hl1)
   rw [hfd] at this;exact this) ?_
  (refine AU rfl (Ao rfl rfl (Ao rfl rfl (Ab rfl (Af rfl (Aa ?_))))))
  apply Ac;apply Ac;apply Ad
  (refine Ab rfl (AO rfl rfl (Aa ?_)))
  by_cases hx0:x=0
  ·subst hx0
   have hvl:=hlv (by rw [hlf];rfl)
   clear hlv hli hlf
   refine Ax rfl (by omega) ?_
   refine FR (fun ρ d' L'=>Le d2 d'∧∃cs' n' s' hk' hv' hi' L4 Lr,BC ρ [(0,.pointer (some ⟨bt,0,none⟩)),(1,.int .i64 k),(10,.pointer (some ⟨b10,0,none⟩)),(13,.pointer (some ⟨b13,0,none⟩)),(16,.bool b)]∧DH d' cs' n' hk' hv' hi'∧Fit n' 600∧PgT d' s' dv (.pointer (some ⟨bp,0,none⟩)) L4∧
    BW s k key cell (0+1)=((A9 s' k n').1,(A9 s' k n').2.1, !b,(A9 s' k n').2.2)∧Lr.Perm [hk',hv',hi']∧L'=bx b13 T13 cs'::bx b10 T10 [.int .i64 0,.int .i64 0,.slice none 0 0,.int .i64 0]::(Lr++tb bt Tt (.pointer (some ⟨bp,0,none⟩)) r h c::L4)) ?_ ?_
   ·cases b with
    |true=>
     have hilt:i<n.keys.length:=by have:=Ni (n:=n) (key:=key) (by rw [hfd]);rw [hfd] at this;exact this
     have hiv:i<n.vals.length:=by omega
     have hI:=S7 (cell:=cell) he hne hfd
     have hgv:n.vals.getD i []=n.vals[i]:=by rw [Acf,Ace hiv];rfl
     rw [hgv] at hI
     obtain⟨b1,T1,l1,c1,cs1,q1,rfl,hcl1,hcs,hle1,⟨u,rfl,hu⟩,hset⟩:=Aq.at (by omega) r2 hiv
     cases q1
     have c0:=hcs 0 _ rfl
     (refine Ac (Ad (Af rfl (Aa (Bf rfl (Ac (Ac (Ad (Al rfl (Ai rfl (Ah rfl (Aj 0 rfl rfl) (Ab rfl (Bw _ rfl rfl rfl (by omega) (Ah rfl (Aj 3 rfl (by assumption)) ?_))))))))))))))
     refine Ba [_,_,_,_,_] (h3 hp2 hu) rfl rfl (fun v d3 L4 hl3 ⟨_,e3,L5,e4,hp5⟩=>?_)
     subst e3;subst e4
     by_cases hz:(BN s n.vals[i]).2=0
     ·rw [if_neg (fun q=>q hz)] at hI
      rw [hz]
      have hrow:=hset [.slice ca cell.length cc] cell rfl ⟨_,rfl,hcv2⟩
      (refine Ab rfl (Aa (Ac (Ad (Ab rfl (AP rfl rfl (Aa (Ar rfl (by omega) (Ak (Ad (Ai rfl (Ah rfl (Aj 0 rfl rfl) (Ab rfl (Am rfl (Bw _ rfl rfl rfl (by omega) ?_)))))))))))))))
      refine AY 3 (patch l1 (i*1) [.slice ca cell.length cc]) rfl rfl rfl rfl (by omega) rfl rfl ?_
      (apply Aa)
      refine⟨hl3,_,{n with vals:=n.vals.set i cell},_,hk,_,hi,L5,[_,_,_],⟨rfl,rfl,rfl,rfl,rfl,trivial⟩,⟨_,_,_,rfl,r1.D7 hl3,hrow.D7 hl3,r3.Ie hl3⟩,⟨?_,?_,?_,hfit.kl,fun y hy=>?_⟩,hp5,hI,Adp _,?_⟩
      ·have:=hfit.k;show n.keys.length≤600;omega
      ·have:=hfit.v;show(n.vals.set i cell).length≤600;rw [Adf];omega
      ·have:=hfit.i;show n.kids.length≤600;omega
      ·rcases O9 hy with rfl|hy
       ·exact hcl
       ·exact hfit.vl y hy
      ·rfl
     ·rw [if_pos hz] at hI
      rw [hI]
      (refine Ab rfl (Aa (Ac (Ad (Ab rfl (AP rfl rfl (Aa (Ax rfl (by omega) (Ac (Ad (BI rfl (Ab rfl ?_))))))))))))
      refine Bm 1 rfl rfl rfl rfl (Ach _) rfl ?_
      (refine Af rfl (Ab rfl (Aa (An ?_))))
      exact A8 [mdV Cc none 0,.bool false,.int .i64 (BN s n.vals[i]).2] ⟨AS 1 rfl rfl rfl,Av rfl,Av rfl,trivial⟩ (d':=d3) (L':=tb bt Tt (.pointer (some ⟨bp,0,none⟩)) r h c::L5) (Vs.drop (.cons _ (.cons _ (.cons _ (.cons _ (.cons _ (Acb _))))))) ⟨hl.trans hl3,none,0,L5,rfl,RSl.nil,D5,rfl,hp5⟩
    |false=>
     have hI:=Tb (cell:=cell) he hne hfd
     have hfk:=hfit.k
     have hfv:=hfit.v
     (refine Ac (Ad (Af rfl (Aa (AR rfl ?_)))))
     refine Bs [_,_] (hk::hv::hi::tb bt Tt (.pointer (some ⟨bp,0,none⟩)) r h c::L3) rfl ?_
     (refine Ai rfl (Ah rfl (Aj 0 rfl rfl) (Ab rfl (Am rfl (Ai rfl (Ah rfl (Aj 0 rfl rfl) (Ab rfl (Am rfl ?_))))))))
     refine Gj (α:=Nat×TypeId) (β:=Option Addr×Nat×Ae) [(0,.pointer (some ⟨bt,0,none⟩)),(1,.int .i64 k),(10,.pointer (some ⟨b10,0,none⟩)),(13,.pointer (some ⟨b13,0,none⟩)),(16,.bool false),(67,.slice va n.vals.length vc),(68,.int .i64 i)]
      (fun x=>[(70,.slice (some ⟨x.1,0,none⟩) 1 1)]) (fun x d L=>L=[bx x.1 x.2 [.slice ca cell.length cc]]) (fun y=>[(65,.slice y.1 (n.keys.length+1) y.2.1),(72,.pointer (some ⟨b13,1,none⟩))])
      (fun y d' M=>Aq 1 RBs d' (.slice y.1 (n.keys.length+1) y.2.1) (BX n.keys i key) y.2.2∧M=y.2.2::hv::hi::tb bt Tt (.pointer (some ⟨bp,0,none⟩)) r h c::L3) [] _ rfl
      (fun x d d' M hl h=>h) (fun y d d' M hl h=>⟨h.1.D7 hl,h.2⟩) (fun x=>rfl) (fun y=>rfl) rfl ⟨rfl,rfl,rfl,rfl,rfl,rfl,rfl,trivial⟩ ?_ ?_ ?_
     ·refine D9 (v0:=.slice ca cell.length cc) rfl rfl (fun b70 T70=>?_)
      (apply A4)
      exact⟨_,rfl,(b70,T70),⟨rfl,trivial⟩,rfl⟩
     ·refine Bi rfl (h4 hw2 (by omega)) (fun v d3 L3' _ ⟨e0,hc,e1,hgc⟩=>?_)
      subst e0;subst e1
      obtain⟨ga0,gc0,rfl⟩:=hgc.val
      refine LG (fun d4 hl4 hg4=>?_)
      have hkey4:AJ d4 (.slice ga0 key.length gc0) key:=Aq.rsl (R:=AM) (sz:=1) hgc AW (by omega) hl4 hg4
      refine D9 (v0:=.slice ga0 key.length gc0) rfl rfl (fun b64 T64=>?_)
      refine Dx (A:=[_,_]) rfl rfl (h5 (r1.D7 hl4) hile (by omega) ⟨_,rfl,hkey4⟩ Fq) (fun v d5 L5 hl5 ⟨e2,h',e3,hg⟩=>?_)
      subst e2;subst e3
      have hgl:=EW (y:=key) hile
      obtain⟨ga,gc,rfl⟩:=hg.val
      rw [hgl] at hg⊢
      (refine Ai rfl (A4 ?_))
      exact⟨_,rfl,(ga,gc,h'),⟨rfl,rfl,trivial⟩,hg,rfl⟩
     ·rintro⟨b70,T70⟩ ⟨ga,gc,h65⟩ ρ2 d3 M1 M2 hl3 hM1 ⟨hg65,hM2⟩
      subst hM1;subst hM2
      simp only at hg65⊢
      refine C3 (A:=[bx b70 T70 [.slice ca cell.length cc],hv]) (h5 (r2.D7 hl3) (show i≤n.vals.length by omega) (by omega) ⟨_,rfl,RSl.mono (R:=AM) AW hcv2 hl3⟩ Fq) (Aco _ (Adj (l₁:=[_]))) rfl (fun v d4 L4 hl4 ⟨e0,h71,e1,hg71⟩=>?_)
      subst e0;subst e1
      obtain⟨za,zc,rfl⟩:=hg71.val
      refine⟨_,_,Vs.refl _ _,?_⟩
      apply B1
      refine AY 0 [.bool n.leaf,.slice ga (n.keys.length+1) gc,.slice va n.vals.length vc,.slice ia n.kids.length ic] rfl rfl rfl rfl (Aca rfl) rfl rfl ?_
      (apply Ai;rfl)
      refine AY 0 [.bool n.leaf,.slice ga (n.keys.length+1) gc,.slice za (BX n.vals i cell).length zc,.slice ia n.kids.length ic] rfl rfl rfl rfl (Aca rfl) rfl rfl ?_
      (apply Aa)
      refine⟨hl3,_,{n with keys:=BX n.keys i key,vals:=BX n.vals i cell},s,h65,h71,hi,L3,[_,_,_],⟨rfl,rfl,rfl,rfl,rfl,trivial⟩,⟨_,_,_,rfl,hg65,hg71,r3.Ie hl3⟩,⟨?_,?_,?_,fun y hy=>?_,fun y hy=>?_⟩,hp2.mono hl3,hI,Adc _ _ _,?_⟩
      ·show(BX n.keys i key).length≤600
       rw [EW hile];omega
      ·show(BX n.vals i cell).length≤600
       rw [EW (by omega)];omega
      ·have:=hfit.i;show n.kids.length≤600;omega
      ·rcases Jy hy with rfl|hy
       ·exact hkl
       ·exact hfit.kl y hy
      ·rcases Jy hy with rfl|hy
       ·exact hcl
       ·exact hfit.vl y hy
      ·rfl
   ·rintro ρ d' L' ⟨hle,cs',n',s',hk',hv',hi',L4,Lr,hsl,hn',hfit',hp',hI,hpm,hLL⟩
    subst hLL
    rw [hI]
    obtain⟨ka',kc',va',vc',ia',ic',rfl⟩:=hn'.cells
    refine Df _ hsl ?_
    obtain⟨d4,hl4,v4,hn4⟩:=F0 hn'
    have hmo:=GL hp'.EX (n:=n') hk0 hk1 hfit'.kl
    (refine Ac (Ad (Al rfl (Ab rfl (Bd 0 rfl rfl rfl ?_)))))
    refine B6 _ _ (Vs.out [_,_] _ hpm v4) ?_
    refine Ba [_,_] (h6 (k:=k) (hp'.mono hl4) hn4 (hfit'.small (by omega))) rfl rfl (fun v d5 L5 hl5 ⟨_,ua,uc,L6,e5,hk5,e6,hp6⟩=>?_)
    subst e5;subst e6
    (refine AU rfl (Ao rfl rfl (Ao rfl rfl (BU (fun _ _=>?_)))))
    rename_i b18 T18
    refine Bm 0 rfl rfl rfl rfl (Ach _) rfl ?_
    (refine Ab rfl (Aa (Ac (Ad (Bd 0 rfl rfl rfl (Af rfl (Bt rfl (Ab rfl ?_))))))))
    refine Bm 2 rfl rfl rfl rfl (Ach _) rfl ?_
    (refine Af rfl (Ab rfl (Aa (An ?_))))
    exact A8 [mdV (A9 s' k n').2.1 ua uc,.bool (!b),.int .i64 (A9 s' k n').2.2] ⟨AS 2 rfl rfl rfl,Av rfl,Av rfl,trivial⟩ (d':=d5) (L':=tb bt Tt (.pointer (some ⟨bp,0,none⟩)) r h c::L6) (Vs.drop (.cons _ (.cons _ (.cons _ (Acb _))))) ⟨((hl.trans hle).trans hl4).trans hl5,ua,uc,L6,rfl,hk5,hmo,rfl,hp6⟩
  ·obtain⟨x,rfl⟩:∃y,x=y+1:=⟨x - 1,by omega⟩
   have hil:=hli (by rw [hlf];simp;omega)
   clear hlv hli hlf
   have hI:=NW (key:=key) (cell:=cell) he hne hfd
   have hii:i<n.kids.length:=by omega
   have hgk:n.kids.getD i 0=n.kids[i]:=by rw [Acf,Ace hii];rfl
   rw [hgk] at hI
   have hkb:=hkd _ (Ada hii)
   have hnk0:=hnk
   obtain⟨b1,T1,l1,c1,cs1,q1,rfl,hcl1,hcs,hle1,⟨rfl,hb1,hb2⟩, -⟩:=Aq.at (by omega) r3 hii
   cases q1
   have c0:=hcs 0 _ rfl
   refine Ar rfl (by omega) ?_
   (refine Ak (Ac (Ad (Al rfl (Ai rfl (Ah rfl (Aj 0 rfl rfl) (Ab rfl (Bw _ rfl rfl rfl (by omega) (Ah rfl (Aj 4 rfl (by assumption)) (Ab rfl (CU rfl rfl (by omega) (by omega) (Am rfl (Am rfl ?_)))))))))))))
   refine E5 (g:=93) (v:=.int .i64 ((x+1:Nat):Int)) (congrArg (Value.int .i64) (by push_cast;omega)) ?_
   skip
   refine Ba [_,_,_,_,_] (ih x (Nat.lt_succ_self x) (k:=n.kids[i]) (by omega) hp2 hw2 hcv2 hkl hcl (by omega) (by omega)) rfl rfl (fun v d3 L4 hl3 ⟨_,ua,uc,L5,e3,hk3,hm3,e4,hp5⟩=>?_)
   subst e3;subst e4
   generalize BW s n.kids[i] key cell (x+1)=U at hI hk3 hm3 hp5
   (refine AU rfl (Ao rfl rfl (Ao rfl rfl (Ao rfl rfl (BU (fun _ _=>?_))))))
   rename_i b20 T20
   refine Bm 0 rfl rfl rfl rfl (Ach _) rfl ?_
   by_cases hz:U.2.2.2=0
   ·rw [if_neg (fun q=>q hz)] at hI
    rw [hI,hz]
    have hmo:=PS hp5.EX (n:=n) (i:=i) hk0 hk1 hfit.kl hm3
    (refine Af rfl (Ab rfl (Aa (Ac (Ac (Ad (Ab rfl (AP rfl rfl (Aa (Ar rfl (by omega) (Ak (Ac (Ad (Al rfl (Ab rfl (Bd 1 rfl rfl rfl (Ab rfl (Bd 0 rfl rfl rfl ?_))))))))))))))))))
    refine Ba [_,_,_] (h8 (k:=k) (n:=n) (i:=i) (m:=U.2.1) hp5 (hnk0.mono hl3) ⟨by have:=hfit.k;omega,by have:=hfit.v;omega,by have:=hfit.i;omega,hfit.kl,hfit.vl⟩ hii (fun _=>hile) hm3 hk3) rfl rfl (fun v d6 L6 hl6 ⟨_,ua',uc',L7,e6,hk6,e7,hp7⟩=>?_)
    subst e6;subst e7
    (refine AU rfl (Ao rfl rfl (Ao rfl rfl (BU (fun _ _=>?_)))))
    rename_i b22 T22
    refine Bm 0 rfl rfl rfl rfl (Ach _) rfl ?_
    (refine Ab rfl (Aa (Ac (Ad (Bd 0 rfl rfl rfl (Af rfl (Ab rfl ?_)))))))
    refine Bm 3 rfl rfl rfl rfl (Ach _) rfl ?_
    (refine Af rfl (Ab rfl (Aa (An ?_))))
    exact A8 [mdV (Ci U.1 k n i U.2.1).2.1 ua' uc',.bool U.2.2.1,.int .i64 (Ci U.1 k n i U.2.1).2.2] ⟨AS 3 rfl rfl rfl,Av rfl,Av rfl,trivial⟩ (d':=d6) (L':=tb bt Tt (.pointer (some ⟨bp,0,none⟩)) r h c::L7) (Vs.drop (.cons _ (.cons _ (.cons _ (.cons _ (Acb _)))))) ⟨(hl.trans hl3).trans hl6,ua',uc',L7,rfl,hk6,hmo,rfl,hp7⟩
   ·rw [if_pos hz] at hI
    rw [hI]
    (refine Af rfl (Ab rfl (Aa (Ac (Ac (Ad (Ab rfl (AP rfl rfl (Aa (Ax rfl (by omega) (Ac (Ad (BI rfl (Ab rfl ?_))))))))))))))
    refine Bm 2 rfl rfl rfl rfl (Ach _) rfl ?_
    (refine Af rfl (Ab rfl (Aa (An ?_))))
    exact A8 [mdV Cc none 0,.bool false,.int .i64 U.2.2.2] ⟨AS 2 rfl rfl rfl,Av rfl,Av rfl,trivial⟩ (d':=d3) (L':=tb bt Tt (.pointer (some ⟨bp,0,none⟩)) r h c::L5) (Vs.drop (.cons _ (.cons _ (.cons _ (.cons _ (.cons _ (.cons _ (Acb _)))))))) ⟨hl.trans hl3,none,0,L5,rfl,RSl.nil,D5,rfl,hp5⟩
 ·rw [XH he]
  (refine Ab rfl (Aa (Ac (Ac (Ad (Ab rfl (AP rfl rfl (Aa (Ax rfl (by omega) (Ac (Ad (BI rfl (Ab rfl ?_)))))))))))))
  refine Bm 1 rfl rfl rfl rfl (Ach _) rfl ?_
  (refine Af rfl (Ab rfl (Aa (An ?_))))
  exact A8 [mdV Cc none 0,.bool false,.int .i64 (AZ s k ((x+1:Nat):Int)).2] ⟨AS 1 rfl rfl rfl,Av rfl,Av rfl,trivial⟩ (d':=d2) (L':=tb bt Tt (.pointer (some ⟨bp,0,none⟩)) r h c::L3) (Vs.drop (.cons _ (.cons _ (.cons _ (.cons _ (.cons _ (Acb _))))))) ⟨hl,none,0,L3,rfl,RSl.nil,D5,rfl,hp2⟩
end Go.Gk.Tre
end
section
namespace Go.Gk.Tre
open Go Go.Gk Go.Gk.Dev Go.Gk.Cch Go.Gk.Pgr Go.Gk.Chn Go.Gk.Node
theorem RA:∀(l:List Int) (s:PD),Pgr.AH s (Dj s l)
 |[],s=>Pgr.AH.refl s
 |k::l,s=>(Pgr.AH.drop s k).trans (RA l _)
theorem Nj:∀(n:Nat) (s:PD) (l:List Int),Pgr.AH s (BR s l n).1
 |0,s,l=>Pgr.AH.refl s
 |n+1,s,l=>by
  rw [BR]
  split
  ·exact(Pgr.AH.AT s).trans (Nj n _ _)
  ·exact Pgr.AH.AT s
theorem Te{s:PD}{l:List Int}{b:List UInt8}:∀i,Pgr.AH s (Chn.Dn s l b i)
 |0=>Pgr.AH.refl s
 |i+1=>(Te i).trans (Pgr.AH.put _ _ _)
theorem Z5(s:PD) (b:List UInt8):Pgr.AH s (BY s b).1:=by
 have h:Pgr.AH s (Chn.By s (AN b.length)).1:=by
  unfold Chn.By
  split
  ·exact Nj _ _ _
  ·exact(Nj _ _ _).trans (RA _ _)
 unfold BY
 dsimp only
 split
 ·exact h.trans (Te _)
 ·exact h
theorem Ro:∀(l:List Int) (s:PD),Pgr.AH s (Ds s l).1
 |[],s=>Pgr.AH.refl s
 |k::l,s=>by
  rw [Ds]
  split
  ·exact(Pgr.AH.drop s k).trans (Ro l _)
  ·exact Pgr.AH.drop s k
theorem X9(s:PD) (k n:Int):Pgr.AH s (DK s k n).1:=by
 unfold DK
 split
 ·exact Ro _ _
 ·exact Pgr.AH.refl s
theorem LZ(s:PD) (c:List UInt8):Pgr.AH s (BN s c).1:=by
 unfold BN
 split
 ·exact Pgr.AH.refl s
 ·split
  ·exact X9 _ _ _
  ·exact Pgr.AH.refl s
theorem LO(s:PD) (v:List UInt8):Pgr.AH s (BT s v).1:=by
 unfold BT
 split
 ·exact Pgr.AH.refl s
 ·exact Z5 s v
theorem HA(s:PD) (k:Int) (n:AA):Pgr.AH s (Bo s k n).1:=by
 unfold Bo
 split
 ·split
  ·exact Pgr.AH.put _ _ _
  ·split
   ·exact Pgr.AH.AT s
   ·split
    ·split
     ·exact(Pgr.AH.AT s).trans (Pgr.AH.drop _ _)
     ·exact((Pgr.AH.AT s).trans (Pgr.AH.drop _ _)).trans (Pgr.AH.put _ _ _)
    ·exact(Pgr.AH.AT s).trans (Pgr.AH.put _ _ _)
 ·exact Pgr.AH.refl s
theorem EN(s:PD) (k:Int) (n:AA):Pgr.AH s (A9 s k n).1:=by
 unfold A9
 split
 ·exact HA _ _ _
 ·split
  ·show Pgr.AH s (if (Bo s k (AV n)).2.2=0 then _ else _:PD×MdD×Int).1
   split
   ·exact(HA _ _ _).trans (HA _ _ _)
   ·exact HA _ _ _
  ·exact Pgr.AH.refl s
theorem RX(s:PD) (k:Int) (n:AA) (i:Nat) (m:MdD):Pgr.AH s (Ci s k n i m).1:=by
 unfold Ci
 split
 ·exact Pgr.AH.refl s
 ·split
  ·exact EN _ _ _
  ·exact EN _ _ _
theorem NT(key cell:List UInt8):∀(h:Nat) (s:PD) (k:Int),Pgr.AH s (BW s k key cell h).1
 |0,s,k=>Pgr.AH.refl s
 |h+1,s,k=>by
  rw [BW]
  dsimp only
  split
  ·exact Pgr.AH.refl s
  ·split
   ·split
    ·split
     ·exact LZ _ _
     ·exact(LZ _ _).trans (EN _ _ _)
    ·exact EN _ _ _
   ·split
    ·exact NT key cell h _ _
    ·exact(NT key cell h _ _).trans (RX _ _ _ _ _)
theorem ZS(s:PD) (k:Int) (n:AA) (i:Nat):Pgr.AH s (Dt s k n i).1:=by
 unfold Dt
 split
 ·exact Pgr.AH.refl s
 ·dsimp only
  generalize (if i=n.keys.length then i - 1 else i)=j
  split
  ·exact Pgr.AH.refl s
  ·split
   ·exact Pgr.AH.refl s
   ·split
    ·exact Pgr.AH.refl s
    ·split
     ·exact EN _ _ _
     ·split
      ·exact(EN _ _ _).trans (Pgr.AH.drop _ _)
      ·split
       ·exact((EN _ _ _).trans (Pgr.AH.drop _ _)).trans (EN _ _ _)
       ·exact((EN _ _ _).trans (Pgr.AH.drop _ _)).trans (EN _ _ _)
theorem Oc(key:List UInt8):∀(h:Nat) (s:PD) (k:Int),Pgr.AH s (BS s k key h).1
 |0,s,k=>Pgr.AH.refl s
 |h+1,s,k=>by
  rw [BS]
  dsimp only
  split
  ·exact Pgr.AH.refl s
  ·split
   ·split
    ·split
     ·exact LZ _ _
     ·exact(LZ _ _).trans (EN _ _ _)
    ·exact Pgr.AH.refl s
   ·split
    ·exact Oc key h _ _
    ·have h0:=Oc key h s ((AZ s k ((h+1:Nat):Int)).1.kids.getD (findD (AZ s k ((h+1:Nat):Int)).1 key).1 0)
     split
     ·exact h0.trans (ZS _ _ _ _)
     ·exact h0.trans (RX _ _ _ _ _)
theorem TC(t:TD) (m:MdD):Pgr.AH t.s (CF t m).1.s:=by
 unfold CF
 split
 ·exact Pgr.AH.refl _
 ·exact HA _ _ _
theorem Wd(t:TD):Pgr.AH t.s (Dw t).1.s:=by
 unfold Dw
 dsimp only
 split
 ·exact Pgr.AH.refl _
 ·split
  ·exact Pgr.AH.drop _ _
  ·exact Pgr.AH.drop _ _
theorem Wo(t:TD) (key value:List UInt8):Pgr.AH t.s (CG t key value).1.s:=by
 unfold CG
 dsimp only
 split
 ·exact LO _ _
 ·split
  ·exact(LO _ _).trans (HA _ _ _)
  ·split
   ·exact(LO _ _).trans (NT _ _ _ _ _)
   ·exact((LO _ _).trans (NT _ _ _ _ _)).trans (TC {t with s:=_,count:=_} _)
theorem Wf(t:TD) (key:List UInt8):Pgr.AH t.s (BO t key).1.s:=by
 unfold BO
 split
 ·exact Pgr.AH.refl _
 ·dsimp only
  split
  ·exact Oc _ _ _ _
  ·have h:=(Oc key t.height t.s t.root).trans (TC {t with s:=(BS t.s t.root key t.height).1,count:=t.count - 1} (BS t.s t.root key t.height).2.1)
   split
   ·exact h
   ·exact h.trans (Wd _)
end Go.Gk.Tre
end
section
namespace Go.Gk.Tre
open Go Go.Gk Go.Gk.Dev Go.Gk.Cch Go.Gk.Pgr Go.Gk.Chn Go.Gk.Node
attribute [local irreducible] gwp gws xwp
structure Kv (t:TD):Prop where
 r0: -1≤t.root
 r1:t.root≤16384
 h:t.height≤900000
 c:t.count≤900000
theorem XI(s:PD) (v:List UInt8):(BT s v).2.1.length≤16:=by
 unfold BT
 split
 ·rename_i h;simp;omega
 ·simp [FZ]
def Mj(a0 a1 a2 a3 a4:Nat):AX:=⟨76,[(.tmp 3)],(.seq (rG (o1 3 (.mv (kZ 0)) .done)) (.seq (rG (ol 11 0 (ol 12 1 (oc 13 a0 [(tP 11),(tP 12)] (om 10 13 (oe 14 10 0 (oe 15 10 1 (om 4 14 (om 5 15 .done))))))))) (.seq (.seq (rG (om 16 5 (ob 17 .neq (tP 16) (kZ 0) .done))) (.cond (tP 17) (.seq (rG (om 18 5 (om 3 18 .done))) .ret) .skip)) (.seq (.seq (rG (ol 19 0 (o1 20 (.nilc (tP 19)) (oj 21 2 20 (ol 22 21 (ob 23 .eql (tP 22) (kZ 0) .done)))))) (.cond (tP 23) (.seq (rG (ol 25 0 (ol 26 2 (o1 27 (.bsl 1 1 [(.slice none 0 0)] [(0,(tP 26))]) (om 28 4 (o1 29 (.bsl 1 1 [(.slice none 0 0)] [(0,(tP 28))]) (o1 30 (.bld [(0,1),(1,1),(2,1),(3,1)] [(.bool false),(.slice none 0 0),(.slice none 0 0),(.slice none 0 0)] [(0,(.const (.bool true))),(1,(tP 27)),(2,(tP 29))]) (oc 31 a1 [(tP 25),(kZ (-1)),(tP 30)] (om 24 31 (oe 32 24 0 (oe 33 24 1 (om 6 32 (om 7 33 .done))))))))))))) (.seq (rG (ol 34 0 (ol 35 0 (ol 36 0 (om 37 6 (o1 38 (.nilc (tP 34)) (oj 39 1 38 (o0 (.st 1 (tP 39) (tP 37)) (o1 40 (.nilc (tP 35)) (oj 41 2 40 (o0 (.st 1 (tP 41) (kZ 1)) (o1 42 (.nilc (tP 36)) (oj 43 3 42 (o0 (.st 1 (tP 43) (kZ 1)) .done)))))))))))))) (.seq (rG (om 44 7 (om 3 44 .done))) .ret))) .skip)) (.seq (.reg true (pl 46 0 (pl 47 0 (p1 48 (.nilc (tP 47)) (p1 49 (.fld 1 (tP 48)) (pl 50 49 (pl 51 0 (p1 52 (.nilc (tP 51)) (p1 53 (.fld 2 (tP 52)) (pl 54 53 (pl 55 2 (pm 56 4 (.par (o1 8 (.alo (.agg #[(.int .i64 0),(.int .i64 0),(.slice none 0 0),(.int .i64 0)])) .done) (oc 57 a2 [(tP 46),(tP 50),(tP 54),(tP 55),(tP 56)] (pm 45 57 (p1 58 (.ext (tP 45) 0) (p1 59 (.ext (tP 45) 1) (p1 60 (.ext (tP 45) 2) .done))))) (o0 (.st 4 (tP 8) (tP 58)) (pm 9 59 (pm 5 60 .done)))))))))))))))) (.seq (.seq (rG (om 61 5 (ob 62 .neq (tP 61) (kZ 0) .done))) (.cond (tP 62) (.seq (rG (om 63 5 (om 3 63 .done))) .ret) .skip)) (.seq (.reg true (pl 64 0 (p1 65 (.nilc (tP 64)) (p1 66 (.fld 3 (tP 65)) (pl 67 66 (pm 68 9 (oc 69 a3 [(tP 68)] (p1 70 (.bin .add (tP 67) (tP 69)) (p1 71 (.nilc (tP 64)) (p1 72 (.fld 3 (tP 71)) (.bar (o0 (.st 1 (tP 72) (tP 70)) .done)))))))))))) (.seq (rG (ol 73 0 (o1 74 (.ld (some 4) (tP 8)) (oc 75 a4 [(tP 73),(tP 74)] (om 3 75 .done))))) .ret))))))))⟩
def CJ(t:TD) (key value:List UInt8):TD×Int:=
 if BM key≠0 then(t,BM key) else if 16384<value.length then(t,3) else(B8 t (CG t key value).1 (CG t key value).2,(CG t key value).2)
def Oi(a0 a1 a2:Nat):AX:=⟨20,[(.tmp 6)],(.seq (rG (o1 3 (.box (tP 0)) (o1 4 (.box (tP 1)) (o1 5 (.box (tP 2)) (o1 6 (.mv (kZ 0)) .done))))) (.seq (.seq (rG (ol 8 3 (ol 9 4 (oc 10 a0 [(tP 8),(tP 9)] (om 7 10 .done))))) (.seq (rG (om 11 7 (ob 12 .neq (tP 11) (kZ 0) .done))) (.cond (tP 12) (.seq (rG (om 13 7 (om 6 13 .done))) .ret) .skip))) (.seq (.seq (rG (ol 14 5 (oL 15 14 (ob 16 .gtr (tP 15) (kZ 16384) .done)))) (.cond (tP 16) (.seq (rG (o1 6 (.mv (kZ 3)) .done)) .ret) .skip)) (.seq (rG (ol 17 3 (o1 18 (.mkf (.func a1) [] [(tP 3),(tP 5),(tP 4)]) (oc 19 a2 [(tP 17),(tP 18)] (om 6 19 .done))))) .ret))))⟩
def OY(P:Program) (f:FuncId):Prop:=∀{d:Ae}{t:TD}{bt pb:Nat}{Tt:TypeId}{L:List Ae},CR P f [.pointer (some ⟨bt,0,none⟩)] d (tbD bt Tt (.pointer (some ⟨pb,0,none⟩)) t::L) (.int .i64 t.root)
def Nn(a0:Nat):AX:=⟨9,[(.tmp 2)],(.seq (rG (o1 2 (.mv (kZ 0)) .done)) (.seq (.seq (rG (om 3 0 (oc 4 a0 [(tP 3)] .done))) (.cond (tP 4) (.seq (rG (o1 2 (.mv (kZ (-1))) .done)) .ret) .skip)) (.seq (rG (om 5 0 (o1 6 (.nilc (tP 5)) (oj 7 1 6 (ol 8 7 (om 2 8 .done)))))) .ret)))⟩
theorem Yt{P:Program}{f f1:FuncId} (hd:dec P f=some (Nn f1)) (h1:HD P f1):OY P f:=by
 intro d t bt pb Tt L
 refine AE hd (Aca rfl) ?_
 show gwp P _ _ _ _ _
 (refine Ac (Ad (Ab rfl (Aa (Ac (Ac (Ad (Al rfl ?_))))))))
 refine Cv [] (h1 (L:=L)) rfl rfl ?_
 (refine Aa (AR rfl (Ak (Ac (Ad (Al rfl (Au rfl (Ai rfl (Ah rfl (Aj 0 rfl rfl) (Ab rfl (Aa (An ?_))))))))))))
 exact BF rfl (Acb _) ⟨rfl,rfl,rfl⟩
def Iq(P:Program) (f:FuncId):Prop:=∀{d:Ae}{t:TD}{bt pb:Nat}{Tt:TypeId}{L:List Ae},CR P f [.pointer (some ⟨bt,0,none⟩)] d (tbD bt Tt (.pointer (some ⟨pb,0,none⟩)) t::L) (.int .i64 t.height)
def Kh(a0:Nat):AX:=⟨9,[(.tmp 2)],(.seq (rG (o1 2 (.mv (kZ 0)) .done)) (.seq (.seq (rG (om 3 0 (oc 4 a0 [(tP 3)] .done))) (.cond (tP 4) (.seq (rG (o1 2 (.mv (kZ 0)) .done)) .ret) .skip)) (.seq (rG (om 5 0 (o1 6 (.nilc (tP 5)) (oj 7 2 6 (ol 8 7 (om 2 8 .done)))))) .ret)))⟩
theorem Uc{P:Program}{f f1:FuncId} (hd:dec P f=some (Kh f1)) (h1:HD P f1):Iq P f:=by
 intro d t bt pb Tt L
 refine AE hd (Aca rfl) ?_
 show gwp P _ _ _ _ _
 (refine Ac (Ad (Ab rfl (Aa (Ac (Ac (Ad (Al rfl ?_))))))))
 refine Cv [] (h1 (L:=L)) rfl rfl ?_
 (refine Aa (AR rfl (Ak (Ac (Ad (Al rfl (Au rfl (Ai rfl (Ah rfl (Aj 0 rfl rfl) (Ab rfl (Aa (An ?_))))))))))))
 exact BF rfl (Acb _) ⟨rfl,rfl,rfl⟩
def HR(P:Program) (f:FuncId):Prop:=∀{d:Ae}{t:TD}{bt pb:Nat}{Tt:TypeId}{L:List Ae},CR P f [.pointer (some ⟨bt,0,none⟩)] d (tbD bt Tt (.pointer (some ⟨pb,0,none⟩)) t::L) (.int .i64 t.count)
def Me(a0:Nat):AX:=⟨9,[(.tmp 2)],(.seq (rG (o1 2 (.mv (kZ 0)) .done)) (.seq (.seq (rG (om 3 0 (oc 4 a0 [(tP 3)] .done))) (.cond (tP 4) (.seq (rG (o1 2 (.mv (kZ 0)) .done)) .ret) .skip)) (.seq (rG (om 5 0 (o1 6 (.nilc (tP 5)) (oj 7 3 6 (ol 8 7 (om 2 8 .done)))))) .ret)))⟩
theorem Wj{P:Program}{f f1:FuncId} (hd:dec P f=some (Me f1)) (h1:HD P f1):HR P f:=by
 intro d t bt pb Tt L
 refine AE hd (Aca rfl) ?_
 show gwp P _ _ _ _ _
 (refine Ac (Ad (Ab rfl (Aa (Ac (Ac (Ad (Al rfl ?_))))))))
 refine Cv [] (h1 (L:=L)) rfl rfl ?_
 (refine Aa (AR rfl (Ak (Ac (Ad (Al rfl (Au rfl (Ai rfl (Ah rfl (Aj 0 rfl rfl) (Ab rfl (Aa (An ?_))))))))))))
 exact BF rfl (Acb _) ⟨rfl,rfl,rfl⟩
theorem SY{s:PD}{n:Nat}{key:List UInt8}:∀(x:Nat) (k:Int),EC (wtc s n) key k x=EC s key k x
 |0,_=>rfl
 |x+1,k=>by
  rw [EC,EC,show AZ (wtc s n) k ((x+1:Nat):Int)=AZ s k ((x+1:Nat):Int) from rfl]
  simp only [S8,SY x]
theorem X5{s:PD}{n:Nat}{root:Int}{h c:Nat}{key:List UInt8}:CS ⟨wtc s n,root,h,c⟩ key=CS ⟨s,root,h,c⟩ key:=by
 unfold CS
 simp only [SY]
theorem UR{P:Program}{f:FuncId}{d:Ae}{s:PD}{root:Int}{h c:Nat}{dv pv kv:Value}{L:List Ae}{bt:Nat}{Tt:TypeId}{key:List UInt8} (hf:I3 P f) (hp:PgT d s dv pv L) (hk:AJ d kv key) (hh:h≤1000000):
  Aw P f [.pointer (some ⟨bt,0,none⟩),kv] d (tb bt Tt pv root h c::L) (Ret fun v d' L'=>Le d d'∧∃u L2,v=.tuple #[u,.bool (CS ⟨s,root,h,c⟩ key).2.1,.int .i64 (CS ⟨s,root,h,c⟩ key).2.2]∧AJ d' u (CS ⟨s,root,h,c⟩ key).1∧L'=tb bt Tt pv root h c::L2∧PgT d' s dv pv L2):=by
 obtain⟨n,hp⟩:=hp
 refine Aw.DV (hf (t:=⟨wtc s n,root,h,c⟩) (bt:=bt) (Tt:=Tt) hp hk hh) (fun r d' L' _ ⟨h0,u,L2,tc,h1,h2,h3,h4,_⟩=>⟨d',L',Vs.refl _ _,?_⟩)
 rw [X5] at h1 h2
 exact⟨h0,u,L2,h1,h2,h3,tc,h4⟩
theorem VU{d:Ae}{v:Value}{l:List UInt8} (hl:l.length≤140737488355328) (h:∃b c cs,v=.slice (some ⟨b,0,none⟩) l.length c∧l.length≤c∧c≤9223372036854775807∧DCs d b 0 cs∧cs.length=c∧cs.take l.length=l.map Ay):AJ d v l:=by
 obtain⟨b,c,cs,rfl,h1,h2,h3,h4,h5⟩:=h
 refine⟨some ⟨b,0,none⟩,c,b,0,rfl,SAd.some _ _ _,fun _ a' q=>(by cases q;rfl),fun q=>(by cases q),h1,h2,hl,fun i hi=>⟨[Ay l[i]],rfl,?_,rfl⟩⟩
 have h6:cs[i]?=some (Ay l[i]):=by
  have:=congrArg (·[i]?) h5
  simp only [Aeq,Ace hi,Aen] at this
  rw [Adu hi] at this
  exact this
 have:=(h3.at h6).cells
 rw [Aeo]
 exact this
def Jm(t:TD) (x:KV):Bool:=decide ((CS t x.1).2.2=0)&&((CS t x.1).2.1 && decide ((CS t x.1).1=x.2))
def G8(t:TD) (m:List KV):Bool:=m.all (Jm t)&& decide (t.count=m.length)
def R6(P:Program) (f:FuncId):Prop:=∀{d:Ae}{s:PD}{root:Int}{h c:Nat}{dv pv w:Value}{L:List Ae}{bt:Nat}{Tt:TypeId}{m:List KV},PgT d s dv pv L→RSl 2 RKv d w m→h≤1000000→c≤1000000000→
 Aw P f [.pointer (some ⟨bt,0,none⟩),w] d (tb bt Tt pv root h c::L) (Ret fun v d' L'=>Le d d'∧v=.bool (G8 ⟨s,root,h,c⟩ m)∧∃L2,L'=tb bt Tt pv root h c::L2∧PgT d' s dv pv L2)
def KW(a0 a1:Nat):AX:=⟨44,[(.tmp 4)],(.seq (rG (o1 4 (.mv (.const (.bool false))) .done)) (.seq (.seq (rG (om 10 1 (oL 11 10 (o1 12 (.mv (kZ 0)) .done)))) (.block 0 (.loop (.seq (rG (ob 13 .lss (tP 12) (tP 11) .done)) (.seq (.cond (tP 13) .skip (.exit 0)) (.seq (.block 1 (.seq (rG (oI 14 2 10 12 (o1 15 (.ld (some 2) (tP 14)) (o1 6 (.alo (.agg #[(Bp []),(Bp [])])) (o0 (.st 2 (tP 6) (tP 15)) .done))))) (.seq (rG (om 17 0 (oj 18 0 6 (ol 19 18 (o1 20 (.mop (.s2b (tP 19))) (oc 21 a0 [(tP 17),(tP 20)] (om 16 21 (oe 22 16 0 (oe 23 16 1 (oe 24 16 2 (om 7 22 (om 8 23 (om 9 24 .done))))))))))))) (.seq (rG (om 25 9 (ob 26 .neq (tP 25) (kZ 0) (om 27 26 (gF 28 27 8 (oF 29 27 (.un .not (tP 28)) (o1 30 (.pick (tP 27) (.const (.bool true)) (tP 29)) (om 31 30 (gF 32 31 7 (oF 33 31 (.b2s (tP 32)) (oF 34 31 (.fld 1 (tP 6)) (oF 35 31 (.ld none (tP 34)) (oF 36 31 (.bin .neq (tP 33) (tP 35)) (o1 37 (.pick (tP 31) (.const (.bool true)) (tP 36)) .done)))))))))))))) (.cond (tP 37) (.seq (rG (o1 4 (.mv (.const (.bool false))) .done)) .ret) .skip))))) (rG (ob 38 .add (tP 12) (kZ 1) (om 12 38 .done))))))))) (.seq (rG (om 39 0 (oc 40 a1 [(tP 39)] (om 41 1 (oL 42 41 (ob 43 .eql (tP 40) (tP 42) (om 4 43 .done))))))) .ret)))⟩
set_option maxRecDepth 4000 in
theorem ZA{P:Program}{f f1 f2:FuncId} (hd:dec P f=some (KW f1 f2)) (h1:I3 P f1) (h2:HR P f2):R6 P f:=by
 intro d s root h c dv pv w L bt Tt m hp hw hh hcc
 obtain⟨bp,rfl⟩:=hp.ptr
 have hwl:=hw.BV
 obtain⟨a,cw,rfl⟩:=hw.val
 refine AE hd (Aca rfl) ?_
 show gwp P _ _ _ _ _
 (refine Ac (Ad (Af rfl (Aa (Ac (Ac (Ad (Am rfl (AK rfl (Ab rfl (Aa (Az ?_))))))))))))
 refine CL (α:=Nat) (fun x=>[(0,.pointer (some ⟨bt,0,none⟩)),(1,.slice a m.length cw),(10,.slice a m.length cw),(11,.int .i64 m.length),(12,.int .i64 x)])
  (fun x d' L'=>Le d d'∧x≤m.length∧m.all (Jm ⟨s,root,h,c⟩)=(m.drop x).all (Jm ⟨s,root,h,c⟩)∧∃J L2,L'=J++tb bt Tt (.pointer (some ⟨bp,0,none⟩)) root h c::L2∧PgT d' s dv (.pointer (some ⟨bp,0,none⟩)) L2) (fun x=>m.length - x) 0 ⟨rfl,rfl,rfl,rfl,rfl,trivial⟩
  ⟨Le.refl _,Adg _,rfl,[],L,rfl,hp⟩ ?_
 rintro i ρ d' L' ⟨hle,hi,hal,J,L2,rfl,hp2⟩
 simp only at hi hal⊢
 have hw2:=RSl.mono (R:=RKv) E7 hw hle
 by_cases e:i<m.length
 ·rw [Adi e,Agy] at hal
  (refine Ac (Ad (AB rfl rfl (Aa (Ac (Ax rfl (by omega) (Ak (Ac (Az (Ac (Ad ?_)))))))))))
  refine BK (m:=i) rfl hw2 rfl rfl e (fun b o cs hcl hdc ⟨q,q1,q2⟩=>?_)
  subst q
  (refine YH rfl (by assumption) rfl (BU (fun _ _=>?_)))
  rename_i b6 T6
  refine Bm 0 rfl rfl rfl rfl (Ach _) rfl ?_
  have hE:Jm ⟨s,root,h,c⟩ m[i]=(decide ((CS ⟨s,root,h,c⟩ m[i].1).2.2=0)&&((CS ⟨s,root,h,c⟩ m[i].1).2.1 && decide ((CS ⟨s,root,h,c⟩ m[i].1).1=m[i].2))):=rfl
  rw [hE] at hal
  clear hE
  (refine Aa (Ac (Ad (Al rfl (Ai rfl (Ah rfl (Aj 0 rfl rfl) ?_))))))
  refine Abe (l:=m[i].1) rfl q1 (fun v20 d3 hl3 hva hvb=>?_)
  have hb20:=VU q1 hvb
  clear hvb
  obtain⟨xa,xc,rfl⟩:=hva
  have hcl:=UR (root:=root) (c:=c) (bt:=bt) (Tt:=Tt) h1 (hp2.mono hl3) hb20 hh
  generalize CS ⟨s,root,h,c⟩ m[i].1=R at hcl hal
  obtain⟨ru,rb,re⟩:=R
  simp only at hcl hal
  refine Ba (_::J) hcl rfl rfl (fun v d4 L4 hl4 ⟨_,u,L5,e1,hu,e2,hp5⟩=>?_)
  subst e1;subst e2
  obtain⟨ua,uc,rfl⟩:=hu.val
  by_cases z1:re=0
  ·subst z1
   cases rb with
   |true=>
    rw [show(decide ((0:Int)=0)&&(true && decide (ru=m[i].2)))=decide (ru=m[i].2) by simp] at hal
    by_cases z2:ru=m[i].2
    ·rw [decide_eq_true z2,Afl] at hal
     (refine AU rfl (Ao rfl rfl (Ao rfl rfl (Ao rfl rfl (Am rfl (Af rfl (Ab rfl (Aa (Ac (Ad (Ab rfl (AP rfl rfl (Af rfl (Bb rfl (by omega) (Ag rfl (Af rfl (Ag rfl (Bt rfl (As rfl rfl (Af rfl (Ag rfl (Am rfl (Ag rfl (Bc rfl (by assumption) (Ag rfl (Ai rfl (Ag rfl (Ah rfl (Aj 0 rfl rfl) (Ag rfl (LQ rfl rfl (As rfl rfl (Aa ?_))))))))))))))))))))))))))))))))
     show gwp P _ _ _ _ _
     first|refine He rfl (fun h9=>?_) (fun h9=>?_)|refine JL rfl (fun h9=>?_) (fun h9=>?_)
     ·exact absurd z2 h9
     ·clear h9
      (refine Ak (Ad (AL rfl rfl (by omega) (by omega) (Ab rfl (Aa ?_)))))
      exact⟨i+1,by omega,⟨rfl,rfl,rfl,rfl,rfl,trivial⟩,(hle.trans hl3).trans hl4,e,hal,_::J,L5,rfl,hp5⟩
    ·rw [decide_eq_false z2,Bool.false_and] at hal
     have hal:(m.all (Jm ⟨s,root,h,c⟩)=false)∧True:=⟨hal,trivial⟩
     (refine AU rfl (Ao rfl rfl (Ao rfl rfl (Ao rfl rfl (Am rfl (Af rfl (Ab rfl (Aa (Ac (Ad (Ab rfl (AP rfl rfl (Af rfl (Bb rfl (by omega) (Ag rfl (Af rfl (Ag rfl (Bt rfl (As rfl rfl (Af rfl (Ag rfl (Am rfl (Ag rfl (Bc rfl (by assumption) (Ag rfl (Ai rfl (Ag rfl (Ah rfl (Aj 0 rfl rfl) (Ag rfl (LQ rfl rfl (As rfl rfl (Aa (Ax rfl (by omega) (Ac (Ad (Af rfl (Aa (An ?_))))))))))))))))))))))))))))))))))))))
     exact A8 [.bool false] ⟨Av rfl,trivial⟩ (d':=d4) (L':=tb bt Tt (.pointer (some ⟨bp,0,none⟩)) root h c::L5) (Vs.drop (Adm (_::J) _)) ⟨(hle.trans hl3).trans hl4,(by show Value.bool false=_;rw [show G8 ⟨s,root,h,c⟩ m=false by unfold G8;rw [hal.1];rfl]),L5,rfl,hp5⟩
   |false=>
    rw [show(decide ((0:Int)=0)&&(false && decide (ru=m[i].2)))=false by simp,Bool.false_and] at hal
    have hal:(m.all (Jm ⟨s,root,h,c⟩)=false)∧True:=⟨hal,trivial⟩
    (refine AU rfl (Ao rfl rfl (Ao rfl rfl (Ao rfl rfl (Am rfl (Af rfl (Ab rfl (Aa (Ac (Ad (Ab rfl (AP rfl rfl (Af rfl (Bb rfl (by omega) (Ag rfl (Af rfl (Ag rfl (Bt rfl (As rfl rfl (Af rfl (Ap rfl (Ap rfl (Ap rfl (Ap rfl (Ap rfl (AG rfl rfl (Aa (Bf rfl (Ac (Ad (Af rfl (Aa (An ?_)))))))))))))))))))))))))))))))))
    exact A8 [.bool false] ⟨Av rfl,trivial⟩ (d':=d4) (L':=tb bt Tt (.pointer (some ⟨bp,0,none⟩)) root h c::L5) (Vs.drop (Adm (_::J) _)) ⟨(hle.trans hl3).trans hl4,(by show Value.bool false=_;rw [show G8 ⟨s,root,h,c⟩ m=false by unfold G8;rw [hal.1];rfl]),L5,rfl,hp5⟩
  ·rw [decide_eq_false z1,Bool.false_and,Bool.false_and] at hal
   have hal:(m.all (Jm ⟨s,root,h,c⟩)=false)∧True:=⟨hal,trivial⟩
   (refine AU rfl (Ao rfl rfl (Ao rfl rfl (Ao rfl rfl (Am rfl (Af rfl (Ab rfl (Aa (Ac (Ad (Ab rfl (AP rfl rfl (Af rfl (Bn rfl (by omega) (Ap rfl (Ap rfl (AG rfl rfl (Af rfl (Ap rfl (Ap rfl (Ap rfl (Ap rfl (Ap rfl (AG rfl rfl (Aa (Bf rfl (Ac (Ad (Af rfl (Aa (An ?_)))))))))))))))))))))))))))))))
   exact A8 [.bool false] ⟨Av rfl,trivial⟩ (d':=d4) (L':=tb bt Tt (.pointer (some ⟨bp,0,none⟩)) root h c::L5) (Vs.drop (Adm (_::J) _)) ⟨(hle.trans hl3).trans hl4,(by show Value.bool false=_;rw [show G8 ⟨s,root,h,c⟩ m=false by unfold G8;rw [hal.1];rfl]),L5,rfl,hp5⟩
 ·have:i=m.length:=by omega
  subst this
  rw [Afv,List.all_nil] at hal
  have hal:(m.all (Jm ⟨s,root,h,c⟩)=true)∧True:=⟨hal,trivial⟩
  (refine Ac (Ad (AB rfl rfl (Aa (Ac (Ar rfl (by omega) (Bg (Ac (Ad (Al rfl ?_))))))))))
  refine Cv J (h2 (t:=⟨s,root,h,c⟩) (L:=L2)) rfl rfl ?_
  (refine Am rfl (AK rfl (AO rfl rfl (Af rfl (Aa (An ?_))))))
  exact A8 [.bool (decide ((c:Int)=(m.length:Int)))] ⟨Av rfl,trivial⟩ (d':=d') (L':=tb bt Tt (.pointer (some ⟨bp,0,none⟩)) root h c::L2) (Vs.drop (Adm J _)) ⟨hle,(by show Value.bool _=_;rw [show G8 ⟨s,root,h,c⟩ m=decide ((c:Int)=(m.length:Int)) by unfold G8;rw [hal.1,Afl];exact decide_eq_decide.2 (by show c=m.length↔_;omega)]),L2,rfl,hp2⟩
end Go.Gk.Tre
end
section
namespace Go.Gk.Tre
open Go Go.Gk Go.Gk.Dev Go.Gk.Cch Go.Gk.Pgr Go.Gk.Chn Go.Gk.Node
structure Tok (t:TD) (l:List KV) (P:List Int):Prop where
 gd:Pgr.Good t.s
 nd:P.Nodup
 ct:t.count=l.length
 tr:(t.height=0∧t.root= -1∧l=[]∧P=[])∨∃h,t.height=h+1∧Tr t.s (h+1) t.root l P
theorem Tok.live{t:TD}{l:List KV}{P:List Int} (h:Tok t l P):∀p∈P,Bh t.s p:=by
 rcases h.tr with ⟨_,_,_,rfl⟩|⟨x,_,q⟩
 ·exact fun p hp=>by cases hp
 ·exact q.live
theorem Mv.id{s:PD} (hG:Pgr.Good s) {P:List Int} (h1:∀p∈P,Bh s p) (h2:P.Nodup):Mv s s P P 0:=by
 simpa using (Mv.refl hG).frame h1 h2 (fun p _ q=>by cases q)
theorem Tok.id{t:TD}{l:List KV}{P:List Int} (h:Tok t l P):Mv t.s t.s P P 0:=Mv.id h.gd h.live h.nd
theorem RN{s:PD} (hG:Pgr.Good s) {h:Nat}{md:MdD}{l:List KV}{P:List Int} (ho:0≤md.other) (o:Out s h 0 md l P) (hnd:P.Nodup):
  ((Bo s (-1) ⟨false,[md.key],[],[md.page,md.other]⟩).2.2=0∧∃P',Mv s (Bo s (-1) ⟨false,[md.key],[],[md.page,md.other]⟩).1 P P' 1∧
   Tr (Bo s (-1) ⟨false,[md.key],[],[md.page,md.other]⟩).1 (h+1+1) (Bo s (-1) ⟨false,[md.key],[],[md.page,md.other]⟩).2.1 l P'∧
   At (Bo s (-1) ⟨false,[md.key],[],[md.page,md.other]⟩).1 (Bo s (-1) ⟨false,[md.key],[],[md.page,md.other]⟩).2.1 ⟨false,[md.key],[],[md.page,md.other]⟩)∨
  ((Bo s (-1) ⟨false,[md.key],[],[md.page,md.other]⟩).2.2=190∧s.free<1):=by
 have hlv:=o.live
 rcases o with ⟨q,_⟩|⟨_,_,l1,l2,P1,P2,rfl,rfl,g1,g2,g3,g4,g5,g6⟩
 ·omega
 ·obtain⟨v1,_,va,_⟩:=id g1
  obtain⟨v2,_,vb,_⟩:=id g2
  have hs:A3 ⟨false,[md.key],[],[md.page,md.other]⟩=true:=by
   refine B7.2 ⟨KO.cons.2 ⟨⟨g5,g6⟩,KO.nil,fun _ h=>by cases h⟩,rfl,fun c hc=>?_⟩
   rcases Adb.1 hc with rfl|hc
   ·exact ED hG va.liv
   ·rw [Acv.1 hc];exact ED hG vb.liv
  have hr:Bv ⟨false,[md.key],[],[md.page,md.other]⟩=true:=by
   simp only [Bv,hs,Afl,decide_eq_true_eq]
   rw [size_inner]
   simp only [C1,Acs,Ael];omega
  rcases OQ hG hr with ⟨h1,h2,h3⟩|h1
  ·have hfr:=h2.frame hlv hnd (fun p _ q=>by cases q)
   have hsm:=h2.same hlv (fun p _ q=>by cases q)
   refine .inl ⟨h1,_,hfr,⟨_,_,h3,by simp,rfl,?_⟩,h3⟩
   rw [decide_eq_false (Aez _)]
   exact .mki rfl (Kd.cons.2 ⟨l1,l2,P1,P2,rfl,rfl,g1.stay (hsm.sub (fun p hp=>Adh _ hp)),g3,g4,Kd.one.2 (g2.stay (hsm.sub (fun p hp=>Adk _ hp)))⟩)
  ·exact .inr h1
theorem Yj{t:TD}{l:List KV}{P:List Int} (h:Tok t l P) {key v:List UInt8} (hk:1≤key.length∧key.length≤64) (hv:v.length≤16384):
  ((CG t key v).2=0∧∃P',Tok (CG t key v).1 (Eg l key v) P'∧Mv t.s (CG t key v).1.s P P' (AN v.length+2*t.height+1))∨((CG t key v).2=190∧t.s.free<AN v.length+2*t.height+1):=by
 unfold CG
 dsimp only
 have hc:=Zz h.gd hv
 generalize BT t.s v=c at hc⊢
 rcases hc with ⟨c1,Pc,c2,c3⟩|⟨c1,c2⟩
 ·rw [if_neg (by rw [c1];decide)]
  have hsmc:=c2.same h.live (fun p _ q=>by cases q)
  have c4:=c2.frame h.live h.nd (fun p _ q=>by cases q)
  rcases h.tr with ⟨e1,e2,rfl,rfl⟩|⟨x,e1,e2⟩
  ·rw [if_pos e1]
   have hs:A3 ⟨true,[key],[c.2.1],[]⟩=true:=CH.2 ⟨KO.cons.2 ⟨hk,KO.nil,fun _ h=>by cases h⟩,rfl,fun v hv=>by rw [Acv.1 hv];exact c3.len⟩
   have hr:Bv ⟨true,[key],[c.2.1],[]⟩=true:=by
    simp only [Bv,hs,Afl,decide_eq_true_eq]
    rw [size_leaf (ks:=[key]) (vs:=[c.2.1]) rfl]
    have:=c3.len
    simp only [C1,Acs,Ael];omega
   have hp:=OQ c2.gd hr
   generalize Bo c.1 (-1) ⟨true,[key],[c.2.1],[]⟩=k at hp⊢
   rcases hp with ⟨p1,p2,p3⟩|⟨p1,p2⟩
   ·have hlv:=c3.live
    have hnd:=c2.nd
    have p4:=p2.frame hlv hnd (fun p _ q=>by cases q)
    have hsm:=p2.same hlv (fun p _ q=>by cases q)
    have hM:Mv t.s k.1 [] (k.2.1::Pc) (AN v.length+1):=c2.trans p4
    refine .inl ⟨p1,k.2.1::Pc,⟨p2.gd,hM.nd,rfl,.inr ⟨0,rfl,⟨_,Pc,p3,by simp,rfl,?_⟩⟩⟩,by rw [e1];exact hM.mono (by omega)⟩
    rw [decide_eq_true rfl]
    exact .mkl rfl (Lf.one (c3.stay hsm))
   ·exact .inr ⟨p1,by have:=c2.fr;omega⟩
  ·rw [if_neg (by omega)]
   have hnd:(P++Pc).Nodup:=(List.perm_append_comm.nodup_iff).1 c4.nd
   have hi:=Vl (v:=v) hk x c2.gd (e2.stay hsmc) hnd c3
   rw [e1]
   generalize BW c.1 t.root key c.2.1 (x+1)=u at hi⊢
   rcases hi with ⟨i1,i2,P',i3,i4⟩|⟨i1,i2⟩
   ·rw [if_neg (by rw [i1];decide)]
    have hM:Mv t.s u.1 P P' (AN v.length+2*(x+1)):=(c4.perm (A':=P) (by simp) Ack).trans i3
    have hct:t.count+(if u.2.2.1=true then 1 else 0)=(Eg l key v).length:=by
     rw [Q8,h.ct,i2]
     cases isK l key<;>simp
    unfold CF
    by_cases ho:u.2.1.other<0
    ·rw [if_pos ho]
     exact .inl ⟨rfl,P',⟨i3.gd,hM.nd,hct,.inr ⟨x,rfl,i4.tr ho (Ach _)⟩⟩,hM.mono (by omega)⟩
    ·rw [if_neg ho]
     have i4':Out u.1 x 0 u.2.1 (Eg l key v) P':=by
      rcases i4 with ⟨q,_⟩|q
      ·exact absurd q ho
      ·exact .inr q
     have hr:=RN i3.gd (by omega) i4' hM.nd
     dsimp only
     generalize Bo u.1 (-1) ⟨false,[u.2.1.key],[],[u.2.1.page,u.2.1.other]⟩=r at hr⊢
     rcases hr with ⟨r1,P2,r2,r3,r4⟩|⟨r1,r2⟩
     ·exact .inl ⟨r1,P2,⟨r2.gd,r2.nd,hct,.inr ⟨x+1,rfl,r3⟩⟩,(hM.trans r2).mono (by omega)⟩
     ·exact .inr ⟨r1,by have:=hM.fr;omega⟩
   ·rw [if_pos (by rw [i1];decide)]
    exact .inr ⟨i1,by have:=c2.fr;omega⟩
 ·rw [if_pos (by rw [c1];decide)]
  exact .inr ⟨c1,by omega⟩
theorem Pt{t:TD} (hG:Pgr.Good t.s) {h:Nat}{n:AA}{l:List KV}{Q:List Int} (e:t.height=h+1) (hat:At t.s t.root n) (hn:Nd t.s (Tr t.s h) (decide (h=0)) n l Q) (hnd:(t.root::Q).Nodup) (hc:t.count=l.length):
  (Dw t).2=0∧∃P',Tok (Dw t).1 l P'∧Mv t.s (Dw t).1.s (t.root::Q) P' 0:=by
 unfold Dw
 rw [hat.read]
 dsimp only
 have hlv:∀p∈t.root::Q,Bh t.s p:=fun p hp=>(Adb.1 hp).elim (fun e=>e▸hat.liv) (hn.live p)
 by_cases hk:n.keys=[]
 ·rw [if_neg (by simp [hk])]
  obtain⟨q1,q2⟩:=Afr.1 hnd
  obtain⟨d1,d2⟩:=Iw hG hat.liv
  rw [if_neg (by rw [d1];decide)]
  have hx:∀p∈Q,p∉ [t.root]:=fun p hp q=>q1 (Acv.1 q▸hp)
  have d3:=d2.frame hn.live q2 hx
  have hsm:=d2.same hn.live hx
  by_cases h0:h=0
  ·rw [decide_eq_true h0] at hn
   obtain⟨n1,n2⟩:=hn.leaf
   rw [hk] at n2
   have hl0:=n2.len
   have hvl:=Acm hl0.1
   rw [hvl,Lf] at n2
   obtain⟨rfl,rfl⟩:=n2
   refine⟨rfl,[],⟨d2.gd,Agq,hc,.inl ⟨?_,?_,rfl,rfl⟩⟩,d3⟩
   ·show t.height - 1=0;omega
   ·show(if n.leaf=true then(-1:Int) else _)= -1;rw [if_pos n1]
  ·rw [decide_eq_false h0] at hn
   obtain⟨n1,n2⟩:=hn.inner
   rw [hk] at n2
   have hl0:=n2.len
   obtain⟨c,ec⟩:∃c,n.kids=[c]:=by
    cases hq:n.kids with
    |nil=>rw [hq] at hl0;cases hl0
    |cons c r=>
     rw [hq] at hl0
     exact⟨c,by rw [Acm (show r.length=0 by simpa using hl0)]⟩
   rw [ec] at n2
   have n3:=Kd.one.1 n2
   obtain⟨h',rfl⟩:∃h',h=h'+1:=⟨h - 1,by omega⟩
   refine⟨rfl,Q,⟨d2.gd,q2,hc,.inr ⟨h',?_,?_⟩⟩,d3⟩
   ·show t.height - 1=h'+1;omega
   ·show Tr (t.s.drop t.root).1 (h'+1) (if n.leaf=true then(-1:Int) else n.kids.getD 0 0) l Q
    rw [if_neg (by rw [n1];decide),ec]
    exact n3.stay hsm
 ·rw [if_pos (by simp [hk])]
  exact⟨rfl,_,⟨hG,hnd,hc,.inr ⟨h,e,⟨n,Q,hat,hk,rfl,hn⟩⟩⟩,Mv.id hG hlv hnd⟩
theorem XK{t:TD}{l:List KV}{P:List Int} (h:Tok t l P) (key:List UInt8):
  ((BO t key).2.2=0∧(BO t key).2.1=isK l key∧∃P',Tok (BO t key).1 (Cr l key).1 P'∧Mv t.s (BO t key).1.s P P' (4*t.height+1))∨((BO t key).2.2=190∧t.s.free<4*t.height+1):=by
 unfold BO
 rcases h.tr with ⟨e1,e2,rfl,rfl⟩|⟨x,e1,e2⟩
 ·rw [if_pos e1]
  exact .inl ⟨rfl,rfl,[],h,(Mv.refl h.gd).mono (Adg _)⟩
 ·rw [if_neg (by omega)]
  dsimp only
  have hr:=RO (key:=key) x h.gd e2 h.nd
  rw [e1]
  generalize BS t.s t.root key (x+1)=u at hr⊢
  rcases hr with ⟨r1,r2,⟨r3,r4⟩|⟨r3,P',r4,r5⟩⟩|⟨r1,r2⟩
  ·rw [if_pos (.inr (by rw [r2,r3]))]
   refine .inl ⟨r1,r3.symm,P,?_,?_⟩
   ·have e:(Cr l key).1=l:=by unfold Cr;rw [if_neg (by rw [r3];decide)]
    rw [e]
    show Tok ⟨u.1,t.root,x+1,t.count⟩ l P
    rw [r4,←e1];exact h
   ·show Mv t.s u.1 P P _
    rw [r4];exact h.id.mono (Adg _)
  ·rw [if_neg (by rw [r1,r2,r3];simp)]
   have hct:t.count - 1=(Cr l key).1.length:=by
    have:=Rz (l:=l) (key:=key)
    rw [r3,if_pos rfl] at this
    have:=h.ct;omega
   unfold CF
   by_cases ho:u.2.1.other<0
   ·rw [if_pos ho]
    rcases r5 with ⟨_,n,Q,b1,b2,rfl,_,b4⟩|⟨q,_⟩
    ·rw [if_neg (fun q=>q rfl)]
     obtain⟨s1,P2,s2,s3⟩:=Pt (t:=⟨u.1,u.2.1.page,x+1,t.count - 1⟩) r4.gd (h:=x) rfl b1 b4 r4.nd hct
     exact .inl ⟨s1,r3.symm,P2,s2,(r4.trans s3).mono (by omega)⟩
    ·omega
   ·rw [if_neg ho]
    have hrt:=RN r4.gd (by omega) r5 r4.nd
    dsimp only
    generalize Bo u.1 (-1) ⟨false,[u.2.1.key],[],[u.2.1.page,u.2.1.other]⟩=r at hrt⊢
    rcases hrt with ⟨w1,P2,w2,w3,w4⟩|⟨w1,w2⟩
    ·rw [if_neg (by rw [w1];decide)]
     obtain⟨n,Q,b1,b2,b3,b4⟩:=w3
     subst b3
     obtain⟨s1,P3,s2,s3⟩:=Pt (t:=⟨r.1,r.2.1,x+1+1,t.count - 1⟩) w2.gd (h:=x+1) rfl b1 b4 w2.nd hct
     exact .inl ⟨s1,r3.symm,P3,s2,((r4.trans w2).trans s3).mono (by omega)⟩
    ·rw [if_pos (by rw [w1];decide)]
     exact .inr ⟨w1,by have:=r4.fr;omega⟩
  ·rw [if_pos (.inl (by rw [r1];decide))]
   exact .inr ⟨r1,by omega⟩
theorem Wq{key:List UInt8}:∀(h:Nat) {s:PD}{k:Int}{l:List KV}{P:List Int},Tr s (h+1) k l P→
  EC s key k (h+1)=((D4 l key).1,(D4 l key).2,0)∧∃n,GK s key k (h+1)=h+1+n∧n=if isK l key=true then(if 15<(D4 l key).1.length then AN (D4 l key).1.length else 0) else 0
 |0,s,k,l,P,⟨n,Q,hat,hne,eP,hn⟩=>by
  subst eP
  rw [decide_eq_true rfl] at hn
  obtain⟨n1,n2⟩:=hn.leaf
  have ef:=Ea hat.sound n1
  obtain⟨ks,vs,rfl⟩:∃ks vs,n=⟨true,ks,vs,[]⟩:=⟨_,_,ef⟩
  simp only at n2 hne
  obtain⟨hko,hvl,hv16⟩:=CH.1 hat.sound
  have hlv:=hat.level (x:=((0+1:Nat):Int)) rfl
  have hlz:(AZ s k ((0+1:Nat):Int)).2=0:=by rw [hlv]
  have hln:(AZ s k ((0+1:Nat):Int)).1=⟨true,ks,vs,[]⟩:=by rw [hlv]
  rcases KQ hko (vs:=vs) key with ⟨a,b,rfl,hf,ha,hb⟩|⟨a,b,rfl,hf,ha,hb⟩
  ·obtain⟨va,c,vb,l1,v0,l2,P1,Pv,P2,rfl,ev,rfl,rfl,g1,g2,g3⟩:=OP n2
   have e0:(va++[c]++vb).getD a.length []=c:=by rw [←ev];exact Ez
   have hl1:=Ja g1 ha
   have hl2:=Jc g3 hb
   have hget:D4 (l1++[(key,v0)]++l2) key=(v0,true):=by rw [Nz hl1 hl2,QD]
   have hisk:isK (l1++[(key,v0)]++l2) key=true:=by rw [Ep hl1 hl2,Hr]
   have hg:=S9 hlz hln hf
   simp only [e0] at hg
   rw [hget,hisk]
   refine⟨?_,_,?_,rfl⟩
   ·rw [hg.1,g2.val];simp
   ·rw [hg.2,g2.F3,if_pos rfl]
  ·obtain⟨va,vb,l1,l2,P1,P2,rfl,ev,rfl,rfl,g1,g3⟩:=OG n2
   have hl1:=Ja g1 ha
   have hl2:=Jc g3 hb
   have hisk:isK (l1++l2) key=false:=by
    have:=Ep (m:=[]) hl1 hl2
    rw [Pk,Adr] at this;exact this
   have hget:D4 (l1++l2) key=([],false):=by unfold D4;rw [if_neg (by rw [hisk];decide)]
   obtain⟨y1,y2⟩:=Tv hlz hln hf
   rw [hget,hisk]
   exact⟨y1,0,y2,rfl⟩
 |h+1,s,k,l,P,⟨n,Q,hat,hne,eP,hn⟩=>by
  subst eP
  rw [decide_eq_false (Aez _)] at hn
  obtain⟨n1,n2⟩:=hn.inner
  have ef:=D8 hat.sound n1
  obtain⟨ks,cs,rfl⟩:∃ks cs,n=⟨false,ks,[],cs⟩:=⟨_,_,ef⟩
  simp only at n2 hne
  obtain⟨hko,hcl,hrng⟩:=B7.1 hat.sound
  have hlv:=hat.level (x:=((h+1+1:Nat):Int)) (by show false=_;exact(decide_eq_false (by omega)).symm)
  have hlz:(AZ s k ((h+1+1:Nat):Int)).2=0:=by rw [hlv]
  have hln:(AZ s k ((h+1+1:Nat):Int)).1=⟨false,ks,[],cs⟩:=by rw [hlv]
  obtain⟨a,b,rfl,hf,ha,hb⟩:=JG hat.sound key
  obtain⟨ca,c,cb,rfl,ec⟩:=I1 cs (i:=a.length) (by rw [hcl];simp;omega)
  have e0:(ca++[c]++cb).getD a.length 0=c:=by rw [←ec];exact Ez
  have n2':Kd (Tr s (h+1)) (a++[]++b) (ca++[c]++cb) l Q:=by simpa using n2
  obtain⟨l1,m,l2,P1,Pm,P2,rfl,rfl,g1,g2,g3,g4,g5⟩:=n2'.focus (by simpa using hko) ec rfl
  have hl1:∀x∈l1,Lt x.1 key:=fun x hx=>by
   obtain⟨p,p1,p2⟩:=g1.below x hx
   exact Ip p2 (ha p p1)
  have hl2:∀x∈l2,Lt key x.1:=fun x hx=>by
   obtain⟨p,p1,p2⟩:=g3.Qt x hx
   exact Ip (hb p p1) p2
  have hg:=NQ hlz hln hf
  simp only [e0] at hg
  obtain⟨i1,i2,i3,i4⟩:=Wq (key:=key) h g2
  rw [Nz hl1 hl2,Ep hl1 hl2]
  exact⟨hg.1.trans i1,i2,by rw [hg.2,i3];omega,i4⟩
theorem Rj{R:RT}{m:Nat} (hR:∀c l P,R c l P→m≤l.length):∀{ks:List (List UInt8)}{cs:List Int}{l:List KV}{P:List Int},Kd R ks cs l P→m*(ks.length+1)≤l.length
 |[],[c],l,P,h=>by simpa using hR c l P h
 |[],[],l,P,h=>h.elim
 |[],_::_::_,l,P,h=>h.elim
 |_::_,[],l,P,h=>h.elim
 |k::ks,c::cs,l,P,h=>by
  obtain⟨l1,l2,P1,P2,rfl,rfl,h1,h2,h3,h4⟩:=Kd.cons.1 h
  have a:=hR _ _ _ h1
  have b:=Rj hR h4
  rw [Acl,Acs,Nat.mul_succ];omega
theorem RP:∀(h:Nat) {s:PD}{k:Int}{l:List KV}{P:List Int},Tr s (h+1) k l P→2 ^ h≤l.length
 |0,s,k,l,P,ht=>GW.1 ht.ne
 |h+1,s,k,l,P,⟨n,Q,hat,hne,eP,hn⟩=>by
  rw [decide_eq_false (Aez _)] at hn
  have h1:=Rj (m:=2 ^ h) (fun c l P q=>RP h q) hn.inner.2
  have h2:=GW.1 hne
  have:2 ^ h*2≤2 ^ h*(n.keys.length+1):=Nat.mul_le_mul_left _ (by omega)
  rw [Nat.pow_succ];omega
theorem Tok.high{t:TD}{l:List KV}{P:List Int} (h:Tok t l P):(l=[]∧t.height=0∧t.root= -1)∨(l≠[]∧1≤t.height∧2 ^ t.height≤2*l.length):=by
 rcases h.tr with ⟨e1,e2,rfl,_⟩|⟨x,e1,e2⟩
 ·exact .inl ⟨rfl,e1,e2⟩
 ·refine .inr ⟨e2.ne,by omega,?_⟩
  have:=RP x e2
  rw [e1,Nat.pow_succ];omega
theorem Tok.get{t:TD}{l:List KV}{P:List Int} (h:Tok t l P) (key:List UInt8):EC t.s key t.root t.height=((D4 l key).1,(D4 l key).2,0):=by
 rcases h.tr with ⟨e1,e2,rfl,_⟩|⟨x,e1,e2⟩
 ·rw [e1];rfl
 ·rw [e1];exact(Wq x e2).1
end Go.Gk.Tre
end
