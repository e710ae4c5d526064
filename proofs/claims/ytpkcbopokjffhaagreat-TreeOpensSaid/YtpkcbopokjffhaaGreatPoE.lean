/-
  Our own texts, one behind the other: GkNode5 GkNode6 GkNode7 GkNode8 GkNodeA GkNodeB GkNodeC GkNodeD GkNodeE GkNodeF GkNodeH GkNodeI GkNodeJ GkNodeK GkNodeG GkNodeL GkNodeM GkNodeO Gk42.
-/
import Derived.Test.YtpkcbopokjffhaaGreatPoD
open Nat renaming le_of_ble_eq_true→Aca,le_refl→Ach,zero_le→Adf,zero_add→Aeh,mul_one→Aen,add_sub_cancel→Aet,not_lt_zero→Afm,sub_self→Afy,min_eq_left→Agw,le_of_not_lt→Ahe
open List.Sublist renaming refl→Acb
open Bool renaming and_eq_true→Acd,false_eq_true→Acj,or_eq_true→Adr,eq_iff_iff→Agx,false_or→Ahk
open List renaming getElem?_eq_getElem→Ace,append_assoc→Acg,perm_append_comm→Aci,mem_append→Ack,length_append→Acl,eq_nil_of_length_eq_zero→Acm,length_drop→Aco,all_eq_true→Acq,replicate→Acr,length_cons→Acs,mem_cons_self→Acu,mem_singleton→Acv,length_take→Acw,take_succ_eq_append_getElem→Acx,mem_cons_of_mem→Acy,sublist_cons_self→Acz,getElem_mem→Ada,mem_append_left→Adh,length_replicate→Adn,getElem?_eq_none→Adq,nil_append→Adt,getElem?_take_of_lt→Adu,length_map→Adx,getElem?_drop→Aea,getElem?_append_right→Aeb,take_of_length_le→Aec,getElem?_append_left→Aed,nil_sublist→Aef,take_length→Aeg,cons_append→Aej,getD_cons_succ→Aeu,mem_of_getElem?→Aew,getD_cons_zero→Aey,length_singleton→Afs,getD→Afw,getElem_append_right→Agd,mem_of_mem_drop→Agf,getElem_append_left→Agi,drop_left→Agp,take_append_drop→Agv,getElem_drop→Agz,mem_of_mem_take→Aha,ext_getElem→Ahd
open List.Perm renaming swap→Adc
open Option renaming bind_some→Adz,map_some→Aeq,getD_some→Afo,isSome_none→Agr
section
namespace Go.Gk.Node
open Go Go.Gk
attribute [local irreducible] gwp gws
theorem H7{α:Type}{p:α→Bool}:∀{l:List α}{i:Nat},i≤l.length→(∀j (h:j<l.length),j<i→p l[j]=true)→(∀h:i<l.length,p l[i]=false)→(l.takeWhile p).length=i
 |[],i,hi,_,_=>by simp at hi;subst hi;rfl
 |a::l,0,_,_,h=>by
  have:=h (by simp)
  simp at this
  simp [List.takeWhile,this]
 |a::l,i+1,hi,h1,h2=>by
  have ha:p a=true:=h1 0 (by simp) (by omega)
  have:=H7 (p:=p) (l:=l) (i:=i) (by simpa using hi) (fun j h hj=>by have:=h1 (j+1) (by simpa using h) (by omega);simpa using this) (fun h=>by have:=h2 (by simpa using h);simpa using this)
  simp [List.takeWhile,ha,this]
theorem YG{α:Type}{p:α→Bool}:∀{l:List α}{j:Nat} (hj:j<l.length),j<(l.takeWhile p).length→p l[j]=true
 |[],j,hj,_=>by simp at hj
 |a::l,j,hj,h=>by
  simp only [List.takeWhile_cons] at h
  by_cases ha:p a=true
  ·cases j with
   |zero=>exact ha
   |succ j=>simp only [ha,if_true,Acs] at h;exact YG (l:=l) (by simpa using hj) (by omega)
  ·simp [ha] at h
theorem TX{α:Type}{p:α→Bool}:∀{l:List α}{i:Nat} (_:i=(l.takeWhile p).length) (hi:i<l.length),p l[i]=false
 |[],i,_,hi=>by simp at hi
 |a::l,i,e,hi=>by
  simp only [List.takeWhile_cons] at e
  by_cases ha:p a=true
  ·simp only [ha,if_true,Acs] at e
   subst e
   exact TX (l:=l) rfl (by simpa using hi)
  ·simp [ha] at e
   subst e
   simpa using ha
theorem QA{α:Type}{p:α→Bool}:∀(l:List α),(l.takeWhile p).length≤l.length
 |[]=>by simp
 |a::l=>by
  simp only [List.takeWhile]
  split
  ·have:=QA (p:=p) l;simp;omega
  ·simp
theorem O1{α:Type}{p:α→Bool} (x:α):∀(l:List α),((l++[x]).takeWhile p).length=if (l.takeWhile p).length=l.length∧p x=true then l.length+1 else(l.takeWhile p).length
 |[]=>by cases h:p x<;>simp [List.takeWhile,h]
 |a::l=>by
  have ih:=O1 (p:=p) x l
  simp only [Aej,List.takeWhile_cons]
  by_cases h:p a=true
  ·simp only [h,if_true,Acs,ih,Nat.add_right_cancel_iff]
   split<;>rfl
  ·simp [h]
def leB(a b:List UInt8):Bool:=Op.bytesLess a b||decide (a=b)
def Ma(P:Program) (f:FuncId):Prop:=∀{d:Ac}{u v:Value}{a b:List UInt8},AM d u a→AM d v b→CT P f [u,v] d (.bool (decide (a=b)))
def Qq:AY:=⟨10,[(.tmp 4)],(sR (o1 4 (.mv (.const (.bool false))) .done) (sR (om 5 0<|o1 6 (.b2s (tP 5))<|om 7 1<|o1 8 (.b2s (tP 7))<|ob 9 .eql (tP 6) (tP 8)<|om 4 9 .done) .ret))⟩
theorem Yi{P:Program}{f:FuncId} (hd:dec P f=some Qq):Ma P f:=by
 intro d u v a b hu hv
 refine AG hd (Aca rfl) ?_
 show gwp P _ _ _ _ _
 (refine Ad<|Ae rfl<|Aa<|Ad<|AK<|Bf rfl (by assumption)<|AK<|Bf rfl (by assumption)<|Qz rfl rfl<|Ae rfl<|Aa<|Ao ?_)
 (apply En;rfl)
 rfl
def low(n:AF) (key:List UInt8):Nat:=(n.keys.takeWhile (Op.bytesLess · key)).length
def findD(n:AF) (key:List UInt8):Nat×Bool:=
 if n.leaf then(low n key,decide (low n key<n.keys.length)&& decide (n.keys.getD (low n key) []=key)) else(low n key+((n.keys.drop (low n key)).takeWhile (fun k=>decide (k=key))).length,false)
def FQ(n:AF) (key:List UInt8):Nat×Bool:=
 if n.leaf then(low n key,decide (low n key<n.keys.length)&& decide (n.keys.getD (low n key) []=key)) else((n.keys.takeWhile (leB · key)).length,false)
def IS(P:Program) (f:FuncId) (F:AF→List UInt8→Nat×Bool):Prop:=∀{d:Ac}{cs:List Value}{n:AF}{v:Value}{key:List UInt8},Cx d cs n→AM d v key→
 CT P f [.agg cs.toArray,v] d (.tuple #[.int .i64 (F n key).1,.bool (F n key).2])
def SU(a0 a1:Nat):AY:=⟨60,[(.tmp 4),(.tmp 5)],(sR (o1 2 (.box (tP 0))<|o1 4 (.mv (kZ 0))<|o1 5 (.mv (.const (.bool false))) .done) (sR (o1 6 (.mv (kZ 0)) .done) (.seq (.block 0 (.loop (.seq (sR (om 8 6<|oj 9 1 2<|ol 10 9<|oL 11 10<|ob 12 .lss (tP 8) (tP 11)<|om 13 12<|oT 14 13 (.fld 1 (tP 2))<|oT 15 13 (.ld none (tP 14))<|gT 16 13 6<|oT 17 13 (.idx 1 (tP 15) (tP 16))<|oT 18 13 (.ld none (tP 17))<|gT 19 13 1<|oT 20 13 (.call a0 [(tP 18),(tP 19)])<|oT 21 13 (.bin .lss (tP 20) (kZ 0))<|gP 22 13 21 .done) (.cond (tP 22) .skip (.exit 0))) (.block 1 (rG (om 23 6<|ob 24 .add (tP 23) (kZ 1)<|om 6 24 .done)))))) (sR (om 25 6<|oj 26 1 2<|ol 27 26<|oL 28 27<|ob 29 .lss (tP 25) (tP 28)<|om 30 29<|oT 31 30 (.fld 1 (tP 2))<|oT 32 30 (.ld none (tP 31))<|gT 33 30 6<|oT 34 30 (.idx 1 (tP 32) (tP 33))<|oT 35 30 (.ld none (tP 34))<|gT 36 30 1<|oT 37 30 (.call a1 [(tP 35),(tP 36)])<|gP 38 30 37<|om 7 38 .done) (.seq (sR (oj 39 0 2<|ol 40 39 .done) (.cond (tP 40) (sR (om 41 6<|om 42 7<|om 4 41<|om 5 42 .done) .ret) .skip)) (.seq (.block 2 (.loop (.seq (sR (om 43 6<|oj 44 1 2<|ol 45 44<|oL 46 45<|ob 47 .lss (tP 43) (tP 46)<|om 48 47<|oT 49 48 (.fld 1 (tP 2))<|oT 50 48 (.ld none (tP 49))<|gT 51 48 6<|oT 52 48 (.idx 1 (tP 50) (tP 51))<|oT 53 48 (.ld none (tP 52))<|gT 54 48 1<|oT 55 48 (.call a1 [(tP 53),(tP 54)])<|gP 56 48 55 .done) (.cond (tP 56) .skip (.exit 2))) (.block 3 (rG (om 57 6<|ob 58 .add (tP 57) (kZ 1)<|om 6 58 .done)))))) (sR (om 59 6<|om 4 59<|o1 5 (.mv (.const (.bool false))) .done) .ret)))))))⟩
theorem ZL{P:Program}{f f1 f2:FuncId} (hd:dec P f=some (SU f1 f2)) (h1:Iw P f1) (h2:Ma P f2):IS P f findD:=by
 intro d cs n v key hn hkey
 obtain⟨lf,ks,vs,is⟩:=n
 obtain⟨kv,vv,iv,rfl,hk,hv,hiv⟩:∃kv vv iv,cs=[.bool lf,kv,vv,iv]∧C8 d kv ks∧C8 d vv vs∧Dz d iv is:=hn
 refine AG hd (Aca rfl) ?_
 obtain⟨ka,kc,kb,ko,rfl,kA,kS,kN,kl,km,kB,kx⟩:=hk
 show gwp P _ _ _ _ _
 (refine Ad<|Cc rfl (fun _ _=>Ab rfl<|Ae rfl<|Aa<|Ad<|Ab rfl<|Aa<|Ah<|Ax ?_))
 rename_i b T
 refine CZ (α:=Nat) (fun k=>[(1,v),(2,.pointer (some ⟨b,0,none⟩)),(6,.int .i64 k)])
  (fun _=>[bx b T [.bool lf,.slice ka ks.length kc,vv,iv]]) (fun k=>k≤ks.length∧∀j (h:j<ks.length),j<k→Op.bytesLess ks[j] key=true) (fun k=>ks.length - k) 0 ⟨rfl,rfl,rfl,trivial⟩ rfl ⟨Adf _,fun j _ h=>by omega⟩ ?_
 rintro k ρ ⟨hle,hlt⟩
 have hstop:(∀h:k<ks.length,Op.bytesLess ks[k] key=false)→low ⟨lf,ks,vs,is⟩ key=k:=fun h=>H7 hle hlt h
 by_cases h:k<ks.length
 ·obtain⟨c0,hc0,hD0,⟨u0,rfl,hu0⟩⟩:=kx k h
  replace hD0:=hD0.one
  have hc:=Rm ks[k] key
  cases hb:Op.bytesLess ks[k] key with
  |true=>
   have hb':Lib.compareBytes ks[k] key<0:=hc.2 hb
   (refine Ah<|Ad<|Ab rfl<|Ai rfl<|Ag rfl (Aj 0 rfl rfl)<|AL rfl<|AA rfl rfl<|Ae rfl<|Bd rfl (by omega)<|Af rfl<|Ai rfl<|Af rfl<|Ag rfl (Aj 0 rfl rfl)<|Af rfl<|Ab rfl<|Af rfl ?_;apply BA;rfl;rfl;rfl;omega;assumption;refine Af rfl<|Ag rfl (BF (by assumption))<|Af rfl<|AK<|Af rfl ?_)
   refine BR rfl (h1 hu0 hkey) ?_
   (refine Af rfl<|AA rfl rfl<|AB rfl rfl<|Aa<|Ay rfl (by omega)<|Al<|Ax<|AE<|Ab rfl<|AN rfl rfl (by omega) (by omega)<|Ab rfl<|Aa ?_)
   refine⟨k+1,by omega,⟨rfl,rfl,int_eq (by omega),trivial⟩,rfl,rfl,by omega,fun j hj hjk=>?_⟩
   by_cases e:j=k
   ·subst e;exact hb
   ·exact hlt j hj (by omega)
  |false=>
   have hb':¬Lib.compareBytes ks[k] key<0:=fun h0=>by rw [hc.1 h0] at hb;cases hb
   have hl:=hstop (fun _=>hb)
   cases lf
   ·(refine Ah<|Ad<|Ab rfl<|Ai rfl<|Ag rfl (Aj 0 rfl rfl)<|AL rfl<|AA rfl rfl<|Ae rfl<|Bd rfl (by omega)<|Af rfl<|Ai rfl<|Af rfl<|Ag rfl (Aj 0 rfl rfl)<|Af rfl<|Ab rfl<|Af rfl ?_;apply BA;rfl;rfl;rfl;omega;assumption;refine Af rfl<|Ag rfl (BF (by assumption))<|Af rfl<|AK<|Af rfl ?_)
    refine BR rfl (h1 hu0 hkey) ?_
    (refine Af rfl<|AA rfl rfl<|AB rfl rfl<|Aa<|Ar rfl (by omega)<|Bh<|Ad<|Ab rfl<|Ai rfl<|Ag rfl (Aj 0 rfl rfl)<|AL rfl<|AA rfl rfl<|Ae rfl<|Bd rfl (by omega)<|Af rfl<|Ai rfl<|Af rfl<|Ag rfl (Aj 0 rfl rfl)<|Af rfl<|Ab rfl<|Af rfl ?_;apply BA;rfl;rfl;rfl;omega;assumption;refine Af rfl<|Ag rfl (BF (by assumption))<|Af rfl<|AK<|Af rfl ?_)
    refine BR rfl (h2 hu0 hkey) ?_
    (refine AB rfl rfl<|Ae rfl<|Aa<|Ah<|Ad<|Ai rfl<|Ag rfl (Aj 0 rfl rfl)<|Aa<|AR rfl<|Al<|Ah<|Ax ?_)
    refine CZ (α:=Nat) (fun j=>[(1,v),(2,.pointer (some ⟨b,0,none⟩)),(6,.int .i64 j)])
     (fun _=>[bx b T [.bool false,.slice ka ks.length kc,vv,iv]]) (fun j=>k≤j∧j≤ks.length∧∀m (h:m<ks.length),k≤m→m<j→ks[m]=key) (fun j=>ks.length - j) k ⟨rfl,rfl,int_eq (by omega),trivial⟩ rfl ⟨Ach _,by omega,fun m _ h1 h2=>by omega⟩ ?_
    rintro j ρ ⟨hkj,hjl,hje⟩
    have hfin:(∀h:j<ks.length,¬ks[j]=key)→findD ⟨false,ks,vs,is⟩ key=(j,false):=fun hs=>by
     have:((ks.drop k).takeWhile (fun k=>decide (k=key))).length=j - k:=H7 (by simp;omega) (fun m hm hmj=>by
      have:=hje (k+m) (by simp at hm;omega) (by omega) (by omega)
      simpa using this) (fun hm=>by
      have:=hs (by simp at hm;omega)
      simp only [Agz,show k+(j - k)=j by omega]
      simpa using this)
     simp only [findD,hl,Acj,if_false,this]
     rw [show k+(j - k)=j by omega]
    by_cases h7:j<ks.length
    ·obtain⟨c1,hc1,hD1,⟨u1,rfl,hu1⟩⟩:=kx j h7
     replace hD1:=hD1.one
     by_cases h8:ks[j]=key
     ·have h9:decide (ks[j]=key)=true:=by simp [h8]
      (refine Ah<|Ad<|Ab rfl<|Ai rfl<|Ag rfl (Aj 0 rfl rfl)<|AL rfl<|AA rfl rfl<|Ae rfl<|Bd rfl (by omega)<|Af rfl<|Ai rfl<|Af rfl<|Ag rfl (Aj 0 rfl rfl)<|Af rfl<|Ab rfl<|Af rfl ?_;apply BA;rfl;rfl;rfl;omega;assumption;refine Af rfl<|Ag rfl (BF (by assumption))<|Af rfl<|AK<|Af rfl ?_)
      refine BR rfl (h2 hu1 hkey) ?_
      (refine AB rfl rfl<|Aa<|Ay rfl (by omega)<|Al<|Ax<|AE<|Ab rfl<|AN rfl rfl (by omega) (by omega)<|Ab rfl<|Aa ?_)
      refine⟨j+1,by omega,⟨rfl,rfl,int_eq (by omega),trivial⟩,rfl,rfl,by omega,by omega,fun m hm h1' h2'=>?_⟩
      by_cases e:m=j
      ·subst e;exact h8
      ·exact hje m hm h1' (by omega)
     ·have h9:decide (ks[j]=key)=false:=by simp [h8]
      (refine Ah<|Ad<|Ab rfl<|Ai rfl<|Ag rfl (Aj 0 rfl rfl)<|AL rfl<|AA rfl rfl<|Ae rfl<|Bd rfl (by omega)<|Af rfl<|Ai rfl<|Af rfl<|Ag rfl (Aj 0 rfl rfl)<|Af rfl<|Ab rfl<|Af rfl ?_;apply BA;rfl;rfl;rfl;omega;assumption;refine Af rfl<|Ag rfl (BF (by assumption))<|Af rfl<|AK<|Af rfl ?_)
      refine BR rfl (h2 hu1 hkey) ?_
      (refine AB rfl rfl<|Aa<|Ar rfl (by omega)<|Bh<|Ad<|Ab rfl<|Ab rfl<|Ae rfl<|Aa<|Ao ?_)
      refine QF rfl rfl ⟨?_,rfl,rfl⟩
      (rw [hfin (fun _=>h8)];rfl)
    ·have e':j=ks.length:=by omega
     subst e'
     (refine Ah<|Ad<|Ab rfl<|Ai rfl<|Ag rfl (Aj 0 rfl rfl)<|AL rfl<|AA rfl rfl<|Ae rfl<|AZ rfl (by omega)<|An rfl<|An rfl<|An rfl<|An rfl<|An rfl<|An rfl<|An rfl<|Aq rfl rfl<|Aa<|AR rfl<|Bh<|Ad<|Ab rfl<|Ab rfl<|Ae rfl<|Aa<|Ao ?_)
     refine QF rfl rfl ⟨?_,rfl,rfl⟩
     (rw [hfin (fun h=>absurd h (Nat.lt_irrefl _))];rfl)
   ·(refine Ah<|Ad<|Ab rfl<|Ai rfl<|Ag rfl (Aj 0 rfl rfl)<|AL rfl<|AA rfl rfl<|Ae rfl<|Bd rfl (by omega)<|Af rfl<|Ai rfl<|Af rfl<|Ag rfl (Aj 0 rfl rfl)<|Af rfl<|Ab rfl<|Af rfl ?_;apply BA;rfl;rfl;rfl;omega;assumption;refine Af rfl<|Ag rfl (BF (by assumption))<|Af rfl<|AK<|Af rfl ?_)
    refine BR rfl (h1 hu0 hkey) ?_
    (refine Af rfl<|AA rfl rfl<|AB rfl rfl<|Aa<|Ar rfl (by omega)<|Bh<|Ad<|Ab rfl<|Ai rfl<|Ag rfl (Aj 0 rfl rfl)<|AL rfl<|AA rfl rfl<|Ae rfl<|Bd rfl (by omega)<|Af rfl<|Ai rfl<|Af rfl<|Ag rfl (Aj 0 rfl rfl)<|Af rfl<|Ab rfl<|Af rfl ?_;apply BA;rfl;rfl;rfl;omega;assumption;refine Af rfl<|Ag rfl (BF (by assumption))<|Af rfl<|AK<|Af rfl ?_)
    refine BR rfl (h2 hu0 hkey) ?_
    (refine AB rfl rfl<|Ae rfl<|Aa<|Ah<|Ad<|Ai rfl<|Ag rfl (Aj 0 rfl rfl)<|Aa<|Be rfl<|Ad<|Ab rfl<|Ae rfl<|Ab rfl<|Ae rfl<|Aa<|Ao ?_)
    apply IT
    rfl
    rfl
    ·simp [findD,hl]
    ·simp [findD,hl,h]
 ·have e:k=ks.length:=by omega
  subst e
  have hl:=hstop (fun h=>absurd h (Nat.lt_irrefl _))
  cases lf
  ·(refine Ah<|Ad<|Ab rfl<|Ai rfl<|Ag rfl (Aj 0 rfl rfl)<|AL rfl<|AA rfl rfl<|Ae rfl<|AZ rfl (by omega)<|An rfl<|An rfl<|An rfl<|An rfl<|An rfl<|An rfl<|An rfl<|An rfl<|Aq rfl rfl<|Aa<|AR rfl<|Bh<|Ad<|Ab rfl<|Ai rfl<|Ag rfl (Aj 0 rfl rfl)<|AL rfl<|AA rfl rfl<|Ae rfl<|AZ rfl (by omega)<|An rfl<|An rfl<|An rfl<|An rfl<|An rfl<|An rfl<|An rfl<|Aq rfl rfl<|Ae rfl<|Aa<|Ah<|Ad<|Ai rfl<|Ag rfl (Aj 0 rfl rfl)<|Aa<|AR rfl<|Al<|Ah<|Ax ?_)
   refine CZ (α:=Unit) (fun j=>[(1,v),(2,.pointer (some ⟨b,0,none⟩)),(6,.int .i64 ks.length)])
    (fun _=>[bx b T [.bool false,.slice ka ks.length kc,vv,iv]]) (fun _=>True) (fun _=>0) () ⟨rfl,rfl,rfl,trivial⟩ rfl trivial ?_
   intro _ ρ _
   (refine Ah<|Ad<|Ab rfl<|Ai rfl<|Ag rfl (Aj 0 rfl rfl)<|AL rfl<|AA rfl rfl<|Ae rfl<|AZ rfl (by omega)<|An rfl<|An rfl<|An rfl<|An rfl<|An rfl<|An rfl<|An rfl<|Aq rfl rfl<|Aa<|AR rfl<|Bh<|Ad<|Ab rfl<|Ab rfl<|Ae rfl<|Aa<|Ao ?_)
   apply IT
   rfl
   rfl
   ·simp [findD,hl]
   ·simp [findD,hl]
  ·(refine Ah<|Ad<|Ab rfl<|Ai rfl<|Ag rfl (Aj 0 rfl rfl)<|AL rfl<|AA rfl rfl<|Ae rfl<|AZ rfl (by omega)<|An rfl<|An rfl<|An rfl<|An rfl<|An rfl<|An rfl<|An rfl<|An rfl<|Aq rfl rfl<|Aa<|AR rfl<|Bh<|Ad<|Ab rfl<|Ai rfl<|Ag rfl (Aj 0 rfl rfl)<|AL rfl<|AA rfl rfl<|Ae rfl<|AZ rfl (by omega)<|An rfl<|An rfl<|An rfl<|An rfl<|An rfl<|An rfl<|An rfl<|Aq rfl rfl<|Ae rfl<|Aa<|Ah<|Ad<|Ai rfl<|Ag rfl (Aj 0 rfl rfl)<|Aa<|Be rfl<|Ad<|Ab rfl<|Ae rfl<|Ab rfl<|Ae rfl<|Aa<|Ao ?_)
   apply IT
   rfl
   rfl
   ·simp [findD,hl]
   ·simp [findD,hl]
def Ka:AY:=⟨70,[(.tmp 4),(.tmp 5)],(sR (o1 2 (.box (tP 0))<|o1 4 (.mv (kZ 0))<|o1 5 (.mv (.const (.bool false))) .done) (sR (o1 6 (.mv (kZ 0)) .done) (sR (o1 7 (.mv (kZ 0)) .done) (sR (o1 8 (.mv (.const (.bool false))) .done) (.seq (sR (o1 9 (.mv (kZ 0)) .done) (.block 0 (.loop (.seq (sR (om 10 9<|oj 11 1 2<|ol 12 11<|oL 13 12<|ob 14 .lss (tP 10) (tP 13) .done) (.cond (tP 14) .skip (.exit 0))) (.seq (.block 1 (.seq (.seq (.reg true (p1 17 (.fld 1 (tP 2))<|pl 18 17<|pm 19 9<|p1 20 (.idx 1 (tP 18) (tP 19))<|pl 21 20<|p1 22 (.b2s (tP 21))<|pm 23 1<|p1 24 (.b2s (tP 23))<|p1 25 (.bin .lss (tP 22) (tP 24))<|pm 26 25 (.op true ⟨(some 27),(some (26,true)),(.mv (tP 6))⟩ (.op true ⟨(some 28),(some (26,true)),(.mv (tP 9))⟩ (.op true ⟨(some 29),(some (26,true)),(.bin .eql (tP 27) (tP 28))⟩ (p1 30 (.pick (tP 26) (tP 29) (.const (.bool false))) .done)))))) (.cond (tP 30) (rG (om 31 6<|ob 32 .add (tP 31) (kZ 1)<|om 6 32 .done)) .skip)) (.seq (.reg true (p1 33 (.fld 1 (tP 2))<|pl 34 33<|pm 35 9<|p1 36 (.idx 1 (tP 34) (tP 35))<|pl 37 36<|p1 38 (.b2s (tP 37))<|pm 39 1<|p1 40 (.b2s (tP 39))<|p1 41 (.bin .leq (tP 38) (tP 40))<|pm 42 41 (.op true ⟨(some 43),(some (42,true)),(.mv (tP 7))⟩ (.op true ⟨(some 44),(some (42,true)),(.mv (tP 9))⟩ (.op true ⟨(some 45),(some (42,true)),(.bin .eql (tP 43) (tP 44))⟩ (p1 46 (.pick (tP 42) (tP 45) (.const (.bool false))) .done)))))) (.cond (tP 46) (rG (om 47 7<|ob 48 .add (tP 47) (kZ 1)<|om 7 48 .done)) .skip)))) (rG (om 15 9<|ob 16 .add (tP 15) (kZ 1)<|om 9 16 .done))))))) (.seq (sR (oj 49 0 2<|ol 50 49 .done) (.cond (tP 50) (.seq (.reg true (pm 51 6<|p1 52 (.fld 1 (tP 2))<|pl 53 52<|p1 54 (.len (tP 53))<|p1 55 (.bin .lss (tP 51) (tP 54))<|pm 56 55 (.op true ⟨(some 57),(some (56,true)),(.fld 1 (tP 2))⟩ (.op true ⟨(some 58),(some (56,true)),(.ld none (tP 57))⟩ (.op true ⟨(some 59),(some (56,true)),(.mv (tP 6))⟩ (.op true ⟨(some 60),(some (56,true)),(.idx 1 (tP 58) (tP 59))⟩ (.op true ⟨(some 61),(some (56,true)),(.ld none (tP 60))⟩ (.op true ⟨(some 62),(some (56,true)),(.b2s (tP 61))⟩ (.op true ⟨(some 63),(some (56,true)),(.mv (tP 1))⟩ (.op true ⟨(some 64),(some (56,true)),(.b2s (tP 63))⟩ (.op true ⟨(some 65),(some (56,true)),(.bin .eql (tP 62) (tP 64))⟩ (p1 66 (.pick (tP 56) (tP 65) (.const (.bool false))) (.bar (pm 8 66 .done)))))))))))))) (sR (om 67 6<|om 68 8<|om 4 67<|om 5 68 .done) .ret)) .skip)) (sR (om 69 7<|om 4 69<|o1 5 (.mv (.const (.bool false))) .done) .ret)))))))⟩
set_option maxHeartbeats 2000000 in
theorem SC{P:Program}{f:FuncId} (hd:dec P f=some Ka):IS P f FQ:=by
 intro d cs n v key hn hkey
 obtain⟨lf,ks,vs,is⟩:=n
 obtain⟨kv,vv,iv,rfl,hk,hv,hiv⟩:∃kv vv iv,cs=[.bool lf,kv,vv,iv]∧C8 d kv ks∧C8 d vv vs∧Dz d iv is:=hn
 refine AG hd (Aca rfl) ?_
 obtain⟨ka,kc,kb,ko,rfl,kA,kS,kN,kl,km,kB,kx⟩:=hk
 show gwp P _ _ _ _ _
 (refine Ad<|Cc rfl (fun _ _=>Ab rfl<|Ae rfl<|Aa<|Ad<|Ab rfl<|Aa<|Ad<|Ab rfl<|Aa<|Ad<|Ae rfl<|Aa<|Ah<|Ad<|Ab rfl<|Aa<|Ax ?_))
 rename_i b T
 have hlow:∀k,k≤ks.length→((ks.take k).takeWhile (Op.bytesLess · key)).length≤k:=fun k hk=>by have:=QA (p:=(Op.bytesLess · key)) (ks.take k);simp at this;omega
 have hnot:∀k,k≤ks.length→((ks.take k).takeWhile (leB · key)).length≤k:=fun k hk=>by have:=QA (p:=(leB · key)) (ks.take k);simp at this;omega
 refine CZ (α:=Nat) (fun k=>[(1,v),(2,.pointer (some ⟨b,0,none⟩)),(6,.int .i64 ((ks.take k).takeWhile (Op.bytesLess · key)).length),(7,.int .i64 ((ks.take k).takeWhile (leB · key)).length),(8,.bool false),(9,.int .i64 k)])
  (fun _=>[bx b T [.bool lf,.slice ka ks.length kc,vv,iv]]) (fun k=>k≤ks.length) (fun k=>ks.length - k) 0 ⟨rfl,rfl,rfl,rfl,rfl,rfl,trivial⟩ rfl (Adf _) ?_
 intro k ρ hle
 by_cases h:k<ks.length
 ·obtain⟨c0,hc0,hD0,⟨u0,rfl,hu0⟩⟩:=kx k h
  replace hD0:=hD0.one
  have e1:=O1 (p:=(Op.bytesLess · key)) ks[k] (ks.take k)
  have e2:=O1 (p:=(leB · key)) ks[k] (ks.take k)
  rw [←Acx h] at e1 e2
  have hl1:=hlow k (by omega)
  have hl2:=hnot k (by omega)
  have htl:(ks.take k).length=k:=by simp;omega
  rw [htl] at e1 e2
  obtain⟨A,hA⟩:∃A,A=((ks.take k).takeWhile (Op.bytesLess · key)).length:=⟨_,rfl⟩
  obtain⟨B,hB⟩:∃B,B=((ks.take k).takeWhile (leB · key)).length:=⟨_,rfl⟩
  rw [←hA] at e1 hl1⊢
  rw [←hB] at e2 hl2⊢
  have done:∀(x y z:Int) (A' B':Nat),x=A'→y=B'→A'=(if A=k∧Op.bytesLess ks[k] key=true then k+1 else A)→B'=(if B=k∧leB ks[k] key=true then k+1 else B)→
    x=((ks.take (k+1)).takeWhile (Op.bytesLess · key)).length∧y=((ks.take (k+1)).takeWhile (leB · key)).length:=fun x y z A' B' hx hy h1 h2=>by rw [hx,hy,h1,h2,←e1,←e2];exact⟨rfl,rfl⟩
  cases hb:Op.bytesLess ks[k] key with
  |true=>
   have hl4:(Op.bytesLess ks[k] key||decide (ks[k]=key))=true:=by simp [hb]
   have hl3:leB ks[k] key=true:=hl4
   by_cases hAk:A=k
   ·by_cases hBk:B=k
    ·(refine Ah<|Ad<|Ab rfl<|Ai rfl<|Ag rfl (Aj 0 rfl rfl)<|AL rfl<|AA rfl rfl<|Aa<|Ay rfl (by omega)<|Al<|Ah<|Ax<|Ah<|Ah<|Bv<|Ai rfl<|Ag rfl (Aj 0 rfl rfl)<|Ab rfl ?_;apply BA;rfl;rfl;rfl;omega;assumption;refine Ag rfl (BF (by assumption))<|Bf rfl (by assumption)<|AK<|Bf rfl (by assumption)<|Fg rfl rfl<|Ae rfl ?_;apply F1;rfl;(with_reducible assumption);refine Af rfl<|Ab rfl<|Af rfl<|Ab rfl<|Af rfl<|AJ rfl rfl<|AB rfl rfl<|A8<|Ay rfl (by omega)<|AE<|Ab rfl<|AN rfl rfl (by omega) (by omega)<|Ab rfl<|Aa<|Ah<|Bv<|Ai rfl<|Ag rfl (Aj 0 rfl rfl)<|Ab rfl ?_;apply BA;rfl;rfl;rfl;omega;assumption;refine Ag rfl (BF (by assumption))<|Bf rfl (by assumption)<|AK<|Bf rfl (by assumption)<|FT rfl rfl<|Ae rfl ?_;apply F1;rfl;(with_reducible assumption);refine Af rfl<|Ab rfl<|Af rfl<|Ab rfl<|Af rfl<|AJ rfl rfl<|AB rfl rfl<|A8<|Ay rfl (by omega)<|AE<|Ab rfl<|AN rfl rfl (by omega) (by omega)<|Ab rfl<|Aa<|AE<|Ab rfl<|AN rfl rfl (by omega) (by omega)<|Ab rfl<|Aa ?_)
     obtain⟨f1,f2⟩:=done _ _ 0 (k+1) (k+1) rfl rfl (by simp [hAk,hb]) (by simp [hBk,hl3])
     exact⟨k+1,by omega,⟨rfl,rfl,int_eq (by omega),int_eq (by omega),rfl,int_eq (by omega),trivial⟩,rfl,rfl,h⟩
    ·(refine Ah<|Ad<|Ab rfl<|Ai rfl<|Ag rfl (Aj 0 rfl rfl)<|AL rfl<|AA rfl rfl<|Aa<|Ay rfl (by omega)<|Al<|Ah<|Ax<|Ah<|Ah<|Bv<|Ai rfl<|Ag rfl (Aj 0 rfl rfl)<|Ab rfl ?_;apply BA;rfl;rfl;rfl;omega;assumption;refine Ag rfl (BF (by assumption))<|Bf rfl (by assumption)<|AK<|Bf rfl (by assumption)<|Fg rfl rfl<|Ae rfl ?_;apply F1;rfl;(with_reducible assumption);refine Af rfl<|Ab rfl<|Af rfl<|Ab rfl<|Af rfl<|AJ rfl rfl<|AB rfl rfl<|A8<|Ay rfl (by omega)<|AE<|Ab rfl<|AN rfl rfl (by omega) (by omega)<|Ab rfl<|Aa<|Ah<|Bv<|Ai rfl<|Ag rfl (Aj 0 rfl rfl)<|Ab rfl ?_;apply BA;rfl;rfl;rfl;omega;assumption;refine Ag rfl (BF (by assumption))<|Bf rfl (by assumption)<|AK<|Bf rfl (by assumption)<|FT rfl rfl<|Ae rfl ?_;apply F1;rfl;(with_reducible assumption);refine Af rfl<|Ab rfl<|Af rfl<|Ab rfl<|Af rfl<|AJ rfl rfl<|AB rfl rfl<|A8<|Ar rfl (by omega)<|Al<|AE<|Ab rfl<|AN rfl rfl (by omega) (by omega)<|Ab rfl<|Aa ?_)
     obtain⟨f1,f2⟩:=done _ _ 0 (k+1) (B) rfl rfl (by simp [hAk,hb]) (by simp [hBk,hl3])
     exact⟨k+1,by omega,⟨rfl,rfl,int_eq (by omega),int_eq (by omega),rfl,int_eq (by omega),trivial⟩,rfl,rfl,h⟩
   ·by_cases hBk:B=k
    ·(refine Ah<|Ad<|Ab rfl<|Ai rfl<|Ag rfl (Aj 0 rfl rfl)<|AL rfl<|AA rfl rfl<|Aa<|Ay rfl (by omega)<|Al<|Ah<|Ax<|Ah<|Ah<|Bv<|Ai rfl<|Ag rfl (Aj 0 rfl rfl)<|Ab rfl ?_;apply BA;rfl;rfl;rfl;omega;assumption;refine Ag rfl (BF (by assumption))<|Bf rfl (by assumption)<|AK<|Bf rfl (by assumption)<|Fg rfl rfl<|Ae rfl ?_;apply F1;rfl;(with_reducible assumption);refine Af rfl<|Ab rfl<|Af rfl<|Ab rfl<|Af rfl<|AJ rfl rfl<|AB rfl rfl<|A8<|Ar rfl (by omega)<|Al<|Ah<|Bv<|Ai rfl<|Ag rfl (Aj 0 rfl rfl)<|Ab rfl ?_;apply BA;rfl;rfl;rfl;omega;assumption;refine Ag rfl (BF (by assumption))<|Bf rfl (by assumption)<|AK<|Bf rfl (by assumption)<|FT rfl rfl<|Ae rfl ?_;apply F1;rfl;(with_reducible assumption);refine Af rfl<|Ab rfl<|Af rfl<|Ab rfl<|Af rfl<|AJ rfl rfl<|AB rfl rfl<|A8<|Ay rfl (by omega)<|AE<|Ab rfl<|AN rfl rfl (by omega) (by omega)<|Ab rfl<|Aa<|AE<|Ab rfl<|AN rfl rfl (by omega) (by omega)<|Ab rfl<|Aa ?_)
     obtain⟨f1,f2⟩:=done _ _ 0 (A) (k+1) rfl rfl (by simp [hAk,hb]) (by simp [hBk,hl3])
     exact⟨k+1,by omega,⟨rfl,rfl,int_eq (by omega),int_eq (by omega),rfl,int_eq (by omega),trivial⟩,rfl,rfl,h⟩
    ·(refine Ah<|Ad<|Ab rfl<|Ai rfl<|Ag rfl (Aj 0 rfl rfl)<|AL rfl<|AA rfl rfl<|Aa<|Ay rfl (by omega)<|Al<|Ah<|Ax<|Ah<|Ah<|Bv<|Ai rfl<|Ag rfl (Aj 0 rfl rfl)<|Ab rfl ?_;apply BA;rfl;rfl;rfl;omega;assumption;refine Ag rfl (BF (by assumption))<|Bf rfl (by assumption)<|AK<|Bf rfl (by assumption)<|Fg rfl rfl<|Ae rfl ?_;apply F1;rfl;(with_reducible assumption);refine Af rfl<|Ab rfl<|Af rfl<|Ab rfl<|Af rfl<|AJ rfl rfl<|AB rfl rfl<|A8<|Ar rfl (by omega)<|Al<|Ah<|Bv<|Ai rfl<|Ag rfl (Aj 0 rfl rfl)<|Ab rfl ?_;apply BA;rfl;rfl;rfl;omega;assumption;refine Ag rfl (BF (by assumption))<|Bf rfl (by assumption)<|AK<|Bf rfl (by assumption)<|FT rfl rfl<|Ae rfl ?_;apply F1;rfl;(with_reducible assumption);refine Af rfl<|Ab rfl<|Af rfl<|Ab rfl<|Af rfl<|AJ rfl rfl<|AB rfl rfl<|A8<|Ar rfl (by omega)<|Al<|AE<|Ab rfl<|AN rfl rfl (by omega) (by omega)<|Ab rfl<|Aa ?_)
     obtain⟨f1,f2⟩:=done _ _ 0 (A) (B) rfl rfl (by simp [hAk,hb]) (by simp [hBk,hl3])
     exact⟨k+1,by omega,⟨rfl,rfl,int_eq (by omega),int_eq (by omega),rfl,int_eq (by omega),trivial⟩,rfl,rfl,h⟩
  |false=>
   by_cases he:ks[k]=key
   ·have hl4:(Op.bytesLess ks[k] key||decide (ks[k]=key))=true:=by simp [he]
    have hl3:leB ks[k] key=true:=hl4
    by_cases hAk:A=k
    ·by_cases hBk:B=k
     ·(refine Ah<|Ad<|Ab rfl<|Ai rfl<|Ag rfl (Aj 0 rfl rfl)<|AL rfl<|AA rfl rfl<|Aa<|Ay rfl (by omega)<|Al<|Ah<|Ax<|Ah<|Ah<|Bv<|Ai rfl<|Ag rfl (Aj 0 rfl rfl)<|Ab rfl ?_;apply BA;rfl;rfl;rfl;omega;assumption;refine Ag rfl (BF (by assumption))<|Bf rfl (by assumption)<|AK<|Bf rfl (by assumption)<|Fg rfl rfl<|Ae rfl ?_;apply FY;rfl;(with_reducible assumption);refine An rfl<|An rfl<|An rfl<|Aq rfl rfl<|A8<|AR rfl<|Al<|Ah<|Bv<|Ai rfl<|Ag rfl (Aj 0 rfl rfl)<|Ab rfl ?_;apply BA;rfl;rfl;rfl;omega;assumption;refine Ag rfl (BF (by assumption))<|Bf rfl (by assumption)<|AK<|Bf rfl (by assumption)<|FT rfl rfl<|Ae rfl ?_;apply F1;rfl;(with_reducible assumption);refine Af rfl<|Ab rfl<|Af rfl<|Ab rfl<|Af rfl<|AJ rfl rfl<|AB rfl rfl<|A8<|Ay rfl (by omega)<|AE<|Ab rfl<|AN rfl rfl (by omega) (by omega)<|Ab rfl<|Aa<|AE<|Ab rfl<|AN rfl rfl (by omega) (by omega)<|Ab rfl<|Aa ?_)
      obtain⟨f1,f2⟩:=done _ _ 0 (A) (k+1) rfl rfl (by simp [hAk,hb]) (by simp [hBk,hl3])
      exact⟨k+1,by omega,⟨rfl,rfl,int_eq (by omega),int_eq (by omega),rfl,int_eq (by omega),trivial⟩,rfl,rfl,h⟩
     ·(refine Ah<|Ad<|Ab rfl<|Ai rfl<|Ag rfl (Aj 0 rfl rfl)<|AL rfl<|AA rfl rfl<|Aa<|Ay rfl (by omega)<|Al<|Ah<|Ax<|Ah<|Ah<|Bv<|Ai rfl<|Ag rfl (Aj 0 rfl rfl)<|Ab rfl ?_;apply BA;rfl;rfl;rfl;omega;assumption;refine Ag rfl (BF (by assumption))<|Bf rfl (by assumption)<|AK<|Bf rfl (by assumption)<|Fg rfl rfl<|Ae rfl ?_;apply FY;rfl;(with_reducible assumption);refine An rfl<|An rfl<|An rfl<|Aq rfl rfl<|A8<|AR rfl<|Al<|Ah<|Bv<|Ai rfl<|Ag rfl (Aj 0 rfl rfl)<|Ab rfl ?_;apply BA;rfl;rfl;rfl;omega;assumption;refine Ag rfl (BF (by assumption))<|Bf rfl (by assumption)<|AK<|Bf rfl (by assumption)<|FT rfl rfl<|Ae rfl ?_;apply F1;rfl;(with_reducible assumption);refine Af rfl<|Ab rfl<|Af rfl<|Ab rfl<|Af rfl<|AJ rfl rfl<|AB rfl rfl<|A8<|Ar rfl (by omega)<|Al<|AE<|Ab rfl<|AN rfl rfl (by omega) (by omega)<|Ab rfl<|Aa ?_)
      obtain⟨f1,f2⟩:=done _ _ 0 (A) (B) rfl rfl (by simp [hAk,hb]) (by simp [hBk,hl3])
      exact⟨k+1,by omega,⟨rfl,rfl,int_eq (by omega),int_eq (by omega),rfl,int_eq (by omega),trivial⟩,rfl,rfl,h⟩
    ·by_cases hBk:B=k
     ·(refine Ah<|Ad<|Ab rfl<|Ai rfl<|Ag rfl (Aj 0 rfl rfl)<|AL rfl<|AA rfl rfl<|Aa<|Ay rfl (by omega)<|Al<|Ah<|Ax<|Ah<|Ah<|Bv<|Ai rfl<|Ag rfl (Aj 0 rfl rfl)<|Ab rfl ?_;apply BA;rfl;rfl;rfl;omega;assumption;refine Ag rfl (BF (by assumption))<|Bf rfl (by assumption)<|AK<|Bf rfl (by assumption)<|Fg rfl rfl<|Ae rfl ?_;apply FY;rfl;(with_reducible assumption);refine An rfl<|An rfl<|An rfl<|Aq rfl rfl<|A8<|AR rfl<|Al<|Ah<|Bv<|Ai rfl<|Ag rfl (Aj 0 rfl rfl)<|Ab rfl ?_;apply BA;rfl;rfl;rfl;omega;assumption;refine Ag rfl (BF (by assumption))<|Bf rfl (by assumption)<|AK<|Bf rfl (by assumption)<|FT rfl rfl<|Ae rfl ?_;apply F1;rfl;(with_reducible assumption);refine Af rfl<|Ab rfl<|Af rfl<|Ab rfl<|Af rfl<|AJ rfl rfl<|AB rfl rfl<|A8<|Ay rfl (by omega)<|AE<|Ab rfl<|AN rfl rfl (by omega) (by omega)<|Ab rfl<|Aa<|AE<|Ab rfl<|AN rfl rfl (by omega) (by omega)<|Ab rfl<|Aa ?_)
      obtain⟨f1,f2⟩:=done _ _ 0 (A) (k+1) rfl rfl (by simp [hAk,hb]) (by simp [hBk,hl3])
      exact⟨k+1,by omega,⟨rfl,rfl,int_eq (by omega),int_eq (by omega),rfl,int_eq (by omega),trivial⟩,rfl,rfl,h⟩
     ·(refine Ah<|Ad<|Ab rfl<|Ai rfl<|Ag rfl (Aj 0 rfl rfl)<|AL rfl<|AA rfl rfl<|Aa<|Ay rfl (by omega)<|Al<|Ah<|Ax<|Ah<|Ah<|Bv<|Ai rfl<|Ag rfl (Aj 0 rfl rfl)<|Ab rfl ?_;apply BA;rfl;rfl;rfl;omega;assumption;refine Ag rfl (BF (by assumption))<|Bf rfl (by assumption)<|AK<|Bf rfl (by assumption)<|Fg rfl rfl<|Ae rfl ?_;apply FY;rfl;(with_reducible assumption);refine An rfl<|An rfl<|An rfl<|Aq rfl rfl<|A8<|AR rfl<|Al<|Ah<|Bv<|Ai rfl<|Ag rfl (Aj 0 rfl rfl)<|Ab rfl ?_;apply BA;rfl;rfl;rfl;omega;assumption;refine Ag rfl (BF (by assumption))<|Bf rfl (by assumption)<|AK<|Bf rfl (by assumption)<|FT rfl rfl<|Ae rfl ?_;apply F1;rfl;(with_reducible assumption);refine Af rfl<|Ab rfl<|Af rfl<|Ab rfl<|Af rfl<|AJ rfl rfl<|AB rfl rfl<|A8<|Ar rfl (by omega)<|Al<|AE<|Ab rfl<|AN rfl rfl (by omega) (by omega)<|Ab rfl<|Aa ?_)
      obtain⟨f1,f2⟩:=done _ _ 0 (A) (B) rfl rfl (by simp [hAk,hb]) (by simp [hBk,hl3])
      exact⟨k+1,by omega,⟨rfl,rfl,int_eq (by omega),int_eq (by omega),rfl,int_eq (by omega),trivial⟩,rfl,rfl,h⟩
   ·have hl4:(Op.bytesLess ks[k] key||decide (ks[k]=key))=false:=by simp [he,hb]
    have hl3:leB ks[k] key=false:=hl4
    by_cases hAk:A=k
    ·by_cases hBk:B=k
     ·(refine Ah<|Ad<|Ab rfl<|Ai rfl<|Ag rfl (Aj 0 rfl rfl)<|AL rfl<|AA rfl rfl<|Aa<|Ay rfl (by omega)<|Al<|Ah<|Ax<|Ah<|Ah<|Bv<|Ai rfl<|Ag rfl (Aj 0 rfl rfl)<|Ab rfl ?_;apply BA;rfl;rfl;rfl;omega;assumption;refine Ag rfl (BF (by assumption))<|Bf rfl (by assumption)<|AK<|Bf rfl (by assumption)<|Fg rfl rfl<|Ae rfl ?_;apply FY;rfl;(with_reducible assumption);refine An rfl<|An rfl<|An rfl<|Aq rfl rfl<|A8<|AR rfl<|Al<|Ah<|Bv<|Ai rfl<|Ag rfl (Aj 0 rfl rfl)<|Ab rfl ?_;apply BA;rfl;rfl;rfl;omega;assumption;refine Ag rfl (BF (by assumption))<|Bf rfl (by assumption)<|AK<|Bf rfl (by assumption)<|FT rfl rfl<|Ae rfl ?_;apply FY;rfl;(with_reducible assumption);refine An rfl<|An rfl<|An rfl<|Aq rfl rfl<|A8<|AR rfl<|Al<|AE<|Ab rfl<|AN rfl rfl (by omega) (by omega)<|Ab rfl<|Aa ?_)
      obtain⟨f1,f2⟩:=done _ _ 0 (A) (B) rfl rfl (by simp [hAk,hb]) (by simp [hBk,hl3])
      exact⟨k+1,by omega,⟨rfl,rfl,int_eq (by omega),int_eq (by omega),rfl,int_eq (by omega),trivial⟩,rfl,rfl,h⟩
     ·(refine Ah<|Ad<|Ab rfl<|Ai rfl<|Ag rfl (Aj 0 rfl rfl)<|AL rfl<|AA rfl rfl<|Aa<|Ay rfl (by omega)<|Al<|Ah<|Ax<|Ah<|Ah<|Bv<|Ai rfl<|Ag rfl (Aj 0 rfl rfl)<|Ab rfl ?_;apply BA;rfl;rfl;rfl;omega;assumption;refine Ag rfl (BF (by assumption))<|Bf rfl (by assumption)<|AK<|Bf rfl (by assumption)<|Fg rfl rfl<|Ae rfl ?_;apply FY;rfl;(with_reducible assumption);refine An rfl<|An rfl<|An rfl<|Aq rfl rfl<|A8<|AR rfl<|Al<|Ah<|Bv<|Ai rfl<|Ag rfl (Aj 0 rfl rfl)<|Ab rfl ?_;apply BA;rfl;rfl;rfl;omega;assumption;refine Ag rfl (BF (by assumption))<|Bf rfl (by assumption)<|AK<|Bf rfl (by assumption)<|FT rfl rfl<|Ae rfl ?_;apply FY;rfl;(with_reducible assumption);refine An rfl<|An rfl<|An rfl<|Aq rfl rfl<|A8<|AR rfl<|Al<|AE<|Ab rfl<|AN rfl rfl (by omega) (by omega)<|Ab rfl<|Aa ?_)
      obtain⟨f1,f2⟩:=done _ _ 0 (A) (B) rfl rfl (by simp [hAk,hb]) (by simp [hBk,hl3])
      exact⟨k+1,by omega,⟨rfl,rfl,int_eq (by omega),int_eq (by omega),rfl,int_eq (by omega),trivial⟩,rfl,rfl,h⟩
    ·by_cases hBk:B=k
     ·(refine Ah<|Ad<|Ab rfl<|Ai rfl<|Ag rfl (Aj 0 rfl rfl)<|AL rfl<|AA rfl rfl<|Aa<|Ay rfl (by omega)<|Al<|Ah<|Ax<|Ah<|Ah<|Bv<|Ai rfl<|Ag rfl (Aj 0 rfl rfl)<|Ab rfl ?_;apply BA;rfl;rfl;rfl;omega;assumption;refine Ag rfl (BF (by assumption))<|Bf rfl (by assumption)<|AK<|Bf rfl (by assumption)<|Fg rfl rfl<|Ae rfl ?_;apply FY;rfl;(with_reducible assumption);refine An rfl<|An rfl<|An rfl<|Aq rfl rfl<|A8<|AR rfl<|Al<|Ah<|Bv<|Ai rfl<|Ag rfl (Aj 0 rfl rfl)<|Ab rfl ?_;apply BA;rfl;rfl;rfl;omega;assumption;refine Ag rfl (BF (by assumption))<|Bf rfl (by assumption)<|AK<|Bf rfl (by assumption)<|FT rfl rfl<|Ae rfl ?_;apply FY;rfl;(with_reducible assumption);refine An rfl<|An rfl<|An rfl<|Aq rfl rfl<|A8<|AR rfl<|Al<|AE<|Ab rfl<|AN rfl rfl (by omega) (by omega)<|Ab rfl<|Aa ?_)
      obtain⟨f1,f2⟩:=done _ _ 0 (A) (B) rfl rfl (by simp [hAk,hb]) (by simp [hBk,hl3])
      exact⟨k+1,by omega,⟨rfl,rfl,int_eq (by omega),int_eq (by omega),rfl,int_eq (by omega),trivial⟩,rfl,rfl,h⟩
     ·(refine Ah<|Ad<|Ab rfl<|Ai rfl<|Ag rfl (Aj 0 rfl rfl)<|AL rfl<|AA rfl rfl<|Aa<|Ay rfl (by omega)<|Al<|Ah<|Ax<|Ah<|Ah<|Bv<|Ai rfl<|Ag rfl (Aj 0 rfl rfl)<|Ab rfl ?_;apply BA;rfl;rfl;rfl;omega;assumption;refine Ag rfl (BF (by assumption))<|Bf rfl (by assumption)<|AK<|Bf rfl (by assumption)<|Fg rfl rfl<|Ae rfl ?_;apply FY;rfl;(with_reducible assumption);refine An rfl<|An rfl<|An rfl<|Aq rfl rfl<|A8<|AR rfl<|Al<|Ah<|Bv<|Ai rfl<|Ag rfl (Aj 0 rfl rfl)<|Ab rfl ?_;apply BA;rfl;rfl;rfl;omega;assumption;refine Ag rfl (BF (by assumption))<|Bf rfl (by assumption)<|AK<|Bf rfl (by assumption)<|FT rfl rfl<|Ae rfl ?_;apply FY;rfl;(with_reducible assumption);refine An rfl<|An rfl<|An rfl<|Aq rfl rfl<|A8<|AR rfl<|Al<|AE<|Ab rfl<|AN rfl rfl (by omega) (by omega)<|Ab rfl<|Aa ?_)
      obtain⟨f1,f2⟩:=done _ _ 0 (A) (B) rfl rfl (by simp [hAk,hb]) (by simp [hBk,hl3])
      exact⟨k+1,by omega,⟨rfl,rfl,int_eq (by omega),int_eq (by omega),rfl,int_eq (by omega),trivial⟩,rfl,rfl,h⟩
 ·have e:k=ks.length:=by omega
  subst e
  rw [Aeg]
  have hl:∃A,A=low ⟨lf,ks,vs,is⟩ key:=⟨_,rfl⟩
  have hlk:=hlow ks.length (Ach _)
  rw [Aeg] at hlk
  obtain⟨A,hA⟩:∃A,A=(ks.takeWhile (Op.bytesLess · key)).length:=⟨_,rfl⟩
  rw [←hA] at hlk⊢
  have hA':low ⟨lf,ks,vs,is⟩ key=A:=hA.symm
  cases lf
  ·(refine Ah<|Ad<|Ab rfl<|Ai rfl<|Ag rfl (Aj 0 rfl rfl)<|AL rfl<|AA rfl rfl<|Aa<|Ar rfl (by omega)<|Bh<|Ah<|Ad<|Ai rfl<|Ag rfl (Aj 0 rfl rfl)<|Aa<|AR rfl<|Al<|Ad<|Ab rfl<|Ab rfl<|Ae rfl<|Aa<|Ao ?_)
   apply IT
   rfl
   rfl
   ·simp [FQ]
   ·simp [FQ]
  ·by_cases h:A<ks.length
   ·obtain⟨c0,hc0,hD0,⟨u0,rfl,hu0⟩⟩:=kx A h
    replace hD0:=hD0.one
    (refine Ah<|Ad<|Ab rfl<|Ai rfl<|Ag rfl (Aj 0 rfl rfl)<|AL rfl<|AA rfl rfl<|Aa<|Ar rfl (by omega)<|Bh<|Ah<|Ad<|Ai rfl<|Ag rfl (Aj 0 rfl rfl)<|Aa<|Be rfl<|Ah<|Bv<|Ab rfl<|Ai rfl<|Ag rfl (Aj 0 rfl rfl)<|AL rfl<|AA rfl rfl<|Ae rfl<|Bd rfl (by omega)<|Af rfl<|Ai rfl<|Af rfl<|Ag rfl (Aj 0 rfl rfl)<|Af rfl<|Ab rfl<|Af rfl ?_;apply BA;rfl;rfl;rfl;omega;assumption;refine Af rfl<|Ag rfl (BF (by assumption))<|Af rfl<|Bf rfl (by assumption)<|Af rfl<|AK<|Af rfl<|Bf rfl (by assumption)<|Af rfl<|Qz rfl rfl<|AB rfl rfl<|B4<|Ae rfl<|Aa<|Ad<|Ab rfl<|Ae rfl<|Ab rfl<|Ae rfl<|Aa<|Ao ?_)
    apply IT
    rfl
    rfl
    ·simp [FQ,hA']
    ·simp [FQ,hA',h]
   ·(refine Ah<|Ad<|Ab rfl<|Ai rfl<|Ag rfl (Aj 0 rfl rfl)<|AL rfl<|AA rfl rfl<|Aa<|Ar rfl (by omega)<|Bh<|Ah<|Ad<|Ai rfl<|Ag rfl (Aj 0 rfl rfl)<|Aa<|Be rfl<|Ah<|Bv<|Ab rfl<|Ai rfl<|Ag rfl (Aj 0 rfl rfl)<|AL rfl<|AA rfl rfl<|Ae rfl<|AZ rfl (by omega)<|An rfl<|An rfl<|An rfl<|An rfl<|An rfl<|An rfl<|An rfl<|An rfl<|An rfl<|Aq rfl rfl<|B4<|Ae rfl<|Aa<|Ad<|Ab rfl<|Ae rfl<|Ab rfl<|Ae rfl<|Aa<|Ao ?_)
    apply IT
    rfl
    rfl
    ·simp [FQ,hA']
    ·(first|(simp [FQ,hA',h];done)|(simp [FQ,hA',h];omega))
theorem Ld{ks:List (List UInt8)}:∀{m k:Nat},Dj ks m=true→k<m→kOk ks k=true
 |0,_,_,h=>by omega
 |m+1,k,h,hk=>by
  simp only [Dj,Acd] at h
  by_cases e:k=m
  ·subst e;exact h.2
  ·exact Ld h.1 (by omega)
theorem KD{ks:List (List UInt8)} (h:Dj ks ks.length=true):∀{j i:Nat} (hj:j<ks.length) (hi:i<j),Op.bytesLess (ks[i]'(by omega)) ks[j]=true:=by
 intro j
 induction j with
 |zero=>intro i _ hi;omega
 |succ j ih=>
  intro i hj hi
  have hk:=Ld h hj
  simp only [kOk,Acd,Adr,beq_iff_eq,Aet] at hk
  have h1:Op.bytesLess ks[j] ks[j+1]=true:=by
   rcases hk.2 with e|e
   ·omega
   ·simpa [show j<ks.length by omega,hj] using e
  by_cases e:i=j
  ·subst e;exact h1
  ·exact Jm (ih (by omega) (by omega)) h1
theorem find_eq(n:AF) (key:List UInt8) (h:A6 n=true):findD n key=FQ n key:=by
 obtain⟨lf,ks,vs,is⟩:=n
 unfold findD FQ
 cases lf with
 |true=>rfl
 |false=>
  simp only [Acj,if_false,Prod.mk.injEq,and_true]
  have hk:Dj ks ks.length=true:=by simp only [A6,Acd] at h;exact h.1
  have rise:=fun{j i:Nat} (hj:j<ks.length) (hi:i<j)=>KD hk hj hi
  have hl:low ⟨false,ks,vs,is⟩ key≤ks.length:=QA ks
  obtain⟨A,hA⟩:∃A,A=low ⟨false,ks,vs,is⟩ key:=⟨_,rfl⟩
  rw [←hA] at hl⊢
  have below:∀j (hj:j<ks.length),j<A→Op.bytesLess ks[j] key=true:=fun j hj hjA=>YG (p:=(Op.bytesLess · key)) hj (by rw [hA] at hjA;exact hjA)
  have stop:∀h:A<ks.length,Op.bytesLess ks[A] key=false:=fun h=>TX (p:=(Op.bytesLess · key)) hA h
  have les:∀{a b:List UInt8},Op.bytesLess a b=true→leB a b=true:=fun h=>by simp [leB,h]
  by_cases he:∃h:A<ks.length,ks[A]=key
  ·obtain⟨h,he⟩:=he
   have h1:((ks.drop A).takeWhile (fun k=>decide (k=key))).length=1:=H7 (by simp;omega) (fun m hm hm1=>by
    obtain rfl:m=0:=by omega
    simpa using he) (fun hm=>by
    have hm':A+1<ks.length:=by simp at hm;omega
    have:=rise hm' (i:=A) (by omega)
    rw [he] at this
    simp only [Agz,decide_eq_false_iff_not]
    intro e
    rw [e,Ex] at this;cases this)
   have h2:(ks.takeWhile (leB · key)).length=A+1:=H7 h (fun j hj hjA=>by
    by_cases e:j=A
    ·subst e;simp [leB,he]
    ·exact les (below j hj (by omega))) (fun hm=>by
    have:=rise hm (i:=A) (by omega)
    rw [he] at this
    have h3:=XQ this
    simp only [leB,h3,Ahk,decide_eq_false_iff_not]
    intro e
    rw [e,Ex] at this;cases this)
   rw [h1,h2]
  ·have h1:((ks.drop A).takeWhile (fun k=>decide (k=key))).length=0:=H7 (by omega) (fun m _ hm=>by omega) (fun hm=>by
    have hm':A<ks.length:=by simp at hm;omega
    simp only [Agz,decide_eq_false_iff_not,Nat.add_zero]
    intro e;exact he ⟨hm',e⟩)
   have h2:(ks.takeWhile (leB · key)).length=A:=H7 hl (fun j hj hjA=>les (below j hj hjA)) (fun hm=>by
    simp only [leB,stop hm,Ahk,decide_eq_false_iff_not]
    intro e;exact he ⟨hm,e⟩)
   rw [h1,h2];rfl
def FJ(k:Int):List UInt8:=[UInt8.ofNat ((k / 256) % 256).toNat,UInt8.ofNat (k % 256).toNat]
def u8n(n:Nat):UInt8:=UInt8.ofNat ((n:Int) % 256).toNat
def tailD(n:AF) (k:Nat):List UInt8:=if n.leaf then u8n (ES n k)::n.vals.getD k [] else FJ (n.kids.getD (k+1) 0)
def headD(n:AF):List UInt8:=[if n.leaf then 1 else 2,u8n n.keys.length]++(if n.leaf then [] else FJ (n.kids.getD 0 0))
def Cv(n:AF):Nat→List UInt8
 |0=>headD n
 |k+1=>Cv n k++(u8n (Df n k)::n.keys.getD k [])++tailD n k
theorem PG(n:AF):∀k,(Cv n k).length=(if n.leaf then 2 else 4+2*k)+Bm n k:=by
 intro k
 induction k with
 |zero=>simp only [Cv,headD,Bm];split<;>simp [FJ]
 |succ k ih=>
  simp only [Cv,Acl,ih,Bm,tailD,DY,Df,ES]
  split<;>simp [FJ]<;>omega
def B6(n:AF):List UInt8:=Cv n n.keys.length++Acr (256 - (Cv n n.keys.length).length) 0
theorem Yy(n:Nat):Bp [Value.int .u8 0] n=Acr n (Az 0):=by
 unfold Bp
 apply Ahd
 ·simp
 ·intro i h1 h2
  simp [Nat.mod_one,Az]
def NR(P:Program) (f:FuncId):Prop:=∀{d:Ac}{cs:List Value}{n:AF},Cx d cs n→A6 n=true→A5 n≤256→
 Aw P f [.agg cs.toArray] d [] (Ret fun r d' L'=>d'=d∧∃h,L'=[h]∧Ep 256 r (B6 n) h)
theorem Ep.nil{N b:Nat}{T:TypeId}:Ep N (.slice (some ⟨b,0,none⟩) 0 N) [] (bx b T (Bp [Value.int .u8 0] (N*1))):=
 ⟨Adf _,b,T,rfl,by rw [Yy];simp⟩
def SX:AY:=⟨87,[(.tmp 2)],(sR (o1 1 (.box (tP 0))<|o1 2 (.mv nS) .done) (sR (o1 6 (.mks 1 1 [(.int .u8 0)] (kZ 0) (kZ 256))<|om 3 6 .done) (sR (om 7 3<|oj 8 1 1<|ol 9 8<|oL 10 9<|o1 11 (.cvi .u8 (tP 10))<|o1 12 (.bsl 2 1 [(.int .u8 0)] [(0,(.const (.int .u8 2))),(1,(tP 11))])<|o1 13 (.app 1 1 [(.int .u8 0)] (tP 7) (tP 12))<|om 3 13 .done) (.seq (sR (oj 14 0 1<|ol 15 14 .done) (.cond (tP 15) (rG (om 16 3<|o1 17 (.idx 1 (tP 16) (kZ 0))<|o0 (.st 1 (tP 17) (.const (.int .u8 1))) .done)) (.reg true (pm 18 3<|p1 19 (.fld 3 (tP 1))<|pl 20 19<|p1 21 (.idx 1 (tP 20) (kZ 0))<|pl 22 21<|p1 23 (.bin .shr (tP 22) (.const (.int .u64 8)))<|p1 24 (.cvi .u8 (tP 23))<|p1 25 (.fld 3 (tP 1))<|pl 26 25<|p1 27 (.idx 1 (tP 26) (kZ 0))<|pl 28 27<|p1 29 (.cvi .u8 (tP 28))<|o1 30 (.bsl 2 1 [(.int .u8 0)] [(0,(tP 24)),(1,(tP 29))])<|o1 31 (.app 1 1 [(.int .u8 0)] (tP 18) (tP 30)) (.bar (pm 3 31 .done)))))) (.seq (sR (oj 32 1 1<|ol 33 32<|oL 34 33<|o1 35 (.mv (kZ 0)) .done) (.block 0 (.loop (sR (ob 36 .lss (tP 35) (tP 34) .done) (.seq (.cond (tP 36) .skip (.exit 0)) (.seq (.block 1 (sR (om 37 35<|oI 38 1 33 35<|ol 39 38<|om 4 37<|om 5 39 .done) (sR (om 40 3<|om 41 5<|oL 42 41<|o1 43 (.cvi .u8 (tP 42))<|o1 44 (.bsl 1 1 [(.int .u8 0)] [(0,(tP 43))])<|o1 45 (.app 1 1 [(.int .u8 0)] (tP 40) (tP 44))<|om 46 5<|o1 47 (.app 1 1 [(.int .u8 0)] (tP 45) (tP 46))<|om 3 47 .done) (sR (oj 48 0 1<|ol 49 48 .done) (.cond (tP 49) (.reg true (pm 50 3<|p1 51 (.fld 2 (tP 1))<|pl 52 51<|pm 53 4<|p1 54 (.idx 1 (tP 52) (tP 53))<|pl 55 54<|p1 56 (.len (tP 55))<|p1 57 (.cvi .u8 (tP 56))<|p1 60 (.fld 2 (tP 1))<|pl 61 60<|pm 62 4<|p1 63 (.idx 1 (tP 61) (tP 62))<|pl 64 63<|o1 58 (.bsl 1 1 [(.int .u8 0)] [(0,(tP 57))])<|o1 59 (.app 1 1 [(.int .u8 0)] (tP 50) (tP 58))<|o1 65 (.app 1 1 [(.int .u8 0)] (tP 59) (tP 64)) (.bar (pm 3 65 .done)))) (.reg true (pm 66 3<|p1 67 (.fld 3 (tP 1))<|pl 68 67<|pm 69 4<|p1 70 (.bin .add (tP 69) (kZ 1))<|p1 71 (.idx 1 (tP 68) (tP 70))<|pl 72 71<|p1 73 (.bin .shr (tP 72) (.const (.int .u64 8)))<|p1 74 (.cvi .u8 (tP 73))<|p1 75 (.fld 3 (tP 1))<|pl 76 75<|pm 77 4<|p1 78 (.bin .add (tP 77) (kZ 1))<|p1 79 (.idx 1 (tP 76) (tP 78))<|pl 80 79<|p1 81 (.cvi .u8 (tP 80))<|o1 82 (.bsl 2 1 [(.int .u8 0)] [(0,(tP 74)),(1,(tP 81))])<|o1 83 (.app 1 1 [(.int .u8 0)] (tP 66) (tP 82)) (.bar (pm 3 83 .done))))))))) (rG (ob 84 .add (tP 35) (kZ 1)<|om 35 84 .done)))))))) (sR (om 85 3<|o1 86 (.sl 1 (tP 85) none (some (kZ 256)) none)<|om 2 86 .done) .ret))))))⟩
theorem ZT{P:Program}{f:FuncId} (hd:dec P f=some SX):NR P f:=by
 intro d cs n hn hs hz
 have hlen:=PG n
 obtain⟨lf,ks,vs,is⟩:=n
 obtain⟨kv,vv,iv,rfl,hk,hv,hiv⟩:∃kv vv iv,cs=[.bool lf,kv,vv,iv]∧C8 d kv ks∧C8 d vv vs∧Dz d iv is:=hn
 refine AG hd (Aca rfl) ?_
 obtain⟨ka,kc,kb,ko,rfl,kA,kS,kN,kl,km,kB,kx⟩:=hk
 obtain⟨ia,ic,ib,io,rfl,iA,iS,iN,il,im,iB,ix⟩:=hiv
 obtain⟨va,vc,vb,vo,rfl,vA,vS,vN,vl,vm,vB,vx⟩:=hv
 show gwp P _ _ _ _ _
 (refine Ad<|Cc rfl (fun _ _=>Am rfl<|Aa<|Ad ?_))
 rename_i b0 T0
 refine Hp (n:=0) (c:=256) rfl rfl (by omega) (by omega) (by omega) (fun b T=>?_)
 have hrow:Ep 256 _ _ _:=Ep.nil (N:=256) (b:=b) (T:=T)
 (refine Am rfl<|Aa<|Ad<|Am rfl<|Ai rfl<|Ag rfl (Aj 1 rfl rfl)<|AL rfl<|Eo rfl ?_)
 refine B9 d [bx b0 T0 [.bool lf,.slice ka ks.length kc,.slice va vs.length vc,.slice ia is.length ic],bx b T (Bp [Value.int .u8 0] (256*1))] (Vs.perm (Adc _ _ _)) ?_
 refine Dn (cs:=[.int .u8 2,Az (u8n ks.length)]) (by omega) rfl (fun b2 T2=>?_)
 refine Hy 1 (news:=[2,u8n ks.length]) rfl rfl hrow rfl rfl rfl (by simp) (by omega) (fun v1 h1 hrow1=>?_)
 have hround:∀k,k<ks.length→(Cv ⟨lf,ks,vs,is⟩ (k+1)).length≤256:=by
  intro k hk
  have h1:=hlen (k+1)
  have h2:=Gf ⟨lf,ks,vs,is⟩ (show k+1≤ks.length from hk)
  simp only [A5] at hz
  simp only [A6,Acd] at hs
  cases lf
  ·simp only [Acj,if_false,Acd,decide_eq_true_eq] at hs h1 hz;omega
  ·simp only [if_true] at hs h1 hz;omega
 cases lf
 ·obtain⟨hkl,hil,hio⟩:vs.length=0∧is.length=ks.length+1∧is.all FV=true:=by
   simp only [A6,Acd,Acj,if_false,decide_eq_true_eq] at hs
   exact⟨hs.2.1.1,hs.2.1.2,hs.2.2⟩
  have hki:∀i (h:i<is.length),0≤is[i]∧is[i]≤8191:=fun i h=>by
   have:=Acq.1 hio _ (Ada h)
   simpa [FV] using this
  obtain⟨c0,hc0,hD0,⟨rfl,hr1,hr2⟩⟩:=ix 0 (by omega)
  replace hD0:=hD0.one
  have hg0:is.getD 0 0=is[0]'(by omega):=by simp [show 0<is.length by omega]
  (refine AK<|Aa<|Ah<|Ad<|Ai rfl<|Ag rfl (Aj 0 rfl rfl)<|Aa<|AR rfl ?_)
  refine NI [0] [1] rfl ?_
  (refine AK<|Ai rfl<|Ag rfl (Aj 0 rfl rfl)<|BA 0 rfl rfl rfl (by omega) (by assumption)<|Ag rfl (BF (by assumption))<|IQ rfl rfl (by decide)<|Eo rfl<|Ai rfl<|Ag rfl (Aj 0 rfl rfl)<|BA 0 rfl rfl rfl (by omega) (by assumption)<|Ag rfl (BF (by assumption))<|Eo rfl ?_)
  refine Dn (cs:=(FJ (is[0]'(by omega))).map Az) (by omega) rfl (fun b4 T4=>?_)
  refine Hy 0 (news:=FJ (is[0]'(by omega))) rfl rfl hrow1 rfl rfl rfl (by simp [FJ]) (by omega) (fun v2 h2 hrow2=>?_)
  have hrow2':Ep 256 v2 (Cv ⟨false,ks,vs,is⟩ 0) h2:=by
   have e:Cv ⟨false,ks,vs,is⟩ 0=[]++[2,u8n ks.length]++FJ (is[0]'(by omega)):=by simp [Cv,headD,show 0<is.length by omega]
   rw [e];exact hrow2
  (refine B4<|AK<|Aa<|Ah<|Ad<|Ai rfl<|Ag rfl (Aj 0 rfl rfl)<|AL rfl<|Ab rfl<|Aa<|Ax ?_)
  refine CI (α:=Nat×Value×Ac) (fun x=>[(1,.pointer (some ⟨b0,0,none⟩)),(3,x.2.1),(33,.slice ka ks.length kc),(34,.int .i64 ks.length),(35,.int .i64 x.1)])
   (fun x d' L'=>d'=d∧L'=[bx b0 T0 [.bool false,.slice ka ks.length kc,.slice va vs.length vc,.slice ia is.length ic],x.2.2]∧x.1≤ks.length∧Ep 256 x.2.1 (Cv ⟨false,ks,vs,is⟩ x.1) x.2.2) (fun x=>ks.length - x.1) (0,v2,h2)
   ⟨rfl,rfl,rfl,rfl,rfl,trivial⟩ ⟨rfl,rfl,Adf _,hrow2'⟩ ?_
  rintro⟨k,v3,h3⟩ ρ d' L' ⟨hdd,hLL,hle,hrow3⟩
  simp only at hLL hle hrow3
  subst hdd;subst hLL
  by_cases h:k<ks.length
  ·obtain⟨c0,hc0,hD1,⟨u0,rfl,hu0⟩⟩:=kx k h
   replace hD1:=hD1.one
   obtain⟨c1,hc1,hD2,⟨rfl,hs1,hs2⟩⟩:=ix (k+1) (by omega)
   replace hD2:=hD2.one
   have hgk:ks.getD k []=ks[k]:=by simp [h]
   have hgi:is.getD (k+1) 0=is[k+1]'(by omega):=by simp [show k+1<is.length by omega]
   have hb:=hround k h
   have hbe:Cv ⟨false,ks,vs,is⟩ (k+1)=Cv ⟨false,ks,vs,is⟩ k++[u8n ks[k].length]++ks[k]++FJ (is[k+1]'(by omega)):=by simp [Cv,tailD,Df,h,show k+1<is.length by omega]
   rw [hbe] at hb
   simp only [Acl,Afs] at hb
   (refine Ad<|AA rfl rfl<|Aa<|Ah<|Ay rfl (by omega)<|Al<|Ah<|Ax<|Ad<|Ab rfl ?_;apply BA;rfl;rfl;rfl;omega;assumption;refine Ag rfl (BF (by assumption))<|Ab rfl<|AK<|Aa<|Ad<|AK<|AK<|BE rfl (by assumption)<|Eo rfl ?_)
   refine Dn (cs:=[Az (u8n ks[k].length)]) (by omega) rfl (fun b4 T4=>?_)
   refine Hy 1 (news:=[u8n ks[k].length]) rfl rfl hrow3 rfl rfl rfl (by simp;omega) (by omega) (fun v4 h4 hrow4=>?_)
   (apply AK)
   refine Sa 1 (news:=ks[k]) rfl rfl hrow4 rfl (hu0.rdx _) (by simp;omega) (by omega) (fun v5 h5 hrow5=>?_)
   (refine AK<|Aa<|Ad<|Ai rfl<|Ag rfl (Aj 0 rfl rfl)<|Aa<|AR rfl ?_)
   refine NI [0] [1] rfl ?_
   (refine AK<|Ai rfl<|Ag rfl (Aj 0 rfl rfl)<|Ab rfl<|AN rfl rfl (by omega) (by omega) ?_)
   refine BA (k+1) rfl rfl (by omega) (by omega) iA ?_
   (refine Ag rfl (BF (by assumption))<|IQ rfl rfl (by decide)<|Eo rfl<|Ai rfl<|Ag rfl (Aj 0 rfl rfl)<|Ab rfl<|AN rfl rfl (by omega) (by omega) ?_)
   refine BA (k+1) rfl rfl (by omega) (by omega) iA ?_
   (refine Ag rfl (BF (by assumption))<|Eo rfl ?_)
   refine Dn (cs:=(FJ (is[k+1]'(by omega))).map Az) (by omega) rfl (fun b6 T6=>?_)
   refine Hy 0 (news:=FJ (is[k+1]'(by omega))) rfl rfl hrow5 rfl rfl rfl (by simp [FJ] at hb⊢;omega) (by omega) (fun v6 h6 hrow6=>?_)
   (refine B4<|AK<|Aa<|AE<|AN rfl rfl (by omega) (by omega)<|Ab rfl<|Aa ?_)
   refine⟨(k+1,v6,h6),by simp;omega,⟨rfl,rfl,rfl,rfl,int_eq (by omega),trivial⟩,rfl,rfl,h,?_⟩
   simp only
   rw [hbe];exact hrow6
  ·have e:k=ks.length:=by omega
   subst e
   obtain⟨b7,rfl,hfull⟩:=hrow3.full
   (refine Ad<|AA rfl rfl<|Aa<|Ah<|Ar rfl (by omega)<|Bh<|Ad<|Am rfl ?_)
   refine Y4 (l:=0) (h:=256) (m:=256) rfl rfl (by omega) ?_
   (refine Am rfl<|Aa<|Ao ?_)
   exact BG (L':=[h3]) rfl (Acz _ _) ⟨rfl,h3,rfl,hfull⟩
 ·have hvl:vs.length=ks.length:=by
   simp only [A6,Acd,if_true,decide_eq_true_eq] at hs
   exact hs.2.1.1
  obtain⟨_,b3,T3,rfl,rfl⟩:=hrow1
  (refine Am rfl<|Aa<|Ah<|Ad<|Ai rfl<|Ag rfl (Aj 0 rfl rfl)<|Aa<|Be rfl<|AE<|Am rfl ?_)
  refine BA (b:=b3) (o:=0) 0 rfl rfl rfl (by simp) (SAd.some _ b3 0) ?_
  refine BN (v:=.int .u8 1) 1 rfl rfl rfl rfl (by rw [Acl,Adn,Adx];exact Aca rfl) rfl ?_
  have hrow2':Ep 256 (.slice (some ⟨b3,0,none⟩) 2 256) (Cv ⟨true,ks,vs,is⟩ 0) (bx b3 T3 (patch (([]++[2,u8n ks.length]).map Az++Acr (256 - ([]++[2,u8n ks.length]).length) (Az 0)) (0+0*1) (Value.int .u8 1).cells.toList)):=by
   refine⟨by simp [Cv,headD],b3,T3,by simp [Cv,headD],?_⟩
   congr 1
  (refine Aa<|Ah<|Ad<|Ai rfl<|Ag rfl (Aj 0 rfl rfl)<|AL rfl<|Ab rfl<|Aa<|Ax ?_)
  refine CI (α:=Nat×Value×Ac) (fun x=>[(1,.pointer (some ⟨b0,0,none⟩)),(3,x.2.1),(33,.slice ka ks.length kc),(34,.int .i64 ks.length),(35,.int .i64 x.1)])
   (fun x d' L'=>d'=d∧L'=[bx b0 T0 [.bool true,.slice ka ks.length kc,.slice va vs.length vc,.slice ia is.length ic],x.2.2]∧x.1≤ks.length∧Ep 256 x.2.1 (Cv ⟨true,ks,vs,is⟩ x.1) x.2.2) (fun x=>ks.length - x.1) (0,_,_)
   ⟨rfl,rfl,rfl,rfl,rfl,trivial⟩ ⟨rfl,rfl,Adf _,hrow2'⟩ ?_
  rintro⟨k,v3,h3⟩ ρ d' L' ⟨hdd,hLL,hle,hrow3⟩
  simp only at hLL hle hrow3
  subst hdd;subst hLL
  by_cases h:k<ks.length
  ·obtain⟨c0,hc0,hD1,⟨u0,rfl,hu0⟩⟩:=kx k h
   replace hD1:=hD1.one
   obtain⟨c1,hc1,hD2,⟨u1,rfl,hu1⟩⟩:=vx k (by omega)
   replace hD2:=hD2.one
   have hb:=hround k h
   have hbe:Cv ⟨true,ks,vs,is⟩ (k+1)=Cv ⟨true,ks,vs,is⟩ k++[u8n ks[k].length]++ks[k]++[u8n (vs[k]'(by omega)).length]++vs[k]'(by omega):=by simp [Cv,tailD,Df,ES,h,show k<vs.length by omega]
   rw [hbe] at hb
   simp only [Acl,Afs] at hb
   (refine Ad<|AA rfl rfl<|Aa<|Ah<|Ay rfl (by omega)<|Al<|Ah<|Ax<|Ad<|Ab rfl ?_;apply BA;rfl;rfl;rfl;omega;assumption;refine Ag rfl (BF (by assumption))<|Ab rfl<|AK<|Aa<|Ad<|AK<|AK<|BE rfl (by assumption)<|Eo rfl ?_)
   refine Dn (cs:=[Az (u8n ks[k].length)]) (by omega) rfl (fun b4 T4=>?_)
   refine Hy 1 (news:=[u8n ks[k].length]) rfl rfl hrow3 rfl rfl rfl (by simp;omega) (by omega) (fun v4 h4 hrow4=>?_)
   (apply AK)
   refine Sa 1 (news:=ks[k]) rfl rfl hrow4 rfl (hu0.rdx _) (by simp;omega) (by omega) (fun v5 h5 hrow5=>?_)
   (refine AK<|Aa<|Ad<|Ai rfl<|Ag rfl (Aj 0 rfl rfl)<|Aa<|Be rfl ?_)
   refine NI [0] [1] rfl ?_
   (refine AK<|Ai rfl<|Ag rfl (Aj 0 rfl rfl)<|Ab rfl ?_;apply BA;rfl;rfl;rfl;omega;assumption;refine Ag rfl (BF (by assumption))<|BE rfl (by assumption)<|Eo rfl<|Ai rfl<|Ag rfl (Aj 0 rfl rfl)<|Ab rfl ?_;apply BA;rfl;rfl;rfl;omega;assumption;apply Ag;rfl;exact BF (by assumption))
   refine Dn (cs:=[Az (u8n (vs[k]'(by omega)).length)]) (by omega) rfl (fun b6 T6=>?_)
   refine Hy 0 (news:=[u8n (vs[k]'(by omega)).length]) rfl rfl hrow5 rfl rfl rfl (by simp;omega) (by omega) (fun v6 h6 hrow6=>?_)
   refine Sa 0 (news:=vs[k]'(by omega)) rfl rfl hrow6 rfl (hu1.rdx _) (by simp;omega) (by omega) (fun v7 h7 hrow7=>?_)
   (refine B4<|AK<|Aa<|AE<|AN rfl rfl (by omega) (by omega)<|Ab rfl<|Aa ?_)
   refine⟨(k+1,v7,h7),by simp;omega,⟨rfl,rfl,rfl,rfl,int_eq (by omega),trivial⟩,rfl,rfl,h,?_⟩
   simp only
   rw [hbe];exact hrow7
  ·have e:k=ks.length:=by omega
   subst e
   obtain⟨b7,rfl,hfull⟩:=hrow3.full
   (refine Ad<|AA rfl rfl<|Aa<|Ah<|Ar rfl (by omega)<|Bh<|Ad<|Am rfl ?_)
   refine Y4 (l:=0) (h:=256) (m:=256) rfl rfl (by omega) ?_
   (refine Am rfl<|Aa<|Ao ?_)
   exact BG (L':=[h3]) rfl (Acz _ _) ⟨rfl,h3,rfl,hfull⟩
def Mh(P:Program) (f:FuncId):Prop:=∀{d:Ac}{cs:List Value}{n:AF},Cx d cs n→A5 n≤1000000000000→
 Aw P f [.agg cs.toArray] d [] (Ret fun r d' L'=>d'=d∧((By n=true∧∃v h,r=.tuple #[v,.int .i64 0]∧L'=[h]∧Ep 256 v (B6 n) h)∨(By n=false∧r=.tuple #[.slice none 0 0,.int .i64 200]∧L'=[])))
def RC(a0 a1:Nat):AY:=⟨9,[(.tmp 2),(.tmp 3)],(sR (o1 1 (.box (tP 0))<|o1 2 (.mv nS)<|o1 3 (.mv (kZ 0)) .done) (.seq (sR (o1 4 (.ld (some 4) (tP 1))<|oc 5 a0 [(tP 4)]<|o1 6 (.un .not (tP 5)) .done) (.cond (tP 6) (sR (o1 2 (.mv nS)<|o1 3 (.mv (kZ 200)) .done) .ret) .skip)) (sR (o1 7 (.ld (some 4) (tP 1))<|oc 8 a1 [(tP 7)]<|om 2 8<|o1 3 (.mv (kZ 0)) .done) .ret)))⟩
theorem Ya{P:Program}{f f1 f2:FuncId} (hd:dec P f=some (RC f1 f2)) (h1:Jh P f1) (h2:NR P f2):Mh P f:=by
 intro d cs n hn hb
 refine AG hd (Aca rfl) ?_
 have hn':=hn
 obtain⟨kv,vv,iv,rfl,hk,hv,hiv⟩:∃kv vv iv,cs=[.bool n.leaf,kv,vv,iv]∧C8 d kv n.keys∧C8 d vv n.vals∧Dz d iv n.kids:=hn
 show gwp P _ _ _ _ _
 (refine Ad<|Cc rfl (fun _ _=>Am rfl<|Ab rfl<|Aa<|Ah<|Ad<|Bg 0 rfl rfl rfl ?_))
 refine BR rfl (h1 hn' hb) ?_
 cases hr:By n with
 |false=>
  (refine Bj rfl<|Aa<|Be rfl<|Ad<|Am rfl<|Ab rfl<|Aa<|Ao ?_)
  exact QF rfl rfl ⟨rfl,.inr ⟨rfl,rfl,rfl⟩⟩
 |true=>
  have hr':=hr
  simp only [By,Acd,decide_eq_true_eq] at hr'
  (refine Bj rfl<|Aa<|AR rfl<|Al<|Ad<|Bg 0 rfl rfl rfl ?_)
  refine Bk rfl (h2 hn' hr'.1 hr'.2) (fun r d' L' _ ⟨hdd,h,hL,hrow⟩=>?_)
  subst hdd;subst hL
  (refine AK<|Ab rfl<|Aa<|Ao ?_)
  exact CF (L':=[h]) rfl rfl (by simp) ⟨rfl,.inl ⟨rfl,_,h,rfl,rfl,hrow⟩⟩
section
theorem Cx.mono{d d':Ac}{cs:List Value}{n:AF} (h:Cx d cs n) (hl:Le d d'):Cx d' cs n:=
 let ⟨kv,vv,iv,e,h1,h2,h3⟩:=h
 ⟨kv,vv,iv,e,h1.mono hl,h2.mono hl,h3.mono hl⟩
attribute [local irreducible] B6
end
section
instance:DecidableEq AF:=fun a b=>by
 obtain⟨a1,a2,a3,a4⟩:=a
 obtain⟨b1,b2,b3,b4⟩:=b
 simp only [AF.mk.injEq]
 exact inferInstance
theorem ZI{n:AF} (hs:A6 n=true) (hz:A5 n≤256):∀k,k≤n.keys.length→(Cv n k).length≤256:=by
 intro k hk
 have h1:=PG n k
 have h2:=Gf n hk
 simp only [A5] at hz
 simp only [A6,Acd] at hs
 cases h:n.leaf
 ·simp only [h,Acj,if_false,Acd,decide_eq_true_eq] at hs h1 hz;omega
 ·simp only [h,if_true] at hs h1 hz;omega
attribute [local irreducible] Cv
end
theorem UT{P:Program}{f:FuncId} (h:Mh P f) {d:Ac}{cs:List Value}{n:AF} (hn:Cx d cs n) (hz:A5 n≤1000000000000):
  Aw P f [.agg cs.toArray] d [] (Ret fun r d' L'=>d'=d∧∃v g,r=.tuple #[v,.int .i64 (if By n then 0 else 200)]∧L'=[g]∧As 1 AP d v (if By n then B6 n else []) g):=by
 refine(h hn hz).Dr (fun v d' L' _ hr=>?_)
 rcases hr with ⟨hdd,⟨hR,v,g,hv,hL,hrow⟩|⟨hR,hv,hL⟩⟩
 ·subst hdd
  exact⟨d',L',Vs.refl _ _,rfl,v,g,by simp [hv,hR],hL,by simp only [hR,if_true];exact hrow.grow (by omega)⟩
 ·subst hdd;subst hL
  exact⟨d',[emp],Vs.emp,rfl,.slice none 0 0,emp,by simp [hv,hR],rfl,by simp only [hR];exact As.nil⟩
def Dg(d:Ac) (v:Value) (xs:List (List UInt8)) (L:List Ac):Prop:=∃us h0 hs,BM 1 v xs.length us h0∧hs.length=xs.length∧
 (∀i (hi:i<xs.length),∃u g,us[i]?=some u∧hs[i]?=some g∧As 1 AP d u xs[i] g)∧L=h0::hs
theorem Dg.Ro{d d1:Ac}{v:Value}{xs:List (List UInt8)}{L:List Ac} (o:Dg d v xs L) (hl:Le d d1) (hL:∀h∈L,Le h d1):C8 d1 v xs:=by
 obtain⟨us,h0,hs,h1,h2,h3,rfl⟩:=o
 refine h1.Yv (hL _ (Acu ..)) rfl (fun i hi=>?_)
 obtain⟨u,g,k1,k2,k3⟩:=h3 i hi
 exact⟨u,k1,u,rfl,k3.rsl AX (by omega) hl (hL _ (Acy _ (Aew k2)))⟩
theorem Dg.val{d:Ac}{v:Value}{xs:List (List UInt8)}{L:List Ac} (o:Dg d v xs L):∃a c,v=.slice a xs.length c:=by
 obtain⟨us,h0,hs,h1,_⟩:=o
 obtain⟨a,b,c,e,_⟩:=h1.slice
 exact⟨a,c,e⟩
def QJ(P:Program) (f:FuncId):Prop:=∀{d:Ac}{v:Value}{xs:List (List UInt8)},C8 d v xs→xs.length≤1000000000→
 Aw P f [v] d [] (Ret fun r d' L'=>d'=d∧Dg d r xs L')
def Uk(a0:Nat):AY:=⟨19,[(.tmp 2)],(sR (o1 2 (.mv nS) .done) (sR (o1 3 (.mv nS) .done) (.seq (sR (om 6 0<|oL 7 6<|o1 8 (.mv (kZ 0)) .done) (.block 0 (.loop (sR (ob 9 .lss (tP 8) (tP 7) .done) (.seq (.cond (tP 9) .skip (.exit 0)) (.seq (.block 1 (sR (oI 10 1 6 8<|ol 11 10<|om 5 11 .done) (rG (om 12 3<|om 13 5<|oc 14 a0 [(tP 13)]<|o1 15 (.bsl 1 1 [(.slice none 0 0)] [(0,(tP 14))])<|o1 16 (.app 1 24 [(.slice none 0 0)] (tP 12) (tP 15))<|om 3 16 .done)))) (rG (ob 17 .add (tP 8) (kZ 1)<|om 8 17 .done)))))))) (sR (om 18 3<|om 2 18 .done) .ret))))⟩
theorem AaH{P:Program}{f f1:FuncId} (hd:dec P f=some (Uk f1)) (h1:DZ AP 1 P f1):QJ P f:=by
 intro d v xs hv hb
 refine AG hd (Aca rfl) ?_
 show gwp P _ _ _ _ _
 apply Ah;apply AE
 refine B9 d [emp] Vs.emp ?_
 (refine Am rfl<|Aa<|Ad<|Am rfl<|Aa<|Ah<|Ad<|AK<|BE rfl (by assumption)<|Ab rfl<|Aa<|Ax ?_)
 refine Z8 (α:=Nat) (fun k w=>[(3,w),(6,v),(7,.int .i64 xs.length),(8,.int .i64 k)])
  (fun k w h0 d' L'=>d'=d∧k≤xs.length∧∃us hs,BM 1 w k us h0∧hs.length=k∧(∀i (hi:i<xs.length),i<k→∃u g,us[i]?=some u∧hs[i]?=some g∧As 1 AP d u xs[i] g)∧L'=h0::hs) (fun k=>xs.length - k) 0 (.slice none 0 0) emp
  ⟨rfl,rfl,rfl,rfl,trivial⟩ ⟨rfl,Adf _,[],[],BM.nil 1,rfl,fun i _ hi=>absurd hi (Afm i),rfl⟩ ?_
 rintro k w h0 ρ d' L' ⟨hdd,hk,us,hs,ho,hhl,hel,hL⟩
 subst hdd;subst hL
 (refine Ad<|AA rfl rfl<|Aa<|Ah ?_)
 first|refine Hq rfl (fun hc=>?_) (fun hc=>?_)|refine JR rfl (fun hc=>?_) (fun hc=>?_)
 ·have hk1:k<xs.length:=by omega
  have hxl:xs[k].length*1≤140737488355328:=by
   obtain⟨a,c,b,o,e,_,_,_,_,_,_,h8⟩:=hv
   obtain⟨cs,_,_,u,_,hu⟩:=h8 k hk1
   have:=AM.BW hu;omega
  (refine Al<|Ah<|Ax<|Ad<|BH (sz:=1) (R:=RBs) (by rfl) (by assumption) (by rfl) rfl (by omega) ?_;rintro _ _ _ _ _ ⟨_,rfl,_⟩;refine Ag rfl (B5 (by assumption) rfl)<|AK<|Aa<|AE<|AK<|AK ?_)
  refine Bk rfl (h1 (xs:=xs[k]) (by assumption) hxl) (fun r d2 L2 _ ⟨hdd,g,hL,hg⟩=>?_)
  subst hdd;subst hL
  obtain⟨a,c,rfl⟩:=hg.val
  refine Dn (cs:=[.slice a xs[k].length c]) (by omega) rfl (fun b8 T8=>?_)
  refine TZ 1 rfl rfl ho rfl rfl rfl (by omega) (by omega) (by omega) (fun v5 h5 ho5=>?_)
  refine B9 _ (h5::(hs++[g])) (Vs.perm ((Adc _ _ _).trans ((List.perm_append_singleton g hs).symm.cons _))) ?_
  (refine AK<|Aa<|AE<|AN rfl rfl (by omega) (by omega)<|Ab rfl<|Aa ?_)
  refine⟨k+1,v5,h5,by omega,⟨rfl,rfl,rfl,int_eq (by omega),trivial⟩,rfl,hk1,_,_,ho5,by simp [hhl],fun i hi hik=>?_,rfl⟩
  have hul:us.length=k:=by have:=ho.1;omega
  by_cases e:i<k
  ·obtain⟨u,g',e1,e2,e3⟩:=hel i hi e
   exact⟨u,g',by rw [Aed (by omega)];exact e1,by rw [Aed (by omega)];exact e2,e3⟩
  ·obtain rfl:i=k:=by omega
   exact⟨_,g,by rw [Aeb (by omega),hul,Afy];rfl,by rw [Aeb (by omega),hhl,Afy];rfl,hg⟩
 ·obtain rfl:k=xs.length:=by omega
  (refine Bh<|Ad<|AK<|AK<|Aa<|Ao ?_)
  exact BG rfl (Acb _) ⟨rfl,us,h0,hs,ho,hhl,fun i hi=>hel i hi hi,rfl⟩
def wD(n:AF) (i:Nat):Nat:=DY n i+(if n.leaf then 0 else 2)
def Cp(n:AF):Nat→Nat
 |0=>0
 |k+1=>Cp n k+wD n k
theorem ZM(n:AF):∀k,Cp n k≤Bm n k+2*k:=by
 intro k
 induction k with
 |zero=>simp [Cp]
 |succ k ih=>simp only [Cp,Bm,wD];split<;>omega
theorem KB(n:AF):∀{k m:Nat},k≤m→Cp n k≤Cp n m:=by
 intro k m h
 induction h with
 |refl=>exact Ach _
 |step _ ih=>simp only [Cp];omega
def Gy(n:AF):Nat→Nat→Nat
 |0,a=>a
 |f+1,a=>if a<n.keys.length - 1∧2*Cp n a<Cp n n.keys.length then Gy n f (a+1) else a
def atD(n:AF):Nat:=Gy n n.keys.length 0
theorem WC(n:AF) {a:Nat} (h:a<n.keys.length - 1) (h2:2*Cp n a<Cp n n.keys.length) (he:Gy n (n.keys.length - a) a=atD n):Gy n (n.keys.length - (a+1)) (a+1)=atD n:=by
 rw [←he,show n.keys.length - a=n.keys.length - (a+1)+1 by omega]
 rw [Gy,if_pos ⟨h,h2⟩]
theorem PL(n:AF) {a:Nat} (h:¬(a<n.keys.length - 1∧2*Cp n a<Cp n n.keys.length)) (he:Gy n (n.keys.length - a) a=atD n):atD n=a:=by
 rw [←he]
 cases e:n.keys.length - a with
 |zero=>rfl
 |succ f=>rw [Gy,if_neg h]
def C9(n:AF):Bool:=A6 n && decide ((if n.leaf then 2 else 3)≤n.keys.length)
def at2(n:AF):Nat:=max 2 (atD n)
def AW(n:AF):AF:=if C9 n then(if n.leaf then⟨true,n.keys.take (atD n),n.vals.take (atD n),[]⟩ else⟨false,n.keys.take (at2 n - 1),[],n.kids.take (at2 n)⟩) else⟨false,[],[],[]⟩
def Ba(n:AF):AF:=if C9 n then(if n.leaf then⟨true,n.keys.drop (atD n),n.vals.drop (atD n),[]⟩ else⟨false,n.keys.drop (at2 n),[],n.kids.drop (at2 n)⟩) else⟨false,[],[],[]⟩
def BB(n:AF):List UInt8:=if C9 n then n.keys.getD (if n.leaf then atD n else at2 n - 1) [] else []
def Small(n:AF):Prop:=A5 n≤1000000000000∧n.keys.length≤1000000000∧n.vals.length≤1000000000∧n.kids.length≤1000000000
def DK(d:Ac) (cs:List Value) (n:AF) (L:List Ac):Prop:=
 ∃kv vv iv Lk Lv hi,cs=[.bool n.leaf,kv,vv,iv]∧Dg d kv n.keys Lk∧Dg d vv n.vals Lv∧As 1 Bi d iv n.kids hi∧L=Lk++Lv++[hi]
theorem Dg.nil{d:Ac}:Dg d (.slice none 0 0) [] [emp]:=⟨[],emp,[],BM.nil 1,rfl,fun i hi=>absurd hi (Afm i),rfl⟩
theorem DK.zero{d:Ac}:DK d [.bool false,.slice none 0 0,.slice none 0 0,.slice none 0 0] ⟨false,[],[],[]⟩ [emp,emp,emp]:=⟨_,_,_,[emp],[emp],emp,rfl,Dg.nil,Dg.nil,As.nil,rfl⟩
theorem DK.Ii{d d1:Ac}{cs:List Value}{n:AF}{L:List Ac} (o:DK d cs n L) (hl:Le d d1) (hL:∀h∈L,Le h d1):Cx d1 cs n:=by
 obtain⟨kv,vv,iv,Lk,Lv,hi,rfl,h1,h2,h3,rfl⟩:=o
 exact⟨kv,vv,iv,rfl,h1.Ro hl (fun h hm=>hL h (by simp [hm])),h2.Ro hl (fun h hm=>hL h (by simp [hm])),h3.rsl Cb (by omega) hl (hL _ (by simp))⟩
def M3(P:Program) (f:FuncId):Prop:=∀{d:Ac}{cs:List Value}{n:AF}{b:Nat}{T:TypeId},Cx d cs n→A5 n≤1000000000000→∀i,i<n.keys.length→
 Aw P f [.int .i64 i,.pointer (some ⟨b,0,none⟩)] d [bx b T cs] (Ret fun r d' L'=>r=.int .i64 (wD n i)∧d'=d∧L'=[bx b T cs])
def Ph(a0:Nat):AY:=⟨13,[(.tmp 3)],(sR (o1 3 (.mv (kZ 0)) .done) (.seq (sR (oj 4 0 1<|ol 5 4 .done) (.cond (tP 5) (sR (o1 6 (.ld (some 4) (tP 1))<|om 7 0<|oc 8 a0 [(tP 6),(tP 7)]<|om 3 8 .done) .ret) .skip)) (sR (o1 9 (.ld (some 4) (tP 1))<|om 10 0<|oc 11 a0 [(tP 9),(tP 10)]<|ob 12 .add (tP 11) (kZ 2)<|om 3 12 .done) .ret)))⟩
theorem Wn{P:Program}{f f1:FuncId} (hd:dec P f=some (Ph f1)) (h1:Od P f1):M3 P f:=by
 intro d cs n b T hn hz i hi
 have hcl:DY n i≤1000000000000:=by
  have e1:Bm n (i+1)≤Bm n n.keys.length:=Gf n hi
  simp only [Bm] at e1
  unfold A5 at hz
  omega
 have hn':=hn
 obtain⟨kv,vv,iv,rfl,hk,hv,hiv⟩:=hn
 refine AG hd (Aca rfl) ?_
 show gwp P _ _ _ _ _
 cases hlf:n.leaf
 ·rw [hlf] at hn'
  (refine Ad<|Ab rfl<|Aa<|Ah<|Ad<|Ai rfl<|Ag rfl (Aj 0 rfl rfl)<|Aa<|AR rfl<|Al<|Ad<|Bg 0 rfl rfl rfl<|Ab rfl ?_)
  refine BR rfl (h1 hn' i hi) ?_
  (refine AN rfl rfl (by omega) (by omega)<|Ab rfl<|Aa<|Ao ?_)
  exact BG rfl (Acb _) ⟨int_eq (by simp [wD,hlf]),rfl,rfl⟩
 ·rw [hlf] at hn'
  (refine Ad<|Ab rfl<|Aa<|Ah<|Ad<|Ai rfl<|Ag rfl (Aj 0 rfl rfl)<|Aa<|Be rfl<|Ad<|Bg 0 rfl rfl rfl<|Ab rfl ?_)
  refine BR rfl (h1 hn' i hi) ?_
  (refine Ab rfl<|Aa<|Ao ?_)
  exact BG rfl (Acb _) ⟨int_eq (by simp [wD,hlf]),rfl,rfl⟩
def OO(P:Program) (f:FuncId):Prop:=∀{d:Ac}{cs:List Value}{n:AF},Cx d cs n→Small n→
 Aw P f [.agg cs.toArray] d [] (Ret fun r d' L'=>d'=d∧∃ca cb kv La Lb g,r=.tuple #[.agg ca.toArray,.agg cb.toArray,kv,.int .i64 (if C9 n then 0 else 200)]∧L'=La++Lb++[g]∧DK d ca (AW n) La∧DK d cb (Ba n) Lb∧As 1 AP d kv (BB n) g)
def Sf(a0 a1 a2 a3 a4:Nat):AY:=⟨127,[(.cell 2 (some 4)),(.cell 3 (some 4)),(.tmp 4),(.tmp 5)],(sR (o1 1 (.box (tP 0))<|o1 2 (.alo (.agg #[(.bool false),(.slice none 0 0),(.slice none 0 0),(.slice none 0 0)]))<|o1 3 (.alo (.agg #[(.bool false),(.slice none 0 0),(.slice none 0 0),(.slice none 0 0)]))<|o1 4 (.mv nS)<|o1 5 (.mv (kZ 0)) .done) (sR (oj 13 1 1<|ol 14 13<|oL 15 14<|om 6 15 .done) (sR (o1 7 (.mv (kZ 3)) .done) (.seq (sR (oj 16 0 1<|ol 17 16 .done) (.cond (tP 17) (rG (o1 7 (.mv (kZ 2)) .done)) .skip)) (.seq (sR (o1 18 (.ld (some 4) (tP 1))<|oc 19 a0 [(tP 18)]<|o1 20 (.un .not (tP 19))<|om 21 20<|gF 22 21 6<|gF 23 21 7<|oF 24 21 (.bin .lss (tP 22) (tP 23))<|o1 25 (.pick (tP 21) (.const (.bool true)) (tP 24)) .done) (.cond (tP 25) (sR (o1 26 (.bld [(0,1),(1,1),(2,1),(3,1)] [(.bool false),(.slice none 0 0),(.slice none 0 0),(.slice none 0 0)] [])<|o1 27 (.bld [(0,1),(1,1),(2,1),(3,1)] [(.bool false),(.slice none 0 0),(.slice none 0 0),(.slice none 0 0)] [])<|o0 (.st 4 (tP 2) (tP 26))<|o0 (.st 4 (tP 3) (tP 27))<|o1 4 (.mv nS)<|o1 5 (.mv (kZ 200)) .done) .ret) .skip)) (sR (o1 28 (.mkf (.func a1) [] [(tP 1)])<|om 8 28 .done) (sR (o1 9 (.mv (kZ 0)) .done) (.seq (sR (om 29 6<|o1 30 (.mv (kZ 0)) .done) (.block 0 (.loop (sR (ob 31 .lss (tP 30) (tP 29) .done) (.seq (.cond (tP 31) .skip (.exit 0)) (.seq (.block 1 (sR (om 32 30<|om 10 32 .done) (rG (om 33 9<|om 34 8<|om 35 10<|o1 36 (.callv (tP 34) [(tP 35)])<|ob 37 .add (tP 33) (tP 36)<|om 9 37 .done)))) (rG (ob 38 .add (tP 30) (kZ 1)<|om 30 38 .done)))))))) (sR (o1 11 (.mv (kZ 0))<|o1 12 (.mv (kZ 0)) .done) (.seq (.block 2 (.loop (.seq (sR (om 39 11<|om 40 6<|ob 41 .sub (tP 40) (kZ 1)<|ob 42 .lss (tP 39) (tP 41)<|om 43 42<|gT 44 43 12<|oT 45 43 (.bin .mul (kZ 2) (tP 44))<|gT 46 43 9<|oT 47 43 (.bin .lss (tP 45) (tP 46))<|gP 48 43 47 .done) (.cond (tP 48) .skip (.exit 2))) (.block 3 (sR (om 49 12<|om 50 8<|om 51 11<|o1 52 (.callv (tP 50) [(tP 51)])<|ob 53 .add (tP 49) (tP 52)<|om 12 53 .done) (rG (om 54 11<|ob 55 .add (tP 54) (kZ 1)<|om 11 55 .done))))))) (.seq (sR (oj 56 0 1<|ol 57 56 .done) (.cond (tP 57) (.seq (.reg true (p1 58 (.fld 1 (tP 1))<|pl 59 58<|pm 60 11<|pm 61 11<|p1 62 (.sl 1 (tP 59) none (some (tP 60)) (some (tP 61)))<|p1 64 (.fld 2 (tP 1))<|pl 65 64<|pm 66 11<|pm 67 11<|p1 68 (.sl 1 (tP 65) none (some (tP 66)) (some (tP 67)))<|oc 63 a2 [(tP 62)]<|oc 69 a2 [(tP 68)]<|p1 70 (.bld [(0,1),(1,1),(2,1),(3,1)] [(.bool false),(.slice none 0 0),(.slice none 0 0),(.slice none 0 0)] [(0,(.const (.bool true))),(1,(tP 63)),(2,(tP 69))]) (.bar (o0 (.st 4 (tP 2) (tP 70)) .done)))) (.seq (.reg true (p1 71 (.fld 1 (tP 1))<|pl 72 71<|pm 73 11<|p1 74 (.sl 1 (tP 72) (some (tP 73)) none none)<|p1 76 (.fld 2 (tP 1))<|pl 77 76<|pm 78 11<|p1 79 (.sl 1 (tP 77) (some (tP 78)) none none)<|oc 75 a2 [(tP 74)]<|oc 80 a2 [(tP 79)]<|p1 81 (.bld [(0,1),(1,1),(2,1),(3,1)] [(.bool false),(.slice none 0 0),(.slice none 0 0),(.slice none 0 0)] [(0,(.const (.bool true))),(1,(tP 75)),(2,(tP 80))]) (.bar (o0 (.st 4 (tP 3) (tP 81)) .done)))) (.seq (.reg true (p1 84 (.fld 1 (tP 1))<|pl 85 84<|pm 86 11<|p1 87 (.idx 1 (tP 85) (tP 86))<|pl 88 87 (.alt ⟨(some 82),none,(.ld (some 4) (tP 2))⟩ (.alt ⟨(some 83),none,(.ld (some 4) (tP 3))⟩ (oc 89 a3 [(tP 88)] (o0 (.st 4 (tP 2) (tP 82)) (o0 (.st 4 (tP 3) (tP 83)) (pm 4 89 (p1 5 (.mv (kZ 0)) .done))))) (oc 89 a3 [(tP 88)] (.alt ⟨(some 83),none,(.ld (some 4) (tP 3))⟩ (o0 (.st 4 (tP 2) (tP 82)) (o0 (.st 4 (tP 3) (tP 83)) (pm 4 89 (p1 5 (.mv (kZ 0)) .done)))) (o0 (.st 4 (tP 2) (tP 82)) (o1 83 (.ld (some 4) (tP 3)) (o0 (.st 4 (tP 3) (tP 83)) (pm 4 89 (p1 5 (.mv (kZ 0)) .done)))))))) (.alt ⟨(some 83),none,(.ld (some 4) (tP 3))⟩ (.alt ⟨(some 82),none,(.ld (some 4) (tP 2))⟩ (oc 89 a3 [(tP 88)] (o0 (.st 4 (tP 2) (tP 82)) (o0 (.st 4 (tP 3) (tP 83)) (pm 4 89 (p1 5 (.mv (kZ 0)) .done))))) (oc 89 a3 [(tP 88)] (o1 82 (.ld (some 4) (tP 2)) (o0 (.st 4 (tP 2) (tP 82)) (o0 (.st 4 (tP 3) (tP 83)) (pm 4 89 (p1 5 (.mv (kZ 0)) .done))))))) (oc 89 a3 [(tP 88)] (.alt ⟨(some 82),none,(.ld (some 4) (tP 2))⟩ (.alt ⟨(some 83),none,(.ld (some 4) (tP 3))⟩ (o0 (.st 4 (tP 2) (tP 82)) (o0 (.st 4 (tP 3) (tP 83)) (pm 4 89 (p1 5 (.mv (kZ 0)) .done)))) (o0 (.st 4 (tP 2) (tP 82)) (o1 83 (.ld (some 4) (tP 3)) (o0 (.st 4 (tP 3) (tP 83)) (pm 4 89 (p1 5 (.mv (kZ 0)) .done)))))) (o1 83 (.ld (some 4) (tP 3)) (o1 82 (.ld (some 4) (tP 2)) (o0 (.st 4 (tP 2) (tP 82)) (o0 (.st 4 (tP 3) (tP 83)) (pm 4 89 (p1 5 (.mv (kZ 0)) .done)))))))))))) .ret))) .skip)) (sR (om 90 11<|o1 91 (.mx2 (kZ 2) (tP 90))<|om 11 91 .done) (.seq (.reg true (p1 92 (.fld 1 (tP 1))<|pl 93 92<|pm 94 11<|p1 95 (.bin .sub (tP 94) (kZ 1))<|pm 96 11<|p1 97 (.bin .sub (tP 96) (kZ 1))<|p1 98 (.sl 1 (tP 93) none (some (tP 95)) (some (tP 97)))<|p1 100 (.fld 3 (tP 1))<|pl 101 100<|pm 102 11<|pm 103 11<|p1 104 (.sl 1 (tP 101) none (some (tP 102)) (some (tP 103)))<|oc 99 a2 [(tP 98)]<|oc 105 a4 [(tP 104)]<|p1 106 (.bld [(0,1),(1,1),(2,1),(3,1)] [(.bool false),(.slice none 0 0),(.slice none 0 0),(.slice none 0 0)] [(1,(tP 99)),(3,(tP 105))]) (.bar (o0 (.st 4 (tP 2) (tP 106)) .done)))) (.seq (.reg true (p1 107 (.fld 1 (tP 1))<|pl 108 107<|pm 109 11<|p1 110 (.sl 1 (tP 108) (some (tP 109)) none none)<|p1 112 (.fld 3 (tP 1))<|pl 113 112<|pm 114 11<|p1 115 (.sl 1 (tP 113) (some (tP 114)) none none)<|oc 111 a2 [(tP 110)]<|oc 116 a4 [(tP 115)]<|p1 117 (.bld [(0,1),(1,1),(2,1),(3,1)] [(.bool false),(.slice none 0 0),(.slice none 0 0),(.slice none 0 0)] [(1,(tP 111)),(3,(tP 116))]) (.bar (o0 (.st 4 (tP 3) (tP 117)) .done)))) (.seq (.reg true (p1 120 (.fld 1 (tP 1))<|pl 121 120<|pm 122 11<|p1 123 (.bin .sub (tP 122) (kZ 1))<|p1 124 (.idx 1 (tP 121) (tP 123))<|pl 125 124 (.alt ⟨(some 118),none,(.ld (some 4) (tP 2))⟩ (.alt ⟨(some 119),none,(.ld (some 4) (tP 3))⟩ (oc 126 a3 [(tP 125)] (o0 (.st 4 (tP 2) (tP 118)) (o0 (.st 4 (tP 3) (tP 119)) (pm 4 126 (p1 5 (.mv (kZ 0)) .done))))) (oc 126 a3 [(tP 125)] (.alt ⟨(some 119),none,(.ld (some 4) (tP 3))⟩ (o0 (.st 4 (tP 2) (tP 118)) (o0 (.st 4 (tP 3) (tP 119)) (pm 4 126 (p1 5 (.mv (kZ 0)) .done)))) (o0 (.st 4 (tP 2) (tP 118)) (o1 119 (.ld (some 4) (tP 3)) (o0 (.st 4 (tP 3) (tP 119)) (pm 4 126 (p1 5 (.mv (kZ 0)) .done)))))))) (.alt ⟨(some 119),none,(.ld (some 4) (tP 3))⟩ (.alt ⟨(some 118),none,(.ld (some 4) (tP 2))⟩ (oc 126 a3 [(tP 125)] (o0 (.st 4 (tP 2) (tP 118)) (o0 (.st 4 (tP 3) (tP 119)) (pm 4 126 (p1 5 (.mv (kZ 0)) .done))))) (oc 126 a3 [(tP 125)] (o1 118 (.ld (some 4) (tP 2)) (o0 (.st 4 (tP 2) (tP 118)) (o0 (.st 4 (tP 3) (tP 119)) (pm 4 126 (p1 5 (.mv (kZ 0)) .done))))))) (oc 126 a3 [(tP 125)] (.alt ⟨(some 118),none,(.ld (some 4) (tP 2))⟩ (.alt ⟨(some 119),none,(.ld (some 4) (tP 3))⟩ (o0 (.st 4 (tP 2) (tP 118)) (o0 (.st 4 (tP 3) (tP 119)) (pm 4 126 (p1 5 (.mv (kZ 0)) .done)))) (o0 (.st 4 (tP 2) (tP 118)) (o1 119 (.ld (some 4) (tP 3)) (o0 (.st 4 (tP 3) (tP 119)) (pm 4 126 (p1 5 (.mv (kZ 0)) .done)))))) (o1 119 (.ld (some 4) (tP 3)) (o1 118 (.ld (some 4) (tP 2)) (o0 (.st 4 (tP 2) (tP 118)) (o0 (.st 4 (tP 3) (tP 119)) (pm 4 126 (p1 5 (.mv (kZ 0)) .done)))))))))))) .ret)))))))))))))))⟩
set_option maxHeartbeats 4000000 in
theorem XK{P:Program}{f f1 f2 f3 f4 f5:FuncId} (hd:dec P f=some (Sf f1 f2 f3 f4 f5)) (h1:LQ P f1) (h2:M3 P f2) (h3:QJ P f3) (h4:DZ AP 1 P f4) (h5:DZ Bi 8 P f5):OO P f:=by
 intro d cs n hn hsm
 have hn':=hn
 obtain⟨lf,ks,vs,is⟩:=n
 obtain⟨kv,vv,iv,rfl,hk,hv,hiv⟩:∃kv vv iv,cs=[.bool lf,kv,vv,iv]∧C8 d kv ks∧C8 d vv vs∧Dz d iv is:=hn
 obtain⟨hz,hb1,hb2,hb3⟩:=hsm
 simp only at hb1 hb2 hb3
 refine AG hd (Aca rfl) ?_
 show gwp P _ _ _ _ _
 apply Ah;apply AE
 (refine Cc rfl (fun _ _=>DI (fun _ _=>DI (fun _ _=>Am rfl<|Ab rfl<|Aa ?_))))
 rename_i b T b2 T2 b3 T3
 apply Ah;apply AE
 refine Aa1 [2,0,1] rfl ?_
 (refine Ai rfl<|Ag rfl (Aj 0 rfl rfl)<|BE rfl (by assumption)<|Ab rfl<|Aa ?_)
 apply Ah;apply AE
 (refine Ab rfl<|Aa ?_)
 have bad:C9 ⟨lf,ks,vs,is⟩=false→∀(ρ:Env) (Q:BZ),Q.ret=CA [.cell 2 (some 4),.cell 3 (some 4),.tmp 4,.tmp 5] (Ret fun r d' L'=>d'=d∧∃ca cb kv La Lb g,r=.tuple #[.agg ca.toArray,.agg cb.toArray,kv,.int .i64 (if C9 ⟨lf,ks,vs,is⟩ then 0 else 200)]∧L'=La++Lb++[g]∧DK d ca (AW ⟨lf,ks,vs,is⟩) La∧DK d cb (Ba ⟨lf,ks,vs,is⟩) Lb∧As 1 AP d kv (BB ⟨lf,ks,vs,is⟩) g)→
   ρ 2=.pointer (some ⟨b2,0,none⟩)→ρ 3=.pointer (some ⟨b3,0,none⟩)→ρ 4=.slice none 0 0→ρ 5=.int .i64 200→Q.ret ρ d [bx b T [.bool lf,kv,vv,iv],bx b3 T3 [.bool false,.slice none 0 0,.slice none 0 0,.slice none 0 0],bx b2 T2 [.bool false,.slice none 0 0,.slice none 0 0,.slice none 0 0]]:=by
  intro hc ρ Q hQ e2 e3 e4 e5
  rw [hQ]
  refine A7 [.agg [.bool false,.slice none 0 0,.slice none 0 0,.slice none 0 0].toArray,.agg [.bool false,.slice none 0 0,.slice none 0 0,.slice none 0 0].toArray,.slice none 0 0,.int .i64 200] (d':=d) (L':=[emp,emp,emp]++[emp,emp,emp]++[emp]) ⟨AT 2 e2 rfl rfl,AT 1 e3 rfl rfl,Au e4,Au e5,trivial⟩
   ((Vs.drop (Aef _)).trans (Vs.emp.trans (Vs.emp.trans (Vs.emp.trans (Vs.emp.trans (Vs.emp.trans (Vs.emp.trans Vs.emp))))))) ⟨rfl,_,_,_,_,_,emp,by rw [hc];rfl,rfl,?_⟩
  simp only [AW,Ba,BB,hc]
  exact⟨DK.zero,DK.zero,As.nil⟩
 refine FX (fun ρ d' L'=>d=d'∧ρ 1=.pointer (some ⟨b,0,none⟩)∧ρ 2=.pointer (some ⟨b2,0,none⟩)∧ρ 3=.pointer (some ⟨b3,0,none⟩)∧ρ 6=.int .i64 ks.length∧ρ 7=.int .i64 (if lf then 2 else 3:Nat)∧L'=[bx b T [.bool lf,kv,vv,iv],bx b3 T3 [.bool false,.slice none 0 0,.slice none 0 0,.slice none 0 0],bx b2 T2 [.bool false,.slice none 0 0,.slice none 0 0,.slice none 0 0]]) ?_ ?_
 ·cases lf
  ·(refine Ad<|Ai rfl<|Ag rfl (Aj 0 rfl rfl)<|Aa<|AR rfl<|Al ?_)
   exact⟨rfl,rfl,rfl,rfl,rfl,rfl,rfl⟩
  ·(refine Ad<|Ai rfl<|Ag rfl (Aj 0 rfl rfl)<|Aa<|Be rfl<|AE<|Ab rfl<|Aa ?_)
   exact⟨rfl,rfl,rfl,rfl,rfl,rfl,rfl⟩
 rintro ρ d' L' ⟨hdd,e1,e2,e3,e6,e7,hL⟩
 subst hdd;subst hL
 obtain⟨lo,hlo⟩:∃lo:Nat,lo=if lf then 2 else 3:=⟨_,rfl⟩
 rw [←hlo] at e7
 refine Dl [(1,.pointer (some ⟨b,0,none⟩)),(2,.pointer (some ⟨b2,0,none⟩)),(3,.pointer (some ⟨b3,0,none⟩)),(6,.int .i64 ks.length),(7,.int .i64 lo)] ⟨e1,e2,e3,e6,e7,trivial⟩ ?_
 refine FX (fun ρ d' L'=>d=d'∧ρ 1=.pointer (some ⟨b,0,none⟩)∧ρ 2=.pointer (some ⟨b2,0,none⟩)∧ρ 3=.pointer (some ⟨b3,0,none⟩)∧ρ 6=.int .i64 ks.length∧C9 ⟨lf,ks,vs,is⟩=true∧L'=[bx b T [.bool lf,kv,vv,iv],bx b3 T3 [.bool false,.slice none 0 0,.slice none 0 0,.slice none 0 0],bx b2 T2 [.bool false,.slice none 0 0,.slice none 0 0,.slice none 0 0]]) ?_ ?_
 ·(refine Ad<|Bg 0 rfl rfl rfl ?_)
  refine BR rfl (h1 hn') ?_
  cases hs:A6 ⟨lf,ks,vs,is⟩
  ·(refine Bj rfl<|Ae rfl<|An rfl<|An rfl<|An rfl<|AB rfl rfl<|Aa<|Be rfl<|Ad<|BI rfl<|BI rfl ?_)
   refine BN 2 rfl rfl rfl rfl (by simp) rfl ?_
   refine BN 1 rfl rfl rfl rfl (by simp) rfl ?_
   (refine Am rfl<|Ab rfl<|Aa<|Ao ?_)
   exact bad (by simp [C9,hs]) _ _ rfl rfl rfl rfl rfl
  by_cases hl:ks.length<lo
  ·(refine Bj rfl<|Ae rfl<|Af rfl<|Ab rfl<|Af rfl<|Ab rfl<|Af rfl<|AA rfl rfl<|Aq rfl rfl<|Aa<|Ay rfl (by omega)<|Ad<|BI rfl<|BI rfl ?_)
   refine BN 2 rfl rfl rfl rfl (by simp) rfl ?_
   refine BN 1 rfl rfl rfl rfl (by simp) rfl ?_
   (refine Am rfl<|Ab rfl<|Aa<|Ao ?_)
   exact bad (by simp only [C9,hs];rw [←hlo];simp;omega) _ _ rfl rfl rfl rfl rfl
  ·(refine Bj rfl<|Ae rfl<|Af rfl<|Ab rfl<|Af rfl<|Ab rfl<|Af rfl<|AA rfl rfl<|Aq rfl rfl<|Aa<|Ar rfl (by omega)<|Al ?_)
   exact⟨rfl,rfl,rfl,rfl,rfl,by simp only [C9,hs];rw [←hlo];simp;omega,rfl⟩
 rintro ρ d' L' ⟨hdd,e1,e2,e3,e6,hcan,hL⟩
 subst hdd;subst hL
 refine Dl [(1,.pointer (some ⟨b,0,none⟩)),(2,.pointer (some ⟨b2,0,none⟩)),(3,.pointer (some ⟨b3,0,none⟩)),(6,.int .i64 ks.length)] ⟨e1,e2,e3,e6,trivial⟩ ?_
 have hps:∀i,i≤ks.length→Cp ⟨lf,ks,vs,is⟩ i≤1002000000000:=fun i hi=>by
  have h1:=KB ⟨lf,ks,vs,is⟩ hi
  have h2:=ZM ⟨lf,ks,vs,is⟩ ks.length
  simp only [A5] at hz
  omega
 have hkl:ks.length≥2:=by
  simp only [C9,Acd,decide_eq_true_eq] at hcan
  have:=hcan.2
  split at this<;>omega
 (refine Ad<|OA<|Fz rfl<|Aa<|Ad<|Ab rfl<|Aa<|Ah<|Ad<|Ab rfl<|Ab rfl<|Aa<|Ax ?_)
 refine CZ (α:=Nat) (fun i=>[(1,.pointer (some ⟨b,0,none⟩)),(2,.pointer (some ⟨b2,0,none⟩)),(3,.pointer (some ⟨b3,0,none⟩)),(6,.int .i64 ks.length),(8,.func (.func f2) #[] #[.pointer (some ⟨b,0,none⟩)]),(9,.int .i64 (Cp ⟨lf,ks,vs,is⟩ i:Nat)),(29,.int .i64 ks.length),(30,.int .i64 i)]) (fun _=>[bx b T [.bool lf,kv,vv,iv],bx b3 T3 [.bool false,.slice none 0 0,.slice none 0 0,.slice none 0 0],bx b2 T2 [.bool false,.slice none 0 0,.slice none 0 0,.slice none 0 0]])
  (fun i=>i≤ks.length) (fun i=>ks.length - i) 0 ⟨rfl,rfl,rfl,rfl,rfl,rfl,rfl,rfl,trivial⟩ rfl (Adf _) ?_
 rintro i ρ hi
 have hpi:=hps i hi
 (refine Ad<|AA rfl rfl<|Aa<|Ah ?_)
 first|refine Hq rfl (fun hc=>?_) (fun hc=>?_)|refine JR rfl (fun hc=>?_) (fun hc=>?_)
 ·have hi1:i<ks.length:=by omega
  have hpi1:=hps (i+1) hi1
  simp only [Cp] at hpi1
  (refine Al<|Ah<|Ax<|Ad<|Ab rfl<|Ab rfl<|Aa<|AE<|Ab rfl<|Fz rfl<|Ab rfl ?_)
  refine Md 1 rfl rfl (h2 hn' hz i hi1) (fun r d2 L2 _ ⟨hr,hdd,hL⟩=>?_)
  subst hr;subst hdd;subst hL
  (refine AN rfl rfl (by omega) (by omega)<|Ab rfl<|Aa<|AE<|AN rfl rfl (by omega) (by omega)<|Ab rfl<|Aa ?_)
  exact⟨i+1,by omega,⟨rfl,rfl,rfl,rfl,rfl,int_eq (by simp only [Cp];omega),rfl,int_eq (by omega),trivial⟩,rfl,rfl,hi1⟩
 obtain rfl:i=ks.length:=by omega
 apply Bh
 apply Ah;apply AE
 (refine Ab rfl<|Ab rfl<|Aa ?_)
 refine FX (fun ρ d' L'=>d=d'∧ρ 1=.pointer (some ⟨b,0,none⟩)∧ρ 2=.pointer (some ⟨b2,0,none⟩)∧ρ 3=.pointer (some ⟨b3,0,none⟩)∧L'=[bx b T [.bool lf,kv,vv,iv],bx b3 T3 [.bool false,.slice none 0 0,.slice none 0 0,.slice none 0 0],bx b2 T2 [.bool false,.slice none 0 0,.slice none 0 0,.slice none 0 0]]∧∃a,ρ 11=.int .i64 (a:Nat)∧a≤ks.length - 1∧atD ⟨lf,ks,vs,is⟩=a) ?_ ?_
 ·(apply Ax)
  refine CZ (α:=Nat) (fun i=>[(1,.pointer (some ⟨b,0,none⟩)),(2,.pointer (some ⟨b2,0,none⟩)),(3,.pointer (some ⟨b3,0,none⟩)),(6,.int .i64 ks.length),(8,.func (.func f2) #[] #[.pointer (some ⟨b,0,none⟩)]),(9,.int .i64 (Cp ⟨lf,ks,vs,is⟩ ks.length:Nat)),(11,.int .i64 i),(12,.int .i64 (Cp ⟨lf,ks,vs,is⟩ i:Nat))]) (fun _=>[bx b T [.bool lf,kv,vv,iv],bx b3 T3 [.bool false,.slice none 0 0,.slice none 0 0,.slice none 0 0],bx b2 T2 [.bool false,.slice none 0 0,.slice none 0 0,.slice none 0 0]])
   (fun i=>i≤ks.length - 1∧Gy ⟨lf,ks,vs,is⟩ (ks.length - i) i=atD ⟨lf,ks,vs,is⟩) (fun i=>ks.length - i) 0 ⟨rfl,rfl,rfl,rfl,rfl,rfl,rfl,rfl,trivial⟩ rfl ⟨Adf _,rfl⟩ ?_
  rintro a ρ ⟨ha,hat⟩
  have hpa:=hps a (by omega)
  have hpl:=hps ks.length (Ach _)
  by_cases hc1:a<ks.length - 1
  ·by_cases hc2:2*Cp ⟨lf,ks,vs,is⟩ a<Cp ⟨lf,ks,vs,is⟩ ks.length
   ·have hpa1:=hps (a+1) (by omega)
    simp only [Cp] at hpa1
    (refine Ah<|Ad<|Ab rfl<|Ab rfl<|CY rfl rfl (by omega) (by omega)<|AA rfl rfl<|Ae rfl<|Bd rfl (by omega)<|Af rfl<|Ab rfl<|Af rfl<|LB rfl rfl (by omega) (by omega)<|Af rfl<|Ab rfl<|Af rfl<|AA rfl rfl<|AB rfl rfl<|Aa<|Ay rfl (by omega)<|Al<|Ax<|Ad<|Ab rfl<|Fz rfl<|Ab rfl ?_)
    refine Md 1 rfl rfl (h2 hn' hz a (show a<ks.length by omega)) (fun r d2 L2 _ ⟨hr,hdd,hL⟩=>?_)
    subst hr;subst hdd;subst hL
    (refine AN rfl rfl (by omega) (by omega)<|Ab rfl<|Aa<|AE<|Ab rfl<|AN rfl rfl (by omega) (by omega)<|Ab rfl<|Aa ?_)
    exact⟨a+1,by omega,⟨rfl,rfl,rfl,rfl,rfl,rfl,int_eq (by omega),int_eq (by simp only [Cp];omega),trivial⟩,rfl,rfl,by omega,WC _ hc1 hc2 hat⟩
   ·have hatd:=PL _ (fun h=>hc2 h.2) hat
    (refine Ah<|Ad<|Ab rfl<|Ab rfl<|CY rfl rfl (by omega) (by omega)<|AA rfl rfl<|Ae rfl<|Bd rfl (by omega)<|Af rfl<|Ab rfl<|Af rfl<|LB rfl rfl (by omega) (by omega)<|Af rfl<|Ab rfl<|Af rfl<|AA rfl rfl<|AB rfl rfl<|Aa<|Ar rfl (by omega)<|Bh ?_)
    exact⟨rfl,rfl,rfl,rfl,rfl,a,rfl,ha,hatd⟩
  ·have hatd:=PL _ (fun h=>hc1 h.1) hat
   (refine Ah<|Ad<|Ab rfl<|Ab rfl<|CY rfl rfl (by omega) (by omega)<|AA rfl rfl<|Ae rfl<|AZ rfl (by omega)<|An rfl<|An rfl<|An rfl<|An rfl<|Aq rfl rfl<|Aa<|AR rfl<|Bh ?_)
   exact⟨rfl,rfl,rfl,rfl,rfl,a,rfl,ha,hatd⟩
 rintro ρ d' L' ⟨hdd,e1,e2,e3,hL,a,e10,ha,hatd⟩
 subst hdd;subst hL
 refine Dl [(1,.pointer (some ⟨b,0,none⟩)),(2,.pointer (some ⟨b2,0,none⟩)),(3,.pointer (some ⟨b3,0,none⟩)),(11,.int .i64 a)] ⟨e1,e2,e3,e10,trivial⟩ ?_
 (refine Ah<|Ad<|Ai rfl<|Ag rfl (Aj 0 rfl rfl)<|Aa ?_)
 first|refine Hq rfl (fun hl=>?_) (fun hl=>?_)|refine JR rfl (fun hl=>?_) (fun hl=>?_)
 ·subst hl
  have hvl:vs.length=ks.length:=by
   simp only [C9,A6,Acd,if_true,decide_eq_true_eq] at hcan
   exact hcan.1.2.1.1
  (refine Ah<|Bv<|Ai rfl<|Ag rfl (Aj 0 rfl rfl)<|Ab rfl<|Ab rfl ?_)
  refine Lz rfl hk rfl rfl rfl rfl (show a≤ks.length by omega) (fun v1 hv1=>?_)
  (refine Ai rfl<|Ag rfl (Aj 0 rfl rfl)<|Ab rfl<|Ab rfl ?_)
  refine Lz rfl hv rfl rfl rfl rfl (show a≤vs.length by omega) (fun v2 hv2=>?_)
  refine Bk rfl (h3 hv1 (by simp;omega)) (fun u1 d1 Lk _ ⟨hdd,o1⟩=>?_)
  subst hdd
  refine Bk rfl (h3 hv2 (by simp;omega)) (fun u2 d2 Lv _ ⟨hdd,o2⟩=>?_)
  subst hdd
  obtain⟨a1,c1,rfl⟩:=o1.val
  obtain⟨a2,c2,rfl⟩:=o2.val
  refine BI (cs:=[.bool true,.slice a1 (ks.take a).length c1,.slice a2 (vs.take a).length c2,.slice none 0 0]) rfl ?_
  (apply B4)
  refine BN 2 rfl rfl rfl rfl (by simp) rfl ?_
  (refine Aa<|Ah<|Bv<|Ai rfl<|Ag rfl (Aj 0 rfl rfl)<|Ab rfl ?_)
  refine ED rfl hk rfl rfl (show a≤ks.length by omega) (fun v3 hv3=>?_)
  (refine Ai rfl<|Ag rfl (Aj 0 rfl rfl)<|Ab rfl ?_)
  refine ED rfl hv rfl rfl (show a≤vs.length by omega) (fun v4 hv4=>?_)
  refine Bk rfl (h3 hv3 (by simp;omega)) (fun u3 d3 Rk _ ⟨hdd,o3⟩=>?_)
  subst hdd
  refine Bk rfl (h3 hv4 (by simp;omega)) (fun u4 d4 Rv _ ⟨hdd,o4⟩=>?_)
  subst hdd
  obtain⟨a3,c3,rfl⟩:=o3.val
  obtain⟨a4,c4,rfl⟩:=o4.val
  refine BI (cs:=[.bool true,.slice a3 (ks.drop a).length c3,.slice a4 (vs.drop a).length c4,.slice none 0 0]) rfl ?_
  (apply B4)
  refine BN 1 rfl rfl rfl rfl (by simp) rfl ?_
  have hk1:a<ks.length:=by omega
  (refine Aa<|Ah ?_)
  refine Br [bx b T [.bool true,kv,vv,iv]] (bx b3 T3 [.bool true,.slice a3 (ks.drop a).length c3,.slice a4 (vs.drop a).length c4,.slice none 0 0]::bx b2 T2 [.bool true,.slice a1 (ks.take a).length c1,.slice a2 (vs.take a).length c2,.slice none 0 0]::(Lv++(Lk++[])++(Rv++(Rk++[])))) rfl ?_
  (refine Ai rfl<|Ag rfl (Aj 0 rfl rfl)<|Ab rfl<|BH (sz:=1) (R:=RBs) (by rfl) (by assumption) (by rfl) rfl (by omega) ?_;rintro _ _ _ _ _ ⟨_,rfl,_⟩;apply Ag;rfl;exact B5 (by assumption) rfl)
  rename_i w5 hw5 _ _
  have hxl:(ks[a]).length*1≤140737488355328:=by have:=AM.BW hw5;omega
  have hvs:∀(d:Ac) (g:Ac),Vs d (bx b T [.bool true,kv,vv,iv]::g::bx b3 T3 [.bool true,.slice a3 (ks.drop a).length c3,.slice a4 (vs.drop a).length c4,.slice none 0 0]::bx b2 T2 [.bool true,.slice a1 (ks.take a).length c1,.slice a2 (vs.take a).length c2,.slice none 0 0]::(Lv++(Lk++[])++(Rv++(Rk++[])))) d ((Lk++Lv++[emp])++(Rk++Rv++[emp])++[g]):=fun d g=>
   (Vs.emp.trans Vs.emp).trans (by simpa [Acg] using Vs.Um [[emp],[emp],[bx b T [.bool true,kv,vv,iv]],[g],[bx b3 T3 [.bool true,.slice a3 (ks.drop a).length c3,.slice a4 (vs.drop a).length c4,.slice none 0 0]],[bx b2 T2 [.bool true,.slice a1 (ks.take a).length c1,.slice a2 (vs.take a).length c2,.slice none 0 0]],Lv,Lk,Rv,Rk] [7,6,0,9,8,1,3] [2,4,5] rfl)
  refine EB ?_ ?_
  ·apply Bg 2;rfl;rfl;rfl
   refine EB ?_ ?_
   ·apply Bg 1;rfl;rfl;rfl
    refine Bk rfl (h4 (xs:=ks[a]) hw5 hxl) (fun u5 d5 Lg _ ⟨hdd,g,hLg,hg⟩=>?_)
    subst hdd;subst hLg
    refine BN 2 rfl rfl rfl rfl (by simp) rfl ?_
    refine BN 1 rfl rfl rfl rfl (by simp) rfl ?_
    apply AK
    apply Ab;rfl
    apply A8
    apply Ao
    refine A7 [.agg [.bool true,.slice a1 (ks.take a).length c1,.slice a2 (vs.take a).length c2,.slice none 0 0].toArray,.agg [.bool true,.slice a3 (ks.drop a).length c3,.slice a4 (vs.drop a).length c4,.slice none 0 0].toArray,u5,.int .i64 0] (L':=(Lk++Lv++[emp])++(Rk++Rv++[emp])++[g]) ⟨AT 3 rfl rfl rfl,AT 2 rfl rfl rfl,Au rfl,Au rfl,trivial⟩ (hvs _ g) ⟨rfl,_,_,_,_,_,g,by rw [hcan];rfl,rfl,?_⟩
    simp only [AW,Ba,BB,hcan,if_true,hatd]
    exact⟨⟨_,_,_,Lk,Lv,emp,rfl,o1,o2,As.nil,rfl⟩,⟨_,_,_,Rk,Rv,emp,rfl,o3,o4,As.nil,rfl⟩,by simpa [hk1] using hg⟩
   ·refine Bk rfl (h4 (xs:=ks[a]) hw5 hxl) (fun u5 d5 Lg _ ⟨hdd,g,hLg,hg⟩=>?_)
    subst hdd;subst hLg
    refine EB ?_ ?_
    ·apply Bg 2;rfl;rfl;rfl
     refine BN 2 rfl rfl rfl rfl (by simp) rfl ?_
     refine BN 1 rfl rfl rfl rfl (by simp) rfl ?_
     apply AK
     apply Ab;rfl
     apply A8
     apply Ao
     refine A7 [.agg [.bool true,.slice a1 (ks.take a).length c1,.slice a2 (vs.take a).length c2,.slice none 0 0].toArray,.agg [.bool true,.slice a3 (ks.drop a).length c3,.slice a4 (vs.drop a).length c4,.slice none 0 0].toArray,u5,.int .i64 0] (L':=(Lk++Lv++[emp])++(Rk++Rv++[emp])++[g]) ⟨AT 3 rfl rfl rfl,AT 2 rfl rfl rfl,Au rfl,Au rfl,trivial⟩ (hvs _ g) ⟨rfl,_,_,_,_,_,g,by rw [hcan];rfl,rfl,?_⟩
     simp only [AW,Ba,BB,hcan,if_true,hatd]
     exact⟨⟨_,_,_,Lk,Lv,emp,rfl,o1,o2,As.nil,rfl⟩,⟨_,_,_,Rk,Rv,emp,rfl,o3,o4,As.nil,rfl⟩,by simpa [hk1] using hg⟩
    ·refine BN 2 rfl rfl rfl rfl (by simp) rfl ?_
     apply Bg 2;rfl;rfl;rfl
     refine BN 1 rfl rfl rfl rfl (by simp) rfl ?_
     apply AK
     apply Ab;rfl
     apply A8
     apply Ao
     refine A7 [.agg [.bool true,.slice a1 (ks.take a).length c1,.slice a2 (vs.take a).length c2,.slice none 0 0].toArray,.agg [.bool true,.slice a3 (ks.drop a).length c3,.slice a4 (vs.drop a).length c4,.slice none 0 0].toArray,u5,.int .i64 0] (L':=(Lk++Lv++[emp])++(Rk++Rv++[emp])++[g]) ⟨AT 3 rfl rfl rfl,AT 2 rfl rfl rfl,Au rfl,Au rfl,trivial⟩ (hvs _ g) ⟨rfl,_,_,_,_,_,g,by rw [hcan];rfl,rfl,?_⟩
     simp only [AW,Ba,BB,hcan,if_true,hatd]
     exact⟨⟨_,_,_,Lk,Lv,emp,rfl,o1,o2,As.nil,rfl⟩,⟨_,_,_,Rk,Rv,emp,rfl,o3,o4,As.nil,rfl⟩,by simpa [hk1] using hg⟩
  ·refine EB ?_ ?_
   ·apply Bg 1;rfl;rfl;rfl
    refine EB ?_ ?_
    ·apply Bg 2;rfl;rfl;rfl
     refine Bk rfl (h4 (xs:=ks[a]) hw5 hxl) (fun u5 d5 Lg _ ⟨hdd,g,hLg,hg⟩=>?_)
     subst hdd;subst hLg
     refine BN 2 rfl rfl rfl rfl (by simp) rfl ?_
     refine BN 1 rfl rfl rfl rfl (by simp) rfl ?_
     apply AK
     apply Ab;rfl
     apply A8
     apply Ao
     refine A7 [.agg [.bool true,.slice a1 (ks.take a).length c1,.slice a2 (vs.take a).length c2,.slice none 0 0].toArray,.agg [.bool true,.slice a3 (ks.drop a).length c3,.slice a4 (vs.drop a).length c4,.slice none 0 0].toArray,u5,.int .i64 0] (L':=(Lk++Lv++[emp])++(Rk++Rv++[emp])++[g]) ⟨AT 3 rfl rfl rfl,AT 2 rfl rfl rfl,Au rfl,Au rfl,trivial⟩ (hvs _ g) ⟨rfl,_,_,_,_,_,g,by rw [hcan];rfl,rfl,?_⟩
     simp only [AW,Ba,BB,hcan,if_true,hatd]
     exact⟨⟨_,_,_,Lk,Lv,emp,rfl,o1,o2,As.nil,rfl⟩,⟨_,_,_,Rk,Rv,emp,rfl,o3,o4,As.nil,rfl⟩,by simpa [hk1] using hg⟩
    ·refine Bk rfl (h4 (xs:=ks[a]) hw5 hxl) (fun u5 d5 Lg _ ⟨hdd,g,hLg,hg⟩=>?_)
     subst hdd;subst hLg
     apply Bg 3;rfl;rfl;rfl
     refine BN 2 rfl rfl rfl rfl (by simp) rfl ?_
     refine BN 1 rfl rfl rfl rfl (by simp) rfl ?_
     apply AK
     apply Ab;rfl
     apply A8
     apply Ao
     refine A7 [.agg [.bool true,.slice a1 (ks.take a).length c1,.slice a2 (vs.take a).length c2,.slice none 0 0].toArray,.agg [.bool true,.slice a3 (ks.drop a).length c3,.slice a4 (vs.drop a).length c4,.slice none 0 0].toArray,u5,.int .i64 0] (L':=(Lk++Lv++[emp])++(Rk++Rv++[emp])++[g]) ⟨AT 3 rfl rfl rfl,AT 2 rfl rfl rfl,Au rfl,Au rfl,trivial⟩ (hvs _ g) ⟨rfl,_,_,_,_,_,g,by rw [hcan];rfl,rfl,?_⟩
     simp only [AW,Ba,BB,hcan,if_true,hatd]
     exact⟨⟨_,_,_,Lk,Lv,emp,rfl,o1,o2,As.nil,rfl⟩,⟨_,_,_,Rk,Rv,emp,rfl,o3,o4,As.nil,rfl⟩,by simpa [hk1] using hg⟩
   ·refine Bk rfl (h4 (xs:=ks[a]) hw5 hxl) (fun u5 d5 Lg _ ⟨hdd,g,hLg,hg⟩=>?_)
    subst hdd;subst hLg
    refine EB ?_ ?_
    ·apply Bg 3;rfl;rfl;rfl
     refine EB ?_ ?_
     ·apply Bg 2;rfl;rfl;rfl
      refine BN 2 rfl rfl rfl rfl (by simp) rfl ?_
      refine BN 1 rfl rfl rfl rfl (by simp) rfl ?_
      apply AK
      apply Ab;rfl
      apply A8
      apply Ao
      refine A7 [.agg [.bool true,.slice a1 (ks.take a).length c1,.slice a2 (vs.take a).length c2,.slice none 0 0].toArray,.agg [.bool true,.slice a3 (ks.drop a).length c3,.slice a4 (vs.drop a).length c4,.slice none 0 0].toArray,u5,.int .i64 0] (L':=(Lk++Lv++[emp])++(Rk++Rv++[emp])++[g]) ⟨AT 3 rfl rfl rfl,AT 2 rfl rfl rfl,Au rfl,Au rfl,trivial⟩ (hvs _ g) ⟨rfl,_,_,_,_,_,g,by rw [hcan];rfl,rfl,?_⟩
      simp only [AW,Ba,BB,hcan,if_true,hatd]
      exact⟨⟨_,_,_,Lk,Lv,emp,rfl,o1,o2,As.nil,rfl⟩,⟨_,_,_,Rk,Rv,emp,rfl,o3,o4,As.nil,rfl⟩,by simpa [hk1] using hg⟩
     ·refine BN 2 rfl rfl rfl rfl (by simp) rfl ?_
      apply Bg 2;rfl;rfl;rfl
      refine BN 1 rfl rfl rfl rfl (by simp) rfl ?_
      apply AK
      apply Ab;rfl
      apply A8
      apply Ao
      refine A7 [.agg [.bool true,.slice a1 (ks.take a).length c1,.slice a2 (vs.take a).length c2,.slice none 0 0].toArray,.agg [.bool true,.slice a3 (ks.drop a).length c3,.slice a4 (vs.drop a).length c4,.slice none 0 0].toArray,u5,.int .i64 0] (L':=(Lk++Lv++[emp])++(Rk++Rv++[emp])++[g]) ⟨AT 3 rfl rfl rfl,AT 2 rfl rfl rfl,Au rfl,Au rfl,trivial⟩ (hvs _ g) ⟨rfl,_,_,_,_,_,g,by rw [hcan];rfl,rfl,?_⟩
      simp only [AW,Ba,BB,hcan,if_true,hatd]
      exact⟨⟨_,_,_,Lk,Lv,emp,rfl,o1,o2,As.nil,rfl⟩,⟨_,_,_,Rk,Rv,emp,rfl,o3,o4,As.nil,rfl⟩,by simpa [hk1] using hg⟩
    ·apply Bg 2;rfl;rfl;rfl
     apply Bg 3;rfl;rfl;rfl
     refine BN 2 rfl rfl rfl rfl (by simp) rfl ?_
     refine BN 1 rfl rfl rfl rfl (by simp) rfl ?_
     apply AK
     apply Ab;rfl
     apply A8
     apply Ao
     refine A7 [.agg [.bool true,.slice a1 (ks.take a).length c1,.slice a2 (vs.take a).length c2,.slice none 0 0].toArray,.agg [.bool true,.slice a3 (ks.drop a).length c3,.slice a4 (vs.drop a).length c4,.slice none 0 0].toArray,u5,.int .i64 0] (L':=(Lk++Lv++[emp])++(Rk++Rv++[emp])++[g]) ⟨AT 3 rfl rfl rfl,AT 2 rfl rfl rfl,Au rfl,Au rfl,trivial⟩ (hvs _ g) ⟨rfl,_,_,_,_,_,g,by rw [hcan];rfl,rfl,?_⟩
     simp only [AW,Ba,BB,hcan,if_true,hatd]
     exact⟨⟨_,_,_,Lk,Lv,emp,rfl,o1,o2,As.nil,rfl⟩,⟨_,_,_,Rk,Rv,emp,rfl,o3,o4,As.nil,rfl⟩,by simpa [hk1] using hg⟩
 ·subst hl
  have hil:is.length=ks.length+1:=by
   simp only [C9,A6,Acd,Acj,if_false,decide_eq_true_eq] at hcan
   exact hcan.1.2.1.2
  have hk3:3≤ks.length:=by
   simp only [C9,Acd,Acj,if_false,decide_eq_true_eq] at hcan
   exact hcan.2
  apply Al
  refine FX (fun ρ d' L'=>d=d'∧ρ 1=.pointer (some ⟨b,0,none⟩)∧ρ 2=.pointer (some ⟨b2,0,none⟩)∧ρ 3=.pointer (some ⟨b3,0,none⟩)∧L'=[bx b T [.bool false,kv,vv,iv],bx b3 T3 [.bool false,.slice none 0 0,.slice none 0 0,.slice none 0 0],bx b2 T2 [.bool false,.slice none 0 0,.slice none 0 0,.slice none 0 0]]∧ρ 11=.int .i64 (at2 ⟨false,ks,vs,is⟩:Nat)) ?_ ?_
  ·(refine AE<|Ab rfl<|YR rfl rfl<|Ab rfl<|Aa ?_)
   exact⟨rfl,rfl,rfl,rfl,rfl,int_eq (by simp only [at2,hatd];omega)⟩
  rintro ρ d' L' ⟨hdd,e1,e2,e3,hL,e10⟩
  subst hdd;subst hL
  refine Dl [(1,.pointer (some ⟨b,0,none⟩)),(2,.pointer (some ⟨b2,0,none⟩)),(3,.pointer (some ⟨b3,0,none⟩)),(11,.int .i64 (at2 ⟨false,ks,vs,is⟩:Nat))] ⟨e1,e2,e3,e10,trivial⟩ ?_
  obtain⟨m,hm⟩:∃m,at2 ⟨false,ks,vs,is⟩=m+1:=⟨at2 ⟨false,ks,vs,is⟩ - 1,by simp only [at2];omega⟩
  have hm2:m+1≤ks.length - 1:=by rw [←hm];simp only [at2,hatd];omega
  rw [hm]
  (refine Ah<|Bv<|Ai rfl<|Ag rfl (Aj 0 rfl rfl)<|Ab rfl<|CY rfl rfl (by omega) (by omega)<|Ab rfl<|CY rfl rfl (by omega) (by omega) ?_)
  refine Lz rfl hk rfl rfl (show((m+1:Nat):Int) - 1=(m:Int) by omega) (show((m+1:Nat):Int) - 1=(m:Int) by omega) (show m≤ks.length by omega) (fun v1 hv1=>?_)
  (refine Ai rfl<|Ag rfl (Aj 0 rfl rfl)<|Ab rfl<|Ab rfl ?_)
  refine Lz rfl hiv rfl rfl rfl rfl (show m+1≤is.length by omega) (fun v2 hv2=>?_)
  refine Bk rfl (h3 hv1 (by simp;omega)) (fun u1 d1 Lk _ ⟨hdd,o1⟩=>?_)
  subst hdd
  refine Bk rfl (h5 hv2 (by simp;omega)) (fun u2 d2 Lgl _ ⟨hdd,gl,hLgl,o2⟩=>?_)
  subst hdd;subst hLgl
  obtain⟨a1,c1,rfl⟩:=o1.val
  obtain⟨a2,c2,rfl⟩:=o2.val
  refine BI (cs:=[.bool false,.slice a1 (ks.take m).length c1,.slice none 0 0,.slice a2 (is.take (m+1)).length c2]) rfl ?_
  (apply B4)
  refine BN 2 rfl rfl rfl rfl (by simp) rfl ?_
  (refine Aa<|Ah<|Bv<|Ai rfl<|Ag rfl (Aj 0 rfl rfl)<|Ab rfl ?_)
  refine ED rfl hk rfl rfl (show m+1≤ks.length by omega) (fun v3 hv3=>?_)
  (refine Ai rfl<|Ag rfl (Aj 0 rfl rfl)<|Ab rfl ?_)
  refine ED rfl hiv rfl rfl (show m+1≤is.length by omega) (fun v4 hv4=>?_)
  refine Bk rfl (h3 hv3 (by simp;omega)) (fun u3 d3 Rk _ ⟨hdd,o3⟩=>?_)
  subst hdd
  refine Bk rfl (h5 hv4 (by simp;omega)) (fun u4 d4 Lgr _ ⟨hdd,gr,hLgr,o4⟩=>?_)
  subst hdd;subst hLgr
  obtain⟨a3,c3,rfl⟩:=o3.val
  obtain⟨a4,c4,rfl⟩:=o4.val
  refine BI (cs:=[.bool false,.slice a3 (ks.drop (m+1)).length c3,.slice none 0 0,.slice a4 (is.drop (m+1)).length c4]) rfl ?_
  (apply B4)
  refine BN 1 rfl rfl rfl rfl (by simp) rfl ?_
  have hk1:m<ks.length:=by omega
  (refine Aa<|Ah ?_)
  refine Br [bx b T [.bool false,kv,vv,iv]] (bx b3 T3 [.bool false,.slice a3 (ks.drop (m+1)).length c3,.slice none 0 0,.slice a4 (is.drop (m+1)).length c4]::bx b2 T2 [.bool false,.slice a1 (ks.take m).length c1,.slice none 0 0,.slice a2 (is.take (m+1)).length c2]::((gl::(Lk++[]))++(gr::(Rk++[])))) rfl ?_
  (refine Ai rfl<|Ag rfl (Aj 0 rfl rfl)<|Ab rfl<|CY rfl rfl (by omega) (by omega) ?_)
  refine BH (sz:=1) (R:=RBs) (m:=m) rfl hk rfl (by omega) hk1 ?_
  rintro b5 o5 _ _ hD5 ⟨w5,rfl,hw5⟩
  (apply Ag;rfl;exact B5 (by assumption) rfl)
  have hxl:(ks[m]).length*1≤140737488355328:=by have:=AM.BW hw5;omega
  have hvs:∀(d:Ac) (g:Ac),Vs d (bx b T [.bool false,kv,vv,iv]::g::bx b3 T3 [.bool false,.slice a3 (ks.drop (m+1)).length c3,.slice none 0 0,.slice a4 (is.drop (m+1)).length c4]::bx b2 T2 [.bool false,.slice a1 (ks.take m).length c1,.slice none 0 0,.slice a2 (is.take (m+1)).length c2]::((gl::(Lk++[]))++(gr::(Rk++[])))) d ((Lk++[emp]++[gl])++(Rk++[emp]++[gr])++[g]):=fun d g=>
   (Vs.emp.trans Vs.emp).trans (by simpa [Acg] using Vs.Um [[emp],[emp],[bx b T [.bool false,kv,vv,iv]],[g],[bx b3 T3 [.bool false,.slice a3 (ks.drop (m+1)).length c3,.slice none 0 0,.slice a4 (is.drop (m+1)).length c4]],[bx b2 T2 [.bool false,.slice a1 (ks.take m).length c1,.slice none 0 0,.slice a2 (is.take (m+1)).length c2]],[gl],Lk,[gr],Rk] [7,0,6,9,1,8,3] [2,4,5] rfl)
  refine EB ?_ ?_
  ·apply Bg 2;rfl;rfl;rfl
   refine EB ?_ ?_
   ·apply Bg 1;rfl;rfl;rfl
    refine Bk rfl (h4 (xs:=ks[m]) hw5 hxl) (fun u5 d5 Lg _ ⟨hdd,g,hLg,hg⟩=>?_)
    subst hdd;subst hLg
    refine BN 2 rfl rfl rfl rfl (by simp) rfl ?_
    refine BN 1 rfl rfl rfl rfl (by simp) rfl ?_
    apply AK
    apply Ab;rfl
    apply A8
    apply Ao
    refine A7 [.agg [.bool false,.slice a1 (ks.take m).length c1,.slice none 0 0,.slice a2 (is.take (m+1)).length c2].toArray,.agg [.bool false,.slice a3 (ks.drop (m+1)).length c3,.slice none 0 0,.slice a4 (is.drop (m+1)).length c4].toArray,u5,.int .i64 0] (L':=(Lk++[emp]++[gl])++(Rk++[emp]++[gr])++[g]) ⟨AT 3 rfl rfl rfl,AT 2 rfl rfl rfl,Au rfl,Au rfl,trivial⟩ (hvs _ g) ⟨rfl,_,_,_,_,_,g,by rw [hcan];rfl,rfl,?_⟩
    simp only [AW,Ba,BB,hcan,if_true,hm,Acj,if_false,Aet]
    exact⟨⟨_,_,_,Lk,[emp],gl,rfl,o1,Dg.nil,o2,rfl⟩,⟨_,_,_,Rk,[emp],gr,rfl,o3,Dg.nil,o4,rfl⟩,by simpa [hk1] using hg⟩
   ·refine Bk rfl (h4 (xs:=ks[m]) hw5 hxl) (fun u5 d5 Lg _ ⟨hdd,g,hLg,hg⟩=>?_)
    subst hdd;subst hLg
    refine EB ?_ ?_
    ·apply Bg 2;rfl;rfl;rfl
     refine BN 2 rfl rfl rfl rfl (by simp) rfl ?_
     refine BN 1 rfl rfl rfl rfl (by simp) rfl ?_
     apply AK
     apply Ab;rfl
     apply A8
     apply Ao
     refine A7 [.agg [.bool false,.slice a1 (ks.take m).length c1,.slice none 0 0,.slice a2 (is.take (m+1)).length c2].toArray,.agg [.bool false,.slice a3 (ks.drop (m+1)).length c3,.slice none 0 0,.slice a4 (is.drop (m+1)).length c4].toArray,u5,.int .i64 0] (L':=(Lk++[emp]++[gl])++(Rk++[emp]++[gr])++[g]) ⟨AT 3 rfl rfl rfl,AT 2 rfl rfl rfl,Au rfl,Au rfl,trivial⟩ (hvs _ g) ⟨rfl,_,_,_,_,_,g,by rw [hcan];rfl,rfl,?_⟩
     simp only [AW,Ba,BB,hcan,if_true,hm,Acj,if_false,Aet]
     exact⟨⟨_,_,_,Lk,[emp],gl,rfl,o1,Dg.nil,o2,rfl⟩,⟨_,_,_,Rk,[emp],gr,rfl,o3,Dg.nil,o4,rfl⟩,by simpa [hk1] using hg⟩
    ·refine BN 2 rfl rfl rfl rfl (by simp) rfl ?_
     apply Bg 2;rfl;rfl;rfl
     refine BN 1 rfl rfl rfl rfl (by simp) rfl ?_
     apply AK
     apply Ab;rfl
     apply A8
     apply Ao
     refine A7 [.agg [.bool false,.slice a1 (ks.take m).length c1,.slice none 0 0,.slice a2 (is.take (m+1)).length c2].toArray,.agg [.bool false,.slice a3 (ks.drop (m+1)).length c3,.slice none 0 0,.slice a4 (is.drop (m+1)).length c4].toArray,u5,.int .i64 0] (L':=(Lk++[emp]++[gl])++(Rk++[emp]++[gr])++[g]) ⟨AT 3 rfl rfl rfl,AT 2 rfl rfl rfl,Au rfl,Au rfl,trivial⟩ (hvs _ g) ⟨rfl,_,_,_,_,_,g,by rw [hcan];rfl,rfl,?_⟩
     simp only [AW,Ba,BB,hcan,if_true,hm,Acj,if_false,Aet]
     exact⟨⟨_,_,_,Lk,[emp],gl,rfl,o1,Dg.nil,o2,rfl⟩,⟨_,_,_,Rk,[emp],gr,rfl,o3,Dg.nil,o4,rfl⟩,by simpa [hk1] using hg⟩
  ·refine EB ?_ ?_
   ·apply Bg 1;rfl;rfl;rfl
    refine EB ?_ ?_
    ·apply Bg 2;rfl;rfl;rfl
     refine Bk rfl (h4 (xs:=ks[m]) hw5 hxl) (fun u5 d5 Lg _ ⟨hdd,g,hLg,hg⟩=>?_)
     subst hdd;subst hLg
     refine BN 2 rfl rfl rfl rfl (by simp) rfl ?_
     refine BN 1 rfl rfl rfl rfl (by simp) rfl ?_
     apply AK
     apply Ab;rfl
     apply A8
     apply Ao
     refine A7 [.agg [.bool false,.slice a1 (ks.take m).length c1,.slice none 0 0,.slice a2 (is.take (m+1)).length c2].toArray,.agg [.bool false,.slice a3 (ks.drop (m+1)).length c3,.slice none 0 0,.slice a4 (is.drop (m+1)).length c4].toArray,u5,.int .i64 0] (L':=(Lk++[emp]++[gl])++(Rk++[emp]++[gr])++[g]) ⟨AT 3 rfl rfl rfl,AT 2 rfl rfl rfl,Au rfl,Au rfl,trivial⟩ (hvs _ g) ⟨rfl,_,_,_,_,_,g,by rw [hcan];rfl,rfl,?_⟩
     simp only [AW,Ba,BB,hcan,if_true,hm,Acj,if_false,Aet]
     exact⟨⟨_,_,_,Lk,[emp],gl,rfl,o1,Dg.nil,o2,rfl⟩,⟨_,_,_,Rk,[emp],gr,rfl,o3,Dg.nil,o4,rfl⟩,by simpa [hk1] using hg⟩
    ·refine Bk rfl (h4 (xs:=ks[m]) hw5 hxl) (fun u5 d5 Lg _ ⟨hdd,g,hLg,hg⟩=>?_)
     subst hdd;subst hLg
     apply Bg 3;rfl;rfl;rfl
     refine BN 2 rfl rfl rfl rfl (by simp) rfl ?_
     refine BN 1 rfl rfl rfl rfl (by simp) rfl ?_
     apply AK
     apply Ab;rfl
     apply A8
     apply Ao
     refine A7 [.agg [.bool false,.slice a1 (ks.take m).length c1,.slice none 0 0,.slice a2 (is.take (m+1)).length c2].toArray,.agg [.bool false,.slice a3 (ks.drop (m+1)).length c3,.slice none 0 0,.slice a4 (is.drop (m+1)).length c4].toArray,u5,.int .i64 0] (L':=(Lk++[emp]++[gl])++(Rk++[emp]++[gr])++[g]) ⟨AT 3 rfl rfl rfl,AT 2 rfl rfl rfl,Au rfl,Au rfl,trivial⟩ (hvs _ g) ⟨rfl,_,_,_,_,_,g,by rw [hcan];rfl,rfl,?_⟩
     simp only [AW,Ba,BB,hcan,if_true,hm,Acj,if_false,Aet]
     exact⟨⟨_,_,_,Lk,[emp],gl,rfl,o1,Dg.nil,o2,rfl⟩,⟨_,_,_,Rk,[emp],gr,rfl,o3,Dg.nil,o4,rfl⟩,by simpa [hk1] using hg⟩
   ·refine Bk rfl (h4 (xs:=ks[m]) hw5 hxl) (fun u5 d5 Lg _ ⟨hdd,g,hLg,hg⟩=>?_)
    subst hdd;subst hLg
    refine EB ?_ ?_
    ·apply Bg 3;rfl;rfl;rfl
     refine EB ?_ ?_
     ·apply Bg 2;rfl;rfl;rfl
      refine BN 2 rfl rfl rfl rfl (by simp) rfl ?_
      refine BN 1 rfl rfl rfl rfl (by simp) rfl ?_
      apply AK
      apply Ab;rfl
      apply A8
      apply Ao
      refine A7 [.agg [.bool false,.slice a1 (ks.take m).length c1,.slice none 0 0,.slice a2 (is.take (m+1)).length c2].toArray,.agg [.bool false,.slice a3 (ks.drop (m+1)).length c3,.slice none 0 0,.slice a4 (is.drop (m+1)).length c4].toArray,u5,.int .i64 0] (L':=(Lk++[emp]++[gl])++(Rk++[emp]++[gr])++[g]) ⟨AT 3 rfl rfl rfl,AT 2 rfl rfl rfl,Au rfl,Au rfl,trivial⟩ (hvs _ g) ⟨rfl,_,_,_,_,_,g,by rw [hcan];rfl,rfl,?_⟩
      simp only [AW,Ba,BB,hcan,if_true,hm,Acj,if_false,Aet]
      exact⟨⟨_,_,_,Lk,[emp],gl,rfl,o1,Dg.nil,o2,rfl⟩,⟨_,_,_,Rk,[emp],gr,rfl,o3,Dg.nil,o4,rfl⟩,by simpa [hk1] using hg⟩
     ·refine BN 2 rfl rfl rfl rfl (by simp) rfl ?_
      apply Bg 2;rfl;rfl;rfl
      refine BN 1 rfl rfl rfl rfl (by simp) rfl ?_
      apply AK
      apply Ab;rfl
      apply A8
      apply Ao
      refine A7 [.agg [.bool false,.slice a1 (ks.take m).length c1,.slice none 0 0,.slice a2 (is.take (m+1)).length c2].toArray,.agg [.bool false,.slice a3 (ks.drop (m+1)).length c3,.slice none 0 0,.slice a4 (is.drop (m+1)).length c4].toArray,u5,.int .i64 0] (L':=(Lk++[emp]++[gl])++(Rk++[emp]++[gr])++[g]) ⟨AT 3 rfl rfl rfl,AT 2 rfl rfl rfl,Au rfl,Au rfl,trivial⟩ (hvs _ g) ⟨rfl,_,_,_,_,_,g,by rw [hcan];rfl,rfl,?_⟩
      simp only [AW,Ba,BB,hcan,if_true,hm,Acj,if_false,Aet]
      exact⟨⟨_,_,_,Lk,[emp],gl,rfl,o1,Dg.nil,o2,rfl⟩,⟨_,_,_,Rk,[emp],gr,rfl,o3,Dg.nil,o4,rfl⟩,by simpa [hk1] using hg⟩
    ·apply Bg 2;rfl;rfl;rfl
     apply Bg 3;rfl;rfl;rfl
     refine BN 2 rfl rfl rfl rfl (by simp) rfl ?_
     refine BN 1 rfl rfl rfl rfl (by simp) rfl ?_
     apply AK
     apply Ab;rfl
     apply A8
     apply Ao
     refine A7 [.agg [.bool false,.slice a1 (ks.take m).length c1,.slice none 0 0,.slice a2 (is.take (m+1)).length c2].toArray,.agg [.bool false,.slice a3 (ks.drop (m+1)).length c3,.slice none 0 0,.slice a4 (is.drop (m+1)).length c4].toArray,u5,.int .i64 0] (L':=(Lk++[emp]++[gl])++(Rk++[emp]++[gr])++[g]) ⟨AT 3 rfl rfl rfl,AT 2 rfl rfl rfl,Au rfl,Au rfl,trivial⟩ (hvs _ g) ⟨rfl,_,_,_,_,_,g,by rw [hcan];rfl,rfl,?_⟩
     simp only [AW,Ba,BB,hcan,if_true,hm,Acj,if_false,Aet]
     exact⟨⟨_,_,_,Lk,[emp],gl,rfl,o1,Dg.nil,o2,rfl⟩,⟨_,_,_,Rk,[emp],gr,rfl,o3,Dg.nil,o4,rfl⟩,by simpa [hk1] using hg⟩
end Go.Gk.Node
end
section
namespace Go.Gk.Node
open Go Go.Gk
section
attribute [local irreducible] gwp gws
end
end Go.Gk.Node
end
section
namespace Go.Gk.Node
open Go Go.Gk
attribute [local irreducible] gwp gws
def FM(P:Program) (f:FuncId):Prop:=∀{d:Ac}{b:Nat}{T:TypeId}{v:Value}{l:List UInt8},AM d v l→∀n:Nat,n≤255→
 Aw P f [.pointer (some ⟨b,0,none⟩),.int .i64 n] d [bx b T [v]] (Ret fun r d' L'=>d'=d∧((l.length<n∧r=.tuple #[.slice none 0 0,.bool false]∧L'=[bx b T [v]])∨
  (n≤l.length∧∃u v' g,r=.tuple #[u,.bool true]∧L'=[g,bx b T [v']]∧As 1 AP d u (l.take n) g∧AM d v' (l.drop n))))
def SD(a0:Nat):AY:=⟨27,[(.tmp 4),(.tmp 5)],(sR (o1 4 (.mv nS)<|o1 5 (.mv (.const (.bool false))) .done) (.seq (sR (om 7 1<|om 8 0<|o1 9 (.nilc (tP 8))<|ol 10 9<|oL 11 10<|ob 12 .gtr (tP 7) (tP 11) .done) (.cond (tP 12) (sR (o1 4 (.mv nS)<|o1 5 (.mv (.const (.bool false))) .done) .ret) .skip)) (sR (om 13 0<|o1 14 (.nilc (tP 13))<|ol 15 14<|om 16 1<|o1 17 (.sl 1 (tP 15) none (some (tP 16)) none)<|oc 18 a0 [(tP 17)]<|om 6 18 .done) (sR (om 19 0<|om 20 0<|o1 21 (.nilc (tP 20))<|ol 22 21<|om 23 1<|o1 24 (.sl 1 (tP 22) (some (tP 23)) none none)<|o1 25 (.nilc (tP 19))<|o0 (.st 1 (tP 25) (tP 24)) .done) (sR (om 26 6<|om 4 26<|o1 5 (.mv (.const (.bool true))) .done) .ret)))))⟩
theorem OX{P:Program}{f f1:FuncId} (hd:dec P f=some (SD f1)) (h1:DZ AP 1 P f1):FM P f:=by
 intro d b T v l hv n hn
 have hll:=AM.BW hv
 refine AG hd (Aca rfl) ?_
 show gwp P _ _ _ _ _
 (refine Ad<|Am rfl<|Ae rfl<|Aa<|Ah<|Ad<|Ab rfl<|Ak rfl<|Av rfl<|Ag rfl (Aj 0 rfl rfl)<|BE rfl (by assumption)<|BS rfl rfl<|Aa ?_)
 first|refine Hq rfl (fun hc=>?_) (fun hc=>?_)|refine JR rfl (fun hc=>?_) (fun hc=>?_)
 ·(refine Ad<|Am rfl<|Ae rfl<|Aa<|Ao ?_)
  exact CF (L':=[bx b T [v]]) rfl rfl (Acb _) ⟨rfl,.inl ⟨by omega,rfl,rfl⟩⟩
 ·(refine Al<|Ad<|Ak rfl<|Av rfl<|Ag rfl (Aj 0 rfl rfl)<|Ab rfl ?_)
  refine Ol rfl hv rfl rfl (show n≤l.length by omega) (fun v1 hv1=>?_)
  refine Bk rfl (h1 hv1 (by simp;omega)) (fun u d1 L1 _ ⟨hdd,g,hL,hg⟩=>?_)
  subst hdd;subst hL
  (refine AK<|Aa<|Ad<|Ak rfl<|Ak rfl<|Av rfl<|Ag rfl (Aj 1 rfl rfl)<|Ab rfl ?_)
  refine ED rfl hv rfl rfl (show n≤l.length by omega) (fun v2 hv2=>?_)
  obtain⟨a2,c2,rfl⟩:=RSl.val hv2
  (apply Av;rfl)
  refine BN 1 rfl rfl rfl rfl (by simp) rfl ?_
  (refine Aa<|Ad<|AK<|AK<|Ae rfl<|Aa<|Ao ?_)
  exact CF (L':=[g,bx b T [.slice a2 (l.drop n).length c2]]) rfl rfl (Acb _) ⟨rfl,.inr ⟨by omega,_,_,_,rfl,rfl,hg,hv2⟩⟩
def FL:List UInt8→Option (List UInt8×List UInt8)
 |[]=>none
 |x::r=>if r.length<x.toNat then none else some (r.take x.toNat,r.drop x.toNat)
def O4(P:Program) (f:FuncId):Prop:=∀{d:Ac}{b:Nat}{T:TypeId}{v:Value}{l:List UInt8},AM d v l→
 Aw P f [.pointer (some ⟨b,0,none⟩)] d [bx b T [v]] (Ret fun r d' L'=>d'=d∧((FL l=none∧r=.tuple #[.slice none 0 0,.bool false]∧∃v',L'=[bx b T [v']])∨
  (∃x rest u v' g,FL l=some (x,rest)∧r=.tuple #[u,.bool true]∧L'=[g,bx b T [v']]∧As 1 AP d u x g∧AM d v' rest)))
def Sx(a0:Nat):AY:=⟨21,[(.tmp 2),(.tmp 3)],(sR (o1 2 (.mv nS)<|o1 3 (.mv (.const (.bool false))) .done) (sR (om 7 0<|oc 8 a0 [(tP 7),(kZ 1)]<|om 6 8<|oe 9 6 0<|oe 10 6 1<|om 4 9<|om 5 10 .done) (.seq (sR (om 11 5<|o1 12 (.un .not (tP 11)) .done) (.cond (tP 12) (sR (o1 2 (.mv nS)<|o1 3 (.mv (.const (.bool false))) .done) .ret) .skip)) (sR (om 13 0<|om 14 4<|o1 15 (.idx 1 (tP 14) (kZ 0))<|ol 16 15<|o1 17 (.cvi .i64 (tP 16))<|oc 18 a0 [(tP 13),(tP 17)]<|oe 19 18 0<|oe 20 18 1<|om 2 19<|om 3 20 .done) .ret))))⟩
theorem Yd{P:Program}{f f1:FuncId} (hd:dec P f=some (Sx f1)) (h1:FM P f1):O4 P f:=by
 intro d b T v l hv
 refine AG hd (Aca rfl) ?_
 show gwp P _ _ _ _ _
 (refine Ad<|Am rfl<|Ae rfl<|Aa<|Ad<|Ak rfl ?_)
 refine Fa 1 rfl (h1 hv 1 (by omega)) (fun r d1 L1 _ ⟨hdd,hr⟩=>?_)
 subst hdd
 rcases hr with ⟨hl,hr,hL⟩|⟨hl,u,v',g,hr,hL,hg,hv'⟩
 ·subst hr;subst hL
  obtain rfl:l=[]:=Acm (by omega)
  (refine AU rfl<|Ap rfl rfl<|Ap rfl rfl<|Am rfl<|Ae rfl<|Aa<|Ah<|Ad<|Ae rfl<|Bj rfl<|Aa<|Be rfl<|Ad<|Am rfl<|Ae rfl<|Aa<|Ao ?_)
  exact CF (L':=[bx b T [v]]) rfl rfl (Acb _) ⟨rfl,.inl ⟨rfl,rfl,v,rfl⟩⟩
 ·subst hr;subst hL
  cases l with
  |nil=>simp at hl
  |cons x l=>
   have hx:x.toNat<256:=UInt8.toNat_lt x
   obtain⟨gb,gT,gl,gc,e1,rfl,hop⟩:=hg.D9 (m:=0) (by simp)
   subst e1
   have hg0:gl[0]?=some (Az x):=by simpa using hop.2.1
   (refine AU rfl<|Ap rfl rfl<|Ap rfl rfl<|Am rfl<|Ae rfl<|Aa<|Ah<|Ad<|Ae rfl<|Bj rfl<|Aa<|AR rfl<|Al<|Ad<|Ak rfl<|Am rfl ?_)
   refine Kj 0 rfl rfl rfl (by simp) ?_
   (apply Ag;rfl;exact Aj 0 rfl hg0)
   (apply Eh;rfl;omega;omega)
   refine B9 _ [bx b T [v']] (Vs.drop (Acz _ _)) ?_
   refine Fa 1 rfl (h1 hv' x.toNat (by omega)) (fun r d2 L2 _ ⟨hdd,hr⟩=>?_)
   subst hdd
   have hv2:(List.drop 1 (x::l))=l:=rfl
   rw [hv2] at hr
   rcases hr with ⟨hl2,hr,hL⟩|⟨hl2,u2,v2,g2,hr,hL,hg2,hv2'⟩
   ·subst hr;subst hL
    (refine Ap rfl rfl<|Ap rfl rfl<|Am rfl<|Ae rfl<|Aa<|Ao ?_)
    exact CF (L':=[bx b T [v']]) rfl rfl (Acb _) ⟨rfl,.inl ⟨by simp [FL,hl2],rfl,v',rfl⟩⟩
   ·subst hr;subst hL
    (refine Ap rfl rfl<|Ap rfl rfl<|AK<|Ae rfl<|Aa<|Ao ?_)
    exact CF (L':=[g2,bx b T [v2]]) rfl rfl (Acb _) ⟨rfl,.inr ⟨l.take x.toNat,l.drop x.toNat,u2,v2,g2,by simp [FL];omega,rfl,rfl,hg2,hv2'⟩⟩
def JZ:List UInt8→Option (Nat×List UInt8)
 |a::b::r=>some (a.toNat*256+b.toNat,r)
 |_=>none
def UB(P:Program) (f:FuncId):Prop:=∀{d:Ac}{b:Nat}{T:TypeId}{v:Value}{l:List UInt8},AM d v l→
 Aw P f [.pointer (some ⟨b,0,none⟩)] d [bx b T [v]] (Ret fun r d' L'=>d'=d∧((JZ l=none∧r=.tuple #[.int .i64 0,.bool false]∧∃v',L'=[bx b T [v']])∨
  (∃x rest v',JZ l=some (x,rest)∧r=.tuple #[.int .i64 (x:Nat),.bool true]∧L'=[bx b T [v']]∧AM d v' rest)))
def UZ(a0:Nat):AY:=⟨23,[(.tmp 2),(.tmp 3)],(sR (o1 2 (.mv (kZ 0))<|o1 3 (.mv (.const (.bool false))) .done) (sR (om 7 0<|oc 8 a0 [(tP 7),(kZ 2)]<|om 6 8<|oe 9 6 0<|oe 10 6 1<|om 4 9<|om 5 10 .done) (.seq (sR (om 11 5<|o1 12 (.un .not (tP 11)) .done) (.cond (tP 12) (sR (o1 2 (.mv (kZ 0))<|o1 3 (.mv (.const (.bool false))) .done) .ret) .skip)) (.seq (.reg true (pm 13 4<|p1 14 (.idx 1 (tP 13) (kZ 0))<|pl 15 14<|p1 16 (.cvi .i64 (tP 15))<|p1 17 (.bin .shl (tP 16) (.const (.int .u64 8)))<|pm 18 4<|p1 19 (.idx 1 (tP 18) (kZ 1))<|pl 20 19<|p1 21 (.cvi .i64 (tP 20))<|p1 22 (.bin .or (tP 17) (tP 21)) (.bar (pm 2 22 (p1 3 (.mv (.const (.bool true))) .done))))) .ret))))⟩
theorem Aau{P:Program}{f f1:FuncId} (hd:dec P f=some (UZ f1)) (h1:FM P f1):UB P f:=by
 intro d b T v l hv
 refine AG hd (Aca rfl) ?_
 show gwp P _ _ _ _ _
 (refine Ad<|Ab rfl<|Ae rfl<|Aa<|Ad<|Ak rfl ?_)
 refine Fa 1 rfl (h1 hv 2 (by omega)) (fun r d1 L1 _ ⟨hdd,hr⟩=>?_)
 subst hdd
 rcases hr with ⟨hl,hr,hL⟩|⟨hl,u,v',g,hr,hL,hg,hv'⟩
 ·subst hr;subst hL
  have hk:JZ l=none:=by
   match l,hl with
   |[],_=>rfl
   |[a],_=>rfl
  (refine AU rfl<|Ap rfl rfl<|Ap rfl rfl<|Am rfl<|Ae rfl<|Aa<|Ah<|Ad<|Ae rfl<|Bj rfl<|Aa<|Be rfl<|Ad<|Ab rfl<|Ae rfl<|Aa<|Ao ?_)
  exact CF (L':=[bx b T [v]]) rfl rfl (Acb _) ⟨rfl,.inl ⟨hk,rfl,v,rfl⟩⟩
 ·subst hr;subst hL
  match l,hl,hg,hv' with
  |x::y::l,hl,hg,hv'=>
   have hx:x.toNat<256:=UInt8.toNat_lt x
   have hy:y.toNat<256:=UInt8.toNat_lt y
   have hop1:=hg.D9 (m:=1) (by simp)
   obtain⟨gb,gT,gl,gc,e1,rfl,hop⟩:=hg.D9 (m:=0) (by simp)
   subst e1
   have hg0:gl[0]?=some (Az x):=by simpa using hop.2.1
   have hg1:gl[1]?=some (Az y):=by
    obtain⟨gb1,gT1,gl1,gc1,e2,e3,hop1⟩:=hop1
    have h4:=congrFun (congrFun e3 gb1) (.cells gl1.toArray gT1 (0,0))
    have h5:bx gb1 gT1 gl1 gb1 (.cells gl1.toArray gT1 (0,0)):=Cy _ _
    rw [←h4] at h5
    have h6:=(GR h5).2
    simp only [Obj.cells.injEq] at h6
    have h7:gl1=gl:=by have:=congrArg Array.toList h6.1;simpa using this
    rw [←h7];simpa using hop1.2.1
   (refine AU rfl<|Ap rfl rfl<|Ap rfl rfl<|Am rfl<|Ae rfl<|Aa<|Ah<|Ad<|Ae rfl<|Bj rfl<|Aa<|AR rfl<|Al<|Ah<|Bv<|Am rfl ?_)
   refine Kj 0 rfl rfl rfl (by simp) ?_
   (apply Ag;rfl;exact Aj 0 rfl hg0)
   (apply Eh;rfl;omega;omega)
   refine RM (a:=x.toNat) rfl rfl (by omega) ?_
   (apply Am;rfl)
   refine Kj 1 rfl rfl rfl (by simp) ?_
   (apply Ag;rfl;exact Aj 0 rfl hg1)
   (apply Eh;rfl;omega;omega)
   refine QE (a:=x.toNat) (b:=y.toNat) rfl rfl (by omega) hy ?_
   (refine B4<|Ab rfl<|Ae rfl<|Aa<|Ao ?_)
   exact CF (L':=[bx b T [v']]) rfl rfl (Acz _ _) ⟨rfl,.inr ⟨_,l,v',rfl,rfl,rfl,hv'⟩⟩
section
def CG(lf:Bool) (l0:List UInt8) (is0:List Int):Nat→Option (List (List UInt8)×List (List UInt8)×List Int×List UInt8)
 |0=>some ([],[],is0,l0)
 |k+1=>match CG lf l0 is0 k with
  |none=>none
  |some (ks,vs,is,l)=>match FL l with
   |none=>none
   |some (x,l1)=>match lf with
    |true=>match FL l1 with
     |none=>none
     |some (y,l2)=>some (ks++[x],vs++[y],is,l2)
    |false=>match JZ l1 with
     |none=>none
     |some (m,l2)=>some (ks++[x],vs,is++[(m:Int)],l2)
theorem SO{lf:Bool}{l0:List UInt8}{is0:List Int}{k:Nat} (h:CG lf l0 is0 k=none):∀{m:Nat},k≤m→CG lf l0 is0 m=none:=by
 intro m hm
 induction hm with
 |refl=>exact h
 |step _ ih=>simp [CG,ih]
def FN(lf:Bool) (l:List UInt8):Option (List Int×List UInt8):=match lf with
 |true=>some ([],l)
 |false=>match JZ l with
  |none=>none
  |some (m,r)=>some ([(m:Int)],r)
def E5(b:List UInt8):Option AF:=
 match FN (b.getD 0 0==1) (b.drop 2) with
 |none=>none
 |some (is0,l0)=>match CG (b.getD 0 0==1) l0 is0 (b.getD 1 0).toNat with
  |none=>none
  |some (ks,vs,is,_)=>some ⟨b.getD 0 0==1,ks,vs,is⟩
theorem N3{lf:Bool}{l0:List UInt8}{is0:List Int}:∀{k:Nat}{ks vs is l},CG lf l0 is0 k=some (ks,vs,is,l)→ks.length=k∧vs.length≤k∧is.length≤is0.length+k:=by
 intro k
 induction k with
 |zero=>intro ks vs is l h;simp only [CG,Option.some.injEq,Prod.mk.injEq] at h;obtain⟨rfl,rfl,rfl,rfl⟩:=h;simp
 |succ k ih=>
  intro ks vs is l h
  simp only [CG] at h
  split at h
  ·cases h
  ·rename_i ks' vs' is' l' e
   have:=ih e
   split at h
   ·cases h
   ·split at h
    ·split at h
     ·cases h
     ·simp only [Option.some.injEq,Prod.mk.injEq] at h;obtain⟨rfl,rfl,rfl,rfl⟩:=h;simp;omega
    ·split at h
     ·cases h
     ·simp only [Option.some.injEq,Prod.mk.injEq] at h;obtain⟨rfl,rfl,rfl,rfl⟩:=h;simp;omega
def OB(d:Ac) (v:Value) (xs:List (List UInt8)) (h0:Ac) (hs:List Ac):Prop:=∃us,BM 1 v xs.length us h0∧hs.length=xs.length∧∀i (hi:i<xs.length),∃u g,us[i]?=some u∧hs[i]?=some g∧As 1 AP d u xs[i] g
theorem OB.nil{d:Ac}:OB d (.slice none 0 0) [] emp []:=⟨[],BM.nil 1,rfl,fun i hi=>absurd hi (Afm i)⟩
theorem OB.Xd{d:Ac}{v:Value}{xs:List (List UInt8)}{h0:Ac}{hs:List Ac} (o:OB d v xs h0 hs):Dg d v xs (h0::hs):=let ⟨us,a,b,c⟩:=o;⟨us,h0,hs,a,b,c,rfl⟩
theorem OB.val{d:Ac}{v:Value}{xs:List (List UInt8)}{h0:Ac}{hs:List Ac} (o:OB d v xs h0 hs):∃a c,v=.slice a xs.length c:=o.Xd.val
section
variable {P:Program}{pan:List PanicEntry→AS}{Qn:Env→AS}{Ls L:List Ac}{ρ:Env}{d:Ac}{s:GS}{t:Nat}
theorem TR{by_:Nat}{z:List Value}{x y:Operand} (i:Nat) {v:Value}{xs:List (List UInt8)}{h0:Ac}{hs:List Ac}{b:Nat}{T:TypeId}{u:Value}{g:Ac}{l:List UInt8} (ex:ev ρ x=v) (hi:L[i]?=some h0) (o:OB d v xs h0 hs)
  (ey:ev ρ y=.slice (some ⟨b,0,none⟩) 1 1) (og:As 1 AP d u l g) (hm:xs.length+1≤140737488355328) (hb:(xs.length+1)*by_≤140737488355328)
  (k:∀v' h',OB d v' (xs++[l]) h' (hs++[g])→gws P pan Qn s Ls (upd ρ t v') d (L.set i h')):gws P pan Qn (.op false ⟨some t,none,.app 1 by_ z x y⟩ s) Ls ρ d (bx b T [u]::L):=by
 obtain⟨us,o1,o2,o3⟩:=o
 have hul:=o1.1
 obtain⟨a,c,rfl⟩:=og.val
 refine TZ i ex hi o1 ey rfl rfl (by omega) hm hb (fun v' h' o'=>k v' h' ⟨us++[.slice a l.length c],by simpa using o',by simp [o2],fun j hj=>?_⟩)
 by_cases e:j<xs.length
 ·obtain⟨u',g',e1,e2,e3⟩:=o3 j e
  exact⟨u',g',by rw [Aed (by omega)];exact e1,by rw [Aed (by omega)];exact e2,by rw [Agi e];exact e3⟩
 ·obtain rfl:j=xs.length:=by simp at hj;omega
  exact⟨.slice a l.length c,g,by rw [Aeb (by omega),hul,Aen,Afy];rfl,by rw [Aeb (by omega),o2,Afy];rfl,by rw [Agd (Ach _)];simpa using og⟩
end
theorem Tc{l r:List UInt8}{x:Nat} (h:JZ l=some (x,r)):x≤65535:=by
 match l,h with
 |a::b::l,h=>
  simp only [JZ,Option.some.injEq,Prod.mk.injEq] at h
  have:=a.toNat_lt
  have:=b.toNat_lt
  omega
def Pe(P:Program) (f:FuncId):Prop:=∀{d:Ac}{v:Value}{l:List UInt8},AM d v l→2≤l.length→
 Aw P f [v] d [] (Ret fun r d' L'=>d'=d∧((∃cs:List Value,E5 l=none∧r=.tuple #[.agg cs.toArray,.bool false]∧cs.length=4∧(cs.all (·.oneCell'))=true∧L'=[])∨
  (∃(cs:List Value) (n:AF),E5 l=some n∧r=.tuple #[.agg cs.toArray,.bool true]∧DK d cs n L')))
def QR(a0 a1:Nat):AY:=⟨85,[(.cell 2 (some 4)),(.tmp 3)],(sR (o1 2 (.alo (.agg #[(.bool false),(.slice none 0 0),(.slice none 0 0),(.slice none 0 0)]))<|o1 3 (.mv (.const (.bool false))) .done) (sR (om 14 0<|o1 15 (.idx 1 (tP 14) (kZ 0))<|ol 16 15<|ob 17 .eql (tP 16) (.const (.int .u8 1))<|o1 18 (.bld [(0,1),(1,1),(2,1),(3,1)] [(.bool false),(.slice none 0 0),(.slice none 0 0),(.slice none 0 0)] [(0,(tP 17))])<|o1 4 (.alo (.agg #[(.bool false),(.slice none 0 0),(.slice none 0 0),(.slice none 0 0)]))<|o0 (.st 4 (tP 4) (tP 18)) .done) (sR (om 19 0<|o1 20 (.sl 1 (tP 19) (some (kZ 2)) none none)<|o1 5 (.alo (.slice none 0 0))<|o0 (.st 1 (tP 5) (tP 20)) .done) (.seq (sR (oj 21 0 4<|ol 22 21<|o1 23 (.un .not (tP 22)) .done) (.cond (tP 23) (sR (oc 25 a0 [(tP 5)]<|om 24 25<|oe 26 24 0<|oe 27 24 1<|om 6 26<|om 7 27 .done) (.seq (sR (om 28 7<|o1 29 (.un .not (tP 28)) .done) (.cond (tP 29) (sR (o1 30 (.ld (some 4) (tP 4))<|o0 (.st 4 (tP 2) (tP 30))<|o1 3 (.mv (.const (.bool false))) .done) .ret) .skip)) (rG (oj 31 3 4<|ol 32 31<|om 33 6<|o1 34 (.bsl 1 1 [(.int .i64 0)] [(0,(tP 33))])<|o1 35 (.app 1 8 [(.int .i64 0)] (tP 32) (tP 34))<|oj 36 3 4<|o0 (.st 1 (tP 36) (tP 35)) .done)))) .skip)) (.seq (sR (om 37 0<|o1 38 (.idx 1 (tP 37) (kZ 1))<|ol 39 38<|o1 40 (.mv (.const (.int .u8 0))) .done) (.block 0 (.loop (sR (ob 41 .lss (tP 40) (tP 39) .done) (.seq (.cond (tP 41) .skip (.exit 0)) (.seq (.block 1 (sR (oc 43 a1 [(tP 5)]<|om 42 43<|oe 44 42 0<|oe 45 42 1<|om 8 44<|om 9 45 .done) (.seq (sR (om 46 9<|o1 47 (.un .not (tP 46)) .done) (.cond (tP 47) (sR (o1 48 (.ld (some 4) (tP 4))<|o0 (.st 4 (tP 2) (tP 48))<|o1 3 (.mv (.const (.bool false))) .done) .ret) .skip)) (sR (oj 49 1 4<|ol 50 49<|om 51 8<|o1 52 (.bsl 1 1 [(.slice none 0 0)] [(0,(tP 51))])<|o1 53 (.app 1 24 [(.slice none 0 0)] (tP 50) (tP 52))<|oj 54 1 4<|o0 (.st 1 (tP 54) (tP 53)) .done) (sR (oj 55 0 4<|ol 56 55 .done) (.cond (tP 56) (sR (oc 58 a1 [(tP 5)]<|om 57 58<|oe 59 57 0<|oe 60 57 1<|om 10 59<|om 11 60 .done) (.seq (sR (om 61 11<|o1 62 (.un .not (tP 61)) .done) (.cond (tP 62) (sR (o1 63 (.ld (some 4) (tP 4))<|o0 (.st 4 (tP 2) (tP 63))<|o1 3 (.mv (.const (.bool false))) .done) .ret) .skip)) (rG (oj 64 2 4<|ol 65 64<|om 66 10<|o1 67 (.bsl 1 1 [(.slice none 0 0)] [(0,(tP 66))])<|o1 68 (.app 1 24 [(.slice none 0 0)] (tP 65) (tP 67))<|oj 69 2 4<|o0 (.st 1 (tP 69) (tP 68)) .done)))) (sR (oc 71 a0 [(tP 5)]<|om 70 71<|oe 72 70 0<|oe 73 70 1<|om 12 72<|om 13 73 .done) (.seq (sR (om 74 13<|o1 75 (.un .not (tP 74)) .done) (.cond (tP 75) (sR (o1 76 (.ld (some 4) (tP 4))<|o0 (.st 4 (tP 2) (tP 76))<|o1 3 (.mv (.const (.bool false))) .done) .ret) .skip)) (rG (oj 77 3 4<|ol 78 77<|om 79 12<|o1 80 (.bsl 1 1 [(.int .i64 0)] [(0,(tP 79))])<|o1 81 (.app 1 8 [(.int .i64 0)] (tP 78) (tP 80))<|oj 82 3 4<|o0 (.st 1 (tP 82) (tP 81)) .done)))))))))) (rG (ob 83 .add (tP 40) (.const (.int .u8 1))<|om 40 83 .done)))))))) (sR (o1 84 (.ld (some 4) (tP 4))<|o0 (.st 4 (tP 2) (tP 84))<|o1 3 (.mv (.const (.bool true))) .done) .ret))))))⟩
set_option maxHeartbeats 1000000 in
theorem XI{P:Program}{f f1 f2:FuncId} (hd:dec P f=some (QR f1 f2)) (h1:UB P f1) (h2:O4 P f2):Pe P f:=by
 intro d v l hv hl
 refine AG hd (Aca rfl) ?_
 have hll:=AM.BW hv
 obtain⟨lf,hlf⟩:∃lf:Bool,lf=(l.getD 0 0==1):=⟨_,rfl⟩
 have hlf':decide (((l[0]'(by omega)).toNat:Int)=1)=lf:=by
  rw [hlf]
  have:l.getD 0 0=l[0]'(by omega):=by simp [show 0<l.length by omega]
  rw [this,Agx]
  simp only [decide_eq_true_eq,beq_iff_eq]
  constructor
  ·intro h;exact UInt8.toNat_inj.1 (by simpa using (by omega:(l[0]'(by omega)).toNat=1))
  ·intro h;rw [h];rfl
 show gwp P _ _ _ _ _
 (refine Ad<|DI (fun _ _=>Ae rfl<|Aa<|Ad<|AK<|BH (m:=0) (sz:=1) (R:=AP) (by rfl) (by assumption) (by rfl) rfl (by omega) ?_);rintro _ _ _ _ _ rfl;refine Ag rfl (B5 (by assumption) rfl)<|AJ rfl rfl<|BI rfl<|DI (fun _ _=>?_))
 rw [hlf']
 skip
 rename_i b2 T2 _ _ _ _ b4 T4
 refine BN 0 rfl rfl rfl rfl (by simp [Value.cells]) rfl ?_
 (refine Aa<|Ad<|AK ?_)
 refine ED rfl hv rfl rfl hl (fun lv hlv=>?_)
 obtain⟨la,lc,rfl⟩:=RSl.val hlv
 (apply DI;intro _ _)
 rename_i b5 T5
 refine BN 0 rfl rfl rfl rfl (by simp [Value.cells]) rfl ?_
 refine UX d [bx b5 T5 [.slice la (l.drop 2).length lc],bx b4 T4 [.bool lf,.slice none 0 0,.slice none 0 0,.slice none 0 0],bx b2 T2 [.bool false,.slice none 0 0,.slice none 0 0,.slice none 0 0],emp,emp,emp] ((Vs.emp.trans (Vs.emp.trans Vs.emp)).trans (Vs.pick [3,4,5,0,1,2] rfl)) ?_
 refine FX (fun ρ d' L'=>d'=d∧BD ρ [(0,v),(2,.pointer (some ⟨b2,0,none⟩)),(4,.pointer (some ⟨b4,0,none⟩)),(5,.pointer (some ⟨b5,0,none⟩))]∧∃is0 l0 ia ic lv hi,FN lf (l.drop 2)=some (is0,l0)∧is0.length≤1∧As 1 Bi d (.slice ia is0.length ic) is0 hi∧AM d lv l0∧L'=[bx b5 T5 [lv],bx b4 T4 [.bool lf,.slice none 0 0,.slice none 0 0,.slice ia is0.length ic],bx b2 T2 [.bool false,.slice none 0 0,.slice none 0 0,.slice none 0 0],emp,emp,hi]) ?_ ?_
 ·cases lf with
  |true=>
   (refine Ad<|Ai rfl<|Ag rfl (Aj 1 rfl rfl)<|Bj rfl<|Aa<|AR rfl<|Al ?_)
   exact⟨rfl,⟨rfl,rfl,rfl,rfl,trivial⟩,[],l.drop 2,none,0,_,emp,rfl,by simp,As.nil,hlv,rfl⟩
  |false=>
   (refine Ad<|Ai rfl<|Ag rfl (Aj 1 rfl rfl)<|Bj rfl<|Aa<|Be rfl<|Ad ?_)
   refine Fa 1 rfl (h1 hlv) (fun r d1 L1 _ ⟨hdd,hr⟩=>?_)
   subst hdd
   rcases hr with ⟨hk,hr,v',hL⟩|⟨x,rest,v',hk,hr,hL,hv'⟩
   ·subst hr;subst hL
    (refine AU rfl<|Ap rfl rfl<|Ap rfl rfl<|Ab rfl<|Ae rfl<|Aa<|Ah<|Ad<|Ae rfl<|Bj rfl<|Aa<|Be rfl<|Ad<|Bg 1 rfl rfl rfl ?_)
    refine BN 2 rfl rfl rfl rfl (by simp) rfl ?_
    (refine Ae rfl<|Aa<|Ao ?_)
    exact EF [.agg [.bool false,.slice none 0 0,.slice none 0 0,.slice none 0 0].toArray,.bool false] ⟨AT 2 rfl rfl rfl,Au rfl,trivial⟩ (Aef _) ⟨rfl,.inl ⟨_,by simp only [E5,←hlf];simp [FN,hk],rfl,rfl,rfl,rfl⟩⟩
   ·subst hr;subst hL
    (refine AU rfl<|Ap rfl rfl<|Ap rfl rfl<|Ab rfl<|Ae rfl<|Aa<|Ah<|Ad<|Ae rfl<|Bj rfl<|Aa<|AR rfl<|Al<|AE<|Ai rfl<|Ag rfl (Aj 1 rfl rfl)<|Ab rfl ?_)
    refine Dn (cs:=[.int .i64 (x:Nat)]) (by omega) rfl (fun b8 T8=>?_)
    have hx:=Tc hk
    refine D8 (R:=Bi) (xs:=[]) 5 rfl rfl As.nil rfl (As.Es rfl ⟨rfl,by omega,by omega⟩) Di (by omega) (by simp) (by simp) (fun v8 h8 o8=>?_)
    obtain⟨a8,c8,rfl⟩:=o8.val
    (apply Ai;rfl)
    refine BN 1 rfl rfl rfl rfl (by simp) rfl ?_
    (apply Aa)
    exact⟨rfl,⟨rfl,rfl,rfl,rfl,trivial⟩,[(x:Int)],rest,a8,c8,v',h8,by simp [FN,hk],by simp,o8,hv',rfl⟩
 ·rintro ρ d' L' ⟨hdd,hsl,is0,l0,ia,ic,lv,hi,hst,his,oi,hlv,hL⟩
  subst hdd;subst hL
  refine Dl _ hsl ?_
  (refine Ah<|Ad<|AK<|BH (sz:=1) (R:=AP) (by rfl) (by assumption) (by rfl) (Int.natCast_add _ 1).symm (by omega) ?_;rintro _ _ _ _ _ rfl;refine Ag rfl (B5 (by assumption) rfl)<|Ab rfl<|Aa<|Ax ?_)
  have hm:=UInt8.toNat_lt (l[1]'hl)
  have hg1:l.getD 1 0=l[1]'hl:=by simp [show 1<l.length by omega]
  have hpn:∀k,k≤(l[1]'hl).toNat→CG lf l0 is0 k=none→E5 l=none:=by
   intro k hk h
   simp only [E5,←hlf,hst,hg1,SO h hk]
  refine CI (α:=Nat) (fun k=>[(2,.pointer (some ⟨b2,0,none⟩)),(4,.pointer (some ⟨b4,0,none⟩)),(5,.pointer (some ⟨b5,0,none⟩)),(39,Az (l[1]'hl)),(40,.int .u8 k)])
   (fun k d1 L'=>d'=d1∧k≤(l[1]'hl).toNat∧∃ks vs is l' ka kc va vc ia ic lv hk hks hv hvs hi,CG lf l0 is0 k=some (ks,vs,is,l')∧OB d' (.slice ka ks.length kc) ks hk hks∧OB d' (.slice va vs.length vc) vs hv hvs∧As 1 Bi d' (.slice ia is.length ic) is hi∧AM d' lv l'∧
    L'=[bx b5 T5 [lv],bx b4 T4 [.bool lf,.slice ka ks.length kc,.slice va vs.length vc,.slice ia is.length ic],bx b2 T2 [.bool false,.slice none 0 0,.slice none 0 0,.slice none 0 0],hk,hv,hi]++(hks++hvs)) (fun k=>(l[1]'hl).toNat - k) 0
   ⟨rfl,rfl,rfl,rfl,rfl,trivial⟩ ⟨rfl,Adf _,[],[],is0,l0,none,0,none,0,ia,ic,lv,emp,[],emp,[],hi,rfl,OB.nil,OB.nil,oi,hlv,rfl⟩ ?_
  clear hlv oi
  rintro k ρ d1 L' ⟨hdd,hk,ks,vs,is,l',ka,kc,va,vc,ia,ic,lv,hkb,hks,hvb,hvs,hi,hit,ok,ov,oi,hlv,hL⟩
  subst hdd;subst hL
  have hlen:=N3 hit
  (refine Ad<|AA rfl rfl<|Aa<|Ah ?_)
  first|refine Hq rfl (fun hc=>?_) (fun hc=>?_)|refine JR rfl (fun hc=>?_) (fun hc=>?_)
  ·have hk1:k<(l[1]'hl).toNat:=by omega
   (refine Al<|Ah<|Ax<|Ad ?_)
   refine Fa 1 rfl (h2 hlv) (fun r d1 L1 _ ⟨hdd,hr⟩=>?_)
   subst hdd
   rcases hr with ⟨hp,hr,v',hL⟩|⟨x,l1,u,v',g,hp,hr,hL,og,hlv1⟩
   ·subst hr;subst hL
    (refine AU rfl<|Ap rfl rfl<|Ap rfl rfl<|Am rfl<|Ae rfl<|Aa<|Ah<|Ad<|Ae rfl<|Bj rfl<|Aa<|Be rfl<|Ad<|Bg 1 rfl rfl rfl ?_)
    refine BN 2 rfl rfl rfl rfl (by simp) rfl ?_
    (refine Ae rfl<|Aa<|Ao ?_)
    exact EF [.agg [.bool lf,.slice ka ks.length kc,.slice va vs.length vc,.slice ia is.length ic].toArray,.bool false] ⟨AT 2 rfl rfl rfl,Au rfl,trivial⟩ (Aef _) ⟨rfl,.inl ⟨_,hpn (k+1) (by omega) (by simp [CG,hit,hp]),rfl,rfl,rfl,rfl⟩⟩
   ·subst hr;subst hL
    obtain⟨ua,uc,rfl⟩:=og.val
    (refine AU rfl<|Ap rfl rfl<|Ap rfl rfl<|Am rfl<|Ae rfl<|Aa<|Ah<|Ad<|Ae rfl<|Bj rfl<|Aa<|AR rfl<|Al<|Ad<|Ai rfl<|Ag rfl (Aj 2 rfl rfl)<|Am rfl ?_)
    refine Dn (cs:=[.slice ua x.length uc]) (by omega) rfl (fun b8 T8=>?_)
    refine TR 4 rfl rfl ok rfl og (by omega) (by omega) (fun v8 h8 ok'=>?_)
    obtain⟨a8,c8,rfl⟩:=ok'.val
    (apply Ai;rfl)
    refine BN 2 rfl rfl rfl rfl (by simp) rfl ?_
    refine UX _ ([bx b5 T5 [v'],bx b4 T4 [.bool lf,.slice a8 (ks++[x]).length c8,.slice va vs.length vc,.slice ia is.length ic],bx b2 T2 [.bool false,.slice none 0 0,.slice none 0 0,.slice none 0 0],h8,hvb,hi]++((hks++[g])++hvs)) (Vs.Rg [[g],[bx b5 T5 [v']],[bx b4 T4 [.bool lf,.slice a8 (ks++[x]).length c8,.slice va vs.length vc,.slice ia is.length ic]],[bx b2 T2 [.bool false,.slice none 0 0,.slice none 0 0,.slice none 0 0]],[h8],[hvb],[hi],hks,hvs] [1,2,3,4,5,6,7,0,8] [] rfl rfl (by simp)) ?_
    cases lf with
    |true=>
     (refine Ad<|Ai rfl<|Ag rfl (Aj 1 rfl rfl)<|Aa<|Be rfl<|Ad ?_)
     refine Fa 1 rfl (h2 hlv1) (fun r d1 L1 _ ⟨hdd,hr⟩=>?_)
     subst hdd
     rcases hr with ⟨hp2,hr,v2,hL⟩|⟨y,l2,u2,v2,g2,hp2,hr,hL,og2,hlv2⟩
     ·subst hr;subst hL
      (refine AU rfl<|Ap rfl rfl<|Ap rfl rfl<|Am rfl<|Ae rfl<|Aa<|Ah<|Ad<|Ae rfl<|Bj rfl<|Aa<|Be rfl<|Ad<|Bg 1 rfl rfl rfl ?_)
      refine BN 2 rfl rfl rfl rfl (by simp) rfl ?_
      (refine Ae rfl<|Aa<|Ao ?_)
      exact EF [.agg [.bool true,.slice a8 (ks++[x]).length c8,.slice va vs.length vc,.slice ia is.length ic].toArray,.bool false] ⟨AT 2 rfl rfl rfl,Au rfl,trivial⟩ (Aef _) ⟨rfl,.inl ⟨_,hpn (k+1) (by omega) (by simp [CG,hit,hp,hp2]),rfl,rfl,rfl,rfl⟩⟩
     ·subst hr;subst hL
      obtain⟨ua2,uc2,rfl⟩:=og2.val
      (refine AU rfl<|Ap rfl rfl<|Ap rfl rfl<|Am rfl<|Ae rfl<|Aa<|Ah<|Ad<|Ae rfl<|Bj rfl<|Aa<|AR rfl<|Al<|AE<|Ai rfl<|Ag rfl (Aj 2 rfl rfl)<|Am rfl ?_)
      refine Dn (cs:=[.slice ua2 y.length uc2]) (by omega) rfl (fun b9 T9=>?_)
      refine TR 5 rfl rfl ov rfl og2 (by omega) (by omega) (fun v9 h9 ov'=>?_)
      obtain⟨a9,c9,rfl⟩:=ov'.val
      (apply Ai;rfl)
      refine BN 2 rfl rfl rfl rfl (by simp) rfl ?_
      refine UX _ ([bx b5 T5 [v2],bx b4 T4 [.bool true,.slice a8 (ks++[x]).length c8,.slice a9 (vs++[y]).length c9,.slice ia is.length ic],bx b2 T2 [.bool false,.slice none 0 0,.slice none 0 0,.slice none 0 0],h8,h9,hi]++((hks++[g])++(hvs++[g2]))) (Vs.Rg [[g2],[bx b5 T5 [v2]],[bx b4 T4 [.bool true,.slice a8 (ks++[x]).length c8,.slice a9 (vs++[y]).length c9,.slice ia is.length ic]],[bx b2 T2 [.bool false,.slice none 0 0,.slice none 0 0,.slice none 0 0]],[h8],[h9],[hi],hks++[g],hvs] [1,2,3,4,5,6,7,8,0] [] rfl rfl (by simp)) ?_
      (apply AE)
      refine WI rfl rfl (by omega) (by omega) ?_
      (refine Ab rfl<|Aa ?_)
      exact⟨k+1,by omega,⟨rfl,rfl,rfl,rfl,int_eq (by omega),trivial⟩,rfl,hk1,ks++[x],vs++[y],is,l2,a8,c8,a9,c9,ia,ic,v2,h8,hks++[g],h9,hvs++[g2],hi,by simp [CG,hit,hp,hp2],ok',ov',oi,hlv2,rfl⟩
    |false=>
     (refine Ad<|Ai rfl<|Ag rfl (Aj 1 rfl rfl)<|Aa<|AR rfl<|Ad ?_)
     refine Fa 1 rfl (h1 hlv1) (fun r d1 L1 _ ⟨hdd,hr⟩=>?_)
     subst hdd
     rcases hr with ⟨hp2,hr,v2,hL⟩|⟨y,l2,v2,hp2,hr,hL,hlv2⟩
     ·subst hr;subst hL
      (refine AU rfl<|Ap rfl rfl<|Ap rfl rfl<|Ab rfl<|Ae rfl<|Aa<|Ah<|Ad<|Ae rfl<|Bj rfl<|Aa<|Be rfl<|Ad<|Bg 1 rfl rfl rfl ?_)
      refine BN 2 rfl rfl rfl rfl (by simp) rfl ?_
      (refine Ae rfl<|Aa<|Ao ?_)
      exact EF [.agg [.bool false,.slice a8 (ks++[x]).length c8,.slice va vs.length vc,.slice ia is.length ic].toArray,.bool false] ⟨AT 2 rfl rfl rfl,Au rfl,trivial⟩ (Aef _) ⟨rfl,.inl ⟨_,hpn (k+1) (by omega) (by simp [CG,hit,hp,hp2]),rfl,rfl,rfl,rfl⟩⟩
     ·subst hr;subst hL
      have hy:=Tc hp2
      (refine AU rfl<|Ap rfl rfl<|Ap rfl rfl<|Ab rfl<|Ae rfl<|Aa<|Ah<|Ad<|Ae rfl<|Bj rfl<|Aa<|AR rfl<|Al<|AE<|Ai rfl<|Ag rfl (Aj 1 rfl rfl)<|Ab rfl ?_)
      refine Dn (cs:=[.int .i64 (y:Nat)]) (by omega) rfl (fun b9 T9=>?_)
      refine D8 (R:=Bi) 5 rfl rfl oi rfl (As.Es rfl ⟨rfl,by omega,by omega⟩) Di (by omega) (by simp;omega) (by simp;omega) (fun v9 h9 oi'=>?_)
      obtain⟨a9,c9,rfl⟩:=oi'.val
      (apply Ai;rfl)
      refine BN 1 rfl rfl rfl rfl (by simp) rfl ?_
      (refine Aa<|AE ?_)
      refine WI rfl rfl (by omega) (by omega) ?_
      (refine Ab rfl<|Aa ?_)
      exact⟨k+1,by omega,⟨rfl,rfl,rfl,rfl,int_eq (by omega),trivial⟩,rfl,hk1,ks++[x],vs,is++[(y:Int)],l2,a8,c8,va,vc,a9,c9,v2,h8,hks++[g],hvb,hvs,h9,by simp [CG,hit,hp,hp2],ok',ov,oi',hlv2,rfl⟩
  ·obtain rfl:k=(l[1]'hl).toNat:=by omega
   (refine Bh<|Ad<|Bg 1 rfl rfl rfl ?_)
   refine BN 2 rfl rfl rfl rfl (by simp) rfl ?_
   (refine Ae rfl<|Aa<|Ao ?_)
   refine A7 [.agg [.bool lf,.slice ka ks.length kc,.slice va vs.length vc,.slice ia is.length ic].toArray,.bool true] (L':=(hkb::hks)++(hvb::hvs)++[hi]) ⟨AT 2 rfl rfl rfl,Au rfl,trivial⟩ (Vs.Rg [[bx b5 T5 [lv]],[bx b4 T4 [.bool lf,.slice ka ks.length kc,.slice va vs.length vc,.slice ia is.length ic]],[bx b2 T2 [.bool lf,.slice ka ks.length kc,.slice va vs.length vc,.slice ia is.length ic]],[hkb],[hvb],[hi],hks,hvs] [3,6,4,7,5] [0,1,2] rfl rfl (by simp)) ⟨rfl,.inr ⟨_,⟨lf,ks,vs,is⟩,?_,rfl,_,_,_,_,_,_,rfl,ok.Xd,ov.Xd,oi,rfl⟩⟩
   simp only [E5,←hlf,hst,hg1,hit]
end
def JO:AF:=⟨false,[],[],[]⟩
def BJ(b:List UInt8):Option AF:=if b.length=256 then
  match E5 b with
  |some n=>if By n=true∧B6 n=b then some n else none
  |none=>none
 else none
theorem Qd{l x r:List UInt8} (h:FL l=some (x,r)):x.length≤255:=by
 match l,h with
 |a::l,h=>
  simp only [FL] at h
  split at h
  ·cases h
  ·simp only [Option.some.injEq,Prod.mk.injEq] at h
   obtain⟨rfl,_⟩:=h
   have:=a.toNat_lt
   simp;omega
theorem Rs{lf:Bool}{l0:List UInt8}{is0:List Int}:∀{k:Nat}{ks vs is l},CG lf l0 is0 k=some (ks,vs,is,l)→(∀x∈ks,x.length≤255)∧(∀x∈vs,x.length≤255):=by
 intro k
 induction k with
 |zero=>intro ks vs is l h;simp only [CG,Option.some.injEq,Prod.mk.injEq] at h;obtain⟨rfl,rfl,rfl,rfl⟩:=h;simp
 |succ k ih=>
  intro ks vs is l h
  simp only [CG] at h
  split at h
  ·cases h
  ·rename_i ks' vs' is' l' e
   have:=ih e
   split at h
   ·cases h
   ·rename_i x l1 hp
    have hx:=Qd hp
    split at h
    ·split at h
     ·cases h
     ·rename_i y l2 hp2
      have hy:=Qd hp2
      simp only [Option.some.injEq,Prod.mk.injEq] at h;obtain⟨rfl,rfl,rfl,rfl⟩:=h
      refine⟨fun z hz=>?_,fun z hz=>?_⟩
      ·rcases Ack.1 hz with hz|hz
       ·exact this.1 z hz
       ·rw [Acv.1 hz];exact hx
      ·rcases Ack.1 hz with hz|hz
       ·exact this.2 z hz
       ·rw [Acv.1 hz];exact hy
    ·split at h
     ·cases h
     ·simp only [Option.some.injEq,Prod.mk.injEq] at h;obtain⟨rfl,rfl,rfl,rfl⟩:=h
      refine⟨fun z hz=>?_,this.2⟩
      rcases Ack.1 hz with hz|hz
      ·exact this.1 z hz
      ·rw [Acv.1 hz];exact hx
theorem Ow{l:List (List UInt8)} (h:∀x∈l,x.length≤255) (i:Nat):(l.getD i []).length≤255:=by
 by_cases hi:i<l.length
 ·simp only [Afw,Ace hi,Afo];exact h _ (Ada hi)
 ·simp [Afw,Adq (Ahe hi)]
theorem U5{n:AF} (hk:∀x∈n.keys,x.length≤255) (hv:∀x∈n.vals,x.length≤255):∀k,Bm n k≤1000*k:=by
 intro k
 induction k with
 |zero=>simp [Bm]
 |succ k ih=>
  have h1:=Ow hk k
  have h2:=Ow hv k
  simp only [Bm,DY,Df,ES]
  split<;>omega
theorem UQ{lf:Bool}{l:List UInt8}{is r} (h:FN lf l=some (is,r)):is.length≤1:=by
 cases lf<;>simp only [FN] at h
 ·split at h
  ·cases h
  ·simp only [Option.some.injEq,Prod.mk.injEq] at h;obtain⟨rfl,_⟩:=h;simp
 ·simp only [Option.some.injEq,Prod.mk.injEq] at h;obtain⟨rfl,_⟩:=h;simp
theorem S4{b:List UInt8}{n:AF} (h:E5 b=some n):A5 n≤1000000000000:=by
 simp only [E5] at h
 split at h
 ·cases h
 ·rename_i is0 l0 h0
  split at h
  ·cases h
  ·rename_i ks vs is l hi
   simp only [Option.some.injEq] at h
   subst h
   have h1:=Rs hi
   have h2:=N3 hi
   have h3:=U5 (n:=⟨b.getD 0 0==1,ks,vs,is⟩) h1.1 h1.2 ks.length
   have h4:=(b.getD 1 0).toNat_lt
   have h5:=UQ h0
   simp only [A5]
   split<;>omega
def Q5(P:Program) (f:FuncId):Prop:=∀{d:Ac}{v:Value}{b:List UInt8},AM d v b→
 Aw P f [v] d [] (Ret fun r d' L'=>d'=d∧∃cs,r=.tuple #[.agg cs.toArray,.int .i64 (if (BJ b).isSome then 0 else 200)]∧DK d cs ((BJ b).getD JO) L')
def S8(a0 a1 a2 a3:Nat):AY:=⟨31,[(.cell 2 (some 4)),(.tmp 3)],(sR (o1 2 (.alo (.agg #[(.bool false),(.slice none 0 0),(.slice none 0 0),(.slice none 0 0)]))<|o1 3 (.mv (kZ 0)) .done) (.seq (sR (om 6 0<|oL 7 6<|ob 8 .neq (tP 7) (kZ 256) .done) (.cond (tP 8) (sR (o1 9 (.bld [(0,1),(1,1),(2,1),(3,1)] [(.bool false),(.slice none 0 0),(.slice none 0 0),(.slice none 0 0)] [])<|o0 (.st 4 (tP 2) (tP 9))<|o1 3 (.mv (kZ 200)) .done) .ret) .skip)) (sR (om 11 0<|oc 12 a0 [(tP 11)]<|om 10 12<|oe 13 10 0<|oe 14 10 1<|o1 4 (.alo (.agg #[(.bool false),(.slice none 0 0),(.slice none 0 0),(.slice none 0 0)]))<|o0 (.st 4 (tP 4) (tP 13))<|om 5 14 .done) (.seq (sR (om 15 5<|o1 16 (.un .not (tP 15))<|om 17 16<|oF 18 17 (.ld (some 4) (tP 4))<|oF 19 17 (.call a1 [(tP 18)])<|oF 20 17 (.un .not (tP 19))<|o1 21 (.pick (tP 17) (.const (.bool true)) (tP 20))<|om 22 21<|oF 23 22 (.ld (some 4) (tP 4))<|oF 24 22 (.call a2 [(tP 23)])<|gF 25 22 0<|oF 26 22 (.call a3 [(tP 24),(tP 25)])<|oF 27 22 (.un .not (tP 26))<|o1 28 (.pick (tP 22) (.const (.bool true)) (tP 27)) .done) (.cond (tP 28) (sR (o1 29 (.bld [(0,1),(1,1),(2,1),(3,1)] [(.bool false),(.slice none 0 0),(.slice none 0 0),(.slice none 0 0)] [])<|o0 (.st 4 (tP 2) (tP 29))<|o1 3 (.mv (kZ 200)) .done) .ret) .skip)) (sR (o1 30 (.ld (some 4) (tP 4))<|o0 (.st 4 (tP 2) (tP 30))<|o1 3 (.mv (kZ 0)) .done) .ret)))))⟩
theorem Za{P:Program}{f f1 f2 f3 f4:FuncId} (hd:dec P f=some (S8 f1 f2 f3 f4)) (h1:Pe P f1) (h2:Jh P f2) (h3:NR P f3) (h4:Ma P f4):Q5 P f:=by
 intro d v b hv
 refine AG hd (Aca rfl) ?_
 show gwp P _ _ _ _ _
 (refine Ad<|DI (fun _ _=>Ab rfl<|Aa<|Ah<|Ad<|AK<|BE rfl (by assumption)<|AO rfl rfl<|Aa ?_))
 rename_i b2 T2
 have hbad:∀{ρ:Env}{d':Ac}{L:List Ac},d'=d→BJ b=none→ρ 2=.pointer (some ⟨b2,0,none⟩)→ρ 3=.int .i64 200→(∃i:Nat,L[i]?=some (bx b2 T2 [.bool false,.slice none 0 0,.slice none 0 0,.slice none 0 0]))→
   CA [.cell 2 (some 4),.tmp 3] (Ret fun r d' L'=>d'=d∧∃cs,r=.tuple #[.agg cs.toArray,.int .i64 (if (BJ b).isSome then 0 else 200)]∧DK d cs ((BJ b).getD JO) L') ρ d' L:=by
  intro ρ d' L hdd hr e2 e3 ⟨i,hi⟩
  subst hdd
  refine A7 [.agg [.bool false,.slice none 0 0,.slice none 0 0,.slice none 0 0].toArray,.int .i64 200] (L':=[emp,emp,emp]) ⟨AT i e2 hi rfl,Au e3,trivial⟩ ((Vs.drop (Aef _)).trans (Vs.emp.trans (Vs.emp.trans Vs.emp))) ⟨rfl,[.bool false,.slice none 0 0,.slice none 0 0,.slice none 0 0],?_,?_⟩
  ·rw [hr];rfl
  ·rw [hr];exact DK.zero
 first|refine Hq rfl (fun hc=>?_) (fun hc=>?_)|refine JR rfl (fun hc=>?_) (fun hc=>?_)
 ·(refine Ad<|BI rfl ?_)
  refine BN 0 rfl rfl rfl rfl (by simp [Value.cells]) rfl ?_
  (refine Ab rfl<|Aa<|Ao ?_)
  exact hbad rfl (by simp [BJ,show b.length≠256 by omega]) rfl rfl ⟨0,rfl⟩
 ·have hbl:b.length=256:=by omega
  (refine Al<|Ad<|AK ?_)
  refine Bk rfl (h1 hv (by omega)) (fun r d1 L1 _ ⟨hdd,hr⟩=>?_)
  subst hdd
  rcases hr with ⟨cs,hp,hr,hcl,hc1,hL⟩|⟨cs,n,hp,hr,ho⟩
  ·subst hr;subst hL
   have hcs:∃c1 c2 c3 c4,cs=[c1,c2,c3,c4]:=by
    match cs,hcl with
    |[a,b,c,e],_=>exact⟨a,b,c,e,rfl⟩
   obtain⟨c1,c2,c3,c4,rfl⟩:=hcs
   (refine AU rfl<|Ap rfl rfl<|Ap rfl rfl<|DI (fun _ _=>?_))
   refine BN 0 rfl rfl rfl rfl (by simp [Value.cells]) hc1 ?_
   (refine Ae rfl<|Aa<|Ah<|Ad<|Ae rfl<|Bj rfl<|Ae rfl<|An rfl<|An rfl<|An rfl<|AB rfl rfl<|Ae rfl<|An rfl<|An rfl<|An rfl<|An rfl<|An rfl<|AB rfl rfl<|Aa<|Be rfl<|Ad<|BI rfl ?_)
   refine BN 1 rfl rfl rfl rfl (by simp [Value.cells]) rfl ?_
   (refine Ab rfl<|Aa<|Ao ?_)
   exact hbad rfl (by simp [BJ,hp]) rfl rfl ⟨1,rfl⟩
  ·subst hr
   have ho':=ho
   obtain⟨kv,vv,iv,Lk,Lv,hi,rfl,ok,ov,oi,rfl⟩:=ho'
   obtain⟨ka,kc,rfl⟩:=ok.val
   obtain⟨va,vc,rfl⟩:=ov.val
   obtain⟨ia,ic,rfl⟩:=oi.val
   have hsz:=S4 hp
   refine B9 _ (bx b2 T2 [.bool false,.slice none 0 0,.slice none 0 0,.slice none 0 0]::(Lk++Lv++[hi])) (Vs.perm Aci) ?_
   (refine AU rfl<|Ap rfl rfl<|Ap rfl rfl<|DI (fun _ _=>?_))
   rename_i b4 T4
   refine A0 0 [.bool n.leaf,.slice ka n.keys.length kc,.slice va n.vals.length vc,.slice ia n.kids.length ic] rfl rfl rfl rfl (by simp [Value.cells]) rfl rfl ?_
   (refine Ae rfl<|Aa<|Ah<|Ad<|Ae rfl<|Bj rfl<|Ae rfl<|Af rfl<|Bg 0 rfl rfl rfl<|Af rfl ?_)
   have hrn:∀d2,Le d1 d2→(∀k∈(bx b4 T4 [.bool n.leaf,.slice ka n.keys.length kc,.slice va n.vals.length vc,.slice ia n.kids.length ic]::bx b2 T2 [.bool false,.slice none 0 0,.slice none 0 0,.slice none 0 0]::(Lk++Lv++[hi])),Le k d2)→Cx d2 [.bool n.leaf,.slice ka n.keys.length kc,.slice va n.vals.length vc,.slice ia n.kids.length ic] n:=
    fun d1 hl hk=>ho.Ii hl (fun h hm=>hk h (Acy _ (Acy _ hm)))
   refine Jj rfl (fun d1 hl hk=>h2 (hrn d1 hl hk) hsz) ?_
   cases hr:By n with
   |false=>
    (refine Af rfl<|Bj rfl<|Aq rfl rfl<|Ae rfl<|An rfl<|An rfl<|An rfl<|An rfl<|An rfl<|AB rfl rfl<|Aa<|Be rfl<|Ad<|BI rfl ?_)
    refine A0 1 [.bool false,.slice none 0 0,.slice none 0 0,.slice none 0 0] rfl rfl rfl rfl (by simp) rfl rfl ?_
    (refine Ab rfl<|Aa<|Ao ?_)
    exact hbad rfl (by simp [BJ,hp,hr]) rfl rfl ⟨1,rfl⟩
   |true=>
    have hr':=hr
    simp only [By,Acd,decide_eq_true_eq] at hr'
    (refine Af rfl<|Bj rfl<|Aq rfl rfl<|Ae rfl<|Af rfl<|Bg 0 rfl rfl rfl<|Af rfl ?_)
    refine Jd (Q:=fun r L'=>∃h,L'=[h]∧Ep 256 r (B6 n) h) rfl (fun d1 hl hk=>(h3 (hrn d1 hl hk) hr'.1 hr'.2).mono (fun e d' L' _ h=>by
     cases e with
     |returned v=>exact h
     |panicked c=>exact h
     |outgrown=>exact h)) (fun r L' ⟨h,hL,hrow⟩=>?_)
    subst hL
    (refine Af rfl<|AK<|Af rfl ?_)
    refine Jj rfl (fun d1 hl hk=>h4 (hrow.bytes (hk h (Acu ..)) (by omega)) (hv.mono hl)) ?_
    by_cases hpg:B6 n=b
    ·rw [decide_eq_true hpg]
     (refine Af rfl<|Bj rfl<|Aq rfl rfl<|Aa<|AR rfl<|Al<|Ad<|Bg 1 rfl rfl rfl ?_)
     refine A0 2 [.bool n.leaf,.slice ka n.keys.length kc,.slice va n.vals.length vc,.slice ia n.kids.length ic] rfl rfl rfl rfl (by simp) rfl rfl ?_
     (refine Ab rfl<|Aa<|Ao ?_)
     refine A7 [.agg [.bool n.leaf,.slice ka n.keys.length kc,.slice va n.vals.length vc,.slice ia n.kids.length ic].toArray,.int .i64 0] (L':=Lk++Lv++[hi]) ⟨AT 2 rfl rfl rfl,Au rfl,trivial⟩
      (Vs.drop ((Acz _ _).trans ((Acz _ _).trans (Acz _ _)))) ⟨rfl,[.bool n.leaf,.slice ka n.keys.length kc,.slice va n.vals.length vc,.slice ia n.kids.length ic],?_,?_⟩
     ·have:BJ b=some n:=by simp [BJ,hbl,hp,hr,hpg]
      rw [this];rfl
     ·have:BJ b=some n:=by simp [BJ,hbl,hp,hr,hpg]
      rw [this];exact ho
    ·rw [decide_eq_false hpg]
     (refine Af rfl<|Bj rfl<|Aq rfl rfl<|Aa<|Be rfl<|Ad<|BI rfl ?_)
     refine A0 2 [.bool false,.slice none 0 0,.slice none 0 0,.slice none 0 0] rfl rfl rfl rfl (by simp) rfl rfl ?_
     (refine Ab rfl<|Aa<|Ao ?_)
     exact hbad rfl (by simp [BJ,hp,hpg]) rfl rfl ⟨2,rfl⟩
def OK(b:List UInt8) (a:Int):Option (List UInt8×Nat):=if a<0 then none else
 match b[a.toNat]? with
 |none=>none
 |some k=>if a.toNat+1+k.toNat>b.length then none else some ((b.drop (a.toNat+1)).take k.toNat,a.toNat+1+k.toNat)
theorem Aab{b x:List UInt8}{a:Int}{e:Nat} (h:OK b a=some (x,e)):e≤b.length:=by
 simp only [OK] at h
 split at h
 ·cases h
 ·split at h
  ·cases h
  ·split at h
   ·cases h
   ·simp only [Option.some.injEq,Prod.mk.injEq] at h;omega
def Y5(P:Program) (f:FuncId):Prop:=∀{d:Ac}{v:Value}{b:List UInt8},AM d v b→b.length≤1000→∀a:Int, -1≤a→a≤1000→
 Aw P f [v,.int .i64 a] d [] (Ret fun r d' L'=>d'=d∧((OK b a=none∧r=.tuple #[.slice none 0 0,.int .i64 (-1)]∧L'=[])∨
  ∃x e u g,OK b a=some (x,e)∧r=.tuple #[u,.int .i64 (e:Nat)]∧L'=[g]∧As 1 AP d u x g))
theorem Y5.data{P:Program}{f:FuncId} (h:Y5 P f) {d:Ac}{v:Value}{b:List UInt8} (hv:AM d v b) (hb:b.length≤1000) {a:Int} (h1: -1≤a) (h2:a≤1000):
  Aw P f [v,.int .i64 a] d [] (Ret fun r d' L'=>L'=[]∧∃ua uc x a',r=.tuple #[.slice ua x.length uc,.int .i64 a']∧AM d' (.slice ua x.length uc) x∧ -1≤a'∧a'≤b.length∧((a'= -1∧OK b a=none)∨∃e:Nat,a'=e∧OK b a=some (x,e))):=by
 refine(h hv hb a h1 h2).Dr (fun r d' L' hl ⟨hdd,hr⟩=>?_)
 rcases hr with ⟨e1,rfl,rfl⟩|⟨x,e,u,g,e1,rfl,rfl,hg⟩
 ·exact⟨d',[],Vs.refl _ _,rfl,none,0,[], -1,rfl,RSl.nil,by omega,by omega,.inl ⟨rfl,e1⟩⟩
 ·subst hdd
  obtain⟨ua,uc,rfl⟩:=hg.val
  have:=Aab e1
  exact⟨Gk.join d' g,[],Vs.freeze,rfl,ua,uc,x,e,rfl,hg.rsl AX (by omega) (Le.AI _ _) (Le.A9 _ _),by omega,by omega,.inr ⟨e,rfl,e1⟩⟩
end Go.Gk.Node
end
section
namespace Go.Gk.Node
open Go Go.Gk
section
attribute [local irreducible] gwp gws
end
end Go.Gk.Node
end
section
namespace Go.Gk.Node
open Go Go.Gk
attribute [local irreducible] gwp gws
theorem Dg.mono{d d':Ac}{v:Value}{xs:List (List UInt8)}{L:List Ac} (o:Dg d v xs L) (hl:Le d d'):Dg d' v xs L:=
 let ⟨us,h0,hs,h1,h2,h3,h4⟩:=o
 ⟨us,h0,hs,h1,h2,fun i hi=>let ⟨u,g,k1,k2,k3⟩:=h3 i hi;⟨u,g,k1,k2,As.mono (R:=AP) AX k3 hl⟩,h4⟩
theorem DK.mono{d d':Ac}{cs:List Value}{n:AF}{L:List Ac} (o:DK d cs n L) (hl:Le d d'):DK d' cs n L:=
 let ⟨kv,vv,iv,Lk,Lv,hi,e,h1,h2,h3,h4⟩:=o
 ⟨kv,vv,iv,Lk,Lv,hi,e,h1.mono hl,h2.mono hl,h3.Ih hl,h4⟩
theorem Pw{n:Nat} (h:n≤255):(u8n n).toNat=n:=by
 simp only [u8n]
 have:((n:Int) % 256).toNat=n:=by omega
 rw [this];simp;omega
theorem MV{x r:List UInt8} (h:x.length≤255):FL (u8n x.length::(x++r))=some (x,r):=by
 simp only [FL,Pw h]
 rw [if_neg (by simp)]
 simp
theorem TM{k:Int}{r:List UInt8} (h0:0≤k) (h1:k≤8191):JZ (FJ k++r)=some (k.toNat,r):=by
 simp only [FJ,Aej,Adt,JZ,Option.some.injEq,Prod.mk.injEq,and_true]
 have e1:((k / 256) % 256).toNat=(k / 256).toNat:=by omega
 rw [e1]
 have e2:(k / 256).toNat<256:=by omega
 have e3:(k % 256).toNat<256:=by omega
 have e4:∀x,x<256→(UInt8.ofNat x).toNat=x:=fun x hx=>by simp;omega
 rw [e4 _ e2,e4 _ e3]
 omega
theorem R8(n:AF) (k:Nat):∀j,∃T,Cv n (k+j)=Cv n k++T
 |0=>⟨[],by simp⟩
 |j+1=>by
  obtain⟨T,h⟩:=R8 n k j
  exact⟨T++((u8n (Df n (k+j))::n.keys.getD (k+j) [])++tailD n (k+j)),by show Cv n (k+j)++_++_=_;rw [h];simp only [Acg];rfl⟩
theorem Ru(n:AF) {k:Nat} (hk:k≤n.keys.length):∃T,B6 n=Cv n k++T:=by
 obtain⟨T,h⟩:=R8 n k (n.keys.length - k)
 rw [show k+(n.keys.length - k)=n.keys.length by omega] at h
 exact⟨T++_,by rw [B6,h,Acg]⟩
theorem VZ(n:AF) {k:Nat} (hk:k<n.keys.length):(B6 n).drop (Cv n k).length=(u8n (Df n k)::n.keys.getD k [])++(tailD n k++(B6 n).drop (Cv n (k+1)).length):=by
 obtain⟨T,h⟩:=Ru n (k:=k+1) hk
 rw [h]
 have e:Cv n (k+1)=Cv n k++((u8n (Df n k)::n.keys.getD k [])++tailD n k):=by simp only [Cv,Acg]
 rw [Agp,e,Acg,Agp,Acg]
theorem IU(n:AF):∀k,k≤Bm n k
 |0=>Ach _
 |k+1=>by have:=IU n k;simp only [Bm,DY];split<;>omega
theorem RI{ks:List (List UInt8)} (h:Dj ks ks.length=true) {k:Nat} (hk:k<ks.length):ks[k].length≤64:=by
 have:=Ld h hk
 simp only [kOk,Acd,decide_eq_true_eq] at this
 have e:ks.getD k []=ks[k]:=by simp [hk]
 rw [e] at this;exact this.1.2
theorem Fo{n:AF} (hr:By n=true):(B6 n).length=256:=by
 simp only [By,Acd,decide_eq_true_eq] at hr
 have:=ZI hr.1 hr.2 n.keys.length (Ach _)
 simp only [B6,Acl,Adn];omega
theorem U8{n:AF} (hr:By n=true):E5 (B6 n)=some n:=by
 have hr':=hr
 simp only [By,Acd,decide_eq_true_eq] at hr'
 obtain⟨hs,hz⟩:=hr'
 have hm:n.keys.length≤255:=by
  have:=IU n n.keys.length
  simp only [A5] at hz;omega
 obtain⟨T0,hT0⟩:=Ru n (k:=0) (Adf _)
 have hstep:=fun k hk=>VZ n (k:=k) hk
 have hd0:(B6 n).drop (Cv n 0).length=T0:=by rw [hT0,Agp]
 obtain⟨lf,ks,vs,is⟩:=n
 have hs':=hs
 simp only [A6,Acd] at hs'
 have hk:=fun k (hk:k<ks.length)=>RI hs'.1 hk
 simp only at hm hT0 hstep hd0 hs'
 have hkl:∀k,k<ks.length→Df ⟨lf,ks,vs,is⟩ k=(ks.getD k []).length:=fun _ _=>rfl
 cases lf with
 |true=>
  have h2:=hs'.2
  simp only [if_true,Acd,decide_eq_true_eq,Acq] at h2
  obtain⟨⟨hvl,hil⟩,hva⟩:=h2
  obtain rfl:is=[]:=Acm hil
  have hpg:B6 ⟨true,ks,vs,[]⟩=1::u8n ks.length::T0:=hT0
  have items:∀k,k≤ks.length→CG true T0 [] k=some (ks.take k,vs.take k,[],(B6 ⟨true,ks,vs,[]⟩).drop (Cv ⟨true,ks,vs,[]⟩ k).length):=by
   intro k
   induction k with
   |zero=>intro _;simp [CG,hd0]
   |succ k ih=>
    intro hk1
    have e1:ks.getD k []=ks[k]'(by omega):=by simp [show k<ks.length by omega]
    have e2:vs.getD k []=vs[k]'(by omega):=by simp [show k<vs.length by omega]
    have e3:(vs[k]'(by omega)).length≤16:=by
     have:=hva _ (Ada (show k<vs.length by omega))
     simpa [Ht] using this
    simp only [CG,ih (by omega)]
    rw [hstep k (by omega)]
    have:=hk k (by omega)
    rw [hkl k (by omega),e1,Aej,MV (by omega)]
    simp only [tailD,if_true,ES,e2]
    rw [Aej,MV (by omega)]
    simp only [Option.some.injEq,Prod.mk.injEq,and_true]
    exact⟨(Acx _).symm,(Acx _).symm⟩
  have h3:=items ks.length (Ach _)
  simp only [E5,hpg,Aey,Aeu,List.drop_succ_cons,List.drop_zero]
  show(match FN true T0 with|none=>none|some (is0,l0)=>_)=_
  simp only [FN,Pw hm]
  rw [hpg] at h3
  show(match CG true T0 [] ks.length with|none=>none|some (a,b,c,_)=>some (⟨true,a,b,c⟩:AF))=_
  rw [h3]
  simp only [Aeg]
  rw [Aec (by omega)]
 |false=>
  have h2:=hs'.2
  simp only [Acj,if_false,Acd,decide_eq_true_eq,Acq] at h2
  obtain⟨⟨hvl,hil⟩,hia⟩:=h2
  obtain rfl:vs=[]:=Acm hvl
  have hkid:∀k (h:k<is.length),0≤is[k]∧is[k]≤8191:=fun k h=>by
   have:=hia _ (Ada h)
   simpa [FV] using this
  have hpg:B6 ⟨false,ks,[],is⟩=2::u8n ks.length::(FJ (is.getD 0 0)++T0):=hT0
  have e0:is.getD 0 0=is[0]'(by omega):=by simp [show 0<is.length by omega]
  have items:∀k,k≤ks.length→CG false T0 [is[0]'(by omega)] k=some (ks.take k,[],is.take (k+1),(B6 ⟨false,ks,[],is⟩).drop (Cv ⟨false,ks,[],is⟩ k).length):=by
   intro k
   induction k with
   |zero=>
    intro _
    have:is.take 1=[is[0]'(by omega)]:=by rw [Acx (by omega)];simp
    simp [CG,hd0,this]
   |succ k ih=>
    intro hk1
    have e1:ks.getD k []=ks[k]'(by omega):=by simp [show k<ks.length by omega]
    have e2:is.getD (k+1) 0=is[k+1]'(by omega):=by simp [show k+1<is.length by omega]
    have e3:=hkid (k+1) (by omega)
    simp only [CG,ih (by omega)]
    rw [hstep k (by omega)]
    have:=hk k (by omega)
    rw [hkl k (by omega),e1,Aej,MV (by omega)]
    simp only [tailD,Acj,if_false,e2]
    rw [TM e3.1 e3.2]
    simp only [Option.some.injEq,Prod.mk.injEq,and_true,true_and]
    refine⟨(Acx _).symm,?_⟩
    rw [Int.toNat_of_nonneg e3.1]
    exact(Acx _).symm
  have h3:=items ks.length (Ach _)
  have e4:=hkid 0 (by omega)
  simp only [E5,hpg,Aey,Aeu,List.drop_succ_cons,List.drop_zero]
  show(match FN false (FJ (is.getD 0 0)++T0) with|none=>none|some (is0,l0)=>_)=_
  simp only [FN,e0,TM e4.1 e4.2,Pw hm]
  rw [hpg] at h3
  rw [Int.toNat_of_nonneg e4.1]
  show(match CG false T0 [is[0]] ks.length with|none=>none|some (a,b,c,_)=>some (⟨false,a,b,c⟩:AF))=_
  rw [h3]
  simp only [Aeg]
  rw [Aec (by omega)]
theorem WT{n:AF} (hr:By n=true):BJ (B6 n)=some n:=by
 unfold BJ
 rw [if_pos (Fo hr),U8 hr]
 exact if_pos ⟨hr,rfl⟩
theorem Oc{b:List UInt8}{n:AF} (h:BJ b=some n):By n=true∧B6 n=b:=by
 unfold BJ at h
 split at h
 ·split at h
  ·split at h
   ·rename_i h1;cases h;exact h1
   ·cases h
  ·cases h
 ·cases h
def GH{α:Type} (R:Ac→List Value→α→Prop) (P:Program) (f:FuncId):Prop:=∀{d:Ac}{v w:Value}{xs ys:List α},RSl 1 R d v xs→RSl 1 R d w ys→xs.length≤1000000001→ys.length≤1000000001→
 Aw P f [v,w] d [] (Ret fun r d' L'=>d'=d∧∃h,L'=[h]∧As 1 R d r (xs++ys) h)
def Lu:AY:=⟨15,[(.tmp 4)],(sR (o1 4 (.mv nS) .done) (sR (om 5 0<|oL 6 5<|om 7 1<|oL 8 7<|ob 9 .add (tP 6) (tP 8)<|o1 10 (.mks 1 24 [(.slice none 0 0)] (kZ 0) (tP 9))<|om 11 0<|o1 12 (.app 1 24 [(.slice none 0 0)] (tP 10) (tP 11))<|om 13 1<|o1 14 (.app 1 24 [(.slice none 0 0)] (tP 12) (tP 13))<|om 4 14 .done) .ret))⟩
theorem S5{P:Program}{f:FuncId} (hd:dec P f=some Lu):GH RBs P f:=by
 intro d v w xs ys hv hw hx hy
 obtain⟨a,c,rfl⟩:=RSl.val hv
 obtain⟨a2,c2,rfl⟩:=RSl.val hw
 refine AG hd (Aca rfl) ?_
 show gwp P _ _ _ _ _
 (refine Ad<|Am rfl<|Aa<|Ad<|Am rfl<|AL rfl<|Am rfl<|AL rfl<|AN rfl rfl (by omega) (by omega) ?_)
 refine Hp (n:=0) (c:=xs.length+ys.length) rfl (int_eq (by omega)) (by omega) (by omega) (by omega) (fun b8 T8=>?_)
 (apply Am;rfl)
 have o0:As 1 RBs d (.slice (some ⟨b8,0,none⟩) 0 (xs.length+ys.length)) [] (bx b8 T8 (Bp [.slice none 0 0] ((xs.length+ys.length)*1))):=
  ⟨[],BM.mk rfl (by simp) (Adf _) (by omega) (by simp [Bp]) rfl,fun i hi=>absurd hi (Afm i)⟩
 refine EP (xs:=[]) (ys:=xs) 0 rfl rfl o0 rfl (RSl.src (R:=RBs) (xs:=xs) hv Fx (by omega) _) (by omega) (by simp;omega) (by simp;omega) (fun v5 h5 hrow5=>?_)
 (apply Am;rfl)
 refine EP (xs:=[]++xs) (ys:=ys) 0 rfl rfl hrow5 rfl (RSl.src (R:=RBs) (xs:=ys) hw Fx (by omega) _) (by omega) (by simp;omega) (by simp;omega) (fun v6 h6 hrow6=>?_)
 (refine AK<|Aa<|Ao ?_)
 exact BG (L':=[h6]) rfl (Acb _) ⟨rfl,h6,rfl,hrow6⟩
def Mp:AY:=⟨15,[(.tmp 4)],(sR (o1 4 (.mv nS) .done) (sR (om 5 0<|oL 6 5<|om 7 1<|oL 8 7<|ob 9 .add (tP 6) (tP 8)<|o1 10 (.mks 1 8 [(.int .i64 0)] (kZ 0) (tP 9))<|om 11 0<|o1 12 (.app 1 8 [(.int .i64 0)] (tP 10) (tP 11))<|om 13 1<|o1 14 (.app 1 8 [(.int .i64 0)] (tP 12) (tP 13))<|om 4 14 .done) .ret))⟩
theorem Vj{P:Program}{f:FuncId} (hd:dec P f=some Mp):GH Bi P f:=by
 intro d v w xs ys hv hw hx hy
 obtain⟨a,c,rfl⟩:=RSl.val hv
 obtain⟨a2,c2,rfl⟩:=RSl.val hw
 refine AG hd (Aca rfl) ?_
 show gwp P _ _ _ _ _
 (refine Ad<|Am rfl<|Aa<|Ad<|Am rfl<|AL rfl<|Am rfl<|AL rfl<|AN rfl rfl (by omega) (by omega) ?_)
 refine Hp (n:=0) (c:=xs.length+ys.length) rfl (int_eq (by omega)) (by omega) (by omega) (by omega) (fun b8 T8=>?_)
 (apply Am;rfl)
 have o0:As 1 Bi d (.slice (some ⟨b8,0,none⟩) 0 (xs.length+ys.length)) [] (bx b8 T8 (Bp [.int .i64 0] ((xs.length+ys.length)*1))):=
  ⟨[],BM.mk rfl (by simp) (Adf _) (by omega) (by simp [Bp]) rfl,fun i hi=>absurd hi (Afm i)⟩
 refine EP (xs:=[]) (ys:=xs) 0 rfl rfl o0 rfl (RSl.src (R:=Bi) (xs:=xs) hv Di (by omega) _) (by omega) (by simp;omega) (by simp;omega) (fun v5 h5 hrow5=>?_)
 (apply Am;rfl)
 refine EP (xs:=[]++xs) (ys:=ys) 0 rfl rfl hrow5 rfl (RSl.src (R:=Bi) (xs:=ys) hw Di (by omega) _) (by omega) (by simp;omega) (by simp;omega) (fun v6 h6 hrow6=>?_)
 (refine AK<|Aa<|Ao ?_)
 exact BG (L':=[h6]) rfl (Acb _) ⟨rfl,h6,rfl,hrow6⟩
def Cj(a b:AF) (key:List UInt8):AF:=if a.leaf then⟨true,a.keys++b.keys,a.vals++b.vals,[]⟩ else⟨false,a.keys++[key]++b.keys,[],a.kids++b.kids⟩
def RZ(P:Program) (f:FuncId):Prop:=∀{d:Ac}{ca cb:List Value}{kv:Value}{a b:AF}{key:List UInt8},Cx d ca a→Cx d cb b→AM d kv key→a.keys.length+b.keys.length≤100000000→a.vals.length+b.vals.length≤100000000→a.kids.length+b.kids.length≤100000000→
 Aw P f [.agg ca.toArray,.agg cb.toArray,kv] d [] (Ret fun r d' L'=>L'=[]∧∃cs,r=.agg cs.toArray∧Cx d' cs (Cj a b key))
def S2(a0 a1 a2:Nat):AY:=⟨37,[(.cell 6 (some 4))],(sR (o1 3 (.box (tP 0))<|o1 4 (.box (tP 1))<|o1 6 (.alo (.agg #[(.bool false),(.slice none 0 0),(.slice none 0 0),(.slice none 0 0)])) .done) (.seq (sR (oj 7 0 3<|ol 8 7 .done) (.cond (tP 8) (.seq (.reg true (p1 9 (.fld 1 (tP 3))<|pl 10 9<|p1 11 (.fld 1 (tP 4))<|pl 12 11<|p1 15 (.fld 2 (tP 3))<|pl 16 15<|p1 17 (.fld 2 (tP 4))<|pl 18 17<|oc 13 a0 [(tP 10),(tP 12)]<|oc 14 a1 [(tP 13)]<|oc 19 a0 [(tP 16),(tP 18)]<|oc 20 a1 [(tP 19)]<|p1 21 (.bld [(0,1),(1,1),(2,1),(3,1)] [(.bool false),(.slice none 0 0),(.slice none 0 0),(.slice none 0 0)] [(0,(.const (.bool true))),(1,(tP 14)),(2,(tP 20))]) (.bar (o0 (.st 4 (tP 6) (tP 21)) .done)))) .ret) .skip)) (.seq (.reg true (p1 22 (.fld 1 (tP 3))<|pl 23 22<|pm 24 2<|p1 27 (.fld 1 (tP 4))<|pl 28 27<|p1 31 (.fld 3 (tP 3))<|pl 32 31<|p1 33 (.fld 3 (tP 4))<|pl 34 33<|o1 25 (.bsl 1 1 [(.slice none 0 0)] [(0,(tP 24))])<|oc 26 a0 [(tP 23),(tP 25)]<|oc 29 a0 [(tP 26),(tP 28)]<|oc 30 a1 [(tP 29)]<|oc 35 a2 [(tP 32),(tP 34)]<|p1 36 (.bld [(0,1),(1,1),(2,1),(3,1)] [(.bool false),(.slice none 0 0),(.slice none 0 0),(.slice none 0 0)] [(1,(tP 30)),(3,(tP 35))]) (.bar (o0 (.st 4 (tP 6) (tP 36)) .done)))) .ret)))⟩
theorem ZP{P:Program}{f f1 f2 f3:FuncId} (hd:dec P f=some (S2 f1 f2 f3)) (h1:GH RBs P f1) (h2:QJ P f2) (h3:GH Bi P f3):RZ P f:=by
 intro d ca cb kv a b key ha hb hk hb1 hb2 hb3
 obtain⟨ak,av,ai,rfl,ak1,av1,ai1⟩:=ha
 obtain⟨bk,bv,bi,rfl,bk1,bv1,bi1⟩:=hb
 refine AG hd (Aca rfl) ?_
 obtain⟨aka,akc,rfl⟩:=RSl.val ak1
 obtain⟨ava,avc,rfl⟩:=RSl.val av1
 obtain⟨aia,aic,rfl⟩:=RSl.val ai1
 obtain⟨bka,bkc,rfl⟩:=RSl.val bk1
 obtain⟨bva,bvc,rfl⟩:=RSl.val bv1
 obtain⟨bia,bic,rfl⟩:=RSl.val bi1
 obtain⟨ka,kc,rfl⟩:=RSl.val hk
 show gwp P _ _ _ _ _
 apply Ah;apply AE
 refine Cc (l:=[.bool a.leaf,.slice aka a.keys.length akc,.slice ava a.vals.length avc,.slice aia a.kids.length aic]) rfl (fun b3 T3=>?_)
 refine Cc (l:=[.bool b.leaf,.slice bka b.keys.length bkc,.slice bva b.vals.length bvc,.slice bia b.kids.length bic]) rfl (fun b4 T4=>?_)
 (refine DI (fun _ _=>Aa<|Ah<|Ad<|Ai rfl<|Ag rfl (Aj 2 rfl rfl)<|Aa ?_))
 rename_i b6 T6
 cases hlf:a.leaf with
 |true=>
  (refine Be rfl<|Ah<|Bv<|Ai rfl<|Ag rfl (Aj 2 rfl rfl)<|Ai rfl<|Ag rfl (Aj 1 rfl rfl)<|Ai rfl<|Ag rfl (Aj 2 rfl rfl)<|Ai rfl<|Ag rfl (Aj 1 rfl rfl) ?_)
  refine Bk rfl (h1 ak1 bk1 (by omega) (by omega)) (fun r d1 L1 _ ⟨hdd,g,hL,og⟩=>?_)
  subst hdd;subst hL
  refine Mg (fun d2 hl2 hg2=>?_)
  have r1:=og.rsl EW (by omega) hl2 hg2
  refine Bk rfl (h2 r1 (by simp;omega)) (fun r d3 L3 _ ⟨hdd,o3⟩=>?_)
  subst hdd
  refine QZ (fun d4 hl4 hg4=>?_)
  have r3:=o3.Ro hl4 (fun h hm=>hg4 h (Adh _ hm))
  refine Bk rfl (h1 (C8.mono av1 (hl2.trans hl4)) (C8.mono bv1 (hl2.trans hl4)) (by omega) (by omega)) (fun r d5 L5 _ ⟨hdd,g5,hL,og5⟩=>?_)
  subst hdd;subst hL
  refine Mg (fun d6 hl6 hg6=>?_)
  have r5:=og5.rsl EW (by omega) hl6 hg6
  refine Bk rfl (h2 r5 (by simp;omega)) (fun r d7 L7 _ ⟨hdd,o7⟩=>?_)
  subst hdd
  obtain⟨o3a,o3c,rfl⟩:=o3.val
  obtain⟨o7a,o7c,rfl⟩:=o7.val
  refine BI (cs:=[.bool true,.slice o3a (a.keys++b.keys).length o3c,.slice o7a (a.vals++b.vals).length o7c,.slice none 0 0]) rfl ?_
  (apply B4)
  refine A0 0 [.bool true,.slice o3a (a.keys++b.keys).length o3c,.slice o7a (a.vals++b.vals).length o7c,.slice none 0 0] rfl rfl rfl rfl (by simp [Value.cells]) rfl rfl ?_
  (refine Aa<|Ao ?_)
  refine Aa4 [.agg [.bool true,.slice o3a (a.keys++b.keys).length o3c,.slice o7a (a.vals++b.vals).length o7c,.slice none 0 0].toArray] ⟨AT 0 rfl rfl rfl,trivial⟩ (fun d8 hl8 hg8=>⟨rfl,_,rfl,?_⟩)
  refine⟨.slice o3a (a.keys++b.keys).length o3c,.slice o7a (a.vals++b.vals).length o7c,.slice none 0 0,by simp [Cj,hlf],?_,?_,?_⟩
  ·simp only [Cj,hlf,if_true];exact C8.mono r3 (hl6.trans hl8)
  ·simp only [Cj,hlf,if_true];exact o7.Ro hl8 (fun h hm=>hg8 h (by simp [hm]))
  ·simp only [Cj,hlf,if_true];exact RSl.nil
 |false=>
  (refine AR rfl<|Al<|Ah ?_)
  refine Bv ?_
  (refine Ai rfl<|Ag rfl (Aj 2 rfl rfl)<|Am rfl<|Ai rfl<|Ag rfl (Aj 1 rfl rfl)<|Ai rfl<|Ag rfl (Aj 2 rfl rfl)<|Ai rfl<|Ag rfl (Aj 1 rfl rfl) ?_)
  refine Dn (cs:=[.slice ka key.length kc]) (by omega) rfl (fun b8 T8=>?_)
  refine Mg (fun d0 hl0 hg0=>?_)
  have r0:=Aad hg0 (hk.mono hl0)
  refine Bk rfl (h1 (C8.mono ak1 hl0) r0 (by omega) (by simp)) (fun r d1 L1 _ ⟨hdd,g,hL,og⟩=>?_)
  subst hdd;subst hL
  refine Mg (fun d2 hl2 hg2=>?_)
  have r1:=og.rsl EW (by omega) hl2 hg2
  refine Bk rfl (h1 r1 (C8.mono bk1 (hl0.trans hl2)) (by simp;omega) (by omega)) (fun r d3 L3 _ ⟨hdd,g3,hL,og3⟩=>?_)
  subst hdd;subst hL
  refine Mg (fun d4 hl4 hg4=>?_)
  have r3:=og3.rsl EW (by omega) hl4 hg4
  refine Bk rfl (h2 r3 (by simp;omega)) (fun r d5 L5 _ ⟨hdd,o5⟩=>?_)
  subst hdd
  refine QZ (fun d6 hl6 hg6=>?_)
  have r5:=o5.Ro hl6 (fun h hm=>hg6 h (Adh _ hm))
  refine Bk rfl (h3 (Dz.mono ai1 (hl0.trans (hl2.trans (hl4.trans hl6)))) (Dz.mono bi1 (hl0.trans (hl2.trans (hl4.trans hl6)))) (by omega) (by omega)) (fun r d7 L7 _ ⟨hdd,g7,hL,og7⟩=>?_)
  subst hdd;subst hL
  obtain⟨o5a,o5c,rfl⟩:=o5.val
  obtain⟨o7a,o7c,rfl⟩:=og7.val
  refine BI (cs:=[.bool false,.slice o5a (a.keys++[key]++b.keys).length o5c,.slice none 0 0,.slice o7a (a.kids++b.kids).length o7c]) rfl ?_
  (apply B4)
  refine A0 0 [.bool false,.slice o5a (a.keys++[key]++b.keys).length o5c,.slice none 0 0,.slice o7a (a.kids++b.kids).length o7c] rfl rfl rfl rfl (by simp [Value.cells]) rfl rfl ?_
  (refine Aa<|Ao ?_)
  refine Aa4 [.agg [.bool false,.slice o5a (a.keys++[key]++b.keys).length o5c,.slice none 0 0,.slice o7a (a.kids++b.kids).length o7c].toArray] ⟨AT 0 rfl rfl rfl,trivial⟩ (fun d8 hl8 hg8=>⟨rfl,_,rfl,?_⟩)
  refine⟨.slice o5a (a.keys++[key]++b.keys).length o5c,.slice none 0 0,.slice o7a (a.kids++b.kids).length o7c,by simp [Cj,hlf],?_,?_,?_⟩
  ·simp only [Cj,hlf,Acj,if_false];exact C8.mono r5 hl8
  ·simp only [Cj,hlf,Acj,if_false];exact RSl.nil
  ·simp only [Cj,hlf,Acj,if_false];exact og7.rsl Cb (by omega) hl8 (hg8 _ (by simp))
theorem GC{ks:List (List UInt8)}:∀{m:Nat},Dj ks m=true↔∀k,k<m→kOk ks k=true
 |0=>⟨fun _ k h=>by omega,fun _=>rfl⟩
 |m+1=>by
  simp only [Dj,Acd]
  rw [GC (m:=m)]
  constructor
  ·intro ⟨h1,h2⟩ k hk
   by_cases e:k=m
   ·subst e;exact h2
   ·exact h1 k (by omega)
  ·exact fun h=>⟨fun k hk=>h k (by omega),h m (by omega)⟩
theorem MG{ks:List (List UInt8)} (h:Dj ks ks.length=true) (a:Nat):Dj (ks.take a) (ks.take a).length=true:=by
 rw [GC] at h⊢
 intro k hk
 simp only [Acw] at hk
 have:=h k (by omega)
 have e:∀j,j≤k→(ks.take a).getD j []=ks.getD j []:=fun j hj=>by
  simp [Afw,Adu (show j<a by omega)]
 simpa only [kOk,e k (Ach _),e (k - 1) (by omega)] using this
theorem MK{ks:List (List UInt8)} (h:Dj ks ks.length=true) (a:Nat):Dj (ks.drop a) (ks.drop a).length=true:=by
 rw [GC] at h⊢
 intro k hk
 simp only [Aco] at hk
 have:=h (a+k) (by omega)
 have e:∀j,(ks.drop a).getD j []=ks.getD (a+j) []:=fun j=>by simp [Afw,Aea]
 simp only [kOk,e,Acd,Adr,beq_iff_eq] at this⊢
 refine⟨this.1,?_⟩
 by_cases h0:k=0
 ·exact .inl h0
 ·refine .inr ?_
  rcases this.2 with h1|h1
  ·omega
  ·rwa [show a+(k - 1)=a+k - 1 by omega]
theorem Hc(n n':AF) (hl:n'.leaf=n.leaf) {a:Nat} (hk:∀j,j<a→Df n' j=Df n j) (hv:n.leaf=true→∀j,j<a→ES n' j=ES n j):∀k,k≤a→Bm n' k=Bm n k
 |0,_=>rfl
 |k+1,h=>by
  simp only [Bm,Hc n n' hl hk hv k (by omega),DY,hl,hk k (by omega)]
  cases e:n.leaf
  ·simp
  ·simp [hv e k (by omega)]
theorem G8(n n':AF) (hl:n'.leaf=n.leaf) {a:Nat} (hk:∀j,Df n' j=Df n (a+j)) (hv:n.leaf=true→∀j,ES n' j=ES n (a+j)):∀k,Bm n' k+Bm n a=Bm n (a+k)
 |0=>by simp [Bm]
 |k+1=>by
  have:=G8 n n' hl hk hv k
  show Bm n' k+DY n' k+Bm n a=Bm n (a+k)+DY n (a+k)
  simp only [DY,hl,hk k]
  cases e:n.leaf
  ·simp only [Acj,if_false];omega
  ·simp only [if_true,hv e k];omega
theorem PA(n:AF):∀f a,a≤n.keys.length - 1→n.keys.length≤a+f→(∀j,j<a→2*Cp n j<Cp n n.keys.length)→
  Gy n f a≤n.keys.length - 1∧(∀j,j<Gy n f a→2*Cp n j<Cp n n.keys.length)∧(Gy n f a=n.keys.length - 1∨Cp n n.keys.length≤2*Cp n (Gy n f a))
 |0,a,h1,h2,h3=>⟨h1,h3,.inl (by simp only [Gy];omega)⟩
 |f+1,a,h1,h2,h3=>by
  simp only [Gy]
  split
  ·rename_i h
   refine PA n f (a+1) (by omega) (by omega) (fun j hj=>?_)
   by_cases e:j=a
   ·subst e;exact h.2
   ·exact h3 j (by omega)
  ·rename_i h
   refine⟨h1,h3,?_⟩
   by_cases e:a=n.keys.length - 1
   ·exact .inl e
   ·exact .inr (by omega)
theorem Ny(n:AF):atD n≤n.keys.length - 1∧(∀j,j<atD n→2*Cp n j<Cp n n.keys.length)∧(atD n=n.keys.length - 1∨Cp n n.keys.length≤2*Cp n (atD n)):=
 PA n _ 0 (Adf _) (by omega) (fun j hj=>by omega)
theorem Zx{n:AF} (hs:A6 n=true) {k:Nat} (hk:k<n.keys.length):DY n k≤if n.leaf then 82 else 65:=by
 simp only [A6,Acd] at hs
 have h1:=RI hs.1 hk
 have e1:Df n k=n.keys[k].length:=by simp [Df,hk]
 simp only [DY]
 cases hlf:n.leaf with
 |false=>simp only [Acj,if_false];omega
 |true=>
  have h2:=hs.2
  simp only [hlf,if_true,Acd,decide_eq_true_eq,Acq] at h2
  have hv:k<n.vals.length:=by omega
  have h3:=h2.2 _ (Ada hv)
  simp only [Ht,decide_eq_true_eq] at h3
  have e2:ES n k=n.vals[k].length:=by simp [ES,hv]
  simp only [if_true];omega
theorem R2{n:AF} (hs:A6 n=true) {k:Nat} (hk:k<n.keys.length):Cp n (k+1)≤Cp n k+if n.leaf then 82 else 67:=by
 have:=Zx hs hk
 simp only [Cp,wD]
 cases hlf:n.leaf<;>simp only [hlf,if_true,Acj,if_false] at this⊢<;>omega
theorem Qc{n:AF} (h:n.leaf=true):∀k,Cp n k=Bm n k
 |0=>rfl
 |k+1=>by simp only [Cp,Bm,wD,h,if_true,Qc h k];omega
theorem N6{n:AF} (h:n.leaf=false):∀k,Cp n k=Bm n k+2*k
 |0=>rfl
 |k+1=>by simp only [Cp,Bm,wD,h,Acj,if_false,N6 h k];omega
theorem Aaw(n:AF) (k:Nat):1≤wD n k:=by simp only [wD,DY];split<;>omega
theorem PW{α:Type}{p:α→Bool}{xs:List α} (h:xs.all p=true) (a:Nat):(xs.take a).all p=true:=by
 rw [Acq] at h⊢;exact fun x hx=>h x (Aha hx)
theorem PM{α:Type}{p:α→Bool}{xs:List α} (h:xs.all p=true) (a:Nat):(xs.drop a).all p=true:=by
 rw [Acq] at h⊢;exact fun x hx=>h x (Agf hx)
theorem getD_take{l:List (List UInt8)}{a j:Nat} (h:j<a):(l.take a).getD j []=l.getD j []:=by simp [Afw,Adu h]
theorem Gh{l:List (List UInt8)}{a j:Nat}:(l.drop a).getD j []=l.getD (a+j) []:=by simp [Afw,Aea]
structure NP (n:AF):Prop where
 r1:By (AW n)=true
 r2:By (Ba n)=true
 n1:0<(AW n).keys.length
 n2:0<(Ba n).keys.length
 lo:∀i (h:i<(AW n).keys.length),Op.bytesLess (AW n).keys[i] (BB n)=true
 hi:∀i (h:i<(Ba n).keys.length),Op.bytesLess (BB n) (Ba n).keys[i]=true∨((Ba n).keys[i]=BB n∧n.leaf=true)
 all:Cj (AW n) (Ba n) (BB n)=n
theorem ZA{n:AF} (hz:A5 n≤if n.leaf=true then 340 else 440) (hc:C9 n=true):NP n:=by
 have hc':=hc
 simp only [C9,Acd,decide_eq_true_eq] at hc'
 obtain⟨hs,hm⟩:=hc'
 have hs':=hs
 simp only [A6,Acd] at hs'
 obtain⟨hks,hrest⟩:=hs'
 obtain⟨ha1,ha2,ha3⟩:=Ny n
 have hpos:0<Cp n n.keys.length:=by
  have h0:0<n.keys.length:=by split at hm<;>omega
  have:=KB n (k:=1) (m:=n.keys.length) h0
  have:=Aaw n 0
  simp only [Cp] at*;omega
 have hstep:=fun k hk=>R2 hs (k:=k) hk
 have hrise:=fun j i hj hi=>KD hks (j:=j) (i:=i) hj hi
 cases hlf:n.leaf with
 |true=>
  simp only [hlf,if_true] at hm hrest hz
  simp only [Acd,decide_eq_true_eq] at hrest
  obtain⟨⟨hvl,hil⟩,hva⟩:=hrest
  have eL:AW n=⟨true,n.keys.take (atD n),n.vals.take (atD n),[]⟩:=by simp [AW,hc,hlf]
  have eR:Ba n=⟨true,n.keys.drop (atD n),n.vals.drop (atD n),[]⟩:=by simp [Ba,hc,hlf]
  have eK:BB n=n.keys[atD n]'(by omega):=by simp [BB,hc,hlf,show atD n<n.keys.length by omega]
  have h1:1≤atD n:=by
   rcases ha3 with h|h
   ·omega
   ·by_cases e:atD n=0
    ·rw [e] at h;simp only [Cp] at h;omega
    ·omega
  have hall:A5 n=2+Bm n n.keys.length:=by simp [A5,hlf]
  have hp:=Qc hlf
  have hb:=hstep (atD n - 1) (by omega)
  rw [show atD n - 1+1=atD n by omega,hlf,if_pos rfl] at hb
  have hb2:=ha2 (atD n - 1) (by omega)
  have hcl:Bm (AW n) (AW n).keys.length=Bm n (atD n):=by
   rw [eL]
   simp only [Acw,Agw (show atD n≤n.keys.length by omega)]
   exact Hc n _ hlf.symm (a:=atD n) (fun j hj=>by simp only [Df,getD_take hj]) (fun _ j hj=>by simp only [ES,getD_take hj]) _ (Ach _)
  have hcr:Bm (Ba n) (Ba n).keys.length+Bm n (atD n)=Bm n n.keys.length:=by
   rw [eR]
   simp only [Aco]
   have:=G8 n ⟨true,n.keys.drop (atD n),n.vals.drop (atD n),[]⟩ hlf.symm (a:=atD n) (fun j=>by simp only [Df,Gh]) (fun _ j=>by simp only [ES,Gh]) (n.keys.length - atD n)
   rw [this];congr 1;omega
  refine⟨?_,?_,?_,?_,?_,?_,?_⟩
  ·simp only [By,Acd,decide_eq_true_eq]
   refine⟨?_,?_⟩
   ·rw [eL];simp only [A6,if_true,Acd,decide_eq_true_eq]
    exact⟨MG hks _,⟨by simp [hvl],rfl⟩,PW hva _⟩
   ·have:A5 (AW n)=2+Bm (AW n) (AW n).keys.length:=by rw [eL];simp [A5]
    rw [this,hcl,←hp]
    rw [hp n.keys.length] at hb2
    omega
  ·simp only [By,Acd,decide_eq_true_eq]
   refine⟨?_,?_⟩
   ·rw [eR];simp only [A6,if_true,Acd,decide_eq_true_eq]
    exact⟨MK hks _,⟨by simp [hvl],rfl⟩,PM hva _⟩
   ·have:A5 (Ba n)=2+Bm (Ba n) (Ba n).keys.length:=by rw [eR];simp [A5]
    rw [this]
    rcases ha3 with h|h
    ·have h5:=hstep (atD n) (by omega)
     rw [hlf,if_pos rfl,show atD n+1=n.keys.length by omega,hp,hp] at h5
     omega
    ·rw [hp,hp] at h;omega
  ·rw [eL];simp;omega
  ·rw [eR];simp;omega
  ·intro i hi
   simp only [eL,eK] at hi⊢
   simp only [Acw] at hi
   simp only [List.getElem_take]
   exact hrise _ _ (by omega) (by omega)
  ·intro i hi
   simp only [eR,eK] at hi⊢
   simp only [Aco] at hi
   simp only [Agz]
   by_cases h0:i=0
   ·subst h0;exact .inr ⟨rfl,hlf⟩
   ·exact .inl (hrise (atD n+i) (atD n) (by omega) (by omega))
  ·rw [eL,eR]
   obtain⟨lf,ks,vs,is⟩:=n
   simp only at hlf hil
   obtain rfl:=Acm hil
   subst hlf
   simp [Cj]
 |false=>
  simp only [hlf,Acj,if_false] at hm hrest hz
  simp only [Acd,decide_eq_true_eq] at hrest
  obtain⟨⟨hvl,hil⟩,hia⟩:=hrest
  have ha4:at2 n≤n.keys.length - 1:=by simp only [at2];omega
  have ha5:2≤at2 n:=by simp only [at2];omega
  have ha6:atD n≤at2 n:=by simp only [at2];omega
  have eL:AW n=⟨false,n.keys.take (at2 n - 1),[],n.kids.take (at2 n)⟩:=by simp [AW,hc,hlf]
  have eR:Ba n=⟨false,n.keys.drop (at2 n),[],n.kids.drop (at2 n)⟩:=by simp [Ba,hc,hlf]
  have eK:BB n=n.keys[at2 n - 1]'(by omega):=by simp [BB,hc,hlf,show at2 n - 1<n.keys.length by omega]
  have hall:A5 n=2+2*(n.keys.length+1)+Bm n n.keys.length:=by simp only [A5,hlf,Acj,if_false,hil]
  have hp:=N6 hlf
  have hpm:=hp n.keys.length
  have hcl:Bm (AW n) (AW n).keys.length=Bm n (at2 n - 1):=by
   rw [eL]
   simp only [Acw,Agw (show at2 n - 1≤n.keys.length by omega)]
   exact Hc n _ hlf.symm (a:=at2 n - 1) (fun j hj=>by simp only [Df,getD_take hj]) (fun h=>by rw [hlf] at h;cases h) _ (Ach _)
  have hcr:Bm (Ba n) (Ba n).keys.length+Bm n (at2 n)=Bm n n.keys.length:=by
   rw [eR]
   simp only [Aco]
   have:=G8 n ⟨false,n.keys.drop (at2 n),[],n.kids.drop (at2 n)⟩ hlf.symm (a:=at2 n) (fun j=>by simp only [Df,Gh]) (fun h=>by rw [hlf] at h;cases h) (n.keys.length - at2 n)
   rw [this];congr 1;omega
  refine⟨?_,?_,?_,?_,?_,?_,?_⟩
  ·simp only [By,Acd,decide_eq_true_eq]
   refine⟨?_,?_⟩
   ·rw [eL];simp only [A6,Acj,if_false,Acd,decide_eq_true_eq]
    exact⟨MG hks _,⟨rfl,by simp only [Acw];omega⟩,PW hia _⟩
   ·have:A5 (AW n)=2+2*at2 n+Bm (AW n) (AW n).keys.length:=by
     rw [eL];simp only [A5,Acj,if_false,Acw,Agw (show at2 n≤n.kids.length by omega)]
    rw [this,hcl]
    have h7:=hp (at2 n - 1)
    by_cases h8:at2 n=2
    ·have h9:=hstep 0 (by omega)
     simp only [hlf,Acj,if_false,Cp] at h9
     have h10:=hp 1
     simp only [Cp] at h10
     rw [h8] at h7⊢
     simp only [Nat.reduceSub,Cp] at h7⊢
     omega
    ·have h9:=ha2 (at2 n - 1) (by simp only [at2] at h8⊢;omega)
     omega
  ·simp only [By,Acd,decide_eq_true_eq]
   refine⟨?_,?_⟩
   ·rw [eR];simp only [A6,Acj,if_false,Acd,decide_eq_true_eq]
    exact⟨MK hks _,⟨rfl,by simp only [Aco];omega⟩,PM hia _⟩
   ·have:A5 (Ba n)=2+2*(n.kids.length - at2 n)+Bm (Ba n) (Ba n).keys.length:=by
     rw [eR];simp only [A5,Acj,if_false,Aco]
    rw [this]
    have h7:=hp (at2 n)
    rcases ha3 with h|h
    ·have h8:at2 n=n.keys.length - 1:=by omega
     have h5:=hstep (at2 n) (by omega)
     simp only [hlf,Acj,if_false] at h5
     rw [show at2 n+1=n.keys.length by omega] at h5
     omega
    ·have h5:=KB n ha6
     omega
  ·rw [eL];simp;omega
  ·rw [eR];simp;omega
  ·intro i hi
   simp only [eL,eK] at hi⊢
   simp only [Acw] at hi
   simp only [List.getElem_take]
   exact hrise _ _ (by omega) (by omega)
  ·intro i hi
   simp only [eR,eK] at hi⊢
   simp only [Aco] at hi
   simp only [Agz]
   exact .inl (hrise (at2 n+i) (at2 n - 1) (by omega) (by omega))
  ·have hk1:n.keys.take (at2 n - 1)++[n.keys[at2 n - 1]'(by omega)]++n.keys.drop (at2 n)=n.keys:=by
    rw [←Acx,show at2 n - 1+1=at2 n by omega,Agv]
   rw [eL,eR,eK]
   simp only [Cj,Acj,if_false]
   rw [hk1,Agv]
   obtain⟨lf,ks,vs,is⟩:=n
   simp only at hlf hvl⊢
   obtain rfl:=Acm hvl
   subst hlf;rfl
end Go.Gk.Node
end
section
namespace Go.Gk
open Go
section
section
variable {P:Program}{pan:List PanicEntry→AS}{Qn:Env→AS}{Ls L:List Ac}{ρ:Env}{d:Ac}{s:GS}{t:Nat}{tk:Bool}
theorem CV{x:Operand}{b o n c l h m:Nat}{lo hi mx:Option Operand} (ex:ev ρ x=.slice (some ⟨b,o,none⟩) n c) (hc:DQ n c (lo.map (ev ρ)) (hi.map (ev ρ)) (mx.map (ev ρ))=some (l,h,m))
  (k:∀o',(m≠l→o'=o+l)→gws P pan Qn s Ls (upd ρ t (.slice (some ⟨b,o',none⟩) (h - l) (m - l))) d L):gws P pan Qn (.op tk ⟨some t,none,.sl 1 x lo hi mx⟩ s) Ls ρ d L:=by
 by_cases hml:m=l
 ·refine w_q rfl (v:=.slice (some ⟨b,o,none⟩) (h - l) (m - l)) ⟨some ⟨b,o,none⟩,n,c,l,h,m,ex,fun q=>absurd hml q,hc,by rw [if_pos hml]⟩ (k o (fun q=>absurd hml q))
 ·refine w_q rfl (v:=.slice (some ⟨b,o+l,none⟩) (h - l) (m - l)) ⟨some ⟨b,o,none⟩,n,c,l,h,m,ex,fun _ a' ha=>by cases ha;rfl,hc,by rw [if_neg hml];simp⟩ (k (o+l) (fun _=>rfl))
theorem CS{n c:Nat}{v:Value}{k:IntKind}{j:Int}{i:Nat} (ev:v=.int k j) (hj:j=(i:Int)) (hi:i≤n):DQ n c (some v) none none=some (i,n,c):=by
 subst ev;subst hj
 simp only [DQ,GN,Gs,GM,Agr,Acj,if_false,Adz,bnd]
 rw [if_pos (by omega)];simp
theorem Jc{n c:Nat}{v:Value}{k:IntKind}{j:Int}{i:Nat} (ev:v=.int k j) (hj:j=(i:Int)) (hi:i≤c):DQ n c none (some v) none=some (0,i,c):=by
 subst ev;subst hj
 simp only [DQ,GN,Gs,GM,Adz,Aeq,bnd]
 rw [if_pos (by omega)];simp
theorem TH{n c:Nat}{v w:Value}{k k':IntKind}{j j':Int}{i i':Nat} (ev:v=.int k j) (ew:w=.int k' j') (hj:j=(i:Int)) (hj':j'=(i':Int)) (hi:i≤i') (hi':i'≤c):DQ n c (some v) (some w) none=some (i,i',c):=by
 subst ev;subst hj;subst ew;subst hj'
 simp only [DQ,GN,Gs,GM,Adz,Aeq,bnd]
 rw [if_pos (by omega),Adz,if_pos (by omega)];simp
theorem TU{n c:Nat}{v w u:Value}{k k' k'':IntKind}{j j' j'':Int}{i i' i'':Nat} (ev:v=.int k j) (ew:w=.int k' j') (eu:u=.int k'' j'') (hj:j=(i:Int)) (hj':j'=(i':Int)) (hj'':j''=(i'':Int)) (hi:i≤i') (hi':i'≤i'') (hi'':i''≤c):
  DQ n c (some v) (some w) (some u)=some (i,i',i''):=by
 subst ev;subst hj;subst ew;subst hj';subst eu;subst hj''
 simp only [DQ,GN,Gs,GM,Adz,Aeq,bnd]
 rw [if_pos (by omega),Adz,if_pos (by omega),Adz,if_pos (by omega)];simp
theorem YN{by_:Nat}{z:List Value}{x y:Operand}{b o n c m:Nat}{j:Int}{Co:List Value} (ex:ev ρ x=.slice (some ⟨b,o,none⟩) n c) (ey:ev ρ y=.int .i64 j) (hj:j=(m:Int)) (hlt:c<n+m) (hmax:n+m≤140737488355328) (hb:(n+m)*by_≤140737488355328) (hl:Co.length=n)
  (ho:∀i u,Co[i]?=some u→HC d (Ls++L++L) ⟨b,o+i,none⟩ u)
  (k:∀b T c',n+m≤c'→c'≤9223372036854775807→gws P pan Qn s Ls (upd ρ t (.slice (some ⟨b,0,none⟩) (n+m) c')) d (bx b T (Co++Bp z (c' - n))::L)):gws P pan Qn (.op false ⟨some t,none,.mop (.zap 1 by_ z x y)⟩ s) Ls ρ d L:=by
 subst hj
 refine⟨d,L,Vs.refl d L,?_⟩
 simp only [gop,gi,mi,maxLen]
 refine⟨_,n,c,m,Co,ex,ey,hlt,by omega,by simpa using hb,by simpa using hl,(fun q=>by cases q),fun a' ha i u hu=>by cases ha;rw [Addr.add_lit];exact ho i u hu,fun b T c' h1 h2=>⟨_,_,Vs.refl _ _,?_⟩⟩
 rw [Aen]
 exact k b T c' h1 h2
theorem YL{z:List Value}{x:Operand}{t:Option Nat}{a:Option Addr}{n c:Nat} (ex:ev ρ x=.slice a n c) (k:(n=0∧gws P pan Qn s Ls (put ρ t (.tuple #[])) d L)∨∃i b o T l,a=some ⟨b,o,none⟩∧L[i]?=some (bx b T l)∧o+n≤l.length∧
  gws P pan Qn s Ls (put ρ t (.tuple #[])) d (L.set i (bx b T (patch l o (Bp z n))))):gws P pan Qn (.op false ⟨t,none,.mop (.clz 1 z x)⟩ s) Ls ρ d L:=by
 refine⟨d,L,Vs.refl d L,?_⟩
 simp only [gop,gi,mi,Aen]
 refine⟨a,n,c,ex,?_⟩
 rcases k with ⟨h1,h2⟩|⟨i,b,o,T,l,h1,h2,h3,h4⟩
 ·exact .inl ⟨h1,_,_,Vs.refl _ _,h2⟩
 ·exact .inr ⟨i,b,o,T,l,h1,h2,h3,_,_,Vs.refl _ _,h4⟩
theorem YC{x y:Operand}{b o n c b' o' n' c':Nat} (i j:Nat) {T T':TypeId}{l l':List Value} (ex:ev ρ x=.slice (some ⟨b,o,none⟩) n c) (ey:ev ρ y=.slice (some ⟨b',o',none⟩) n' c') (hij:i≠j) (hi:L[i]?=some (bx b T l)) (hj:L[j]?=some (bx b' T' l')) (hl:l'≠[])
  (k:gws P pan Qn s Ls (upd ρ t (.bool false)) d L):gws P pan Qn (.op false ⟨some t,none,.mop (.ovl x y)⟩ s) Ls ρ d L:=by
 refine⟨d,L,Vs.refl d L,?_⟩
 simp only [gop,gi,mi]
 exact⟨_,n,c,_,n',c',ex,ey,⟨_,_,Vs.refl _ _,k⟩,.inr (.inr ⟨i,j,b,o,T,l,b',o',T',l',rfl,rfl,hij,hi,hj,hl⟩)⟩
theorem G2{x y:Operand}{t:Option Nat} (i:Nat) {b o n c b' o' m xc:Nat}{T:TypeId}{l news:List Value} (ex:ev ρ x=.slice (some ⟨b,o,none⟩) n c) (ey:ev ρ y=.slice (some ⟨b',o',none⟩) m xc) (hi:L[i]?=some (bx b T l)) (hl:news.length=min m n) (h1:(news.all (·.oneCell'))=true)
  (hx:∀j u,news[j]?=some u→HC d (Ls++L++L) ⟨b',o'+j,none⟩ u) (ho:o+news.length≤l.length) (k:gws P pan Qn s Ls (put ρ t (.int .i64 ((min m n:Nat):Int))) d (L.set i (bx b T (patch l o news)))):
  gws P pan Qn (.op false ⟨t,none,.mop (.cpy 1 x y)⟩ s) Ls ρ d L:=by
 refine⟨d,L,Vs.refl d L,?_⟩
 simp only [gop,gi,mi]
 exact⟨_,n,c,_,m,xc,news,ex,ey,by simpa using hl,h1,(fun q=>by cases q),fun a' ha j u hu=>by cases ha;rw [Addr.add_lit];exact hx j u hu,.inr ⟨i,b,o,T,l,rfl,hi,ho,_,_,Vs.refl _ _,k⟩⟩
theorem Aa7{x:Operand}{l:List UInt8} (ex:ev ρ x=Bs l) (hl:l.length≤140737488355328) (k:∀v d',Le d d'→(∃a c,v=.slice a l.length c)→(∃b c cs,v=.slice (some ⟨b,0,none⟩) l.length c∧l.length≤c∧c≤9223372036854775807∧DCs d' b 0 cs∧cs.length=c∧cs.take l.length=l.map Az)→gws P pan Qn s Ls (upd ρ t v) d' L):
  gws P pan Qn (.op false ⟨some t,none,.mop (.s2b x)⟩ s) Ls ρ d L:=by
 refine⟨d,L,Vs.refl d L,?_⟩
 simp only [gop,gi,mi]
 refine⟨l,ex,hl,fun b T fr c h1 h2=>⟨_,_,Vs.freeze,?_⟩⟩
 refine k _ _ (Le.AI _ _) ⟨_,_,rfl⟩ ⟨b,c,l.map Az++Acr (c - l.length) (.int .u8 0),rfl,h1,h2,⟨_,T,fr,.inr (Cy _ _),fun i u hu=>?_⟩,by simp;omega,by simp⟩
 rw [Aeh]
 simpa using hu
end
section
variable {P:Program}{pan:List PanicEntry→AS}{Qn:Env→AS}{Ls L:List Ac}{ρ:Env}{d:Ac}{s:GS}{t:Nat}
theorem Wc{by_:Nat}{z:List Value}{x y:Operand} (i:Nat) {b o n c b' o' m xc:Nat}{T:TypeId}{l news:List Value} (ex:ev ρ x=.slice (some ⟨b,o,none⟩) n c) (ey:ev ρ y=.slice (some ⟨b',o',none⟩) m xc) (hi:L[i]?=some (bx b T l)) (hl:news.length=m) (h1:(news.all (·.oneCell'))=true)
  (hx:∀j u,news[j]?=some u→HC d (Ls++L++L) ⟨b',o'+j,none⟩ u) (hle:n+m≤c) (hc:c≤9223372036854775807) (ho:o+(n+m)≤l.length) (k:gws P pan Qn s Ls (upd ρ t (.slice (some ⟨b,o,none⟩) (n+m) c)) d (L.set i (bx b T (patch l (o+n) news)))):
  gws P pan Qn (.op false ⟨some t,none,.app 1 by_ z x y⟩ s) Ls ρ d L:=by
 refine⟨d,L,Vs.refl d L,?_⟩
 simp only [gop,gi,maxLen,Aen]
 exact⟨_,n,c,_,m,xc,news,ex,ey,hl,h1,(fun q=>by cases q),fun a' ha j u hu=>by cases ha;rw [Addr.add_lit];exact hx j u hu,by omega,hc,fun _=>.inr ⟨i,b,o,T,l,rfl,hi,ho,_,_,Vs.refl _ _,k⟩,fun q=>by omega⟩
end
end
end Go.Gk
end
