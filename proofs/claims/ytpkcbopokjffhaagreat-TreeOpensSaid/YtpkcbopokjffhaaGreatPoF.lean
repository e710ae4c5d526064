/-
  Our own texts, one behind the other: GkIns GkTr0 GkTr1 GkHL GkHM GkHN GkHO GkTr3 Gk43 GkTr2 GkTr4 GkTr5 GkTrS GkTr6 GkTr7 Gk41 GkTrK GkTrQ GkTrF GkTr8 GkTrG GkTrP GkTrR Gk44 Gk20 Gk25 Gk45 GkTrT GkH6.
-/
import Derived.Below
import Derived.Shelf.Unicode.DecodeSlow
import Derived.Shelf.Sort.Plain
import Derived.Shelf.Slices.In.SortNone
import Derived.Test.YtpkcbopokjffhaaGreatPoE
open Nat renaming le_of_ble_eq_true→Aca,le_refl→Ach,zero_le→Adf,zero_add→Aeh,mul_one→Aen,succ_ne_zero→Aez,mod_eq_of_lt→Afd,not_lt_zero→Afm,min_eq_left→Agw
open List.Sublist renaming refl→Acb,cons_cons→Aeo
open Bool renaming and_eq_true→Acd,false_eq_true→Acj,or_eq_true→Adr,not_eq_true→Aev,not_eq_false'→Afu,false_ne_true→Ahn
open List renaming getElem?_eq_getElem→Ace,getD_eq_getElem?_getD→Acf,append_assoc→Acg,perm_append_comm→Aci,mem_append→Ack,length_append→Acl,eq_nil_of_length_eq_zero→Acm,length_drop→Aco,getElem?_eq_some_iff→Acp,all_eq_true→Acq,replicate→Acr,length_cons→Acs,mem_cons_self→Acu,mem_singleton→Acv,length_take→Acw,take_succ_eq_append_getElem→Acx,mem_cons_of_mem→Acy,getElem_mem→Ada,mem_cons→Adb,range→Ade,length_set→Adg,mem_append_left→Adh,drop_eq_getElem_cons→Adi,perm_middle→Adj,mem_append_right→Adk,sublist_append_right→Adm,length_replicate→Adn,getElem?_eq_none→Adq,perm_append_comm_assoc→Ady,getElem?_drop→Aea,getElem?_append_right→Aeb,take_of_length_le→Aec,getElem?_append_left→Aed,nil_sublist→Aef,take_length→Aeg,getElem_of_mem→Aei,getElem?_take→Aek,getD_cons_succ→Aeu,mem_of_getElem?→Aew,getD_cons_zero→Aey,pairwise_iff_getElem→Afc,ext_getElem?→Afg,nodup_append→Afi,nodup_cons→Afr,length_singleton→Afs,drop_length→Afv,eraseIdx_sublist→Agc,mem_of_mem_drop→Agf,getElem?_cons_succ→Agm,drop_left→Agp,nodup_nil→Agq,mem_of_mem_take→Aha,take_left→Ahc
open List.Perm renaming cons→Acn,swap→Adc,refl→Adp,append_right→Afb,append_left→Aga
open Int renaming toNat_natCast→Agh
section
namespace Go.Gk
open Go
attribute [local irreducible] gwp gws
theorem As.one{α:Type}{R:Ac→List Value→α→Prop}{d:Ac}{v:Value}{xs:List α}{h:Ac}:As 1 R d v xs h↔∃cs,BM 1 v xs.length cs h∧∀i (hi:i<xs.length) u,cs[i]?=some u→R d [u] xs[i]:=by
 constructor
 ·rintro⟨cs,h1,h2⟩
  refine⟨cs,h1,fun i hi u hu=>?_⟩
  have:=h2 i hi
  unfold chunk at this
  rw [Aen,Adi (by have:=h1.1;omega),List.take_succ_cons,List.take_zero] at this
  obtain⟨hlt,rfl⟩:=Acp.1 hu
  exact this
 ·rintro⟨cs,h1,h2⟩
  refine⟨cs,h1,fun i hi=>?_⟩
  have hl:i<cs.length:=by have:=h1.1;omega
  unfold chunk
  rw [Aen,Adi hl,List.take_succ_cons,List.take_zero]
  exact h2 i hi cs[i] (Ace hl)
def BX{α:Type} (xs:List α) (i:Nat) (y:α):List α:=xs.take i++y::xs.drop i
theorem E4{α:Type}{xs:List α}{i:Nat}{y:α} (h:i≤xs.length):(BX xs i y).length=xs.length+1:=by unfold BX;simp;omega
theorem LA{α:Type}{xs:List α}{i j:Nat}{y:α} (h:i≤xs.length):(BX xs i y)[j]?=if j<i then xs[j]? else if j=i then some y else xs[j - 1]?:=by
 unfold BX
 by_cases h1:j<i
 ·rw [if_pos h1,Aed (by simp;omega),Aek,if_pos h1]
 ·rw [if_neg h1,Aeb (by simp;omega)]
  have hl:(xs.take i).length=i:=by simp;omega
  rw [hl]
  by_cases h2:j=i
  ·subst h2;simp
  ·rw [if_neg h2]
   obtain⟨m,hm⟩:∃m,j - i=m+1:=⟨j - i - 1,by omega⟩
   rw [hm,Agm,Aea]
   congr 1;omega
theorem BM.ins{n c b:Nat}{T:TypeId}{l cs:List Value}{i:Nat}{u:Value} (hc:cs.length=n) (hn:n+1≤140737488355328) (hi:i≤n) (h3:n+1≤c) (h4:c≤9223372036854775807) (h5:c≤l.length) (h6:∀j,j<n+1→l[j]?=(BX cs i u)[j]?):
  BM 1 (.slice (some ⟨b,0,none⟩) (n+1) c) (n+1) (BX cs i u) (bx b T l):=by
 have hil:(BX cs i u).length=n+1:=by rw [E4 (by omega),hc]
 refine BM.mk (by rw [hil];omega) hn h3 h4 (by omega) ?_
 apply Afg
 intro j
 rw [hil,Aek]
 by_cases hj:j<n+1
 ·rw [if_pos hj,h6 j hj]
 ·rw [if_neg hj,Adq (by omega)]
theorem As.ins{α:Type}{R:Ac→List Value→α→Prop}{d:Ac}{v:Value}{xs:List α}{h:Ac}{cs:List Value}{u:Value}{y:α}{i:Nat} (hi:i≤xs.length) (hcl:cs.length=xs.length) (h1:BM 1 v (xs.length+1) (BX cs i u) h) (h2:∀i (hi:i<xs.length) u,cs[i]?=some u→R d [u] xs[i]) (h3:R d [u] y):As 1 R d v (BX xs i y) h:=by
 rw [As.one]
 refine⟨BX cs i u,by rw [E4 hi];exact h1,fun j hj w hw=>?_⟩
 have hx:(BX xs i y)[j]?=some (BX xs i y)[j]:=Ace hj
 rw [LA (by omega)] at hw
 rw [LA hi] at hx
 rw [E4 hi] at hj
 by_cases q1:j<i
 ·rw [if_pos q1] at hw hx
  have:=h2 j (by omega) w hw
  rw [Ace (by omega)] at hx
  rw [←Option.some.inj hx];exact this
 ·rw [if_neg q1] at hw hx
  by_cases q2:j=i
  ·rw [if_pos q2] at hw hx
   rw [←Option.some.inj hx,←Option.some.inj hw];exact h3
  ·rw [if_neg q2] at hw hx
   have:=h2 (j - 1) (by omega) w hw
   rw [Ace (by omega)] at hx
   rw [←Option.some.inj hx];exact this
theorem GK{p:Value→Bool}{cs:List Value}{i:Nat} (h:cs.all p=true):(cs.drop i).all p=true:=by
 rw [Acq] at h⊢
 exact fun x hx=>h x (Agf hx)
theorem RR{cs l:List Value}{i n:Nat}{u:Value} (hc:cs.length=n) (hi:i<n) (hl:n+1≤l.length) (h:∀j,j<i→l[j]?=cs[j]?) (j:Nat) (hj:j<n+1):(patch (patch l (0+i) [u]) (0+(i+1)) (cs.drop i))[j]?=(BX cs i u)[j]?:=by
 have e1:(patch l (0+i) [u]).length=l.length:=Bu (by simp;omega)
 rw [CB (by rw [e1,Aco];omega),CB (by simp;omega),LA (by omega),Aco]
 by_cases q1:j<i
 ·rw [if_pos q1,if_neg (by omega),if_neg (by simp;omega),h j q1]
 ·rw [if_neg q1]
  by_cases q2:j=i
  ·subst q2
   rw [if_pos rfl,if_neg (by omega),if_pos (by simp)]
   simp
  ·rw [if_neg q2,if_pos (by omega),Aea]
   congr 1;omega
theorem Sd{cs l:List Value}{i n:Nat}{u:Value} (hc:cs.length=n) (hi:i<n) (hl:n+1≤l.length) (h:∀j,j<n→l[j]?=cs[j]?) (j:Nat) (hj:j<n+1):(patch (patch l (0+(i+1)) (cs.drop i)) (0+i) [u])[j]?=(BX cs i u)[j]?:=by
 have e1:(patch l (0+(i+1)) (cs.drop i)).length=l.length:=Bu (by rw [Aco];omega)
 rw [CB (by rw [e1];simp;omega),CB (by rw [Aco];omega),LA (by omega),Aco]
 by_cases q1:j<i
 ·rw [if_pos q1,if_neg (by simp;omega),if_neg (by omega),h j (by omega)]
 ·rw [if_neg q1]
  by_cases q2:j=i
  ·subst q2
   rw [if_pos rfl,if_pos (by simp)]
   simp
  ·rw [if_neg q2,if_neg (by simp;omega),if_pos (by omega),Aea]
   congr 1;omega
def JH{α:Type} (R:Ac→List Value→α→Prop) (P:Program) (f:FuncId):Prop:=∀{d:Ac}{v:Value}{xs:List α}{h:Ac}{i b:Nat}{T:TypeId}{u:Value}{y:α},As 1 R d v xs h→i≤xs.length→xs.length≤1000000000000→R d [u] y→Fy R→
 Aw P f [v,.int .i64 i,.slice (some ⟨b,0,none⟩) 1 1] d [bx b T [u],h] (Ret fun r d' L'=>d'=d∧∃h',L'=[h']∧As 1 R d r (BX xs i y) h')
def Hk(a0:Nat):AY:=⟨95,[(.tmp 6)],(sR (o1 6 (.mv nS) .done) (sR (om 10 0<|om 11 1<|o1 12 (.sl 1 (tP 10) (some (tP 11)) none none) .done) (sR (om 13 2<|oL 14 13<|om 7 14 .done) (.seq (sR (om 15 7<|ob 16 .eql (tP 15) (kZ 0) .done) (.cond (tP 16) (sR (om 17 0<|om 6 17 .done) .ret) .skip)) (sR (om 18 0<|oL 19 18<|om 8 19 .done) (.seq (sR (om 20 1<|om 21 8<|ob 22 .eql (tP 20) (tP 21) .done) (.cond (tP 22) (sR (om 23 0<|om 24 2<|o1 25 (.app 1 24 [(.slice none 0 0)] (tP 23) (tP 24))<|om 6 25 .done) .ret) .skip)) (.seq (sR (om 26 8<|om 27 7<|ob 28 .add (tP 26) (tP 27)<|om 29 0<|o1 30 (.cap (tP 29))<|ob 31 .gtr (tP 28) (tP 30) .done) (.cond (tP 31) (sR (om 32 0<|om 33 1<|o1 34 (.sl 1 (tP 32) none (some (tP 33)) none)<|om 35 8<|om 36 7<|ob 37 .add (tP 35) (tP 36)<|om 38 1<|ob 39 .sub (tP 37) (tP 38)<|o1 40 (.mop (.zap 1 24 [(.slice none 0 0)] (tP 34) (tP 39)))<|om 9 40 .done) (sR (om 41 9<|om 42 1<|o1 43 (.sl 1 (tP 41) (some (tP 42)) none none)<|om 44 2<|o1 45 (.mop (.cpy 1 (tP 43) (tP 44))) .done) (.seq (.reg true (pm 46 9<|pm 47 1<|pm 48 7<|p1 49 (.bin .add (tP 47) (tP 48))<|p1 50 (.sl 1 (tP 46) (some (tP 49)) none none)<|pm 51 0<|pm 52 1<|p1 53 (.sl 1 (tP 51) (some (tP 52)) none none)<|o1 54 (.mop (.cpy 1 (tP 50) (tP 53))) .done)) (sR (om 55 9<|om 6 55 .done) .ret)))) .skip)) (sR (om 56 0<|om 57 8<|om 58 7<|ob 59 .add (tP 57) (tP 58)<|o1 60 (.sl 1 (tP 56) none (some (tP 59)) none)<|om 0 60 .done) (.seq (sR (om 61 2<|om 62 0<|om 63 1<|om 64 7<|ob 65 .add (tP 63) (tP 64)<|o1 66 (.sl 1 (tP 62) (some (tP 65)) none none)<|o1 67 (.mop (.ovl (tP 61) (tP 66)))<|o1 68 (.un .not (tP 67)) .done) (.cond (tP 68) (.seq (.reg true (pm 69 0<|pm 70 1<|pm 71 7<|p1 72 (.bin .add (tP 70) (tP 71))<|p1 73 (.sl 1 (tP 69) (some (tP 72)) none none)<|pm 74 0<|pm 75 1<|p1 76 (.sl 1 (tP 74) (some (tP 75)) none none)<|o1 77 (.mop (.cpy 1 (tP 73) (tP 76))) .done)) (sR (om 78 0<|om 79 1<|o1 80 (.sl 1 (tP 78) (some (tP 79)) none none)<|om 81 2<|o1 82 (.mop (.cpy 1 (tP 80) (tP 81))) .done) (sR (om 83 0<|om 6 83 .done) .ret))) .skip)) (sR (om 84 0<|om 85 8<|o1 86 (.sl 1 (tP 84) (some (tP 85)) none none)<|om 87 2<|o1 88 (.mop (.cpy 1 (tP 86) (tP 87))) .done) (sR (om 89 0<|om 90 1<|o1 91 (.sl 1 (tP 89) (some (tP 90)) none none)<|om 92 7<|oc 93 a0 [(tP 91),(tP 92)] .done) (sR (om 94 0<|om 6 94 .done) .ret))))))))))))⟩
theorem Qs{P:Program}{f f1:FuncId} (hd:dec P f=some (Hk f1)):JH RBs P f:=by
 intro d v xs h i b T u y ho hi hxl hy hC
 refine AG hd (Aca rfl) ?_
 have ho':=ho
 rw [As.one] at ho'
 obtain⟨cs,h1,h2⟩:=ho'
 have hcl:cs.length=xs.length:=by have:=h1.1;omega
 obtain⟨va,vc,rfl⟩:=ho.val
 show gwp P _ _ _ _ _
 obtain⟨-,h3,⟨hn1,hn2,rfl⟩|⟨b1,T1,l,c,hn1,rfl,h4,h5,h6,h7⟩⟩:=h1
 ·simp only [Value.slice.injEq] at hn1
  obtain⟨rfl, -,rfl⟩:=hn1
  obtain rfl:=Acm hn2
  obtain rfl:i=0:=by simpa using hi
  (refine Ad<|Am rfl<|Aa<|Ad<|Am rfl<|Ab rfl ?_)
  refine w_q rfl (v:=.slice none 0 0) ⟨none,0,0,0,0,0,rfl,fun q=>absurd rfl q,rfl,rfl⟩ ?_
  (refine Aa<|Ad<|Am rfl<|AL rfl<|Ab rfl<|Aa<|Ah<|Ad<|Ab rfl<|AJ rfl rfl<|Aa<|Ar rfl (by omega)<|Al<|Ad<|Am rfl<|AL rfl<|Ab rfl<|Aa<|Ah<|Ad<|Ab rfl<|Ab rfl<|AJ rfl rfl<|Aa<|Ay rfl (by omega)<|Ad<|Am rfl<|Am rfl ?_)
  refine D8 (R:=RBs) 0 rfl rfl ho rfl (As.Es (x:=y) rfl hy) hC (by omega) (by simp) (by simp) (fun v' h' ho'=>?_)
  (refine AK<|Aa<|Ao ?_)
  exact EF [v'] ⟨rfl,trivial⟩ (Acb _) ⟨rfl,h',rfl,ho'⟩
 ·cases hn1
  have hcu:(cs.all (·.oneCell'))=true:=by
   rw [Acq]
   intro x hx
   obtain⟨j,hj,rfl⟩:=Aei hx
   have:=hC _ _ _ (h2 j (by omega) _ (Ace hj))
   simpa using this
  have hl7:∀j,j<xs.length→l[j]?=cs[j]?:=fun j hj=>by
   rw [←h7,Aek,if_pos (by omega)]
  (refine Ad<|Am rfl<|Aa<|Ad<|Am rfl<|Ab rfl ?_)
  refine CV (l:=i) (h:=xs.length) (m:=vc) rfl (CS rfl rfl hi) (fun o1 _=>?_)
  (refine Aa<|Ad<|Am rfl<|AL rfl<|Ab rfl<|Aa<|Ah<|Ad<|Ab rfl<|AJ rfl rfl<|Aa<|Ar rfl (by omega)<|Al<|Ad<|Am rfl<|AL rfl<|Ab rfl<|Aa<|Ah<|Ad<|Ab rfl<|Ab rfl<|AJ rfl rfl<|Aa ?_)
  by_cases e:i=xs.length
  ·subst e
   (refine Ay rfl (by omega)<|Ad<|Am rfl<|Am rfl ?_)
   refine D8 (R:=RBs) 0 rfl rfl ho rfl (As.Es (x:=y) rfl hy) hC (by omega) (by simp;omega) (by simp;omega) (fun v' h' ho'=>?_)
   (refine AK<|Aa<|Ao ?_)
   exact EF [v'] ⟨rfl,trivial⟩ (Acb _) ⟨rfl,h',rfl,by rw [BX,Aeg,Afv];exact ho'⟩
  ·by_cases hc:vc<xs.length+1
   ·(refine Ar rfl (by omega)<|Al<|Ah<|Ad<|Ab rfl<|Ab rfl<|AN rfl rfl (by omega) (by omega)<|Am rfl<|Qy rfl<|BS rfl rfl<|Aa<|Ay rfl (by omega)<|Ad<|Am rfl<|Ab rfl ?_)
    refine CV (l:=0) (h:=i) (m:=vc) rfl (Jc rfl rfl (by omega)) (fun o2 ho2=>?_)
    obtain rfl:o2=0:=by rw [ho2 (by omega)]
    (refine Ab rfl<|Ab rfl<|AN rfl rfl (by omega) (by omega)<|Ab rfl<|CY rfl rfl (by omega) (by omega) ?_)
    refine YN (m:=xs.length+1 - i) (Co:=cs.take i) rfl rfl (by omega) (by omega) (by omega) (by omega) (by rw [Acw];omega) (fun j w hw=>?_) (fun b2 T2 c' h8 h9=>?_)
    ·rw [Aek] at hw
     by_cases q:j<i
     ·rw [if_pos q,←hl7 j (by omega)] at hw
      exact Aj 1 rfl (by rw [Aeh];exact hw)
     ·rw [if_neg q] at hw;cases hw
    rw [show i - 0+(xs.length+1 - i)=xs.length+1 by omega] at h8⊢
    have hl2:(cs.take i++Bp [.slice none 0 0] (c' - (i - 0))).length=c':=by rw [Acl,Acw];simp [Bp];omega
    obtain⟨l2,hl2e⟩:∃l2,l2=cs.take i++Bp [.slice none 0 0] (c' - (i - 0)):=⟨_,rfl⟩
    have hl2t:∀j,j<i→l2[j]?=cs[j]?:=fun j hj=>by
     rw [hl2e,Aed (by rw [Acw];omega),Aek,if_pos hj]
    rw [←hl2e] at hl2⊢
    (refine Am rfl<|Aa<|Ad<|Am rfl<|Ab rfl ?_)
    refine CV (l:=i) (h:=xs.length+1) (m:=c') rfl (CS rfl rfl (by omega)) (fun o3 ho3=>?_)
    obtain rfl:o3=0+i:=ho3 (by omega)
    (apply Am;rfl)
    refine G2 0 (news:=[u]) rfl rfl rfl (by simp;omega) (by simpa using hC _ _ _ hy) (fun j w hw=>?_) (by simp;omega) ?_
    ·obtain rfl:j=0:=by
      have:=(Acp.1 hw).1
      simpa using this
     exact Aj 1 rfl hw
    (refine Aa<|Ah ?_)
    refine Br [] [bx b2 T2 (patch l2 (0+i) [u]),bx b T [u],bx b1 T1 l] rfl ?_
    (refine Am rfl<|Ab rfl<|Ab rfl<|AN rfl rfl (by omega) (by omega) ?_)
    refine CV (l:=i+1) (h:=xs.length+1) (m:=c') rfl (CS rfl rfl (by omega)) (fun o4 ho4=>?_)
    obtain rfl:o4=0+(i+1):=ho4 (by omega)
    (refine Am rfl<|Ab rfl ?_)
    refine CV (l:=i) (h:=xs.length) (m:=vc) rfl (CS rfl rfl (by omega)) (fun o5 ho5=>?_)
    obtain rfl:o5=0+i:=ho5 (by omega)
    skip
    refine G2 0 (news:=cs.drop i) rfl rfl rfl (by rw [Aco];omega) (GK hcu) (fun j w hw=>?_) (by rw [Bu (by simp;omega),Aco];omega) ?_
    ·rw [Aea] at hw
     have:=(Acp.1 hw).1
     exact Aj 2 rfl (by rw [Aeh,hl7 _ (by omega)];exact hw)
    (refine Aa<|Ad<|Am rfl<|Am rfl<|Aa<|Ao ?_)
    refine EF [.slice (some ⟨b2,0,none⟩) (xs.length+1) c'] ⟨rfl,trivial⟩ (L':=[bx b2 T2 (patch (patch l2 (0+i) [u]) (0+(i+1)) (cs.drop i))]) (Aeo _ (Aef _)) ⟨rfl,_,rfl,As.ins hi hcl (BM.ins hcl (by omega) hi h8 h9 ?_ ?_) h2 hy⟩
    ·rw [Bu (by rw [Bu (by simp;omega),Aco];omega),Bu (by simp;omega)];omega
    ·exact RR hcl (by omega) (by omega) hl2t
   ·have hlne:l≠[]:=by intro q;rw [q] at h6;simp at h6;omega
    (refine Ar rfl (by omega)<|Al<|Ah<|Ad<|Ab rfl<|Ab rfl<|AN rfl rfl (by omega) (by omega)<|Am rfl<|Qy rfl<|BS rfl rfl<|Aa<|Ar rfl (by omega)<|Al<|Ad<|Am rfl<|Ab rfl<|Ab rfl<|AN rfl rfl (by omega) (by omega) ?_)
    refine CV (l:=0) (h:=xs.length+1) (m:=vc) rfl (Jc rfl (by omega) (by omega)) (fun o2 ho2=>?_)
    obtain rfl:o2=0:=by rw [ho2 (by omega)]
    (refine Am rfl<|Aa<|Ah<|Ad<|Am rfl<|Am rfl<|Ab rfl<|Ab rfl<|AN rfl rfl (by omega) (by omega) ?_)
    refine CV (l:=i+1) (h:=xs.length+1 - 0) (m:=vc - 0) rfl (CS rfl (by omega) (by omega)) (fun o3 ho3=>?_)
    skip
    refine YC 0 1 rfl rfl (by decide) rfl rfl hlne ?_
    (refine Bj rfl<|Aa<|Be rfl<|Ah ?_)
    refine Br [] [bx b T [u],bx b1 T1 l] rfl ?_
    (refine Am rfl<|Ab rfl<|Ab rfl<|AN rfl rfl (by omega) (by omega) ?_)
    refine CV (l:=i+1) (h:=xs.length+1 - 0) (m:=vc - 0) rfl (CS rfl (by omega) (by omega)) (fun o4 ho4=>?_)
    obtain rfl:o4=0+(i+1):=ho4 (by omega)
    (refine Am rfl<|Ab rfl ?_)
    refine CV (l:=i) (h:=xs.length+1 - 0) (m:=vc - 0) rfl (CS rfl (by omega) (by omega)) (fun o5 ho5=>?_)
    obtain rfl:o5=0+i:=ho5 (by omega)
    skip
    refine G2 1 (news:=cs.drop i) rfl rfl rfl (by rw [Aco];omega) (GK hcu) (fun j w hw=>?_) (by rw [Aco];omega) ?_
    ·rw [Aea] at hw
     have:=(Acp.1 hw).1
     exact Aj 1 rfl (by rw [Aeh,hl7 _ (by omega)];exact hw)
    (refine Aa<|Ad<|Am rfl<|Ab rfl ?_)
    refine CV (l:=i) (h:=xs.length+1 - 0) (m:=vc - 0) rfl (CS rfl (by omega) (by omega)) (fun o6 ho6=>?_)
    obtain rfl:o6=0+i:=ho6 (by omega)
    (apply Am;rfl)
    refine G2 1 (news:=[u]) rfl rfl rfl (by simp;omega) (by simpa using hC _ _ _ hy) (fun j w hw=>?_) (by rw [Bu (by rw [Aco];omega)];simp;omega) ?_
    ·obtain rfl:j=0:=by
      have:=(Acp.1 hw).1
      simpa using this
     exact Aj 0 rfl hw
    (refine Aa<|Ad<|Am rfl<|Am rfl<|Aa<|Ao ?_)
    refine EF [.slice (some ⟨b1,0,none⟩) (xs.length+1 - 0) (vc - 0)] ⟨rfl,trivial⟩ (L':=[bx b1 T1 (patch (patch l (0+(i+1)) (cs.drop i)) (0+i) [u])]) (List.Sublist.cons _ (Acb _)) ⟨rfl,_,rfl,As.ins hi hcl (BM.ins hcl (by omega) hi (by omega) (by omega) ?_ ?_) h2 hy⟩
    ·rw [Bu (by rw [Bu (by rw [Aco];omega)];simp;omega),Bu (by rw [Aco];omega)];omega
    ·exact Sd hcl (by omega) (by omega) hl7
def Ie(a0:Nat):AY:=⟨95,[(.tmp 6)],(sR (o1 6 (.mv nS) .done) (sR (om 10 0<|om 11 1<|o1 12 (.sl 1 (tP 10) (some (tP 11)) none none) .done) (sR (om 13 2<|oL 14 13<|om 7 14 .done) (.seq (sR (om 15 7<|ob 16 .eql (tP 15) (kZ 0) .done) (.cond (tP 16) (sR (om 17 0<|om 6 17 .done) .ret) .skip)) (sR (om 18 0<|oL 19 18<|om 8 19 .done) (.seq (sR (om 20 1<|om 21 8<|ob 22 .eql (tP 20) (tP 21) .done) (.cond (tP 22) (sR (om 23 0<|om 24 2<|o1 25 (.app 1 8 [(.int .i64 0)] (tP 23) (tP 24))<|om 6 25 .done) .ret) .skip)) (.seq (sR (om 26 8<|om 27 7<|ob 28 .add (tP 26) (tP 27)<|om 29 0<|o1 30 (.cap (tP 29))<|ob 31 .gtr (tP 28) (tP 30) .done) (.cond (tP 31) (sR (om 32 0<|om 33 1<|o1 34 (.sl 1 (tP 32) none (some (tP 33)) none)<|om 35 8<|om 36 7<|ob 37 .add (tP 35) (tP 36)<|om 38 1<|ob 39 .sub (tP 37) (tP 38)<|o1 40 (.mop (.zap 1 8 [(.int .i64 0)] (tP 34) (tP 39)))<|om 9 40 .done) (sR (om 41 9<|om 42 1<|o1 43 (.sl 1 (tP 41) (some (tP 42)) none none)<|om 44 2<|o1 45 (.mop (.cpy 1 (tP 43) (tP 44))) .done) (.seq (.reg true (pm 46 9<|pm 47 1<|pm 48 7<|p1 49 (.bin .add (tP 47) (tP 48))<|p1 50 (.sl 1 (tP 46) (some (tP 49)) none none)<|pm 51 0<|pm 52 1<|p1 53 (.sl 1 (tP 51) (some (tP 52)) none none)<|o1 54 (.mop (.cpy 1 (tP 50) (tP 53))) .done)) (sR (om 55 9<|om 6 55 .done) .ret)))) .skip)) (sR (om 56 0<|om 57 8<|om 58 7<|ob 59 .add (tP 57) (tP 58)<|o1 60 (.sl 1 (tP 56) none (some (tP 59)) none)<|om 0 60 .done) (.seq (sR (om 61 2<|om 62 0<|om 63 1<|om 64 7<|ob 65 .add (tP 63) (tP 64)<|o1 66 (.sl 1 (tP 62) (some (tP 65)) none none)<|o1 67 (.mop (.ovl (tP 61) (tP 66)))<|o1 68 (.un .not (tP 67)) .done) (.cond (tP 68) (.seq (.reg true (pm 69 0<|pm 70 1<|pm 71 7<|p1 72 (.bin .add (tP 70) (tP 71))<|p1 73 (.sl 1 (tP 69) (some (tP 72)) none none)<|pm 74 0<|pm 75 1<|p1 76 (.sl 1 (tP 74) (some (tP 75)) none none)<|o1 77 (.mop (.cpy 1 (tP 73) (tP 76))) .done)) (sR (om 78 0<|om 79 1<|o1 80 (.sl 1 (tP 78) (some (tP 79)) none none)<|om 81 2<|o1 82 (.mop (.cpy 1 (tP 80) (tP 81))) .done) (sR (om 83 0<|om 6 83 .done) .ret))) .skip)) (sR (om 84 0<|om 85 8<|o1 86 (.sl 1 (tP 84) (some (tP 85)) none none)<|om 87 2<|o1 88 (.mop (.cpy 1 (tP 86) (tP 87))) .done) (sR (om 89 0<|om 90 1<|o1 91 (.sl 1 (tP 89) (some (tP 90)) none none)<|om 92 7<|oc 93 a0 [(tP 91),(tP 92)] .done) (sR (om 94 0<|om 6 94 .done) .ret))))))))))))⟩
theorem S3{P:Program}{f f1:FuncId} (hd:dec P f=some (Ie f1)):JH Bi P f:=by
 intro d v xs h i b T u y ho hi hxl hy hC
 refine AG hd (Aca rfl) ?_
 have ho':=ho
 rw [As.one] at ho'
 obtain⟨cs,h1,h2⟩:=ho'
 have hcl:cs.length=xs.length:=by have:=h1.1;omega
 obtain⟨va,vc,rfl⟩:=ho.val
 show gwp P _ _ _ _ _
 obtain⟨-,h3,⟨hn1,hn2,rfl⟩|⟨b1,T1,l,c,hn1,rfl,h4,h5,h6,h7⟩⟩:=h1
 ·simp only [Value.slice.injEq] at hn1
  obtain⟨rfl, -,rfl⟩:=hn1
  obtain rfl:=Acm hn2
  obtain rfl:i=0:=by simpa using hi
  (refine Ad<|Am rfl<|Aa<|Ad<|Am rfl<|Ab rfl ?_)
  refine w_q rfl (v:=.slice none 0 0) ⟨none,0,0,0,0,0,rfl,fun q=>absurd rfl q,rfl,rfl⟩ ?_
  (refine Aa<|Ad<|Am rfl<|AL rfl<|Ab rfl<|Aa<|Ah<|Ad<|Ab rfl<|AJ rfl rfl<|Aa<|Ar rfl (by omega)<|Al<|Ad<|Am rfl<|AL rfl<|Ab rfl<|Aa<|Ah<|Ad<|Ab rfl<|Ab rfl<|AJ rfl rfl<|Aa<|Ay rfl (by omega)<|Ad<|Am rfl<|Am rfl ?_)
  refine D8 (R:=Bi) 0 rfl rfl ho rfl (As.Es (x:=y) rfl hy) hC (by omega) (by simp) (by simp) (fun v' h' ho'=>?_)
  (refine AK<|Aa<|Ao ?_)
  exact EF [v'] ⟨rfl,trivial⟩ (Acb _) ⟨rfl,h',rfl,ho'⟩
 ·cases hn1
  have hcu:(cs.all (·.oneCell'))=true:=by
   rw [Acq]
   intro x hx
   obtain⟨j,hj,rfl⟩:=Aei hx
   have:=hC _ _ _ (h2 j (by omega) _ (Ace hj))
   simpa using this
  have hl7:∀j,j<xs.length→l[j]?=cs[j]?:=fun j hj=>by
   rw [←h7,Aek,if_pos (by omega)]
  (refine Ad<|Am rfl<|Aa<|Ad<|Am rfl<|Ab rfl ?_)
  refine CV (l:=i) (h:=xs.length) (m:=vc) rfl (CS rfl rfl hi) (fun o1 _=>?_)
  (refine Aa<|Ad<|Am rfl<|AL rfl<|Ab rfl<|Aa<|Ah<|Ad<|Ab rfl<|AJ rfl rfl<|Aa<|Ar rfl (by omega)<|Al<|Ad<|Am rfl<|AL rfl<|Ab rfl<|Aa<|Ah<|Ad<|Ab rfl<|Ab rfl<|AJ rfl rfl<|Aa ?_)
  by_cases e:i=xs.length
  ·subst e
   (refine Ay rfl (by omega)<|Ad<|Am rfl<|Am rfl ?_)
   refine D8 (R:=Bi) 0 rfl rfl ho rfl (As.Es (x:=y) rfl hy) hC (by omega) (by simp;omega) (by simp;omega) (fun v' h' ho'=>?_)
   (refine AK<|Aa<|Ao ?_)
   exact EF [v'] ⟨rfl,trivial⟩ (Acb _) ⟨rfl,h',rfl,by rw [BX,Aeg,Afv];exact ho'⟩
  ·by_cases hc:vc<xs.length+1
   ·(refine Ar rfl (by omega)<|Al<|Ah<|Ad<|Ab rfl<|Ab rfl<|AN rfl rfl (by omega) (by omega)<|Am rfl<|Qy rfl<|BS rfl rfl<|Aa<|Ay rfl (by omega)<|Ad<|Am rfl<|Ab rfl ?_)
    refine CV (l:=0) (h:=i) (m:=vc) rfl (Jc rfl rfl (by omega)) (fun o2 ho2=>?_)
    obtain rfl:o2=0:=by rw [ho2 (by omega)]
    (refine Ab rfl<|Ab rfl<|AN rfl rfl (by omega) (by omega)<|Ab rfl<|CY rfl rfl (by omega) (by omega) ?_)
    refine YN (m:=xs.length+1 - i) (Co:=cs.take i) rfl rfl (by omega) (by omega) (by omega) (by omega) (by rw [Acw];omega) (fun j w hw=>?_) (fun b2 T2 c' h8 h9=>?_)
    ·rw [Aek] at hw
     by_cases q:j<i
     ·rw [if_pos q,←hl7 j (by omega)] at hw
      exact Aj 1 rfl (by rw [Aeh];exact hw)
     ·rw [if_neg q] at hw;cases hw
    rw [show i - 0+(xs.length+1 - i)=xs.length+1 by omega] at h8⊢
    have hl2:(cs.take i++Bp [.int .i64 0] (c' - (i - 0))).length=c':=by rw [Acl,Acw];simp [Bp];omega
    obtain⟨l2,hl2e⟩:∃l2,l2=cs.take i++Bp [.int .i64 0] (c' - (i - 0)):=⟨_,rfl⟩
    have hl2t:∀j,j<i→l2[j]?=cs[j]?:=fun j hj=>by
     rw [hl2e,Aed (by rw [Acw];omega),Aek,if_pos hj]
    rw [←hl2e] at hl2⊢
    (refine Am rfl<|Aa<|Ad<|Am rfl<|Ab rfl ?_)
    refine CV (l:=i) (h:=xs.length+1) (m:=c') rfl (CS rfl rfl (by omega)) (fun o3 ho3=>?_)
    obtain rfl:o3=0+i:=ho3 (by omega)
    (apply Am;rfl)
    refine G2 0 (news:=[u]) rfl rfl rfl (by simp;omega) (by simpa using hC _ _ _ hy) (fun j w hw=>?_) (by simp;omega) ?_
    ·obtain rfl:j=0:=by
      have:=(Acp.1 hw).1
      simpa using this
     exact Aj 1 rfl hw
    (refine Aa<|Ah ?_)
    refine Br [] [bx b2 T2 (patch l2 (0+i) [u]),bx b T [u],bx b1 T1 l] rfl ?_
    (refine Am rfl<|Ab rfl<|Ab rfl<|AN rfl rfl (by omega) (by omega) ?_)
    refine CV (l:=i+1) (h:=xs.length+1) (m:=c') rfl (CS rfl rfl (by omega)) (fun o4 ho4=>?_)
    obtain rfl:o4=0+(i+1):=ho4 (by omega)
    (refine Am rfl<|Ab rfl ?_)
    refine CV (l:=i) (h:=xs.length) (m:=vc) rfl (CS rfl rfl (by omega)) (fun o5 ho5=>?_)
    obtain rfl:o5=0+i:=ho5 (by omega)
    skip
    refine G2 0 (news:=cs.drop i) rfl rfl rfl (by rw [Aco];omega) (GK hcu) (fun j w hw=>?_) (by rw [Bu (by simp;omega),Aco];omega) ?_
    ·rw [Aea] at hw
     have:=(Acp.1 hw).1
     exact Aj 2 rfl (by rw [Aeh,hl7 _ (by omega)];exact hw)
    (refine Aa<|Ad<|Am rfl<|Am rfl<|Aa<|Ao ?_)
    refine EF [.slice (some ⟨b2,0,none⟩) (xs.length+1) c'] ⟨rfl,trivial⟩ (L':=[bx b2 T2 (patch (patch l2 (0+i) [u]) (0+(i+1)) (cs.drop i))]) (Aeo _ (Aef _)) ⟨rfl,_,rfl,As.ins hi hcl (BM.ins hcl (by omega) hi h8 h9 ?_ ?_) h2 hy⟩
    ·rw [Bu (by rw [Bu (by simp;omega),Aco];omega),Bu (by simp;omega)];omega
    ·exact RR hcl (by omega) (by omega) hl2t
   ·have hlne:l≠[]:=by intro q;rw [q] at h6;simp at h6;omega
    (refine Ar rfl (by omega)<|Al<|Ah<|Ad<|Ab rfl<|Ab rfl<|AN rfl rfl (by omega) (by omega)<|Am rfl<|Qy rfl<|BS rfl rfl<|Aa<|Ar rfl (by omega)<|Al<|Ad<|Am rfl<|Ab rfl<|Ab rfl<|AN rfl rfl (by omega) (by omega) ?_)
    refine CV (l:=0) (h:=xs.length+1) (m:=vc) rfl (Jc rfl (by omega) (by omega)) (fun o2 ho2=>?_)
    obtain rfl:o2=0:=by rw [ho2 (by omega)]
    (refine Am rfl<|Aa<|Ah<|Ad<|Am rfl<|Am rfl<|Ab rfl<|Ab rfl<|AN rfl rfl (by omega) (by omega) ?_)
    refine CV (l:=i+1) (h:=xs.length+1 - 0) (m:=vc - 0) rfl (CS rfl (by omega) (by omega)) (fun o3 ho3=>?_)
    skip
    refine YC 0 1 rfl rfl (by decide) rfl rfl hlne ?_
    (refine Bj rfl<|Aa<|Be rfl<|Ah ?_)
    refine Br [] [bx b T [u],bx b1 T1 l] rfl ?_
    (refine Am rfl<|Ab rfl<|Ab rfl<|AN rfl rfl (by omega) (by omega) ?_)
    refine CV (l:=i+1) (h:=xs.length+1 - 0) (m:=vc - 0) rfl (CS rfl (by omega) (by omega)) (fun o4 ho4=>?_)
    obtain rfl:o4=0+(i+1):=ho4 (by omega)
    (refine Am rfl<|Ab rfl ?_)
    refine CV (l:=i) (h:=xs.length+1 - 0) (m:=vc - 0) rfl (CS rfl (by omega) (by omega)) (fun o5 ho5=>?_)
    obtain rfl:o5=0+i:=ho5 (by omega)
    skip
    refine G2 1 (news:=cs.drop i) rfl rfl rfl (by rw [Aco];omega) (GK hcu) (fun j w hw=>?_) (by rw [Aco];omega) ?_
    ·rw [Aea] at hw
     have:=(Acp.1 hw).1
     exact Aj 1 rfl (by rw [Aeh,hl7 _ (by omega)];exact hw)
    (refine Aa<|Ad<|Am rfl<|Ab rfl ?_)
    refine CV (l:=i) (h:=xs.length+1 - 0) (m:=vc - 0) rfl (CS rfl (by omega) (by omega)) (fun o6 ho6=>?_)
    obtain rfl:o6=0+i:=ho6 (by omega)
    (apply Am;rfl)
    refine G2 1 (news:=[u]) rfl rfl rfl (by simp;omega) (by simpa using hC _ _ _ hy) (fun j w hw=>?_) (by rw [Bu (by rw [Aco];omega)];simp;omega) ?_
    ·obtain rfl:j=0:=by
      have:=(Acp.1 hw).1
      simpa using this
     exact Aj 0 rfl hw
    (refine Aa<|Ad<|Am rfl<|Am rfl<|Aa<|Ao ?_)
    refine EF [.slice (some ⟨b1,0,none⟩) (xs.length+1 - 0) (vc - 0)] ⟨rfl,trivial⟩ (L':=[bx b1 T1 (patch (patch l (0+(i+1)) (cs.drop i)) (0+i) [u])]) (List.Sublist.cons _ (Acb _)) ⟨rfl,_,rfl,As.ins hi hcl (BM.ins hcl (by omega) hi (by omega) (by omega) ?_ ?_) h2 hy⟩
    ·rw [Bu (by rw [Bu (by rw [Aco];omega)];simp;omega),Bu (by rw [Aco];omega)];omega
    ·exact Sd hcl (by omega) (by omega) hl7
def JM{α:Type} (R:Ac→List Value→α→Prop) (P:Program) (f:FuncId):Prop:=∀{d:Ac}{v:Value}{xs:List α}{h:Ac}{i:Nat}{j:Int},As 1 R d v xs h→i<xs.length→j=((i+1:Nat):Int)→xs.length≤1000000000000→Fy R→
 Aw P f [v,.int .i64 i,.int .i64 j] d [h] (Ret fun r d' L'=>d'=d∧∃h',L'=[h']∧As 1 R d r (xs.eraseIdx i) h')
theorem As.del{α:Type}{R:Ac→List Value→α→Prop}{d:Ac}{xs:List α}{cs l:List Value}{b c:Nat}{T:TypeId}{i:Nat} (hi:i<xs.length) (hcl:cs.length=xs.length) (hn:xs.length≤140737488355328) (h3:xs.length≤c) (h4:c≤9223372036854775807) (h5:c≤l.length)
  (h6:∀j,j<xs.length - 1→l[j]?=(cs.eraseIdx i)[j]?) (h2:∀i (hi:i<xs.length) u,cs[i]?=some u→R d [u] xs[i]):As 1 R d (.slice (some ⟨b,0,none⟩) (xs.length - 1) c) (xs.eraseIdx i) (bx b T l):=by
 have hel:(xs.eraseIdx i).length=xs.length - 1:=by rw [List.length_eraseIdx,if_pos hi]
 have hcl':(cs.eraseIdx i).length=xs.length - 1:=by rw [List.length_eraseIdx,if_pos (by omega),hcl]
 have ho:BM 1 (.slice (some ⟨b,0,none⟩) (xs.length - 1) c) (xs.length - 1) (cs.eraseIdx i) (bx b T l):=by
  refine BM.mk (by rw [hcl'];omega) (by omega) (by omega) h4 (by omega) ?_
  apply Afg
  intro j
  rw [hcl',Aek]
  by_cases hj:j<xs.length - 1
  ·rw [if_pos hj,h6 j hj]
  ·rw [if_neg hj,Adq (by omega)]
 rw [As.one]
 refine⟨cs.eraseIdx i,by rw [hel];exact ho,fun j hj u hu=>?_⟩
 ·have hx:(xs.eraseIdx i)[j]?=some (xs.eraseIdx i)[j]:=Ace (by omega)
  rw [List.getElem?_eraseIdx] at hu hx
  by_cases q:j<i
  ·rw [if_pos q] at hu hx
   rw [Ace (by omega)] at hx
   rw [←Option.some.inj hx];exact h2 j (by omega) u hu
  ·rw [if_neg q] at hu hx
   rw [Ace (by omega)] at hx
   rw [←Option.some.inj hx];exact h2 (j+1) (by omega) u hu
theorem RP{cs l:List Value}{i n:Nat}{z:List Value} (hc:cs.length=n) (hi:i<n) (hl:n≤l.length) (h:∀j,j<n→l[j]?=cs[j]?) (j:Nat) (hj:j<n - 1):(patch (patch l (0+i) (cs.drop (i+1))) (n - 1) (Bp z 1))[j]?=(cs.eraseIdx i)[j]?:=by
 have e1:(patch l (0+i) (cs.drop (i+1))).length=l.length:=Bu (by rw [Aco];omega)
 have e2:(Bp z 1).length=1:=by simp [Bp]
 rw [CB (by rw [e1,e2];omega),if_neg (by omega),CB (by rw [Aco];omega),Aco,List.getElem?_eraseIdx]
 by_cases q:j<i
 ·rw [if_pos q,if_neg (by omega),h j (by omega)]
 ·rw [if_neg q,if_pos (by omega),Aea]
  congr 1;omega
def Hj:AY:=⟨33,[(.tmp 6)],(sR (o1 6 (.mv nS) .done) (sR (om 8 0<|om 9 1<|om 10 2<|om 11 0<|oL 12 11<|o1 13 (.sl 1 (tP 8) (some (tP 9)) (some (tP 10)) (some (tP 12))) .done) (.seq (sR (om 14 1<|om 15 2<|ob 16 .eql (tP 14) (tP 15) .done) (.cond (tP 16) (sR (om 17 0<|om 6 17 .done) .ret) .skip)) (sR (om 18 0<|oL 19 18<|om 7 19 .done) (.seq (.reg true (pm 20 0<|pm 21 1<|p1 22 (.sl 1 (tP 20) none (some (tP 21)) none)<|pm 23 0<|pm 24 2<|p1 25 (.sl 1 (tP 23) (some (tP 24)) none none)<|o1 26 (.app 1 24 [(.slice none 0 0)] (tP 22) (tP 25)) (.bar (pm 0 26 .done)))) (sR (om 27 0<|om 28 0<|oL 29 28<|om 30 7<|o1 31 (.sl 1 (tP 27) (some (tP 29)) (some (tP 30)) none)<|o0 (.mop (.clz 1 [(.slice none 0 0)] (tP 31))) .done) (sR (om 32 0<|om 6 32 .done) .ret)))))))⟩
theorem Qo{P:Program}{f:FuncId} (hd:dec P f=some Hj):JM RBs P f:=by
 intro d v xs h i jj ho hi hjj hxl hC
 refine AG hd (Aca rfl) ?_
 have ho':=ho
 rw [As.one] at ho'
 obtain⟨cs,h1,h2⟩:=ho'
 have hcl:cs.length=xs.length:=by have:=h1.1;omega
 obtain⟨va,vc,rfl⟩:=ho.val
 show gwp P _ _ _ _ _
 obtain⟨-,h3,⟨hn1,hn2,rfl⟩|⟨b1,T1,l,c,hn1,rfl,h4,h5,h6,h7⟩⟩:=h1
 ·omega
 ·cases hn1
  have hcu:(cs.all (·.oneCell'))=true:=by
   rw [Acq]
   intro x hx
   obtain⟨j,hj,rfl⟩:=Aei hx
   have:=hC _ _ _ (h2 j (by omega) _ (Ace hj))
   simpa using this
  have hl7:∀j,j<xs.length→l[j]?=cs[j]?:=fun j hj=>by
   rw [←h7,Aek,if_pos (by omega)]
  (refine Ad<|Am rfl<|Aa<|Ad<|Am rfl<|Ab rfl<|Ab rfl<|Am rfl<|AL rfl ?_)
  refine CV (l:=i) (h:=i+1) (m:=xs.length) rfl (TU rfl rfl rfl rfl hjj rfl (by omega) (by omega) (by omega)) (fun o1 _=>?_)
  (refine Aa<|Ah<|Ad<|Ab rfl<|Ab rfl<|AJ rfl rfl<|Aa<|Ar rfl (by omega)<|Al<|Ad<|Am rfl<|AL rfl<|Ab rfl<|Aa<|Ah ?_)
  refine Br [] [bx b1 T1 l] rfl ?_
  (refine Am rfl<|Ab rfl ?_)
  refine CV (l:=0) (h:=i) (m:=vc) rfl (Jc rfl rfl (by omega)) (fun o2 ho2=>?_)
  obtain rfl:o2=0:=by rw [ho2 (by omega)]
  (refine Am rfl<|Ab rfl ?_)
  refine CV (l:=i+1) (h:=xs.length) (m:=vc) rfl (CS rfl hjj (by omega)) (fun o3 ho3=>?_)
  skip
  refine Wc 0 (news:=cs.drop (i+1)) rfl rfl rfl (by rw [Aco,hcl]) (GK hcu) (fun j w hw=>?_) (by omega) (by omega) (by omega) ?_
  ·rw [Aea] at hw
   have:=(Acp.1 hw).1
   obtain rfl:o3=0+(i+1):=ho3 (by omega)
   exact Aj 0 rfl (by rw [Aeh,hl7 _ (by omega)];exact hw)
  rw [show i - 0+(xs.length - (i+1))=xs.length - 1 by omega,show 0+(i - 0)=0+i by omega]
  (refine B4<|Am rfl<|Aa<|Ad<|Am rfl<|Am rfl<|AL rfl<|Ab rfl ?_)
  refine CV (l:=xs.length - 1) (h:=xs.length) (m:=vc - 0) rfl (TH rfl rfl rfl rfl (by omega) (by omega)) (fun o4 ho4=>?_)
  obtain rfl:o4=0+(xs.length - 1):=ho4 (by omega)
  rw [show xs.length - (xs.length - 1)=1 by omega]
  refine YL rfl (.inr ⟨0,b1,_,T1,_,rfl,rfl,by rw [Bu (by rw [Aco];omega)];omega,?_⟩)
  (refine Aa<|Ad<|Am rfl<|Am rfl<|Aa<|Ao ?_)
  refine EF [.slice (some ⟨b1,0,none⟩) (xs.length - 1) (vc - 0)] ⟨rfl,trivial⟩ (Acb _) ⟨rfl,_,rfl,As.del hi hcl h3 (by omega) (by omega) ?_ ?_ h2⟩
  ·rw [Bu (by rw [Bu (by rw [Aco];omega)];simp [Bp];omega),Bu (by rw [Aco];omega)];omega
  ·rw [show 0+(xs.length - 1)=xs.length - 1 by omega]
   exact RP hcl hi (by omega) hl7
def Ic:AY:=⟨33,[(.tmp 6)],(sR (o1 6 (.mv nS) .done) (sR (om 8 0<|om 9 1<|om 10 2<|om 11 0<|oL 12 11<|o1 13 (.sl 1 (tP 8) (some (tP 9)) (some (tP 10)) (some (tP 12))) .done) (.seq (sR (om 14 1<|om 15 2<|ob 16 .eql (tP 14) (tP 15) .done) (.cond (tP 16) (sR (om 17 0<|om 6 17 .done) .ret) .skip)) (sR (om 18 0<|oL 19 18<|om 7 19 .done) (.seq (.reg true (pm 20 0<|pm 21 1<|p1 22 (.sl 1 (tP 20) none (some (tP 21)) none)<|pm 23 0<|pm 24 2<|p1 25 (.sl 1 (tP 23) (some (tP 24)) none none)<|o1 26 (.app 1 8 [(.int .i64 0)] (tP 22) (tP 25)) (.bar (pm 0 26 .done)))) (sR (om 27 0<|om 28 0<|oL 29 28<|om 30 7<|o1 31 (.sl 1 (tP 27) (some (tP 29)) (some (tP 30)) none)<|o0 (.mop (.clz 1 [(.int .i64 0)] (tP 31))) .done) (sR (om 32 0<|om 6 32 .done) .ret)))))))⟩
theorem S9{P:Program}{f:FuncId} (hd:dec P f=some Ic):JM Bi P f:=by
 intro d v xs h i jj ho hi hjj hxl hC
 refine AG hd (Aca rfl) ?_
 have ho':=ho
 rw [As.one] at ho'
 obtain⟨cs,h1,h2⟩:=ho'
 have hcl:cs.length=xs.length:=by have:=h1.1;omega
 obtain⟨va,vc,rfl⟩:=ho.val
 show gwp P _ _ _ _ _
 obtain⟨-,h3,⟨hn1,hn2,rfl⟩|⟨b1,T1,l,c,hn1,rfl,h4,h5,h6,h7⟩⟩:=h1
 ·omega
 ·cases hn1
  have hcu:(cs.all (·.oneCell'))=true:=by
   rw [Acq]
   intro x hx
   obtain⟨j,hj,rfl⟩:=Aei hx
   have:=hC _ _ _ (h2 j (by omega) _ (Ace hj))
   simpa using this
  have hl7:∀j,j<xs.length→l[j]?=cs[j]?:=fun j hj=>by
   rw [←h7,Aek,if_pos (by omega)]
  (refine Ad<|Am rfl<|Aa<|Ad<|Am rfl<|Ab rfl<|Ab rfl<|Am rfl<|AL rfl ?_)
  refine CV (l:=i) (h:=i+1) (m:=xs.length) rfl (TU rfl rfl rfl rfl hjj rfl (by omega) (by omega) (by omega)) (fun o1 _=>?_)
  (refine Aa<|Ah<|Ad<|Ab rfl<|Ab rfl<|AJ rfl rfl<|Aa<|Ar rfl (by omega)<|Al<|Ad<|Am rfl<|AL rfl<|Ab rfl<|Aa<|Ah ?_)
  refine Br [] [bx b1 T1 l] rfl ?_
  (refine Am rfl<|Ab rfl ?_)
  refine CV (l:=0) (h:=i) (m:=vc) rfl (Jc rfl rfl (by omega)) (fun o2 ho2=>?_)
  obtain rfl:o2=0:=by rw [ho2 (by omega)]
  (refine Am rfl<|Ab rfl ?_)
  refine CV (l:=i+1) (h:=xs.length) (m:=vc) rfl (CS rfl hjj (by omega)) (fun o3 ho3=>?_)
  skip
  refine Wc 0 (news:=cs.drop (i+1)) rfl rfl rfl (by rw [Aco,hcl]) (GK hcu) (fun j w hw=>?_) (by omega) (by omega) (by omega) ?_
  ·rw [Aea] at hw
   have:=(Acp.1 hw).1
   obtain rfl:o3=0+(i+1):=ho3 (by omega)
   exact Aj 0 rfl (by rw [Aeh,hl7 _ (by omega)];exact hw)
  rw [show i - 0+(xs.length - (i+1))=xs.length - 1 by omega,show 0+(i - 0)=0+i by omega]
  (refine B4<|Am rfl<|Aa<|Ad<|Am rfl<|Am rfl<|AL rfl<|Ab rfl ?_)
  refine CV (l:=xs.length - 1) (h:=xs.length) (m:=vc - 0) rfl (TH rfl rfl rfl rfl (by omega) (by omega)) (fun o4 ho4=>?_)
  obtain rfl:o4=0+(xs.length - 1):=ho4 (by omega)
  rw [show xs.length - (xs.length - 1)=1 by omega]
  refine YL rfl (.inr ⟨0,b1,_,T1,_,rfl,rfl,by rw [Bu (by rw [Aco];omega)];omega,?_⟩)
  (refine Aa<|Ad<|Am rfl<|Am rfl<|Aa<|Ao ?_)
  refine EF [.slice (some ⟨b1,0,none⟩) (xs.length - 1) (vc - 0)] ⟨rfl,trivial⟩ (Acb _) ⟨rfl,_,rfl,As.del hi hcl h3 (by omega) (by omega) ?_ ?_ h2⟩
  ·rw [Bu (by rw [Bu (by rw [Aco];omega)];simp [Bp];omega),Bu (by rw [Aco];omega)];omega
  ·rw [show 0+(xs.length - 1)=xs.length - 1 by omega]
   exact RP hcl hi (by omega) hl7
end Go.Gk
end
section
namespace Go.Gk
theorem Vs.app{d d':Ac}{L L':List Ac} (h:Vs d L d' L') (M:List Ac):Vs d (L++M) d' (L'++M):=
 ⟨h.1,fun F W x=>by rw [Acg] at x⊢;exact h.2 (M++F) W x⟩
section
variable {P:Program}{pan:List PanicEntry→AS}{Qn:Env→AS}{Ls L:List Ac}{ρ:Env}{d:Ac}{s:GS}{t:Nat}
theorem A3{f:FuncId}{args:List Operand}{R:Value→Ac→List Ac→Prop}{vs:List Value}{A:List Ac} (l:List Ac) (hc:Aw P f vs d A (Ret R)) (hL:L=l++A) (ea:args.map (ev ρ)=vs)
  (h:∀v d' L',Le d d'→R v d' L'→gws P pan Qn s Ls (upd ρ t v) d' (l++L')):gws P pan Qn (.op false ⟨some t,none,.call f args⟩ s) Ls ρ d L:=by
 subst hL
 refine CU hc Aci ea (fun v d' L' hl hr=>⟨d',l++L',Vs.perm Aci,h v d' L' hl hr⟩)
theorem B3{f:FuncId}{args:List Operand}{vs:List Value}{v:Value}{A:List Ac} (l:List Ac) (hc:CW P f vs d A v) (hL:L=l++A) (ea:args.map (ev ρ)=vs) (h:gws P pan Qn s Ls (upd ρ t v) d L):
  gws P pan Qn (.op false ⟨some t,none,.call f args⟩ s) Ls ρ d L:=
 A3 l hc hL ea (fun r d' L' _ ⟨h1,h2,h3⟩=>by subst h1;subst h2;subst h3;rw [←hL];exact h)
end
end Go.Gk
namespace Go.Gk.Tre
open Go Go.Gk Go.Gk.Dev Go.Gk.Cch Go.Gk.Pgr Go.Gk.Chn Go.Gk.Node
def DJ(d:Ac) (cs:List Value) (n:AF) (hk hv hi:Ac):Prop:=∃kv vv iv,cs=[.bool n.leaf,kv,vv,iv]∧As 1 RBs d kv n.keys hk∧As 1 RBs d vv n.vals hv∧As 1 Bi d iv n.kids hi
theorem DJ.mono{d d':Ac}{cs:List Value}{n:AF}{hk hv hi:Ac} (h:DJ d cs n hk hv hi) (hl:Le d d'):DJ d' cs n hk hv hi:=
 let ⟨kv,vv,iv,e,a,b,c⟩:=h;⟨kv,vv,iv,e,a.D7 hl,b.D7 hl,c.Ih hl⟩
theorem DJ.zero{d:Ac}:DJ d [.bool false,.slice none 0 0,.slice none 0 0,.slice none 0 0] JO emp emp emp:=⟨_,_,_,rfl,As.nil,As.nil,As.nil⟩
theorem DJ.Ii{d d1:Ac}{cs:List Value}{n:AF}{hk hv hi:Ac} (o:DJ d cs n hk hv hi) (hl:Le d d1) (h1:Le hk d1) (h2:Le hv d1) (h3:Le hi d1):Cx d1 cs n:=by
 obtain⟨kv,vv,iv,rfl,a,b,c⟩:=o
 exact⟨kv,vv,iv,rfl,a.rsl EW (by omega) hl h1,b.rsl EW (by omega) hl h2,c.rsl Cb (by omega) hl h3⟩
theorem OB.grow{d d1:Ac}{v:Value}{xs:List (List UInt8)}{us:List Value}{h0:Ac}{hs:List Ac} (h1:BM 1 v xs.length us h0) (h2:∀i (hi:i<xs.length),∃u g,us[i]?=some u∧hs[i]?=some g∧As 1 AP d u xs[i] g) (hl:Le d d1) (hL:∀h∈hs,Le h d1):As 1 RBs d1 v xs h0:=by
 rw [As.one]
 refine⟨us,h1,fun i hi u hu=>?_⟩
 obtain⟨u',g,k1,k2,k3⟩:=h2 i hi
 rw [hu] at k1;cases k1
 exact⟨u,rfl,k3.rsl AX (by omega) hl (hL _ (Aew k2))⟩
theorem DK.AbD{d:Ac}{cs:List Value}{n:AF}{L:List Ac} (o:DK d cs n L):∃d' hk hv hi,Vs d L d' [hk,hv,hi]∧Le d d'∧DJ d' cs n hk hv hi:=by
 obtain⟨kv,vv,iv,Lk,Lv,hi,rfl,⟨us,h0,hs,a1,a2,a3,rfl⟩,⟨us',h0',hs',b1,b2,b3,rfl⟩,c,rfl⟩:=o
 obtain⟨d',v1,v2,v3⟩:=Vs.HV d (hs++hs')
 refine⟨d',h0,h0',hi,?_,v2,kv,vv,iv,rfl,OB.grow a1 a3 v2 (fun h hm=>v3 h (Adh _ hm)),OB.grow b1 b3 v2 (fun h hm=>v3 h (Adk _ hm)),c.Ih v2⟩
 have p:(h0::hs++(h0'::hs')++[hi]).Perm ((hs++hs')++[h0,h0',hi]):=by
  have e1:(h0::hs++(h0'::hs')++[hi])=h0::(hs++h0'::(hs'++[hi])):=by simp
  rw [e1]
  refine List.Perm.trans (Acn h0 (Adj)) ?_
  have e2:(hs++hs')++[h0,h0',hi]=(hs++hs')++(h0::([h0']++[hi])):=rfl
  rw [e2]
  refine List.Perm.trans ?_ List.perm_middle.symm
  refine Acn h0 ?_
  rw [show(hs++hs')++([h0']++[hi])=(hs++hs')++(h0'::[hi]) from rfl]
  refine List.Perm.trans ?_ List.perm_middle.symm
  rw [Acg]
 exact(Vs.perm p).trans (v1.app [h0,h0',hi])
def PgT(d:Ac) (s:PD) (dv pv:Value) (L:List Ac):Prop:=∃tc,Pg d {s with tc:=tc} dv pv L
theorem PgT.mono{d d':Ac}{s:PD}{dv pv:Value}{L:List Ac} (h:PgT d s dv pv L) (hl:Le d d'):PgT d' s dv pv L:=let ⟨tc,h⟩:=h;⟨tc,h.mono hl⟩
theorem PgT.of{d:Ac}{s:PD}{dv pv:Value}{L:List Ac} (h:Pg d s dv pv L):PgT d s dv pv L:=⟨s.tc,h⟩
theorem PgT.ptr{d:Ac}{s:PD}{dv pv:Value}{L:List Ac} (h:PgT d s dv pv L):∃b,pv=.pointer (some ⟨b,0,none⟩):=let ⟨_,h⟩:=h;h.ptr
theorem PgT.E0{d:Ac}{s:PD}{dv pv:Value}{L:List Ac} (h:PgT d s dv pv L):Pgr.Good s:=by
 obtain⟨tc,h⟩:=h
 have g:=h.E0
 exact⟨g.one,g.len,g.inn,g.syn,g.kd⟩
theorem PgT.full{d:Ac}{s:PD}{dv pv:Value}{L:List Ac} (h:PgT d s dv pv L) {k:Int} (hk:Bl s k):(s.bytes k).length=256:=by
 obtain⟨tc,h⟩:=h
 exact h.full (s:={s with tc:=tc}) hk
abbrev tb(bt:Nat) (Tt:TypeId) (pv:Value) (r h c:Int):Ac:=bx bt Tt [pv,.int .i64 r,.int .i64 h,.int .i64 c]
end Go.Gk.Tre
end
section
namespace Go.Gk.Tre
open Go Go.Gk Go.Gk.Dev Go.Gk.Cch Go.Gk.Pgr Go.Gk.Chn Go.Gk.Node
def N4(b:List UInt8):AF:=(Node.BJ b).getD JO
def OD(b:List UInt8):Int:=if (Node.BJ b).isSome then 0 else 200
def Bn(s:PD) (k:Int):AF×Int:=if Bl s k then(N4 (s.bytes k),OD (s.bytes k)) else(JO,240)
def A4(s:PD) (k:Int) (h:Int):AF×Int:=((Bn s k).1,if (Bn s k).2=0∧(Bn s k).1.leaf≠decide (h=1) then 200 else(Bn s k).2)
def Fk(c:List UInt8):Bool:=decide (c.length=7)&& decide (c.getD 0 0=1)
def Fw(c:List UInt8):Nat:=(c.getD 1 0).toNat*256+(c.getD 2 0).toNat
def EU(c:List UInt8):Nat:=(((c.getD 3 0).toNat*256+(c.getD 4 0).toNat)*256+(c.getD 5 0).toNat)*256+(c.getD 6 0).toNat
def inB(c:List UInt8):Bool:=decide (0<c.length)&& decide (c.getD 0 0=0)
def DH(s:PD) (c:List UInt8):List UInt8×Int:=if inB c then(c.drop 1,0) else if Fk c then(Chn.BJ s (Fw c) (EU c)).2 else([],200)
def bI(x:Int):UInt8:=UInt8.ofNat (x % 256).toNat
def F6(h n:Int):List UInt8:=[1,bI (h / 256),bI h,bI (n / 16777216),bI (n / 65536),bI (n / 256),bI n]
def BU(s:PD) (v:List UInt8):PD×List UInt8×Int:=if v.length≤15 then(s,0::v,0) else((B0 s v).1,F6 (B0 s v).2.1 v.length,(B0 s v).2.2)
def BO(s:PD) (c:List UInt8):PD×Int:=if inB c then(s,0) else if Fk c then DN s (Fw c) (EU c) else(s,200)
structure MdD where
 page:Int
 other:Int
 key:List UInt8
 size:Int
def Ci:MdD:=⟨0,0,[],0⟩
def Bt(s:PD) (page:Int) (n:AF):PD×Int×Int:=
 if By n then
  if 0≤page∧(s.put page (B6 n)).2≠240 then((s.put page (B6 n)).1,page,(s.put page (B6 n)).2)
  else if s.AV.2.2≠0 then(s.AV.1,0,s.AV.2.2)
  else if 0≤page then
   if (s.AV.1.drop page).2≠0 then((s.AV.1.drop page).1,0,(s.AV.1.drop page).2)
   else(((s.AV.1.drop page).1.put s.AV.2.1 (B6 n)).1,s.AV.2.1,((s.AV.1.drop page).1.put s.AV.2.1 (B6 n)).2)
  else((s.AV.1.put s.AV.2.1 (B6 n)).1,s.AV.2.1,(s.AV.1.put s.AV.2.1 (B6 n)).2)
 else(s,0,200)
def Bc(s:PD) (page:Int) (n:AF):PD×MdD×Int:=
 if By n then((Bt s page n).1,⟨(Bt s page n).2.1, -1,[],A5 n⟩,(Bt s page n).2.2)
 else if C9 n then
  let a:=Bt s page (AW n)
  if a.2.2=0 then let b:=Bt a.1 (-1) (Ba n);(b.1,⟨a.2.1,b.2.1,BB n,256⟩,b.2.2)
  else(a.1,Ci,a.2.2)
 else(s,Ci,200)
def Cm(s:PD) (page:Int) (n:AF) (i:Nat) (m:MdD):PD×MdD×Int:=
 if n.kids.getD i 0=m.page∧m.other<0 then(s,⟨page, -1,[],A5 n⟩,0)
 else if 0≤m.other then Bc s page {n with keys:=BX n.keys i m.key,kids:=BX (n.kids.set i m.page) (i+1) m.other}
 else Bc s page {n with kids:=n.kids.set i m.page}
def BY(s:PD) (page:Int) (key cell:List UInt8):Nat→PD×MdD×Bool×Int
 |0=>(s,Ci,false,200)
 |h+1=>
  let r:=A4 s page (h+1:Nat)
  if r.2≠0 then(s,Ci,false,r.2) else
  let i:=(findD r.1 key).1
  if h=0 then
   if (findD r.1 key).2 then
    let u:=BO s (r.1.vals.getD i [])
    if u.2≠0 then(u.1,Ci,false,u.2) else
    let w:=Bc u.1 page {r.1 with vals:=r.1.vals.set i cell}
    (w.1,w.2.1,false,w.2.2)
   else
    let w:=Bc s page {r.1 with keys:=BX r.1.keys i key,vals:=BX r.1.vals i cell}
    (w.1,w.2.1,true,w.2.2)
  else
   let u:=BY s (r.1.kids.getD i 0) key cell h
   if u.2.2.2≠0 then(u.1,Ci,false,u.2.2.2) else
   let w:=Cm u.1 page r.1 i u.2.1
   (w.1,w.2.1,u.2.2.1,w.2.2)
def Du(s:PD) (page:Int) (n:AF) (i0:Nat):PD×MdD×Int:=
 if n.keys.length=0 then(s,Ci,99999) else
 let i:=if i0=n.keys.length then i0 - 1 else i0
 let a:=Bn s (n.kids.getD i 0)
 if a.2≠0 then(s,Ci,a.2) else
 let b:=Bn s (n.kids.getD (i+1) 0)
 if b.2≠0 then(s,Ci,b.2) else
 if a.1.leaf≠b.1.leaf then(s,Ci,200) else
 let w:=Bc s (n.kids.getD i 0) (Cj a.1 b.1 (n.keys.getD i []))
 if w.2.2≠0 then(w.1,Ci,w.2.2) else
 let u:=w.1.drop (n.kids.getD (i+1) 0)
 if u.2≠0 then(u.1,Ci,u.2) else
 if 0≤w.2.1.other then Bc u.1 page {n with keys:=n.keys.set i w.2.1.key,kids:=(n.kids.set i w.2.1.page).set (i+1) w.2.1.other}
 else Bc u.1 page {n with keys:=n.keys.eraseIdx i,kids:=(n.kids.set i w.2.1.page).eraseIdx (i+1)}
def BT(s:PD) (page:Int) (key:List UInt8):Nat→PD×MdD×Bool×Int
 |0=>(s,Ci,false,200)
 |h+1=>
  let r:=A4 s page (h+1:Nat)
  if r.2≠0 then(s,Ci,false,r.2) else
  let i:=(findD r.1 key).1
  if h=0 then
   if (findD r.1 key).2 then
    let u:=BO s (r.1.vals.getD i [])
    if u.2≠0 then(u.1,Ci,false,u.2) else
    let w:=Bc u.1 page {r.1 with keys:=r.1.keys.eraseIdx i,vals:=r.1.vals.eraseIdx i}
    (w.1,w.2.1,true,w.2.2)
   else(s,⟨page, -1,[],256⟩,false,0)
  else
   let u:=BT s (r.1.kids.getD i 0) key h
   if u.2.2.2≠0∨u.2.2.1=false then(u.1,⟨page, -1,[],256⟩,u.2.2.1,u.2.2.2) else
   let w:=if u.2.1.other<0∧u.2.1.size<80 then Du u.1 page {r.1 with kids:=r.1.kids.set i u.2.1.page} i else Cm u.1 page r.1 i u.2.1
   (w.1,w.2.1,true,w.2.2)
structure TD where
 s:PD
 root:Int
 height:Nat
 count:Nat
def CK(t:TD) (m:MdD):TD×Int:=
 if m.other<0 then({t with root:=m.page},0)
 else
  let k:=Bt t.s (-1) ⟨false,[m.key],[],[m.page,m.other]⟩
  ({t with s:=k.1,root:=k.2.1,height:=t.height+1},k.2.2)
def DE(t:TD):TD×Int:=
 let r:=Bn t.s t.root
 if r.2≠0∨r.1.keys≠[] then(t,r.2) else
 let u:=t.s.drop t.root
 if u.2≠0 then({t with s:=u.1},u.2) else
 ({t with s:=u.1,root:=if r.1.leaf then -1 else r.1.kids.getD 0 0,height:=t.height - 1},0)
def CL(t:TD) (key value:List UInt8):TD×Int:=
 let c:=BU t.s value
 if c.2.2≠0 then({t with s:=c.1},c.2.2) else
 if t.height=0 then
  let k:=Bt c.1 (-1) ⟨true,[key],[c.2.1],[]⟩
  (⟨k.1,k.2.1,1,1⟩,k.2.2)
 else
  let u:=BY c.1 t.root key c.2.1 t.height
  if u.2.2.2≠0 then({t with s:=u.1},u.2.2.2) else
  CK {t with s:=u.1,count:=t.count+(if u.2.2.1 then 1 else 0)} u.2.1
def BP(t:TD) (key:List UInt8):TD×Bool×Int:=
 if t.height=0 then(t,false,0) else
 let u:=BT t.s t.root key t.height
 if u.2.2.2≠0∨u.2.2.1=false then({t with s:=u.1},false,u.2.2.2) else
 let g:=CK {t with s:=u.1,count:=t.count - 1} u.2.1
 if g.2≠0 then(g.1,true,g.2) else
 ((DE g.1).1,true,(DE g.1).2)
def B2(t:TD) (r:TD) (e:Int):TD:=if e=0 then r else{t with s:=r.s.back t.s.mark}
def EH(s:PD) (key:List UInt8):Int→Nat→List UInt8×Bool×Int
 |_,0=>([],false,0)
 |page,h+1=>
  let r:=A4 s page (h+1:Nat)
  if r.2≠0 then([],false,r.2) else
  if h=0 then
   if (findD r.1 key).2 then((DH s (r.1.vals.getD (findD r.1 key).1 [])).1,decide ((DH s (r.1.vals.getD (findD r.1 key).1 [])).2=0),(DH s (r.1.vals.getD (findD r.1 key).1 [])).2)
   else([],false,0)
  else EH s key (r.1.kids.getD (findD r.1 key).1 0) h
def F5(c:List UInt8):Nat:=if inB c then 0 else AQ (EU c)
def GO(s:PD) (key:List UInt8):Int→Nat→Nat
 |_,0=>0
 |page,h+1=>
  let r:=A4 s page (h+1:Nat)
  if h=0 then(if (findD r.1 key).2 then 1+F5 (r.1.vals.getD (findD r.1 key).1 []) else 1)
  else 1+GO s key (r.1.kids.getD (findD r.1 key).1 0) h
def BL(key:List UInt8):Int:=if key.length<1∨64<key.length then 2 else 0
end Go.Gk.Tre
end
section
namespace Go.Gk.Chn
open Go Go.Gk Go.Gk.Dev Go.Gk.Cch Go.Gk.Pgr
structure Tk (s0 s:PD) (l:List Int):Prop where
 frm:s.frm=s0.frm
 syn:s.syn=s0.syn
 round:s.round=s0.round
 len:s.kinds.length=s0.kinds.length
 kd:∀j,j<s0.kinds.length→s.kd j=if ((s0.frm+j:Nat):Int)∈l then 1 else s0.kd j
 was:∀k∈l,∃j,j<s0.kinds.length∧k=((s0.frm+j:Nat):Int)∧s0.kd j=0
 nd:l.Nodup
 fb:∀j,((s0.frm+j:Nat):Int)∉l→s.fb j=s0.fb j
 free:s.free+l.length=s0.free
theorem Tk.nil(s:PD):Tk s s []:=⟨rfl,rfl,rfl,rfl,fun j _=>(by simp),fun k hk=>(by cases hk),Agq,fun _ _=>rfl,rfl⟩
theorem Ni{s:PD}{i:Nat}{x:Int} (hi:i<s.kinds.length):(s.kinds.set i x).countP (·==0)+(if s.kinds[i]=0 then 1 else 0)=s.free+(if x=0 then 1 else 0):=by
 rw [List.countP_set hi]
 have hp:s.kinds[i]=0→0<s.free:=fun h=>List.countP_pos_iff.2 ⟨_,Ada hi,by simp [h]⟩
 have hf:s.free=s.kinds.countP (·==0):=rfl
 rw [hf] at hp⊢
 by_cases h0:s.kinds[i]=0
 ·have:=hp h0
  by_cases hx:x=0
  ·simp [h0,hx];omega
  ·simp [h0,hx];omega
 ·by_cases hx:x=0
  ·simp [h0,hx]
  ·simp [h0,hx]
theorem SJ{l:List Int} (h:C2 0 l=none):l.countP (·==0)=0:=by
 rw [List.countP_eq_zero]
 intro a ha e
 have:a=0:=by simpa using e
 subst this
 clear e
 induction l with
 |nil=>cases ha
 |cons y l ih=>
  rw [C2] at h
  split at h
  ·cases h
  ·rename_i hne
   rcases Adb.1 ha with rfl|ha
   ·exact hne rfl
   ·exact ih (by cases q:C2 0 l with|none=>rfl|some j=>rw [q] at h;cases h) ha
theorem Tk.take{s0 s:PD}{l:List Int} (h:Tk s0 s l):(s.AV.2.2=0∧Tk s0 s.AV.1 (l++[s.AV.2.1]))∨(s.AV.2.2=190∧s.AV.1=s∧s.free=0):=by
 unfold PD.AV
 cases hq:C2 0 s.kinds with
 |none=>exact .inr ⟨rfl,rfl,SJ hq⟩
 |some i=>
  obtain⟨hi,h0⟩:=FP hq
  refine .inl ⟨rfl,?_⟩
  show Tk s0 (s.G9 i) (l++[((s.frm+i:Nat):Int)])
  have hi0:i<s0.kinds.length:=by rw [←h.len];exact hi
  have hnot:((s0.frm+i:Nat):Int)∉l:=fun hm=>by
   have:=h.kd i hi0
   rw [if_pos hm,I7 hi,h0] at this
   cases this
  have h00:s0.kd i=0:=by
   have:=h.kd i hi0
   rw [if_neg hnot,I7 hi,h0] at this
   exact this.symm
  rw [h.frm]
  refine⟨h.frm,h.syn,h.round,by simp [PD.G9,h.len],fun j hj=>?_,fun k hk=>?_,?_,fun j hj=>?_,?_⟩
  ·show(s.kinds.set i 1).getD j 0=_
   rw [C5 hi]
   by_cases e:j=i
   ·subst e;rw [if_pos rfl,if_pos (by simp)]
   ·rw [if_neg e,show s.kinds.getD j 0=s.kd j from rfl,h.kd j hj]
    by_cases hm:((s0.frm+j:Nat):Int)∈l
    ·rw [if_pos hm,if_pos (Adh _ hm)]
    ·rw [if_neg hm,if_neg]
     intro hm'
     rcases Ack.1 hm' with q|q
     ·exact hm q
     ·have:=Acv.1 q;omega
  ·rcases Ack.1 hk with q|q
   ·exact h.was k q
   ·exact⟨i,hi0,Acv.1 q,h00⟩
  ·refine Afi.2 ⟨h.nd,by simp,fun a ha b hb=>?_⟩
   rw [Acv.1 hb]
   exact fun e=>hnot (e▸ha)
  ·show El s.fb i IF j=s0.fb j
   have hne:j≠i:=fun e=>hj (by rw [e];simp)
   rw [El,if_neg hne]
   exact h.fb j (fun q=>hj (Adh _ q))
  ·have hf:=Ni (s:=s) (i:=i) (x:=1) hi
   rw [if_pos h0,if_neg (by decide)] at hf
   have:=h.free
   show(s.kinds.set i 1).countP (·==0)+(l++[_]).length=s0.free
   rw [Acl,Afs]
   omega
theorem JQ{s0:PD}:∀{n:Nat}{s:PD}{l:List Int},Tk s0 s l→Tk s0 (BQ s l n).1 (BQ s l n).2.1∧(((BQ s l n).2.2=0∧n≤s.free)∨((BQ s l n).2.2=190∧s.free<n))
 |0,s,l,h=>⟨h,.inl ⟨rfl,Adf _⟩⟩
 |n+1,s,l,h=>by
  rw [BQ]
  rcases h.take with ⟨h1,h2⟩|⟨h1,h2,h3⟩
  ·rw [if_pos h1]
   obtain⟨k1,k2⟩:=JQ (n:=n) h2
   have hf:=h2.free
   have hf0:=h.free
   rw [Acl,Afs] at hf
   refine⟨k1,?_⟩
   rcases k2 with ⟨k2,k3⟩|⟨k2,k3⟩
   ·exact .inl ⟨k2,by omega⟩
   ·exact .inr ⟨k2,by omega⟩
  ·rw [if_neg (by rw [h1];decide)]
   simp only
   rw [h2]
   exact⟨h,.inr ⟨h1,by omega⟩⟩
theorem Wy{x:Int}{c:List UInt8} (h0:0≤x) (h1:x<65536):((Gn (D1 x c):Nat):Int)=x:=by
 unfold Gn D1
 simp only [Aey,Aeu,UInt8.toNat_ofNat']
 omega
theorem Wa{x:Int}{c:List UInt8}:((D1 x c).drop (2+c.length)).all (·==0)=true:=by
 unfold D1
 rw [Nat.add_comm 2]
 show((c++Acr (254 - c.length) 0).drop c.length).all (·==0)=true
 rw [Agp]
 simp
theorem Xx{x:Int}{c:List UInt8}:((D1 x c).drop 2).take c.length=c:=by
 unfold D1
 show(c++Acr (254 - c.length) 0).take c.length=c
 rw [Ahc]
structure FU (s:PD) (b:List UInt8) (l:List Int):Prop where
 len:l.length=AQ b.length
 rng:∀k∈l,0≤k∧k<65535
 live:∀j (h:j<l.length),Bl s l[j]
 pg:∀j (h:j<l.length),s.bytes l[j]=D1 (l.getD (j+1) 65535) (Ck b j)
theorem Is{b:List UInt8}{i:Nat}:(Ck b i).length=min 254 (b.length - i*254):=by unfold Ck;rw [Acw,Aco]
theorem UH{b:List UInt8}{i:Nat}:b.take (i*254)++Ck b i=b.take ((i+1)*254):=by
 unfold Ck
 rw [show(i+1)*254=i*254+254 by omega,List.take_add]
theorem HL{l:List Int}{i:Nat}{x:Int} (h:i<l.length):l.getD i x=l[i]:=by rw [Acf,Ace h];rfl
theorem MW{l:List Int}{i:Nat}{x:Int} (h:l.length≤i):l.getD i x=x:=by rw [Acf,Adq h];rfl
theorem Mx{s:PD}{b:List UInt8}{l:List Int} (h:FU s b l):∀{m i:Nat},i+m=l.length→Dm s b.length l.length (l.getD i 65535) (l.take i) (b.take (i*254)) m=(l,b,0)
 |0,i,hm=>by
  have hl:=h.len
  rw [Dm,Aec (by omega),Aec (by unfold AQ at hl;omega)]
 |m+1,i,hm=>by
  have hi:i<l.length:=by omega
  have hl:=h.len
  have hb:i*254≤b.length:=PO (by omega)
  rw [HL hi,Dm,if_pos (h.live i hi),h.pg i hi]
  have hnx:0≤l.getD (i+1) 65535∧l.getD (i+1) 65535<65536:=by
   by_cases e:i+1<l.length
   ·rw [HL e];have:=h.rng _ (Ada e);omega
   ·rw [MW (by omega)];decide
  have hlk:=Wy (c:=Ck b i) hnx.1 hnx.2
  have htl:(l.take i).length=i:=by rw [Acw];omega
  have hc:(Gn (D1 (l.getD (i+1) 65535) (Ck b i))=65535)=((l.take i).length+1=l.length):=by
   rw [htl]
   refine propext ⟨fun q=>?_,fun q=>?_⟩
   ·by_cases e:i+1<l.length
    ·rw [HL e] at hlk q
     have:=h.rng _ (Ada e)
     rw [q] at hlk;omega
    ·omega
   ·rw [MW (by omega)] at hlk
    rw [MW (by omega)]
    omega
  rw [if_pos hc]
  have hbt:(b.take (i*254)).length=i*254:=by rw [Acw];omega
  have hmn:min 254 (b.length - (b.take (i*254)).length)=(Ck b i).length:=by rw [hbt,Is]
  rw [hmn,Wa,if_pos rfl,Xx,UH,hlk,show l.take i++[l[i]]=l.take (i+1) from(Acx hi).symm]
  exact Mx h (by omega)
theorem PB{n:Nat}:1≤AQ n:=by unfold AQ;omega
theorem ML{s:PD}{b:List UInt8}{l:List Int} (h:FU s b l) (hb:b.length≤16384):BJ s (l.getD 0 0) b.length=(l,b,0):=by
 unfold BJ
 rw [if_pos (by omega),Agh,←h.len]
 have h0:0<l.length:=by rw [h.len];exact PB
 have:=Mx h (m:=l.length) (i:=0) (by omega)
 rw [HL h0] at this⊢
 simpa using this
theorem Iv{s:PD}{k:Int}{b:Sec} (hk:s.kind k=1) (hb:b.length=256):(s.put k b).1={s with fb:=El s.fb (k - s.frm).toNat b}:=by
 unfold PD.put;rw [if_pos hk,if_pos hb]
theorem Sv{s:PD}{k k':Int}{b:Sec} (hk:s.kind k=1) (hb:b.length=256):(s.put k b).1.kind k'=s.kind k':=by rw [Iv hk hb];rfl
theorem KK{s:PD}{k k':Int}{b:Sec} (hk:s.kind k=1) (hb:b.length=256):(s.put k b).1.bytes k'=if k'=k then b else s.bytes k':=by
 have hkk:=Sv (k':=k') hk hb
 unfold PD.bytes
 rw [hkk,Iv hk hb]
 obtain⟨i,i1,rfl,i2,i3⟩:=CO hk (by omega)
 by_cases e:k'=((s.frm+i:Nat):Int)
 ·subst e
  rw [if_pos hk,if_pos rfl]
  show El s.fb _ b _=b
  rw [El,if_pos rfl]
 ·rw [if_neg e]
  by_cases h1:s.kind k'=1
  ·rw [if_pos h1,if_pos h1]
   obtain⟨j,j1,rfl,j2,j3⟩:=CO h1 (by omega)
   show El s.fb _ b _=s.fb _
   rw [El,i3,j3,if_neg (fun q=>e (by rw [q]))]
  ·rw [if_neg h1,if_neg h1]
theorem Fo{x:Int}{b:List UInt8}{i:Nat}:(D1 x (Ck b i)).length=256:=by
 have:=Is (b:=b) (i:=i)
 unfold D1;simp only [Acs,Acl,Adn];omega
theorem Wf{l:List Int} (hn:l.Nodup) {i j:Nat} (hi:i<l.length) (hj:j<l.length) (e:l[i]=l[j]):i=j:=by
 rcases Nat.lt_trichotomy i j with h|h|h
 ·exact absurd e (Afc.1 hn i j hi hj h)
 ·exact h
 ·exact absurd e.symm (Afc.1 hn j i hj hi h)
structure K0 (s t:PD):Prop where
 frm:t.frm=s.frm
 kinds:t.kinds=s.kinds
 syn:t.syn=s.syn
 round:t.round=s.round
theorem K0.refl(s:PD):K0 s s:=⟨rfl,rfl,rfl,rfl⟩
theorem K0.kind{s t:PD} (h:K0 s t) (k:Int):t.kind k=s.kind k:=by unfold PD.kind PD.kd;rw [h.frm,h.kinds]
theorem K0.free{s t:PD} (h:K0 s t):t.free=s.free:=by unfold PD.free;rw [h.kinds]
theorem TV{t:PD}{l:List Int}{b:List UInt8} (hf:∀k∈l,t.kind k=1) (hn:l.Nodup):∀{i:Nat},i≤l.length→K0 t (Ds t l b i)∧
  (∀j (hj:j<l.length),j<i→(Ds t l b i).bytes l[j]=D1 (l.getD (j+1) 65535) (Ck b j))∧∀k,k∉l→(Ds t l b i).bytes k=t.bytes k
 |0,_=>⟨K0.refl t,fun j _ h=>absurd h (Afm j),fun _ _=>rfl⟩
 |i+1,hi=>by
  obtain⟨h1,h2,h3⟩:=TV (b:=b) hf hn (i:=i) (by omega)
  have hi':i<l.length:=by omega
  have hk:(Ds t l b i).kind l[i]=1:=by rw [h1.kind];exact hf _ (Ada hi')
  rw [Ds,HL hi']
  refine⟨?_,fun j hj hji=>?_,fun k hkl=>?_⟩
  ·rw [Iv hk Fo];exact⟨h1.frm,h1.kinds,h1.syn,h1.round⟩
  ·rw [KK hk Fo]
   by_cases e:j=i
   ·subst e;rw [if_pos rfl]
   ·rw [if_neg (fun q=>e (Wf hn hj hi' q))]
    exact h2 j hj (by omega)
  ·rw [KK hk Fo,if_neg (fun(q:k=l[i])=>hkl (by rw [q];exact Ada hi'))]
   exact h3 k hkl
theorem Tk.kind{s0 s:PD}{l:List Int} (h:Tk s0 s l) (k:Int):s.kind k=if k∈l then 1 else s0.kind k:=by
 unfold PD.kind
 rw [h.frm,h.len]
 by_cases e:(s0.frm:Int)≤k∧k<(s0.frm:Int)+s0.kinds.length
 ·rw [if_pos e,if_pos e,h.kd _ (by omega),show((s0.frm+(k - s0.frm).toNat:Nat):Int)=k by omega]
 ·rw [if_neg e,if_neg e]
  rw [if_neg]
  intro hm
  obtain⟨j,j1,j2, -⟩:=h.was k hm
  omega
theorem Tk.not{s0 s:PD}{l:List Int} (h:Tk s0 s l) {k:Int} (hk:s0.kind k≠0):k∉l:=fun hm=>by
 obtain⟨j,j1,rfl,j3⟩:=h.was k hm
 rw [Mb j1] at hk
 exact hk j3
theorem Tk.bytes{s0 s:PD}{l:List Int} (h:Tk s0 s l) {k:Int} (hk:k∉l):s.bytes k=s0.bytes k:=by
 have hkk:=h.kind k
 rw [if_neg hk] at hkk
 unfold PD.bytes
 rw [hkk,h.syn]
 by_cases h1:s0.kind k=1
 ·rw [if_pos h1,if_pos h1]
  obtain⟨j,j1,rfl,j2,j3⟩:=CO h1 (by omega)
  rw [h.frm,j3]
  exact h.fb j hk
 ·rw [if_neg h1,if_neg h1]
theorem VI{s:PD} (hG:Pgr.Good s) {b:List UInt8} (hr:AQ b.length≤s.free):∃t l,B0 s b=(t,l.getD 0 0,0)∧FU t b l∧(∀k∈l,t.kind k=1∧s.kind k=0)∧t.free+l.length=s.free∧l.length=AQ b.length∧
  (∀k,k∉l→t.kind k=s.kind k∧t.bytes k=s.bytes k)∧l.Nodup:=by
 obtain⟨h1,h2⟩:=JQ (n:=AQ b.length) (Tk.nil s)
 have hz:(BQ s [] (AQ b.length)).2.2=0:=by
  rcases h2 with ⟨q, -⟩|⟨-,q⟩
  ·exact q
  ·omega
 have ht:Bz s (AQ b.length)=BQ s [] (AQ b.length):=by unfold Bz;rw [if_pos hz]
 have hlen:(BQ s [] (AQ b.length)).2.1.length=AQ b.length:=by have:=Kx hz;simpa using this
 have hc:B0 s b=(Ds (BQ s [] (AQ b.length)).1 (BQ s [] (AQ b.length)).2.1 b (BQ s [] (AQ b.length)).2.1.length,(BQ s [] (AQ b.length)).2.1.getD 0 0,0):=by
  unfold B0;rw [ht];simp only [hz,if_true]
 rw [hc]
 generalize (BQ s [] (AQ b.length)).1=t at h1
 generalize (BQ s [] (AQ b.length)).2.1=l at h1 hlen
 have hf:∀k∈l,t.kind k=1:=fun k hk=>by rw [h1.kind,if_pos hk]
 obtain⟨p1,p2,p3⟩:=TV (b:=b) hf h1.nd (i:=l.length) (Ach _)
 refine⟨_,l,rfl,⟨hlen,fun k hk=>?_,fun j hj=>?_,fun j hj=>p2 j hj hj⟩,fun k hk=>⟨by rw [p1.kind];exact hf k hk,?_⟩,by rw [p1.free];exact h1.free,hlen,fun k hk=>⟨?_,?_⟩,h1.nd⟩
 ·obtain⟨j,j1,rfl, -⟩:=h1.was k hk
  have:=hG.inn
  have:=hG.syn
  omega
 ·exact .inl (by rw [p1.kind];exact hf _ (Ada hj))
 ·obtain⟨j,j1,rfl,j3⟩:=h1.was k hk
  rw [Mb j1];exact j3
 ·rw [p1.kind,h1.kind,if_neg hk]
 ·rw [p3 k hk,h1.bytes hk]
theorem FU.stay{s t:PD}{b:List UInt8}{l:List Int} (h:FU s b l) (hs:∀k∈l,t.kind k=s.kind k∧t.bytes k=s.bytes k):FU t b l:=
 ⟨h.len,h.rng,fun j hj=>by unfold Bl;rw [(hs _ (Ada hj)).1];exact h.live j hj,fun j hj=>by rw [(hs _ (Ada hj)).2];exact h.pg j hj⟩
theorem JU{s:PD}{i:Nat} (hi:i<s.kinds.length) (hk:s.kd i=1):s.drop ((s.frm+i:Nat):Int)=({s with kinds:=s.kinds.set i 0},0):=by
 unfold PD.drop
 rw [if_pos (by rw [Mb hi];exact hk),show(((s.frm+i:Nat):Int) - s.frm).toNat=i by omega]
theorem Iq{s:PD}{i:Nat}{k:Int} (hi:i<s.kinds.length) (hk:s.kd i=1):(s.drop ((s.frm+i:Nat):Int)).1.kind k=if k=((s.frm+i:Nat):Int) then 0 else s.kind k:=by
 rw [JU hi hk]
 by_cases e:k=((s.frm+i:Nat):Int)
 ·subst e
  rw [if_pos rfl]
  have:i<({s with kinds:=s.kinds.set i 0}:PD).kinds.length:=by simpa using hi
  rw [show((s.frm+i:Nat):Int)=((({s with kinds:=s.kinds.set i 0}:PD).frm+i:Nat):Int) from rfl,Mb this]
  show(s.kinds.set i 0).getD i 0=0
  rw [C5 hi,if_pos rfl]
 ·rw [if_neg e]
  unfold PD.kind
  simp only [Adg]
  by_cases q:(s.frm:Int)≤k∧k<(s.frm:Int)+s.kinds.length
  ·rw [if_pos q,if_pos q]
   show(s.kinds.set i 0).getD _ 0=s.kinds.getD _ 0
   rw [C5 hi,if_neg (by omega)]
  ·rw [if_neg q,if_neg q]
theorem Ue{s:PD}{i:Nat}{k:Int} (hi:i<s.kinds.length) (hk:s.kd i=1) (e:k≠((s.frm+i:Nat):Int)):(s.drop ((s.frm+i:Nat):Int)).1.bytes k=s.bytes k:=by
 have h:=Iq (k:=k) hi hk
 rw [if_neg e] at h
 unfold PD.bytes
 rw [h,JU hi hk]
theorem R9:∀{l:List Int}{s:PD},(∀k∈l,s.kind k=1)→l.Nodup→(Dp s l).free=s.free+l.length∧Dy s l=(Dp s l,0)∧(∀k∈l,(Dp s l).kind k=0)∧∀k,k∉l→(Dp s l).kind k=s.kind k∧(Dp s l).bytes k=s.bytes k
 |[],s,_,_=>⟨rfl,rfl,fun k h=>(by cases h),fun _ _=>⟨rfl,rfl⟩⟩
 |k::l,s,hf,hn=>by
  obtain⟨hnk,hn'⟩:=Afr.1 hn
  obtain⟨i,hi,rfl,hki, -⟩:=CO (hf k (Acu ..)) (by omega)
  have hd:=JU hi hki
  have hf':∀k'∈l,(s.drop ((s.frm+i:Nat):Int)).1.kind k'=1:=fun k' hk'=>by
   rw [Iq hi hki,if_neg (fun(q:k'=((s.frm+i:Nat):Int))=>hnk (by rw [←q];exact hk'))]
   exact hf k' (Acy _ hk')
  obtain⟨h1,h2,h3,h4⟩:=R9 hf' hn'
  have e:Dp s (((s.frm+i:Nat):Int)::l)=Dp (s.drop ((s.frm+i:Nat):Int)).1 l:=by simp [Dp]
  have hfr:(s.drop ((s.frm+i:Nat):Int)).1.free=s.free+1:=by
   rw [hd]
   have:=Ni (s:=s) (i:=i) (x:=0) hi
   rw [if_neg (by rw [←I7 hi,hki];decide),if_pos rfl] at this
   exact this
  rw [e]
  refine⟨by rw [h1,hfr,Acs];omega,?_,fun k' hk'=>?_,fun k' hk'=>?_⟩
  ·rw [Dy,if_pos (by rw [hd]),h2]
  ·by_cases q:k'∈l
   ·exact h3 k' q
   ·rcases Adb.1 hk' with rfl|hk'
    ·rw [(h4 _ q).1,Iq hi hki,if_pos rfl]
    ·exact absurd hk' q
  ·have q1:k'∉l:=fun q=>hk' (Acy _ q)
   have q2:k'≠((s.frm+i:Nat):Int):=fun q=>hk' (by rw [q];exact Acu ..)
   obtain⟨j1,j2⟩:=h4 k' q1
   exact⟨by rw [j1,Iq hi hki,if_neg q2],by rw [j2,Ue hi hki q2]⟩
theorem Wk{s:PD}{b:List UInt8} (hr:s.free<AQ b.length):∃t,B0 s b=(t,0,190)∧t.free=s.free:=by
 obtain⟨h1,h2⟩:=JQ (n:=AQ b.length) (Tk.nil s)
 have hz:(BQ s [] (AQ b.length)).2.2=190:=by
  rcases h2 with ⟨-,q⟩|⟨q, -⟩
  ·omega
  ·exact q
 have ht:Bz s (AQ b.length)=(Dp (BQ s [] (AQ b.length)).1 (BQ s [] (AQ b.length)).2.1,[],190):=by unfold Bz;rw [if_neg (by rw [hz];decide),hz]
 refine⟨Dp (BQ s [] (AQ b.length)).1 (BQ s [] (AQ b.length)).2.1,?_,?_⟩
 ·unfold B0;rw [ht];rfl
 ·obtain⟨q, -⟩:=R9 (s:=(BQ s [] (AQ b.length)).1) (l:=(BQ s [] (AQ b.length)).2.1) (fun k hk=>by rw [h1.kind,if_pos hk]) h1.nd
  rw [q];exact h1.free
end Go.Gk.Chn
end
section
namespace Go.Gk.Tre
open Go Go.Gk Go.Gk.Dev Go.Gk.Cch Go.Gk.Pgr Go.Gk.Chn Go.Gk.Node
section
abbrev wtc(s:PD) (n:Nat):PD:={s with tc:=n}
theorem Zy{s:PD}{n:Nat}{k:Int}:(wtc s n).kind k=s.kind k:=rfl
theorem Wx{s:PD}{n:Nat}{k:Int}{b:Sec}:(wtc s n).put k b=(wtc (s.put k b).1 n,(s.put k b).2):=by
 unfold PD.put
 rw [Zy]
 by_cases h1:s.kind k=1
 ·by_cases h2:b.length=256
  ·simp only [if_pos h1,if_pos h2]
  ·simp only [if_pos h1,if_neg h2]
 ·simp only [if_neg h1]
theorem TB{s:PD}{n:Nat}:(wtc s n).AV=(wtc s.AV.1 n,s.AV.2):=by
 unfold PD.AV
 show(match C2 0 s.kinds with|some i=>_|none=>_)=_
 cases C2 0 s.kinds<;>rfl
theorem MS{s:PD}{n:Nat}{k:Int}:(wtc s n).drop k=(wtc (s.drop k).1 n,(s.drop k).2):=Tn
theorem Rj{n:Nat}:∀{m:Nat}{s:PD}{l:List Int},BQ (wtc s n) l m=(wtc (BQ s l m).1 n,(BQ s l m).2)
 |0,s,l=>rfl
 |m+1,s,l=>by
  rw [BQ,BQ,TB]
  by_cases h:s.AV.2.2=0
  ·rw [if_pos h,if_pos h];exact Rj
  ·rw [if_neg h,if_neg h]
theorem Sn{n:Nat}:∀{l:List Int}{s:PD},Dp (wtc s n) l=wtc (Dp s l) n
 |[],s=>rfl
 |k::l,s=>by
  show Dp ((wtc s n).drop k).1 l=wtc (Dp (s.drop k).1 l) n
  rw [MS];exact Sn
theorem Vy{n m:Nat}{s:PD}:Chn.Bz (wtc s n) m=(wtc (Chn.Bz s m).1 n,(Chn.Bz s m).2):=by
 unfold Chn.Bz
 rw [Rj]
 by_cases h:(BQ s [] m).2.2=0
 ·rw [if_pos h,if_pos h]
 ·rw [if_neg h,if_neg h,Sn]
theorem Ty{n:Nat}{s:PD}{l:List Int}{b:List UInt8}:∀{i:Nat},Chn.Ds (wtc s n) l b i=wtc (Chn.Ds s l b i) n
 |0=>rfl
 |i+1=>by rw [Chn.Ds,Chn.Ds,Ty,Wx]
theorem R0{n:Nat}{s:PD}{b:List UInt8}:B0 (wtc s n) b=(wtc (B0 s b).1 n,(B0 s b).2):=by
 unfold B0
 rw [Vy]
 simp only
 by_cases h:(Chn.Bz s (AQ b.length)).2.2=0
 ·rw [if_pos h,if_pos h,Ty]
 ·rw [if_neg h,if_neg h]
theorem PF{n:Nat}:∀{l:List Int}{s:PD},Dy (wtc s n) l=(wtc (Dy s l).1 n,(Dy s l).2)
 |[],s=>rfl
 |k::l,s=>by
  rw [Dy,Dy,MS]
  by_cases h:(s.drop k).2=0
  ·rw [if_pos h,if_pos h];exact PF
  ·rw [if_neg h,if_neg h]
theorem Rp{s:PD}{n:Nat}{k size:Int}:Chn.BJ (wtc s n) k size=Chn.BJ s k size:=by
 have h:∀{m:Nat}{N:Nat}{z:Nat}{k:Int}{l:List Int}{o:List UInt8},Dm (wtc s n) z N k l o m=Dm s z N k l o m:=by
  intro m
  induction m with
  |zero=>intros;rfl
  |succ m ih=>
   intro N z k l o
   rw [Dm,Dm]
   show(if Bl s k then if (Gn (s.bytes k)=65535)=(l.length+1=N) then if ((s.bytes k).drop _).all _ then Dm (wtc s n) _ _ _ _ _ _ else _ else _ else _)=_
   simp only [ih]
   rfl
 unfold Chn.BJ
 simp only [h]
theorem VK{s:PD}{n:Nat}{k size:Int}:DN (wtc s n) k size=(wtc (DN s k size).1 n,(DN s k size).2):=by
 unfold DN
 rw [Rp]
 by_cases h:(Chn.BJ s k size).2.2=0
 ·rw [if_pos h,if_pos h,PF]
 ·rw [if_neg h,if_neg h]
section
variable {P:Program}{f:FuncId}{d:Ac}{s:PD}{dv pv:Value}{L:List Ac}
theorem PgT.mk{n:Nat} (h:Pg d (wtc s n) dv pv L):PgT d s dv pv L:=⟨n,h⟩
theorem XB(h:Oy P f) (hp:PgT d s dv pv L) {w:Value}{k:Int}{b:Sec} (hb:AM d w b):Aw P f [pv,.int .i64 k,w] d L (Ret fun r d' L'=>r=.int .i64 (s.put k b).2∧PgT d' (s.put k b).1 dv pv L'):=by
 obtain⟨n,hp⟩:=hp
 refine Aw.Dr (h (k:=k) hp hb) (fun r d' L' _ ⟨h1,h2⟩=>⟨d',L',Vs.refl _ _,?_⟩)
 rw [Wx] at h1 h2;exact⟨h1,n,h2⟩
theorem YV(h:Pgr.FM P f) (hp:PgT d s dv pv L):Aw P f [pv] d L (Ret fun r d' L'=>r=.tuple #[.int .i64 s.AV.2.1,.int .i64 s.AV.2.2]∧PgT d' s.AV.1 dv pv L'):=by
 obtain⟨n,hp⟩:=hp
 refine Aw.Dr (h hp) (fun r d' L' _ ⟨h1,h2⟩=>⟨d',L',Vs.refl _ _,?_⟩)
 rw [TB] at h1 h2;exact⟨h1,n,h2⟩
theorem Vg(h:Gt P f) (hp:PgT d s dv pv L) {k:Int}:Aw P f [pv,.int .i64 k] d L (Ret fun r d' L'=>r=.int .i64 (s.drop k).2∧PgT d' (s.drop k).1 dv pv L'):=by
 obtain⟨n,hp⟩:=hp
 refine Aw.Dr (h (k:=k) hp) (fun r d' L' _ ⟨h1,h2⟩=>⟨d',L',Vs.refl _ _,?_⟩)
 rw [MS] at h1 h2;exact⟨h1,n,h2⟩
theorem VD(h:LL P f) (hp:PgT d s dv pv L) {k size:Int}:
  Aw P f [pv,.int .i64 k,.int .i64 size] d L (Ret fun r d' L'=>Le d d'∧r=.int .i64 (DN s k size).2∧PgT d' (DN s k size).1 dv pv L'):=by
 obtain⟨n,hp⟩:=hp
 refine Aw.Dr (h (k:=k) (size:=size) hp) (fun r d' L' _ ⟨h0,h1,tc,h2⟩=>⟨d',L',Vs.refl _ _,?_⟩)
 rw [VK] at h1 h2;exact⟨h0,h1,tc,h2⟩
end
end
end Go.Gk.Tre
end
section
namespace Go.Gk
open Go
section
section
variable {P:Program}{pan:List PanicEntry→AS}{Qn:Env→AS}{Ls L:List Ac}{ρ:Env}{d:Ac}{s:GS}{t:Nat}{tk:Bool}
theorem NT{x y:Operand}{k':IntKind}{a:Nat} (n m:Nat) (ex:ev ρ x=.int .i64 (a:Int)) (ey:ev ρ y=.int k' (n:Int)) (hn:n≤32) (hm:m=a*2 ^ n) (ha:a≤65535) (h:gws P pan Qn s Ls (upd ρ t (.int .i64 (m:Int))) d L):
  gws P pan Qn (.op tk ⟨some t,none,.bin .shl x y⟩ s) Ls ρ d L:=by
 refine Dd ?_ h
 have h1:min (Int.toNat (n:Int)) IntKind.i64.bits=n:=by simp [IntKind.bits];omega
 have h2:2 ^ n≤2 ^ 32:=Nat.pow_le_pow_right (by omega) hn
 have h3:a*2 ^ n≤65535*2 ^ 32:=Nat.mul_le_mul ha h2
 have e:(a:Int)*2 ^ n=((a*2 ^ n:Nat):Int):=by push_cast;rfl
 rw [ex,ey]
 simp only [C1,h1]
 rw [if_neg (by omega),e,DG (by omega) (by omega),hm]
theorem VX{x y:Operand}{k':IntKind}{a:Int} (n:Nat) (m:Int) (ex:ev ρ x=.int .i64 a) (ey:ev ρ y=.int k' (n:Int)) (hn:n≤32) (_:0≤a) (hm:m=a / (2 ^ n:Nat)) (h:gws P pan Qn s Ls (upd ρ t (.int .i64 m)) d L):
  gws P pan Qn (.op tk ⟨some t,none,.bin .shr x y⟩ s) Ls ρ d L:=by
 refine Dd ?_ h
 have h1:min (Int.toNat (n:Int)) IntKind.i64.bits=n:=by simp [IntKind.bits];omega
 rw [ex,ey]
 simp only [C1,h1]
 rw [if_neg (by omega),hm]
 congr 2
 rw [Int.fdiv_eq_ediv_of_nonneg _ (by exact_mod_cast Adf _)]
 simp
theorem QK{x y:Operand}{a b:Nat} (n:Nat) (ex:ev ρ x=.int .i64 ((a*2 ^ n:Nat):Int)) (ey:ev ρ y=.int .i64 (b:Int)) (ha:a*2 ^ n<9223372036854775808) (hb:b<2 ^ n) (hs:a*2 ^ n+b<9223372036854775808)
  (h:gws P pan Qn s Ls (upd ρ t (.int .i64 ((a*2 ^ n+b:Nat):Int))) d L):gws P pan Qn (.op tk ⟨some t,none,.bin .or x y⟩ s) Ls ρ d L:=by
 refine Dd ?_ h
 have hlt:b<9223372036854775808:=by omega
 have e:(BitVec.ofInt IntKind.i64.bits ((a*2 ^ n:Nat):Int)|||BitVec.ofInt IntKind.i64.bits ((b:Nat):Int)).toNat=a*2 ^ n+b:=by
  have h1:=Nat.shiftLeft_add_eq_or_of_lt (i:=n) hb a
  rw [Nat.shiftLeft_eq] at h1
  show((BitVec.ofInt 64 ((a*2 ^ n:Nat):Int):BitVec 64)|||(BitVec.ofInt 64 ((b:Nat):Int):BitVec 64)).toNat=_
  rw [BitVec.toNat_or,BitVec.ofInt_natCast,BitVec.ofInt_natCast,BitVec.toNat_ofNat,BitVec.toNat_ofNat]
  rw [Afd (by omega),Afd (by omega)]
  exact h1.symm
 rw [ex,ey]
 simp only [C1,e]
 rw [DG (by omega) (by omega),if_neg (fun h=>h rfl)]
theorem AaI{z:Value}{x0 x1 x2 x3 x4 x5 x6:Operand}{a0 a1 a2 a3 a4 a5 a6:UInt8} (e0:ev ρ x0=Az a0) (e1:ev ρ x1=Az a1) (e2:ev ρ x2=Az a2) (e3:ev ρ x3=Az a3) (e4:ev ρ x4=Az a4) (e5:ev ρ x5=Az a5) (e6:ev ρ x6=Az a6)
  (h:∀b T,gws P pan Qn s Ls (upd ρ t (.slice (some ⟨b,0,none⟩) 7 7)) d (bx b T ([a0,a1,a2,a3,a4,a5,a6].map Az)::L)):gws P pan Qn (.op false ⟨some t,none,.bsl 7 1 [z] [(0,x0),(1,x1),(2,x2),(3,x3),(4,x4),(5,x5),(6,x6)]⟩ s) Ls ρ d L:=by
 have c:∀a:UInt8,(Az a).cells= #[Az a]:=fun _=>rfl
 refine Dn (by omega) ?_ h
 simp [Instr.fill,Bp,Ade,List.range.loop,e0,c,e1,e2,e3,e4,e5,e6]
end
end
end Go.Gk
end
section
namespace Go.Gk.Tre
open Go Go.Gk Go.Gk.Dev Go.Gk.Cch Go.Gk.Pgr Go.Gk.Chn Go.Gk.Node
attribute [local irreducible] gwp gws xwp
def HH(P:Program) (f:FuncId):Prop:=∀{d:Ac}{bt pb:Nat}{Tt:TypeId}{r h c:Int}{L:List Ac},CW P f [.pointer (some ⟨bt,0,none⟩)] d (tb bt Tt (.pointer (some ⟨pb,0,none⟩)) r h c::L) (.bool false)
def Np:AY:=⟨12,[(.tmp 2)],(sR (o1 2 (.mv (.const (.bool false))) .done) (sR (om 3 0<|o1 4 (.eqp false (tP 3) (.const (.pointer none)))<|om 5 4<|gF 6 5 0<|oF 7 5 (.nilc (tP 6))<|oF 8 5 (.fld 0 (tP 7))<|oF 9 5 (.ld none (tP 8))<|oF 10 5 (.eqp false (tP 9) (.const (.pointer none)))<|o1 11 (.pick (tP 5) (.const (.bool true)) (tP 10))<|om 2 11 .done) .ret))⟩
theorem XD{P:Program}{f:FuncId} (hd:dec P f=some Np):HH P f:=by
 intro d bt pb Tt r h c L
 refine AG hd (Aca rfl) ?_
 show gwp P _ _ _ _ _
 (refine Ad<|Ae rfl<|Aa<|Ad<|Ak rfl<|Cu rfl rfl<|Ae rfl<|Af rfl<|Ak rfl<|Af rfl<|Av rfl<|Af rfl<|Ai rfl<|Af rfl<|Ag rfl (Aj 0 rfl rfl)<|Af rfl<|Cu rfl rfl<|Aq rfl rfl<|Ae rfl<|Aa<|Ao ?_)
 exact BG rfl (Acb _) ⟨rfl,rfl,rfl⟩
def K3(P:Program) (f:FuncId):Prop:=∀{d:Ac}{bt pb:Nat}{Tt:TypeId}{r h c:Int}{w:Value}{key:List UInt8}{L:List Ac},AM d w key→CW P f [.pointer (some ⟨bt,0,none⟩),w] d (tb bt Tt (.pointer (some ⟨pb,0,none⟩)) r h c::L) (.int .i64 (BL key))
def MN(a0:Nat):AY:=⟨17,[(.tmp 4)],(sR (o1 4 (.mv (kZ 0)) .done) (.seq (.block 0 (sR (om 6 0<|oc 7 a0 [(tP 6)]<|om 5 7 .done) (.cond (tP 5) (sR (o1 4 (.mv (kZ 1)) .done) .ret) (sR (om 9 1<|oL 10 9<|ob 11 .lss (tP 10) (kZ 1)<|om 12 11<|gF 13 12 1<|oF 14 12 (.len (tP 13))<|oF 15 12 (.bin .gtr (tP 14) (kZ 64))<|o1 16 (.pick (tP 12) (.const (.bool true)) (tP 15))<|om 8 16 .done) (.cond (tP 8) (sR (o1 4 (.mv (kZ 2)) .done) .ret) .skip))))) (sR (o1 4 (.mv (kZ 0)) .done) .ret)))⟩
theorem Zq{P:Program}{f f1:FuncId} (hd:dec P f=some (MN f1)) (h1:HH P f1):K3 P f:=by
 intro d bt pb Tt r h c w key L hw
 refine AG hd (Aca rfl) ?_
 show gwp P _ _ _ _ _
 (refine Ad<|Ab rfl<|Aa<|Ah<|Ax<|Ad<|Ak rfl ?_)
 refine B3 [] h1 rfl rfl ?_
 by_cases e1:key.length<1
 ·have hk:BL key=2:=by unfold BL;rw [if_pos (.inl e1)]
  rw [hk]
  (refine Ae rfl<|Aa<|AR rfl<|Ad<|AK<|BE rfl (by assumption)<|AA rfl rfl<|Ae rfl<|Bd rfl (by omega)<|An rfl<|An rfl<|An rfl<|AB rfl rfl<|Ae rfl<|Aa<|Be rfl<|Ad<|Ab rfl<|Aa<|Ao ?_)
  exact BG rfl (Acb _) ⟨rfl,rfl,rfl⟩
 ·by_cases e2:64<key.length
  ·have hk:BL key=2:=by unfold BL;rw [if_pos (.inr e2)]
   rw [hk]
   (refine Ae rfl<|Aa<|AR rfl<|Ad<|AK<|BE rfl (by assumption)<|AA rfl rfl<|Ae rfl<|AZ rfl (by omega)<|Af rfl<|AK<|Af rfl<|BE rfl (by assumption)<|Af rfl<|BS rfl rfl<|Aq rfl rfl<|Ae rfl<|Aa<|Ay rfl (by omega)<|Ad<|Ab rfl<|Aa<|Ao ?_)
   exact BG rfl (Acb _) ⟨rfl,rfl,rfl⟩
  ·have hk:BL key=0:=by unfold BL;rw [if_neg (by omega)]
   rw [hk]
   (refine Ae rfl<|Aa<|AR rfl<|Ad<|AK<|BE rfl (by assumption)<|AA rfl rfl<|Ae rfl<|AZ rfl (by omega)<|Af rfl<|AK<|Af rfl<|BE rfl (by assumption)<|Af rfl<|BS rfl rfl<|Aq rfl rfl<|Ae rfl<|Aa<|Ar rfl (by omega)<|Al<|Ad<|Ab rfl<|Aa<|Ao ?_)
   exact BG rfl (Acb _) ⟨rfl,rfl,rfl⟩
def Jl(P:Program) (f:FuncId):Prop:=∀{d:Ac}{s:PD}{dv pv:Value}{L:List Ac}{bt:Nat}{Tt:TypeId}{r h c k:Int},Pg d s dv pv L→
 Aw P f [.pointer (some ⟨bt,0,none⟩),.int .i64 k] d (tb bt Tt pv r h c::L) (Ret fun v d' L'=>Le d d'∧∃cs hk hv hi L2 tc,v=.tuple #[.agg cs.toArray,.int .i64 (Bn s k).2]∧L'=hk::hv::hi::tb bt Tt pv r h c::L2∧
  DJ d' cs (Bn s k).1 hk hv hi∧Pg d' {s with tc:=tc} dv pv L2∧((Bn s k).2=0→tc=s.tc+1))
def NA(a0 a1:Nat):AY:=⟨25,[(.cell 4 (some 4)),(.tmp 5)],(sR (o1 4 (.alo (.agg #[(.bool false),(.slice none 0 0),(.slice none 0 0),(.slice none 0 0)]))<|o1 5 (.mv (kZ 0)) .done) (sR (om 9 0<|o1 10 (.nilc (tP 9))<|oj 11 0 10<|ol 12 11<|om 13 1<|oc 14 a0 [(tP 12),(tP 13)]<|om 8 14<|oe 15 8 0<|oe 16 8 1<|om 6 15<|om 7 16 .done) (.seq (sR (om 17 7<|ob 18 .neq (tP 17) (kZ 0) .done) (.cond (tP 18) (sR (o1 19 (.bld [(0,1),(1,1),(2,1),(3,1)] [(.bool false),(.slice none 0 0),(.slice none 0 0),(.slice none 0 0)] [])<|om 20 7<|o0 (.st 4 (tP 4) (tP 19))<|om 5 20 .done) .ret) .skip)) (sR (om 21 6<|oc 22 a1 [(tP 21)]<|oe 23 22 0<|oe 24 22 1<|o0 (.st 4 (tP 4) (tP 23))<|om 5 24 .done) .ret))))⟩
set_option maxRecDepth 4000 in
theorem W5{P:Program}{f f1 f2:FuncId} (hd:dec P f=some (NA f1 f2)) (h1:Fq P f1) (h2:Q5 P f2):Jl P f:=by
 intro d s dv pv L bt Tt r h c k hp
 obtain⟨bp,rfl⟩:=hp.ptr
 refine AG hd (Aca rfl) ?_
 show gwp P _ _ _ _ _
 apply Ah;apply AE
 refine DI (fun b4 T4=>?_)
 (refine Ab rfl<|Aa<|Ad<|Ak rfl<|Av rfl<|Ai rfl<|Ag rfl (Aj 1 rfl rfl)<|Ab rfl ?_)
 refine A3 [_,_] (h1.atT (k:=k) hp) rfl rfl (fun v d2 L2 hl ⟨a,q,tc,e1,hb,hp2,htc⟩=>?_)
 subst e1
 by_cases hlv:Bl s k
 ·rw [Se hlv]
  rw [if_pos hlv] at htc
  have hr:Bn s k=(N4 (s.bytes k),OD (s.bytes k)):=by unfold Bn;rw [if_pos hlv]
  rw [hr]
  (refine AU rfl<|Ap rfl rfl<|Ap rfl rfl<|Am rfl<|Ab rfl<|Aa<|Ah<|Ad<|Ab rfl<|AO rfl rfl<|Aa<|Ar rfl (by omega)<|Al<|Ad<|Am rfl ?_)
  refine Bk rfl (h2 hb) (fun u d3 L3 hl3 ⟨q0,cs,q1,q2⟩=>?_)
  subst q0;subst q1
  obtain⟨d4,hk,hv,hi,v1,v2,v3⟩:=DK.AbD q2
  have hcs:∃c1 c2 c3 c4,cs=[c1,c2,c3,c4]∧(cs.all (·.oneCell'))=true:=by
   obtain⟨kv,vv,iv,rfl,a1,a2,a3⟩:=v3
   obtain⟨x1,x2,rfl⟩:=a1.val
   obtain⟨y1,y2,rfl⟩:=a2.val
   obtain⟨z1,z2,rfl⟩:=a3.val
   exact⟨_,_,_,_,rfl,rfl⟩
  obtain⟨c1,c2,c3,c4,rfl,hc1⟩:=hcs
  refine B9 _ _ (Vs.app v1 _) ?_
  (refine Ap rfl rfl<|Ap rfl rfl ?_)
  refine Bq 3 rfl rfl rfl rfl (Ach _) hc1 ?_
  (refine Ab rfl<|Aa<|Ao ?_)
  exact A7 [.agg [c1,c2,c3,c4].toArray,.int .i64 (OD (s.bytes k))] ⟨AT 3 rfl rfl rfl,Au rfl,trivial⟩ (d':=d4) (L':=hk::hv::hi::tb bt Tt (.pointer (some ⟨bp,0,none⟩)) r h c::L2) (Vs.drop (.cons_cons _ (.cons_cons _ (.cons_cons _ (.cons _ (Acb _))))))
   ⟨hl.trans v2,_,hk,hv,hi,L2,tc,rfl,rfl,v3,hp2.mono v2,fun _=>htc⟩
 ·rw [(Rt hlv).1]
  rw [if_neg hlv] at htc
  have hr:Bn s k=(JO,240):=by unfold Bn;rw [if_neg hlv]
  rw [hr]
  (refine AU rfl<|Ap rfl rfl<|Ap rfl rfl<|Am rfl<|Ab rfl<|Aa<|Ah<|Ad<|Ab rfl<|AO rfl rfl<|Aa<|Ay rfl (by omega)<|Ad<|BI rfl<|Ab rfl ?_)
  refine Bq 0 rfl rfl rfl rfl (Ach _) rfl ?_
  (refine Ab rfl<|Aa<|Ao ?_)
  exact A7 [.agg [.bool false,.slice none 0 0,.slice none 0 0,.slice none 0 0].toArray,.int .i64 240] ⟨AT 0 rfl rfl rfl,Au rfl,trivial⟩ (d':=d2) (L':=emp::emp::emp::tb bt Tt (.pointer (some ⟨bp,0,none⟩)) r h c::L2)
   ((Vs.drop (.cons _ (Acb _))).trans (Vs.emp.trans (Vs.emp.trans Vs.emp)))
   ⟨hl,_,emp,emp,emp,L2,tc,rfl,rfl,DJ.zero,hp2,fun q=>absurd q (by decide)⟩
def H0(P:Program) (f:FuncId):Prop:=∀{d:Ac}{s:PD}{dv pv:Value}{L:List Ac}{bt:Nat}{Tt:TypeId}{r h c k x:Int},Pg d s dv pv L→
 Aw P f [.pointer (some ⟨bt,0,none⟩),.int .i64 k,.int .i64 x] d (tb bt Tt pv r h c::L) (Ret fun v d' L'=>Le d d'∧∃cs hk hv hi L2 tc,v=.tuple #[.agg cs.toArray,.int .i64 (A4 s k x).2]∧L'=hk::hv::hi::tb bt Tt pv r h c::L2∧
  DJ d' cs (A4 s k x).1 hk hv hi∧Pg d' {s with tc:=tc} dv pv L2∧((A4 s k x).2=0→tc=s.tc+1))
theorem DJ.cells{d:Ac}{cs:List Value}{n:AF}{hk hv hi:Ac} (o:DJ d cs n hk hv hi):∃ka kc va vc ia ic,cs=[.bool n.leaf,.slice ka n.keys.length kc,.slice va n.vals.length vc,.slice ia n.kids.length ic]:=by
 obtain⟨kv,vv,iv,rfl,a1,a2,a3⟩:=o
 obtain⟨x1,x2,rfl⟩:=a1.val
 obtain⟨y1,y2,rfl⟩:=a2.val
 obtain⟨z1,z2,rfl⟩:=a3.val
 exact⟨_,_,_,_,_,_,rfl⟩
def Mo(a0:Nat):AY:=⟨27,[(.cell 6 (some 4)),(.tmp 7)],(sR (o1 6 (.alo (.agg #[(.bool false),(.slice none 0 0),(.slice none 0 0),(.slice none 0 0)]))<|o1 7 (.mv (kZ 0)) .done) (sR (om 11 0<|om 12 1<|oc 13 a0 [(tP 11),(tP 12)]<|om 10 13<|oe 14 10 0<|oe 15 10 1<|o1 8 (.alo (.agg #[(.bool false),(.slice none 0 0),(.slice none 0 0),(.slice none 0 0)]))<|o0 (.st 4 (tP 8) (tP 14))<|om 9 15 .done) (.seq (sR (om 16 9<|ob 17 .eql (tP 16) (kZ 0)<|om 18 17<|oT 19 18 (.fld 0 (tP 8))<|oT 20 18 (.ld none (tP 19))<|gT 21 18 2<|oT 22 18 (.bin .eql (tP 21) (kZ 1))<|oT 23 18 (.eqb true (tP 20) (tP 22))<|gP 24 18 23 .done) (.cond (tP 24) (rG (o1 9 (.mv (kZ 200)) .done)) .skip)) (sR (o1 25 (.ld (some 4) (tP 8))<|om 26 9<|o0 (.st 4 (tP 6) (tP 25))<|om 7 26 .done) .ret))))⟩
set_option maxRecDepth 4000 in
theorem VM{P:Program}{f f1:FuncId} (hd:dec P f=some (Mo f1)) (h1:Jl P f1):H0 P f:=by
 intro d s dv pv L bt Tt r h c k x hp
 refine AG hd (Aca rfl) ?_
 show gwp P _ _ _ _ _
 apply Ah;apply AE
 refine DI (fun b6 T6=>?_)
 (refine Ab rfl<|Aa<|Ad<|Ak rfl<|Ab rfl ?_)
 refine A3 [_] (h1 (k:=k) hp) rfl rfl (fun v d2 L2 hl ⟨_,cs,hk,hv,hi,L3,tc,e1,e2,hn,hp2,htc⟩=>?_)
 subst e1;subst e2
 have hn0:=hn
 obtain⟨ka,kc,va,vc,ia,ic,rfl⟩:=hn.cells
 (refine AU rfl<|Ap rfl rfl<|Ap rfl rfl<|BV (fun _ _=>?_))
 rename_i b8 T8
 refine Bq 0 rfl rfl rfl rfl (Ach _) rfl ?_
 by_cases hz:(Bn s k).2=0
 ·by_cases hx:(Bn s k).1.leaf=decide (x=1)
  ·have hF:A4 s k x=((Bn s k).1,0):=by unfold A4;rw [if_neg (fun q=>q.2 hx),hz]
   rw [hF,hz]
   have hxx:(true ^^((Bn s k).1.leaf==decide (x=1)))=false:=by rw [hx];simp
   (refine Ab rfl<|Aa<|Ah<|Ad<|Ab rfl<|AJ rfl rfl<|Ae rfl<|Bd rfl (by omega)<|Af rfl<|Ai rfl<|Af rfl<|Ag rfl (Aj 0 rfl rfl)<|Af rfl<|Ab rfl<|Af rfl<|AJ rfl rfl<|Af rfl<|Im rfl rfl<|AB rfl rfl<|Aa ?_;apply Aar;rfl;(with_reducible assumption);refine Al<|Ad<|Bg 0 rfl rfl rfl<|Ab rfl ?_)
   refine Bq 1 rfl rfl rfl rfl (Ach _) rfl ?_
   (refine Ab rfl<|Aa<|Ao ?_)
   exact A7 [.agg [.bool (Bn s k).1.leaf,.slice ka (Bn s k).1.keys.length kc,.slice va (Bn s k).1.vals.length vc,.slice ia (Bn s k).1.kids.length ic].toArray,.int .i64 0] ⟨AT 1 rfl rfl rfl,Au rfl,trivial⟩ (d':=d2) (L':=hk::hv::hi::tb bt Tt pv r h c::L3) (Vs.drop (.cons _ (.cons _ (Acb _)))) ⟨hl,_,hk,hv,hi,L3,tc,rfl,rfl,hn0,hp2,fun _=>htc hz⟩
  ·have hF:A4 s k x=((Bn s k).1,200):=by unfold A4;rw [if_pos ⟨hz,hx⟩]
   rw [hF,hz]
   have hxx:(true ^^((Bn s k).1.leaf==decide (x=1)))=true:=by cases hb:(Bn s k).1.leaf<;>rw [hb] at hx<;>simp at hx⊢<;>omega
   (refine Ab rfl<|Aa<|Ah<|Ad<|Ab rfl<|AJ rfl rfl<|Ae rfl<|Bd rfl (by omega)<|Af rfl<|Ai rfl<|Af rfl<|Ag rfl (Aj 0 rfl rfl)<|Af rfl<|Ab rfl<|Af rfl<|AJ rfl rfl<|Af rfl<|Im rfl rfl<|AB rfl rfl<|Aa ?_;apply WU;rfl;(with_reducible assumption);refine AE<|Ab rfl<|Aa<|Ad<|Bg 0 rfl rfl rfl<|Ab rfl ?_)
   refine Bq 1 rfl rfl rfl rfl (Ach _) rfl ?_
   (refine Ab rfl<|Aa<|Ao ?_)
   exact A7 [.agg [.bool (Bn s k).1.leaf,.slice ka (Bn s k).1.keys.length kc,.slice va (Bn s k).1.vals.length vc,.slice ia (Bn s k).1.kids.length ic].toArray,.int .i64 200] ⟨AT 1 rfl rfl rfl,Au rfl,trivial⟩ (d':=d2) (L':=hk::hv::hi::tb bt Tt pv r h c::L3) (Vs.drop (.cons _ (.cons _ (Acb _)))) ⟨hl,_,hk,hv,hi,L3,tc,rfl,rfl,hn0,hp2,fun q=>absurd (show(200:Int)=0 from q) (by decide)⟩
 ·have hF:A4 s k x=((Bn s k).1,(Bn s k).2):=by unfold A4;rw [if_neg (fun q=>hz q.1)]
  rw [hF]
  (refine Ab rfl<|Aa<|Ah<|Ad<|Ab rfl<|AJ rfl rfl<|Ae rfl<|AZ rfl (by omega)<|An rfl<|An rfl<|An rfl<|An rfl<|An rfl<|Aq rfl rfl<|Aa<|AR rfl<|Al<|Ad<|Bg 0 rfl rfl rfl<|Ab rfl ?_)
  refine Bq 1 rfl rfl rfl rfl (Ach _) rfl ?_
  (refine Ab rfl<|Aa<|Ao ?_)
  exact A7 [.agg [.bool (Bn s k).1.leaf,.slice ka (Bn s k).1.keys.length kc,.slice va (Bn s k).1.vals.length vc,.slice ia (Bn s k).1.kids.length ic].toArray,.int .i64 (Bn s k).2] ⟨AT 1 rfl rfl rfl,Au rfl,trivial⟩ (d':=d2) (L':=hk::hv::hi::tb bt Tt pv r h c::L3) (Vs.drop (.cons _ (.cons _ (Acb _)))) ⟨hl,_,hk,hv,hi,L3,tc,rfl,rfl,hn0,hp2,htc⟩
def QH(P:Program) (f:FuncId):Prop:=∀{d:Ac}{w:Value}{b:List UInt8},AM d w b→CT P f [w] d (.tuple #[.int .i64 (if Fk b then(Fw b:Int) else 0),.int .i64 (if Fk b then(EU b:Int) else 0),.bool (Fk b)])
def U1:AY:=⟨46,[(.tmp 2),(.tmp 3),(.tmp 4)],(sR (o1 2 (.mv (kZ 0))<|o1 3 (.mv (kZ 0))<|o1 4 (.mv (.const (.bool false))) .done) (.seq (sR (om 5 0<|oL 6 5<|ob 7 .neq (tP 6) (kZ 7)<|om 8 7<|gF 9 8 0<|oF 10 8 (.idx 1 (tP 9) (kZ 0))<|oF 11 8 (.ld none (tP 10))<|oF 12 8 (.bin .neq (tP 11) (.const (.int .u8 1)))<|o1 13 (.pick (tP 8) (.const (.bool true)) (tP 12)) .done) (.cond (tP 13) (sR (o1 2 (.mv (kZ 0))<|o1 3 (.mv (kZ 0))<|o1 4 (.mv (.const (.bool false))) .done) .ret) .skip)) (.seq (.reg true (pm 14 0<|p1 15 (.idx 1 (tP 14) (kZ 1))<|pl 16 15<|p1 17 (.cvi .i64 (tP 16))<|p1 18 (.bin .shl (tP 17) (.const (.int .u64 8)))<|pm 19 0<|p1 20 (.idx 1 (tP 19) (kZ 2))<|pl 21 20<|p1 22 (.cvi .i64 (tP 21))<|p1 23 (.bin .or (tP 18) (tP 22))<|pm 24 0<|p1 25 (.idx 1 (tP 24) (kZ 3))<|pl 26 25<|p1 27 (.cvi .i64 (tP 26))<|p1 28 (.bin .shl (tP 27) (.const (.int .u64 24)))<|pm 29 0<|p1 30 (.idx 1 (tP 29) (kZ 4))<|pl 31 30<|p1 32 (.cvi .i64 (tP 31))<|p1 33 (.bin .shl (tP 32) (.const (.int .u64 16)))<|p1 34 (.bin .or (tP 28) (tP 33))<|pm 35 0<|p1 36 (.idx 1 (tP 35) (kZ 5))<|pl 37 36<|p1 38 (.cvi .i64 (tP 37))<|p1 39 (.bin .shl (tP 38) (.const (.int .u64 8)))<|p1 40 (.bin .or (tP 34) (tP 39))<|pm 41 0<|p1 42 (.idx 1 (tP 41) (kZ 6))<|pl 43 42<|p1 44 (.cvi .i64 (tP 43))<|p1 45 (.bin .or (tP 40) (tP 44))<|pm 2 23<|pm 3 45<|p1 4 (.mv (.const (.bool true))) .done)) .ret)))⟩
theorem CR{b:List UInt8}{i:Nat} (h:i<b.length):b.getD i 0=b[i]:=by rw [Acf,Ace h];rfl
set_option maxRecDepth 4000 in
theorem Aa3{P:Program}{f:FuncId} (hd:dec P f=some U1):QH P f:=by
 intro d w b hw
 refine AG hd (Aca rfl) ?_
 show gwp P _ _ _ _ _
 by_cases h7:b.length=7
 ·have g0:=CR (b:=b) (i:=0) (by omega)
  by_cases h1:b[0]'(by omega)=1
  ·have hF:Fk b=true:=by unfold Fk;rw [g0,h1,h7];rfl
   have hb0:(b[0]'(by omega)).toNat=1:=by rw [h1];rfl
   rw [hF]
   have l1:=UInt8.toNat_lt (b[1]'(by omega))
   have l2:=UInt8.toNat_lt (b[2]'(by omega))
   have l3:=UInt8.toNat_lt (b[3]'(by omega))
   have l4:=UInt8.toNat_lt (b[4]'(by omega))
   have l5:=UInt8.toNat_lt (b[5]'(by omega))
   have l6:=UInt8.toNat_lt (b[6]'(by omega))
   have eH:Fw b=(b[1]'(by omega)).toNat*2 ^ 8+(b[2]'(by omega)).toNat:=by unfold Fw;rw [CR (i:=1) (by omega),CR (i:=2) (by omega)]
   have eN:EU b=(((b[3]'(by omega)).toNat*2 ^ 8+(b[4]'(by omega)).toNat)*2 ^ 8+(b[5]'(by omega)).toNat)*2 ^ 8+(b[6]'(by omega)).toNat:=by unfold EU;rw [CR (i:=3) (by omega),CR (i:=4) (by omega),CR (i:=5) (by omega),CR (i:=6) (by omega)]
   rw [if_pos rfl,if_pos rfl,eH,eN]
   generalize e1:(b[1]'(by omega)).toNat=n1 at l1
   generalize e2:(b[2]'(by omega)).toNat=n2 at l2
   generalize e3:(b[3]'(by omega)).toNat=n3 at l3
   generalize e4:(b[4]'(by omega)).toNat=n4 at l4
   generalize e5:(b[5]'(by omega)).toNat=n5 at l5
   generalize e6:(b[6]'(by omega)).toNat=n6 at l6
   have e5':(b[4+1]'(by omega)).toNat=n5:=e5
   have e6':(b[5+1]'(by omega)).toNat=n6:=e6
   (refine Ad<|Ab rfl<|Ab rfl<|Ae rfl<|Aa<|Ah<|Ad<|AK<|BE rfl (by assumption)<|AO rfl rfl<|Ae rfl<|AZ rfl (by omega)<|Af rfl<|AK<|Af rfl<|BH (m:=0) (sz:=1) (R:=AP) (by rfl) (by assumption) (by rfl) rfl (by omega) ?_;rintro _ _ _ _ _ rfl;refine Af rfl<|Ag rfl (B5 (by assumption) rfl)<|Af rfl<|AO rfl rfl<|Aq rfl rfl<|Aa<|Ar rfl (by omega)<|Al<|Ah<|Bv<|AK<|BH (m:=1) (sz:=1) (R:=AP) (by rfl) (by assumption) (by rfl) rfl (by omega) ?_;rintro _ _ _ _ _ rfl;refine Ag rfl (B5 (by assumption) rfl)<|Eh rfl (by omega) (by omega) ?_)
   refine NT (a:=n1) 8 (n1*2 ^ 8) (congrArg (fun z:Nat=>Value.int .i64 z) e1) rfl (by omega) rfl (by omega) ?_
   (refine AK<|BH (m:=2) (sz:=1) (R:=AP) (by rfl) (by assumption) (by rfl) rfl (by omega) ?_;rintro _ _ _ _ _ rfl;refine Ag rfl (B5 (by assumption) rfl)<|Eh rfl (by omega) (by omega) ?_)
   refine QK (a:=n1) (b:=n2) 8 rfl (congrArg (fun z:Nat=>Value.int .i64 z) e2) (by omega) (by omega) (by omega) ?_
   (refine AK<|BH (m:=3) (sz:=1) (R:=AP) (by rfl) (by assumption) (by rfl) rfl (by omega) ?_;rintro _ _ _ _ _ rfl;refine Ag rfl (B5 (by assumption) rfl)<|Eh rfl (by omega) (by omega) ?_)
   refine NT (a:=n3) 24 (n3*2 ^ 24) (congrArg (fun z:Nat=>Value.int .i64 z) e3) rfl (by omega) rfl (by omega) ?_
   (refine AK<|BH (m:=4) (sz:=1) (R:=AP) (by rfl) (by assumption) (by rfl) rfl (by omega) ?_;rintro _ _ _ _ _ rfl;refine Ag rfl (B5 (by assumption) rfl)<|Eh rfl (by omega) (by omega) ?_)
   refine NT (a:=n4) 16 (n4*2 ^ 16) (congrArg (fun z:Nat=>Value.int .i64 z) e4) rfl (by omega) rfl (by omega) ?_
   refine QK (a:=n3) (b:=n4*2 ^ 16) 24 rfl rfl (by omega) (by omega) (by omega) ?_
   (refine AK<|BH (sz:=1) (R:=AP) (by rfl) (by assumption) (by rfl) (Int.natCast_add _ 1).symm (by omega) ?_;rintro _ _ _ _ _ rfl;refine Ag rfl (B5 (by assumption) rfl)<|Eh rfl (by omega) (by omega) ?_)
   refine NT (a:=n5) 8 (n5*2 ^ 8) (congrArg (fun z:Nat=>Value.int .i64 z) e5') rfl (by omega) rfl (by omega) ?_
   refine QK (a:=n3*2 ^ 8+n4) (b:=n5*2 ^ 8) 16 (congrArg (fun z:Nat=>Value.int .i64 z) (by omega)) rfl (by omega) (by omega) (by omega) ?_
   (refine AK<|BH (sz:=1) (R:=AP) (by rfl) (by assumption) (by rfl) (Int.natCast_add _ 1).symm (by omega) ?_;rintro _ _ _ _ _ rfl;refine Ag rfl (B5 (by assumption) rfl)<|Eh rfl (by omega) (by omega) ?_)
   refine QK (a:=(n3*2 ^ 8+n4)*2 ^ 8+n5) (b:=n6) 8 (congrArg (fun z:Nat=>Value.int .i64 z) (by omega)) (congrArg (fun z:Nat=>Value.int .i64 z) e6') (by omega) (by omega) (by omega) ?_
   (refine Ab rfl<|Ab rfl<|Ae rfl<|Aa<|Ao ?_)
   exact EF [.int .i64 _,.int .i64 _,.bool true] (L':=[]) ⟨Au rfl,Au rfl,Au rfl,trivial⟩ (Aef _) ⟨rfl,rfl,rfl⟩
  ·have hb0:(b[0]'(by omega)).toNat≠1:=fun q=>h1 (UInt8.toNat_inj.1 q)
   have hF:Fk b=false:=by unfold Fk;rw [g0];simp [h1]
   rw [hF]
   (refine Ad<|Ab rfl<|Ab rfl<|Ae rfl<|Aa<|Ah<|Ad<|AK<|BE rfl (by assumption)<|AO rfl rfl<|Ae rfl<|AZ rfl (by omega)<|Af rfl<|AK<|Af rfl<|BH (m:=0) (sz:=1) (R:=AP) (by rfl) (by assumption) (by rfl) rfl (by omega) ?_;rintro _ _ _ _ _ rfl;refine Af rfl<|Ag rfl (B5 (by assumption) rfl)<|Af rfl<|AO rfl rfl<|Aq rfl rfl<|Aa<|Ay rfl (by omega)<|Ad<|Ab rfl<|Ab rfl<|Ae rfl<|Aa<|Ao ?_)
   exact EF [.int .i64 0,.int .i64 0,.bool false] (L':=[]) ⟨Au rfl,Au rfl,Au rfl,trivial⟩ (Aef _) ⟨rfl,rfl,rfl⟩
 ·have hF:Fk b=false:=by unfold Fk;simp [h7]
  rw [hF]
  (refine Ad<|Ab rfl<|Ab rfl<|Ae rfl<|Aa<|Ah<|Ad<|AK<|BE rfl (by assumption)<|AO rfl rfl<|Ae rfl<|Bd rfl (by omega)<|An rfl<|An rfl<|An rfl<|An rfl<|AB rfl rfl<|Aa<|Be rfl<|Ad<|Ab rfl<|Ab rfl<|Ae rfl<|Aa<|Ao ?_)
  exact EF [.int .i64 0,.int .i64 0,.bool false] (L':=[]) ⟨Au rfl,Au rfl,Au rfl,trivial⟩ (Aef _) ⟨rfl,rfl,rfl⟩
def JA(P:Program) (f:FuncId):Prop:=∀{d:Ac}{s:PD}{dv pv w:Value}{L:List Ac}{bt:Nat}{Tt:TypeId}{r h c:Int}{b:List UInt8},Pg d s dv pv L→AM d w b→
 Aw P f [.pointer (some ⟨bt,0,none⟩),w] d (tb bt Tt pv r h c::L) (Ret fun v d' L'=>Le d d'∧∃u L2 tc,v=.tuple #[u,.int .i64 (DH s b).2]∧L'=tb bt Tt pv r h c::L2∧AM d' u (DH s b).1∧
  Pg d' {s with tc:=tc} dv pv L2∧((DH s b).2=0→tc=s.tc+F5 b))
theorem Ul{b:List UInt8}{m:Nat} (e:(0:Int)=(m:Int)) (h:m<b.length) {n:Nat} (hb:(b.getD 0 0).toNat=n):(b[m]'h).toNat=n:=by
 have:m=0:=by omega
 subst this;rw [←hb,CR h]
def Ms(a0 a1 a2:Nat):AY:=⟨38,[(.tmp 4),(.tmp 5)],(sR (o1 4 (.mv nS)<|o1 5 (.mv (kZ 0)) .done) (.seq (sR (om 9 1<|oL 10 9<|ob 11 .gtr (tP 10) (kZ 0)<|om 12 11<|gT 13 12 1<|oT 14 12 (.idx 1 (tP 13) (kZ 0))<|oT 15 12 (.ld none (tP 14))<|oT 16 12 (.bin .eql (tP 15) (.const (.int .u8 0)))<|gP 17 12 16 .done) (.cond (tP 17) (sR (om 18 1<|o1 19 (.sl 1 (tP 18) (some (kZ 1)) none none)<|oc 20 a0 [(tP 19)]<|om 4 20<|o1 5 (.mv (kZ 0)) .done) .ret) .skip)) (sR (om 22 1<|oc 23 a1 [(tP 22)]<|om 21 23<|oe 24 21 0<|oe 25 21 1<|oe 26 21 2<|om 6 24<|om 7 25<|om 8 26 .done) (.seq (sR (om 27 8<|o1 28 (.un .not (tP 27)) .done) (.cond (tP 28) (sR (o1 4 (.mv nS)<|o1 5 (.mv (kZ 200)) .done) .ret) .skip)) (sR (om 29 0<|o1 30 (.nilc (tP 29))<|oj 31 0 30<|ol 32 31<|om 33 6<|om 34 7<|oc 35 a2 [(tP 32),(tP 33),(tP 34)]<|oe 36 35 0<|oe 37 35 1<|om 4 36<|om 5 37 .done) .ret)))))⟩
set_option maxRecDepth 4000 in
theorem VH{P:Program}{f f1 f2 f3:FuncId} (hd:dec P f=some (Ms f1 f2 f3)) (h1:DZ AP 1 P f1) (h2:QH P f2) (h3:OQ P f3):JA P f:=by
 intro d s dv pv w L bt Tt r h c b hp hw
 obtain⟨bp,rfl⟩:=hp.ptr
 obtain⟨wa,wc,rfl⟩:=RSl.val hw
 refine AG hd (Aca rfl) ?_
 show gwp P _ _ _ _ _
 by_cases h0:0<b.length
 ·have g0:=CR (b:=b) (i:=0) h0
  by_cases e0:b[0]=0
  ·have hb0:=Ul (b:=b) rfl h0 (n:=0) (by rw [g0,e0];rfl)
   (refine Ad<|Am rfl<|Ab rfl<|Aa<|Ah<|Ad<|Am rfl<|AL rfl<|BS rfl rfl<|Ae rfl<|Bd rfl (by omega)<|Af rfl<|Am rfl<|Af rfl<|BH (sz:=1) (R:=AP) (by rfl) (by assumption) (by rfl) rfl (by omega) ?_;rintro _ _ _ _ _ rfl;refine Af rfl<|Ag rfl (B5 (by assumption) rfl)<|Af rfl<|AJ rfl rfl<|AB rfl rfl<|Aa<|Ay rfl (by omega)<|Ad<|Am rfl ?_)
   refine ED (R:=AP) (sz:=1) (n:=1) rfl hw rfl rfl (by omega) (fun v' hv'=>?_)
   have hi:inB b=true:=by unfold inB;rw [g0,e0];simp [h0]
   have hF:DH s b=(b.drop 1,0):=by unfold DH;rw [if_pos hi]
   have hT:F5 b=0:=by unfold F5;rw [if_pos hi]
   rw [hF,hT]
   refine Bk rfl (h1 hv' (by have:=hw.BW;rw [Aco];omega)) (fun v d1 L1 _ ⟨e1,hh,e2,hg⟩=>?_)
   subst e1;subst e2
   obtain⟨ga,gc,rfl⟩:=hg.val
   (refine Am rfl<|Ab rfl<|Aa<|Ao ?_)
   exact A7 [.slice ga (b.drop 1).length gc,.int .i64 0] ⟨Au rfl,Au rfl,trivial⟩ (d':=join d1 hh) (L':=tb bt Tt (.pointer (some ⟨bp,0,none⟩)) r h c::L) Vs.freeze ⟨Le.AI _ _,_,L,s.tc,rfl,rfl,As.rsl (R:=AP) (sz:=1) hg AX (by omega) (Le.AI _ _) (Le.A9 _ _),hp.mono (Le.AI _ _),fun _=>rfl⟩
  ·have hb0:=Ul (b:=b) rfl h0 (n:=_) (congrArg UInt8.toNat g0)
   have hb1:b[0].toNat≠0:=fun q=>e0 (UInt8.toNat_inj.1 q)
   (refine Ad<|Am rfl<|Ab rfl<|Aa<|Ah<|Ad<|Am rfl<|AL rfl<|BS rfl rfl<|Ae rfl<|Bd rfl (by omega)<|Af rfl<|Am rfl<|Af rfl<|BH (sz:=1) (R:=AP) (by rfl) (by assumption) (by rfl) rfl (by omega) ?_;rintro _ _ _ _ _ rfl;refine Af rfl<|Ag rfl (B5 (by assumption) rfl)<|Af rfl<|AJ rfl rfl<|AB rfl rfl<|Aa<|Ar rfl (by omega)<|Al<|Ad<|Am rfl ?_)
   have hi:inB b=false:=by unfold inB;rw [g0];simp [e0]
   cases hf:Fk b with
   |true=>
    have hF:DH s b=(Chn.BJ s (Fw b) (EU b)).2:=by unfold DH;rw [hi,if_neg (by decide),hf,if_pos rfl]
    have hT:F5 b=AQ (EU b):=by unfold F5;rw [hi,if_neg (by decide)]
    rw [hF,hT]
    have hc:=h2 hw
    rw [hf,if_pos rfl,if_pos rfl] at hc
    refine BR rfl hc ?_
    (refine AU rfl<|Ap rfl rfl<|Ap rfl rfl<|Ap rfl rfl<|Ab rfl<|Ab rfl<|Ae rfl<|Aa<|Ah<|Ad<|Ae rfl<|Bj rfl<|Aa<|AR rfl<|Al<|Ad<|Ak rfl<|Av rfl<|Ai rfl<|Ag rfl (Aj 0 rfl rfl)<|Ab rfl<|Ab rfl ?_)
    refine A3 [_] (h3 (k:=Fw b) (size:=EU b) hp) rfl rfl (fun v d2 L2 hl ⟨_,u,tc,e1,hu,hp2,htc⟩=>?_)
    subst e1
    rw [Agh] at htc
    (refine Ap rfl rfl<|Ap rfl rfl<|AK<|Ab rfl<|Aa<|Ao ?_)
    exact CF rfl rfl (Acb _) ⟨hl,u,L2,tc,rfl,rfl,hu,hp2,htc⟩
   |false=>
    have hF:DH s b=([],200):=by unfold DH;rw [hi,if_neg (by decide),hf,if_neg (by decide)]
    rw [hF]
    have hc:=h2 hw
    rw [hf,if_neg (by decide),if_neg (by decide)] at hc
    refine BR rfl hc ?_
    (refine AU rfl<|Ap rfl rfl<|Ap rfl rfl<|Ap rfl rfl<|Ab rfl<|Ab rfl<|Ae rfl<|Aa<|Ah<|Ad<|Ae rfl<|Bj rfl<|Aa<|Be rfl<|Ad<|Am rfl<|Ab rfl<|Aa<|Ao ?_)
    exact CF rfl rfl (Acb _) ⟨Le.refl _,_,L,s.tc,rfl,rfl,RSl.nil,hp,fun q=>absurd (show(200:Int)=0 from q) (by decide)⟩
 ·(refine Ad<|Am rfl<|Ab rfl<|Aa<|Ah<|Ad<|Am rfl<|AL rfl<|BS rfl rfl<|Ae rfl<|AZ rfl (by omega)<|An rfl<|An rfl<|An rfl<|An rfl<|Aq rfl rfl<|Aa<|AR rfl<|Al<|Ad<|Am rfl ?_)
  have hi:inB b=false:=by unfold inB;simp [h0]
  cases hf:Fk b with
  |true=>
   have hF:DH s b=(Chn.BJ s (Fw b) (EU b)).2:=by unfold DH;rw [hi,if_neg (by decide),hf,if_pos rfl]
   have hT:F5 b=AQ (EU b):=by unfold F5;rw [hi,if_neg (by decide)]
   rw [hF,hT]
   have hc:=h2 hw
   rw [hf,if_pos rfl,if_pos rfl] at hc
   refine BR rfl hc ?_
   (refine AU rfl<|Ap rfl rfl<|Ap rfl rfl<|Ap rfl rfl<|Ab rfl<|Ab rfl<|Ae rfl<|Aa<|Ah<|Ad<|Ae rfl<|Bj rfl<|Aa<|AR rfl<|Al<|Ad<|Ak rfl<|Av rfl<|Ai rfl<|Ag rfl (Aj 0 rfl rfl)<|Ab rfl<|Ab rfl ?_)
   refine A3 [_] (h3 (k:=Fw b) (size:=EU b) hp) rfl rfl (fun v d2 L2 hl ⟨_,u,tc,e1,hu,hp2,htc⟩=>?_)
   subst e1
   rw [Agh] at htc
   (refine Ap rfl rfl<|Ap rfl rfl<|AK<|Ab rfl<|Aa<|Ao ?_)
   exact CF rfl rfl (Acb _) ⟨hl,u,L2,tc,rfl,rfl,hu,hp2,htc⟩
  |false=>
   have hF:DH s b=([],200):=by unfold DH;rw [hi,if_neg (by decide),hf,if_neg (by decide)]
   rw [hF]
   have hc:=h2 hw
   rw [hf,if_neg (by decide),if_neg (by decide)] at hc
   refine BR rfl hc ?_
   (refine AU rfl<|Ap rfl rfl<|Ap rfl rfl<|Ap rfl rfl<|Ab rfl<|Ab rfl<|Ae rfl<|Aa<|Ah<|Ad<|Ae rfl<|Bj rfl<|Aa<|Be rfl<|Ad<|Am rfl<|Ab rfl<|Aa<|Ao ?_)
   exact CF rfl rfl (Acb _) ⟨Le.refl _,_,L,s.tc,rfl,rfl,RSl.nil,hp,fun q=>absurd (show(200:Int)=0 from q) (by decide)⟩
def LY(P:Program) (f:FuncId):Prop:=∀{d:Ac}{s:PD}{dv pv w:Value}{L:List Ac}{bt:Nat}{Tt:TypeId}{r h c:Int}{b:List UInt8},PgT d s dv pv L→AM d w b→
 Aw P f [.pointer (some ⟨bt,0,none⟩),w] d (tb bt Tt pv r h c::L) (Ret fun v d' L'=>Le d d'∧v=.int .i64 (BO s b).2∧∃L2,L'=tb bt Tt pv r h c::L2∧PgT d' (BO s b).1 dv pv L2)
def M9(a0 a1:Nat):AY:=⟨32,[(.tmp 4)],(sR (o1 4 (.mv (kZ 0)) .done) (.seq (sR (om 8 1<|oL 9 8<|ob 10 .gtr (tP 9) (kZ 0)<|om 11 10<|gT 12 11 1<|oT 13 11 (.idx 1 (tP 12) (kZ 0))<|oT 14 11 (.ld none (tP 13))<|oT 15 11 (.bin .eql (tP 14) (.const (.int .u8 0)))<|gP 16 11 15 .done) (.cond (tP 16) (sR (o1 4 (.mv (kZ 0)) .done) .ret) .skip)) (sR (om 18 1<|oc 19 a0 [(tP 18)]<|om 17 19<|oe 20 17 0<|oe 21 17 1<|oe 22 17 2<|om 5 20<|om 6 21<|om 7 22 .done) (.seq (sR (om 23 7<|o1 24 (.un .not (tP 23)) .done) (.cond (tP 24) (sR (o1 4 (.mv (kZ 200)) .done) .ret) .skip)) (sR (om 25 0<|o1 26 (.nilc (tP 25))<|oj 27 0 26<|ol 28 27<|om 29 5<|om 30 6<|oc 31 a1 [(tP 28),(tP 29),(tP 30)]<|om 4 31 .done) .ret)))))⟩
set_option maxRecDepth 4000 in
theorem Yh{P:Program}{f f1 f2:FuncId} (hd:dec P f=some (M9 f1 f2)) (h1:QH P f1) (h2:LL P f2):LY P f:=by
 intro d s dv pv w L bt Tt r h c b hp hw
 obtain⟨bp,rfl⟩:=hp.ptr
 obtain⟨wa,wc,rfl⟩:=RSl.val hw
 refine AG hd (Aca rfl) ?_
 show gwp P _ _ _ _ _
 by_cases h0:0<b.length
 ·have g0:=CR (b:=b) (i:=0) h0
  by_cases e0:b[0]=0
  ·have hb0:=Ul (b:=b) rfl h0 (n:=0) (by rw [g0,e0];rfl)
   (refine Ad<|Ab rfl<|Aa<|Ah<|Ad<|Am rfl<|AL rfl<|BS rfl rfl<|Ae rfl<|Bd rfl (by omega)<|Af rfl<|Am rfl<|Af rfl<|BH (sz:=1) (R:=AP) (by rfl) (by assumption) (by rfl) rfl (by omega) ?_;rintro _ _ _ _ _ rfl;refine Af rfl<|Ag rfl (B5 (by assumption) rfl)<|Af rfl<|AJ rfl rfl<|AB rfl rfl<|Aa<|Ay rfl (by omega)<|Ad<|Ab rfl<|Aa<|Ao ?_)
   have hi:inB b=true:=by unfold inB;rw [g0,e0];simp [h0]
   have hF:BO s b=(s,0):=by unfold BO;rw [if_pos hi]
   rw [hF]
   exact BG rfl (Acb _) ⟨Le.refl _,rfl,L,rfl,hp⟩
  ·have hb0:=Ul (b:=b) rfl h0 (n:=_) (congrArg UInt8.toNat g0)
   have hb1:b[0].toNat≠0:=fun q=>e0 (UInt8.toNat_inj.1 q)
   (refine Ad<|Ab rfl<|Aa<|Ah<|Ad<|Am rfl<|AL rfl<|BS rfl rfl<|Ae rfl<|Bd rfl (by omega)<|Af rfl<|Am rfl<|Af rfl<|BH (sz:=1) (R:=AP) (by rfl) (by assumption) (by rfl) rfl (by omega) ?_;rintro _ _ _ _ _ rfl;refine Af rfl<|Ag rfl (B5 (by assumption) rfl)<|Af rfl<|AJ rfl rfl<|AB rfl rfl<|Aa<|Ar rfl (by omega)<|Al<|Ad<|Am rfl ?_)
   have hi:inB b=false:=by unfold inB;rw [g0];simp [e0]
   cases hf:Fk b with
   |true=>
    have hF:BO s b=DN s (Fw b) (EU b):=by unfold BO;rw [hi,if_neg (by decide),hf,if_pos rfl]
    rw [hF]
    have hc:=h1 hw
    rw [hf,if_pos rfl,if_pos rfl] at hc
    refine BR rfl hc ?_
    clear hi hf
    (refine AU rfl<|Ap rfl rfl<|Ap rfl rfl<|Ap rfl rfl<|Ab rfl<|Ab rfl<|Ae rfl<|Aa<|Ah<|Ad<|Ae rfl<|Bj rfl<|Aa<|AR rfl<|Al<|Ad<|Ak rfl<|Av rfl<|Ai rfl<|Ag rfl (Aj 0 rfl rfl)<|Ab rfl<|Ab rfl ?_)
    refine A3 [_] (VD h2 (k:=Fw b) (size:=EU b) hp) rfl rfl (fun v d2 L2 hl ⟨_,e1,hp2⟩=>?_)
    subst e1
    (refine Ab rfl<|Aa<|Ao ?_)
    exact BG rfl (Acb _) ⟨hl,rfl,L2,rfl,hp2⟩
   |false=>
    have hF:BO s b=(s,200):=by unfold BO;rw [hi,if_neg (by decide),hf,if_neg (by decide)]
    rw [hF]
    have hc:=h1 hw
    rw [hf,if_neg (by decide),if_neg (by decide)] at hc
    refine BR rfl hc ?_
    clear hi hf
    (refine AU rfl<|Ap rfl rfl<|Ap rfl rfl<|Ap rfl rfl<|Ab rfl<|Ab rfl<|Ae rfl<|Aa<|Ah<|Ad<|Ae rfl<|Bj rfl<|Aa<|Be rfl<|Ad<|Ab rfl<|Aa<|Ao ?_)
    exact BG rfl (Acb _) ⟨Le.refl _,rfl,L,rfl,hp⟩
 ·(refine Ad<|Ab rfl<|Aa<|Ah<|Ad<|Am rfl<|AL rfl<|BS rfl rfl<|Ae rfl<|AZ rfl (by omega)<|An rfl<|An rfl<|An rfl<|An rfl<|Aq rfl rfl<|Aa<|AR rfl<|Al<|Ad<|Am rfl ?_)
  have hi:inB b=false:=by unfold inB;simp [h0]
  cases hf:Fk b with
  |true=>
   have hF:BO s b=DN s (Fw b) (EU b):=by unfold BO;rw [hi,if_neg (by decide),hf,if_pos rfl]
   rw [hF]
   have hc:=h1 hw
   rw [hf,if_pos rfl,if_pos rfl] at hc
   refine BR rfl hc ?_
   clear hi hf
   (refine AU rfl<|Ap rfl rfl<|Ap rfl rfl<|Ap rfl rfl<|Ab rfl<|Ab rfl<|Ae rfl<|Aa<|Ah<|Ad<|Ae rfl<|Bj rfl<|Aa<|AR rfl<|Al<|Ad<|Ak rfl<|Av rfl<|Ai rfl<|Ag rfl (Aj 0 rfl rfl)<|Ab rfl<|Ab rfl ?_)
   refine A3 [_] (VD h2 (k:=Fw b) (size:=EU b) hp) rfl rfl (fun v d2 L2 hl ⟨_,e1,hp2⟩=>?_)
   subst e1
   (refine Ab rfl<|Aa<|Ao ?_)
   exact BG rfl (Acb _) ⟨hl,rfl,L2,rfl,hp2⟩
  |false=>
   have hF:BO s b=(s,200):=by unfold BO;rw [hi,if_neg (by decide),hf,if_neg (by decide)]
   rw [hF]
   have hc:=h1 hw
   rw [hf,if_neg (by decide),if_neg (by decide)] at hc
   refine BR rfl hc ?_
   clear hi hf
   (refine AU rfl<|Ap rfl rfl<|Ap rfl rfl<|Ap rfl rfl<|Ab rfl<|Ab rfl<|Ae rfl<|Aa<|Ah<|Ad<|Ae rfl<|Bj rfl<|Aa<|Be rfl<|Ad<|Ab rfl<|Aa<|Ao ?_)
   exact BG rfl (Acb _) ⟨Le.refl _,rfl,L,rfl,hp⟩
def MO(a0:Nat):AY:=⟨44,[(.tmp 4),(.tmp 5)],(sR (o1 4 (.mv nS)<|o1 5 (.mv (kZ 0)) .done) (.seq (sR (om 9 1<|oL 10 9<|ob 11 .leq (tP 10) (kZ 15) .done) (.cond (tP 11) (sR (o1 12 (.bsl 1 1 [(.int .u8 0)] [(0,(.const (.int .u8 0)))])<|om 13 1<|o1 14 (.app 1 1 [(.int .u8 0)] (tP 12) (tP 13))<|om 4 14<|o1 5 (.mv (kZ 0)) .done) .ret) .skip)) (sR (om 16 0<|o1 17 (.nilc (tP 16))<|oj 18 0 17<|ol 19 18<|om 20 1<|oc 21 a0 [(tP 19),(tP 20)]<|om 15 21<|oe 22 15 0<|oe 23 15 1<|om 6 22<|om 7 23 .done) (sR (om 24 1<|oL 25 24<|om 8 25 .done) (sR (om 26 6<|ob 27 .shr (tP 26) (.const (.int .u64 8))<|o1 28 (.cvi .u8 (tP 27))<|om 29 6<|o1 30 (.cvi .u8 (tP 29))<|om 31 8<|ob 32 .shr (tP 31) (.const (.int .u64 24))<|o1 33 (.cvi .u8 (tP 32))<|om 34 8<|ob 35 .shr (tP 34) (.const (.int .u64 16))<|o1 36 (.cvi .u8 (tP 35))<|om 37 8<|ob 38 .shr (tP 37) (.const (.int .u64 8))<|o1 39 (.cvi .u8 (tP 38))<|om 40 8<|o1 41 (.cvi .u8 (tP 40))<|o1 42 (.bsl 7 1 [(.int .u8 0)] [(0,(.const (.int .u8 1))),(1,(tP 28)),(2,(tP 30)),(3,(tP 33)),(4,(tP 36)),(5,(tP 39)),(6,(tP 41))])<|om 43 7<|om 4 42<|om 5 43 .done) .ret)))))⟩
theorem W4{s:PD} (hG:Pgr.Good s) {b:List UInt8}:0≤(B0 s b).2.1∧(B0 s b).2.1≤16384:=by
 obtain⟨h1, -⟩:=JQ (n:=AQ b.length) (Tk.nil s)
 unfold B0
 by_cases hz:(BQ s [] (AQ b.length)).2.2=0
 ·have ht:Chn.Bz s (AQ b.length)=BQ s [] (AQ b.length):=by unfold Chn.Bz;rw [if_pos hz]
  rw [ht]
  simp only [hz,if_true]
  generalize (BQ s [] (AQ b.length)).2.1=l at h1
  cases l with
  |nil=>show 0≤(0:Int)∧(0:Int)≤16384;decide
  |cons k l=>
   obtain⟨j,j1,j2, -⟩:=h1.was k (Acu ..)
   have:=hG.inn
   have:=hG.syn
   show 0≤k∧k≤16384
   omega
 ·have ht:(Chn.Bz s (AQ b.length)).2.2≠0:=by unfold Chn.Bz;rw [if_neg hz];exact hz
  simp only [ht,if_false]
  show 0≤(0:Int)∧(0:Int)≤16384
  decide
def Hx(P:Program) (f:FuncId):Prop:=∀{d:Ac}{s:PD}{dv pv:Value}{L:List Ac}{bt:Nat}{Tt:TypeId}{r h c k:Int}{cs:List Value}{n:AF},PgT d s dv pv L→Cx d cs n→A5 n≤1000000000000→
 Aw P f [.pointer (some ⟨bt,0,none⟩),.int .i64 k,.agg cs.toArray] d (tb bt Tt pv r h c::L) (Ret fun v d' L'=>Le d d'∧v=.tuple #[.int .i64 (Bt s k n).2.1,.int .i64 (Bt s k n).2.2]∧∃L2,L'=tb bt Tt pv r h c::L2∧PgT d' (Bt s k n).1 dv pv L2)
theorem Cx.four{d:Ac}{cs:List Value}{n:AF} (h:Cx d cs n):∃ka kc va vc ia ic,cs=[.bool n.leaf,.slice ka n.keys.length kc,.slice va n.vals.length vc,.slice ia n.kids.length ic]:=by
 obtain⟨kv,vv,iv,rfl,a1,a2,a3⟩:=h
 obtain⟨x1,x2,rfl⟩:=a1.val
 obtain⟨y1,y2,rfl⟩:=a2.val
 obtain⟨z1,z2,rfl⟩:=a3.val
 exact⟨_,_,_,_,_,_,rfl⟩
def N0(a0 a1 a2 a3:Nat):AY:=⟨64,[(.tmp 6),(.tmp 7)],(sR (o1 5 (.box (tP 2))<|o1 6 (.mv (kZ 0))<|o1 7 (.mv (kZ 0)) .done) (sR (o1 14 (.ld (some 4) (tP 5))<|oc 15 a0 [(tP 14)]<|om 13 15<|oe 16 13 0<|oe 17 13 1<|om 8 16<|om 9 17 .done) (.seq (sR (om 18 9<|ob 19 .neq (tP 18) (kZ 0) .done) (.cond (tP 19) (sR (om 20 9<|o1 6 (.mv (kZ 0))<|om 7 20 .done) .ret) .skip)) (.seq (sR (om 21 1<|ob 22 .geq (tP 21) (kZ 0) .done) (.cond (tP 22) (sR (om 23 0<|o1 24 (.nilc (tP 23))<|oj 25 0 24<|ol 26 25<|om 27 1<|om 28 8<|oc 29 a1 [(tP 26),(tP 27),(tP 28)]<|om 10 29 .done) (sR (om 30 10<|ob 31 .neq (tP 30) (kZ 240) .done) (.cond (tP 31) (sR (om 32 1<|om 33 10<|om 6 32<|om 7 33 .done) .ret) .skip))) .skip)) (sR (om 35 0<|o1 36 (.nilc (tP 35))<|oj 37 0 36<|ol 38 37<|oc 39 a2 [(tP 38)]<|om 34 39<|oe 40 34 0<|oe 41 34 1<|om 11 40<|om 9 41 .done) (.seq (sR (om 42 9<|ob 43 .neq (tP 42) (kZ 0) .done) (.cond (tP 43) (sR (om 44 9<|o1 6 (.mv (kZ 0))<|om 7 44 .done) .ret) .skip)) (.seq (sR (om 45 1<|ob 46 .geq (tP 45) (kZ 0) .done) (.cond (tP 46) (sR (om 47 0<|o1 48 (.nilc (tP 47))<|oj 49 0 48<|ol 50 49<|om 51 1<|oc 52 a3 [(tP 50),(tP 51)]<|om 12 52 .done) (sR (om 53 12<|ob 54 .neq (tP 53) (kZ 0) .done) (.cond (tP 54) (sR (om 55 12<|o1 6 (.mv (kZ 0))<|om 7 55 .done) .ret) .skip))) .skip)) (sR (om 56 11<|om 57 0<|o1 58 (.nilc (tP 57))<|oj 59 0 58<|ol 60 59<|om 61 11<|om 62 8<|oc 63 a1 [(tP 60),(tP 61),(tP 62)]<|om 6 56<|om 7 63 .done) .ret))))))))⟩
set_option maxRecDepth 4000 in
theorem XH{P:Program}{f f1 f2 f3 f4:FuncId} (hd:dec P f=some (N0 f1 f2 f3 f4)) (h1:Mh P f1) (h2:Oy P f2) (h3:Pgr.FM P f3) (h4:Pgr.Gt P f4):Hx P f:=by
 intro d s dv pv L bt Tt r h c k cs n hp hn hz
 obtain⟨bp,rfl⟩:=hp.ptr
 have hn0:=hn
 obtain⟨ka,kc,va,vc,ia,ic,rfl⟩:=Cx.four hn
 refine AG hd (Aca rfl) ?_
 show gwp P _ _ _ _ _
 apply Ah;apply AE
 refine Cc rfl (fun b5 T5=>?_)
 (refine Ab rfl<|Ab rfl<|Aa<|Ad<|Bg 0 rfl rfl rfl ?_)
 refine Bk rfl (UT h1 hn0 hz) (fun v d2 L2 _ ⟨e0,u,g,e1,e2,hg⟩=>?_)
 subst e0;subst e1;subst e2
 obtain⟨ua,uc,rfl⟩:=hg.val
 cases hr:By n with
 |false=>
  have hF:Bt s k n=(s,0,200):=by unfold Bt;rw [hr,if_neg (by decide)]
  rw [hF]
  rw [hr,if_neg (by decide)] at hg
  rw [if_neg (by decide),if_neg (by decide)]
  clear hr hF
  (refine AU rfl<|Ap rfl rfl<|Ap rfl rfl<|Am rfl<|Ab rfl<|Aa<|Ah<|Ad<|Ab rfl<|AO rfl rfl<|Aa<|Ay rfl (by omega)<|Ad<|Ab rfl<|Ab rfl<|Ab rfl<|Aa<|Ao ?_)
  exact CF (L':=tb bt Tt (.pointer (some ⟨bp,0,none⟩)) r h c::L) rfl rfl (.cons _ (.cons _ (Acb _))) ⟨Le.refl _,rfl,L,rfl,hp⟩
 |true=>
  rw [hr,if_pos rfl] at hg
  rw [if_pos rfl,if_pos rfl]
  obtain⟨d3,hle,v1,hb⟩:∃d3,Le d2 d3∧Vs d2 [g] d3 []∧AM d3 (.slice ua (B6 n).length uc) (B6 n):=⟨join d2 g,Le.AI _ _,Vs.freeze,As.rsl (R:=AP) (sz:=1) hg AX (by omega) (Le.AI _ _) (Le.A9 _ _)⟩
  have hp3:=hp.mono hle
  refine B9 _ _ (Vs.app v1 _) ?_
  have hP:Bt s k n=if 0≤k∧(s.put k (B6 n)).2≠240 then((s.put k (B6 n)).1,k,(s.put k (B6 n)).2)
    else if s.AV.2.2≠0 then(s.AV.1,0,s.AV.2.2)
    else if 0≤k then
     if (s.AV.1.drop k).2≠0 then((s.AV.1.drop k).1,0,(s.AV.1.drop k).2)
     else(((s.AV.1.drop k).1.put s.AV.2.1 (B6 n)).1,s.AV.2.1,((s.AV.1.drop k).1.put s.AV.2.1 (B6 n)).2)
    else((s.AV.1.put s.AV.2.1 (B6 n)).1,s.AV.2.1,(s.AV.1.put s.AV.2.1 (B6 n)).2):=by unfold Bt;rw [hr,if_pos rfl]
  clear hr
  generalize B6 n=pg at hb hP
  by_cases hk:0≤k
  ·(refine AU rfl<|Ap rfl rfl<|Ap rfl rfl<|Am rfl<|Ab rfl<|Aa<|Ah<|Ad<|Ab rfl<|AO rfl rfl<|Aa<|Ar rfl (by omega)<|Al<|Ah<|Ad<|Ab rfl<|DL rfl rfl<|Aa<|Ay rfl (by omega)<|Ad<|Ak rfl<|Av rfl<|Ai rfl<|Ag rfl (Aj 1 rfl rfl)<|Ab rfl<|Am rfl ?_)
   refine A3 [_,_] (XB h2 hp3 (k:=k) hb) rfl rfl (fun w d4 L4 hl4 ⟨e4,hp4⟩=>?_)
   subst e4
   by_cases he:(s.put k pg).2=240
   ·have hs4:(s.put k pg).1=s:=by
     unfold PD.put at he⊢
     by_cases q1:s.kind k=1
     ·by_cases q2:pg.length=256
      ·simp only [if_pos q1,if_pos q2] at he;exact absurd he (by decide)
      ·simp only [if_pos q1,if_neg q2]
     ·simp only [if_neg q1]
    rw [hs4] at hp4
    rw [if_neg (fun q=>q.2 he)] at hP
    rw [he]
    have hb4:=RSl.mono (R:=AP) AX hb hl4
    (refine Ab rfl<|Aa<|Ad<|Ab rfl<|AO rfl rfl<|Aa<|Ar rfl (by omega)<|Al<|Ad<|Ak rfl<|Av rfl<|Ai rfl<|Ag rfl (Aj 1 rfl rfl) ?_)
    refine A3 [_,_] (YV h3 hp4) rfl rfl (fun w d5 L5 hl5 ⟨e5,hp5⟩=>?_)
    subst e5
    have hb5:=RSl.mono (R:=AP) AX hb4 hl5
    by_cases ht:s.AV.2.2=0
    ·rw [if_neg (fun q=>q ht),if_pos hk] at hP
     rw [ht]
     (refine AU rfl<|Ap rfl rfl<|Ap rfl rfl<|Ab rfl<|Ab rfl<|Aa<|Ah<|Ad<|Ab rfl<|AO rfl rfl<|Aa<|Ar rfl (by omega)<|Al<|Ah<|Ad<|Ab rfl<|DL rfl rfl<|Aa<|Ay rfl (by omega)<|Ad<|Ak rfl<|Av rfl<|Ai rfl<|Ag rfl (Aj 1 rfl rfl)<|Ab rfl ?_)
     refine A3 [_,_] (Vg h4 hp5 (k:=k)) rfl rfl (fun w d6 L6 hl6 ⟨e6,hp6⟩=>?_)
     subst e6
     by_cases hd6:(s.AV.1.drop k).2=0
     ·rw [if_neg (fun q=>q hd6)] at hP
      rw [hd6,hP]
      have hb6:=RSl.mono (R:=AP) AX hb5 hl6
      (refine Ab rfl<|Aa<|Ad<|Ab rfl<|AO rfl rfl<|Aa<|Ar rfl (by omega)<|Al<|Ad<|Ab rfl<|Ak rfl<|Av rfl<|Ai rfl<|Ag rfl (Aj 1 rfl rfl)<|Ab rfl<|Am rfl ?_)
      refine A3 [_,_] (XB h2 hp6 (k:=s.AV.2.1) hb6) rfl rfl (fun w d7 L7 hl7 ⟨e7,hp7⟩=>?_)
      subst e7
      (refine Ab rfl<|Ab rfl<|Aa<|Ao ?_)
      exact CF (L':=tb bt Tt (.pointer (some ⟨bp,0,none⟩)) r h c::L7) rfl rfl (.cons _ (Acb _)) ⟨(hle.trans hl4).trans ((hl5.trans hl6).trans hl7),rfl,L7,rfl,hp7⟩
     ·rw [if_pos hd6] at hP
      rw [hP]
      (refine Ab rfl<|Aa<|Ad<|Ab rfl<|AO rfl rfl<|Aa<|Ay rfl (by omega)<|Ad<|Ab rfl<|Ab rfl<|Ab rfl<|Aa<|Ao ?_)
      exact CF (L':=tb bt Tt (.pointer (some ⟨bp,0,none⟩)) r h c::L6) rfl rfl (.cons _ (Acb _)) ⟨(hle.trans hl4).trans (hl5.trans hl6),rfl,L6,rfl,hp6⟩
    ·rw [if_pos ht] at hP
     rw [hP]
     (refine AU rfl<|Ap rfl rfl<|Ap rfl rfl<|Ab rfl<|Ab rfl<|Aa<|Ah<|Ad<|Ab rfl<|AO rfl rfl<|Aa<|Ay rfl (by omega)<|Ad<|Ab rfl<|Ab rfl<|Ab rfl<|Aa<|Ao ?_)
     exact CF (L':=tb bt Tt (.pointer (some ⟨bp,0,none⟩)) r h c::L5) rfl rfl (.cons _ (Acb _)) ⟨(hle.trans hl4).trans hl5,rfl,L5,rfl,hp5⟩
   ·rw [if_pos ⟨hk,he⟩] at hP
    rw [hP]
    (refine Ab rfl<|Aa<|Ad<|Ab rfl<|AO rfl rfl<|Aa<|Ay rfl (by omega)<|Ad<|Ab rfl<|Ab rfl<|Ab rfl<|Ab rfl<|Aa<|Ao ?_)
    exact CF (L':=tb bt Tt (.pointer (some ⟨bp,0,none⟩)) r h c::L4) rfl rfl (.cons _ (Acb _)) ⟨hle.trans hl4,rfl,L4,rfl,hp4⟩
  ·rw [if_neg (fun q=>hk q.1)] at hP
   (refine AU rfl<|Ap rfl rfl<|Ap rfl rfl<|Am rfl<|Ab rfl<|Aa<|Ah<|Ad<|Ab rfl<|AO rfl rfl<|Aa<|Ar rfl (by omega)<|Al<|Ah<|Ad<|Ab rfl<|DL rfl rfl<|Aa<|Ar rfl (by omega)<|Al<|Ad<|Ak rfl<|Av rfl<|Ai rfl<|Ag rfl (Aj 1 rfl rfl) ?_)
   refine A3 [_,_] (YV h3 hp3) rfl rfl (fun w d5 L5 hl5 ⟨e5,hp5⟩=>?_)
   subst e5
   have hb5:=RSl.mono (R:=AP) AX hb hl5
   by_cases ht:s.AV.2.2=0
   ·rw [if_neg (fun q=>q ht),if_neg hk] at hP
    rw [ht,hP]
    (refine AU rfl<|Ap rfl rfl<|Ap rfl rfl<|Ab rfl<|Ab rfl<|Aa<|Ah<|Ad<|Ab rfl<|AO rfl rfl<|Aa<|Ar rfl (by omega)<|Al<|Ah<|Ad<|Ab rfl<|DL rfl rfl<|Aa<|Ar rfl (by omega)<|Al<|Ad<|Ab rfl<|Ak rfl<|Av rfl<|Ai rfl<|Ag rfl (Aj 1 rfl rfl)<|Ab rfl<|Am rfl ?_)
    refine A3 [_,_] (XB h2 hp5 (k:=s.AV.2.1) hb5) rfl rfl (fun w d7 L7 hl7 ⟨e7,hp7⟩=>?_)
    subst e7
    (refine Ab rfl<|Ab rfl<|Aa<|Ao ?_)
    exact CF (L':=tb bt Tt (.pointer (some ⟨bp,0,none⟩)) r h c::L7) rfl rfl (.cons _ (Acb _)) ⟨(hle.trans hl5).trans hl7,rfl,L7,rfl,hp7⟩
   ·rw [if_pos ht] at hP
    rw [hP]
    (refine AU rfl<|Ap rfl rfl<|Ap rfl rfl<|Ab rfl<|Ab rfl<|Aa<|Ah<|Ad<|Ab rfl<|AO rfl rfl<|Aa<|Ay rfl (by omega)<|Ad<|Ab rfl<|Ab rfl<|Ab rfl<|Aa<|Ao ?_)
    exact CF (L':=tb bt Tt (.pointer (some ⟨bp,0,none⟩)) r h c::L5) rfl rfl (.cons _ (Acb _)) ⟨hle.trans hl5,rfl,L5,rfl,hp5⟩
end Go.Gk.Tre
end
section
namespace Go.Gk.Tre
open Go Go.Gk Go.Gk.Node
theorem SF{n:AF} (h:A5 n≤1000000000000):A5 (AW n)≤1000000000000∧A5 (Ba n)≤1000000000000:=by
 by_cases hc:C9 n=true
 ·have hc':=hc
  simp only [C9,Acd,decide_eq_true_eq] at hc'
  obtain⟨hs,hm⟩:=hc'
  simp only [A6,Acd] at hs
  obtain⟨hks,hrest⟩:=hs
  obtain⟨ha1, -, -⟩:=Ny n
  cases hlf:n.leaf with
  |true=>
   simp only [hlf,if_true] at hm hrest
   have eL:AW n=⟨true,n.keys.take (atD n),n.vals.take (atD n),[]⟩:=by simp [AW,hc,hlf]
   have eR:Ba n=⟨true,n.keys.drop (atD n),n.vals.drop (atD n),[]⟩:=by simp [Ba,hc,hlf]
   have hall:A5 n=2+Bm n n.keys.length:=by simp [A5,hlf]
   have hcl:Bm (AW n) (AW n).keys.length=Bm n (atD n):=by
    rw [eL]
    simp only [Acw,Agw (show atD n≤n.keys.length by omega)]
    exact Hc n _ hlf.symm (a:=atD n) (fun j hj=>by simp only [Df,getD_take hj]) (fun _ j hj=>by simp only [ES,getD_take hj]) _ (Ach _)
   have hcr:Bm (Ba n) (Ba n).keys.length+Bm n (atD n)=Bm n n.keys.length:=by
    rw [eR]
    simp only [Aco]
    have:=G8 n ⟨true,n.keys.drop (atD n),n.vals.drop (atD n),[]⟩ hlf.symm (a:=atD n) (fun j=>by simp only [Df,Gh]) (fun _ j=>by simp only [ES,Gh]) (n.keys.length - atD n)
    rw [this];congr 1;omega
   have hmo:=Gf n (show atD n≤n.keys.length by omega)
   have sL:A5 (AW n)=2+Bm (AW n) (AW n).keys.length:=by rw [eL];simp [A5]
   have sR:A5 (Ba n)=2+Bm (Ba n) (Ba n).keys.length:=by rw [eR];simp [A5]
   omega
  |false=>
   simp only [hlf,Acj,if_false] at hm hrest
   simp only [Acd,decide_eq_true_eq] at hrest
   obtain⟨⟨hvl,hil⟩,hia⟩:=hrest
   have ha4:at2 n≤n.keys.length - 1:=by simp only [at2];omega
   have ha5:2≤at2 n:=by simp only [at2];omega
   have eL:AW n=⟨false,n.keys.take (at2 n - 1),[],n.kids.take (at2 n)⟩:=by simp [AW,hc,hlf]
   have eR:Ba n=⟨false,n.keys.drop (at2 n),[],n.kids.drop (at2 n)⟩:=by simp [Ba,hc,hlf]
   have hall:A5 n=2+2*(n.keys.length+1)+Bm n n.keys.length:=by simp only [A5,hlf,Acj,if_false,hil]
   have hcl:Bm (AW n) (AW n).keys.length=Bm n (at2 n - 1):=by
    rw [eL]
    simp only [Acw,Agw (show at2 n - 1≤n.keys.length by omega)]
    exact Hc n _ hlf.symm (a:=at2 n - 1) (fun j hj=>by simp only [Df,getD_take hj]) (fun h=>by rw [hlf] at h;cases h) _ (Ach _)
   have hcr:Bm (Ba n) (Ba n).keys.length+Bm n (at2 n)=Bm n n.keys.length:=by
    rw [eR]
    simp only [Aco]
    have:=G8 n ⟨false,n.keys.drop (at2 n),[],n.kids.drop (at2 n)⟩ hlf.symm (a:=at2 n) (fun j=>by simp only [Df,Gh]) (fun h=>by rw [hlf] at h;cases h) (n.keys.length - at2 n)
    rw [this];congr 1;omega
   have hmo:=Gf n (show at2 n - 1≤n.keys.length by omega)
   have sL:A5 (AW n)=2+2*(n.kids.take (at2 n)).length+Bm (AW n) (AW n).keys.length:=by rw [eL];simp [A5]
   have sR:A5 (Ba n)=2+2*(n.kids.drop (at2 n)).length+Bm (Ba n) (Ba n).keys.length:=by rw [eR];simp [A5]
   rw [Acw] at sL
   rw [Aco] at sR
   omega
 ·have eL:AW n=⟨false,[],[],[]⟩:=by simp [AW,hc]
  have eR:Ba n=⟨false,[],[],[]⟩:=by simp [Ba,hc]
  rw [eL,eR];decide
end Go.Gk.Tre
end
section
namespace Go.Gk.Tre
open Go Go.Gk Go.Gk.Dev Go.Gk.Cch Go.Gk.Pgr Go.Gk.Chn Go.Gk.Node
attribute [local irreducible] gwp gws xwp
def HA(P:Program) (f:FuncId):Prop:=∀{d:Ac}{s:PD}{dv pv:Value}{L:List Ac}{bt:Nat}{Tt:TypeId}{r h c k:Int}{cs:List Value}{n:AF},PgT d s dv pv L→Cx d cs n→Small n→
 Aw P f [.pointer (some ⟨bt,0,none⟩),.int .i64 k,.agg cs.toArray] d (tb bt Tt pv r h c::L) (Ret fun v d' L'=>Le d d'∧∃ua uc L2,v=.tuple #[.agg [.int .i64 (Bc s k n).2.1.page,.int .i64 (Bc s k n).2.1.other,.slice ua (Bc s k n).2.1.key.length uc,.int .i64 (Bc s k n).2.1.size].toArray,.int .i64 (Bc s k n).2.2]∧
  AM d' (.slice ua (Bc s k n).2.1.key.length uc) (Bc s k n).2.1.key∧L'=tb bt Tt pv r h c::L2∧PgT d' (Bc s k n).1 dv pv L2)
def M5(a0 a1 a2 a3:Nat):AY:=⟨63,[(.cell 6 (some 4)),(.tmp 7)],(sR (o1 5 (.box (tP 2))<|o1 6 (.alo (.agg #[(.int .i64 0),(.int .i64 0),(.slice none 0 0),(.int .i64 0)]))<|o1 7 (.mv (kZ 0)) .done) (.seq (sR (o1 16 (.ld (some 4) (tP 5))<|oc 17 a0 [(tP 16)] .done) (.cond (tP 17) (sR (om 19 0<|om 20 1<|o1 21 (.ld (some 4) (tP 5))<|oc 22 a1 [(tP 19),(tP 20),(tP 21)]<|om 18 22<|oe 23 18 0<|oe 24 18 1<|om 8 23<|om 9 24 .done) (sR (om 25 8<|o1 26 (.ld (some 4) (tP 5))<|oc 27 a2 [(tP 26)]<|o1 28 (.bld [(0,1),(1,1),(2,1),(3,1)] [(.int .i64 0),(.int .i64 0),(.slice none 0 0),(.int .i64 0)] [(0,(tP 25)),(1,(kZ (-1))),(3,(tP 27))])<|om 29 9<|o0 (.st 4 (tP 6) (tP 28))<|om 7 29 .done) .ret)) .skip)) (sR (o1 31 (.ld (some 4) (tP 5))<|oc 32 a3 [(tP 31)]<|om 30 32<|oe 33 30 0<|oe 34 30 1<|oe 35 30 2<|oe 36 30 3<|o1 10 (.alo (.agg #[(.bool false),(.slice none 0 0),(.slice none 0 0),(.slice none 0 0)]))<|o1 11 (.alo (.agg #[(.bool false),(.slice none 0 0),(.slice none 0 0),(.slice none 0 0)]))<|o0 (.st 4 (tP 10) (tP 33))<|o0 (.st 4 (tP 11) (tP 34))<|om 12 35<|om 13 36 .done) (.seq (sR (om 37 13<|ob 38 .neq (tP 37) (kZ 0) .done) (.cond (tP 38) (sR (o1 39 (.bld [(0,1),(1,1),(2,1),(3,1)] [(.int .i64 0),(.int .i64 0),(.slice none 0 0),(.int .i64 0)] [])<|om 40 13<|o0 (.st 4 (tP 6) (tP 39))<|om 7 40 .done) .ret) .skip)) (sR (om 42 0<|om 43 1<|o1 44 (.ld (some 4) (tP 10))<|oc 45 a1 [(tP 42),(tP 43),(tP 44)]<|om 41 45<|oe 46 41 0<|oe 47 41 1<|om 14 46<|om 13 47 .done) (.seq (sR (om 48 13<|ob 49 .neq (tP 48) (kZ 0) .done) (.cond (tP 49) (sR (o1 50 (.bld [(0,1),(1,1),(2,1),(3,1)] [(.int .i64 0),(.int .i64 0),(.slice none 0 0),(.int .i64 0)] [])<|om 51 13<|o0 (.st 4 (tP 6) (tP 50))<|om 7 51 .done) .ret) .skip)) (sR (om 53 0<|o1 54 (.ld (some 4) (tP 11))<|oc 55 a1 [(tP 53),(kZ (-1)),(tP 54)]<|om 52 55<|oe 56 52 0<|oe 57 52 1<|om 15 56<|om 13 57 .done) (sR (om 58 14<|om 59 15<|om 60 12<|o1 61 (.bld [(0,1),(1,1),(2,1),(3,1)] [(.int .i64 0),(.int .i64 0),(.slice none 0 0),(.int .i64 0)] [(0,(tP 58)),(1,(tP 59)),(2,(tP 60)),(3,(kZ 256))])<|om 62 13<|o0 (.st 4 (tP 6) (tP 61))<|om 7 62 .done) .ret))))))))⟩
set_option maxRecDepth 4000 in
set_option maxHeartbeats 2000000 in
theorem W3{P:Program}{f f1 f2 f3 f4:FuncId} (hd:dec P f=some (M5 f1 f2 f3 f4)) (h1:Jh P f1) (h2:Hx P f2) (h3:Kn P f3) (h4:OO P f4):HA P f:=by
 intro d s dv pv L bt Tt r h c k cs n hp hn hz
 have hn0:=hn
 obtain⟨ka,kc,va,vc,ia,ic,rfl⟩:=Cx.four hn
 refine AG hd (Aca rfl) ?_
 show gwp P _ _ _ _ _
 apply Ah;apply AE
 refine Cc rfl (fun b5 T5=>?_)
 refine BV (fun b6 T6=>?_)
 (refine Ab rfl<|Aa<|Ah<|Ad<|Bg 1 rfl rfl rfl ?_)
 have hrt:=h1 hn0 hz.1
 cases hr:By n with
 |true=>
  rw [hr] at hrt
  have hF:Bc s k n=((Bt s k n).1,⟨(Bt s k n).2.1, -1,[],A5 n⟩,(Bt s k n).2.2):=by unfold Bc;rw [hr,if_pos rfl]
  rw [hF]
  clear hr
  refine BR rfl hrt ?_
  (refine Aa<|Be rfl<|Ad<|Ak rfl<|Ab rfl<|Bg 1 rfl rfl rfl ?_)
  refine A3 [_,_] (h2 (k:=k) hp hn0 hz.1) rfl rfl (fun v d2 L2 hl ⟨_,e1,L3,e2,hp2⟩=>?_)
  subst e1;subst e2
  (refine AU rfl<|Ap rfl rfl<|Ap rfl rfl<|Ab rfl<|Ab rfl<|Aa<|Ad<|Ab rfl<|Bg 1 rfl rfl rfl ?_)
  refine BR rfl (h3 (hn0.mono hl) hz.1) ?_
  (refine BI rfl<|Ab rfl ?_)
  refine Bq 0 rfl rfl rfl rfl (Ach _) rfl ?_
  (refine Ab rfl<|Aa<|Ao ?_)
  exact A7 [.agg [.int .i64 (Bt s k n).2.1,.int .i64 (-1),.slice none 0 0,.int .i64 (A5 n:Nat)].toArray,.int .i64 (Bt s k n).2.2] ⟨AT 0 rfl rfl rfl,Au rfl,trivial⟩ (d':=d2) (L':=tb bt Tt pv r h c::L3) (Vs.drop (.cons _ (.cons _ (Acb _)))) ⟨hl,none,0,L3,rfl,RSl.nil,rfl,hp2⟩
 |false=>
  rw [hr] at hrt
  have hF:Bc s k n=if C9 n then if (Bt s k (AW n)).2.2=0 then((Bt (Bt s k (AW n)).1 (-1) (Ba n)).1,⟨(Bt s k (AW n)).2.1,(Bt (Bt s k (AW n)).1 (-1) (Ba n)).2.1,BB n,256⟩,(Bt (Bt s k (AW n)).1 (-1) (Ba n)).2.2)
    else((Bt s k (AW n)).1,Ci,(Bt s k (AW n)).2.2) else(s,Ci,200):=by unfold Bc;rw [hr,if_neg (by decide)]
  rw [hF]
  clear hr
  refine BR rfl hrt ?_
  (refine Aa<|AR rfl<|Al<|Ad<|Bg 1 rfl rfl rfl ?_)
  refine Bk rfl (h4 hn0 hz) (fun v d2 L2 _ ⟨e0,ca,cb,kv,La,Lb,g,e1,e2,oa,ob,og⟩=>?_)
  subst e0;subst e1;subst e2
  obtain⟨ga,gc,rfl⟩:=og.val
  obtain⟨d3,v1,hl3,hf⟩:=Vs.HV d2 (La++Lb++[g])
  have na:=DK.Ii oa hl3 (fun h hm=>hf h (by simp [hm]))
  have nb:=DK.Ii ob hl3 (fun h hm=>hf h (by simp [hm]))
  have hkey:AM d3 (.slice ga (BB n).length gc) (BB n):=As.rsl (R:=AP) (sz:=1) og AX (by omega) hl3 (hf g (by simp))
  have hp3:=hp.mono hl3
  refine B9 _ _ (Vs.app v1 _) ?_
  obtain⟨xa,xc,ya,yc,za,zc,rfl⟩:=Cx.four na
  obtain⟨xa',xc',ya',yc',za',zc',rfl⟩:=Cx.four nb
  by_cases hcb:C9 n=true
  ·have hcb2:(if C9 n=true then(0:Int) else 200)=0:=if_pos hcb
   rw [if_pos hcb]
   obtain⟨zs1,zs2⟩:=SF hz.1
   rw [hcb2]
   clear hcb hcb2 hF
   (refine AU rfl<|Ap rfl rfl<|Ap rfl rfl<|Ap rfl rfl<|Ap rfl rfl<|BV (fun _ _=>BV (fun _ _=>?_)))
   rename_i b11 T11
   refine Bq 1 rfl rfl rfl rfl (Ach _) rfl ?_
   refine Bq 0 rfl rfl rfl rfl (Ach _) rfl ?_
   (refine Am rfl<|Ab rfl<|Aa<|Ah<|Ad<|Ab rfl<|AO rfl rfl<|Aa<|Ar rfl (by omega)<|Al<|Ad<|Ak rfl<|Ab rfl<|Bg 1 rfl rfl rfl ?_)
   refine A3 [_,_,_,_] (h2 (k:=k) hp3 na zs1) rfl rfl (fun v d4 L4 hl4 ⟨_,e4,L5,e5,hp5⟩=>?_)
   subst e4;subst e5
   by_cases hz4:(Bt s k (AW n)).2.2=0
   ·rw [if_pos hz4]
    rw [hz4]
    (refine AU rfl<|Ap rfl rfl<|Ap rfl rfl<|Ab rfl<|Ab rfl<|Aa<|Ah<|Ad<|Ab rfl<|AO rfl rfl<|Aa<|Ar rfl (by omega)<|Al<|Ad<|Ak rfl<|Bg 0 rfl rfl rfl ?_)
    refine A3 [_,_,_,_] (h2 (k:= -1) hp5 (nb.mono hl4) zs2) rfl rfl (fun v d6 L6 hl6 ⟨_,e6,L7,e7,hp7⟩=>?_)
    subst e6;subst e7
    (refine AU rfl<|Ap rfl rfl<|Ap rfl rfl<|Ab rfl<|Ab rfl<|Aa<|Ad<|Ab rfl<|Ab rfl<|Am rfl<|BI rfl<|Ab rfl ?_)
    refine Bq 2 rfl rfl rfl rfl (Ach _) rfl ?_
    (refine Ab rfl<|Aa<|Ao ?_)
    exact A7 [.agg [.int .i64 (Bt s k (AW n)).2.1,.int .i64 (Bt (Bt s k (AW n)).1 (-1) (Ba n)).2.1,.slice ga (BB n).length gc,.int .i64 256].toArray,.int .i64 (Bt (Bt s k (AW n)).1 (-1) (Ba n)).2.2] ⟨AT 2 rfl rfl rfl,Au rfl,trivial⟩ (d':=d6) (L':=tb bt Tt pv r h c::L7) (Vs.drop (.cons _ (.cons _ (.cons _ (.cons _ (Acb _)))))) ⟨hl3.trans (hl4.trans hl6),ga,gc,L7,rfl,RSl.mono (R:=AP) AX hkey (hl4.trans hl6),rfl,hp7⟩
   ·rw [if_neg hz4]
    (refine AU rfl<|Ap rfl rfl<|Ap rfl rfl<|Ab rfl<|Ab rfl<|Aa<|Ah<|Ad<|Ab rfl<|AO rfl rfl<|Aa<|Ay rfl (by omega)<|Ad<|BI rfl<|Ab rfl ?_)
    refine Bq 2 rfl rfl rfl rfl (Ach _) rfl ?_
    (refine Ab rfl<|Aa<|Ao ?_)
    exact A7 [.agg [.int .i64 0,.int .i64 0,.slice none 0 0,.int .i64 0].toArray,.int .i64 (Bt s k (AW n)).2.2] ⟨AT 2 rfl rfl rfl,Au rfl,trivial⟩ (d':=d4) (L':=tb bt Tt pv r h c::L5) (Vs.drop (.cons _ (.cons _ (.cons _ (.cons _ (Acb _)))))) ⟨hl3.trans hl4,none,0,L5,rfl,RSl.nil,rfl,hp5⟩
  ·have hcb2:(if C9 n=true then(0:Int) else 200)=200:=if_neg hcb
   rw [if_neg hcb]
   rw [hcb2]
   clear hcb hcb2 hF
   (refine AU rfl<|Ap rfl rfl<|Ap rfl rfl<|Ap rfl rfl<|Ap rfl rfl<|BV (fun _ _=>BV (fun _ _=>?_)))
   rename_i b11 T11
   refine Bq 1 rfl rfl rfl rfl (Ach _) rfl ?_
   refine Bq 0 rfl rfl rfl rfl (Ach _) rfl ?_
   (refine Am rfl<|Ab rfl<|Aa<|Ah<|Ad<|Ab rfl<|AO rfl rfl<|Aa<|Ay rfl (by omega)<|Ad<|BI rfl<|Ab rfl ?_)
   refine Bq 2 rfl rfl rfl rfl (Ach _) rfl ?_
   (refine Ab rfl<|Aa<|Ao ?_)
   exact A7 [.agg [.int .i64 0,.int .i64 0,.slice none 0 0,.int .i64 0].toArray,.int .i64 200] ⟨AT 2 rfl rfl rfl,Au rfl,trivial⟩ (d':=d3) (L':=tb bt Tt pv r h c::L) (Vs.drop (.cons _ (.cons _ (.cons _ (.cons _ (Acb _)))))) ⟨hl3,none,0,L,rfl,RSl.nil,rfl,hp3⟩
abbrev tbD(bt:Nat) (Tt:TypeId) (pv:Value) (t:TD):Ac:=tb bt Tt pv t.root t.height t.count
structure MOk (m:MdD):Prop where
 p0: -1≤m.page
 p1:m.page≤16384
 o0: -1≤m.other
 o1:m.other≤16384
 k:m.key.length≤1000
abbrev mdV(m:MdD) (ua:Option Addr) (uc:Nat):Value:=.agg [.int .i64 m.page,.int .i64 m.other,.slice ua m.key.length uc,.int .i64 m.size].toArray
def IX(P:Program) (f:FuncId):Prop:=∀{d:Ac}{t:TD}{m:MdD}{dv pv:Value}{L:List Ac}{bt:Nat}{Tt:TypeId}{ua:Option Addr}{uc:Nat},PgT d t.s dv pv L→AM d (.slice ua m.key.length uc) m.key→MOk m→t.height≤1000000→
 Aw P f [.pointer (some ⟨bt,0,none⟩),mdV m ua uc] d (tbD bt Tt pv t::L) (Ret fun v d' L'=>Le d d'∧v=.int .i64 (CK t m).2∧∃L2,L'=tbD bt Tt pv (CK t m).1::L2∧PgT d' (CK t m).1.s dv pv L2)
def MY(a0:Nat):AY:=⟨41,[(.tmp 4)],(sR (o1 3 (.box (tP 1))<|o1 4 (.mv (kZ 0)) .done) (sR (om 7 0<|oj 8 0 3<|ol 9 8<|o1 10 (.nilc (tP 7))<|oj 11 1 10<|o0 (.st 1 (tP 11) (tP 9)) .done) (.seq (sR (oj 12 1 3<|ol 13 12<|ob 14 .lss (tP 13) (kZ 0) .done) (.cond (tP 14) (sR (o1 4 (.mv (kZ 0)) .done) .ret) .skip)) (sR (om 16 0<|oj 17 2 3<|ol 18 17<|o1 19 (.bsl 1 1 [(.slice none 0 0)] [(0,(tP 18))])<|oj 20 0 3<|ol 21 20<|oj 22 1 3<|ol 23 22<|o1 24 (.bsl 2 1 [(.int .i64 0)] [(0,(tP 21)),(1,(tP 23))])<|o1 25 (.bld [(0,1),(1,1),(2,1),(3,1)] [(.bool false),(.slice none 0 0),(.slice none 0 0),(.slice none 0 0)] [(1,(tP 19)),(3,(tP 24))])<|oc 26 a0 [(tP 16),(kZ (-1)),(tP 25)]<|om 15 26<|oe 27 15 0<|oe 28 15 1<|om 5 27<|om 6 28 .done) (sR (om 29 0<|om 30 5<|o1 31 (.nilc (tP 29))<|oj 32 1 31<|o0 (.st 1 (tP 32) (tP 30)) .done) (sR (om 33 0<|o1 34 (.nilc (tP 33))<|oj 35 2 34<|ol 36 35<|ob 37 .add (tP 36) (kZ 1)<|o1 38 (.nilc (tP 33))<|oj 39 2 38<|o0 (.st 1 (tP 39) (tP 37)) .done) (sR (om 40 6<|om 4 40 .done) .ret)))))))⟩
set_option maxRecDepth 4000 in
theorem W9{P:Program}{f f1:FuncId} (hd:dec P f=some (MY f1)) (h1:Hx P f1):IX P f:=by
 intro d t m dv pv L bt Tt ua uc hp hk hm hh
 obtain⟨s,root,height,count⟩:=t
 simp only at hp hh
 refine AG hd (Aca rfl) ?_
 show gwp P _ _ _ _ _
 apply Ah;apply AE
 refine Cc rfl (fun b3 T3=>?_)
 (refine Ab rfl<|Aa<|Ad<|Ak rfl<|Ai rfl<|Ag rfl (Aj 0 rfl rfl)<|Av rfl<|Ai rfl ?_)
 refine A0 1 [pv,.int .i64 m.page,.int .i64 height,.int .i64 count] rfl rfl rfl rfl (Aca rfl) rfl rfl ?_
 by_cases ho:m.other<0
 ·have hF:CK ⟨s,root,height,count⟩ m=(⟨s,m.page,height,count⟩,0):=by unfold CK;rw [if_pos ho]
  rw [hF]
  (refine Aa<|Ah<|Ad<|Ai rfl<|Ag rfl (Aj 0 rfl rfl)<|AA rfl rfl<|Aa<|Ay rfl (by omega)<|Ad<|Ab rfl<|Aa<|Ao ?_)
  exact BG (L':=tbD bt Tt pv ⟨s,m.page,height,count⟩::L) rfl (.cons _ (Acb _)) ⟨Le.refl _,rfl,L,rfl,hp⟩
 ·have hF:CK ⟨s,root,height,count⟩ m=(⟨(Bt s (-1) ⟨false,[m.key],[],[m.page,m.other]⟩).1,(Bt s (-1) ⟨false,[m.key],[],[m.page,m.other]⟩).2.1,height+1,count⟩,(Bt s (-1) ⟨false,[m.key],[],[m.page,m.other]⟩).2.2):=by unfold CK;rw [if_neg ho]
  rw [hF]
  have hm1:=hm.p0
  have hm2:=hm.p1
  have hm3:=hm.o0
  have hm4:=hm.o1
  have hm5:=hm.k
  (refine Aa<|Ah<|Ad<|Ai rfl<|Ag rfl (Aj 0 rfl rfl)<|AA rfl rfl<|Aa<|Ar rfl (by omega)<|Al<|Ad<|Ak rfl<|Ai rfl<|Ag rfl (Aj 0 rfl rfl) ?_)
  refine Ea (v0:=.slice ua m.key.length uc) rfl rfl (fun b19 T19=>?_)
  (refine Ai rfl<|Ag rfl (Aj 1 rfl rfl)<|Ai rfl<|Ag rfl (Aj 1 rfl rfl) ?_)
  refine Abm (v0:=.int .i64 m.page) (v1:=.int .i64 m.other) rfl rfl rfl rfl (fun b24 T24=>?_)
  (apply BI;rfl)
  obtain⟨d2,hle,v1,l1,l2⟩:∃d2,Le d d2∧Vs d (bx b24 T24 [.int .i64 m.page,.int .i64 m.other]::bx b19 T19 [.slice ua m.key.length uc]::[]) d2 []∧Le (bx b24 T24 [.int .i64 m.page,.int .i64 m.other]) d2∧Le (bx b19 T19 [.slice ua m.key.length uc]) d2:=
   ⟨join (join d (bx b24 T24 [.int .i64 m.page,.int .i64 m.other])) (bx b19 T19 [.slice ua m.key.length uc]),(Le.AI _ _).trans (Le.AI _ _),Vs.freeze.trans Vs.freeze,(Le.A9 _ _).trans (Le.AI _ _),Le.A9 _ _⟩
  have hn:Cx d2 [.bool false,.slice (some ⟨b19,0,none⟩) 1 1,.slice none 0 0,.slice (some ⟨b24,0,none⟩) 2 2] ⟨false,[m.key],[],[m.page,m.other]⟩:=by
   refine⟨_,_,_,rfl,As.rsl (R:=RBs) (sz:=1) (d:=d) (As.Es (x:=m.key) rfl ⟨_,rfl,hk⟩) EW (by omega) hle l2,RSl.nil,As.rsl (R:=Bi) (sz:=1) (d:=d) (As.AbN (l:=[m.page,m.other]) (n:=2) rfl (fun x hx=>?_) rfl (Aca rfl)) Cb (by omega) hle l1⟩
   simp only [Adb,List.not_mem_nil,or_false] at hx
   rcases hx with rfl|rfl<;>omega
  refine B9 _ _ (Vs.app v1 _) ?_
  refine A3 [_] (h1 (k:= -1) (hp.mono hle) hn (by simp [A5,Bm,DY,Df];omega)) rfl rfl (fun v d4 L4 hl4 ⟨_,e4,L5,e5,hp5⟩=>?_)
  subst e4;subst e5
  (refine AU rfl<|Ap rfl rfl<|Ap rfl rfl<|Ab rfl<|Ab rfl<|Aa<|Ad<|Ak rfl<|Ab rfl<|Av rfl<|Ai rfl ?_)
  refine A0 1 [pv,.int .i64 (Bt s (-1) ⟨false,[m.key],[],[m.page,m.other]⟩).2.1,.int .i64 height,.int .i64 count] rfl rfl rfl rfl (Aca rfl) rfl rfl ?_
  (refine Aa<|Ad<|Ak rfl<|Av rfl<|Ai rfl<|Ag rfl (Aj 1 rfl rfl)<|AN rfl rfl (by omega) (by omega)<|Av rfl<|Ai rfl ?_)
  refine A0 1 [pv,.int .i64 (Bt s (-1) ⟨false,[m.key],[],[m.page,m.other]⟩).2.1,.int .i64 ((height:Int)+1),.int .i64 count] rfl rfl rfl rfl (Aca rfl) rfl rfl ?_
  (refine Aa<|Ad<|Ab rfl<|Ab rfl<|Aa<|Ao ?_)
  exact BG (L':=tbD bt Tt pv ⟨_,(Bt s (-1) ⟨false,[m.key],[],[m.page,m.other]⟩).2.1,height+1,count⟩::L5) rfl (.cons _ (Acb _)) ⟨hle.trans hl4,rfl,L5,rfl,hp5⟩
def Pt(P:Program) (f:FuncId):Prop:=∀{d:Ac}{b:Bool},CT P f [.bool b] d (.int .i64 (if b then 1 else 0))
def Sy:AY:=⟨4,[(.tmp 2)],(sR (o1 2 (.mv (kZ 0)) .done) (.seq (sR (om 3 0 .done) (.cond (tP 3) (sR (o1 2 (.mv (kZ 1)) .done) .ret) .skip)) (sR (o1 2 (.mv (kZ 0)) .done) .ret)))⟩
theorem X4{P:Program}{f:FuncId} (hd:dec P f=some Sy):Pt P f:=by
 intro d b
 refine AG hd (Aca rfl) ?_
 show gwp P _ _ _ _ _
 cases b
 ·(refine Ad<|Ab rfl<|Aa<|Ah<|Ad<|Ae rfl<|Aa<|AR rfl<|Al<|Ad<|Ab rfl<|Aa<|Ao ?_)
  exact YK rfl
 ·(refine Ad<|Ab rfl<|Aa<|Ah<|Ad<|Ae rfl<|Aa<|Be rfl<|Ad<|Ab rfl<|Aa<|Ao ?_)
  exact YK rfl
theorem MM{s:PD}{k:Int} (h:(Bn s k).2=0):By (Bn s k).1=true:=by
 unfold Bn at h⊢
 by_cases hl:Bl s k
 ·rw [if_pos hl] at h⊢
  simp only [OD] at h
  cases hr:Node.BJ (s.bytes k) with
  |none=>rw [hr] at h;cases h
  |some n=>rw [N4,hr];exact(Oc hr).1
 ·rw [if_neg hl] at h;cases h
theorem Hr{n:AF} (h:By n=true) (hl:n.leaf=false):n.kids.length=n.keys.length+1:=by
 simp only [By,A6,hl,Acd,Acj,if_false,decide_eq_true_eq] at h
 exact h.1.2.1.2
theorem Jr{n:AF} (h:By n=true) (hl:n.leaf=true):n.vals.length=n.keys.length:=by
 simp only [By,A6,hl,Acd,if_true,decide_eq_true_eq] at h
 exact h.1.2.1.1
theorem Uo{s:PD}{k:Int} (h:(Bn s k).2=0) (hl:(Bn s k).1.leaf=false):0<(Bn s k).1.kids.length:=by
 rw [Hr (MM h) hl];omega
def Kk(P:Program) (f:FuncId):Prop:=∀{d:Ac}{t:TD}{dv pv:Value}{L:List Ac}{bt:Nat}{Tt:TypeId},PgT d t.s dv pv L→1≤t.height→t.height≤1000001→
 Aw P f [.pointer (some ⟨bt,0,none⟩)] d (tbD bt Tt pv t::L) (Ret fun v d' L'=>Le d d'∧v=.int .i64 (DE t).2∧∃L2,L'=tbD bt Tt pv (DE t).1::L2∧PgT d' (DE t).1.s dv pv L2)
def Kq(a0 a1:Nat):AY:=⟨56,[(.tmp 2)],(sR (o1 2 (.mv (kZ 0)) .done) (sR (om 7 0<|om 8 0<|o1 9 (.nilc (tP 8))<|oj 10 1 9<|ol 11 10<|oc 12 a0 [(tP 7),(tP 11)]<|om 6 12<|oe 13 6 0<|oe 14 6 1<|o1 3 (.alo (.agg #[(.bool false),(.slice none 0 0),(.slice none 0 0),(.slice none 0 0)]))<|o0 (.st 4 (tP 3) (tP 13))<|om 4 14 .done) (.seq (sR (om 15 4<|ob 16 .neq (tP 15) (kZ 0)<|om 17 16<|oF 18 17 (.fld 1 (tP 3))<|oF 19 17 (.ld none (tP 18))<|oF 20 17 (.len (tP 19))<|oF 21 17 (.bin .gtr (tP 20) (kZ 0))<|o1 22 (.pick (tP 17) (.const (.bool true)) (tP 21)) .done) (.cond (tP 22) (sR (om 23 4<|om 2 23 .done) .ret) .skip)) (.seq (.seq (.reg true (pm 24 0<|p1 25 (.nilc (tP 24))<|p1 26 (.fld 0 (tP 25))<|pl 27 26<|pm 28 0<|p1 29 (.nilc (tP 28))<|p1 30 (.fld 1 (tP 29))<|pl 31 30<|oc 32 a1 [(tP 27),(tP 31)] (.bar (pm 5 32 .done)))) (sR (om 33 5<|ob 34 .neq (tP 33) (kZ 0) .done) (.cond (tP 34) (sR (om 35 5<|om 2 35 .done) .ret) .skip))) (sR (om 36 0<|o1 37 (.nilc (tP 36))<|oj 38 2 37<|ol 39 38<|ob 40 .sub (tP 39) (kZ 1)<|o1 41 (.nilc (tP 36))<|oj 42 2 41<|o0 (.st 1 (tP 42) (tP 40)) .done) (sR (om 43 0<|o1 44 (.nilc (tP 43))<|oj 45 1 44<|o0 (.st 1 (tP 45) (kZ (-1))) .done) (.seq (sR (oj 46 0 3<|ol 47 46<|o1 48 (.un .not (tP 47)) .done) (.cond (tP 48) (rG (om 49 0<|oj 50 3 3<|ol 51 50<|o1 52 (.idx 1 (tP 51) (kZ 0))<|ol 53 52<|o1 54 (.nilc (tP 49))<|oj 55 1 54<|o0 (.st 1 (tP 55) (tP 53)) .done)) .skip)) (sR (o1 2 (.mv (kZ 0)) .done) .ret))))))))⟩
set_option maxRecDepth 4000 in
theorem UE{P:Program}{f f1 f2:FuncId} (hd:dec P f=some (Kq f1 f2)) (h1:Jl P f1) (h2:Pgr.Gt P f2):Kk P f:=by
 intro d t dv pv L bt Tt hp hh1 hh2
 obtain⟨s,root,height,count⟩:=t
 simp only at hp hh1 hh2
 obtain⟨bp,rfl⟩:=hp.ptr
 obtain⟨tc0,hp⟩:=hp
 refine AG hd (Aca rfl) ?_
 show gwp P _ _ _ _ _
 (refine Ad<|Ab rfl<|Aa<|Ad<|Ak rfl<|Ak rfl<|Av rfl<|Ai rfl<|Ag rfl (Aj 0 rfl rfl) ?_)
 refine A3 [] (h1 (k:=root) hp) rfl rfl (fun v d2 L2 hl ⟨_,cs,hk,hv,hi,L3,tc,e1,e2,hn,hp2,htc⟩=>?_)
 subst e1;subst e2
 have hp2:PgT d2 s dv (.pointer (some ⟨bp,0,none⟩)) L3:=⟨tc,hp2⟩
 rw [show Bn {s with tc:=tc0} root=Bn s root from rfl] at hn⊢
 have hrr:(Bn s root).2=0→(Bn s root).1.leaf=false→0<(Bn s root).1.kids.length:=Uo
 have hn0:=hn
 obtain⟨ka,kc,va,vc,ia,ic,rfl⟩:=hn.cells
 have hS:DE ⟨s,root,height,count⟩=if (Bn s root).2≠0∨(Bn s root).1.keys≠[] then(⟨s,root,height,count⟩,(Bn s root).2) else if (s.drop root).2≠0 then(⟨(s.drop root).1,root,height,count⟩,(s.drop root).2) else
  (⟨(s.drop root).1,if (Bn s root).1.leaf then -1 else(Bn s root).1.kids.getD 0 0,height - 1,count⟩,0):=rfl
 rw [hS]
 generalize Bn s root=R at hn hn0 hrr
 obtain⟨⟨lf,ks,vs,is⟩,e⟩:=R
 simp only at hn hn0 hrr⊢
 (refine AU rfl<|Ap rfl rfl<|Ap rfl rfl<|BV (fun _ _=>?_))
 rename_i b3 T3
 refine Bq 0 rfl rfl rfl rfl (Ach _) rfl ?_
 by_cases he:e=0
 ·by_cases hks:ks=[]
  ·subst hks;subst he
   rw [if_neg (by simp)]
   have hz0:([]:List (List UInt8)).length=0:=rfl
   (refine Ab rfl<|Aa<|Ah<|Ad<|Ab rfl<|AO rfl rfl<|Ae rfl<|AZ rfl (by omega)<|Af rfl<|Ai rfl<|Af rfl<|Ag rfl (Aj 0 rfl rfl)<|Af rfl<|AL rfl<|Af rfl<|BS rfl rfl<|Aq rfl rfl<|Aa<|Ar rfl (by omega)<|Al<|Ah<|Ah ?_)
   refine Br [_,_,_,_,_] L3 rfl ?_
   (refine Ak rfl<|Av rfl<|Ai rfl<|Ag rfl (Aj 4 rfl rfl)<|Ak rfl<|Av rfl<|Ai rfl<|Ag rfl (Aj 4 rfl rfl) ?_)
   refine CP (Vg h2 hp2 (k:=root)) rfl (fun v d4 L4 hl4 ⟨e4,hp4⟩=>?_)
   subst e4
   by_cases hd4:(s.drop root).2=0
   ·rw [if_neg (fun q=>q hd4)]
    rw [hd4]
    (refine B4<|Ab rfl<|Aa<|Ad<|Ab rfl<|AO rfl rfl<|Aa<|Ar rfl (by omega)<|Al<|Ad<|Ak rfl<|Av rfl<|Ai rfl<|Ag rfl (Aj 4 rfl rfl)<|CY rfl rfl (by omega) (by omega)<|Av rfl<|Ai rfl ?_)
    refine A0 4 [.pointer (some ⟨bp,0,none⟩),.int .i64 root,.int .i64 ((height:Int) - 1),.int .i64 count] rfl rfl rfl rfl (Aca rfl) rfl rfl ?_
    (refine Aa<|Ad<|Ak rfl<|Av rfl<|Ai rfl ?_)
    refine A0 4 [.pointer (some ⟨bp,0,none⟩),.int .i64 (-1),.int .i64 ((height:Int) - 1),.int .i64 count] rfl rfl rfl rfl (Aca rfl) rfl rfl ?_
    have hhh:((height:Int) - 1)=((height - 1:Nat):Int):=by omega
    cases lf with
    |true=>
     (refine Aa<|Ah<|Ad<|Ai rfl<|Ag rfl (Aj 0 rfl rfl)<|Bj rfl<|Aa<|AR rfl<|Al<|Ad<|Ab rfl<|Aa<|Ao ?_)
     rw [hhh]
     exact BG (L':=tbD bt Tt (.pointer (some ⟨bp,0,none⟩)) ⟨(s.drop root).1, -1,height - 1,count⟩::L4) rfl (.cons _ (.cons _ (.cons _ (.cons _ (Acb _))))) ⟨hl.trans hl4,rfl,L4,rfl,hp4⟩
    |false=>
     have hkk:=hrr rfl rfl
     obtain⟨kv,vv,iv,q,r1,r2,r3⟩:=hn0
     cases q
     obtain⟨b1,T1,l1,c1,cs1,q1,rfl,hcl,hcs,hle1,⟨rfl,hb1,hb2⟩, -⟩:=As.at (by omega) r3 hkk
     cases q1
     have c0:=hcs 0 _ rfl
     (refine Aa<|Ah<|Ad<|Ai rfl<|Ag rfl (Aj 0 rfl rfl)<|Bj rfl<|Aa<|Be rfl<|AE<|Ak rfl<|Ai rfl<|Ag rfl (Aj 0 rfl rfl)<|Bx _ rfl rfl rfl (by omega)<|Ag rfl (Aj 3 rfl (by assumption))<|Av rfl<|Ai rfl ?_)
     have hg0:is.getD 0 0=is[0]:=by rw [Acf,Ace hkk];rfl
     refine A0 4 [.pointer (some ⟨bp,0,none⟩),.int .i64 is[0],.int .i64 ((height:Int) - 1),.int .i64 count] rfl rfl rfl rfl (Aca rfl) rfl rfl ?_
     (refine Aa<|Ad<|Ab rfl<|Aa<|Ao ?_)
     rw [hhh,hg0]
     exact BG (L':=tbD bt Tt (.pointer (some ⟨bp,0,none⟩)) ⟨(s.drop root).1,is[0],height - 1,count⟩::L4) rfl (.cons _ (.cons _ (.cons _ (.cons _ (Acb _))))) ⟨hl.trans hl4,rfl,L4,rfl,hp4⟩
   ·rw [if_pos hd4]
    (refine B4<|Ab rfl<|Aa<|Ad<|Ab rfl<|AO rfl rfl<|Aa<|Ay rfl (by omega)<|Ad<|Ab rfl<|Ab rfl<|Aa<|Ao ?_)
    exact BG (L':=tbD bt Tt (.pointer (some ⟨bp,0,none⟩)) ⟨(s.drop root).1,root,height,count⟩::L4) rfl (.cons _ (.cons _ (.cons _ (.cons _ (Acb _))))) ⟨hl.trans hl4,rfl,L4,rfl,hp4⟩
  ·have hkl:0<ks.length:=List.length_pos_iff.2 hks
   subst he
   rw [if_pos (.inr hks)]
   (refine Ab rfl<|Aa<|Ah<|Ad<|Ab rfl<|AO rfl rfl<|Ae rfl<|AZ rfl (by omega)<|Af rfl<|Ai rfl<|Af rfl<|Ag rfl (Aj 0 rfl rfl)<|Af rfl<|AL rfl<|Af rfl<|BS rfl rfl<|Aq rfl rfl<|Aa<|Ay rfl (by omega)<|Ad<|Ab rfl<|Ab rfl<|Aa<|Ao ?_)
   exact BG (L':=tbD bt Tt (.pointer (some ⟨bp,0,none⟩)) ⟨s,root,height,count⟩::L3) rfl (.cons _ (.cons _ (.cons _ (.cons _ (Acb _))))) ⟨hl,rfl,L3,rfl,hp2⟩
 ·rw [if_pos (.inl he)]
  (refine Ab rfl<|Aa<|Ah<|Ad<|Ab rfl<|AO rfl rfl<|Ae rfl<|Bd rfl (by omega)<|An rfl<|An rfl<|An rfl<|An rfl<|AB rfl rfl<|Aa<|Be rfl<|Ad<|Ab rfl<|Ab rfl<|Aa<|Ao ?_)
  exact BG (L':=tbD bt Tt (.pointer (some ⟨bp,0,none⟩)) ⟨s,root,height,count⟩::L3) rfl (.cons _ (.cons _ (.cons _ (.cons _ (Acb _))))) ⟨hl,rfl,L3,rfl,hp2⟩
end Go.Gk.Tre
end
section
namespace Go.Gk
open Go
section
def U7(pr:Bool) (P:Program) (f:FuncId):Option Jp:=
 match P.funcs[f]? with
 |some fn=>
  if fn.name== "runtime.NumGoroutine" || !P.follows .mixedOrders then none else
  match fn.body with
  |some (.seq a (.seq b (.seq (.region _ ops false) c)))=>
   match QL fn.ntmps ops.toList,fn.results.toList.mapM (G6 P fn.ntmps) with
   |some (fd,g,cs),some rs=>if rs.all (fun r=> !(Ik c).contains (Y3 r)) then some ⟨fn.ntmps,rs,.seq (D4 pr P fn.ntmps a) (D4 pr P fn.ntmps b),fd,g,cs,D4 pr P fn.ntmps c⟩ else none
   |_,_=>none
  |_=>none
 |none=>none
section
variable {pr:Bool}{P:Program}
theorem UF{pr':Bool}{f:FuncId}{g:Jp}{v:AY} (hd:U7 pr P f=some g) (hv:IG pr' P g.g=some v) (hvr:v.res=[]) {args:List Value} (ha:args.length≤g.n) (hcl:g.caps.length≤v.n) {d:Ac}{L:List Ac}{R:Ending→Ac→List Ac→Prop}
  (h:gwp P g.a (Qx P g v R) (F2 args) d L):Aw P f args d L R:=by
 simp only [U7] at hd
 split at hd<;>try cases hd
 rename_i fn hf
 split at hd<;>try cases hd
 rename_i hn
 split at hd<;>try cases hd
 rename_i A1 A2 id ops C hb
 split at hd<;>try cases hd
 rename_i fd gg cs rs hdf hrs
 split at hd<;>cases hd
 rename_i hall
 simp only [Adr,not_or,Aev,Afu] at hn
 have hm:P.follows .mixedOrders=true:=by simpa using hn.2
 obtain⟨o1,o2,caps,ats,rfl,h1,h2,h3,h4,h5,h6,h7,h8⟩:=NY hdf
 simp only at h1 h2 h5 h7 h8 hv hcl ha h
 have hvc:JP P gg:=by
  have hv':=hv
  simp only [IG] at hv'
  split at hv'<;>try cases hv'
  rename_i fn' hf'
  split at hv'<;>try cases hv'
  rename_i hn'
  split at hv'<;>try cases hv'
  rename_i hb'
  simp only [Adr,not_or,Aev,Afu] at hn'
  exact⟨fn',hf',by rw [hb'];rfl,hn'.1⟩
 refine⟨⟨fn,hf,by rw [hb];rfl,hn.1⟩,fun F W hOk=>?_⟩
 refine calls_of_wp_defers hf hb ?_
 rw [Nr ha]
 refine wp_seq (wp_mono (EY (ds:=[]) (F:=F) (W0:=W) (d0:=d) hm A1 _ _ d L W h hOk (Le.refl d) (AH.refl W)) ?_)
 intro e a w hq
 cases e with
 |panic c=>obtain⟨_,_,_,_,_,_,hh⟩:=hq;exact hh.elim
 |exit i=>obtain⟨_,_,_,_,_,_,_,hh⟩:=hq;exact hh.elim
 |ret=>obtain⟨_,_,_,_,_,_,_,hh⟩:=hq;exact hh.elim
 |goto l=>exact hq.elim
 |outgrown=>exact hq.elim
 |normal=>
 obtain⟨ρ0,d01,L01,rfl,k1,k2,k3,k4⟩:=hq
 refine wp_seq (wp_mono (EY (ds:=[]) (F:=F) (W0:=W) (d0:=d) hm A2 _ _ d01 L01 w k4 k1 k2 k3) ?_)
 intro e a w hq
 cases e with
 |panic c=>obtain⟨_,_,_,_,_,_,hh⟩:=hq;exact hh.elim
 |exit i=>obtain⟨_,_,_,_,_,_,_,hh⟩:=hq;exact hh.elim
 |ret=>obtain⟨_,_,_,_,_,_,_,hh⟩:=hq;exact hh.elim
 |goto l=>exact hq.elim
 |outgrown=>exact hq.elim
 |normal=>
 obtain⟨ρ,d1,L1,rfl,k1,k2,k3,k4⟩:=hq
 simp only [Qx] at k4
 refine wp_seq (wp_region ?_)
 have l:Ade (#[o1,o2]:Array Oper).size=[0,1]:=rfl
 rw [l]
 have g0:(#[o1,o2]:Array Oper)[0]?=some o1:=rfl
 have g1:(#[o1,o2]:Array Oper)[1]?=some o2:=rfl
 have e1:∀ys,Region.wanted o1 ys=true:=fun ys=>by simp [Region.wanted,h3]
 have e2:∀ys,Region.wanted o2 ys=true:=fun ys=>by simp [Region.wanted,h6]
 have hcv:caps.map (act fn.ntmps ρ []).eval=(cs.map ρ).toArray:=by
  have:=ID (ρ:=ρ) (ds:=[]) h8
  exact Array.ext' (by rw [Array.toList_map,this])
 have x1:∀w,(execOp (act fn.ntmps ρ []).eval o1).run P w=.ok (.value (DX gg (cs.map ρ))) w:=by
  intro w;simp [execOp,h2,Instr.makeFunc,hcv,DX]
 have hfd:(act fn.ntmps (upd ρ fd (DX gg (cs.map ρ))) []).eval (.tmp fd)=DX gg (cs.map ρ):=by
  rw [Bb (x:=.tmp fd) (by simpa [DM] using h7)];simp [ev,upd]
 have x2:∀w,(execOp (act fn.ntmps (upd ρ fd (DX gg (cs.map ρ))) []).eval o2).run P w=.ok (.defer {target:=.fn (.func gg) (cs.map ρ).toArray,args:= #[]}) w:=by
  intro w
  generalize (act fn.ntmps (upd ρ fd (DX gg (cs.map ρ))) []).eval=e at hfd
  simp [execOp,h5,resolve,hfd,DX,Deferred.ofValue]
 have p1:(act fn.ntmps ρ []).put o1.dst (DX gg (cs.map ρ))=act fn.ntmps (upd ρ fd (DX gg (cs.map ρ))) []:=by
  rw [h1,ET (d:=some fd) (fun _ e=>by cases e;exact h7)];rfl
 simp only [wpOps_cons,wpOp,g0,e1,if_true]
 refine .inl ?_
 simp only [Oper.wp,x1,Oper.upon,p1,wpOps_cons,wpOp,g1,e2,if_true]
 refine .inl ?_
 simp only [x2,h4]
 show Code.wp P C _ (act fn.ntmps (upd ρ fd (DX gg (cs.map ρ))) [{target:=.fn (.func gg) (cs.map ρ).toArray,args:= #[]}]) w
 have hlen:(cs.map ρ).length≤v.n:=by simpa using hcl
 have hinv:∀w,(invoke (.fn (.func gg) (cs.map ρ).toArray) #[]).run P w=.ok (.enter gg (cs.map ρ).toArray) w:=by
  intro w;simp [invoke,EV hvc]
 generalize hD:(⟨.fn (.func gg) (cs.map ρ).toArray, #[]⟩:Deferred)=D
 refine wp_mono (EY (ds:=[D]) (F:=F) (W0:=W) (d0:=d) hm C _ _ d1 L1 w k4 k1 k2 k3) ?_
 subst hD
 have fin:∀a w,(∃ρ' d' L',a=act fn.ntmps ρ' [⟨.fn (.func gg) (cs.map ρ).toArray, #[]⟩]∧Ok (d'::(L'++F)) w∧Le d d'∧AH W w∧gwp P v.code (KM (CA rs R ρ')) (F2 (cs.map ρ)) d' L')→
   Leaves P fn a.tmps (fun e W'=>∃d' L',Ok (d'::(L'++F)) W'∧Le d d'∧AH W W'∧R e d' L') a.defers .returning w:=by
  rintro a w ⟨ρ',d',L',rfl,j1,j2,j3,j4⟩
  refine leaves_cons (by simp) (hinv w) ((J5 hv hvr hlen j4 j1).mono ?_)
  rintro e u' w' ⟨⟨r,rfl⟩,rfl,d2,L2,q1,q2,q3,vs,q4,d3,L3,q5,q6⟩
  exact⟨JV vs,QT hrs q1 q4,d3,L3,q5.2 F w' q1,(j2.trans q2).trans q5.1,j3.trans q3,q6⟩
 intro e a w hq
 cases e with
 |normal=>exact fin a w hq
 |ret=>exact fin a w hq
 |panic c=>obtain⟨_,_,_,_,_,_,hh⟩:=hq;exact hh.elim
 |exit i=>obtain⟨_,_,_,_,_,_,_,hh⟩:=hq;exact hh.elim
 |goto l=>exact hq.elim
 |outgrown=>exact hq.elim
end
end
end Go.Gk
end
section
namespace Go.Gk.Tre
open Go Go.Gk Go.Gk.Dev Go.Gk.Cch Go.Gk.Pgr Go.Gk.Chn Go.Gk.Node
attribute [local irreducible] gwp gws xwp
section
def Io(P:Program) (f:FuncId):Prop:=∀{d:Ac}{t t':TD}{e:Int}{dv pv:Value}{L X X':List Ac}{bt:Nat}{Tt:TypeId}{g:FuncId}{caps:List Value},PgT d t.s dv pv L→Pgr.AH t.s t'.s→
 (∀d1,Le d d1→Aw P g caps d1 (tbD bt Tt pv t::(X++L)) (Ret fun v d' L'=>Le d1 d'∧v=.int .i64 e∧∃L2,L'=tbD bt Tt pv t'::(X'++L2)∧PgT d' t'.s dv pv L2))→
 Aw P f [.pointer (some ⟨bt,0,none⟩),.func (.func g) #[] caps.toArray] d (tbD bt Tt pv t::(X++L)) (Ret fun v d' L'=>Le d d'∧v=.int .i64 e∧∃L2,L'=tbD bt Tt pv (B2 t t' e)::(X'++L2)∧PgT d' (B2 t t' e).s dv pv L2)
def K2(a0 a1:Nat):Jp:=⟨18,[(.cell 4 none)],(sR (o1 2 (.box (tP 0))<|o1 4 (.alo (.int .i64 0)) .done) (.reg true (pl 7 2<|p1 8 (.nilc (tP 7))<|p1 9 (.fld 0 (tP 8))<|pl 10 9<|pl 12 2<|p1 13 (.nilc (tP 12)) (.par (o1 14 (.ld (some 4) (tP 13)) .done) (.par (o1 6 (.alo (.agg #[(.pointer none),(.int .i64 0),(.int .i64 0),(.int .i64 0)])) .done) (.par (oc 11 a0 [(tP 10)] .done) (o1 5 (.alo (.pointer none)) .done) .done) (o0 (.st 1 (tP 5) (tP 11)) .done)) (o0 (.st 4 (tP 6) (tP 14)) .done))))),15,a1,[4,6,2,5],(sR (om 16 1<|o1 17 (.callv (tP 16) [])<|o0 (.st 1 (tP 4) (tP 17)) .done) .ret)⟩
def Gw(a0:Nat):AY:=⟨15,[],(sR (ol 4 0<|ob 5 .neq (tP 4) (kZ 0) .done) (.cond (tP 5) (sR (ol 6 2<|o1 7 (.ld (some 4) (tP 1))<|o1 8 (.nilc (tP 6))<|o0 (.st 4 (tP 8) (tP 7)) .done) (.reg true (pl 9 2<|p1 10 (.nilc (tP 9))<|p1 11 (.fld 0 (tP 10))<|pl 12 11<|pl 13 3<|oc 14 a0 [(tP 12),(tP 13)] .done))) .skip))⟩
def Su(P:Program) (f:FuncId):Prop:=∃f3,dec P f=some (Gw f3)∧HZ P f3
theorem Zw{P:Program}{f f3:FuncId} (hd:dec P f=some (Gw f3)) (h:HZ P f3):Su P f:=⟨f3,hd,h⟩
section
variable {P:Program}{pan:List PanicEntry→AS}{Qn:Env→AS}{Ls L:List Ac}{ρ:Env}{d:Ac}{s:GS}{t:Nat}
theorem X0{f:Operand}{g:FuncId}{first cap:Array Value}{args:List Operand}{R:Value→Ac→List Ac→Prop}{vs:List Value}{A B:List Ac} (hp:L.Perm (A++B)) (ef:ev ρ f=.func (.func g) first cap) (ea:first.toList++args.map (ev ρ)++cap.toList=vs)
  (hc:Aw P g vs d A (Ret R)) (h:∀v d' L',Le d d'→R v d' L'→gws P pan Qn s Ls (upd ρ t v) d' (L'++B)):gws P pan Qn (.op false ⟨some t,none,.callv f args⟩ s) Ls ρ d L:=
 B9 d (A++B) (Vs.perm hp) (Md A.length ef ea (by rw [Ahc];exact hc) (fun v d' L' hl hr=>by rw [Agp];exact h v d' L' hl hr))
end
theorem Abj{P:Program}{f:FuncId} (h:G4 P f) {d:Ac}{s:PD}{dv pv:Value}{L:List Ac} (hp:PgT d s dv pv L):Aw P f [pv] d L (Ret fun r d' L'=>L'=L∧Le d d'∧Mk d' s.mark s.frm pv r):=by
 obtain⟨n,hp⟩:=hp
 have:=h hp
 exact this
theorem AbF{P:Program}{f:FuncId} (h:HZ P f) {d:Ac}{s s0:PD}{dv pv v:Value}{L:List Ac} (hp:PgT d s dv pv L) (hG:Pgr.Good s0) (hk:Pgr.AH s0 s) (hm:Mk d s0.mark s0.frm pv v):
  Aw P f [pv,v] d L (Ret fun r d' L'=>d'=d∧r=.int .i64 0∧PgT d (s.back s0.mark) dv pv L'):=by
 obtain⟨n,hp⟩:=hp
 have hg:=hG.kd
 have hr:wr s0.mark.round=wr s.round:=by rw [show s0.mark.round=s0.round from rfl,hk.round]
 refine Aw.Dr (h (m:=s0.mark) hp (by rw [show({s with tc:=n}:PD).frm=s.frm from rfl,hk.frm];exact hm) (fun _=>⟨hk.og,fun i=>hg i⟩)) (fun r d' L' _ ⟨h1,h2,_⟩=>⟨d',L',Vs.refl _ _,?_⟩)
 obtain⟨h3,h4⟩:=h2 hr
 exact⟨h1,h3,n,h4⟩
set_option maxRecDepth 4000 in
set_option maxHeartbeats 2000000 in
theorem UC{P:Program}{f f1 f2:FuncId} (hd:U7 true P f=some (K2 f1 f2)) (h1:G4 P f1) (h2:Su P f2):Io P f:=by
 obtain⟨f3,hv,h3⟩:=h2
 intro d t t' e dv pv L X X' bt Tt g caps hp hk hdo
 obtain⟨bp,rfl⟩:=hp.ptr
 have hG:=hp.E0
 refine UF hd hv rfl (Aca rfl) (Aca rfl) ?_
 show gwp P _ _ _ _ _
 apply Ah;apply AE
 refine Fj rfl (fun b2 T2=>?_)
 refine DI (fun b4 T4=>?_)
 apply Aa
 refine Br [bx b4 T4 [.int .i64 0],bx b2 T2 [.pointer (some ⟨bt,0,none⟩)],tbD bt Tt (.pointer (some ⟨bp,0,none⟩)) t] (X++L) rfl ?_
 (refine Ag rfl (Aj 1 rfl rfl)<|Av rfl<|Ai rfl<|Ag rfl (Aj 2 rfl rfl)<|Ag rfl (Aj 1 rfl rfl)<|Av rfl ?_)
 refine Gz (α:=Unit) (β:=(Nat×TypeId)×(Nat×TypeId)×Value) [(1,.func (.func g) #[] caps.toArray),(2,.pointer (some ⟨b2,0,none⟩)),(4,.pointer (some ⟨b4,0,none⟩))]
  (fun _=>[(14,.agg [.pointer (some ⟨bp,0,none⟩),.int .i64 t.root,.int .i64 t.height,.int .i64 t.count].toArray)]) (fun _ _ M=>M=[]) (fun y=>[(6,.pointer (some ⟨y.1.1,0,none⟩)),(5,.pointer (some ⟨y.2.1.1,0,none⟩))])
  (fun y d' M=>Mk d' t.s.mark t.s.frm (.pointer (some ⟨bp,0,none⟩)) y.2.2∧M=bx y.1.1 y.1.2 [.pointer none,.int .i64 0,.int .i64 0,.int .i64 0]::bx y.2.1.1 y.2.1.2 [y.2.2]::(X++L)) [] (X++L) rfl
  (fun x d d' M hl h=>h) (fun y d d' M hl h=>⟨h.1.mono hl,h.2⟩) (fun x=>rfl) (fun y=>rfl) rfl ⟨rfl,rfl,rfl,trivial⟩ ?_ ?_ ?_
 ·(refine Bg 2 rfl rfl rfl<|A8 ?_)
  exact⟨_,rfl,(),⟨rfl,trivial⟩,rfl⟩
 ·refine Gz (α:=Nat×TypeId) (β:=(Nat×TypeId)×Value) [] (fun x=>[(6,.pointer (some ⟨x.1,0,none⟩))]) (fun x _ M=>M=[bx x.1 x.2 [.pointer none,.int .i64 0,.int .i64 0,.int .i64 0]])
   (fun y=>[(11,y.2),(5,.pointer (some ⟨y.1.1,0,none⟩))]) (fun y d' M=>Mk d' t.s.mark t.s.frm (.pointer (some ⟨bp,0,none⟩)) y.2∧M=(X++L)++[bx y.1.1 y.1.2 [.pointer none]]) [] (X++L) rfl
   (fun x d d' M hl h=>h) (fun y d d' M hl h=>⟨h.1.mono hl,h.2⟩) (fun x=>rfl) (fun y=>rfl) rfl trivial ?_ ?_ ?_
  ·refine BV (fun b6 T6=>?_)
   (apply A8)
   exact⟨_,rfl,(b6,T6),⟨rfl,trivial⟩,rfl⟩
  ·refine Gz (α:=Value) (β:=Nat×TypeId) [] (fun x=>[(11,x)]) (fun x d' M=>Mk d' t.s.mark t.s.frm (.pointer (some ⟨bp,0,none⟩)) x∧M=X++L) (fun y=>[(5,.pointer (some ⟨y.1,0,none⟩))]) (fun y _ M=>M=[bx y.1 y.2 [.pointer none]]) (X++L) [] (by simp)
    (fun x d d' M hl h=>⟨h.1.mono hl,h.2⟩) (fun y d d' M hl h=>h) (fun x=>rfl) (fun y=>rfl) rfl trivial ?_ ?_ ?_
   ·refine A3 X (Abj h1 hp) rfl rfl (fun v d2 L2 hl2 ⟨e1,_,hm⟩=>?_)
    subst e1
    (apply A8)
    exact⟨_,rfl,v,⟨rfl,trivial⟩,hm,rfl⟩
   ·refine DI (fun b5 T5=>?_)
    (apply A8)
    exact⟨_,rfl,(b5,T5),⟨rfl,trivial⟩,rfl⟩
   ·rintro mv ⟨b5,T5⟩ ρ2 d2 M1 M2 hl2 ⟨hm,hM1⟩ hM2
    subst hM1;subst hM2
    (apply A8)
    exact⟨_,rfl,((b5,T5),mv),⟨rfl,rfl,trivial⟩,hm,rfl⟩
  ·rintro⟨b6,T6⟩ ⟨⟨b5,T5⟩,mv⟩ ρ2 d2 M1 M2 hl2 hM1 ⟨hm,hM2⟩
   subst hM1;subst hM2
   refine B9 _ (bx b5 T5 [.pointer none]::bx b6 T6 [.pointer none,.int .i64 0,.int .i64 0,.int .i64 0]::(X++L)) (Vs.perm ((Aci (l₁:=_::(X++L)) (l₂:=[_])))) ?_
   have hmc:∃bm,mv=.pointer (some ⟨bm,0,none⟩):=by obtain⟨bm,_,_,_,_,_,q,_⟩:=hm;exact⟨bm,q⟩
   obtain⟨bm,rfl⟩:=hmc
   refine A0 0 [.pointer (some ⟨bm,0,none⟩)] rfl rfl rfl rfl (Ach _) rfl rfl ?_
   refine HF ⟨d2,_,Vs.perm (Aga _ (Adc _ _ _)),?_⟩
   exact⟨_,rfl,((b6,T6),(b5,T5),_),⟨rfl,rfl,trivial⟩,hm,rfl⟩
 rintro _ ⟨⟨b6,T6⟩,⟨b5,T5⟩,mv⟩ ρ2 d2 M1 M2 hl2 hM1 ⟨hm,hM2⟩
 subst hM1;subst hM2
 simp only at hm⊢
 refine Bq 0 rfl rfl rfl rfl (Ach _) rfl ?_
 apply A8
 show gwp P _ _ _ _ _
 (refine Ad<|Fz rfl ?_)
 refine X0 (A:=tbD bt Tt (.pointer (some ⟨bp,0,none⟩)) t::(X++L)) (B:=[_,_,_,_]) ((Adj (l₁:=[_,_])).trans (Acn _ (Aci (l₁:=[_,_,_,_])))) rfl rfl (hdo d2 hl2) (fun v d3 L3 hl3 ⟨_,e1,L4,e2,hp4⟩=>?_)
 subst e1;subst e2
 refine B9 _ _ (Vs.perm (Aci (l₂:=[_,_,_,_]))) ?_
 refine A0 0 [.int .i64 e] rfl rfl rfl rfl (Ach _) rfl rfl ?_
 (refine Aa<|Ao<|Ad<|Ag rfl (Aj 0 rfl rfl)<|AO rfl rfl<|Aa ?_)
 show gwp P _ _ _ _ _
 skip
 by_cases he:e=0
 ·have hF:B2 t t' e=t':=by unfold B2;rw [if_pos he]
  rw [hF]
  (refine Ar rfl (by omega)<|Al ?_)
  exact A7 [.int .i64 e] ⟨⟨_,_,rfl,Aj 0 rfl rfl⟩,trivial⟩ (d':=d3) (L':=tbD bt Tt (.pointer (some ⟨bp,0,none⟩)) t'::(X'++L4)) (Vs.drop (.cons _ (.cons _ (.cons _ (.cons _ (Acb _)))))) ⟨hl2.trans hl3,rfl,L4,rfl,hp4⟩
 ·have hF:B2 t t' e={t with s:=t'.s.back t.s.mark}:=by unfold B2;rw [if_neg he]
  rw [hF]
  (refine Ay rfl (by omega)<|Ad<|Ag rfl (Aj 1 rfl rfl)<|Bg 2 rfl rfl rfl<|Av rfl ?_)
  refine Bq 4 rfl rfl rfl rfl (Ach _) rfl ?_
  (apply Aa)
  refine Br [_,_,_,_,_] (X'++L4) rfl ?_
  (refine Ag rfl (Aj 1 rfl rfl)<|Av rfl<|Ai rfl<|Ag rfl (Aj 4 rfl rfl)<|Ag rfl (Aj 3 rfl rfl) ?_)
  refine A3 X' (AbF h3 hp4 hG hk (hm.mono hl3)) rfl rfl (fun v d5 L5 hl5 ⟨e5,_,hp5⟩=>?_)
  subst e5
  (apply A8)
  exact A7 [.int .i64 e] ⟨⟨_,_,rfl,Aj 0 rfl rfl⟩,trivial⟩ (d':=d5) (L':=tbD bt Tt (.pointer (some ⟨bp,0,none⟩)) {t with s:=t'.s.back t.s.mark}::(X'++L5)) (Vs.drop (.cons _ (.cons _ (.cons _ (.cons _ (Acb _)))))) ⟨hl2.trans hl3,rfl,L5,rfl,hp5⟩
end
def SA(P:Program) (f:FuncId):Prop:=∀{d:Ac}{s:PD}{dv pv:Value}{L:List Ac},Pg d s dv pv L→
 Aw P f [pv] d L (Ret fun v d' L'=>Le d d'∧∃bt Tt,v=.tuple #[.pointer (some ⟨bt,0,none⟩),.int .i64 0]∧L'=tbD bt Tt pv ⟨s, -1,0,0⟩::L)
def Vb(a0:Nat):AY:=⟨10,[(.tmp 2),(.tmp 3)],(sR (o1 2 (.mv (.const (.pointer none)))<|o1 3 (.mv (kZ 0)) .done) (.seq (sR (om 4 0<|oc 5 a0 [(tP 4)]<|o1 6 (.eqp false (tP 5) (.const (.pointer none))) .done) (.cond (tP 6) (sR (o1 2 (.mv (.const (.pointer none)))<|o1 3 (.mv (kZ 1)) .done) .ret) .skip)) (sR (om 7 0<|o1 8 (.bld [(0,1),(1,1),(2,1),(3,1)] [(.pointer none),(.int .i64 0),(.int .i64 0),(.int .i64 0)] [(0,(tP 7)),(1,(kZ (-1)))])<|o1 9 (.box (tP 8))<|om 2 9<|o1 3 (.mv (kZ 0)) .done) .ret)))⟩
theorem Zk{P:Program}{f f1:FuncId} (hd:dec P f=some (Vb f1)) (h1:G4 P f1):SA P f:=by
 intro d s dv pv L hp
 obtain⟨bp,rfl⟩:=hp.ptr
 refine AG hd (Aca rfl) ?_
 show gwp P _ _ _ _ _
 (refine Ad<|Ak rfl<|Ab rfl<|Aa<|Ah<|Ad<|Ak rfl ?_)
 refine CP (h1 hp) rfl (fun v d2 L2 hl2 ⟨e1,_,hm⟩=>?_)
 subst e1
 have hmc:∃bm,v=.pointer (some ⟨bm,0,none⟩):=by obtain⟨bm,_,_,_,_,_,q,_⟩:=hm;exact⟨bm,q⟩
 obtain⟨bm,rfl⟩:=hmc
 (refine Cu rfl rfl<|Aa<|AR rfl<|Al<|Ad<|Ak rfl<|BI rfl<|Cc rfl (fun _ _=>Ak rfl<|Ab rfl<|Aa<|Ao ?_))
 exact A7 [.pointer (some ⟨_,0,none⟩),.int .i64 0] ⟨Au rfl,Au rfl,trivial⟩ (Vs.refl _ _) ⟨hl2,_,_,rfl,rfl⟩
def D9(root height count:Int):Bool:=(decide (height=0)&& decide (root= -1)&& decide (count=0))||(decide (1≤height)&& decide (0≤root)&& decide (1≤count))
def LW(P:Program) (f:FuncId):Prop:=∀{d:Ac}{s:PD}{dv pv:Value}{L:List Ac}{root height count:Int},Pg d s dv pv L→ -1000000000≤root→root≤1000000000→ -1000000000≤height→height≤1000000000→ -1000000000≤count→count≤1000000000→
 Aw P f [pv,.int .i64 root,.int .i64 height,.int .i64 count] d L (Ret fun v d' L'=>Le d d'∧((D9 root height count=true∧∃bt Tt,v=.tuple #[.pointer (some ⟨bt,0,none⟩),.int .i64 0]∧L'=tb bt Tt pv root height count::L)∨(D9 root height count=false∧v=.tuple #[.pointer none,.int .i64 2]∧L'=L)))
def S6(a0:Nat):AY:=⟨46,[(.tmp 8),(.tmp 9)],(sR (o1 8 (.mv (.const (.pointer none)))<|o1 9 (.mv (kZ 0)) .done) (sR (om 11 2<|ob 12 .eql (tP 11) (kZ 0)<|om 13 12<|gT 14 13 1<|oT 15 13 (.bin .eql (tP 14) (kZ (-1)))<|gP 16 13 15<|om 17 16<|gT 18 17 3<|oT 19 17 (.bin .eql (tP 18) (kZ 0))<|gP 20 17 19<|om 10 20 .done) (.seq (.block 0 (sR (om 22 0<|oc 23 a0 [(tP 22)]<|o1 24 (.eqp false (tP 23) (.const (.pointer none)))<|om 21 24 .done) (.cond (tP 21) (sR (o1 8 (.mv (.const (.pointer none)))<|o1 9 (.mv (kZ 1)) .done) .ret) (sR (om 26 10<|o1 27 (.un .not (tP 26))<|om 28 27<|gT 29 28 2<|oT 30 28 (.bin .lss (tP 29) (kZ 1))<|gT 31 28 30<|gF 32 31 1<|oF 33 31 (.bin .lss (tP 32) (kZ 0))<|oT 34 28 (.pick (tP 31) (.const (.bool true)) (tP 33))<|gT 35 28 34<|gF 36 35 3<|oF 37 35 (.bin .lss (tP 36) (kZ 1))<|oT 38 28 (.pick (tP 35) (.const (.bool true)) (tP 37))<|gP 39 28 38<|om 25 39 .done) (.cond (tP 25) (sR (o1 8 (.mv (.const (.pointer none)))<|o1 9 (.mv (kZ 2)) .done) .ret) .skip))))) (sR (om 40 0<|om 41 1<|om 42 2<|om 43 3<|o1 44 (.bld [(0,1),(1,1),(2,1),(3,1)] [(.pointer none),(.int .i64 0),(.int .i64 0),(.int .i64 0)] [(0,(tP 40)),(1,(tP 41)),(2,(tP 42)),(3,(tP 43))])<|o1 45 (.box (tP 44))<|om 8 45<|o1 9 (.mv (kZ 0)) .done) .ret))))⟩
theorem XV{P:Program}{f f1:FuncId} (hd:dec P f=some (S6 f1)) (h1:G4 P f1):LW P f:=by
 intro d s dv pv L root height count hp r0 r1 q0 q1 c0 c1
 obtain⟨bp,rfl⟩:=hp.ptr
 have hmk:∀{d1:Ac}{v:Value},Mk d1 s.mark s.frm (.pointer (some ⟨bp,0,none⟩)) v→∃bm,v=.pointer (some ⟨bm,0,none⟩):=fun⟨bm,_,_,_,_,_,q,_⟩=>⟨bm,q⟩
 refine AG hd (Aca rfl) ?_
 show gwp P _ _ _ _ _
 by_cases e1:height=0
 ·by_cases e2:root= -1
  ·by_cases e3:count=0
   ·(refine Ad<|Ak rfl<|Ab rfl<|Aa<|Ad<|Ab rfl<|AJ rfl rfl<|Ae rfl<|Bd rfl (by omega)<|Af rfl<|Ab rfl<|Af rfl<|AJ rfl rfl<|AB rfl rfl<|Ae rfl<|Bd rfl (by omega)<|Af rfl<|Ab rfl<|Af rfl<|AJ rfl rfl<|AB rfl rfl<|Ae rfl<|Aa<|Ah<|Ax<|Ad<|Ak rfl ?_)
    refine CP (h1 hp) rfl (fun v d2 L2 hl2 ⟨e4,_,hm⟩=>?_)
    subst e4
    obtain⟨bm,rfl⟩:=hmk hm
    (refine Cu rfl rfl<|Ae rfl<|Aa<|AR rfl<|Ad<|Ae rfl<|Bj rfl<|Ae rfl ?_)
    first|refine Qw rfl (fun h9=>?_) (fun h9=>?_)|refine R7 rfl (fun h9=>?_) (fun h9=>?_)
    ·exact absurd (show decide (count=0)=false by simpa using h9) (by simp [e3])
    ·clear h9
     (refine An rfl<|An rfl<|An rfl<|Da rfl<|Da rfl<|An rfl<|An rfl<|Da rfl<|Da rfl<|An rfl<|Aq rfl rfl<|Ae rfl<|Aa<|AR rfl<|Al<|Ad<|Ak rfl<|Ab rfl<|Ab rfl<|Ab rfl<|BI rfl<|Cc rfl (fun _ _=>Ak rfl<|Ab rfl<|Aa<|Ao ?_))
     exact A7 [.pointer (some ⟨_,0,none⟩),.int .i64 0] ⟨Au rfl,Au rfl,trivial⟩ (Vs.refl _ _) ⟨hl2,.inl ⟨by simp [D9,e1,e2,e3],_,_,rfl,rfl⟩⟩
   ·(refine Ad<|Ak rfl<|Ab rfl<|Aa<|Ad<|Ab rfl<|AJ rfl rfl<|Ae rfl<|Bd rfl (by omega)<|Af rfl<|Ab rfl<|Af rfl<|AJ rfl rfl<|AB rfl rfl<|Ae rfl<|Bd rfl (by omega)<|Af rfl<|Ab rfl<|Af rfl<|AJ rfl rfl<|AB rfl rfl<|Ae rfl<|Aa<|Ah<|Ax<|Ad<|Ak rfl ?_)
    refine CP (h1 hp) rfl (fun v d2 L2 hl2 ⟨e4,_,hm⟩=>?_)
    subst e4
    obtain⟨bm,rfl⟩:=hmk hm
    (refine Cu rfl rfl<|Ae rfl<|Aa<|AR rfl<|Ad<|Ae rfl<|Bj rfl<|Ae rfl ?_)
    first|refine Qw rfl (fun h9=>?_) (fun h9=>?_)|refine R7 rfl (fun h9=>?_) (fun h9=>?_)
    ·clear h9
     (refine Af rfl<|Ab rfl<|Af rfl<|AA rfl rfl<|Af rfl<|Ae rfl<|Bd rfl (by omega)<|An rfl<|An rfl<|Af rfl<|AB rfl rfl<|Af rfl<|Ae rfl<|An rfl<|An rfl<|Af rfl<|AB rfl rfl<|AB rfl rfl<|Ae rfl<|Aa<|Be rfl<|Ad<|Ak rfl<|Ab rfl<|Aa<|Ao ?_)
     exact A7 [.pointer none,.int .i64 2] ⟨Au rfl,Au rfl,trivial⟩ (Vs.refl _ _) ⟨hl2,.inr ⟨by simp [D9,e1,e2,e3],rfl,rfl⟩⟩
    ·exact absurd (show decide (count=0)=true by simpa using h9) (by simp [e3])
  ·(refine Ad<|Ak rfl<|Ab rfl<|Aa<|Ad<|Ab rfl<|AJ rfl rfl<|Ae rfl<|Bd rfl (by omega)<|Af rfl<|Ab rfl<|Af rfl<|AJ rfl rfl<|AB rfl rfl<|Ae rfl<|AZ rfl (by omega)<|An rfl<|An rfl<|Aq rfl rfl<|Ae rfl<|Aa<|Ah<|Ax<|Ad<|Ak rfl ?_)
   refine CP (h1 hp) rfl (fun v d2 L2 hl2 ⟨e4,_,hm⟩=>?_)
   subst e4
   obtain⟨bm,rfl⟩:=hmk hm
   (refine Cu rfl rfl<|Ae rfl<|Aa<|AR rfl<|Ad<|Ae rfl<|Bj rfl<|Ae rfl<|Af rfl<|Ab rfl<|Af rfl<|AA rfl rfl<|Af rfl<|Ae rfl<|Bd rfl (by omega)<|An rfl<|An rfl<|Af rfl<|AB rfl rfl<|Af rfl<|Ae rfl<|An rfl<|An rfl<|Af rfl<|AB rfl rfl<|AB rfl rfl<|Ae rfl<|Aa<|Be rfl<|Ad<|Ak rfl<|Ab rfl<|Aa<|Ao ?_)
   exact A7 [.pointer none,.int .i64 2] ⟨Au rfl,Au rfl,trivial⟩ (Vs.refl _ _) ⟨hl2,.inr ⟨by simp [D9,e1,e2],rfl,rfl⟩⟩
 ·by_cases e2:height<1
  ·(refine Ad<|Ak rfl<|Ab rfl<|Aa<|Ad<|Ab rfl<|AJ rfl rfl<|Ae rfl<|AZ rfl (by omega)<|An rfl<|An rfl<|Aq rfl rfl<|Ae rfl<|An rfl<|An rfl<|Aq rfl rfl<|Ae rfl<|Aa<|Ah<|Ax<|Ad<|Ak rfl ?_)
   refine CP (h1 hp) rfl (fun v d2 L2 hl2 ⟨e4,_,hm⟩=>?_)
   subst e4
   obtain⟨bm,rfl⟩:=hmk hm
   (refine Cu rfl rfl<|Ae rfl<|Aa<|AR rfl<|Ad<|Ae rfl<|Bj rfl<|Ae rfl<|Af rfl<|Ab rfl<|Af rfl<|AA rfl rfl<|Af rfl<|Ae rfl<|Bd rfl (by omega)<|An rfl<|An rfl<|Af rfl<|AB rfl rfl<|Af rfl<|Ae rfl<|An rfl<|An rfl<|Af rfl<|AB rfl rfl<|AB rfl rfl<|Ae rfl<|Aa<|Be rfl<|Ad<|Ak rfl<|Ab rfl<|Aa<|Ao ?_)
   exact A7 [.pointer none,.int .i64 2] ⟨Au rfl,Au rfl,trivial⟩ (Vs.refl _ _) ⟨hl2,.inr ⟨by simp [D9,e1];omega,rfl,rfl⟩⟩
  ·by_cases e3:root<0
   ·(refine Ad<|Ak rfl<|Ab rfl<|Aa<|Ad<|Ab rfl<|AJ rfl rfl<|Ae rfl<|AZ rfl (by omega)<|An rfl<|An rfl<|Aq rfl rfl<|Ae rfl<|An rfl<|An rfl<|Aq rfl rfl<|Ae rfl<|Aa<|Ah<|Ax<|Ad<|Ak rfl ?_)
    refine CP (h1 hp) rfl (fun v d2 L2 hl2 ⟨e4,_,hm⟩=>?_)
    subst e4
    obtain⟨bm,rfl⟩:=hmk hm
    (refine Cu rfl rfl<|Ae rfl<|Aa<|AR rfl<|Ad<|Ae rfl<|Bj rfl<|Ae rfl<|Af rfl<|Ab rfl<|Af rfl<|AA rfl rfl<|Af rfl<|Ae rfl<|AZ rfl (by omega)<|Af rfl<|Ab rfl<|Af rfl<|AA rfl rfl<|Af rfl<|Aq rfl rfl<|Af rfl<|Ae rfl<|Bd rfl (by omega)<|An rfl<|An rfl<|Af rfl<|AB rfl rfl<|AB rfl rfl<|Ae rfl<|Aa<|Be rfl<|Ad<|Ak rfl<|Ab rfl<|Aa<|Ao ?_)
    exact A7 [.pointer none,.int .i64 2] ⟨Au rfl,Au rfl,trivial⟩ (Vs.refl _ _) ⟨hl2,.inr ⟨by simp [D9,e1];omega,rfl,rfl⟩⟩
   ·by_cases e5:count<1
    ·(refine Ad<|Ak rfl<|Ab rfl<|Aa<|Ad<|Ab rfl<|AJ rfl rfl<|Ae rfl<|AZ rfl (by omega)<|An rfl<|An rfl<|Aq rfl rfl<|Ae rfl<|An rfl<|An rfl<|Aq rfl rfl<|Ae rfl<|Aa<|Ah<|Ax<|Ad<|Ak rfl ?_)
     refine CP (h1 hp) rfl (fun v d2 L2 hl2 ⟨e4,_,hm⟩=>?_)
     subst e4
     obtain⟨bm,rfl⟩:=hmk hm
     (refine Cu rfl rfl<|Ae rfl<|Aa<|AR rfl<|Ad<|Ae rfl<|Bj rfl<|Ae rfl<|Af rfl<|Ab rfl<|Af rfl<|AA rfl rfl<|Af rfl<|Ae rfl<|AZ rfl (by omega)<|Af rfl<|Ab rfl<|Af rfl<|AA rfl rfl<|Af rfl<|Aq rfl rfl<|Af rfl<|Ae rfl<|AZ rfl (by omega)<|Af rfl<|Ab rfl<|Af rfl<|AA rfl rfl<|Af rfl<|Aq rfl rfl<|AB rfl rfl<|Ae rfl<|Aa<|Ay rfl (by omega)<|Ad<|Ak rfl<|Ab rfl<|Aa<|Ao ?_)
     exact A7 [.pointer none,.int .i64 2] ⟨Au rfl,Au rfl,trivial⟩ (Vs.refl _ _) ⟨hl2,.inr ⟨by simp [D9,e1];omega,rfl,rfl⟩⟩
    ·(refine Ad<|Ak rfl<|Ab rfl<|Aa<|Ad<|Ab rfl<|AJ rfl rfl<|Ae rfl<|AZ rfl (by omega)<|An rfl<|An rfl<|Aq rfl rfl<|Ae rfl<|An rfl<|An rfl<|Aq rfl rfl<|Ae rfl<|Aa<|Ah<|Ax<|Ad<|Ak rfl ?_)
     refine CP (h1 hp) rfl (fun v d2 L2 hl2 ⟨e4,_,hm⟩=>?_)
     subst e4
     obtain⟨bm,rfl⟩:=hmk hm
     (refine Cu rfl rfl<|Ae rfl<|Aa<|AR rfl<|Ad<|Ae rfl<|Bj rfl<|Ae rfl<|Af rfl<|Ab rfl<|Af rfl<|AA rfl rfl<|Af rfl<|Ae rfl<|AZ rfl (by omega)<|Af rfl<|Ab rfl<|Af rfl<|AA rfl rfl<|Af rfl<|Aq rfl rfl<|Af rfl<|Ae rfl<|AZ rfl (by omega)<|Af rfl<|Ab rfl<|Af rfl<|AA rfl rfl<|Af rfl<|Aq rfl rfl<|AB rfl rfl<|Ae rfl<|Aa<|Ar rfl (by omega)<|Al<|Ad<|Ak rfl<|Ab rfl<|Ab rfl<|Ab rfl<|BI rfl<|Cc rfl (fun _ _=>Ak rfl<|Ab rfl<|Aa<|Ao ?_))
     exact A7 [.pointer (some ⟨_,0,none⟩),.int .i64 0] ⟨Au rfl,Au rfl,trivial⟩ (Vs.refl _ _) ⟨hl2,.inl ⟨by simp [D9,e1];omega,_,_,rfl,rfl⟩⟩
end Go.Gk.Tre
end
section
namespace Go.Gk.Tre
open Go Go.Gk Go.Gk.Dev Go.Gk.Cch Go.Gk.Pgr Go.Gk.Chn Go.Gk.Node
structure Fit (n:AF) (N:Nat):Prop where
 k:n.keys.length≤N
 v:n.vals.length≤N
 i:n.kids.length≤N
 kl:∀x∈n.keys,x.length≤1000
 vl:∀x∈n.vals,x.length≤1000
theorem Pl{l:List (List UInt8)} (h:∀x∈l,x.length≤1000) (j:Nat):(l.getD j []).length≤1000:=by
 rw [Acf]
 cases q:l[j]? with
 |none=>simp
 |some x=>exact h x (Aew q)
theorem Sm{n:AF} (hk:∀x∈n.keys,x.length≤1000) (hv:∀x∈n.vals,x.length≤1000):∀k,Bm n k≤2002*k
 |0=>by simp [Bm]
 |k+1=>by
  have h1:=Sm hk hv k
  have h2:Df n k≤1000:=Pl hk k
  have h3:ES n k≤1000:=Pl hv k
  simp only [Bm,DY]
  split<;>omega
theorem Fit.small{n:AF}{N:Nat} (h:Fit n N) (hN:N≤100000):Small n:=by
 have h1:=Sm h.kl h.vl n.keys.length
 have h2:=h.k
 have h3:=h.i
 have h4:=h.v
 refine⟨?_,by omega,by omega,by omega⟩
 unfold A5
 split<;>omega
theorem IU{n:AF}:∀k,k≤Bm n k
 |0=>Ach _
 |k+1=>by
  have:=IU (n:=n) k
  simp only [Bm,DY]
  split<;>omega
theorem KH{n:AF} (h:By n=true):Fit n 257∧∀x∈n.keys,x.length≤64:=by
 have hs:A6 n=true:=by simp only [By,Acd] at h;exact h.1
 have hz:A5 n≤256:=by simp only [By,Acd,decide_eq_true_eq] at h;exact h.2
 have hk:n.keys.length≤254:=by
  have:=IU (n:=n) n.keys.length
  unfold A5 at hz;omega
 have hkl:∀x∈n.keys,x.length≤64:=fun x hx=>by
  obtain⟨k,hk,rfl⟩:=Aei hx
  simp only [A6,Acd] at hs
  exact RI hs.1 hk
 refine⟨⟨by omega,?_,?_,fun x hx=>by have:=hkl x hx;omega,fun x hx=>?_⟩,hkl⟩
 ·simp only [A6,Acd] at hs
  cases hl:n.leaf with
  |true=>
   have h2:=hs.2
   simp only [hl,if_true,Acd,decide_eq_true_eq] at h2
   omega
  |false=>
   have h2:=hs.2
   simp only [hl,Acj,if_false,Acd,decide_eq_true_eq] at h2
   omega
 ·simp only [A6,Acd] at hs
  cases hl:n.leaf with
  |true=>
   have h2:=hs.2
   simp only [hl,if_true,Acd,decide_eq_true_eq] at h2
   omega
  |false=>
   have h2:=hs.2
   simp only [hl,Acj,if_false,Acd,decide_eq_true_eq] at h2
   omega
 ·simp only [A6,Acd] at hs
  cases hl:n.leaf with
  |true=>
   have h2:=hs.2
   simp only [hl,if_true,Acd,decide_eq_true_eq,Acq] at h2
   have:=h2.2 x hx
   simp only [Ht,decide_eq_true_eq] at this
   omega
  |false=>
   have h2:=hs.2
   simp only [hl,Acj,if_false,Acd,decide_eq_true_eq] at h2
   have:n.vals=[]:=Acm h2.1.1
   rw [this] at hx;cases hx
theorem Jo{α:Type}{l:List α}{i:Nat}{y x:α} (h:x∈BX l i y):x=y∨x∈l:=by
 unfold BX at h
 rcases Ack.1 h with h|h
 ·exact .inr (Aha h)
 ·rcases Adb.1 h with h|h
  ·exact .inl h
  ·exact .inr (Agf h)
theorem KU{α:Type}{l:List α}{i:Nat}{x:α} (h:x∈l.eraseIdx i):x∈l:=(Agc l i).subset h
theorem OZ{α:Type}{l:List α}{i:Nat}{y x:α} (h:x∈l.set i y):x=y∨x∈l:=(List.mem_or_eq_of_mem_set h).symm
end Go.Gk.Tre
end
section
namespace Go.Gk.Tre
open Go Go.Gk Go.Gk.Dev Go.Gk.Cch Go.Gk.Pgr Go.Gk.Chn Go.Gk.Node
attribute [local irreducible] gwp gws xwp
def Jt(P:Program) (f:FuncId):Prop:=∀{d:Ac}{s:PD}{dv pv:Value}{L:List Ac}{bt:Nat}{Tt:TypeId}{r h c k:Int}{cs:List Value}{n:AF}{hk hv hi:Ac}{i:Nat}{m:MdD}{ua:Option Addr}{uc:Nat},
 PgT d s dv pv L→DJ d cs n hk hv hi→Fit n 1000→i<n.kids.length→(0≤m.other→i≤n.keys.length)→MOk m→AM d (.slice ua m.key.length uc) m.key→
 Aw P f [.pointer (some ⟨bt,0,none⟩),.int .i64 k,.agg cs.toArray,.int .i64 i,mdV m ua uc] d (hk::hv::hi::tb bt Tt pv r h c::L) (Ret fun v d' L'=>Le d d'∧∃ua' uc' L2,v=.tuple #[mdV (Cm s k n i m).2.1 ua' uc',.int .i64 (Cm s k n i m).2.2]∧
  AM d' (.slice ua' (Cm s k n i m).2.1.key.length uc') (Cm s k n i m).2.1.key∧L'=tb bt Tt pv r h c::L2∧PgT d' (Cm s k n i m).1 dv pv L2)
def Mn(a0 a1 a2 a3:Nat):AY:=⟨61,[(.cell 10 (some 4)),(.tmp 11)],(sR (o1 7 (.box (tP 2))<|o1 9 (.box (tP 4))<|o1 10 (.alo (.agg #[(.int .i64 0),(.int .i64 0),(.slice none 0 0),(.int .i64 0)]))<|o1 11 (.mv (kZ 0)) .done) (.seq (.seq (.reg true (p1 12 (.fld 3 (tP 7))<|pl 13 12<|pm 14 3<|p1 15 (.idx 1 (tP 13) (tP 14))<|pl 16 15<|p1 17 (.fld 0 (tP 9))<|pl 18 17<|p1 19 (.bin .eql (tP 16) (tP 18))<|pm 20 19 (.op true ⟨(some 21),(some (20,true)),(.fld 1 (tP 9))⟩ (.op true ⟨(some 22),(some (20,true)),(.ld none (tP 21))⟩ (.op true ⟨(some 23),(some (20,true)),(.bin .lss (tP 22) (kZ 0))⟩ (p1 24 (.pick (tP 20) (tP 23) (.const (.bool false))) .done)))))) (.cond (tP 24) (sR (om 25 1<|o1 26 (.ld (some 4) (tP 7))<|oc 27 a0 [(tP 26)]<|o1 28 (.bld [(0,1),(1,1),(2,1),(3,1)] [(.int .i64 0),(.int .i64 0),(.slice none 0 0),(.int .i64 0)] [(0,(tP 25)),(1,(kZ (-1))),(3,(tP 27))])<|o0 (.st 4 (tP 10) (tP 28))<|o1 11 (.mv (kZ 0)) .done) .ret) .skip)) (sR (oj 29 3 7<|ol 30 29<|om 31 3<|oj 32 0 9<|ol 33 32<|oI 34 1 30 31<|o0 (.st 1 (tP 34) (tP 33)) .done) (.seq (sR (oj 35 1 9<|ol 36 35<|ob 37 .geq (tP 36) (kZ 0) .done) (.cond (tP 37) (.reg true (p1 38 (.fld 1 (tP 7))<|pl 39 38<|pm 40 3<|p1 41 (.fld 2 (tP 9))<|pl 42 41<|p1 45 (.fld 3 (tP 7))<|pl 46 45<|pm 47 3<|p1 48 (.bin .add (tP 47) (kZ 1))<|p1 49 (.fld 1 (tP 9))<|pl 50 49 (.par (o1 51 (.bsl 1 1 [(.int .i64 0)] [(0,(tP 50))]) .done) (o1 43 (.bsl 1 1 [(.slice none 0 0)] [(0,(tP 42))]) (oc 44 a1 [(tP 39),(tP 40),(tP 43)] (p1 53 (.fld 1 (tP 7)) .done))) (oc 52 a2 [(tP 46),(tP 48),(tP 51)] (.bar (o0 (.st 1 (tP 53) (tP 44)) (p1 54 (.fld 3 (tP 7)) (o0 (.st 1 (tP 54) (tP 52)) .done)))))))) .skip)) (sR (om 55 0<|om 56 1<|o1 57 (.ld (some 4) (tP 7))<|oc 58 a3 [(tP 55),(tP 56),(tP 57)]<|oe 59 58 0<|oe 60 58 1<|o0 (.st 4 (tP 10) (tP 59))<|om 11 60 .done) .ret)))))⟩
theorem _root_.Go.Gk.Vs.out{d d':Ac} (A B:List Ac) {M M':List Ac} (p:M.Perm M') (v:Vs d M' d' []):Vs d (A++(M++B)) d' (A++B):=by
 have p1:(A++(M++B)).Perm (M'++(A++B)):=by
  refine(Ady A M B).trans ?_
  exact Afb _ p
 exact(Vs.perm p1).trans (Vs.app v (A++B))
theorem F4{d:Ac}{cs:List Value}{n:AF}{hk hv hi:Ac} (o:DJ d cs n hk hv hi):∃d2,Le d d2∧Vs d [hk,hv,hi] d2 []∧Cx d2 cs n:=by
 obtain⟨d2,h1,h2,h3⟩:=Vs.HV d [hk,hv,hi]
 exact⟨d2,h2,h1,o.Ii h2 (h3 _ (by simp)) (h3 _ (by simp)) (h3 _ (by simp))⟩
set_option maxRecDepth 4000 in
set_option maxHeartbeats 2000000 in
theorem Wz{P:Program}{f f1 f2 f3 f4:FuncId} (hd:Jn P f=some (Mn f1 f2 f3 f4)) (h1:Kn P f1) (h2:JH RBs P f2) (h3:JH Bi P f3) (h4:HA P f4):Jt P f:=by
 intro d s dv pv L bt Tt r h c k cs n hk hv hi i m ua uc hp hn hfit hi0 hi1 hm hmk
 have hm1:=hm.p0
 have hm2:=hm.p1
 have hm3:=hm.o0
 have hm4:=hm.o1
 have hm5:=hm.k
 have hn0:=hn
 obtain⟨kv,vv,iv,rfl,r1,r2,r3⟩:=hn0
 obtain⟨xa,xc,rfl⟩:=r1.val
 obtain⟨ya,yc,rfl⟩:=r2.val
 have r3':=r3
 obtain⟨b1,T1,l1,c1,cs1,q1,rfl,hcl,hcs,hle1,⟨rfl,hb1,hb2⟩,hset⟩:=As.at (by omega) r3' hi0
 subst q1
 have c0:=hcs 0 _ rfl
 have hg0:n.kids.getD i 0=n.kids[i]:=by rw [Acf,Ace hi0];rfl
 refine AG hd (Aca rfl) ?_
 show gwp P _ _ _ _ _
 apply Ah;apply AE
 refine Cc rfl (fun b7 T7=>?_)
 refine Cc (l:=[.int .i64 m.page,.int .i64 m.other,.slice ua m.key.length uc,.int .i64 m.size]) rfl (fun b9 T9=>?_)
 refine BV (fun b10 T10=>?_)
 apply Ab;rfl;apply Aa
 refine FX (fun ρ d' L'=>BD ρ [(0,.pointer (some ⟨bt,0,none⟩)),(1,.int .i64 k),(3,.int .i64 i),(7,.pointer (some ⟨b7,0,none⟩)),(9,.pointer (some ⟨b9,0,none⟩)),(10,.pointer (some ⟨b10,0,none⟩))]∧¬(n.kids[i]=m.page∧m.other<0)∧d=d'∧L'=[bx b10 T10 [.int .i64 0,.int .i64 0,.slice none 0 0,.int .i64 0],bx b9 T9 [.int .i64 m.page,.int .i64 m.other,.slice ua m.key.length uc,.int .i64 m.size],bx b7 T7 [.bool n.leaf,.slice xa n.keys.length xc,.slice ya n.vals.length yc,.slice (some ⟨b1,0,none⟩) n.kids.length c1],hk,hv,bx b1 T1 l1,tb bt Tt pv r h c]++L) ?_ ?_
 ·by_cases hB1:n.kids[i]=m.page
  ·by_cases hA2:m.other<0
   ·have hF:Cm s k n i m=(s,⟨k, -1,[],A5 n⟩,0):=by unfold Cm;rw [hg0,if_pos ⟨hB1,hA2⟩]
    rw [hF]
    apply Ah
    refine Br [_,_,_,_,_,_,_] L rfl ?_
    (refine Ai rfl<|Ag rfl (Aj 2 rfl rfl)<|Ab rfl<|Bx _ rfl rfl rfl (by omega)<|Ag rfl (Aj 5 rfl (by assumption))<|Ai rfl<|Ag rfl (Aj 1 rfl rfl)<|AJ rfl rfl<|Ae rfl<|Bd rfl (by omega)<|Af rfl<|Ai rfl<|Af rfl<|Ag rfl (Aj 1 rfl rfl)<|Af rfl<|AA rfl rfl<|AB rfl rfl<|A8<|Ay rfl (by omega)<|Ad<|Ab rfl<|Bg 2 rfl rfl rfl ?_)
    refine Jj rfl (v:=.int .i64 (A5 n)) (fun d1 hl1 hk1=>h1 (hn.Ii hl1 (hk1 _ (by simp)) (hk1 _ (by simp)) (hk1 _ (by simp))) (hfit.small (by omega)).1) ?_
    (apply BI;rfl)
    refine Bq 0 rfl rfl rfl rfl (Ach _) rfl ?_
    (refine Ab rfl<|Aa<|Ao ?_)
    exact A7 [mdV ⟨k, -1,[],A5 n⟩ none 0,.int .i64 0] ⟨AT 0 rfl rfl rfl,Au rfl,trivial⟩ (d':=d) (L':=tb bt Tt pv r h c::L) (Vs.drop (.cons _ (.cons _ (.cons _ (.cons _ (.cons _ (.cons _ (Acb _)))))))) ⟨Le.refl _,none,0,L,rfl,RSl.nil,rfl,hp⟩
   ·apply Ah
    refine Br [_,_,_,_,_,_,_] L rfl ?_
    (refine Ai rfl<|Ag rfl (Aj 2 rfl rfl)<|Ab rfl<|Bx _ rfl rfl rfl (by omega)<|Ag rfl (Aj 5 rfl (by assumption))<|Ai rfl<|Ag rfl (Aj 1 rfl rfl)<|AJ rfl rfl<|Ae rfl<|Bd rfl (by omega)<|Af rfl<|Ai rfl<|Af rfl<|Ag rfl (Aj 1 rfl rfl)<|Af rfl<|AA rfl rfl<|AB rfl rfl<|A8<|Ar rfl (by omega)<|Al ?_)
    exact⟨⟨rfl,rfl,rfl,rfl,rfl,rfl,trivial⟩,fun q=>hA2 q.2,rfl,rfl⟩
  ·apply Ah
   refine Br [_,_,_,_,_,_,_] L rfl ?_
   (refine Ai rfl<|Ag rfl (Aj 2 rfl rfl)<|Ab rfl<|Bx _ rfl rfl rfl (by omega)<|Ag rfl (Aj 5 rfl (by assumption))<|Ai rfl<|Ag rfl (Aj 1 rfl rfl)<|AJ rfl rfl<|Ae rfl<|AZ rfl (by omega)<|An rfl<|An rfl<|An rfl<|Aq rfl rfl<|A8<|AR rfl<|Al ?_)
   exact⟨⟨rfl,rfl,rfl,rfl,rfl,rfl,trivial⟩,fun q=>hB1 q.1,rfl,rfl⟩
 rintro ρ d' L' ⟨hsl,hA,hdd,hLL⟩
 subst hdd;subst hLL
 refine Dl _ hsl ?_
 have hF:Cm s k n i m=if 0≤m.other then Bc s k {n with keys:=BX n.keys i m.key,kids:=BX (n.kids.set i m.page) (i+1) m.other} else Bc s k {n with kids:=n.kids.set i m.page}:=by unfold Cm;rw [hg0,if_neg hA]
 rw [hF]
 clear hF hA
 have hrow:=hset [.int .i64 m.page] m.page rfl ⟨rfl,by omega,by omega⟩
 have hrl:=hrow.val
 generalize hT:(if 0≤m.other then Bc s k {n with keys:=BX n.keys i m.key,kids:=BX (n.kids.set i m.page) (i+1) m.other} else Bc s k {n with kids:=n.kids.set i m.page})=T
 (refine Ad<|Ai rfl<|Ag rfl (Aj 2 rfl rfl)<|Ab rfl<|Ai rfl<|Ag rfl (Aj 1 rfl rfl)<|Bx _ rfl rfl rfl (by omega) ?_)
 refine A0 5 (patch l1 (i*1) [.int .i64 m.page]) rfl rfl rfl rfl (by omega) rfl rfl ?_
 apply Aa
 refine FX (fun ρ d' L'=>Le d d'∧∃cs' n' hk' hv' hi' Lr,BD ρ [(0,.pointer (some ⟨bt,0,none⟩)),(1,.int .i64 k),(7,.pointer (some ⟨b7,0,none⟩)),(10,.pointer (some ⟨b10,0,none⟩))]∧DJ d' cs' n' hk' hv' hi'∧Fit n' 1001∧Bc s k n'=T∧Lr.Perm [hk',hv',hi']∧
  L'=bx b10 T10 [.int .i64 0,.int .i64 0,.slice none 0 0,.int .i64 0]::bx b9 T9 [.int .i64 m.page,.int .i64 m.other,.slice ua m.key.length uc,.int .i64 m.size]::bx b7 T7 cs'::(Lr++tb bt Tt pv r h c::L)) ?_ ?_
 ·by_cases ho:0≤m.other
  ·rw [if_pos ho] at hT
   have hi2:=hi1 ho
   have hfi:=hfit.i
   have hfk:=hfit.k
   (refine Ad<|Ai rfl<|Ag rfl (Aj 1 rfl rfl)<|DL rfl rfl<|Aa<|Ay rfl (by omega) ?_)
   refine Br [_,_,_] (hk::hv::bx b1 T1 (patch l1 (i*1) [.int .i64 m.page])::tb bt Tt pv r h c::L) rfl ?_
   (refine Ai rfl<|Ag rfl (Aj 2 rfl rfl)<|Ab rfl<|Ai rfl<|Ag rfl (Aj 1 rfl rfl)<|Ai rfl<|Ag rfl (Aj 2 rfl rfl)<|Ab rfl<|AN rfl rfl (by omega) (by omega)<|Ai rfl<|Ag rfl (Aj 1 rfl rfl) ?_)
   refine Gz (α:=Nat×TypeId) (β:=Option Addr×Nat×Ac) [(0,.pointer (some ⟨bt,0,none⟩)),(1,.int .i64 k),(7,.pointer (some ⟨b7,0,none⟩)),(10,.pointer (some ⟨b10,0,none⟩)),(46,.slice (some ⟨b1,0,none⟩) n.kids.length c1),(48,.int .i64 ((i:Int)+1))]
    (fun x=>[(51,.slice (some ⟨x.1,0,none⟩) 1 1)]) (fun x d L=>L=[bx x.1 x.2 [.int .i64 m.other]]) (fun y=>[(44,.slice y.1 (n.keys.length+1) y.2.1),(53,.pointer (some ⟨b7,1,none⟩))])
    (fun y d' M=>As 1 RBs d' (.slice y.1 (n.keys.length+1) y.2.1) (BX n.keys i m.key) y.2.2∧M=y.2.2::hv::bx b1 T1 (patch l1 (i*1) [.int .i64 m.page])::tb bt Tt pv r h c::L) [] _ rfl
    (fun x d d' M hl h=>h) (fun y d d' M hl h=>⟨h.1.D7 hl,h.2⟩) (fun x=>rfl) (fun y=>rfl) rfl ⟨rfl,rfl,rfl,rfl,rfl,rfl,trivial⟩ ?_ ?_ ?_
   ·refine Ea (v0:=.int .i64 m.other) rfl rfl (fun b51 T51=>?_)
    (apply A8)
    exact⟨_,rfl,(b51,T51),⟨rfl,trivial⟩,rfl⟩
   ·refine Ea (v0:=.slice ua m.key.length uc) rfl rfl (fun b43 T43=>?_)
    refine DD (A:=[_,_]) rfl rfl (h2 r1 hi2 (by omega) ⟨_,rfl,hmk⟩ Fx) (fun v d1 L1 hl1 ⟨e0,h',e1,hg⟩=>?_)
    subst e0;subst e1
    have hgl:=E4 (y:=m.key) hi2
    obtain⟨ga,gc,rfl⟩:=hg.val
    rw [hgl] at hg⊢
    (refine Ai rfl<|A8 ?_)
    exact⟨_,rfl,(ga,gc,h'),⟨rfl,rfl,trivial⟩,hg,rfl⟩
   ·rintro⟨b51,T51⟩ ⟨ga,gc,h44⟩ ρ2 d2 M1 M2 hl2 hM1 ⟨hg44,hM2⟩
    subst hM1;subst hM2
    simp only at hg44⊢
    refine CU (A:=[bx b51 T51 [.int .i64 m.other],bx b1 T1 (patch l1 (i*1) [.int .i64 m.page])]) (h3 (i:=i+1) (y:=m.other) (hrow.Ih hl2) (by simp;omega) (by simp;omega) ⟨rfl,by omega,by omega⟩ Di) (Acn _ (Adj (l₁:=[_,_]))) rfl (fun v d3 L3 hl3 ⟨e0,h52,e1,hg52⟩=>?_)
    subst e0;subst e1
    obtain⟨za,zc,rfl⟩:=hg52.val
    refine⟨_,_,Vs.refl _ _,?_⟩
    apply B4
    refine A0 2 [.bool n.leaf,.slice ga (n.keys.length+1) gc,.slice ya n.vals.length yc,.slice (some ⟨b1,0,none⟩) n.kids.length c1] rfl rfl rfl rfl (Aca rfl) rfl rfl ?_
    (apply Ai;rfl)
    refine A0 2 [.bool n.leaf,.slice ga (n.keys.length+1) gc,.slice ya n.vals.length yc,.slice za (BX (n.kids.set i m.page) (i+1) m.other).length zc] rfl rfl rfl rfl (Aca rfl) rfl rfl ?_
    (apply Aa)
    refine⟨hl2,_,{n with keys:=BX n.keys i m.key,kids:=BX (n.kids.set i m.page) (i+1) m.other},h44,hv,h52,[_,_,_],⟨rfl,rfl,rfl,rfl,trivial⟩,⟨_,_,_,rfl,hg44,r2.D7 hl2,hg52⟩,⟨?_,?_,?_,fun x hx=>?_,hfit.vl⟩,hT,Aci (l₁:=[_]) (l₂:=[_,_]),rfl⟩
    ·show(BX n.keys i m.key).length≤_
     rw [E4 hi2];omega
    ·exact Nat.le_succ_of_le hfit.v
    ·show(BX (n.kids.set i m.page) (i+1) m.other).length≤_
     rw [E4 (by simp;omega),Adg];omega
    ·rcases Jo hx with rfl|hx
     ·exact hm5
     ·exact hfit.kl x hx
  ·rw [if_neg ho] at hT
   (refine Ad<|Ai rfl<|Ag rfl (Aj 1 rfl rfl)<|DL rfl rfl<|Aa<|Ar rfl (by omega)<|Al ?_)
   obtain⟨za,zc,hza⟩:=hrl
   exact⟨Le.refl _,_,{n with kids:=n.kids.set i m.page},hk,hv,_,[_,_,_],⟨rfl,rfl,rfl,rfl,trivial⟩,⟨_,_,_,rfl,r1,r2,hrow⟩,⟨Nat.le_succ_of_le hfit.k,Nat.le_succ_of_le hfit.v,by simp only [Adg];exact Nat.le_succ_of_le hfit.i,hfit.kl,hfit.vl⟩,hT,Adp _,rfl⟩
 rintro ρ d' L' ⟨hle,cs',n',hk',hv',hi',Lr,hsl,hn',hfit',hT',hpm,hLL⟩
 subst hLL;subst hT'
 obtain⟨ka,kc,va,vc,ia,ic,rfl⟩:=hn'.cells
 refine Dl _ hsl ?_
 obtain⟨d2,hl2,v2,hn2⟩:=F4 hn'
 (refine Ad<|Ak rfl<|Ab rfl<|Bg 2 rfl rfl rfl ?_)
 refine B9 _ _ (Vs.out [_,_,_] _ hpm v2) ?_
 refine A3 [_,_,_] (h4 (k:=k) (hp.mono (hle.trans hl2)) hn2 (hfit'.small (by omega))) rfl rfl (fun v d4 L4 hl4 ⟨_,wa,wc,L5,e4,hk4,e5,hp5⟩=>?_)
 subst e4;subst e5
 (refine Ap rfl rfl<|Ap rfl rfl ?_)
 refine Bq 0 rfl rfl rfl rfl (Ach _) rfl ?_
 (refine Ab rfl<|Aa<|Ao ?_)
 exact A7 [mdV (Bc s k n').2.1 wa wc,.int .i64 (Bc s k n').2.2] ⟨AT 0 rfl rfl rfl,Au rfl,trivial⟩ (d':=d4) (L':=tb bt Tt pv r h c::L5) (Vs.drop (.cons _ (.cons _ (.cons _ (Acb _))))) ⟨(hle.trans hl2).trans hl4,wa,wc,L5,rfl,hk4,rfl,hp5⟩
end Go.Gk.Tre
end
section
namespace Go.Gk.Tre
open Go Go.Gk Go.Gk.Dev Go.Gk.Cch Go.Gk.Pgr Go.Gk.Chn Go.Gk.Node
section
theorem Fm{s:PD} (h:Pgr.Good s):Pgr.Good s.AV.1:=by
 unfold PD.AV
 cases q:C2 0 s.kinds with
 |none=>exact h
 |some i=>
  obtain⟨a,b,c,e,g⟩:=h.kds (ks:=s.kinds.set i 1) rfl (by decide) (by decide)
  exact⟨a,b,c,e,g⟩
theorem H4{s:PD} (h:Pgr.Good s) (k:Int) (b:Sec):Pgr.Good (s.put k b).1:=by
 unfold PD.put
 split
 ·split
  ·exact⟨h.one,h.len,h.inn,h.syn,h.kd⟩
  ·exact h
 ·exact h
theorem Ig{s:PD} (h:Pgr.Good s) (k:Int):Pgr.Good (s.drop k).1:=by
 unfold PD.drop
 split
 ·exact h.kds rfl (by decide) (by decide)
 ·split
  ·exact h.kds rfl (by decide) (by decide)
  ·exact h
theorem PN{s:PD} (h:Pgr.Good s) {k:Int}{n:AF}:Pgr.Good (Bt s k n).1:=by
 unfold Bt
 split
 ·split
  ·exact H4 h _ _
  ·split
   ·exact Fm h
   ·split
    ·split
     ·exact Ig (Fm h) _
     ·exact H4 (Ig (Fm h) _) _ _
    ·exact H4 (Fm h) _ _
 ·exact h
theorem Nh{s:PD} (h:Pgr.Good s) {k:Int}{n:AF} (h0: -1≤k) (h1:k≤16384): -1≤(Bt s k n).2.1∧(Bt s k n).2.1≤16384:=by
 have ht:=P9 h
 have hz: -1≤(0:Int)∧(0:Int)≤16384:=by decide
 have ht': -1≤s.AV.2.1∧s.AV.2.1≤16384:=by omega
 unfold Bt
 split
 ·split
  ·exact⟨h0,h1⟩
  ·split
   ·exact hz
   ·split
    ·split
     ·exact hz
     ·exact ht'
    ·exact ht'
 ·exact hz
theorem PV{n:AF} (h:By n=true):∀x∈n.kids,0≤x∧x≤8191:=by
 simp only [By,A6,Acd] at h
 intro x hx
 cases hl:n.leaf with
 |true=>
  have h2:=h.1.2
  simp only [hl,if_true,Acd,decide_eq_true_eq] at h2
  have:n.kids=[]:=Acm h2.1.2
  rw [this] at hx;cases hx
 |false=>
  have h2:=h.1.2
  simp only [hl,Acj,if_false,Acd,decide_eq_true_eq,Acq] at h2
  have:=h2.2 x hx
  simpa [FV] using this
theorem WY{n:AF} (h:∀x∈n.keys,x.length≤1000):(BB n).length≤1000:=by
 unfold BB
 split
 ·exact Pl h _
 ·simp
theorem D3:MOk Ci:=⟨by decide,by decide,by decide,by decide,by decide⟩
theorem GG{s:PD} (h:Pgr.Good s) {k:Int}{n:AF} (h0: -1≤k) (h1:k≤16384) (hk:∀x∈n.keys,x.length≤1000):MOk (Bc s k n).2.1:=by
 unfold Bc
 split
 ·obtain⟨a,b⟩:=Nh h (n:=n) h0 h1
  exact⟨a,b,(by decide:(-1:Int)≤ -1),(by decide:(-1:Int)≤16384),Adf _⟩
 ·split
  ·show MOk (if (Bt s k (AW n)).2.2=0 then _ else _:PD×MdD×Int).2.1
   split
   ·obtain⟨a,b⟩:=Nh h (n:=AW n) h0 h1
    obtain⟨c,e⟩:=Nh (PN h (k:=k) (n:=AW n)) (k:= -1) (n:=Ba n) (by decide) (by decide)
    exact⟨a,b,c,e,WY hk⟩
   ·exact D3
  ·exact D3
theorem PR{s:PD} (h:Pgr.Good s) {k:Int}{n:AF}{i:Nat}{m:MdD} (h0: -1≤k) (h1:k≤16384) (hk:∀x∈n.keys,x.length≤1000) (hm:MOk m):MOk (Cm s k n i m).2.1:=by
 unfold Cm
 split
 ·exact⟨h0,h1,(by decide:(-1:Int)≤ -1),(by decide:(-1:Int)≤16384),Adf _⟩
 ·split
  ·refine GG h h0 h1 (fun x hx=>?_)
   rcases Jo hx with rfl|hx
   ·exact hm.k
   ·exact hk x hx
  ·exact GG h h0 h1 hk
theorem Nc{n:AF}{key:List UInt8}:(findD n key).1≤n.keys.length:=by
 have h:low n key≤n.keys.length:=(List.takeWhile_sublist _).length_le
 unfold findD
 split
 ·exact h
 ·have:=(List.takeWhile_sublist (fun k=>decide (k=key)) (l:=n.keys.drop (low n key))).length_le
  rw [Aco] at this
  show low n key+_≤_
  omega
theorem MP{n:AF}{key:List UInt8} (h:(findD n key).2=true):(findD n key).1<n.keys.length:=by
 unfold findD at h⊢
 split
 ·rename_i hl
  rw [if_pos hl] at h
  simp only [Acd,decide_eq_true_eq] at h
  exact h.1
 ·rename_i hl
  rw [if_neg hl] at h
  cases h
section
variable {s:PD}{k:Int}{key cell:List UInt8}{x:Nat}
theorem IK{h:Int} (e:(A4 s k h).2=0):By (A4 s k h).1=true∧(A4 s k h).1.leaf=decide (h=1):=by
 unfold A4 at e⊢
 by_cases q:(Bn s k).2=0∧(Bn s k).1.leaf≠decide (h=1)
 ·rw [if_pos q] at e;exact absurd (show(200:Int)=0 from e) (by decide)
 ·rw [if_neg q] at e
  exact⟨MM e,Classical.byContradiction fun w=>q ⟨e,w⟩⟩
theorem Yp(h:(A4 s k ((x+1:Nat):Int)).2≠0):BY s k key cell (x+1)=(s,Ci,false,(A4 s k ((x+1:Nat):Int)).2):=by
 rw [BY];exact if_pos h
theorem Te(h:(A4 s k ((0+1:Nat):Int)).2=0) {n:AF} (hn:(A4 s k ((0+1:Nat):Int)).1=n) {i:Nat} (hf:findD n key=(i,true)):
  BY s k key cell (0+1)=if (BO s (n.vals.getD i [])).2≠0 then((BO s (n.vals.getD i [])).1,Ci,false,(BO s (n.vals.getD i [])).2) else
   ((Bc (BO s (n.vals.getD i [])).1 k {n with vals:=n.vals.set i cell}).1,(Bc (BO s (n.vals.getD i [])).1 k {n with vals:=n.vals.set i cell}).2.1,false,(Bc (BO s (n.vals.getD i [])).1 k {n with vals:=n.vals.set i cell}).2.2):=by
 subst hn
 rw [BY]
 refine(if_neg (fun q=>q h)).trans ((if_pos rfl).trans ((if_pos (by rw [hf])).trans ?_))
 rw [hf]
theorem TQ(h:(A4 s k ((0+1:Nat):Int)).2=0) {n:AF} (hn:(A4 s k ((0+1:Nat):Int)).1=n) {i:Nat} (hf:findD n key=(i,false)):
  BY s k key cell (0+1)=((Bc s k {n with keys:=BX n.keys i key,vals:=BX n.vals i cell}).1,(Bc s k {n with keys:=BX n.keys i key,vals:=BX n.vals i cell}).2.1,true,(Bc s k {n with keys:=BX n.keys i key,vals:=BX n.vals i cell}).2.2):=by
 subst hn
 rw [BY]
 refine(if_neg (fun q=>q h)).trans ((if_pos rfl).trans ((if_neg (by rw [hf];exact Ahn)).trans ?_))
 rw [hf]
theorem NO(h:(A4 s k ((x+1+1:Nat):Int)).2=0) {n:AF} (hn:(A4 s k ((x+1+1:Nat):Int)).1=n) {i:Nat}{b:Bool} (hf:findD n key=(i,b)):
  BY s k key cell (x+1+1)=if (BY s (n.kids.getD i 0) key cell (x+1)).2.2.2≠0 then((BY s (n.kids.getD i 0) key cell (x+1)).1,Ci,false,(BY s (n.kids.getD i 0) key cell (x+1)).2.2.2) else
   ((Cm (BY s (n.kids.getD i 0) key cell (x+1)).1 k n i (BY s (n.kids.getD i 0) key cell (x+1)).2.1).1,(Cm (BY s (n.kids.getD i 0) key cell (x+1)).1 k n i (BY s (n.kids.getD i 0) key cell (x+1)).2.1).2.1,(BY s (n.kids.getD i 0) key cell (x+1)).2.2.1,(Cm (BY s (n.kids.getD i 0) key cell (x+1)).1 k n i (BY s (n.kids.getD i 0) key cell (x+1)).2.1).2.2):=by
 subst hn
 rw [BY]
 refine(if_neg (fun q=>q h)).trans ((if_neg (Aez _)).trans ?_)
 rw [hf]
theorem W7(h:(A4 s k ((x+1:Nat):Int)).2≠0):BT s k key (x+1)=(s,Ci,false,(A4 s k ((x+1:Nat):Int)).2):=by
 rw [BT];exact if_pos h
theorem TK(h:(A4 s k ((0+1:Nat):Int)).2=0) {n:AF} (hn:(A4 s k ((0+1:Nat):Int)).1=n) {i:Nat} (hf:findD n key=(i,true)):
  BT s k key (0+1)=if (BO s (n.vals.getD i [])).2≠0 then((BO s (n.vals.getD i [])).1,Ci,false,(BO s (n.vals.getD i [])).2) else
   ((Bc (BO s (n.vals.getD i [])).1 k {n with keys:=n.keys.eraseIdx i,vals:=n.vals.eraseIdx i}).1,(Bc (BO s (n.vals.getD i [])).1 k {n with keys:=n.keys.eraseIdx i,vals:=n.vals.eraseIdx i}).2.1,true,(Bc (BO s (n.vals.getD i [])).1 k {n with keys:=n.keys.eraseIdx i,vals:=n.vals.eraseIdx i}).2.2):=by
 subst hn
 rw [BT]
 refine(if_neg (fun q=>q h)).trans ((if_pos rfl).trans ((if_pos (by rw [hf])).trans ?_))
 rw [hf]
theorem TJ(h:(A4 s k ((0+1:Nat):Int)).2=0) {n:AF} (hn:(A4 s k ((0+1:Nat):Int)).1=n) {i:Nat} (hf:findD n key=(i,false)):BT s k key (0+1)=(s,⟨k, -1,[],256⟩,false,0):=by
 subst hn
 rw [BT]
 exact(if_neg (fun q=>q h)).trans ((if_pos rfl).trans (if_neg (by rw [hf];exact Ahn)))
theorem NL(h:(A4 s k ((x+1+1:Nat):Int)).2=0) {n:AF} (hn:(A4 s k ((x+1+1:Nat):Int)).1=n) {i:Nat}{b:Bool} (hf:findD n key=(i,b)) {u:PD×MdD×Bool×Int} (hu:BT s (n.kids.getD i 0) key (x+1)=u):
  BT s k key (x+1+1)=if u.2.2.2≠0∨u.2.2.1=false then(u.1,⟨k, -1,[],256⟩,u.2.2.1,u.2.2.2) else
   if u.2.1.other<0∧u.2.1.size<80 then((Du u.1 k {n with kids:=n.kids.set i u.2.1.page} i).1,(Du u.1 k {n with kids:=n.kids.set i u.2.1.page} i).2.1,true,(Du u.1 k {n with kids:=n.kids.set i u.2.1.page} i).2.2)
   else((Cm u.1 k n i u.2.1).1,(Cm u.1 k n i u.2.1).2.1,true,(Cm u.1 k n i u.2.1).2.2):=by
 subst hn;subst hu
 rw [BT]
 refine(if_neg (fun q=>q h)).trans ((if_neg (Aez _)).trans ?_)
 rw [hf]
 by_cases q:(BT s ((A4 s k ((x+1+1:Nat):Int)).1.kids.getD i 0) key (x+1)).2.2.2≠0∨(BT s ((A4 s k ((x+1+1:Nat):Int)).1.kids.getD i 0) key (x+1)).2.2.1=false
 ·rw [if_pos q,if_pos q]
 ·rw [if_neg q,if_neg q]
  split<;>rfl
end
end
end Go.Gk.Tre
end
section
namespace Go.Gk.Tre
open Go Go.Gk Go.Gk.Dev Go.Gk.Cch Go.Gk.Pgr Go.Gk.Chn Go.Gk.Node
attribute [local irreducible] gwp gws xwp
section
theorem Uc{s:PD}{n:Nat}{c:List UInt8}:DH {s with tc:=n} c=DH s c:=by unfold DH;rw [show Chn.BJ {s with tc:=n} (Fw c) (EU c)=Chn.BJ s (Fw c) (EU c) from Rp]
theorem AaF{P:Program}{f:FuncId} (h:JA P f) {d:Ac}{s:PD}{n:Nat}{dv pv w:Value}{L:List Ac}{bt:Nat}{Tt:TypeId}{r h' c:Int}{b:List UInt8} (hp:Pg d {s with tc:=n} dv pv L) (hw:AM d w b):
  Aw P f [.pointer (some ⟨bt,0,none⟩),w] d (tb bt Tt pv r h' c::L) (Ret fun v d' L'=>Le d d'∧∃u L2 tc,v=.tuple #[u,.int .i64 (DH s b).2]∧L'=tb bt Tt pv r h' c::L2∧AM d' u (DH s b).1∧Pg d' {s with tc:=tc} dv pv L2∧((DH s b).2=0→tc=n+F5 b)):=by
 refine Aw.Dr (h hp hw) (fun r d' L' _ ⟨q0,u,L2,tc,q1,q2,q3,q4,q5⟩=>⟨d',L',Vs.refl _ _,?_⟩)
 rw [Uc] at q1 q3 q5
 exact⟨q0,u,L2,tc,q1,q2,q3,q4,q5⟩
def CX(t:TD) (key:List UInt8):List UInt8×Bool×Int:=if BL key≠0 then([],false,BL key) else EH t.s key t.root t.height
def IW(P:Program) (f:FuncId):Prop:=∀{d:Ac}{t:TD}{dv pv kv:Value}{L:List Ac}{bt:Nat}{Tt:TypeId}{key:List UInt8},Pg d t.s dv pv L→AM d kv key→t.height≤1000000→
 Aw P f [.pointer (some ⟨bt,0,none⟩),kv] d (tbD bt Tt pv t::L) (Ret fun v d' L'=>Le d d'∧∃u L2 tc,v=.tuple #[u,.bool (CX t key).2.1,.int .i64 (CX t key).2.2]∧AM d' u (CX t key).1∧L'=tbD bt Tt pv t::L2∧Pg d' {t.s with tc:=tc} dv pv L2∧
  (BL key=0→(CX t key).2.2=0→tc=t.s.tc+GO t.s key t.root t.height))
section
variable {s:PD}{k:Int}{key:List UInt8}{x:Nat}
theorem Yf(h:(A4 s k ((x+1:Nat):Int)).2≠0):EH s key k (x+1)=([],false,(A4 s k ((x+1:Nat):Int)).2):=by
 rw [EH];exact if_pos h
theorem Ta(h:(A4 s k ((0+1:Nat):Int)).2=0) {n:AF} (hn:(A4 s k ((0+1:Nat):Int)).1=n) {i:Nat} (hf:findD n key=(i,true)):
  EH s key k (0+1)=((DH s (n.vals.getD i [])).1,decide ((DH s (n.vals.getD i [])).2=0),(DH s (n.vals.getD i [])).2)∧GO s key k (0+1)=1+F5 (n.vals.getD i []):=by
 subst hn
 rw [EH,GO]
 refine⟨(if_neg (fun q=>q h)).trans ((if_pos rfl).trans ((if_pos (by rw [hf])).trans ?_)),(if_pos rfl).trans ((if_pos (by rw [hf])).trans ?_)⟩
 ·rw [hf]
 ·rw [hf]
theorem TI(h:(A4 s k ((0+1:Nat):Int)).2=0) {n:AF} (hn:(A4 s k ((0+1:Nat):Int)).1=n) {i:Nat} (hf:findD n key=(i,false)):EH s key k (0+1)=([],false,0)∧GO s key k (0+1)=1:=by
 subst hn
 rw [EH,GO]
 exact⟨(if_neg (fun q=>q h)).trans ((if_pos rfl).trans (if_neg (by rw [hf];exact Ahn))),(if_pos rfl).trans (if_neg (by rw [hf];exact Ahn))⟩
theorem NV(h:(A4 s k ((x+1+1:Nat):Int)).2=0) {n:AF} (hn:(A4 s k ((x+1+1:Nat):Int)).1=n) {i:Nat}{b:Bool} (hf:findD n key=(i,b)):
  EH s key k (x+1+1)=EH s key (n.kids.getD i 0) (x+1)∧GO s key k (x+1+1)=1+GO s key (n.kids.getD i 0) (x+1):=by
 subst hn
 rw [EH,GO]
 refine⟨(if_neg (fun q=>q h)).trans ((if_neg (Aez _)).trans ?_),(if_neg (Aez _)).trans ?_⟩
 ·rw [hf]
 ·rw [hf]
end
def On(a0 a1 a2 a3:Nat):AY:=⟨71,[(.tmp 4),(.tmp 5),(.tmp 6)],(sR (o1 4 (.mv nS)<|o1 5 (.mv (.const (.bool false)))<|o1 6 (.mv (kZ 0)) .done) (.seq (sR (om 14 0<|om 15 1<|oc 16 a0 [(tP 14),(tP 15)]<|om 7 16 .done) (sR (om 17 7<|ob 18 .neq (tP 17) (kZ 0) .done) (.cond (tP 18) (sR (om 19 7<|o1 4 (.mv nS)<|o1 5 (.mv (.const (.bool false)))<|om 6 19 .done) .ret) .skip))) (sR (om 20 0<|o1 21 (.nilc (tP 20))<|oj 22 1 21<|ol 23 22<|om 8 23 .done) (.seq (sR (om 24 0<|o1 25 (.nilc (tP 24))<|oj 26 2 25<|ol 27 26<|om 9 27 .done) (.block 0 (.loop (.seq (sR (om 28 9<|ob 29 .gtr (tP 28) (kZ 0) .done) (.cond (tP 29) .skip (.exit 0))) (.seq (.block 1 (sR (om 33 0<|om 34 8<|om 35 9<|oc 36 a1 [(tP 33),(tP 34),(tP 35)]<|om 32 36<|oe 37 32 0<|oe 38 32 1<|o1 10 (.alo (.agg #[(.bool false),(.slice none 0 0),(.slice none 0 0),(.slice none 0 0)]))<|o0 (.st 4 (tP 10) (tP 37))<|om 11 38 .done) (.seq (sR (om 39 11<|ob 40 .neq (tP 39) (kZ 0) .done) (.cond (tP 40) (sR (om 41 11<|o1 4 (.mv nS)<|o1 5 (.mv (.const (.bool false)))<|om 6 41 .done) .ret) .skip)) (sR (o1 43 (.ld (some 4) (tP 10))<|om 44 1<|oc 45 a2 [(tP 43),(tP 44)]<|om 42 45<|oe 46 42 0<|oe 47 42 1<|om 12 46<|om 13 47 .done) (.seq (sR (om 48 9<|ob 49 .gtr (tP 48) (kZ 1) .done) (.cond (tP 49) (sR (oj 50 3 10<|ol 51 50<|om 52 12<|oI 53 1 51 52<|ol 54 53<|om 8 54 .done) (.exit 1)) .skip)) (.seq (sR (om 55 13<|o1 56 (.un .not (tP 55)) .done) (.cond (tP 56) (sR (o1 4 (.mv nS)<|o1 5 (.mv (.const (.bool false)))<|o1 6 (.mv (kZ 0)) .done) .ret) .skip)) (sR (om 58 0<|oj 59 2 10<|ol 60 59<|om 61 12<|oI 62 1 60 61<|ol 63 62<|oc 64 a3 [(tP 58),(tP 63)]<|om 57 64<|oe 65 57 0<|oe 66 57 1<|om 4 65<|om 11 66 .done) (sR (om 67 4<|om 68 11<|ob 69 .eql (tP 68) (kZ 0)<|om 70 11<|om 4 67<|om 5 69<|om 6 70 .done) .ret)))))))) (rG (om 30 9<|ob 31 .sub (tP 30) (kZ 1)<|om 9 31 .done))))))) (sR (o1 4 (.mv nS)<|o1 5 (.mv (.const (.bool false)))<|o1 6 (.mv (kZ 0)) .done) .ret)))))⟩
set_option maxRecDepth 4000 in
set_option maxHeartbeats 4000000 in
theorem Z7{P:Program}{f f1 f2 f3 f4:FuncId} (hd:dec P f=some (On f1 f2 f3 f4)) (h1:K3 P f1) (h2:H0 P f2) (h3:IS P f3 findD) (h4:JA P f4):IW P f:=by
 intro d t dv pv kv L bt Tt key hp hk hh
 obtain⟨bp,rfl⟩:=hp.ptr
 obtain⟨ka,kc,rfl⟩:=hk.val
 obtain⟨s,root,height,count⟩:=t
 simp only at hp hh
 refine AG hd (Aca rfl) ?_
 show gwp P _ _ _ _ _
 (refine Ad<|Am rfl<|Ae rfl<|Ab rfl<|Aa<|Ah<|Ad<|Ak rfl<|Am rfl ?_)
 refine A3 [] (h1 (L:=L) hk) rfl rfl (fun v d2 L2 _ ⟨e1,e2,e3⟩=>?_)
 subst e1;subst e2;subst e3
 by_cases hw:BL key=0
 ·have hF:CX ⟨s,root,height,count⟩ key=EH s key root height:=by unfold CX;rw [if_neg (fun q=>q hw)]
  rw [hF,hw]
  show gws P _ _ _ _ _ _ _
  (refine Ab rfl<|Aa<|Ad<|Ab rfl<|AO rfl rfl<|Aa<|Ar rfl (by omega)<|Al<|Ad<|Ak rfl<|Av rfl<|Ai rfl<|Ag rfl (Aj 0 rfl rfl)<|Ab rfl<|Aa<|Ah<|Ad<|Ak rfl<|Av rfl<|Ai rfl<|Ag rfl (Aj 0 rfl rfl)<|Ab rfl<|Aa<|Ax ?_)
  refine CI (α:=Nat×Int) (fun x=>[(0,.pointer (some ⟨bt,0,none⟩)),(1,.slice ka key.length kc),(8,.int .i64 x.2),(9,.int .i64 x.1)])
   (fun x d' L'=>Le d2 d'∧x.1≤height∧EH s key root height=EH s key x.2 x.1∧∃J L2 tc,L'=J++tb bt Tt (.pointer (some ⟨bp,0,none⟩)) root height count::L2∧Pg d' {s with tc:=tc} dv (.pointer (some ⟨bp,0,none⟩)) L2∧tc+GO s key x.2 x.1=s.tc+GO s key root height)
   (fun x=>x.1) (height,root) ⟨rfl,rfl,rfl,rfl,trivial⟩ ⟨Le.refl _,Ach _,rfl,[],L,s.tc,rfl,hp,rfl⟩ ?_
  rintro⟨h,page⟩ ρ d' L' ⟨hle,hhh,hgt,J,L3,tc,rfl,hp3,htt⟩
  simp only at hhh hgt hp3 htt⊢
  by_cases hz:h=0
  ·subst hz
   rw [hgt,EH]
   rw [GO] at htt
   (refine Ah<|Ad<|Ab rfl<|BS rfl rfl<|Aa<|Ar rfl (by omega)<|Bh<|Ad<|Am rfl<|Ae rfl<|Ab rfl<|Aa<|Ao ?_)
   exact A7 [.slice none 0 0,.bool false,.int .i64 0] ⟨Au rfl,Au rfl,Au rfl,trivial⟩ (d':=d') (L':=tb bt Tt (.pointer (some ⟨bp,0,none⟩)) root height count::L3) (Vs.drop (Adm J _)) ⟨hle,_,L3,tc,rfl,RSl.nil,rfl,hp3,fun _ _=>htt⟩
  ·obtain⟨x,rfl⟩:∃x,h=x+1:=⟨h - 1,by omega⟩
   (refine Ah<|Ad<|Ab rfl<|BS rfl rfl<|Aa<|Ay rfl (by omega)<|Al<|Ah<|Ax<|Ad<|Ak rfl<|Ab rfl<|Ab rfl ?_)
   refine A3 J (h2 (k:=page) (x:=((x+1:Nat):Int)) hp3) rfl rfl (fun v d4 L4 hl4 ⟨_,cs,hk4,hv4,hi4,L5,tc5,e1,e2,hn,hp5,htc5⟩=>?_)
   subst e1;subst e2
   rw [show A4 {s with tc:=tc} page ((x+1:Nat):Int)=A4 s page ((x+1:Nat):Int) from rfl] at hn htc5⊢
   have hp5:Pg d4 {s with tc:=tc5} dv (.pointer (some ⟨bp,0,none⟩)) L5:=hp5
   have htc5:(A4 s page ((x+1:Nat):Int)).2=0→tc5=tc+1:=htc5
   obtain⟨d6,hl6,v6,hn6⟩:=F4 hn
   have hp6:=hp5.mono hl6
   refine B9 _ _ (Vs.out (M:=[_,_,_]) J _ (Adp _) v6) ?_
   obtain⟨xa,xc,ya,yc,za,zc,rfl⟩:=Cx.four hn6
   have hk6:=RSl.mono (R:=AP) AX hk ((hle.trans hl4).trans hl6)
   (refine AU rfl<|Ap rfl rfl<|Ap rfl rfl<|BV (fun _ _=>?_))
   rename_i b10 T10
   refine Bq 0 rfl rfl rfl rfl (Ach _) rfl ?_
   by_cases he:(A4 s page ((x+1:Nat):Int)).2=0
   ·have htc6:=htc5 he
    obtain⟨hr,hlf⟩:=IK he
    obtain⟨n,hne⟩:∃n,(A4 s page ((x+1:Nat):Int)).1=n:=⟨_,rfl⟩
    rw [hne] at hn6 hr hlf⊢
    obtain⟨i,b,hfd⟩:∃i b,findD n key=(i,b):=⟨_,_,rfl⟩
    have hile:i≤n.keys.length:=by have:=Nc (n:=n) (key:=key);rw [hfd] at this;exact this
    rw [he]
    have hlv:n.leaf=true→n.vals.length=n.keys.length:=Jr hr
    have hli:n.leaf=false→n.kids.length=n.keys.length+1:=Hr hr
    clear hr
    have hfc:=h3 hn6 hk6
    rw [hfd] at hfc
    obtain⟨kv,vv,iv,q,r1,r2,r3⟩:=hn6
    cases q
    (refine Ab rfl<|Aa<|Ah<|Ad<|Ab rfl<|AO rfl rfl<|Aa<|Ar rfl (by omega)<|Al<|Ad<|Bg 0 rfl rfl rfl<|Am rfl ?_)
    refine BR rfl hfc ?_
    (refine AU rfl<|Ap rfl rfl<|Ap rfl rfl<|Ab rfl<|Ae rfl<|Aa ?_)
    apply Ah;apply Ah;apply AE
    (refine Ab rfl<|BS rfl rfl<|Aa ?_)
    by_cases hx0:x=0
    ·subst hx0
     have hvl:=hlv (by rw [hlf];rfl)
     clear hlv hli hlf
     refine Ar rfl (by omega) ?_
     cases b with
     |true=>
      have hilt:i<n.keys.length:=by have:=MP (n:=n) (key:=key) (by rw [hfd]);rw [hfd] at this;exact this
      have hiv:i<n.vals.length:=by omega
      have hgv:n.vals.getD i []=n.vals[i]:=by rw [Acf,Ace hiv];rfl
      obtain⟨hI1,hI2⟩:=Ta he hne hfd
      rw [hgv] at hI1 hI2
      rw [hgt,hI1]
      rw [hI2] at htt
      (refine Al<|Ah<|Ad<|Ae rfl<|Bj rfl<|Aa<|AR rfl<|Al<|Ad<|Ak rfl<|Ai rfl<|Ag rfl (Aj 0 rfl rfl)<|Ab rfl<|BH (sz:=1) (R:=RBs) (by rfl) (by assumption) (by rfl) rfl (by omega) ?_;rintro _ _ _ _ _ ⟨_,rfl,_⟩;apply Ag;rfl;exact B5 (by assumption) rfl)
      refine A3 (_::J) (AaF h4 (b:=n.vals[i]) hp6 (by assumption)) rfl rfl (fun v d7 L7 hl7 ⟨_,u,L8,tc8,e7,e8,hu,hp8,htc8⟩=>?_)
      subst e7;subst e8
      obtain⟨ua,uc,rfl⟩:=hu.val
      generalize DH s n.vals[i]=V at hu htc8⊢
      (refine AU rfl<|Ap rfl rfl<|Ap rfl rfl<|Am rfl<|Ab rfl<|Aa<|Ad<|Am rfl<|Ab rfl<|AJ rfl rfl<|Ab rfl<|Am rfl<|Ae rfl<|Ab rfl<|Aa<|Ao ?_)
      exact A7 [.slice ua V.1.length uc,.bool (decide (V.2=0)),.int .i64 V.2] ⟨Au rfl,Au rfl,Au rfl,trivial⟩ (d':=d7) (L':=tb bt Tt (.pointer (some ⟨bp,0,none⟩)) root height count::L8) (Vs.drop (.cons _ (Adm J _))) ⟨((hle.trans hl4).trans hl6).trans hl7,_,L8,tc8,rfl,hu,rfl,hp8,fun _ q=>(by have h8:tc8=tc5+F5 n.vals[i]:=htc8 q;omega)⟩
     |false=>
      obtain⟨hI1,hI2⟩:=TI he hne hfd
      rw [hgt,hI1]
      rw [hI2] at htt
      (refine Al<|Ah<|Ad<|Ae rfl<|Bj rfl<|Aa<|Be rfl<|Ad<|Am rfl<|Ae rfl<|Ab rfl<|Aa<|Ao ?_)
      exact A7 [.slice none 0 0,.bool false,.int .i64 0] ⟨Au rfl,Au rfl,Au rfl,trivial⟩ (d':=d6) (L':=tb bt Tt (.pointer (some ⟨bp,0,none⟩)) root height count::L5) (Vs.drop (.cons _ (Adm J _))) ⟨(hle.trans hl4).trans hl6,_,L5,tc5,rfl,RSl.nil,rfl,hp6,fun _ _=>(by omega)⟩
    ·obtain⟨x,rfl⟩:∃y,x=y+1:=⟨x - 1,by omega⟩
     have hil:=hli (by rw [hlf];simp;omega)
     clear hlv hli hlf
     have hii:i<n.kids.length:=by omega
     have hgk:n.kids.getD i 0=n.kids[i]:=by rw [Acf,Ace hii];rfl
     obtain⟨hI1,hI2⟩:=NV (key:=key) he hne hfd
     rw [hgk] at hI1 hI2
     refine Ay rfl (by omega) ?_
     (refine Ad<|Ai rfl<|Ag rfl (Aj 0 rfl rfl)<|Ab rfl<|BH (sz:=1) (R:=Bi) (by rfl) (by assumption) (by rfl) rfl (by omega) ?_;rintro _ _ _ _ _ ⟨rfl,_,_⟩;refine Ag rfl (B5 (by assumption) rfl)<|Ab rfl<|Aa<|Bh<|AE<|Ab rfl<|CY rfl rfl (by omega) (by omega)<|Ab rfl<|Aa ?_)
     exact⟨(x+1,n.kids[i]),by simp only;omega,⟨rfl,rfl,rfl,congrArg (Value.int .i64) (by push_cast;omega),trivial⟩,(hle.trans hl4).trans hl6,by simp only;omega,hgt.trans hI1,_::J,L5,tc5,rfl,hp6,by simp only;omega⟩
   ·rw [hgt,Yf he]
    (refine Ab rfl<|Aa<|Ah<|Ad<|Ab rfl<|AO rfl rfl<|Aa<|Ay rfl (by omega)<|Ad<|Ab rfl<|Am rfl<|Ae rfl<|Ab rfl<|Aa<|Ao ?_)
    exact A7 [.slice none 0 0,.bool false,.int .i64 (A4 s page ((x+1:Nat):Int)).2] ⟨Au rfl,Au rfl,Au rfl,trivial⟩ (d':=d6) (L':=tb bt Tt (.pointer (some ⟨bp,0,none⟩)) root height count::L5) (Vs.drop (.cons _ (Adm J _))) ⟨(hle.trans hl4).trans hl6,_,L5,tc5,rfl,RSl.nil,rfl,hp6,fun _ q=>absurd q he⟩
 ·have hF:CX ⟨s,root,height,count⟩ key=([],false,BL key):=by unfold CX;rw [if_pos hw]
  rw [hF]
  (refine Ab rfl<|Aa<|Ad<|Ab rfl<|AO rfl rfl<|Aa<|Ay rfl (by omega)<|Ad<|Ab rfl<|Am rfl<|Ae rfl<|Ab rfl<|Aa<|Ao ?_)
  exact A7 [.slice none 0 0,.bool false,.int .i64 (BL key)] ⟨Au rfl,Au rfl,Au rfl,trivial⟩ (d':=d2) (L':=_::L) (Vs.refl _ _) ⟨Le.refl _,_,L,s.tc,rfl,RSl.nil,rfl,hp,fun q=>absurd q hw⟩
end
end Go.Gk.Tre
end
section
namespace Go.Gk.Tre
open Go Go.Gk Go.Gk.Dev Go.Gk.Cch Go.Gk.Pgr Go.Gk.Chn Go.Gk.Node
section
attribute [local irreducible] gwp gws xwp
end
end Go.Gk.Tre
end
section
namespace Go.Gk
open Go
section
theorem Aw.pre{P:Program}{f:FuncId}{args:List Value}{d:Ac}{A L:List Ac}{R:Ending→Ac→List Ac→Prop} (p:L.Perm A) (h:Aw P f args d A R):Aw P f args d L R:=
 ⟨h.1,fun F W ok=>h.2 F W (ok.perm (Acn d (Afb F p)))⟩
theorem Aw.Vr{P:Program}{f:FuncId}{args:List Value}{d:Ac}{A B:List Ac}{R R':Value→Ac→List Ac→Prop} (h:Aw P f args d A (Ret R)) (hR:∀v d' A',Le d d'→R v d' A'→∃L',(A'++B).Perm L'∧R' v d' L'):Aw P f args d (A++B) (Ret R'):=by
 refine⟨h.1,fun F W ok=>(h.2 (B++F) W (by rwa [←Acg])).mono ?_⟩
 rintro e W' ⟨d',A',h1,h2,h3,h4⟩
 cases e with
 |returned v=>
  obtain⟨L',p,hr⟩:=hR v d' A' h2 h4
  refine⟨d',L',?_,h2,h3,hr⟩
  rw [←Acg] at h1
  exact h1.perm (Acn d' (Afb F p))
 |panicked c=>exact h4.elim
 |outgrown=>exact h4.elim
section
variable {P:Program}{pan:List PanicEntry→AS}{Qn:Env→AS}{Ls L:List Ac}{ρ:Env}{d:Ac}{s:GS}{t:Nat}
theorem TN{f:FuncId}{args:List Operand}{R:Value→Ac→List Ac→Prop}{vs:List Value}{A B:List Ac} (hc:Aw P f vs d A (Ret R)) (hp:(Ls++L).Perm (A++B)) (ea:args.map (ev ρ)=vs)
  (h:∀v d' A',Le d d'→R v d' A'→∃L'',(A'++B).Perm (Ls++L'')∧gws P pan Qn s Ls (upd ρ t v) d' L''):gws P pan Qn (.op false ⟨some t,none,.call f args⟩ s) Ls ρ d L:=
 ⟨d,L,Vs.refl d L,.inr ⟨Ls,Ret fun v d' L'=>∃L'',L'=Ls++L''∧gws P pan Qn s Ls (upd ρ t v) d' L'',rfl,
  by rw [ea];exact Aw.pre hp (Aw.Vr hc (fun v d' A' hl hr=>by obtain⟨L'',p,k⟩:=h v d' A' hl hr;exact⟨Ls++L'',p,L'',rfl,k⟩)),
  fun e d' L' hl hr=>by
   cases e with
   |returned v=>
    obtain⟨L'',e1,k⟩:=hr
    exact⟨L'',e1,_,_,Vs.refl _ _,k⟩
   |panicked c=>exact hr.elim
   |outgrown=>exact hr.elim⟩⟩
end
end
end Go.Gk
end
section
namespace Go.Gk
open Go Go.Proofs Go.RowKit
def Ys(g3 g4:Nat) (d:Ac):Prop:=(∀c,c<256→DC d g3 c (.int .u8 (Lib.firstT c)))∧∀i,i<16→DC d g4 (2*i) (.int .u8 (Lib.accLo i))∧DC d g4 (2*i+1) (.int .u8 (Lib.accHi i))
theorem Ys.mono{g3 g4:Nat}{d d':Ac} (h:Ys g3 g4 d) (hl:Le d d'):Ys g3 g4 d':=⟨fun c hc=>(h.1 c hc).mono hl,fun i hi=>⟨(h.2 i hi).1.mono hl,(h.2 i hi).2.mono hl⟩⟩
end Go.Gk
end
section
namespace Go.Gk
open Go Go.Proofs Go.RowKit Go.Shelf
end Go.Gk
end
section
namespace Go.Gk
open Go Go.Proofs Go.RowKit Go.Shelf
end Go.Gk
end
section
namespace Go.Gk.Tre
open Go Go.Gk Go.Gk.Dev Go.Gk.Cch Go.Gk.Pgr Go.Gk.Chn Go.Gk.Node
section
attribute [local irreducible] gwp gws xwp
end
end Go.Gk.Tre
end
section
namespace Go.Gk.Chn
open Go Go.Gk Go.Gk.Dev Go.Gk.Cch Go.Gk.Pgr Go.Gk.Node
section
theorem Ob{P:Program}{pan:List PanicEntry→AS}{Qn:Env→AS}{Ls L:List Ac}{ρ:Env}{d:Ac}{s:GS}{t:Nat}{sz by_:Nat}{z:List Value}{x y:Operand}{k k':IntKind}{n c:Nat} (ex:ev ρ x=.int k (n:Nat)) (ey:ev ρ y=.int k' (c:Nat)) (h1:n≤c) (h2:c≤9223372036854775807) (h3:by_*c≤281474976710656)
  (h:∀b T,gws P pan Qn s Ls (upd ρ t (.slice (some ⟨b,0,none⟩) n c)) (join d (bx b T (Bp z (c*sz)))) L):gws P pan Qn (.op false ⟨some t,none,.mks sz by_ z x y⟩ s) Ls ρ d L:=
 ⟨d,L,Vs.refl d L,k,k',n,c,ex,ey,h1,h2,h3,fun b T=>⟨_,_,Vs.freeze,h b T⟩⟩
attribute [local irreducible] gwp gws xwp
def Uh(P:Program) (f:FuncId):Prop:=∀{d:Ac}{n:Nat},1≤n→n≤8192→Aw P f [.int .i64 n] d [] (Ret fun r d' L'=>L'=[]∧∃b a c,r=.tuple #[.pointer (some ⟨b,0,none⟩),.int .i64 0]∧DC d' b 0 (.slice a n c))
def Kr:AY:=⟨31,[(.tmp 2),(.tmp 3)],(sR (o1 2 (.mv (.const (.pointer none)))<|o1 3 (.mv (kZ 0)) .done) (.seq (sR (om 6 0<|ob 7 .lss (tP 6) (kZ 1)<|om 8 7<|gF 9 8 0<|oF 10 8 (.bin .gtr (tP 9) (kZ 8192))<|o1 11 (.pick (tP 8) (.const (.bool true)) (tP 10)) .done) (.cond (tP 11) (sR (o1 2 (.mv (.const (.pointer none)))<|o1 3 (.mv (kZ 2)) .done) .ret) .skip)) (sR (o1 12 (.bld [(0,1),(1,1),(2,1),(3,1)] [(.slice none 0 0),(.slice none 0 0),(.int .i64 0),(.int .i64 0)] [(3,(kZ (-1)))])<|o1 13 (.box (tP 12))<|om 4 13 .done) (.seq (sR (o1 5 (.mv (kZ 0)) .done) (.block 0 (.loop (.seq (sR (om 14 5<|om 15 0<|ob 16 .lss (tP 14) (tP 15) .done) (.cond (tP 16) .skip (.exit 0))) (.seq (.block 1 (.reg true (pm 19 4<|pm 20 4<|p1 21 (.nilc (tP 20))<|p1 22 (.fld 0 (tP 21))<|pl 23 22<|o1 24 (.mks 1 1 [(.int .u8 0)] (kZ 256) (kZ 256))<|p1 25 (.b2s (tP 24))<|o1 26 (.bsl 1 1 [(Bs [])] [(0,(tP 25))])<|o1 27 (.app 1 16 [(Bs [])] (tP 23) (tP 26))<|p1 28 (.nilc (tP 19))<|p1 29 (.fld 0 (tP 28)) (.bar (o0 (.st 1 (tP 29) (tP 27)) .done))))) (rG (om 17 5<|ob 18 .add (tP 17) (kZ 1)<|om 5 18 .done))))))) (sR (om 30 4<|om 2 30<|o1 3 (.mv (kZ 0)) .done) .ret)))))⟩
set_option maxRecDepth 4000 in
set_option maxHeartbeats 1000000 in
theorem Aah{P:Program}{f:FuncId} (hd:Jn P f=some Kr):Uh P f:=by
 intro d n hn1 hn2
 refine AG hd (Aca rfl) ?_
 show gwp P _ _ _ _ _
 (refine Ad ?_)
 refine B9 d [emp] Vs.emp ?_
 (refine Ak rfl<|Ab rfl<|Aa<|Ah<|Ad<|Ab rfl<|AA rfl rfl<|Ae rfl<|AZ rfl (by omega)<|Af rfl<|Ab rfl<|Af rfl<|BS rfl rfl<|Aq rfl rfl<|Aa<|Ar rfl (by omega)<|Al<|Ad<|BI rfl<|Cc rfl (fun _ _=>Ak rfl<|Aa<|Ah<|Ad<|Ab rfl<|Aa<|Ax ?_))
 rename_i b T
 refine CI (α:=Nat×Option Addr×Nat) (fun x=>[(0,.int .i64 n),(4,.pointer (some ⟨b,0,none⟩)),(5,.int .i64 x.1)])
  (fun x d' L'=>Le d d'∧x.1≤n∧∃h,[bx b T [.slice x.2.1 x.1 x.2.2,.slice none 0 0,.int .i64 0,.int .i64 (-1)],h].Sublist L'∧As 1 Ks d' (.slice x.2.1 x.1 x.2.2) (Acr x.1 (Acr 256 0)) h) (fun x=>n - x.1) (0,none,0) ⟨rfl,rfl,rfl,trivial⟩ ⟨Le.refl _,Adf _,emp,Acb _,As.nil⟩ ?_
 rintro⟨i,a,c⟩ ρ d' L' ⟨hle,hi,h,hsub,hrow⟩
 simp only at hi hsub hrow⊢
 apply Ah;apply Ah;apply AE
 refine B9 d' _ (Vs.drop hsub) ?_
 by_cases e:i<n
 ·(refine Ab rfl<|Ab rfl<|AA rfl rfl<|Aa<|Ay rfl (by omega)<|Al<|Ah<|Ax ?_)
  refine Br [bx b T [.slice a i c,.slice none 0 0,.int .i64 0,.int .i64 (-1)]] [h] rfl ?_
  (refine Ak rfl<|Ak rfl<|Av rfl<|Ai rfl<|Ag rfl (Aj 0 rfl rfl) ?_)
  refine Ob (n:=256) (c:=256) rfl rfl (Ach _) (by omega) (by omega) (fun b24 T24=>?_)
  have hg:As 1 AP d' (.slice (some ⟨b24,0,none⟩) 256 256) (Acr 256 0) (bx b24 T24 (Bp [.int .u8 0] (256*1))):=As.zero rfl (by omega) rfl (by omega)
  have hgr:=As.rsl (R:=AP) (sz:=1) hg AX (by omega) (Le.AI _ _) (Le.A9 d' (bx b24 T24 (Bp [.int .u8 0] (256*1))))
  have hl2:Le d' (join d' (bx b24 T24 (Bp [.int .u8 0] (256*1)))):=Le.AI _ _
  refine Bf rfl hgr ?_
  refine Ea (v0:=Bs (Acr 256 0)) rfl rfl (fun b26 T26=>?_)
  have hrow2:As 1 Ks (join d' (bx b24 T24 (Bp [.int .u8 0] (256*1)))) (.slice a i c) (Acr i (Acr 256 0)) h:=by
   have:=As.mono (R:=Ks) Xl hrow hl2
   exact this
  have hil:(Acr i (Acr 256 (0:UInt8))).length=i:=Adn
  refine D8 (R:=Ks) 0 rfl rfl hrow2 rfl (As.Es (R:=Ks) (x:=Acr 256 0) rfl ⟨rfl,by simp⟩) Vq (by omega) (by simp;omega) (by simp;omega) (fun v' h' ho'=>?_)
  rw [←List.replicate_succ'] at ho'
  obtain⟨a',c',rfl⟩:=ho'.val
  rw [Adn] at ho'⊢
  (refine Av rfl<|Ai rfl<|B4 ?_)
  refine A0 0 [.slice a' (i+1) c',.slice none 0 0,.int .i64 0,.int .i64 (-1)] rfl rfl rfl rfl (Aca rfl) rfl rfl ?_
  (refine Aa<|AE<|Ab rfl<|AN rfl rfl (by omega) (by omega)<|Ab rfl<|Aa ?_)
  exact⟨(i+1,a',c'),by simp only;omega,⟨rfl,rfl,rfl,trivial⟩,hle.trans hl2,e,h',Acb _,ho'⟩
 ·have:i=n:=by omega
  subst this
  (refine Ab rfl<|Ab rfl<|AA rfl rfl<|Aa<|Ar rfl (by omega)<|Bh<|Ad<|Ak rfl<|Ak rfl<|Ab rfl<|Aa<|Ao ?_)
  exact A7 [.pointer (some ⟨b,0,none⟩),.int .i64 0] ⟨rfl,rfl,trivial⟩ (d':=join (join d' (bx b T [.slice a i c,.slice none 0 0,.int .i64 0,.int .i64 (-1)])) h) (L':=[]) (Vs.freeze.trans Vs.freeze) ⟨rfl,b,a,c,rfl,(Le.dcs ((Le.A9 _ _).trans (Le.AI _ _))).at (i:=0) rfl⟩
end
end Go.Gk.Chn
end
