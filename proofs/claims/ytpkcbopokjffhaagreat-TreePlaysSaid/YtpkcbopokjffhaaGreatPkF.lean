/-
  Our own texts, one behind the other: GkIns GkTr0 GkTr1 GkHL GkHM GkHN GkHO GkTr3 Gk43 GkTr2 GkTr4 GkTr5 GkTrS GkTr6 GkTr7 Gk41 GkTrK GkTrQ GkTrF GkTr8 GkTrG GkTrP GkTrR Gk44 Gk20 Gk25 Gk45 GkTrT GkH6.
-/
import Derived.Below
import Derived.Shelf.Unicode.DecodeSlow
import Derived.Shelf.Sort.Plain
import Derived.Shelf.Slices.In.SortNone
import Derived.Test.YtpkcbopokjffhaaGreatPkE
open Nat renaming le_of_ble_eq_true→Aca,le_refl→Ach,zero_le→Adg,zero_add→Aeg,mul_one→Aeo,succ_ne_zero→Aez,mod_eq_of_lt→Afd,not_lt_zero→Afm,min_eq_left→Agw
open List.Sublist renaming refl→Acb,cons_cons→Aep
open Bool renaming and_eq_true→Acd,false_eq_true→Aci,or_eq_true→Ady,not_eq_true→Aev,not_eq_false'→Afu,false_ne_true→Ahn
open List renaming getElem?_eq_getElem→Ace,getD_eq_getElem?_getD→Acf,append_assoc→Acg,mem_append→Acj,perm_append_comm→Ack,length_append→Acl,eq_nil_of_length_eq_zero→Acm,length_drop→Acn,getElem?_eq_some_iff→Acp,all_eq_true→Acq,replicate→Acr,length_cons→Acs,mem_cons_self→Acu,mem_singleton→Acv,length_take→Acw,take_succ_eq_append_getElem→Acx,mem_cons_of_mem→Acy,getElem_mem→Ada,mem_cons→Adb,range→Ade,length_set→Adf,mem_append_left→Adh,drop_eq_getElem_cons→Adi,perm_middle→Adj,mem_append_right→Adk,sublist_append_right→Adm,length_replicate→Adn,getElem?_eq_none→Adq,getElem?_append_right→Ads,perm_append_comm_assoc→Adz,getElem?_drop→Aeb,take_of_length_le→Aec,getElem?_append_left→Aed,take_length→Aef,getElem_of_mem→Aeh,nil_sublist→Aej,getElem?_take→Aek,getD_cons_succ→Aeu,mem_of_getElem?→Aew,getD_cons_zero→Aey,pairwise_iff_getElem→Afc,ext_getElem?→Afg,nodup_append→Afi,nodup_cons→Afr,length_singleton→Afs,drop_length→Afv,eraseIdx_sublist→Agc,mem_of_mem_drop→Agf,getElem?_cons_succ→Agm,drop_left→Agp,nodup_nil→Agq,mem_of_mem_take→Aha,take_left→Ahc
open List.Perm renaming cons→Aco,swap→Adc,refl→Adp,append_right→Afb,append_left→Aga
open Int renaming toNat_natCast→Agh
section
namespace Go.Gk
open Go
attribute [local irreducible] gwp gws
theorem Aq.one{α:Type}{R:Ae→List Value→α→Prop}{d:Ae}{v:Value}{xs:List α}{h:Ae}:Aq 1 R d v xs h↔∃cs,BJ 1 v xs.length cs h∧∀i (hi:i<xs.length) u,cs[i]?=some u→R d [u] xs[i]:=by
 constructor
 ·rintro⟨cs,h1,h2⟩
  refine⟨cs,h1,fun i hi u hu=>?_⟩
  have:=h2 i hi
  unfold chunk at this
  rw [Aeo,Adi (by have:=h1.1;omega),List.take_succ_cons,List.take_zero] at this
  obtain⟨hlt,rfl⟩:=Acp.1 hu
  exact this
 ·rintro⟨cs,h1,h2⟩
  refine⟨cs,h1,fun i hi=>?_⟩
  have hl:i<cs.length:=by have:=h1.1;omega
  unfold chunk
  rw [Aeo,Adi hl,List.take_succ_cons,List.take_zero]
  exact h2 i hi cs[i] (Ace hl)
def BX{α:Type} (xs:List α) (i:Nat) (y:α):List α:=xs.take i++y::xs.drop i
theorem EW{α:Type}{xs:List α}{i:Nat}{y:α} (h:i≤xs.length):(BX xs i y).length=xs.length+1:=by unfold BX;simp;omega
theorem Lz{α:Type}{xs:List α}{i j:Nat}{y:α} (h:i≤xs.length):(BX xs i y)[j]?=if j<i then xs[j]? else if j=i then some y else xs[j - 1]?:=by
 unfold BX
 by_cases h1:j<i
 ·rw [if_pos h1,Aed (by simp;omega),Aek,if_pos h1]
 ·rw [if_neg h1,Ads (by simp;omega)]
  have hl:(xs.take i).length=i:=by simp;omega
  rw [hl]
  by_cases h2:j=i
  ·subst h2;simp
  ·rw [if_neg h2]
   obtain⟨m,hm⟩:∃m,j - i=m+1:=⟨j - i - 1,by omega⟩
   rw [hm,Agm,Aeb]
   congr 1;omega
theorem BJ.ins{n c b:Nat}{T:TypeId}{l cs:List Value}{i:Nat}{u:Value} (hc:cs.length=n) (hn:n+1≤140737488355328) (hi:i≤n) (h3:n+1≤c) (h4:c≤9223372036854775807) (h5:c≤l.length) (h6:∀j,j<n+1→l[j]?=(BX cs i u)[j]?):
  BJ 1 (.slice (some ⟨b,0,none⟩) (n+1) c) (n+1) (BX cs i u) (bx b T l):=by
 have hil:(BX cs i u).length=n+1:=by rw [EW (by omega),hc]
 refine BJ.mk (by rw [hil];omega) hn h3 h4 (by omega) ?_
 apply Afg
 intro j
 rw [hil,Aek]
 by_cases hj:j<n+1
 ·rw [if_pos hj,h6 j hj]
 ·rw [if_neg hj,Adq (by omega)]
theorem Aq.ins{α:Type}{R:Ae→List Value→α→Prop}{d:Ae}{v:Value}{xs:List α}{h:Ae}{cs:List Value}{u:Value}{y:α}{i:Nat} (hi:i≤xs.length) (hcl:cs.length=xs.length) (h1:BJ 1 v (xs.length+1) (BX cs i u) h) (h2:∀i (hi:i<xs.length) u,cs[i]?=some u→R d [u] xs[i]) (h3:R d [u] y):Aq 1 R d v (BX xs i y) h:=by
 rw [Aq.one]
 refine⟨BX cs i u,by rw [EW hi];exact h1,fun j hj w hw=>?_⟩
 have hx:(BX xs i y)[j]?=some (BX xs i y)[j]:=Ace hj
 rw [Lz (by omega)] at hw
 rw [Lz hi] at hx
 rw [EW hi] at hj
 by_cases q1:j<i
 ·rw [if_pos q1] at hw hx
  have:=h2 j (by omega) w hw
  rw [Ace (by omega)] at hx
  rw [←Option.some.inj hx];exact this
 ·rw [if_neg q1] at hw hx
  by_cases q2:j=i
  ·rw [if_pos q2] at hw hx
   rw [←Option.some.inj hx,←Option.some.inj hw];exact h3
  ·rw [if_neg q2] at hw hx
   have:=h2 (j - 1) (by omega) w hw
   rw [Ace (by omega)] at hx
   rw [←Option.some.inj hx];exact this
theorem GB{p:Value→Bool}{cs:List Value}{i:Nat} (h:cs.all p=true):(cs.drop i).all p=true:=by
 rw [Acq] at h⊢
 exact fun x hx=>h x (Agf hx)
theorem Q5{cs l:List Value}{i n:Nat}{u:Value} (hc:cs.length=n) (hi:i<n) (hl:n+1≤l.length) (h:∀j,j<i→l[j]?=cs[j]?) (j:Nat) (hj:j<n+1):(patch (patch l (0+i) [u]) (0+(i+1)) (cs.drop i))[j]?=(BX cs i u)[j]?:=by
 have e1:(patch l (0+i) [u]).length=l.length:=Bq (by simp;omega)
 rw [Cy (by rw [e1,Acn];omega),Cy (by simp;omega),Lz (by omega),Acn]
 by_cases q1:j<i
 ·rw [if_pos q1,if_neg (by omega),if_neg (by simp;omega),h j q1]
 ·rw [if_neg q1]
  by_cases q2:j=i
  ·subst q2
   rw [if_pos rfl,if_neg (by omega),if_pos (by simp)]
   simp
  ·rw [if_neg q2,if_pos (by omega),Aeb]
   congr 1;omega
theorem QV{cs l:List Value}{i n:Nat}{u:Value} (hc:cs.length=n) (hi:i<n) (hl:n+1≤l.length) (h:∀j,j<n→l[j]?=cs[j]?) (j:Nat) (hj:j<n+1):(patch (patch l (0+(i+1)) (cs.drop i)) (0+i) [u])[j]?=(BX cs i u)[j]?:=by
 have e1:(patch l (0+(i+1)) (cs.drop i)).length=l.length:=Bq (by rw [Acn];omega)
 rw [Cy (by rw [e1];simp;omega),Cy (by rw [Acn];omega),Lz (by omega),Acn]
 by_cases q1:j<i
 ·rw [if_pos q1,if_neg (by simp;omega),if_neg (by omega),h j (by omega)]
 ·rw [if_neg q1]
  by_cases q2:j=i
  ·subst q2
   rw [if_pos rfl,if_pos (by simp)]
   simp
  ·rw [if_neg q2,if_neg (by simp;omega),if_pos (by omega),Aeb]
   congr 1;omega
def Jk{α:Type} (R:Ae→List Value→α→Prop) (P:Program) (f:FuncId):Prop:=∀{d:Ae}{v:Value}{xs:List α}{h:Ae}{i b:Nat}{T:TypeId}{u:Value}{y:α},Aq 1 R d v xs h→i≤xs.length→xs.length≤1000000000000→R d [u] y→Fx R→
 Aw P f [v,.int .i64 i,.slice (some ⟨b,0,none⟩) 1 1] d [bx b T [u],h] (Ret fun r d' L'=>d'=d∧∃h',L'=[h']∧Aq 1 R d r (BX xs i y) h')
def Hl(a0:Nat):AX:=⟨95,[(.tmp 6)],(.seq (rG (o1 6 (.mv (.const (.slice none 0 0))) .done)) (.seq (rG (om 10 0 (om 11 1 (o1 12 (.sl 1 (tP 10) (some (tP 11)) none none) .done)))) (.seq (rG (om 13 2 (oL 14 13 (om 7 14 .done)))) (.seq (.seq (rG (om 15 7 (ob 16 .eql (tP 15) (kZ 0) .done))) (.cond (tP 16) (.seq (rG (om 17 0 (om 6 17 .done))) .ret) .skip)) (.seq (rG (om 18 0 (oL 19 18 (om 8 19 .done)))) (.seq (.seq (rG (om 20 1 (om 21 8 (ob 22 .eql (tP 20) (tP 21) .done)))) (.cond (tP 22) (.seq (rG (om 23 0 (om 24 2 (o1 25 (.app 1 24 [(.slice none 0 0)] (tP 23) (tP 24)) (om 6 25 .done))))) .ret) .skip)) (.seq (.seq (rG (om 26 8 (om 27 7 (ob 28 .add (tP 26) (tP 27) (om 29 0 (o1 30 (.cap (tP 29)) (ob 31 .gtr (tP 28) (tP 30) .done))))))) (.cond (tP 31) (.seq (rG (om 32 0 (om 33 1 (o1 34 (.sl 1 (tP 32) none (some (tP 33)) none) (om 35 8 (om 36 7 (ob 37 .add (tP 35) (tP 36) (om 38 1 (ob 39 .sub (tP 37) (tP 38) (o1 40 (.mop (.zap 1 24 [(.slice none 0 0)] (tP 34) (tP 39))) (om 9 40 .done))))))))))) (.seq (rG (om 41 9 (om 42 1 (o1 43 (.sl 1 (tP 41) (some (tP 42)) none none) (om 44 2 (o1 45 (.mop (.cpy 1 (tP 43) (tP 44))) .done)))))) (.seq (.reg true (pm 46 9 (pm 47 1 (pm 48 7 (p1 49 (.bin .add (tP 47) (tP 48)) (p1 50 (.sl 1 (tP 46) (some (tP 49)) none none) (pm 51 0 (pm 52 1 (p1 53 (.sl 1 (tP 51) (some (tP 52)) none none) (o1 54 (.mop (.cpy 1 (tP 50) (tP 53))) .done)))))))))) (.seq (rG (om 55 9 (om 6 55 .done))) .ret)))) .skip)) (.seq (rG (om 56 0 (om 57 8 (om 58 7 (ob 59 .add (tP 57) (tP 58) (o1 60 (.sl 1 (tP 56) none (some (tP 59)) none) (om 0 60 .done))))))) (.seq (.seq (rG (om 61 2 (om 62 0 (om 63 1 (om 64 7 (ob 65 .add (tP 63) (tP 64) (o1 66 (.sl 1 (tP 62) (some (tP 65)) none none) (o1 67 (.mop (.ovl (tP 61) (tP 66))) (o1 68 (.un .not (tP 67)) .done))))))))) (.cond (tP 68) (.seq (.reg true (pm 69 0 (pm 70 1 (pm 71 7 (p1 72 (.bin .add (tP 70) (tP 71)) (p1 73 (.sl 1 (tP 69) (some (tP 72)) none none) (pm 74 0 (pm 75 1 (p1 76 (.sl 1 (tP 74) (some (tP 75)) none none) (o1 77 (.mop (.cpy 1 (tP 73) (tP 76))) .done)))))))))) (.seq (rG (om 78 0 (om 79 1 (o1 80 (.sl 1 (tP 78) (some (tP 79)) none none) (om 81 2 (o1 82 (.mop (.cpy 1 (tP 80) (tP 81))) .done)))))) (.seq (rG (om 83 0 (om 6 83 .done))) .ret))) .skip)) (.seq (rG (om 84 0 (om 85 8 (o1 86 (.sl 1 (tP 84) (some (tP 85)) none none) (om 87 2 (o1 88 (.mop (.cpy 1 (tP 86) (tP 87))) .done)))))) (.seq (rG (om 89 0 (om 90 1 (o1 91 (.sl 1 (tP 89) (some (tP 90)) none none) (om 92 7 (oc 93 a0 [(tP 91),(tP 92)] .done)))))) (.seq (rG (om 94 0 (om 6 94 .done))) .ret))))))))))))⟩
theorem Qe{P:Program}{f f1:FuncId} (hd:dec P f=some (Hl f1)):Jk RBs P f:=by
 intro d v xs h i b T u y ho hi hxl hy hC
 refine AE hd (Aca rfl) ?_
 have ho':=ho
 rw [Aq.one] at ho'
 obtain⟨cs,h1,h2⟩:=ho'
 have hcl:cs.length=xs.length:=by have:=h1.1;omega
 obtain⟨va,vc,rfl⟩:=ho.val
 show gwp P _ _ _ _ _
 obtain⟨-,h3,⟨hn1,hn2,rfl⟩|⟨b1,T1,l,c,hn1,rfl,h4,h5,h6,h7⟩⟩:=h1
 ·simp only [Value.slice.injEq] at hn1
  obtain⟨rfl, -,rfl⟩:=hn1
  obtain rfl:=Acm hn2
  obtain rfl:i=0:=by simpa using hi
  (refine Ac (Ad (Am rfl (Aa (Ac (Ad (Am rfl (Ab rfl ?_))))))))
  refine w_q rfl (v:=.slice none 0 0) ⟨none,0,0,0,0,0,rfl,fun q=>absurd rfl q,rfl,rfl⟩ ?_
  (refine Aa (Ac (Ad (Am rfl (AK rfl (Ab rfl (Aa (Ac (Ac (Ad (Ab rfl (AO rfl rfl (Aa (Ar rfl (by omega) (Ak (Ac (Ad (Am rfl (AK rfl (Ab rfl (Aa (Ac (Ac (Ad (Ab rfl (Ab rfl (AO rfl rfl (Aa (Ax rfl (by omega) (Ac (Ad (Am rfl (Am rfl ?_)))))))))))))))))))))))))))))))))
  refine D6 (R:=RBs) 0 rfl rfl ho rfl (Aq.En (x:=y) rfl hy) hC (by omega) (by simp) (by simp) (fun v' h' ho'=>?_)
  (refine AI (Aa (An ?_)))
  exact EB [v'] ⟨rfl,trivial⟩ (Acb _) ⟨rfl,h',rfl,ho'⟩
 ·cases hn1
  have hcu:(cs.all (·.oneCell'))=true:=by
   rw [Acq]
   intro x hx
   obtain⟨j,hj,rfl⟩:=Aeh hx
   have:=hC _ _ _ (h2 j (by omega) _ (Ace hj))
   simpa using this
  have hl7:∀j,j<xs.length→l[j]?=cs[j]?:=fun j hj=>by
   rw [←h7,Aek,if_pos (by omega)]
  (refine Ac (Ad (Am rfl (Aa (Ac (Ad (Am rfl (Ab rfl ?_))))))))
  refine CQ (l:=i) (h:=xs.length) (m:=vc) rfl (CN rfl rfl hi) (fun o1 _=>?_)
  (refine Aa (Ac (Ad (Am rfl (AK rfl (Ab rfl (Aa (Ac (Ac (Ad (Ab rfl (AO rfl rfl (Aa (Ar rfl (by omega) (Ak (Ac (Ad (Am rfl (AK rfl (Ab rfl (Aa (Ac (Ac (Ad (Ab rfl (Ab rfl (AO rfl rfl (Aa ?_))))))))))))))))))))))))))))
  by_cases e:i=xs.length
  ·subst e
   (refine Ax rfl (by omega) (Ac (Ad (Am rfl (Am rfl ?_)))))
   refine D6 (R:=RBs) 0 rfl rfl ho rfl (Aq.En (x:=y) rfl hy) hC (by omega) (by simp;omega) (by simp;omega) (fun v' h' ho'=>?_)
   (refine AI (Aa (An ?_)))
   exact EB [v'] ⟨rfl,trivial⟩ (Acb _) ⟨rfl,h',rfl,by rw [BX,Aef,Afv];exact ho'⟩
  ·by_cases hc:vc<xs.length+1
   ·(refine Ar rfl (by omega) (Ak (Ac (Ac (Ad (Ab rfl (Ab rfl (AL rfl rfl (by omega) (by omega) (Am rfl (Qr rfl (BQ rfl rfl (Aa (Ax rfl (by omega) (Ac (Ad (Am rfl (Ab rfl ?_)))))))))))))))))
    refine CQ (l:=0) (h:=i) (m:=vc) rfl (I4 rfl rfl (by omega)) (fun o2 ho2=>?_)
    obtain rfl:o2=0:=by rw [ho2 (by omega)]
    (refine Ab rfl (Ab rfl (AL rfl rfl (by omega) (by omega) (Ab rfl (CU rfl rfl (by omega) (by omega) ?_)))))
    refine YC (m:=xs.length+1 - i) (Cj:=cs.take i) rfl rfl (by omega) (by omega) (by omega) (by omega) (by rw [Acw];omega) (fun j w hw=>?_) (fun b2 T2 c' h8 h9=>?_)
    ·rw [Aek] at hw
     by_cases q:j<i
     ·rw [if_pos q,←hl7 j (by omega)] at hw
      exact Aj 1 rfl (by rw [Aeg];exact hw)
     ·rw [if_neg q] at hw;cases hw
    rw [show i - 0+(xs.length+1 - i)=xs.length+1 by omega] at h8⊢
    have hl2:(cs.take i++Bl [.slice none 0 0] (c' - (i - 0))).length=c':=by rw [Acl,Acw];simp [Bl];omega
    obtain⟨l2,hl2e⟩:∃l2,l2=cs.take i++Bl [.slice none 0 0] (c' - (i - 0)):=⟨_,rfl⟩
    have hl2t:∀j,j<i→l2[j]?=cs[j]?:=fun j hj=>by
     rw [hl2e,Aed (by rw [Acw];omega),Aek,if_pos hj]
    rw [←hl2e] at hl2⊢
    (refine Am rfl (Aa (Ac (Ad (Am rfl (Ab rfl ?_))))))
    refine CQ (l:=i) (h:=xs.length+1) (m:=c') rfl (CN rfl rfl (by omega)) (fun o3 ho3=>?_)
    obtain rfl:o3=0+i:=ho3 (by omega)
    (apply Am;rfl)
    refine GX 0 (news:=[u]) rfl rfl rfl (by simp;omega) (by simpa using hC _ _ _ hy) (fun j w hw=>?_) (by simp;omega) ?_
    ·obtain rfl:j=0:=by
      have:=(Acp.1 hw).1
      simpa using this
     exact Aj 1 rfl hw
    (refine Aa (Ac ?_))
    refine Bs [] [bx b2 T2 (patch l2 (0+i) [u]),bx b T [u],bx b1 T1 l] rfl ?_
    (refine Am rfl (Ab rfl (Ab rfl (AL rfl rfl (by omega) (by omega) ?_))))
    refine CQ (l:=i+1) (h:=xs.length+1) (m:=c') rfl (CN rfl rfl (by omega)) (fun o4 ho4=>?_)
    obtain rfl:o4=0+(i+1):=ho4 (by omega)
    (refine Am rfl (Ab rfl ?_))
    refine CQ (l:=i) (h:=xs.length) (m:=vc) rfl (CN rfl rfl (by omega)) (fun o5 ho5=>?_)
    obtain rfl:o5=0+i:=ho5 (by omega)
    skip
    refine GX 0 (news:=cs.drop i) rfl rfl rfl (by rw [Acn];omega) (GB hcu) (fun j w hw=>?_) (by rw [Bq (by simp;omega),Acn];omega) ?_
    ·rw [Aeb] at hw
     have:=(Acp.1 hw).1
     exact Aj 2 rfl (by rw [Aeg,hl7 _ (by omega)];exact hw)
    (refine Aa (Ac (Ad (Am rfl (Am rfl (Aa (An ?_)))))))
    refine EB [.slice (some ⟨b2,0,none⟩) (xs.length+1) c'] ⟨rfl,trivial⟩ (L':=[bx b2 T2 (patch (patch l2 (0+i) [u]) (0+(i+1)) (cs.drop i))]) (Aep _ (Aej _)) ⟨rfl,_,rfl,Aq.ins hi hcl (BJ.ins hcl (by omega) hi h8 h9 ?_ ?_) h2 hy⟩
    ·rw [Bq (by rw [Bq (by simp;omega),Acn];omega),Bq (by simp;omega)];omega
    ·exact Q5 hcl (by omega) (by omega) hl2t
   ·have hlne:l≠[]:=by intro q;rw [q] at h6;simp at h6;omega
    (refine Ar rfl (by omega) (Ak (Ac (Ac (Ad (Ab rfl (Ab rfl (AL rfl rfl (by omega) (by omega) (Am rfl (Qr rfl (BQ rfl rfl (Aa (Ar rfl (by omega) (Ak (Ac (Ad (Am rfl (Ab rfl (Ab rfl (AL rfl rfl (by omega) (by omega) ?_))))))))))))))))))))
    refine CQ (l:=0) (h:=xs.length+1) (m:=vc) rfl (I4 rfl (by omega) (by omega)) (fun o2 ho2=>?_)
    obtain rfl:o2=0:=by rw [ho2 (by omega)]
    (refine Am rfl (Aa (Ac (Ac (Ad (Am rfl (Am rfl (Ab rfl (Ab rfl (AL rfl rfl (by omega) (by omega) ?_))))))))))
    refine CQ (l:=i+1) (h:=xs.length+1 - 0) (m:=vc - 0) rfl (CN rfl (by omega) (by omega)) (fun o3 ho3=>?_)
    skip
    refine YV 0 1 rfl rfl (by decide) rfl rfl hlne ?_
    (refine Bt rfl (Aa (Bf rfl (Ac ?_))))
    refine Bs [] [bx b T [u],bx b1 T1 l] rfl ?_
    (refine Am rfl (Ab rfl (Ab rfl (AL rfl rfl (by omega) (by omega) ?_))))
    refine CQ (l:=i+1) (h:=xs.length+1 - 0) (m:=vc - 0) rfl (CN rfl (by omega) (by omega)) (fun o4 ho4=>?_)
    obtain rfl:o4=0+(i+1):=ho4 (by omega)
    (refine Am rfl (Ab rfl ?_))
    refine CQ (l:=i) (h:=xs.length+1 - 0) (m:=vc - 0) rfl (CN rfl (by omega) (by omega)) (fun o5 ho5=>?_)
    obtain rfl:o5=0+i:=ho5 (by omega)
    skip
    refine GX 1 (news:=cs.drop i) rfl rfl rfl (by rw [Acn];omega) (GB hcu) (fun j w hw=>?_) (by rw [Acn];omega) ?_
    ·rw [Aeb] at hw
     have:=(Acp.1 hw).1
     exact Aj 1 rfl (by rw [Aeg,hl7 _ (by omega)];exact hw)
    (refine Aa (Ac (Ad (Am rfl (Ab rfl ?_)))))
    refine CQ (l:=i) (h:=xs.length+1 - 0) (m:=vc - 0) rfl (CN rfl (by omega) (by omega)) (fun o6 ho6=>?_)
    obtain rfl:o6=0+i:=ho6 (by omega)
    (apply Am;rfl)
    refine GX 1 (news:=[u]) rfl rfl rfl (by simp;omega) (by simpa using hC _ _ _ hy) (fun j w hw=>?_) (by rw [Bq (by rw [Acn];omega)];simp;omega) ?_
    ·obtain rfl:j=0:=by
      have:=(Acp.1 hw).1
      simpa using this
     exact Aj 0 rfl hw
    (refine Aa (Ac (Ad (Am rfl (Am rfl (Aa (An ?_)))))))
    refine EB [.slice (some ⟨b1,0,none⟩) (xs.length+1 - 0) (vc - 0)] ⟨rfl,trivial⟩ (L':=[bx b1 T1 (patch (patch l (0+(i+1)) (cs.drop i)) (0+i) [u])]) (List.Sublist.cons _ (Acb _)) ⟨rfl,_,rfl,Aq.ins hi hcl (BJ.ins hcl (by omega) hi (by omega) (by omega) ?_ ?_) h2 hy⟩
    ·rw [Bq (by rw [Bq (by rw [Acn];omega)];simp;omega),Bq (by rw [Acn];omega)];omega
    ·exact QV hcl (by omega) (by omega) hl7
def H2(a0:Nat):AX:=⟨95,[(.tmp 6)],(.seq (rG (o1 6 (.mv (.const (.slice none 0 0))) .done)) (.seq (rG (om 10 0 (om 11 1 (o1 12 (.sl 1 (tP 10) (some (tP 11)) none none) .done)))) (.seq (rG (om 13 2 (oL 14 13 (om 7 14 .done)))) (.seq (.seq (rG (om 15 7 (ob 16 .eql (tP 15) (kZ 0) .done))) (.cond (tP 16) (.seq (rG (om 17 0 (om 6 17 .done))) .ret) .skip)) (.seq (rG (om 18 0 (oL 19 18 (om 8 19 .done)))) (.seq (.seq (rG (om 20 1 (om 21 8 (ob 22 .eql (tP 20) (tP 21) .done)))) (.cond (tP 22) (.seq (rG (om 23 0 (om 24 2 (o1 25 (.app 1 8 [(.int .i64 0)] (tP 23) (tP 24)) (om 6 25 .done))))) .ret) .skip)) (.seq (.seq (rG (om 26 8 (om 27 7 (ob 28 .add (tP 26) (tP 27) (om 29 0 (o1 30 (.cap (tP 29)) (ob 31 .gtr (tP 28) (tP 30) .done))))))) (.cond (tP 31) (.seq (rG (om 32 0 (om 33 1 (o1 34 (.sl 1 (tP 32) none (some (tP 33)) none) (om 35 8 (om 36 7 (ob 37 .add (tP 35) (tP 36) (om 38 1 (ob 39 .sub (tP 37) (tP 38) (o1 40 (.mop (.zap 1 8 [(.int .i64 0)] (tP 34) (tP 39))) (om 9 40 .done))))))))))) (.seq (rG (om 41 9 (om 42 1 (o1 43 (.sl 1 (tP 41) (some (tP 42)) none none) (om 44 2 (o1 45 (.mop (.cpy 1 (tP 43) (tP 44))) .done)))))) (.seq (.reg true (pm 46 9 (pm 47 1 (pm 48 7 (p1 49 (.bin .add (tP 47) (tP 48)) (p1 50 (.sl 1 (tP 46) (some (tP 49)) none none) (pm 51 0 (pm 52 1 (p1 53 (.sl 1 (tP 51) (some (tP 52)) none none) (o1 54 (.mop (.cpy 1 (tP 50) (tP 53))) .done)))))))))) (.seq (rG (om 55 9 (om 6 55 .done))) .ret)))) .skip)) (.seq (rG (om 56 0 (om 57 8 (om 58 7 (ob 59 .add (tP 57) (tP 58) (o1 60 (.sl 1 (tP 56) none (some (tP 59)) none) (om 0 60 .done))))))) (.seq (.seq (rG (om 61 2 (om 62 0 (om 63 1 (om 64 7 (ob 65 .add (tP 63) (tP 64) (o1 66 (.sl 1 (tP 62) (some (tP 65)) none none) (o1 67 (.mop (.ovl (tP 61) (tP 66))) (o1 68 (.un .not (tP 67)) .done))))))))) (.cond (tP 68) (.seq (.reg true (pm 69 0 (pm 70 1 (pm 71 7 (p1 72 (.bin .add (tP 70) (tP 71)) (p1 73 (.sl 1 (tP 69) (some (tP 72)) none none) (pm 74 0 (pm 75 1 (p1 76 (.sl 1 (tP 74) (some (tP 75)) none none) (o1 77 (.mop (.cpy 1 (tP 73) (tP 76))) .done)))))))))) (.seq (rG (om 78 0 (om 79 1 (o1 80 (.sl 1 (tP 78) (some (tP 79)) none none) (om 81 2 (o1 82 (.mop (.cpy 1 (tP 80) (tP 81))) .done)))))) (.seq (rG (om 83 0 (om 6 83 .done))) .ret))) .skip)) (.seq (rG (om 84 0 (om 85 8 (o1 86 (.sl 1 (tP 84) (some (tP 85)) none none) (om 87 2 (o1 88 (.mop (.cpy 1 (tP 86) (tP 87))) .done)))))) (.seq (rG (om 89 0 (om 90 1 (o1 91 (.sl 1 (tP 89) (some (tP 90)) none none) (om 92 7 (oc 93 a0 [(tP 91),(tP 92)] .done)))))) (.seq (rG (om 94 0 (om 6 94 .done))) .ret))))))))))))⟩
theorem SK{P:Program}{f f1:FuncId} (hd:dec P f=some (H2 f1)):Jk Be P f:=by
 intro d v xs h i b T u y ho hi hxl hy hC
 refine AE hd (Aca rfl) ?_
 have ho':=ho
 rw [Aq.one] at ho'
 obtain⟨cs,h1,h2⟩:=ho'
 have hcl:cs.length=xs.length:=by have:=h1.1;omega
 obtain⟨va,vc,rfl⟩:=ho.val
 show gwp P _ _ _ _ _
 obtain⟨-,h3,⟨hn1,hn2,rfl⟩|⟨b1,T1,l,c,hn1,rfl,h4,h5,h6,h7⟩⟩:=h1
 ·simp only [Value.slice.injEq] at hn1
  obtain⟨rfl, -,rfl⟩:=hn1
  obtain rfl:=Acm hn2
  obtain rfl:i=0:=by simpa using hi
  (refine Ac (Ad (Am rfl (Aa (Ac (Ad (Am rfl (Ab rfl ?_))))))))
  refine w_q rfl (v:=.slice none 0 0) ⟨none,0,0,0,0,0,rfl,fun q=>absurd rfl q,rfl,rfl⟩ ?_
  (refine Aa (Ac (Ad (Am rfl (AK rfl (Ab rfl (Aa (Ac (Ac (Ad (Ab rfl (AO rfl rfl (Aa (Ar rfl (by omega) (Ak (Ac (Ad (Am rfl (AK rfl (Ab rfl (Aa (Ac (Ac (Ad (Ab rfl (Ab rfl (AO rfl rfl (Aa (Ax rfl (by omega) (Ac (Ad (Am rfl (Am rfl ?_)))))))))))))))))))))))))))))))))
  refine D6 (R:=Be) 0 rfl rfl ho rfl (Aq.En (x:=y) rfl hy) hC (by omega) (by simp) (by simp) (fun v' h' ho'=>?_)
  (refine AI (Aa (An ?_)))
  exact EB [v'] ⟨rfl,trivial⟩ (Acb _) ⟨rfl,h',rfl,ho'⟩
 ·cases hn1
  have hcu:(cs.all (·.oneCell'))=true:=by
   rw [Acq]
   intro x hx
   obtain⟨j,hj,rfl⟩:=Aeh hx
   have:=hC _ _ _ (h2 j (by omega) _ (Ace hj))
   simpa using this
  have hl7:∀j,j<xs.length→l[j]?=cs[j]?:=fun j hj=>by
   rw [←h7,Aek,if_pos (by omega)]
  (refine Ac (Ad (Am rfl (Aa (Ac (Ad (Am rfl (Ab rfl ?_))))))))
  refine CQ (l:=i) (h:=xs.length) (m:=vc) rfl (CN rfl rfl hi) (fun o1 _=>?_)
  (refine Aa (Ac (Ad (Am rfl (AK rfl (Ab rfl (Aa (Ac (Ac (Ad (Ab rfl (AO rfl rfl (Aa (Ar rfl (by omega) (Ak (Ac (Ad (Am rfl (AK rfl (Ab rfl (Aa (Ac (Ac (Ad (Ab rfl (Ab rfl (AO rfl rfl (Aa ?_))))))))))))))))))))))))))))
  by_cases e:i=xs.length
  ·subst e
   (refine Ax rfl (by omega) (Ac (Ad (Am rfl (Am rfl ?_)))))
   refine D6 (R:=Be) 0 rfl rfl ho rfl (Aq.En (x:=y) rfl hy) hC (by omega) (by simp;omega) (by simp;omega) (fun v' h' ho'=>?_)
   (refine AI (Aa (An ?_)))
   exact EB [v'] ⟨rfl,trivial⟩ (Acb _) ⟨rfl,h',rfl,by rw [BX,Aef,Afv];exact ho'⟩
  ·by_cases hc:vc<xs.length+1
   ·(refine Ar rfl (by omega) (Ak (Ac (Ac (Ad (Ab rfl (Ab rfl (AL rfl rfl (by omega) (by omega) (Am rfl (Qr rfl (BQ rfl rfl (Aa (Ax rfl (by omega) (Ac (Ad (Am rfl (Ab rfl ?_)))))))))))))))))
    refine CQ (l:=0) (h:=i) (m:=vc) rfl (I4 rfl rfl (by omega)) (fun o2 ho2=>?_)
    obtain rfl:o2=0:=by rw [ho2 (by omega)]
    (refine Ab rfl (Ab rfl (AL rfl rfl (by omega) (by omega) (Ab rfl (CU rfl rfl (by omega) (by omega) ?_)))))
    refine YC (m:=xs.length+1 - i) (Cj:=cs.take i) rfl rfl (by omega) (by omega) (by omega) (by omega) (by rw [Acw];omega) (fun j w hw=>?_) (fun b2 T2 c' h8 h9=>?_)
    ·rw [Aek] at hw
     by_cases q:j<i
     ·rw [if_pos q,←hl7 j (by omega)] at hw
      exact Aj 1 rfl (by rw [Aeg];exact hw)
     ·rw [if_neg q] at hw;cases hw
    rw [show i - 0+(xs.length+1 - i)=xs.length+1 by omega] at h8⊢
    have hl2:(cs.take i++Bl [.int .i64 0] (c' - (i - 0))).length=c':=by rw [Acl,Acw];simp [Bl];omega
    obtain⟨l2,hl2e⟩:∃l2,l2=cs.take i++Bl [.int .i64 0] (c' - (i - 0)):=⟨_,rfl⟩
    have hl2t:∀j,j<i→l2[j]?=cs[j]?:=fun j hj=>by
     rw [hl2e,Aed (by rw [Acw];omega),Aek,if_pos hj]
    rw [←hl2e] at hl2⊢
    (refine Am rfl (Aa (Ac (Ad (Am rfl (Ab rfl ?_))))))
    refine CQ (l:=i) (h:=xs.length+1) (m:=c') rfl (CN rfl rfl (by omega)) (fun o3 ho3=>?_)
    obtain rfl:o3=0+i:=ho3 (by omega)
    (apply Am;rfl)
    refine GX 0 (news:=[u]) rfl rfl rfl (by simp;omega) (by simpa using hC _ _ _ hy) (fun j w hw=>?_) (by simp;omega) ?_
    ·obtain rfl:j=0:=by
      have:=(Acp.1 hw).1
      simpa using this
     exact Aj 1 rfl hw
    (refine Aa (Ac ?_))
    refine Bs [] [bx b2 T2 (patch l2 (0+i) [u]),bx b T [u],bx b1 T1 l] rfl ?_
    (refine Am rfl (Ab rfl (Ab rfl (AL rfl rfl (by omega) (by omega) ?_))))
    refine CQ (l:=i+1) (h:=xs.length+1) (m:=c') rfl (CN rfl rfl (by omega)) (fun o4 ho4=>?_)
    obtain rfl:o4=0+(i+1):=ho4 (by omega)
    (refine Am rfl (Ab rfl ?_))
    refine CQ (l:=i) (h:=xs.length) (m:=vc) rfl (CN rfl rfl (by omega)) (fun o5 ho5=>?_)
    obtain rfl:o5=0+i:=ho5 (by omega)
    skip
    refine GX 0 (news:=cs.drop i) rfl rfl rfl (by rw [Acn];omega) (GB hcu) (fun j w hw=>?_) (by rw [Bq (by simp;omega),Acn];omega) ?_
    ·rw [Aeb] at hw
     have:=(Acp.1 hw).1
     exact Aj 2 rfl (by rw [Aeg,hl7 _ (by omega)];exact hw)
    (refine Aa (Ac (Ad (Am rfl (Am rfl (Aa (An ?_)))))))
    refine EB [.slice (some ⟨b2,0,none⟩) (xs.length+1) c'] ⟨rfl,trivial⟩ (L':=[bx b2 T2 (patch (patch l2 (0+i) [u]) (0+(i+1)) (cs.drop i))]) (Aep _ (Aej _)) ⟨rfl,_,rfl,Aq.ins hi hcl (BJ.ins hcl (by omega) hi h8 h9 ?_ ?_) h2 hy⟩
    ·rw [Bq (by rw [Bq (by simp;omega),Acn];omega),Bq (by simp;omega)];omega
    ·exact Q5 hcl (by omega) (by omega) hl2t
   ·have hlne:l≠[]:=by intro q;rw [q] at h6;simp at h6;omega
    (refine Ar rfl (by omega) (Ak (Ac (Ac (Ad (Ab rfl (Ab rfl (AL rfl rfl (by omega) (by omega) (Am rfl (Qr rfl (BQ rfl rfl (Aa (Ar rfl (by omega) (Ak (Ac (Ad (Am rfl (Ab rfl (Ab rfl (AL rfl rfl (by omega) (by omega) ?_))))))))))))))))))))
    refine CQ (l:=0) (h:=xs.length+1) (m:=vc) rfl (I4 rfl (by omega) (by omega)) (fun o2 ho2=>?_)
    obtain rfl:o2=0:=by rw [ho2 (by omega)]
    (refine Am rfl (Aa (Ac (Ac (Ad (Am rfl (Am rfl (Ab rfl (Ab rfl (AL rfl rfl (by omega) (by omega) ?_))))))))))
    refine CQ (l:=i+1) (h:=xs.length+1 - 0) (m:=vc - 0) rfl (CN rfl (by omega) (by omega)) (fun o3 ho3=>?_)
    skip
    refine YV 0 1 rfl rfl (by decide) rfl rfl hlne ?_
    (refine Bt rfl (Aa (Bf rfl (Ac ?_))))
    refine Bs [] [bx b T [u],bx b1 T1 l] rfl ?_
    (refine Am rfl (Ab rfl (Ab rfl (AL rfl rfl (by omega) (by omega) ?_))))
    refine CQ (l:=i+1) (h:=xs.length+1 - 0) (m:=vc - 0) rfl (CN rfl (by omega) (by omega)) (fun o4 ho4=>?_)
    obtain rfl:o4=0+(i+1):=ho4 (by omega)
    (refine Am rfl (Ab rfl ?_))
    refine CQ (l:=i) (h:=xs.length+1 - 0) (m:=vc - 0) rfl (CN rfl (by omega) (by omega)) (fun o5 ho5=>?_)
    obtain rfl:o5=0+i:=ho5 (by omega)
    skip
    refine GX 1 (news:=cs.drop i) rfl rfl rfl (by rw [Acn];omega) (GB hcu) (fun j w hw=>?_) (by rw [Acn];omega) ?_
    ·rw [Aeb] at hw
     have:=(Acp.1 hw).1
     exact Aj 1 rfl (by rw [Aeg,hl7 _ (by omega)];exact hw)
    (refine Aa (Ac (Ad (Am rfl (Ab rfl ?_)))))
    refine CQ (l:=i) (h:=xs.length+1 - 0) (m:=vc - 0) rfl (CN rfl (by omega) (by omega)) (fun o6 ho6=>?_)
    obtain rfl:o6=0+i:=ho6 (by omega)
    (apply Am;rfl)
    refine GX 1 (news:=[u]) rfl rfl rfl (by simp;omega) (by simpa using hC _ _ _ hy) (fun j w hw=>?_) (by rw [Bq (by rw [Acn];omega)];simp;omega) ?_
    ·obtain rfl:j=0:=by
      have:=(Acp.1 hw).1
      simpa using this
     exact Aj 0 rfl hw
    (refine Aa (Ac (Ad (Am rfl (Am rfl (Aa (An ?_)))))))
    refine EB [.slice (some ⟨b1,0,none⟩) (xs.length+1 - 0) (vc - 0)] ⟨rfl,trivial⟩ (L':=[bx b1 T1 (patch (patch l (0+(i+1)) (cs.drop i)) (0+i) [u])]) (List.Sublist.cons _ (Acb _)) ⟨rfl,_,rfl,Aq.ins hi hcl (BJ.ins hcl (by omega) hi (by omega) (by omega) ?_ ?_) h2 hy⟩
    ·rw [Bq (by rw [Bq (by rw [Acn];omega)];simp;omega),Bq (by rw [Acn];omega)];omega
    ·exact QV hcl (by omega) (by omega) hl7
def Jn{α:Type} (R:Ae→List Value→α→Prop) (P:Program) (f:FuncId):Prop:=∀{d:Ae}{v:Value}{xs:List α}{h:Ae}{i:Nat}{j:Int},Aq 1 R d v xs h→i<xs.length→j=((i+1:Nat):Int)→xs.length≤1000000000000→Fx R→
 Aw P f [v,.int .i64 i,.int .i64 j] d [h] (Ret fun r d' L'=>d'=d∧∃h',L'=[h']∧Aq 1 R d r (xs.eraseIdx i) h')
theorem Aq.del{α:Type}{R:Ae→List Value→α→Prop}{d:Ae}{xs:List α}{cs l:List Value}{b c:Nat}{T:TypeId}{i:Nat} (hi:i<xs.length) (hcl:cs.length=xs.length) (hn:xs.length≤140737488355328) (h3:xs.length≤c) (h4:c≤9223372036854775807) (h5:c≤l.length)
  (h6:∀j,j<xs.length - 1→l[j]?=(cs.eraseIdx i)[j]?) (h2:∀i (hi:i<xs.length) u,cs[i]?=some u→R d [u] xs[i]):Aq 1 R d (.slice (some ⟨b,0,none⟩) (xs.length - 1) c) (xs.eraseIdx i) (bx b T l):=by
 have hel:(xs.eraseIdx i).length=xs.length - 1:=by rw [List.length_eraseIdx,if_pos hi]
 have hcl':(cs.eraseIdx i).length=xs.length - 1:=by rw [List.length_eraseIdx,if_pos (by omega),hcl]
 have ho:BJ 1 (.slice (some ⟨b,0,none⟩) (xs.length - 1) c) (xs.length - 1) (cs.eraseIdx i) (bx b T l):=by
  refine BJ.mk (by rw [hcl'];omega) (by omega) (by omega) h4 (by omega) ?_
  apply Afg
  intro j
  rw [hcl',Aek]
  by_cases hj:j<xs.length - 1
  ·rw [if_pos hj,h6 j hj]
  ·rw [if_neg hj,Adq (by omega)]
 rw [Aq.one]
 refine⟨cs.eraseIdx i,by rw [hel];exact ho,fun j hj u hu=>?_⟩
 ·have hx:(xs.eraseIdx i)[j]?=some (xs.eraseIdx i)[j]:=Ace (by omega)
  rw [List.getElem?_eraseIdx] at hu hx
  by_cases q:j<i
  ·rw [if_pos q] at hu hx
   rw [Ace (by omega)] at hx
   rw [←Option.some.inj hx];exact h2 j (by omega) u hu
  ·rw [if_neg q] at hu hx
   rw [Ace (by omega)] at hx
   rw [←Option.some.inj hx];exact h2 (j+1) (by omega) u hu
theorem Sh{cs l:List Value}{i n:Nat}{z:List Value} (hc:cs.length=n) (hi:i<n) (hl:n≤l.length) (h:∀j,j<n→l[j]?=cs[j]?) (j:Nat) (hj:j<n - 1):(patch (patch l (0+i) (cs.drop (i+1))) (n - 1) (Bl z 1))[j]?=(cs.eraseIdx i)[j]?:=by
 have e1:(patch l (0+i) (cs.drop (i+1))).length=l.length:=Bq (by rw [Acn];omega)
 have e2:(Bl z 1).length=1:=by simp [Bl]
 rw [Cy (by rw [e1,e2];omega),if_neg (by omega),Cy (by rw [Acn];omega),Acn,List.getElem?_eraseIdx]
 by_cases q:j<i
 ·rw [if_pos q,if_neg (by omega),h j (by omega)]
 ·rw [if_neg q,if_pos (by omega),Aeb]
  congr 1;omega
def Hi:AX:=⟨33,[(.tmp 6)],(.seq (rG (o1 6 (.mv (.const (.slice none 0 0))) .done)) (.seq (rG (om 8 0 (om 9 1 (om 10 2 (om 11 0 (oL 12 11 (o1 13 (.sl 1 (tP 8) (some (tP 9)) (some (tP 10)) (some (tP 12))) .done))))))) (.seq (.seq (rG (om 14 1 (om 15 2 (ob 16 .eql (tP 14) (tP 15) .done)))) (.cond (tP 16) (.seq (rG (om 17 0 (om 6 17 .done))) .ret) .skip)) (.seq (rG (om 18 0 (oL 19 18 (om 7 19 .done)))) (.seq (.reg true (pm 20 0 (pm 21 1 (p1 22 (.sl 1 (tP 20) none (some (tP 21)) none) (pm 23 0 (pm 24 2 (p1 25 (.sl 1 (tP 23) (some (tP 24)) none none) (o1 26 (.app 1 24 [(.slice none 0 0)] (tP 22) (tP 25)) (.bar (pm 0 26 .done)))))))))) (.seq (rG (om 27 0 (om 28 0 (oL 29 28 (om 30 7 (o1 31 (.sl 1 (tP 27) (some (tP 29)) (some (tP 30)) none) (o0 (.mop (.clz 1 [(.slice none 0 0)] (tP 31))) .done))))))) (.seq (rG (om 32 0 (om 6 32 .done))) .ret)))))))⟩
theorem Qh{P:Program}{f:FuncId} (hd:dec P f=some Hi):Jn RBs P f:=by
 intro d v xs h i jj ho hi hjj hxl hC
 refine AE hd (Aca rfl) ?_
 have ho':=ho
 rw [Aq.one] at ho'
 obtain⟨cs,h1,h2⟩:=ho'
 have hcl:cs.length=xs.length:=by have:=h1.1;omega
 obtain⟨va,vc,rfl⟩:=ho.val
 show gwp P _ _ _ _ _
 obtain⟨-,h3,⟨hn1,hn2,rfl⟩|⟨b1,T1,l,c,hn1,rfl,h4,h5,h6,h7⟩⟩:=h1
 ·omega
 ·cases hn1
  have hcu:(cs.all (·.oneCell'))=true:=by
   rw [Acq]
   intro x hx
   obtain⟨j,hj,rfl⟩:=Aeh hx
   have:=hC _ _ _ (h2 j (by omega) _ (Ace hj))
   simpa using this
  have hl7:∀j,j<xs.length→l[j]?=cs[j]?:=fun j hj=>by
   rw [←h7,Aek,if_pos (by omega)]
  (refine Ac (Ad (Am rfl (Aa (Ac (Ad (Am rfl (Ab rfl (Ab rfl (Am rfl (AK rfl ?_)))))))))))
  refine CQ (l:=i) (h:=i+1) (m:=xs.length) rfl (Ty rfl rfl rfl rfl hjj rfl (by omega) (by omega) (by omega)) (fun o1 _=>?_)
  (refine Aa (Ac (Ac (Ad (Ab rfl (Ab rfl (AO rfl rfl (Aa (Ar rfl (by omega) (Ak (Ac (Ad (Am rfl (AK rfl (Ab rfl (Aa (Ac ?_)))))))))))))))))
  refine Bs [] [bx b1 T1 l] rfl ?_
  (refine Am rfl (Ab rfl ?_))
  refine CQ (l:=0) (h:=i) (m:=vc) rfl (I4 rfl rfl (by omega)) (fun o2 ho2=>?_)
  obtain rfl:o2=0:=by rw [ho2 (by omega)]
  (refine Am rfl (Ab rfl ?_))
  refine CQ (l:=i+1) (h:=xs.length) (m:=vc) rfl (CN rfl hjj (by omega)) (fun o3 ho3=>?_)
  skip
  refine Wh 0 (news:=cs.drop (i+1)) rfl rfl rfl (by rw [Acn,hcl]) (GB hcu) (fun j w hw=>?_) (by omega) (by omega) (by omega) ?_
  ·rw [Aeb] at hw
   have:=(Acp.1 hw).1
   obtain rfl:o3=0+(i+1):=ho3 (by omega)
   exact Aj 0 rfl (by rw [Aeg,hl7 _ (by omega)];exact hw)
  rw [show i - 0+(xs.length - (i+1))=xs.length - 1 by omega,show 0+(i - 0)=0+i by omega]
  (refine B1 (Am rfl (Aa (Ac (Ad (Am rfl (Am rfl (AK rfl (Ab rfl ?_)))))))))
  refine CQ (l:=xs.length - 1) (h:=xs.length) (m:=vc - 0) rfl (S2 rfl rfl rfl rfl (by omega) (by omega)) (fun o4 ho4=>?_)
  obtain rfl:o4=0+(xs.length - 1):=ho4 (by omega)
  rw [show xs.length - (xs.length - 1)=1 by omega]
  refine YJ rfl (.inr ⟨0,b1,_,T1,_,rfl,rfl,by rw [Bq (by rw [Acn];omega)];omega,?_⟩)
  (refine Aa (Ac (Ad (Am rfl (Am rfl (Aa (An ?_)))))))
  refine EB [.slice (some ⟨b1,0,none⟩) (xs.length - 1) (vc - 0)] ⟨rfl,trivial⟩ (Acb _) ⟨rfl,_,rfl,Aq.del hi hcl h3 (by omega) (by omega) ?_ ?_ h2⟩
  ·rw [Bq (by rw [Bq (by rw [Acn];omega)];simp [Bl];omega),Bq (by rw [Acn];omega)];omega
  ·rw [show 0+(xs.length - 1)=xs.length - 1 by omega]
   exact Sh hcl hi (by omega) hl7
def H3:AX:=⟨33,[(.tmp 6)],(.seq (rG (o1 6 (.mv (.const (.slice none 0 0))) .done)) (.seq (rG (om 8 0 (om 9 1 (om 10 2 (om 11 0 (oL 12 11 (o1 13 (.sl 1 (tP 8) (some (tP 9)) (some (tP 10)) (some (tP 12))) .done))))))) (.seq (.seq (rG (om 14 1 (om 15 2 (ob 16 .eql (tP 14) (tP 15) .done)))) (.cond (tP 16) (.seq (rG (om 17 0 (om 6 17 .done))) .ret) .skip)) (.seq (rG (om 18 0 (oL 19 18 (om 7 19 .done)))) (.seq (.reg true (pm 20 0 (pm 21 1 (p1 22 (.sl 1 (tP 20) none (some (tP 21)) none) (pm 23 0 (pm 24 2 (p1 25 (.sl 1 (tP 23) (some (tP 24)) none none) (o1 26 (.app 1 8 [(.int .i64 0)] (tP 22) (tP 25)) (.bar (pm 0 26 .done)))))))))) (.seq (rG (om 27 0 (om 28 0 (oL 29 28 (om 30 7 (o1 31 (.sl 1 (tP 27) (some (tP 29)) (some (tP 30)) none) (o0 (.mop (.clz 1 [(.int .i64 0)] (tP 31))) .done))))))) (.seq (rG (om 32 0 (om 6 32 .done))) .ret)))))))⟩
theorem Sy{P:Program}{f:FuncId} (hd:dec P f=some H3):Jn Be P f:=by
 intro d v xs h i jj ho hi hjj hxl hC
 refine AE hd (Aca rfl) ?_
 have ho':=ho
 rw [Aq.one] at ho'
 obtain⟨cs,h1,h2⟩:=ho'
 have hcl:cs.length=xs.length:=by have:=h1.1;omega
 obtain⟨va,vc,rfl⟩:=ho.val
 show gwp P _ _ _ _ _
 obtain⟨-,h3,⟨hn1,hn2,rfl⟩|⟨b1,T1,l,c,hn1,rfl,h4,h5,h6,h7⟩⟩:=h1
 ·omega
 ·cases hn1
  have hcu:(cs.all (·.oneCell'))=true:=by
   rw [Acq]
   intro x hx
   obtain⟨j,hj,rfl⟩:=Aeh hx
   have:=hC _ _ _ (h2 j (by omega) _ (Ace hj))
   simpa using this
  have hl7:∀j,j<xs.length→l[j]?=cs[j]?:=fun j hj=>by
   rw [←h7,Aek,if_pos (by omega)]
  (refine Ac (Ad (Am rfl (Aa (Ac (Ad (Am rfl (Ab rfl (Ab rfl (Am rfl (AK rfl ?_)))))))))))
  refine CQ (l:=i) (h:=i+1) (m:=xs.length) rfl (Ty rfl rfl rfl rfl hjj rfl (by omega) (by omega) (by omega)) (fun o1 _=>?_)
  (refine Aa (Ac (Ac (Ad (Ab rfl (Ab rfl (AO rfl rfl (Aa (Ar rfl (by omega) (Ak (Ac (Ad (Am rfl (AK rfl (Ab rfl (Aa (Ac ?_)))))))))))))))))
  refine Bs [] [bx b1 T1 l] rfl ?_
  (refine Am rfl (Ab rfl ?_))
  refine CQ (l:=0) (h:=i) (m:=vc) rfl (I4 rfl rfl (by omega)) (fun o2 ho2=>?_)
  obtain rfl:o2=0:=by rw [ho2 (by omega)]
  (refine Am rfl (Ab rfl ?_))
  refine CQ (l:=i+1) (h:=xs.length) (m:=vc) rfl (CN rfl hjj (by omega)) (fun o3 ho3=>?_)
  skip
  refine Wh 0 (news:=cs.drop (i+1)) rfl rfl rfl (by rw [Acn,hcl]) (GB hcu) (fun j w hw=>?_) (by omega) (by omega) (by omega) ?_
  ·rw [Aeb] at hw
   have:=(Acp.1 hw).1
   obtain rfl:o3=0+(i+1):=ho3 (by omega)
   exact Aj 0 rfl (by rw [Aeg,hl7 _ (by omega)];exact hw)
  rw [show i - 0+(xs.length - (i+1))=xs.length - 1 by omega,show 0+(i - 0)=0+i by omega]
  (refine B1 (Am rfl (Aa (Ac (Ad (Am rfl (Am rfl (AK rfl (Ab rfl ?_)))))))))
  refine CQ (l:=xs.length - 1) (h:=xs.length) (m:=vc - 0) rfl (S2 rfl rfl rfl rfl (by omega) (by omega)) (fun o4 ho4=>?_)
  obtain rfl:o4=0+(xs.length - 1):=ho4 (by omega)
  rw [show xs.length - (xs.length - 1)=1 by omega]
  refine YJ rfl (.inr ⟨0,b1,_,T1,_,rfl,rfl,by rw [Bq (by rw [Acn];omega)];omega,?_⟩)
  (refine Aa (Ac (Ad (Am rfl (Am rfl (Aa (An ?_)))))))
  refine EB [.slice (some ⟨b1,0,none⟩) (xs.length - 1) (vc - 0)] ⟨rfl,trivial⟩ (Acb _) ⟨rfl,_,rfl,Aq.del hi hcl h3 (by omega) (by omega) ?_ ?_ h2⟩
  ·rw [Bq (by rw [Bq (by rw [Acn];omega)];simp [Bl];omega),Bq (by rw [Acn];omega)];omega
  ·rw [show 0+(xs.length - 1)=xs.length - 1 by omega]
   exact Sh hcl hi (by omega) hl7
end Go.Gk
end
section
namespace Go.Gk
theorem Vs.app{d d':Ae}{L L':List Ae} (h:Vs d L d' L') (M:List Ae):Vs d (L++M) d' (L'++M):=
 ⟨h.1,fun F W x=>by rw [Acg] at x⊢;exact h.2 (M++F) W x⟩
section
variable {P:Program}{pan:List PanicEntry→AQ}{Qn:Env→AQ}{Ls L:List Ae}{ρ:Env}{d:Ae}{s:GS}{t:Nat}
theorem Ba{f:FuncId}{args:List Operand}{R:Value→Ae→List Ae→Prop}{vs:List Value}{A:List Ae} (l:List Ae) (hc:Aw P f vs d A (Ret R)) (hL:L=l++A) (ea:args.map (ev ρ)=vs)
  (h:∀v d' L',Le d d'→R v d' L'→gws P pan Qn s Ls (upd ρ t v) d' (l++L')):gws P pan Qn (.op false ⟨some t,none,.call f args⟩ s) Ls ρ d L:=by
 subst hL
 refine C3 hc Ack ea (fun v d' L' hl hr=>⟨d',l++L',Vs.perm Ack,h v d' L' hl hr⟩)
theorem Cv{f:FuncId}{args:List Operand}{vs:List Value}{v:Value}{A:List Ae} (l:List Ae) (hc:CR P f vs d A v) (hL:L=l++A) (ea:args.map (ev ρ)=vs) (h:gws P pan Qn s Ls (upd ρ t v) d L):
  gws P pan Qn (.op false ⟨some t,none,.call f args⟩ s) Ls ρ d L:=
 Ba l hc hL ea (fun r d' L' _ ⟨h1,h2,h3⟩=>by subst h1;subst h2;subst h3;rw [←hL];exact h)
end
end Go.Gk
namespace Go.Gk.Tre
open Go Go.Gk Go.Gk.Dev Go.Gk.Cch Go.Gk.Pgr Go.Gk.Chn Go.Gk.Node
def DH(d:Ae) (cs:List Value) (n:AA) (hk hv hi:Ae):Prop:=∃kv vv iv,cs=[.bool n.leaf,kv,vv,iv]∧Aq 1 RBs d kv n.keys hk∧Aq 1 RBs d vv n.vals hv∧Aq 1 Be d iv n.kids hi
theorem DH.mono{d d':Ae}{cs:List Value}{n:AA}{hk hv hi:Ae} (h:DH d cs n hk hv hi) (hl:Le d d'):DH d' cs n hk hv hi:=
 let ⟨kv,vv,iv,e,a,b,c⟩:=h;⟨kv,vv,iv,e,a.D7 hl,b.D7 hl,c.Ie hl⟩
theorem DH.zero{d:Ae}:DH d [.bool false,.slice none 0 0,.slice none 0 0,.slice none 0 0] JR emp emp emp:=⟨_,_,_,rfl,Aq.nil,Aq.nil,Aq.nil⟩
theorem DH.Ij{d d1:Ae}{cs:List Value}{n:AA}{hk hv hi:Ae} (o:DH d cs n hk hv hi) (hl:Le d d1) (h1:Le hk d1) (h2:Le hv d1) (h3:Le hi d1):Cx d1 cs n:=by
 obtain⟨kv,vv,iv,rfl,a,b,c⟩:=o
 exact⟨kv,vv,iv,rfl,a.rsl EM (by omega) hl h1,b.rsl EM (by omega) hl h2,c.rsl B4 (by omega) hl h3⟩
theorem OB.grow{d d1:Ae}{v:Value}{xs:List (List UInt8)}{us:List Value}{h0:Ae}{hs:List Ae} (h1:BJ 1 v xs.length us h0) (h2:∀i (hi:i<xs.length),∃u g,us[i]?=some u∧hs[i]?=some g∧Aq 1 AM d u xs[i] g) (hl:Le d d1) (hL:∀h∈hs,Le h d1):Aq 1 RBs d1 v xs h0:=by
 rw [Aq.one]
 refine⟨us,h1,fun i hi u hu=>?_⟩
 obtain⟨u',g,k1,k2,k3⟩:=h2 i hi
 rw [hu] at k1;cases k1
 exact⟨u,rfl,k3.rsl AW (by omega) hl (hL _ (Aew k2))⟩
theorem DG.AaZ{d:Ae}{cs:List Value}{n:AA}{L:List Ae} (o:DG d cs n L):∃d' hk hv hi,Vs d L d' [hk,hv,hi]∧Le d d'∧DH d' cs n hk hv hi:=by
 obtain⟨kv,vv,iv,Lk,Lv,hi,rfl,⟨us,h0,hs,a1,a2,a3,rfl⟩,⟨us',h0',hs',b1,b2,b3,rfl⟩,c,rfl⟩:=o
 obtain⟨d',v1,v2,v3⟩:=Vs.HF d (hs++hs')
 refine⟨d',h0,h0',hi,?_,v2,kv,vv,iv,rfl,OB.grow a1 a3 v2 (fun h hm=>v3 h (Adh _ hm)),OB.grow b1 b3 v2 (fun h hm=>v3 h (Adk _ hm)),c.Ie v2⟩
 have p:(h0::hs++(h0'::hs')++[hi]).Perm ((hs++hs')++[h0,h0',hi]):=by
  have e1:(h0::hs++(h0'::hs')++[hi])=h0::(hs++h0'::(hs'++[hi])):=by simp
  rw [e1]
  refine List.Perm.trans (Aco h0 (Adj)) ?_
  have e2:(hs++hs')++[h0,h0',hi]=(hs++hs')++(h0::([h0']++[hi])):=rfl
  rw [e2]
  refine List.Perm.trans ?_ List.perm_middle.symm
  refine Aco h0 ?_
  rw [show(hs++hs')++([h0']++[hi])=(hs++hs')++(h0'::[hi]) from rfl]
  refine List.Perm.trans ?_ List.perm_middle.symm
  rw [Acg]
 exact(Vs.perm p).trans (v1.app [h0,h0',hi])
def PgT(d:Ae) (s:PD) (dv pv:Value) (L:List Ae):Prop:=∃tc,Pg d {s with tc:=tc} dv pv L
theorem PgT.mono{d d':Ae}{s:PD}{dv pv:Value}{L:List Ae} (h:PgT d s dv pv L) (hl:Le d d'):PgT d' s dv pv L:=let ⟨tc,h⟩:=h;⟨tc,h.mono hl⟩
theorem PgT.of{d:Ae}{s:PD}{dv pv:Value}{L:List Ae} (h:Pg d s dv pv L):PgT d s dv pv L:=⟨s.tc,h⟩
theorem PgT.ptr{d:Ae}{s:PD}{dv pv:Value}{L:List Ae} (h:PgT d s dv pv L):∃b,pv=.pointer (some ⟨b,0,none⟩):=let ⟨_,h⟩:=h;h.ptr
theorem PgT.EX{d:Ae}{s:PD}{dv pv:Value}{L:List Ae} (h:PgT d s dv pv L):Pgr.Good s:=by
 obtain⟨tc,h⟩:=h
 have g:=h.EX
 exact⟨g.one,g.len,g.inn,g.syn,g.kd⟩
theorem PgT.full{d:Ae}{s:PD}{dv pv:Value}{L:List Ae} (h:PgT d s dv pv L) {k:Int} (hk:Bh s k):(s.bytes k).length=256:=by
 obtain⟨tc,h⟩:=h
 exact h.full (s:={s with tc:=tc}) hk
abbrev tb(bt:Nat) (Tt:TypeId) (pv:Value) (r h c:Int):Ae:=bx bt Tt [pv,.int .i64 r,.int .i64 h,.int .i64 c]
end Go.Gk.Tre
end
section
namespace Go.Gk.Tre
open Go Go.Gk Go.Gk.Dev Go.Gk.Cch Go.Gk.Pgr Go.Gk.Chn Go.Gk.Node
def NO(b:List UInt8):AA:=(Node.BG b).getD JR
def Oh(b:List UInt8):Int:=if (Node.BG b).isSome then 0 else 200
def Bk(s:PD) (k:Int):AA×Int:=if Bh s k then(NO (s.bytes k),Oh (s.bytes k)) else(JR,240)
def AZ(s:PD) (k:Int) (h:Int):AA×Int:=((Bk s k).1,if (Bk s k).2=0∧(Bk s k).1.leaf≠decide (h=1) then 200 else(Bk s k).2)
def Fi(c:List UInt8):Bool:=decide (c.length=7)&& decide (c.getD 0 0=1)
def Fs(c:List UInt8):Nat:=(c.getD 1 0).toNat*256+(c.getD 2 0).toNat
def EK(c:List UInt8):Nat:=(((c.getD 3 0).toNat*256+(c.getD 4 0).toNat)*256+(c.getD 5 0).toNat)*256+(c.getD 6 0).toNat
def inB(c:List UInt8):Bool:=decide (0<c.length)&& decide (c.getD 0 0=0)
def DE(s:PD) (c:List UInt8):List UInt8×Int:=if inB c then(c.drop 1,0) else if Fi c then(Chn.BG s (Fs c) (EK c)).2 else([],200)
def bI(x:Int):UInt8:=UInt8.ofNat (x % 256).toNat
def FZ(h n:Int):List UInt8:=[1,bI (h / 256),bI h,bI (n / 16777216),bI (n / 65536),bI (n / 256),bI n]
def BT(s:PD) (v:List UInt8):PD×List UInt8×Int:=if v.length≤15 then(s,0::v,0) else((BY s v).1,FZ (BY s v).2.1 v.length,(BY s v).2.2)
def BN(s:PD) (c:List UInt8):PD×Int:=if inB c then(s,0) else if Fi c then DK s (Fs c) (EK c) else(s,200)
structure MdD where
 page:Int
 other:Int
 key:List UInt8
 size:Int
def Cc:MdD:=⟨0,0,[],0⟩
def Bo(s:PD) (page:Int) (n:AA):PD×Int×Int:=
 if Bv n then
  if 0≤page∧(s.put page (B3 n)).2≠240 then((s.put page (B3 n)).1,page,(s.put page (B3 n)).2)
  else if s.AT.2.2≠0 then(s.AT.1,0,s.AT.2.2)
  else if 0≤page then
   if (s.AT.1.drop page).2≠0 then((s.AT.1.drop page).1,0,(s.AT.1.drop page).2)
   else(((s.AT.1.drop page).1.put s.AT.2.1 (B3 n)).1,s.AT.2.1,((s.AT.1.drop page).1.put s.AT.2.1 (B3 n)).2)
  else((s.AT.1.put s.AT.2.1 (B3 n)).1,s.AT.2.1,(s.AT.1.put s.AT.2.1 (B3 n)).2)
 else(s,0,200)
def A9(s:PD) (page:Int) (n:AA):PD×MdD×Int:=
 if Bv n then((Bo s page n).1,⟨(Bo s page n).2.1, -1,[],A0 n⟩,(Bo s page n).2.2)
 else if C6 n then
  let a:=Bo s page (AV n)
  if a.2.2=0 then let b:=Bo a.1 (-1) (A6 n);(b.1,⟨a.2.1,b.2.1,BA n,256⟩,b.2.2)
  else(a.1,Cc,a.2.2)
 else(s,Cc,200)
def Ci(s:PD) (page:Int) (n:AA) (i:Nat) (m:MdD):PD×MdD×Int:=
 if n.kids.getD i 0=m.page∧m.other<0 then(s,⟨page, -1,[],A0 n⟩,0)
 else if 0≤m.other then A9 s page {n with keys:=BX n.keys i m.key,kids:=BX (n.kids.set i m.page) (i+1) m.other}
 else A9 s page {n with kids:=n.kids.set i m.page}
def BW(s:PD) (page:Int) (key cell:List UInt8):Nat→PD×MdD×Bool×Int
 |0=>(s,Cc,false,200)
 |h+1=>
  let r:=AZ s page (h+1:Nat)
  if r.2≠0 then(s,Cc,false,r.2) else
  let i:=(findD r.1 key).1
  if h=0 then
   if (findD r.1 key).2 then
    let u:=BN s (r.1.vals.getD i [])
    if u.2≠0 then(u.1,Cc,false,u.2) else
    let w:=A9 u.1 page {r.1 with vals:=r.1.vals.set i cell}
    (w.1,w.2.1,false,w.2.2)
   else
    let w:=A9 s page {r.1 with keys:=BX r.1.keys i key,vals:=BX r.1.vals i cell}
    (w.1,w.2.1,true,w.2.2)
  else
   let u:=BW s (r.1.kids.getD i 0) key cell h
   if u.2.2.2≠0 then(u.1,Cc,false,u.2.2.2) else
   let w:=Ci u.1 page r.1 i u.2.1
   (w.1,w.2.1,u.2.2.1,w.2.2)
def Dt(s:PD) (page:Int) (n:AA) (i0:Nat):PD×MdD×Int:=
 if n.keys.length=0 then(s,Cc,99999) else
 let i:=if i0=n.keys.length then i0 - 1 else i0
 let a:=Bk s (n.kids.getD i 0)
 if a.2≠0 then(s,Cc,a.2) else
 let b:=Bk s (n.kids.getD (i+1) 0)
 if b.2≠0 then(s,Cc,b.2) else
 if a.1.leaf≠b.1.leaf then(s,Cc,200) else
 let w:=A9 s (n.kids.getD i 0) (Cd a.1 b.1 (n.keys.getD i []))
 if w.2.2≠0 then(w.1,Cc,w.2.2) else
 let u:=w.1.drop (n.kids.getD (i+1) 0)
 if u.2≠0 then(u.1,Cc,u.2) else
 if 0≤w.2.1.other then A9 u.1 page {n with keys:=n.keys.set i w.2.1.key,kids:=(n.kids.set i w.2.1.page).set (i+1) w.2.1.other}
 else A9 u.1 page {n with keys:=n.keys.eraseIdx i,kids:=(n.kids.set i w.2.1.page).eraseIdx (i+1)}
def BS(s:PD) (page:Int) (key:List UInt8):Nat→PD×MdD×Bool×Int
 |0=>(s,Cc,false,200)
 |h+1=>
  let r:=AZ s page (h+1:Nat)
  if r.2≠0 then(s,Cc,false,r.2) else
  let i:=(findD r.1 key).1
  if h=0 then
   if (findD r.1 key).2 then
    let u:=BN s (r.1.vals.getD i [])
    if u.2≠0 then(u.1,Cc,false,u.2) else
    let w:=A9 u.1 page {r.1 with keys:=r.1.keys.eraseIdx i,vals:=r.1.vals.eraseIdx i}
    (w.1,w.2.1,true,w.2.2)
   else(s,⟨page, -1,[],256⟩,false,0)
  else
   let u:=BS s (r.1.kids.getD i 0) key h
   if u.2.2.2≠0∨u.2.2.1=false then(u.1,⟨page, -1,[],256⟩,u.2.2.1,u.2.2.2) else
   let w:=if u.2.1.other<0∧u.2.1.size<80 then Dt u.1 page {r.1 with kids:=r.1.kids.set i u.2.1.page} i else Ci u.1 page r.1 i u.2.1
   (w.1,w.2.1,true,w.2.2)
structure TD where
 s:PD
 root:Int
 height:Nat
 count:Nat
def CF(t:TD) (m:MdD):TD×Int:=
 if m.other<0 then({t with root:=m.page},0)
 else
  let k:=Bo t.s (-1) ⟨false,[m.key],[],[m.page,m.other]⟩
  ({t with s:=k.1,root:=k.2.1,height:=t.height+1},k.2.2)
def Dw(t:TD):TD×Int:=
 let r:=Bk t.s t.root
 if r.2≠0∨r.1.keys≠[] then(t,r.2) else
 let u:=t.s.drop t.root
 if u.2≠0 then({t with s:=u.1},u.2) else
 ({t with s:=u.1,root:=if r.1.leaf then -1 else r.1.kids.getD 0 0,height:=t.height - 1},0)
def CG(t:TD) (key value:List UInt8):TD×Int:=
 let c:=BT t.s value
 if c.2.2≠0 then({t with s:=c.1},c.2.2) else
 if t.height=0 then
  let k:=Bo c.1 (-1) ⟨true,[key],[c.2.1],[]⟩
  (⟨k.1,k.2.1,1,1⟩,k.2.2)
 else
  let u:=BW c.1 t.root key c.2.1 t.height
  if u.2.2.2≠0 then({t with s:=u.1},u.2.2.2) else
  CF {t with s:=u.1,count:=t.count+(if u.2.2.1 then 1 else 0)} u.2.1
def BO(t:TD) (key:List UInt8):TD×Bool×Int:=
 if t.height=0 then(t,false,0) else
 let u:=BS t.s t.root key t.height
 if u.2.2.2≠0∨u.2.2.1=false then({t with s:=u.1},false,u.2.2.2) else
 let g:=CF {t with s:=u.1,count:=t.count - 1} u.2.1
 if g.2≠0 then(g.1,true,g.2) else
 ((Dw g.1).1,true,(Dw g.1).2)
def B8(t:TD) (r:TD) (e:Int):TD:=if e=0 then r else{t with s:=r.s.back t.s.mark}
def EC(s:PD) (key:List UInt8):Int→Nat→List UInt8×Bool×Int
 |_,0=>([],false,0)
 |page,h+1=>
  let r:=AZ s page (h+1:Nat)
  if r.2≠0 then([],false,r.2) else
  if h=0 then
   if (findD r.1 key).2 then((DE s (r.1.vals.getD (findD r.1 key).1 [])).1,decide ((DE s (r.1.vals.getD (findD r.1 key).1 [])).2=0),(DE s (r.1.vals.getD (findD r.1 key).1 [])).2)
   else([],false,0)
  else EC s key (r.1.kids.getD (findD r.1 key).1 0) h
def F3(c:List UInt8):Nat:=if inB c then 0 else AN (EK c)
def GK(s:PD) (key:List UInt8):Int→Nat→Nat
 |_,0=>0
 |page,h+1=>
  let r:=AZ s page (h+1:Nat)
  if h=0 then(if (findD r.1 key).2 then 1+F3 (r.1.vals.getD (findD r.1 key).1 []) else 1)
  else 1+GK s key (r.1.kids.getD (findD r.1 key).1 0) h
def BM(key:List UInt8):Int:=if key.length<1∨64<key.length then 2 else 0
end Go.Gk.Tre
end
section
namespace Go.Gk.Chn
open Go Go.Gk Go.Gk.Dev Go.Gk.Cch Go.Gk.Pgr
structure Tk (s0 s:PD) (l:List Int):Prop where
 frm:s.frm=s0.frm
 syn:s.syn=s0.syn
 round:s.round=s0.round
 len:s.kinds.length=s0.kinds.length
 kd:∀j,j<s0.kinds.length→s.kd j=if ((s0.frm+j:Nat):Int)∈l then 1 else s0.kd j
 was:∀k∈l,∃j,j<s0.kinds.length∧k=((s0.frm+j:Nat):Int)∧s0.kd j=0
 nd:l.Nodup
 fb:∀j,((s0.frm+j:Nat):Int)∉l→s.fb j=s0.fb j
 free:s.free+l.length=s0.free
theorem Tk.nil(s:PD):Tk s s []:=⟨rfl,rfl,rfl,rfl,fun j _=>(by simp),fun k hk=>(by cases hk),Agq,fun _ _=>rfl,rfl⟩
theorem Ny{s:PD}{i:Nat}{x:Int} (hi:i<s.kinds.length):(s.kinds.set i x).countP (·==0)+(if s.kinds[i]=0 then 1 else 0)=s.free+(if x=0 then 1 else 0):=by
 rw [List.countP_set hi]
 have hp:s.kinds[i]=0→0<s.free:=fun h=>List.countP_pos_iff.2 ⟨_,Ada hi,by simp [h]⟩
 have hf:s.free=s.kinds.countP (·==0):=rfl
 rw [hf] at hp⊢
 by_cases h0:s.kinds[i]=0
 ·have:=hp h0
  by_cases hx:x=0
  ·simp [h0,hx];omega
  ·simp [h0,hx];omega
 ·by_cases hx:x=0
  ·simp [h0,hx]
  ·simp [h0,hx]
theorem SE{l:List Int} (h:CY 0 l=none):l.countP (·==0)=0:=by
 rw [List.countP_eq_zero]
 intro a ha e
 have:a=0:=by simpa using e
 subst this
 clear e
 induction l with
 |nil=>cases ha
 |cons y l ih=>
  rw [CY] at h
  split at h
  ·cases h
  ·rename_i hne
   rcases Adb.1 ha with rfl|ha
   ·exact hne rfl
   ·exact ih (by cases q:CY 0 l with|none=>rfl|some j=>rw [q] at h;cases h) ha
theorem Tk.take{s0 s:PD}{l:List Int} (h:Tk s0 s l):(s.AT.2.2=0∧Tk s0 s.AT.1 (l++[s.AT.2.1]))∨(s.AT.2.2=190∧s.AT.1=s∧s.free=0):=by
 unfold PD.AT
 cases hq:CY 0 s.kinds with
 |none=>exact .inr ⟨rfl,rfl,SE hq⟩
 |some i=>
  obtain⟨hi,h0⟩:=FL hq
  refine .inl ⟨rfl,?_⟩
  show Tk s0 (s.G1 i) (l++[((s.frm+i:Nat):Int)])
  have hi0:i<s0.kinds.length:=by rw [←h.len];exact hi
  have hnot:((s0.frm+i:Nat):Int)∉l:=fun hm=>by
   have:=h.kd i hi0
   rw [if_pos hm,IT hi,h0] at this
   cases this
  have h00:s0.kd i=0:=by
   have:=h.kd i hi0
   rw [if_neg hnot,IT hi,h0] at this
   exact this.symm
  rw [h.frm]
  refine⟨h.frm,h.syn,h.round,by simp [PD.G1,h.len],fun j hj=>?_,fun k hk=>?_,?_,fun j hj=>?_,?_⟩
  ·show(s.kinds.set i 1).getD j 0=_
   rw [CZ hi]
   by_cases e:j=i
   ·subst e;rw [if_pos rfl,if_pos (by simp)]
   ·rw [if_neg e,show s.kinds.getD j 0=s.kd j from rfl,h.kd j hj]
    by_cases hm:((s0.frm+j:Nat):Int)∈l
    ·rw [if_pos hm,if_pos (Adh _ hm)]
    ·rw [if_neg hm,if_neg]
     intro hm'
     rcases Acj.1 hm' with q|q
     ·exact hm q
     ·have:=Acv.1 q;omega
  ·rcases Acj.1 hk with q|q
   ·exact h.was k q
   ·exact⟨i,hi0,Acv.1 q,h00⟩
  ·refine Afi.2 ⟨h.nd,by simp,fun a ha b hb=>?_⟩
   rw [Acv.1 hb]
   exact fun e=>hnot (e▸ha)
  ·show Ee s.fb i II j=s0.fb j
   have hne:j≠i:=fun e=>hj (by rw [e];simp)
   rw [Ee,if_neg hne]
   exact h.fb j (fun q=>hj (Adh _ q))
  ·have hf:=Ny (s:=s) (i:=i) (x:=1) hi
   rw [if_pos h0,if_neg (by decide)] at hf
   have:=h.free
   show(s.kinds.set i 1).countP (·==0)+(l++[_]).length=s0.free
   rw [Acl,Afs]
   omega
theorem Jr{s0:PD}:∀{n:Nat}{s:PD}{l:List Int},Tk s0 s l→Tk s0 (BR s l n).1 (BR s l n).2.1∧(((BR s l n).2.2=0∧n≤s.free)∨((BR s l n).2.2=190∧s.free<n))
 |0,s,l,h=>⟨h,.inl ⟨rfl,Adg _⟩⟩
 |n+1,s,l,h=>by
  rw [BR]
  rcases h.take with ⟨h1,h2⟩|⟨h1,h2,h3⟩
  ·rw [if_pos h1]
   obtain⟨k1,k2⟩:=Jr (n:=n) h2
   have hf:=h2.free
   have hf0:=h.free
   rw [Acl,Afs] at hf
   refine⟨k1,?_⟩
   rcases k2 with ⟨k2,k3⟩|⟨k2,k3⟩
   ·exact .inl ⟨k2,by omega⟩
   ·exact .inr ⟨k2,by omega⟩
  ·rw [if_neg (by rw [h1];decide)]
   simp only
   rw [h2]
   exact⟨h,.inr ⟨h1,by omega⟩⟩
theorem VK{x:Int}{c:List UInt8} (h0:0≤x) (h1:x<65536):((Gy (DW x c):Nat):Int)=x:=by
 unfold Gy DW
 simp only [Aey,Aeu,UInt8.toNat_ofNat']
 omega
theorem VN{x:Int}{c:List UInt8}:((DW x c).drop (2+c.length)).all (·==0)=true:=by
 unfold DW
 rw [Nat.add_comm 2]
 show((c++Acr (254 - c.length) 0).drop c.length).all (·==0)=true
 rw [Agp]
 simp
theorem XR{x:Int}{c:List UInt8}:((DW x c).drop 2).take c.length=c:=by
 unfold DW
 show(c++Acr (254 - c.length) 0).take c.length=c
 rw [Ahc]
structure FV (s:PD) (b:List UInt8) (l:List Int):Prop where
 len:l.length=AN b.length
 rng:∀k∈l,0≤k∧k<65535
 live:∀j (h:j<l.length),Bh s l[j]
 pg:∀j (h:j<l.length),s.bytes l[j]=DW (l.getD (j+1) 65535) (Cf b j)
theorem Ik{b:List UInt8}{i:Nat}:(Cf b i).length=min 254 (b.length - i*254):=by unfold Cf;rw [Acw,Acn]
theorem US{b:List UInt8}{i:Nat}:b.take (i*254)++Cf b i=b.take ((i+1)*254):=by
 unfold Cf
 rw [show(i+1)*254=i*254+254 by omega,List.take_add]
theorem Hx{l:List Int}{i:Nat}{x:Int} (h:i<l.length):l.getD i x=l[i]:=by rw [Acf,Ace h];rfl
theorem Nq{l:List Int}{i:Nat}{x:Int} (h:l.length≤i):l.getD i x=x:=by rw [Acf,Adq h];rfl
theorem Mx{s:PD}{b:List UInt8}{l:List Int} (h:FV s b l):∀{m i:Nat},i+m=l.length→Dl s b.length l.length (l.getD i 65535) (l.take i) (b.take (i*254)) m=(l,b,0)
 |0,i,hm=>by
  have hl:=h.len
  rw [Dl,Aec (by omega),Aec (by unfold AN at hl;omega)]
 |m+1,i,hm=>by
  have hi:i<l.length:=by omega
  have hl:=h.len
  have hb:i*254≤b.length:=Pr (by omega)
  rw [Hx hi,Dl,if_pos (h.live i hi),h.pg i hi]
  have hnx:0≤l.getD (i+1) 65535∧l.getD (i+1) 65535<65536:=by
   by_cases e:i+1<l.length
   ·rw [Hx e];have:=h.rng _ (Ada e);omega
   ·rw [Nq (by omega)];decide
  have hlk:=VK (c:=Cf b i) hnx.1 hnx.2
  have htl:(l.take i).length=i:=by rw [Acw];omega
  have hc:(Gy (DW (l.getD (i+1) 65535) (Cf b i))=65535)=((l.take i).length+1=l.length):=by
   rw [htl]
   refine propext ⟨fun q=>?_,fun q=>?_⟩
   ·by_cases e:i+1<l.length
    ·rw [Hx e] at hlk q
     have:=h.rng _ (Ada e)
     rw [q] at hlk;omega
    ·omega
   ·rw [Nq (by omega)] at hlk
    rw [Nq (by omega)]
    omega
  rw [if_pos hc]
  have hbt:(b.take (i*254)).length=i*254:=by rw [Acw];omega
  have hmn:min 254 (b.length - (b.take (i*254)).length)=(Cf b i).length:=by rw [hbt,Ik]
  rw [hmn,VN,if_pos rfl,XR,US,hlk,show l.take i++[l[i]]=l.take (i+1) from(Acx hi).symm]
  exact Mx h (by omega)
theorem PG{n:Nat}:1≤AN n:=by unfold AN;omega
theorem Mp{s:PD}{b:List UInt8}{l:List Int} (h:FV s b l) (hb:b.length≤16384):BG s (l.getD 0 0) b.length=(l,b,0):=by
 unfold BG
 rw [if_pos (by omega),Agh,←h.len]
 have h0:0<l.length:=by rw [h.len];exact PG
 have:=Mx h (m:=l.length) (i:=0) (by omega)
 rw [Hx h0] at this⊢
 simpa using this
theorem Ig{s:PD}{k:Int}{b:Sec} (hk:s.kind k=1) (hb:b.length=256):(s.put k b).1={s with fb:=Ee s.fb (k - s.frm).toNat b}:=by
 unfold PD.put;rw [if_pos hk,if_pos hb]
theorem Rr{s:PD}{k k':Int}{b:Sec} (hk:s.kind k=1) (hb:b.length=256):(s.put k b).1.kind k'=s.kind k':=by rw [Ig hk hb];rfl
theorem KC{s:PD}{k k':Int}{b:Sec} (hk:s.kind k=1) (hb:b.length=256):(s.put k b).1.bytes k'=if k'=k then b else s.bytes k':=by
 have hkk:=Rr (k':=k') hk hb
 unfold PD.bytes
 rw [hkk,Ig hk hb]
 obtain⟨i,i1,rfl,i2,i3⟩:=CK hk (by omega)
 by_cases e:k'=((s.frm+i:Nat):Int)
 ·subst e
  rw [if_pos hk,if_pos rfl]
  show Ee s.fb _ b _=b
  rw [Ee,if_pos rfl]
 ·rw [if_neg e]
  by_cases h1:s.kind k'=1
  ·rw [if_pos h1,if_pos h1]
   obtain⟨j,j1,rfl,j2,j3⟩:=CK h1 (by omega)
   show Ee s.fb _ b _=s.fb _
   rw [Ee,i3,j3,if_neg (fun q=>e (by rw [q]))]
  ·rw [if_neg h1,if_neg h1]
theorem Ft{x:Int}{b:List UInt8}{i:Nat}:(DW x (Cf b i)).length=256:=by
 have:=Ik (b:=b) (i:=i)
 unfold DW;simp only [Acs,Acl,Adn];omega
theorem Vr{l:List Int} (hn:l.Nodup) {i j:Nat} (hi:i<l.length) (hj:j<l.length) (e:l[i]=l[j]):i=j:=by
 rcases Nat.lt_trichotomy i j with h|h|h
 ·exact absurd e (Afc.1 hn i j hi hj h)
 ·exact h
 ·exact absurd e.symm (Afc.1 hn j i hj hi h)
structure Ke (s t:PD):Prop where
 frm:t.frm=s.frm
 kinds:t.kinds=s.kinds
 syn:t.syn=s.syn
 round:t.round=s.round
theorem Ke.refl(s:PD):Ke s s:=⟨rfl,rfl,rfl,rfl⟩
theorem Ke.kind{s t:PD} (h:Ke s t) (k:Int):t.kind k=s.kind k:=by unfold PD.kind PD.kd;rw [h.frm,h.kinds]
theorem Ke.free{s t:PD} (h:Ke s t):t.free=s.free:=by unfold PD.free;rw [h.kinds]
theorem Tx{t:PD}{l:List Int}{b:List UInt8} (hf:∀k∈l,t.kind k=1) (hn:l.Nodup):∀{i:Nat},i≤l.length→Ke t (Dn t l b i)∧
  (∀j (hj:j<l.length),j<i→(Dn t l b i).bytes l[j]=DW (l.getD (j+1) 65535) (Cf b j))∧∀k,k∉l→(Dn t l b i).bytes k=t.bytes k
 |0,_=>⟨Ke.refl t,fun j _ h=>absurd h (Afm j),fun _ _=>rfl⟩
 |i+1,hi=>by
  obtain⟨h1,h2,h3⟩:=Tx (b:=b) hf hn (i:=i) (by omega)
  have hi':i<l.length:=by omega
  have hk:(Dn t l b i).kind l[i]=1:=by rw [h1.kind];exact hf _ (Ada hi')
  rw [Dn,Hx hi']
  refine⟨?_,fun j hj hji=>?_,fun k hkl=>?_⟩
  ·rw [Ig hk Ft];exact⟨h1.frm,h1.kinds,h1.syn,h1.round⟩
  ·rw [KC hk Ft]
   by_cases e:j=i
   ·subst e;rw [if_pos rfl]
   ·rw [if_neg (fun q=>e (Vr hn hj hi' q))]
    exact h2 j hj (by omega)
  ·rw [KC hk Ft,if_neg (fun(q:k=l[i])=>hkl (by rw [q];exact Ada hi'))]
   exact h3 k hkl
theorem Tk.kind{s0 s:PD}{l:List Int} (h:Tk s0 s l) (k:Int):s.kind k=if k∈l then 1 else s0.kind k:=by
 unfold PD.kind
 rw [h.frm,h.len]
 by_cases e:(s0.frm:Int)≤k∧k<(s0.frm:Int)+s0.kinds.length
 ·rw [if_pos e,if_pos e,h.kd _ (by omega),show((s0.frm+(k - s0.frm).toNat:Nat):Int)=k by omega]
 ·rw [if_neg e,if_neg e]
  rw [if_neg]
  intro hm
  obtain⟨j,j1,j2, -⟩:=h.was k hm
  omega
theorem Tk.not{s0 s:PD}{l:List Int} (h:Tk s0 s l) {k:Int} (hk:s0.kind k≠0):k∉l:=fun hm=>by
 obtain⟨j,j1,rfl,j3⟩:=h.was k hm
 rw [LV j1] at hk
 exact hk j3
theorem Tk.bytes{s0 s:PD}{l:List Int} (h:Tk s0 s l) {k:Int} (hk:k∉l):s.bytes k=s0.bytes k:=by
 have hkk:=h.kind k
 rw [if_neg hk] at hkk
 unfold PD.bytes
 rw [hkk,h.syn]
 by_cases h1:s0.kind k=1
 ·rw [if_pos h1,if_pos h1]
  obtain⟨j,j1,rfl,j2,j3⟩:=CK h1 (by omega)
  rw [h.frm,j3]
  exact h.fb j hk
 ·rw [if_neg h1,if_neg h1]
theorem WK{s:PD} (hG:Pgr.Good s) {b:List UInt8} (hr:AN b.length≤s.free):∃t l,BY s b=(t,l.getD 0 0,0)∧FV t b l∧(∀k∈l,t.kind k=1∧s.kind k=0)∧t.free+l.length=s.free∧l.length=AN b.length∧
  (∀k,k∉l→t.kind k=s.kind k∧t.bytes k=s.bytes k)∧l.Nodup:=by
 obtain⟨h1,h2⟩:=Jr (n:=AN b.length) (Tk.nil s)
 have hz:(BR s [] (AN b.length)).2.2=0:=by
  rcases h2 with ⟨q, -⟩|⟨-,q⟩
  ·exact q
  ·omega
 have ht:By s (AN b.length)=BR s [] (AN b.length):=by unfold By;rw [if_pos hz]
 have hlen:(BR s [] (AN b.length)).2.1.length=AN b.length:=by have:=Lh hz;simpa using this
 have hc:BY s b=(Dn (BR s [] (AN b.length)).1 (BR s [] (AN b.length)).2.1 b (BR s [] (AN b.length)).2.1.length,(BR s [] (AN b.length)).2.1.getD 0 0,0):=by
  unfold BY;rw [ht];simp only [hz,if_true]
 rw [hc]
 generalize (BR s [] (AN b.length)).1=t at h1
 generalize (BR s [] (AN b.length)).2.1=l at h1 hlen
 have hf:∀k∈l,t.kind k=1:=fun k hk=>by rw [h1.kind,if_pos hk]
 obtain⟨p1,p2,p3⟩:=Tx (b:=b) hf h1.nd (i:=l.length) (Ach _)
 refine⟨_,l,rfl,⟨hlen,fun k hk=>?_,fun j hj=>?_,fun j hj=>p2 j hj hj⟩,fun k hk=>⟨by rw [p1.kind];exact hf k hk,?_⟩,by rw [p1.free];exact h1.free,hlen,fun k hk=>⟨?_,?_⟩,h1.nd⟩
 ·obtain⟨j,j1,rfl, -⟩:=h1.was k hk
  have:=hG.inn
  have:=hG.syn
  omega
 ·exact .inl (by rw [p1.kind];exact hf _ (Ada hj))
 ·obtain⟨j,j1,rfl,j3⟩:=h1.was k hk
  rw [LV j1];exact j3
 ·rw [p1.kind,h1.kind,if_neg hk]
 ·rw [p3 k hk,h1.bytes hk]
theorem FV.stay{s t:PD}{b:List UInt8}{l:List Int} (h:FV s b l) (hs:∀k∈l,t.kind k=s.kind k∧t.bytes k=s.bytes k):FV t b l:=
 ⟨h.len,h.rng,fun j hj=>by unfold Bh;rw [(hs _ (Ada hj)).1];exact h.live j hj,fun j hj=>by rw [(hs _ (Ada hj)).2];exact h.pg j hj⟩
theorem JK{s:PD}{i:Nat} (hi:i<s.kinds.length) (hk:s.kd i=1):s.drop ((s.frm+i:Nat):Int)=({s with kinds:=s.kinds.set i 0},0):=by
 unfold PD.drop
 rw [if_pos (by rw [LV hi];exact hk),show(((s.frm+i:Nat):Int) - s.frm).toNat=i by omega]
theorem Ir{s:PD}{i:Nat}{k:Int} (hi:i<s.kinds.length) (hk:s.kd i=1):(s.drop ((s.frm+i:Nat):Int)).1.kind k=if k=((s.frm+i:Nat):Int) then 0 else s.kind k:=by
 rw [JK hi hk]
 by_cases e:k=((s.frm+i:Nat):Int)
 ·subst e
  rw [if_pos rfl]
  have:i<({s with kinds:=s.kinds.set i 0}:PD).kinds.length:=by simpa using hi
  rw [show((s.frm+i:Nat):Int)=((({s with kinds:=s.kinds.set i 0}:PD).frm+i:Nat):Int) from rfl,LV this]
  show(s.kinds.set i 0).getD i 0=0
  rw [CZ hi,if_pos rfl]
 ·rw [if_neg e]
  unfold PD.kind
  simp only [Adf]
  by_cases q:(s.frm:Int)≤k∧k<(s.frm:Int)+s.kinds.length
  ·rw [if_pos q,if_pos q]
   show(s.kinds.set i 0).getD _ 0=s.kinds.getD _ 0
   rw [CZ hi,if_neg (by omega)]
  ·rw [if_neg q,if_neg q]
theorem UA{s:PD}{i:Nat}{k:Int} (hi:i<s.kinds.length) (hk:s.kd i=1) (e:k≠((s.frm+i:Nat):Int)):(s.drop ((s.frm+i:Nat):Int)).1.bytes k=s.bytes k:=by
 have h:=Ir (k:=k) hi hk
 rw [if_neg e] at h
 unfold PD.bytes
 rw [h,JK hi hk]
theorem QP:∀{l:List Int}{s:PD},(∀k∈l,s.kind k=1)→l.Nodup→(Dj s l).free=s.free+l.length∧Ds s l=(Dj s l,0)∧(∀k∈l,(Dj s l).kind k=0)∧∀k,k∉l→(Dj s l).kind k=s.kind k∧(Dj s l).bytes k=s.bytes k
 |[],s,_,_=>⟨rfl,rfl,fun k h=>(by cases h),fun _ _=>⟨rfl,rfl⟩⟩
 |k::l,s,hf,hn=>by
  obtain⟨hnk,hn'⟩:=Afr.1 hn
  obtain⟨i,hi,rfl,hki, -⟩:=CK (hf k (Acu ..)) (by omega)
  have hd:=JK hi hki
  have hf':∀k'∈l,(s.drop ((s.frm+i:Nat):Int)).1.kind k'=1:=fun k' hk'=>by
   rw [Ir hi hki,if_neg (fun(q:k'=((s.frm+i:Nat):Int))=>hnk (by rw [←q];exact hk'))]
   exact hf k' (Acy _ hk')
  obtain⟨h1,h2,h3,h4⟩:=QP hf' hn'
  have e:Dj s (((s.frm+i:Nat):Int)::l)=Dj (s.drop ((s.frm+i:Nat):Int)).1 l:=by simp [Dj]
  have hfr:(s.drop ((s.frm+i:Nat):Int)).1.free=s.free+1:=by
   rw [hd]
   have:=Ny (s:=s) (i:=i) (x:=0) hi
   rw [if_neg (by rw [←IT hi,hki];decide),if_pos rfl] at this
   exact this
  rw [e]
  refine⟨by rw [h1,hfr,Acs];omega,?_,fun k' hk'=>?_,fun k' hk'=>?_⟩
  ·rw [Ds,if_pos (by rw [hd]),h2]
  ·by_cases q:k'∈l
   ·exact h3 k' q
   ·rcases Adb.1 hk' with rfl|hk'
    ·rw [(h4 _ q).1,Ir hi hki,if_pos rfl]
    ·exact absurd hk' q
  ·have q1:k'∉l:=fun q=>hk' (Acy _ q)
   have q2:k'≠((s.frm+i:Nat):Int):=fun q=>hk' (by rw [q];exact Acu ..)
   obtain⟨j1,j2⟩:=h4 k' q1
   exact⟨by rw [j1,Ir hi hki,if_neg q2],by rw [j2,UA hi hki q2]⟩
theorem Wa{s:PD}{b:List UInt8} (hr:s.free<AN b.length):∃t,BY s b=(t,0,190)∧t.free=s.free:=by
 obtain⟨h1,h2⟩:=Jr (n:=AN b.length) (Tk.nil s)
 have hz:(BR s [] (AN b.length)).2.2=190:=by
  rcases h2 with ⟨-,q⟩|⟨q, -⟩
  ·omega
  ·exact q
 have ht:By s (AN b.length)=(Dj (BR s [] (AN b.length)).1 (BR s [] (AN b.length)).2.1,[],190):=by unfold By;rw [if_neg (by rw [hz];decide),hz]
 refine⟨Dj (BR s [] (AN b.length)).1 (BR s [] (AN b.length)).2.1,?_,?_⟩
 ·unfold BY;rw [ht];rfl
 ·obtain⟨q, -⟩:=QP (s:=(BR s [] (AN b.length)).1) (l:=(BR s [] (AN b.length)).2.1) (fun k hk=>by rw [h1.kind,if_pos hk]) h1.nd
  rw [q];exact h1.free
end Go.Gk.Chn
end
section
namespace Go.Gk.Tre
open Go Go.Gk Go.Gk.Dev Go.Gk.Cch Go.Gk.Pgr Go.Gk.Chn Go.Gk.Node
section
abbrev wtc(s:PD) (n:Nat):PD:={s with tc:=n}
theorem Zw{s:PD}{n:Nat}{k:Int}:(wtc s n).kind k=s.kind k:=rfl
theorem VS{s:PD}{n:Nat}{k:Int}{b:Sec}:(wtc s n).put k b=(wtc (s.put k b).1 n,(s.put k b).2):=by
 unfold PD.put
 rw [Zw]
 by_cases h1:s.kind k=1
 ·by_cases h2:b.length=256
  ·simp only [if_pos h1,if_pos h2]
  ·simp only [if_pos h1,if_neg h2]
 ·simp only [if_neg h1]
theorem Tp{s:PD}{n:Nat}:(wtc s n).AT=(wtc s.AT.1 n,s.AT.2):=by
 unfold PD.AT
 show(match CY 0 s.kinds with|some i=>_|none=>_)=_
 cases CY 0 s.kinds<;>rfl
theorem Ng{s:PD}{n:Nat}{k:Int}:(wtc s n).drop k=(wtc (s.drop k).1 n,(s.drop k).2):=Ta
theorem Q4{n:Nat}:∀{m:Nat}{s:PD}{l:List Int},BR (wtc s n) l m=(wtc (BR s l m).1 n,(BR s l m).2)
 |0,s,l=>rfl
 |m+1,s,l=>by
  rw [BR,BR,Tp]
  by_cases h:s.AT.2.2=0
  ·rw [if_pos h,if_pos h];exact Q4
  ·rw [if_neg h,if_neg h]
theorem R0{n:Nat}:∀{l:List Int}{s:PD},Dj (wtc s n) l=wtc (Dj s l) n
 |[],s=>rfl
 |k::l,s=>by
  show Dj ((wtc s n).drop k).1 l=wtc (Dj (s.drop k).1 l) n
  rw [Ng];exact R0
theorem VQ{n m:Nat}{s:PD}:Chn.By (wtc s n) m=(wtc (Chn.By s m).1 n,(Chn.By s m).2):=by
 unfold Chn.By
 rw [Q4]
 by_cases h:(BR s [] m).2.2=0
 ·rw [if_pos h,if_pos h]
 ·rw [if_neg h,if_neg h,R0]
theorem TE{n:Nat}{s:PD}{l:List Int}{b:List UInt8}:∀{i:Nat},Chn.Dn (wtc s n) l b i=wtc (Chn.Dn s l b i) n
 |0=>rfl
 |i+1=>by rw [Chn.Dn,Chn.Dn,TE,VS]
theorem Sm{n:Nat}{s:PD}{b:List UInt8}:BY (wtc s n) b=(wtc (BY s b).1 n,(BY s b).2):=by
 unfold BY
 rw [VQ]
 simp only
 by_cases h:(Chn.By s (AN b.length)).2.2=0
 ·rw [if_pos h,if_pos h,TE]
 ·rw [if_neg h,if_neg h]
theorem P6{n:Nat}:∀{l:List Int}{s:PD},Ds (wtc s n) l=(wtc (Ds s l).1 n,(Ds s l).2)
 |[],s=>rfl
 |k::l,s=>by
  rw [Ds,Ds,Ng]
  by_cases h:(s.drop k).2=0
  ·rw [if_pos h,if_pos h];exact P6
  ·rw [if_neg h,if_neg h]
theorem QW{s:PD}{n:Nat}{k size:Int}:Chn.BG (wtc s n) k size=Chn.BG s k size:=by
 have h:∀{m:Nat}{N:Nat}{z:Nat}{k:Int}{l:List Int}{o:List UInt8},Dl (wtc s n) z N k l o m=Dl s z N k l o m:=by
  intro m
  induction m with
  |zero=>intros;rfl
  |succ m ih=>
   intro N z k l o
   rw [Dl,Dl]
   show(if Bh s k then if (Gy (s.bytes k)=65535)=(l.length+1=N) then if ((s.bytes k).drop _).all _ then Dl (wtc s n) _ _ _ _ _ _ else _ else _ else _)=_
   simp only [ih]
   rfl
 unfold Chn.BG
 simp only [h]
theorem V9{s:PD}{n:Nat}{k size:Int}:DK (wtc s n) k size=(wtc (DK s k size).1 n,(DK s k size).2):=by
 unfold DK
 rw [QW]
 by_cases h:(Chn.BG s k size).2.2=0
 ·rw [if_pos h,if_pos h,P6]
 ·rw [if_neg h,if_neg h]
section
variable {P:Program}{f:FuncId}{d:Ae}{s:PD}{dv pv:Value}{L:List Ae}
theorem PgT.mk{n:Nat} (h:Pg d (wtc s n) dv pv L):PgT d s dv pv L:=⟨n,h⟩
theorem Yq(h:NA P f) (hp:PgT d s dv pv L) {w:Value}{k:Int}{b:Sec} (hb:AJ d w b):Aw P f [pv,.int .i64 k,w] d L (Ret fun r d' L'=>r=.int .i64 (s.put k b).2∧PgT d' (s.put k b).1 dv pv L'):=by
 obtain⟨n,hp⟩:=hp
 refine Aw.DV (h (k:=k) hp hb) (fun r d' L' _ ⟨h1,h2⟩=>⟨d',L',Vs.refl _ _,?_⟩)
 rw [VS] at h1 h2;exact⟨h1,n,h2⟩
theorem YP(h:Pgr.FM P f) (hp:PgT d s dv pv L):Aw P f [pv] d L (Ret fun r d' L'=>r=.tuple #[.int .i64 s.AT.2.1,.int .i64 s.AT.2.2]∧PgT d' s.AT.1 dv pv L'):=by
 obtain⟨n,hp⟩:=hp
 refine Aw.DV (h hp) (fun r d' L' _ ⟨h1,h2⟩=>⟨d',L',Vs.refl _ _,?_⟩)
 rw [Tp] at h1 h2;exact⟨h1,n,h2⟩
theorem Uo(h:Gx P f) (hp:PgT d s dv pv L) {k:Int}:Aw P f [pv,.int .i64 k] d L (Ret fun r d' L'=>r=.int .i64 (s.drop k).2∧PgT d' (s.drop k).1 dv pv L'):=by
 obtain⟨n,hp⟩:=hp
 refine Aw.DV (h (k:=k) hp) (fun r d' L' _ ⟨h1,h2⟩=>⟨d',L',Vs.refl _ _,?_⟩)
 rw [Ng] at h1 h2;exact⟨h1,n,h2⟩
theorem WG(h:LK P f) (hp:PgT d s dv pv L) {k size:Int}:
  Aw P f [pv,.int .i64 k,.int .i64 size] d L (Ret fun r d' L'=>Le d d'∧r=.int .i64 (DK s k size).2∧PgT d' (DK s k size).1 dv pv L'):=by
 obtain⟨n,hp⟩:=hp
 refine Aw.DV (h (k:=k) (size:=size) hp) (fun r d' L' _ ⟨h0,h1,tc,h2⟩=>⟨d',L',Vs.refl _ _,?_⟩)
 rw [V9] at h1 h2;exact⟨h0,h1,tc,h2⟩
end
end
end Go.Gk.Tre
end
section
namespace Go.Gk
open Go
section
section
variable {P:Program}{pan:List PanicEntry→AQ}{Qn:Env→AQ}{Ls L:List Ae}{ρ:Env}{d:Ae}{s:GS}{t:Nat}{tk:Bool}
theorem NB{x y:Operand}{k':IntKind}{a:Nat} (n m:Nat) (ex:ev ρ x=.int .i64 (a:Int)) (ey:ev ρ y=.int k' (n:Int)) (hn:n≤32) (hm:m=a*2 ^ n) (ha:a≤65535) (h:gws P pan Qn s Ls (upd ρ t (.int .i64 (m:Int))) d L):
  gws P pan Qn (.op tk ⟨some t,none,.bin .shl x y⟩ s) Ls ρ d L:=by
 refine C9 ?_ h
 have h1:min (Int.toNat (n:Int)) IntKind.i64.bits=n:=by simp [IntKind.bits];omega
 have h2:2 ^ n≤2 ^ 32:=Nat.pow_le_pow_right (by omega) hn
 have h3:a*2 ^ n≤65535*2 ^ 32:=Nat.mul_le_mul ha h2
 have e:(a:Int)*2 ^ n=((a*2 ^ n:Nat):Int):=by push_cast;rfl
 rw [ex,ey]
 simp only [CV,h1]
 rw [if_neg (by omega),e,Dy (by omega) (by omega),hm]
theorem WM{x y:Operand}{k':IntKind}{a:Int} (n:Nat) (m:Int) (ex:ev ρ x=.int .i64 a) (ey:ev ρ y=.int k' (n:Int)) (hn:n≤32) (h0:0≤a) (hm:m=a / (2 ^ n:Nat)) (h:gws P pan Qn s Ls (upd ρ t (.int .i64 m)) d L):
  gws P pan Qn (.op tk ⟨some t,none,.bin .shr x y⟩ s) Ls ρ d L:=by
 refine C9 ?_ h
 have h1:min (Int.toNat (n:Int)) IntKind.i64.bits=n:=by simp [IntKind.bits];omega
 rw [ex,ey]
 simp only [CV,h1]
 rw [if_neg (by omega),hm]
 congr 2
 rw [Int.fdiv_eq_ediv_of_nonneg _ (by exact_mod_cast Adg _)]
 simp
theorem Ql{x y:Operand}{a b:Nat} (n:Nat) (ex:ev ρ x=.int .i64 ((a*2 ^ n:Nat):Int)) (ey:ev ρ y=.int .i64 (b:Int)) (ha:a*2 ^ n<9223372036854775808) (hb:b<2 ^ n) (hs:a*2 ^ n+b<9223372036854775808)
  (h:gws P pan Qn s Ls (upd ρ t (.int .i64 ((a*2 ^ n+b:Nat):Int))) d L):gws P pan Qn (.op tk ⟨some t,none,.bin .or x y⟩ s) Ls ρ d L:=by
 refine C9 ?_ h
 have hlt:b<9223372036854775808:=by omega
 have e:(BitVec.ofInt IntKind.i64.bits ((a*2 ^ n:Nat):Int)|||BitVec.ofInt IntKind.i64.bits ((b:Nat):Int)).toNat=a*2 ^ n+b:=by
  have h1:=Nat.shiftLeft_add_eq_or_of_lt (i:=n) hb a
  rw [Nat.shiftLeft_eq] at h1
  show((BitVec.ofInt 64 ((a*2 ^ n:Nat):Int):BitVec 64)|||(BitVec.ofInt 64 ((b:Nat):Int):BitVec 64)).toNat=_
  rw [BitVec.toNat_or,BitVec.ofInt_natCast,BitVec.ofInt_natCast,BitVec.toNat_ofNat,BitVec.toNat_ofNat]
  rw [Afd (by omega),Afd (by omega)]
  exact h1.symm
 rw [ex,ey]
 simp only [CV,e]
 rw [Dy (by omega) (by omega),if_neg (fun h=>h rfl)]
theorem AaG{z:Value}{x0 x1 x2 x3 x4 x5 x6:Operand}{a0 a1 a2 a3 a4 a5 a6:UInt8} (e0:ev ρ x0=Ay a0) (e1:ev ρ x1=Ay a1) (e2:ev ρ x2=Ay a2) (e3:ev ρ x3=Ay a3) (e4:ev ρ x4=Ay a4) (e5:ev ρ x5=Ay a5) (e6:ev ρ x6=Ay a6)
  (h:∀b T,gws P pan Qn s Ls (upd ρ t (.slice (some ⟨b,0,none⟩) 7 7)) d (bx b T ([a0,a1,a2,a3,a4,a5,a6].map Ay)::L)):gws P pan Qn (.op false ⟨some t,none,.bsl 7 1 [z] [(0,x0),(1,x1),(2,x2),(3,x3),(4,x4),(5,x5),(6,x6)]⟩ s) Ls ρ d L:=by
 have c:∀a:UInt8,(Ay a).cells= #[Ay a]:=fun _=>rfl
 refine Dm (by omega) ?_ h
 simp [Instr.fill,Bl,Ade,List.range.loop,e0,c,e1,e2,e3,e4,e5,e6]
end
end
end Go.Gk
end
section
namespace Go.Gk.Tre
open Go Go.Gk Go.Gk.Dev Go.Gk.Cch Go.Gk.Pgr Go.Gk.Chn Go.Gk.Node
attribute [local irreducible] gwp gws xwp
def HD(P:Program) (f:FuncId):Prop:=∀{d:Ae}{bt pb:Nat}{Tt:TypeId}{r h c:Int}{L:List Ae},CR P f [.pointer (some ⟨bt,0,none⟩)] d (tb bt Tt (.pointer (some ⟨pb,0,none⟩)) r h c::L) (.bool false)
def Nu:AX:=⟨12,[(.tmp 2)],(.seq (rG (o1 2 (.mv (.const (.bool false))) .done)) (.seq (rG (om 3 0 (o1 4 (.eqp false (tP 3) (.const (.pointer none))) (om 5 4 (gF 6 5 0 (oF 7 5 (.nilc (tP 6)) (oF 8 5 (.fld 0 (tP 7)) (oF 9 5 (.ld none (tP 8)) (oF 10 5 (.eqp false (tP 9) (.const (.pointer none))) (o1 11 (.pick (tP 5) (.const (.bool true)) (tP 10)) (om 2 11 .done))))))))))) .ret))⟩
theorem WW{P:Program}{f:FuncId} (hd:dec P f=some Nu):HD P f:=by
 intro d bt pb Tt r h c L
 refine AE hd (Aca rfl) ?_
 show gwp P _ _ _ _ _
 (refine Ac (Ad (Af rfl (Aa (Ac (Ad (Al rfl (C5 rfl rfl (Af rfl (Ag rfl (Al rfl (Ag rfl (Au rfl (Ag rfl (Ai rfl (Ag rfl (Ah rfl (Aj 0 rfl rfl) (Ag rfl (C5 rfl rfl (As rfl rfl (Af rfl (Aa (An ?_)))))))))))))))))))))))
 exact BF rfl (Acb _) ⟨rfl,rfl,rfl⟩
def K0(P:Program) (f:FuncId):Prop:=∀{d:Ae}{bt pb:Nat}{Tt:TypeId}{r h c:Int}{w:Value}{key:List UInt8}{L:List Ae},AJ d w key→CR P f [.pointer (some ⟨bt,0,none⟩),w] d (tb bt Tt (.pointer (some ⟨pb,0,none⟩)) r h c::L) (.int .i64 (BM key))
def ME(a0:Nat):AX:=⟨17,[(.tmp 4)],(.seq (rG (o1 4 (.mv (kZ 0)) .done)) (.seq (.block 0 (.seq (rG (om 6 0 (oc 7 a0 [(tP 6)] (om 5 7 .done)))) (.cond (tP 5) (.seq (rG (o1 4 (.mv (kZ 1)) .done)) .ret) (.seq (rG (om 9 1 (oL 10 9 (ob 11 .lss (tP 10) (kZ 1) (om 12 11 (gF 13 12 1 (oF 14 12 (.len (tP 13)) (oF 15 12 (.bin .gtr (tP 14) (kZ 64)) (o1 16 (.pick (tP 12) (.const (.bool true)) (tP 15)) (om 8 16 .done)))))))))) (.cond (tP 8) (.seq (rG (o1 4 (.mv (kZ 2)) .done)) .ret) .skip))))) (.seq (rG (o1 4 (.mv (kZ 0)) .done)) .ret)))⟩
theorem ZU{P:Program}{f f1:FuncId} (hd:dec P f=some (ME f1)) (h1:HD P f1):K0 P f:=by
 intro d bt pb Tt r h c w key L hw
 refine AE hd (Aca rfl) ?_
 show gwp P _ _ _ _ _
 (refine Ac (Ad (Ab rfl (Aa (Ac (Az (Ac (Ad (Al rfl ?_)))))))))
 refine Cv [] h1 rfl rfl ?_
 by_cases e1:key.length<1
 ·have hk:BM key=2:=by unfold BM;rw [if_pos (.inl e1)]
  rw [hk]
  (refine Af rfl (Aa (AR rfl (Ac (Ad (AI (BD rfl (by assumption) (AB rfl rfl (Af rfl (Bn rfl (by omega) (Ap rfl (Ap rfl (Ap rfl (AG rfl rfl (Af rfl (Aa (Bf rfl (Ac (Ad (Ab rfl (Aa (An ?_))))))))))))))))))))))
  exact BF rfl (Acb _) ⟨rfl,rfl,rfl⟩
 ·by_cases e2:64<key.length
  ·have hk:BM key=2:=by unfold BM;rw [if_pos (.inr e2)]
   rw [hk]
   (refine Af rfl (Aa (AR rfl (Ac (Ad (AI (BD rfl (by assumption) (AB rfl rfl (Af rfl (Bb rfl (by omega) (Ag rfl (AI (Ag rfl (BD rfl (by assumption) (Ag rfl (BQ rfl rfl (As rfl rfl (Af rfl (Aa (Ax rfl (by omega) (Ac (Ad (Ab rfl (Aa (An ?_)))))))))))))))))))))))))
   exact BF rfl (Acb _) ⟨rfl,rfl,rfl⟩
  ·have hk:BM key=0:=by unfold BM;rw [if_neg (by omega)]
   rw [hk]
   (refine Af rfl (Aa (AR rfl (Ac (Ad (AI (BD rfl (by assumption) (AB rfl rfl (Af rfl (Bb rfl (by omega) (Ag rfl (AI (Ag rfl (BD rfl (by assumption) (Ag rfl (BQ rfl rfl (As rfl rfl (Af rfl (Aa (Ar rfl (by omega) (Ak (Ac (Ad (Ab rfl (Aa (An ?_))))))))))))))))))))))))))
   exact BF rfl (Acb _) ⟨rfl,rfl,rfl⟩
def IQ(P:Program) (f:FuncId):Prop:=∀{d:Ae}{s:PD}{dv pv:Value}{L:List Ae}{bt:Nat}{Tt:TypeId}{r h c k:Int},Pg d s dv pv L→
 Aw P f [.pointer (some ⟨bt,0,none⟩),.int .i64 k] d (tb bt Tt pv r h c::L) (Ret fun v d' L'=>Le d d'∧∃cs hk hv hi L2 tc,v=.tuple #[.agg cs.toArray,.int .i64 (Bk s k).2]∧L'=hk::hv::hi::tb bt Tt pv r h c::L2∧
  DH d' cs (Bk s k).1 hk hv hi∧Pg d' {s with tc:=tc} dv pv L2∧((Bk s k).2=0→tc=s.tc+1))
def MY(a0 a1:Nat):AX:=⟨25,[(.cell 4 (some 4)),(.tmp 5)],(.seq (rG (o1 4 (.alo (.agg #[(.bool false),(.slice none 0 0),(.slice none 0 0),(.slice none 0 0)])) (o1 5 (.mv (kZ 0)) .done))) (.seq (rG (om 9 0 (o1 10 (.nilc (tP 9)) (oj 11 0 10 (ol 12 11 (om 13 1 (oc 14 a0 [(tP 12),(tP 13)] (om 8 14 (oe 15 8 0 (oe 16 8 1 (om 6 15 (om 7 16 .done)))))))))))) (.seq (.seq (rG (om 17 7 (ob 18 .neq (tP 17) (kZ 0) .done))) (.cond (tP 18) (.seq (rG (o1 19 (.bld [(0,1),(1,1),(2,1),(3,1)] [(.bool false),(.slice none 0 0),(.slice none 0 0),(.slice none 0 0)] []) (om 20 7 (o0 (.st 4 (tP 4) (tP 19)) (om 5 20 .done))))) .ret) .skip)) (.seq (rG (om 21 6 (oc 22 a1 [(tP 21)] (oe 23 22 0 (oe 24 22 1 (o0 (.st 4 (tP 4) (tP 23)) (om 5 24 .done))))))) .ret))))⟩
set_option maxRecDepth 4000 in
theorem Xb{P:Program}{f f1 f2:FuncId} (hd:dec P f=some (MY f1 f2)) (h1:Fu P f1) (h2:QG P f2):IQ P f:=by
 intro d s dv pv L bt Tt r h c k hp
 obtain⟨bp,rfl⟩:=hp.ptr
 refine AE hd (Aca rfl) ?_
 show gwp P _ _ _ _ _
 apply Ac;apply Ad
 refine DI (fun b4 T4=>?_)
 (refine Ab rfl (Aa (Ac (Ad (Al rfl (Au rfl (Ai rfl (Ah rfl (Aj 1 rfl rfl) (Ab rfl ?_)))))))))
 refine Ba [_,_] (h1.atT (k:=k) hp) rfl rfl (fun v d2 L2 hl ⟨a,q,tc,e1,hb,hp2,htc⟩=>?_)
 subst e1
 by_cases hlv:Bh s k
 ·rw [Q3 hlv]
  rw [if_pos hlv] at htc
  have hr:Bk s k=(NO (s.bytes k),Oh (s.bytes k)):=by unfold Bk;rw [if_pos hlv]
  rw [hr]
  (refine AU rfl (Ao rfl rfl (Ao rfl rfl (Am rfl (Ab rfl (Aa (Ac (Ac (Ad (Ab rfl (AP rfl rfl (Aa (Ar rfl (by omega) (Ak (Ac (Ad (Am rfl ?_)))))))))))))))))
  refine Bi rfl (h2 hb) (fun u d3 L3 hl3 ⟨q0,cs,q1,q2⟩=>?_)
  subst q0;subst q1
  obtain⟨d4,hk,hv,hi,v1,v2,v3⟩:=DG.AaZ q2
  have hcs:∃c1 c2 c3 c4,cs=[c1,c2,c3,c4]∧(cs.all (·.oneCell'))=true:=by
   obtain⟨kv,vv,iv,rfl,a1,a2,a3⟩:=v3
   obtain⟨x1,x2,rfl⟩:=a1.val
   obtain⟨y1,y2,rfl⟩:=a2.val
   obtain⟨z1,z2,rfl⟩:=a3.val
   exact⟨_,_,_,_,rfl,rfl⟩
  obtain⟨c1,c2,c3,c4,rfl,hc1⟩:=hcs
  refine B6 _ _ (Vs.app v1 _) ?_
  (refine Ao rfl rfl (Ao rfl rfl ?_))
  refine Bm 3 rfl rfl rfl rfl (Ach _) hc1 ?_
  (refine Ab rfl (Aa (An ?_)))
  exact A8 [.agg [c1,c2,c3,c4].toArray,.int .i64 (Oh (s.bytes k))] ⟨AS 3 rfl rfl rfl,Av rfl,trivial⟩ (d':=d4) (L':=hk::hv::hi::tb bt Tt (.pointer (some ⟨bp,0,none⟩)) r h c::L2) (Vs.drop (.cons_cons _ (.cons_cons _ (.cons_cons _ (.cons _ (Acb _))))))
   ⟨hl.trans v2,_,hk,hv,hi,L2,tc,rfl,rfl,v3,hp2.mono v2,fun _=>htc⟩
 ·rw [(Rt hlv).1]
  rw [if_neg hlv] at htc
  have hr:Bk s k=(JR,240):=by unfold Bk;rw [if_neg hlv]
  rw [hr]
  (refine AU rfl (Ao rfl rfl (Ao rfl rfl (Am rfl (Ab rfl (Aa (Ac (Ac (Ad (Ab rfl (AP rfl rfl (Aa (Ax rfl (by omega) (Ac (Ad (BI rfl (Ab rfl ?_)))))))))))))))))
  refine Bm 0 rfl rfl rfl rfl (Ach _) rfl ?_
  (refine Ab rfl (Aa (An ?_)))
  exact A8 [.agg [.bool false,.slice none 0 0,.slice none 0 0,.slice none 0 0].toArray,.int .i64 240] ⟨AS 0 rfl rfl rfl,Av rfl,trivial⟩ (d':=d2) (L':=emp::emp::emp::tb bt Tt (.pointer (some ⟨bp,0,none⟩)) r h c::L2)
   ((Vs.drop (.cons _ (Acb _))).trans (Vs.emp.trans (Vs.emp.trans Vs.emp)))
   ⟨hl,_,emp,emp,emp,L2,tc,rfl,rfl,DH.zero,hp2,fun q=>absurd q (by decide)⟩
def HY(P:Program) (f:FuncId):Prop:=∀{d:Ae}{s:PD}{dv pv:Value}{L:List Ae}{bt:Nat}{Tt:TypeId}{r h c k x:Int},Pg d s dv pv L→
 Aw P f [.pointer (some ⟨bt,0,none⟩),.int .i64 k,.int .i64 x] d (tb bt Tt pv r h c::L) (Ret fun v d' L'=>Le d d'∧∃cs hk hv hi L2 tc,v=.tuple #[.agg cs.toArray,.int .i64 (AZ s k x).2]∧L'=hk::hv::hi::tb bt Tt pv r h c::L2∧
  DH d' cs (AZ s k x).1 hk hv hi∧Pg d' {s with tc:=tc} dv pv L2∧((AZ s k x).2=0→tc=s.tc+1))
theorem DH.cells{d:Ae}{cs:List Value}{n:AA}{hk hv hi:Ae} (o:DH d cs n hk hv hi):∃ka kc va vc ia ic,cs=[.bool n.leaf,.slice ka n.keys.length kc,.slice va n.vals.length vc,.slice ia n.kids.length ic]:=by
 obtain⟨kv,vv,iv,rfl,a1,a2,a3⟩:=o
 obtain⟨x1,x2,rfl⟩:=a1.val
 obtain⟨y1,y2,rfl⟩:=a2.val
 obtain⟨z1,z2,rfl⟩:=a3.val
 exact⟨_,_,_,_,_,_,rfl⟩
def Mf(a0:Nat):AX:=⟨27,[(.cell 6 (some 4)),(.tmp 7)],(.seq (rG (o1 6 (.alo (.agg #[(.bool false),(.slice none 0 0),(.slice none 0 0),(.slice none 0 0)])) (o1 7 (.mv (kZ 0)) .done))) (.seq (rG (om 11 0 (om 12 1 (oc 13 a0 [(tP 11),(tP 12)] (om 10 13 (oe 14 10 0 (oe 15 10 1 (o1 8 (.alo (.agg #[(.bool false),(.slice none 0 0),(.slice none 0 0),(.slice none 0 0)])) (o0 (.st 4 (tP 8) (tP 14)) (om 9 15 .done)))))))))) (.seq (.seq (rG (om 16 9 (ob 17 .eql (tP 16) (kZ 0) (om 18 17 (oT 19 18 (.fld 0 (tP 8)) (oT 20 18 (.ld none (tP 19)) (gT 21 18 2 (oT 22 18 (.bin .eql (tP 21) (kZ 1)) (oT 23 18 (.eqb true (tP 20) (tP 22)) (gP 24 18 23 .done)))))))))) (.cond (tP 24) (rG (o1 9 (.mv (kZ 200)) .done)) .skip)) (.seq (rG (o1 25 (.ld (some 4) (tP 8)) (om 26 9 (o0 (.st 4 (tP 6) (tP 25)) (om 7 26 .done))))) .ret))))⟩
set_option maxRecDepth 4000 in
theorem Vj{P:Program}{f f1:FuncId} (hd:dec P f=some (Mf f1)) (h1:IQ P f1):HY P f:=by
 intro d s dv pv L bt Tt r h c k x hp
 refine AE hd (Aca rfl) ?_
 show gwp P _ _ _ _ _
 apply Ac;apply Ad
 refine DI (fun b6 T6=>?_)
 (refine Ab rfl (Aa (Ac (Ad (Al rfl (Ab rfl ?_))))))
 refine Ba [_] (h1 (k:=k) hp) rfl rfl (fun v d2 L2 hl ⟨_,cs,hk,hv,hi,L3,tc,e1,e2,hn,hp2,htc⟩=>?_)
 subst e1;subst e2
 have hn0:=hn
 obtain⟨ka,kc,va,vc,ia,ic,rfl⟩:=hn.cells
 (refine AU rfl (Ao rfl rfl (Ao rfl rfl (BU (fun _ _=>?_)))))
 rename_i b8 T8
 refine Bm 0 rfl rfl rfl rfl (Ach _) rfl ?_
 by_cases hz:(Bk s k).2=0
 ·by_cases hx:(Bk s k).1.leaf=decide (x=1)
  ·have hF:AZ s k x=((Bk s k).1,0):=by unfold AZ;rw [if_neg (fun q=>q.2 hx),hz]
   rw [hF,hz]
   have hxx:(true ^^((Bk s k).1.leaf==decide (x=1)))=false:=by rw [hx];simp
   (refine Ab rfl (Aa (Ac (Ac (Ad (Ab rfl (AO rfl rfl (Af rfl (Bn rfl (by omega) (Ag rfl (Ai rfl (Ag rfl (Ah rfl (Aj 0 rfl rfl) (Ag rfl (Ab rfl (Ag rfl (AO rfl rfl (Ag rfl (H8 rfl rfl (AG rfl rfl (Aa ?_))))))))))))))))))));apply AaX;rfl;(with_reducible assumption);refine Ak (Ac (Ad (Bd 0 rfl rfl rfl (Ab rfl ?_)))))
   refine Bm 1 rfl rfl rfl rfl (Ach _) rfl ?_
   (refine Ab rfl (Aa (An ?_)))
   exact A8 [.agg [.bool (Bk s k).1.leaf,.slice ka (Bk s k).1.keys.length kc,.slice va (Bk s k).1.vals.length vc,.slice ia (Bk s k).1.kids.length ic].toArray,.int .i64 0] ⟨AS 1 rfl rfl rfl,Av rfl,trivial⟩ (d':=d2) (L':=hk::hv::hi::tb bt Tt pv r h c::L3) (Vs.drop (.cons _ (.cons _ (Acb _)))) ⟨hl,_,hk,hv,hi,L3,tc,rfl,rfl,hn0,hp2,fun _=>htc hz⟩
  ·have hF:AZ s k x=((Bk s k).1,200):=by unfold AZ;rw [if_pos ⟨hz,hx⟩]
   rw [hF,hz]
   have hxx:(true ^^((Bk s k).1.leaf==decide (x=1)))=true:=by cases hb:(Bk s k).1.leaf<;>rw [hb] at hx<;>simp at hx⊢<;>omega
   (refine Ab rfl (Aa (Ac (Ac (Ad (Ab rfl (AO rfl rfl (Af rfl (Bn rfl (by omega) (Ag rfl (Ai rfl (Ag rfl (Ah rfl (Aj 0 rfl rfl) (Ag rfl (Ab rfl (Ag rfl (AO rfl rfl (Ag rfl (H8 rfl rfl (AG rfl rfl (Aa ?_))))))))))))))))))));apply Wv;rfl;(with_reducible assumption);refine Ad (Ab rfl (Aa (Ac (Ad (Bd 0 rfl rfl rfl (Ab rfl ?_)))))))
   refine Bm 1 rfl rfl rfl rfl (Ach _) rfl ?_
   (refine Ab rfl (Aa (An ?_)))
   exact A8 [.agg [.bool (Bk s k).1.leaf,.slice ka (Bk s k).1.keys.length kc,.slice va (Bk s k).1.vals.length vc,.slice ia (Bk s k).1.kids.length ic].toArray,.int .i64 200] ⟨AS 1 rfl rfl rfl,Av rfl,trivial⟩ (d':=d2) (L':=hk::hv::hi::tb bt Tt pv r h c::L3) (Vs.drop (.cons _ (.cons _ (Acb _)))) ⟨hl,_,hk,hv,hi,L3,tc,rfl,rfl,hn0,hp2,fun q=>absurd (show(200:Int)=0 from q) (by decide)⟩
 ·have hF:AZ s k x=((Bk s k).1,(Bk s k).2):=by unfold AZ;rw [if_neg (fun q=>hz q.1)]
  rw [hF]
  (refine Ab rfl (Aa (Ac (Ac (Ad (Ab rfl (AO rfl rfl (Af rfl (Bb rfl (by omega) (Ap rfl (Ap rfl (Ap rfl (Ap rfl (Ap rfl (As rfl rfl (Aa (AR rfl (Ak (Ac (Ad (Bd 0 rfl rfl rfl (Ab rfl ?_))))))))))))))))))))))
  refine Bm 1 rfl rfl rfl rfl (Ach _) rfl ?_
  (refine Ab rfl (Aa (An ?_)))
  exact A8 [.agg [.bool (Bk s k).1.leaf,.slice ka (Bk s k).1.keys.length kc,.slice va (Bk s k).1.vals.length vc,.slice ia (Bk s k).1.kids.length ic].toArray,.int .i64 (Bk s k).2] ⟨AS 1 rfl rfl rfl,Av rfl,trivial⟩ (d':=d2) (L':=hk::hv::hi::tb bt Tt pv r h c::L3) (Vs.drop (.cons _ (.cons _ (Acb _)))) ⟨hl,_,hk,hv,hi,L3,tc,rfl,rfl,hn0,hp2,htc⟩
def Qs(P:Program) (f:FuncId):Prop:=∀{d:Ae}{w:Value}{b:List UInt8},AJ d w b→CP P f [w] d (.tuple #[.int .i64 (if Fi b then(Fs b:Int) else 0),.int .i64 (if Fi b then(EK b:Int) else 0),.bool (Fi b)])
def TW:AX:=⟨46,[(.tmp 2),(.tmp 3),(.tmp 4)],(.seq (rG (o1 2 (.mv (kZ 0)) (o1 3 (.mv (kZ 0)) (o1 4 (.mv (.const (.bool false))) .done)))) (.seq (.seq (rG (om 5 0 (oL 6 5 (ob 7 .neq (tP 6) (kZ 7) (om 8 7 (gF 9 8 0 (oF 10 8 (.idx 1 (tP 9) (kZ 0)) (oF 11 8 (.ld none (tP 10)) (oF 12 8 (.bin .neq (tP 11) (.const (.int .u8 1))) (o1 13 (.pick (tP 8) (.const (.bool true)) (tP 12)) .done)))))))))) (.cond (tP 13) (.seq (rG (o1 2 (.mv (kZ 0)) (o1 3 (.mv (kZ 0)) (o1 4 (.mv (.const (.bool false))) .done)))) .ret) .skip)) (.seq (.reg true (pm 14 0 (p1 15 (.idx 1 (tP 14) (kZ 1)) (pl 16 15 (p1 17 (.cvi .i64 (tP 16)) (p1 18 (.bin .shl (tP 17) (.const (.int .u64 8))) (pm 19 0 (p1 20 (.idx 1 (tP 19) (kZ 2)) (pl 21 20 (p1 22 (.cvi .i64 (tP 21)) (p1 23 (.bin .or (tP 18) (tP 22)) (pm 24 0 (p1 25 (.idx 1 (tP 24) (kZ 3)) (pl 26 25 (p1 27 (.cvi .i64 (tP 26)) (p1 28 (.bin .shl (tP 27) (.const (.int .u64 24))) (pm 29 0 (p1 30 (.idx 1 (tP 29) (kZ 4)) (pl 31 30 (p1 32 (.cvi .i64 (tP 31)) (p1 33 (.bin .shl (tP 32) (.const (.int .u64 16))) (p1 34 (.bin .or (tP 28) (tP 33)) (pm 35 0 (p1 36 (.idx 1 (tP 35) (kZ 5)) (pl 37 36 (p1 38 (.cvi .i64 (tP 37)) (p1 39 (.bin .shl (tP 38) (.const (.int .u64 8))) (p1 40 (.bin .or (tP 34) (tP 39)) (pm 41 0 (p1 42 (.idx 1 (tP 41) (kZ 6)) (pl 43 42 (p1 44 (.cvi .i64 (tP 43)) (p1 45 (.bin .or (tP 40) (tP 44)) (pm 2 23 (pm 3 45 (p1 4 (.mv (.const (.bool true))) .done)))))))))))))))))))))))))))))))))))) .ret)))⟩
theorem CO{b:List UInt8}{i:Nat} (h:i<b.length):b.getD i 0=b[i]:=by rw [Acf,Ace h];rfl
set_option maxRecDepth 4000 in
theorem AaP{P:Program}{f:FuncId} (hd:dec P f=some TW):Qs P f:=by
 intro d w b hw
 refine AE hd (Aca rfl) ?_
 show gwp P _ _ _ _ _
 by_cases h7:b.length=7
 ·have g0:=CO (b:=b) (i:=0) (by omega)
  by_cases h1:b[0]'(by omega)=1
  ·have hF:Fi b=true:=by unfold Fi;rw [g0,h1,h7];rfl
   have hb0:(b[0]'(by omega)).toNat=1:=by rw [h1];rfl
   rw [hF]
   have l1:=UInt8.toNat_lt (b[1]'(by omega))
   have l2:=UInt8.toNat_lt (b[2]'(by omega))
   have l3:=UInt8.toNat_lt (b[3]'(by omega))
   have l4:=UInt8.toNat_lt (b[4]'(by omega))
   have l5:=UInt8.toNat_lt (b[5]'(by omega))
   have l6:=UInt8.toNat_lt (b[6]'(by omega))
   have eH:Fs b=(b[1]'(by omega)).toNat*2 ^ 8+(b[2]'(by omega)).toNat:=by unfold Fs;rw [CO (i:=1) (by omega),CO (i:=2) (by omega)]
   have eN:EK b=(((b[3]'(by omega)).toNat*2 ^ 8+(b[4]'(by omega)).toNat)*2 ^ 8+(b[5]'(by omega)).toNat)*2 ^ 8+(b[6]'(by omega)).toNat:=by unfold EK;rw [CO (i:=3) (by omega),CO (i:=4) (by omega),CO (i:=5) (by omega),CO (i:=6) (by omega)]
   rw [if_pos rfl,if_pos rfl,eH,eN]
   generalize e1:(b[1]'(by omega)).toNat=n1 at l1
   generalize e2:(b[2]'(by omega)).toNat=n2 at l2
   generalize e3:(b[3]'(by omega)).toNat=n3 at l3
   generalize e4:(b[4]'(by omega)).toNat=n4 at l4
   generalize e5:(b[5]'(by omega)).toNat=n5 at l5
   generalize e6:(b[6]'(by omega)).toNat=n6 at l6
   have e5':(b[4+1]'(by omega)).toNat=n5:=e5
   have e6':(b[5+1]'(by omega)).toNat=n6:=e6
   (refine Ac (Ad (Ab rfl (Ab rfl (Af rfl (Aa (Ac (Ac (Ad (AI (BD rfl (by assumption) (AP rfl rfl (Af rfl (Bb rfl (by omega) (Ag rfl (AI (Ag rfl (BK (m:=0) (sz:=1) (R:=AM) (by rfl) (by assumption) (by rfl) rfl (by omega) ?_)))))))))))))))));rintro _ _ _ _ _ rfl;refine Ag rfl (Ah rfl (B2 (by assumption) rfl) (Ag rfl (AP rfl rfl (As rfl rfl (Aa (Ar rfl (by omega) (Ak (Ac (Br (AI (BK (m:=1) (sz:=1) (R:=AM) (by rfl) (by assumption) (by rfl) rfl (by omega) ?_)))))))))));rintro _ _ _ _ _ rfl;refine Ah rfl (B2 (by assumption) rfl) (DY rfl (by omega) (by omega) ?_))
   refine NB (a:=n1) 8 (n1*2 ^ 8) (congrArg (fun z:Nat=>Value.int .i64 z) e1) rfl (by omega) rfl (by omega) ?_
   (refine AI (BK (m:=2) (sz:=1) (R:=AM) (by rfl) (by assumption) (by rfl) rfl (by omega) ?_);rintro _ _ _ _ _ rfl;refine Ah rfl (B2 (by assumption) rfl) (DY rfl (by omega) (by omega) ?_))
   refine Ql (a:=n1) (b:=n2) 8 rfl (congrArg (fun z:Nat=>Value.int .i64 z) e2) (by omega) (by omega) (by omega) ?_
   (refine AI (BK (m:=3) (sz:=1) (R:=AM) (by rfl) (by assumption) (by rfl) rfl (by omega) ?_);rintro _ _ _ _ _ rfl;refine Ah rfl (B2 (by assumption) rfl) (DY rfl (by omega) (by omega) ?_))
   refine NB (a:=n3) 24 (n3*2 ^ 24) (congrArg (fun z:Nat=>Value.int .i64 z) e3) rfl (by omega) rfl (by omega) ?_
   (refine AI (BK (m:=4) (sz:=1) (R:=AM) (by rfl) (by assumption) (by rfl) rfl (by omega) ?_);rintro _ _ _ _ _ rfl;refine Ah rfl (B2 (by assumption) rfl) (DY rfl (by omega) (by omega) ?_))
   refine NB (a:=n4) 16 (n4*2 ^ 16) (congrArg (fun z:Nat=>Value.int .i64 z) e4) rfl (by omega) rfl (by omega) ?_
   refine Ql (a:=n3) (b:=n4*2 ^ 16) 24 rfl rfl (by omega) (by omega) (by omega) ?_
   (refine AI (BK (sz:=1) (R:=AM) (by rfl) (by assumption) (by rfl) (Int.natCast_add _ 1).symm (by omega) ?_);rintro _ _ _ _ _ rfl;refine Ah rfl (B2 (by assumption) rfl) (DY rfl (by omega) (by omega) ?_))
   refine NB (a:=n5) 8 (n5*2 ^ 8) (congrArg (fun z:Nat=>Value.int .i64 z) e5') rfl (by omega) rfl (by omega) ?_
   refine Ql (a:=n3*2 ^ 8+n4) (b:=n5*2 ^ 8) 16 (congrArg (fun z:Nat=>Value.int .i64 z) (by omega)) rfl (by omega) (by omega) (by omega) ?_
   (refine AI (BK (sz:=1) (R:=AM) (by rfl) (by assumption) (by rfl) (Int.natCast_add _ 1).symm (by omega) ?_);rintro _ _ _ _ _ rfl;refine Ah rfl (B2 (by assumption) rfl) (DY rfl (by omega) (by omega) ?_))
   refine Ql (a:=(n3*2 ^ 8+n4)*2 ^ 8+n5) (b:=n6) 8 (congrArg (fun z:Nat=>Value.int .i64 z) (by omega)) (congrArg (fun z:Nat=>Value.int .i64 z) e6') (by omega) (by omega) (by omega) ?_
   (refine Ab rfl (Ab rfl (Af rfl (Aa (An ?_)))))
   exact EB [.int .i64 _,.int .i64 _,.bool true] (L':=[]) ⟨Av rfl,Av rfl,Av rfl,trivial⟩ (Aej _) ⟨rfl,rfl,rfl⟩
  ·have hb0:(b[0]'(by omega)).toNat≠1:=fun q=>h1 (UInt8.toNat_inj.1 q)
   have hF:Fi b=false:=by unfold Fi;rw [g0];simp [h1]
   rw [hF]
   (refine Ac (Ad (Ab rfl (Ab rfl (Af rfl (Aa (Ac (Ac (Ad (AI (BD rfl (by assumption) (AP rfl rfl (Af rfl (Bb rfl (by omega) (Ag rfl (AI (Ag rfl (BK (m:=0) (sz:=1) (R:=AM) (by rfl) (by assumption) (by rfl) rfl (by omega) ?_)))))))))))))))));rintro _ _ _ _ _ rfl;refine Ag rfl (Ah rfl (B2 (by assumption) rfl) (Ag rfl (AP rfl rfl (As rfl rfl (Aa (Ax rfl (by omega) (Ac (Ad (Ab rfl (Ab rfl (Af rfl (Aa (An ?_))))))))))))))
   exact EB [.int .i64 0,.int .i64 0,.bool false] (L':=[]) ⟨Av rfl,Av rfl,Av rfl,trivial⟩ (Aej _) ⟨rfl,rfl,rfl⟩
 ·have hF:Fi b=false:=by unfold Fi;simp [h7]
  rw [hF]
  (refine Ac (Ad (Ab rfl (Ab rfl (Af rfl (Aa (Ac (Ac (Ad (AI (BD rfl (by assumption) (AP rfl rfl (Af rfl (Bn rfl (by omega) (Ap rfl (Ap rfl (Ap rfl (Ap rfl (AG rfl rfl (Aa (Bf rfl (Ac (Ad (Ab rfl (Ab rfl (Af rfl (Aa (An ?_))))))))))))))))))))))))))))
  exact EB [.int .i64 0,.int .i64 0,.bool false] (L':=[]) ⟨Av rfl,Av rfl,Av rfl,trivial⟩ (Aej _) ⟨rfl,rfl,rfl⟩
def Ji(P:Program) (f:FuncId):Prop:=∀{d:Ae}{s:PD}{dv pv w:Value}{L:List Ae}{bt:Nat}{Tt:TypeId}{r h c:Int}{b:List UInt8},Pg d s dv pv L→AJ d w b→
 Aw P f [.pointer (some ⟨bt,0,none⟩),w] d (tb bt Tt pv r h c::L) (Ret fun v d' L'=>Le d d'∧∃u L2 tc,v=.tuple #[u,.int .i64 (DE s b).2]∧L'=tb bt Tt pv r h c::L2∧AJ d' u (DE s b).1∧
  Pg d' {s with tc:=tc} dv pv L2∧((DE s b).2=0→tc=s.tc+F3 b))
theorem Uf{b:List UInt8}{m:Nat} (e:(0:Int)=(m:Int)) (h:m<b.length) {n:Nat} (hb:(b.getD 0 0).toNat=n):(b[m]'h).toNat=n:=by
 have:m=0:=by omega
 subst this;rw [←hb,CO h]
def Mb(a0 a1 a2:Nat):AX:=⟨38,[(.tmp 4),(.tmp 5)],(.seq (rG (o1 4 (.mv (.const (.slice none 0 0))) (o1 5 (.mv (kZ 0)) .done))) (.seq (.seq (rG (om 9 1 (oL 10 9 (ob 11 .gtr (tP 10) (kZ 0) (om 12 11 (gT 13 12 1 (oT 14 12 (.idx 1 (tP 13) (kZ 0)) (oT 15 12 (.ld none (tP 14)) (oT 16 12 (.bin .eql (tP 15) (.const (.int .u8 0))) (gP 17 12 16 .done)))))))))) (.cond (tP 17) (.seq (rG (om 18 1 (o1 19 (.sl 1 (tP 18) (some (kZ 1)) none none) (oc 20 a0 [(tP 19)] (om 4 20 (o1 5 (.mv (kZ 0)) .done)))))) .ret) .skip)) (.seq (rG (om 22 1 (oc 23 a1 [(tP 22)] (om 21 23 (oe 24 21 0 (oe 25 21 1 (oe 26 21 2 (om 6 24 (om 7 25 (om 8 26 .done)))))))))) (.seq (.seq (rG (om 27 8 (o1 28 (.un .not (tP 27)) .done))) (.cond (tP 28) (.seq (rG (o1 4 (.mv (.const (.slice none 0 0))) (o1 5 (.mv (kZ 200)) .done))) .ret) .skip)) (.seq (rG (om 29 0 (o1 30 (.nilc (tP 29)) (oj 31 0 30 (ol 32 31 (om 33 6 (om 34 7 (oc 35 a2 [(tP 32),(tP 33),(tP 34)] (oe 36 35 0 (oe 37 35 1 (om 4 36 (om 5 37 .done)))))))))))) .ret)))))⟩
set_option maxRecDepth 4000 in
theorem Wm{P:Program}{f f1 f2 f3:FuncId} (hd:dec P f=some (Mb f1 f2 f3)) (h1:DX AM 1 P f1) (h2:Qs P f2) (h3:OD P f3):Ji P f:=by
 intro d s dv pv w L bt Tt r h c b hp hw
 obtain⟨bp,rfl⟩:=hp.ptr
 obtain⟨wa,wc,rfl⟩:=RSl.val hw
 refine AE hd (Aca rfl) ?_
 show gwp P _ _ _ _ _
 by_cases h0:0<b.length
 ·have g0:=CO (b:=b) (i:=0) h0
  by_cases e0:b[0]=0
  ·have hb0:=Uf (b:=b) rfl h0 (n:=0) (by rw [g0,e0];rfl)
   (refine Ac (Ad (Am rfl (Ab rfl (Aa (Ac (Ac (Ad (Am rfl (AK rfl (BQ rfl rfl (Af rfl (Bn rfl (by omega) (Ag rfl (Am rfl (Ag rfl (BK (sz:=1) (R:=AM) (by rfl) (by assumption) (by rfl) rfl (by omega) ?_))))))))))))))));rintro _ _ _ _ _ rfl;refine Ag rfl (Ah rfl (B2 (by assumption) rfl) (Ag rfl (AO rfl rfl (AG rfl rfl (Aa (Ax rfl (by omega) (Ac (Ad (Am rfl ?_))))))))))
   refine EA (R:=AM) (sz:=1) (n:=1) rfl hw rfl rfl (by omega) (fun v' hv'=>?_)
   have hi:inB b=true:=by unfold inB;rw [g0,e0];simp [h0]
   have hF:DE s b=(b.drop 1,0):=by unfold DE;rw [if_pos hi]
   have hT:F3 b=0:=by unfold F3;rw [if_pos hi]
   rw [hF,hT]
   refine Bi rfl (h1 hv' (by have:=hw.BV;rw [Acn];omega)) (fun v d1 L1 _ ⟨e1,hh,e2,hg⟩=>?_)
   subst e1;subst e2
   obtain⟨ga,gc,rfl⟩:=hg.val
   (refine Am rfl (Ab rfl (Aa (An ?_))))
   exact A8 [.slice ga (b.drop 1).length gc,.int .i64 0] ⟨Av rfl,Av rfl,trivial⟩ (d':=join d1 hh) (L':=tb bt Tt (.pointer (some ⟨bp,0,none⟩)) r h c::L) Vs.freeze ⟨Le.AF _ _,_,L,s.tc,rfl,rfl,Aq.rsl (R:=AM) (sz:=1) hg AW (by omega) (Le.AF _ _) (Le.A5 _ _),hp.mono (Le.AF _ _),fun _=>rfl⟩
  ·have hb0:=Uf (b:=b) rfl h0 (n:=_) (congrArg UInt8.toNat g0)
   have hb1:b[0].toNat≠0:=fun q=>e0 (UInt8.toNat_inj.1 q)
   (refine Ac (Ad (Am rfl (Ab rfl (Aa (Ac (Ac (Ad (Am rfl (AK rfl (BQ rfl rfl (Af rfl (Bn rfl (by omega) (Ag rfl (Am rfl (Ag rfl (BK (sz:=1) (R:=AM) (by rfl) (by assumption) (by rfl) rfl (by omega) ?_))))))))))))))));rintro _ _ _ _ _ rfl;refine Ag rfl (Ah rfl (B2 (by assumption) rfl) (Ag rfl (AO rfl rfl (AG rfl rfl (Aa (Ar rfl (by omega) (Ak (Ac (Ad (Am rfl ?_)))))))))))
   have hi:inB b=false:=by unfold inB;rw [g0];simp [e0]
   cases hf:Fi b with
   |true=>
    have hF:DE s b=(Chn.BG s (Fs b) (EK b)).2:=by unfold DE;rw [hi,if_neg (by decide),hf,if_pos rfl]
    have hT:F3 b=AN (EK b):=by unfold F3;rw [hi,if_neg (by decide)]
    rw [hF,hT]
    have hc:=h2 hw
    rw [hf,if_pos rfl,if_pos rfl] at hc
    refine BP rfl hc ?_
    (refine AU rfl (Ao rfl rfl (Ao rfl rfl (Ao rfl rfl (Ab rfl (Ab rfl (Af rfl (Aa (Ac (Ac (Ad (Af rfl (Bt rfl (Aa (AR rfl (Ak (Ac (Ad (Al rfl (Au rfl (Ai rfl (Ah rfl (Aj 0 rfl rfl) (Ab rfl (Ab rfl ?_))))))))))))))))))))))))
    refine Ba [_] (h3 (k:=Fs b) (size:=EK b) hp) rfl rfl (fun v d2 L2 hl ⟨_,u,tc,e1,hu,hp2,htc⟩=>?_)
    subst e1
    rw [Agh] at htc
    (refine Ao rfl rfl (Ao rfl rfl (AI (Ab rfl (Aa (An ?_))))))
    exact CB rfl rfl (Acb _) ⟨hl,u,L2,tc,rfl,rfl,hu,hp2,htc⟩
   |false=>
    have hF:DE s b=([],200):=by unfold DE;rw [hi,if_neg (by decide),hf,if_neg (by decide)]
    rw [hF]
    have hc:=h2 hw
    rw [hf,if_neg (by decide),if_neg (by decide)] at hc
    refine BP rfl hc ?_
    (refine AU rfl (Ao rfl rfl (Ao rfl rfl (Ao rfl rfl (Ab rfl (Ab rfl (Af rfl (Aa (Ac (Ac (Ad (Af rfl (Bt rfl (Aa (Bf rfl (Ac (Ad (Am rfl (Ab rfl (Aa (An ?_)))))))))))))))))))))
    exact CB rfl rfl (Acb _) ⟨Le.refl _,_,L,s.tc,rfl,rfl,RSl.nil,hp,fun q=>absurd (show(200:Int)=0 from q) (by decide)⟩
 ·(refine Ac (Ad (Am rfl (Ab rfl (Aa (Ac (Ac (Ad (Am rfl (AK rfl (BQ rfl rfl (Af rfl (Bb rfl (by omega) (Ap rfl (Ap rfl (Ap rfl (Ap rfl (As rfl rfl (Aa (AR rfl (Ak (Ac (Ad (Am rfl ?_))))))))))))))))))))))))
  have hi:inB b=false:=by unfold inB;simp [h0]
  cases hf:Fi b with
  |true=>
   have hF:DE s b=(Chn.BG s (Fs b) (EK b)).2:=by unfold DE;rw [hi,if_neg (by decide),hf,if_pos rfl]
   have hT:F3 b=AN (EK b):=by unfold F3;rw [hi,if_neg (by decide)]
   rw [hF,hT]
   have hc:=h2 hw
   rw [hf,if_pos rfl,if_pos rfl] at hc
   refine BP rfl hc ?_
   (refine AU rfl (Ao rfl rfl (Ao rfl rfl (Ao rfl rfl (Ab rfl (Ab rfl (Af rfl (Aa (Ac (Ac (Ad (Af rfl (Bt rfl (Aa (AR rfl (Ak (Ac (Ad (Al rfl (Au rfl (Ai rfl (Ah rfl (Aj 0 rfl rfl) (Ab rfl (Ab rfl ?_))))))))))))))))))))))))
   refine Ba [_] (h3 (k:=Fs b) (size:=EK b) hp) rfl rfl (fun v d2 L2 hl ⟨_,u,tc,e1,hu,hp2,htc⟩=>?_)
   subst e1
   rw [Agh] at htc
   (refine Ao rfl rfl (Ao rfl rfl (AI (Ab rfl (Aa (An ?_))))))
   exact CB rfl rfl (Acb _) ⟨hl,u,L2,tc,rfl,rfl,hu,hp2,htc⟩
  |false=>
   have hF:DE s b=([],200):=by unfold DE;rw [hi,if_neg (by decide),hf,if_neg (by decide)]
   rw [hF]
   have hc:=h2 hw
   rw [hf,if_neg (by decide),if_neg (by decide)] at hc
   refine BP rfl hc ?_
   (refine AU rfl (Ao rfl rfl (Ao rfl rfl (Ao rfl rfl (Ab rfl (Ab rfl (Af rfl (Aa (Ac (Ac (Ad (Af rfl (Bt rfl (Aa (Bf rfl (Ac (Ad (Am rfl (Ab rfl (Aa (An ?_)))))))))))))))))))))
   exact CB rfl rfl (Acb _) ⟨Le.refl _,_,L,s.tc,rfl,rfl,RSl.nil,hp,fun q=>absurd (show(200:Int)=0 from q) (by decide)⟩
def LB(P:Program) (f:FuncId):Prop:=∀{d:Ae}{s:PD}{dv pv w:Value}{L:List Ae}{bt:Nat}{Tt:TypeId}{r h c:Int}{b:List UInt8},PgT d s dv pv L→AJ d w b→
 Aw P f [.pointer (some ⟨bt,0,none⟩),w] d (tb bt Tt pv r h c::L) (Ret fun v d' L'=>Le d d'∧v=.int .i64 (BN s b).2∧∃L2,L'=tb bt Tt pv r h c::L2∧PgT d' (BN s b).1 dv pv L2)
def MR(a0 a1:Nat):AX:=⟨32,[(.tmp 4)],(.seq (rG (o1 4 (.mv (kZ 0)) .done)) (.seq (.seq (rG (om 8 1 (oL 9 8 (ob 10 .gtr (tP 9) (kZ 0) (om 11 10 (gT 12 11 1 (oT 13 11 (.idx 1 (tP 12) (kZ 0)) (oT 14 11 (.ld none (tP 13)) (oT 15 11 (.bin .eql (tP 14) (.const (.int .u8 0))) (gP 16 11 15 .done)))))))))) (.cond (tP 16) (.seq (rG (o1 4 (.mv (kZ 0)) .done)) .ret) .skip)) (.seq (rG (om 18 1 (oc 19 a0 [(tP 18)] (om 17 19 (oe 20 17 0 (oe 21 17 1 (oe 22 17 2 (om 5 20 (om 6 21 (om 7 22 .done)))))))))) (.seq (.seq (rG (om 23 7 (o1 24 (.un .not (tP 23)) .done))) (.cond (tP 24) (.seq (rG (o1 4 (.mv (kZ 200)) .done)) .ret) .skip)) (.seq (rG (om 25 0 (o1 26 (.nilc (tP 25)) (oj 27 0 26 (ol 28 27 (om 29 5 (om 30 6 (oc 31 a1 [(tP 28),(tP 29),(tP 30)] (om 4 31 .done))))))))) .ret)))))⟩
set_option maxRecDepth 4000 in
theorem WY{P:Program}{f f1 f2:FuncId} (hd:dec P f=some (MR f1 f2)) (h1:Qs P f1) (h2:LK P f2):LB P f:=by
 intro d s dv pv w L bt Tt r h c b hp hw
 obtain⟨bp,rfl⟩:=hp.ptr
 obtain⟨wa,wc,rfl⟩:=RSl.val hw
 refine AE hd (Aca rfl) ?_
 show gwp P _ _ _ _ _
 by_cases h0:0<b.length
 ·have g0:=CO (b:=b) (i:=0) h0
  by_cases e0:b[0]=0
  ·have hb0:=Uf (b:=b) rfl h0 (n:=0) (by rw [g0,e0];rfl)
   (refine Ac (Ad (Ab rfl (Aa (Ac (Ac (Ad (Am rfl (AK rfl (BQ rfl rfl (Af rfl (Bn rfl (by omega) (Ag rfl (Am rfl (Ag rfl (BK (sz:=1) (R:=AM) (by rfl) (by assumption) (by rfl) rfl (by omega) ?_)))))))))))))));rintro _ _ _ _ _ rfl;refine Ag rfl (Ah rfl (B2 (by assumption) rfl) (Ag rfl (AO rfl rfl (AG rfl rfl (Aa (Ax rfl (by omega) (Ac (Ad (Ab rfl (Aa (An ?_))))))))))))
   have hi:inB b=true:=by unfold inB;rw [g0,e0];simp [h0]
   have hF:BN s b=(s,0):=by unfold BN;rw [if_pos hi]
   rw [hF]
   exact BF rfl (Acb _) ⟨Le.refl _,rfl,L,rfl,hp⟩
  ·have hb0:=Uf (b:=b) rfl h0 (n:=_) (congrArg UInt8.toNat g0)
   have hb1:b[0].toNat≠0:=fun q=>e0 (UInt8.toNat_inj.1 q)
   (refine Ac (Ad (Ab rfl (Aa (Ac (Ac (Ad (Am rfl (AK rfl (BQ rfl rfl (Af rfl (Bn rfl (by omega) (Ag rfl (Am rfl (Ag rfl (BK (sz:=1) (R:=AM) (by rfl) (by assumption) (by rfl) rfl (by omega) ?_)))))))))))))));rintro _ _ _ _ _ rfl;refine Ag rfl (Ah rfl (B2 (by assumption) rfl) (Ag rfl (AO rfl rfl (AG rfl rfl (Aa (Ar rfl (by omega) (Ak (Ac (Ad (Am rfl ?_)))))))))))
   have hi:inB b=false:=by unfold inB;rw [g0];simp [e0]
   cases hf:Fi b with
   |true=>
    have hF:BN s b=DK s (Fs b) (EK b):=by unfold BN;rw [hi,if_neg (by decide),hf,if_pos rfl]
    rw [hF]
    have hc:=h1 hw
    rw [hf,if_pos rfl,if_pos rfl] at hc
    refine BP rfl hc ?_
    clear hi hf
    (refine AU rfl (Ao rfl rfl (Ao rfl rfl (Ao rfl rfl (Ab rfl (Ab rfl (Af rfl (Aa (Ac (Ac (Ad (Af rfl (Bt rfl (Aa (AR rfl (Ak (Ac (Ad (Al rfl (Au rfl (Ai rfl (Ah rfl (Aj 0 rfl rfl) (Ab rfl (Ab rfl ?_))))))))))))))))))))))))
    refine Ba [_] (WG h2 (k:=Fs b) (size:=EK b) hp) rfl rfl (fun v d2 L2 hl ⟨_,e1,hp2⟩=>?_)
    subst e1
    (refine Ab rfl (Aa (An ?_)))
    exact BF rfl (Acb _) ⟨hl,rfl,L2,rfl,hp2⟩
   |false=>
    have hF:BN s b=(s,200):=by unfold BN;rw [hi,if_neg (by decide),hf,if_neg (by decide)]
    rw [hF]
    have hc:=h1 hw
    rw [hf,if_neg (by decide),if_neg (by decide)] at hc
    refine BP rfl hc ?_
    clear hi hf
    (refine AU rfl (Ao rfl rfl (Ao rfl rfl (Ao rfl rfl (Ab rfl (Ab rfl (Af rfl (Aa (Ac (Ac (Ad (Af rfl (Bt rfl (Aa (Bf rfl (Ac (Ad (Ab rfl (Aa (An ?_))))))))))))))))))))
    exact BF rfl (Acb _) ⟨Le.refl _,rfl,L,rfl,hp⟩
 ·(refine Ac (Ad (Ab rfl (Aa (Ac (Ac (Ad (Am rfl (AK rfl (BQ rfl rfl (Af rfl (Bb rfl (by omega) (Ap rfl (Ap rfl (Ap rfl (Ap rfl (As rfl rfl (Aa (AR rfl (Ak (Ac (Ad (Am rfl ?_)))))))))))))))))))))))
  have hi:inB b=false:=by unfold inB;simp [h0]
  cases hf:Fi b with
  |true=>
   have hF:BN s b=DK s (Fs b) (EK b):=by unfold BN;rw [hi,if_neg (by decide),hf,if_pos rfl]
   rw [hF]
   have hc:=h1 hw
   rw [hf,if_pos rfl,if_pos rfl] at hc
   refine BP rfl hc ?_
   clear hi hf
   (refine AU rfl (Ao rfl rfl (Ao rfl rfl (Ao rfl rfl (Ab rfl (Ab rfl (Af rfl (Aa (Ac (Ac (Ad (Af rfl (Bt rfl (Aa (AR rfl (Ak (Ac (Ad (Al rfl (Au rfl (Ai rfl (Ah rfl (Aj 0 rfl rfl) (Ab rfl (Ab rfl ?_))))))))))))))))))))))))
   refine Ba [_] (WG h2 (k:=Fs b) (size:=EK b) hp) rfl rfl (fun v d2 L2 hl ⟨_,e1,hp2⟩=>?_)
   subst e1
   (refine Ab rfl (Aa (An ?_)))
   exact BF rfl (Acb _) ⟨hl,rfl,L2,rfl,hp2⟩
  |false=>
   have hF:BN s b=(s,200):=by unfold BN;rw [hi,if_neg (by decide),hf,if_neg (by decide)]
   rw [hF]
   have hc:=h1 hw
   rw [hf,if_neg (by decide),if_neg (by decide)] at hc
   refine BP rfl hc ?_
   clear hi hf
   (refine AU rfl (Ao rfl rfl (Ao rfl rfl (Ao rfl rfl (Ab rfl (Ab rfl (Af rfl (Aa (Ac (Ac (Ad (Af rfl (Bt rfl (Aa (Bf rfl (Ac (Ad (Ab rfl (Aa (An ?_))))))))))))))))))))
   exact BF rfl (Acb _) ⟨Le.refl _,rfl,L,rfl,hp⟩
def Nc(a0:Nat):AX:=⟨44,[(.tmp 4),(.tmp 5)],(.seq (rG (o1 4 (.mv (.const (.slice none 0 0))) (o1 5 (.mv (kZ 0)) .done))) (.seq (.seq (rG (om 9 1 (oL 10 9 (ob 11 .leq (tP 10) (kZ 15) .done)))) (.cond (tP 11) (.seq (rG (o1 12 (.bsl 1 1 [(.int .u8 0)] [(0,(.const (.int .u8 0)))]) (om 13 1 (o1 14 (.app 1 1 [(.int .u8 0)] (tP 12) (tP 13)) (om 4 14 (o1 5 (.mv (kZ 0)) .done)))))) .ret) .skip)) (.seq (rG (om 16 0 (o1 17 (.nilc (tP 16)) (oj 18 0 17 (ol 19 18 (om 20 1 (oc 21 a0 [(tP 19),(tP 20)] (om 15 21 (oe 22 15 0 (oe 23 15 1 (om 6 22 (om 7 23 .done)))))))))))) (.seq (rG (om 24 1 (oL 25 24 (om 8 25 .done)))) (.seq (rG (om 26 6 (ob 27 .shr (tP 26) (.const (.int .u64 8)) (o1 28 (.cvi .u8 (tP 27)) (om 29 6 (o1 30 (.cvi .u8 (tP 29)) (om 31 8 (ob 32 .shr (tP 31) (.const (.int .u64 24)) (o1 33 (.cvi .u8 (tP 32)) (om 34 8 (ob 35 .shr (tP 34) (.const (.int .u64 16)) (o1 36 (.cvi .u8 (tP 35)) (om 37 8 (ob 38 .shr (tP 37) (.const (.int .u64 8)) (o1 39 (.cvi .u8 (tP 38)) (om 40 8 (o1 41 (.cvi .u8 (tP 40)) (o1 42 (.bsl 7 1 [(.int .u8 0)] [(0,(.const (.int .u8 1))),(1,(tP 28)),(2,(tP 30)),(3,(tP 33)),(4,(tP 36)),(5,(tP 39)),(6,(tP 41))]) (om 43 7 (om 4 42 (om 5 43 .done))))))))))))))))))))) .ret)))))⟩
theorem Yv{s:PD} (hG:Pgr.Good s) {b:List UInt8}:0≤(BY s b).2.1∧(BY s b).2.1≤16384:=by
 obtain⟨h1, -⟩:=Jr (n:=AN b.length) (Tk.nil s)
 unfold BY
 by_cases hz:(BR s [] (AN b.length)).2.2=0
 ·have ht:Chn.By s (AN b.length)=BR s [] (AN b.length):=by unfold Chn.By;rw [if_pos hz]
  rw [ht]
  simp only [hz,if_true]
  generalize (BR s [] (AN b.length)).2.1=l at h1
  cases l with
  |nil=>show 0≤(0:Int)∧(0:Int)≤16384;decide
  |cons k l=>
   obtain⟨j,j1,j2, -⟩:=h1.was k (Acu ..)
   have:=hG.inn
   have:=hG.syn
   show 0≤k∧k≤16384
   omega
 ·have ht:(Chn.By s (AN b.length)).2.2≠0:=by unfold Chn.By;rw [if_neg hz];exact hz
  simp only [ht,if_false]
  show 0≤(0:Int)∧(0:Int)≤16384
  decide
def HB(P:Program) (f:FuncId):Prop:=∀{d:Ae}{s:PD}{dv pv:Value}{L:List Ae}{bt:Nat}{Tt:TypeId}{r h c k:Int}{cs:List Value}{n:AA},PgT d s dv pv L→Cx d cs n→A0 n≤1000000000000→
 Aw P f [.pointer (some ⟨bt,0,none⟩),.int .i64 k,.agg cs.toArray] d (tb bt Tt pv r h c::L) (Ret fun v d' L'=>Le d d'∧v=.tuple #[.int .i64 (Bo s k n).2.1,.int .i64 (Bo s k n).2.2]∧∃L2,L'=tb bt Tt pv r h c::L2∧PgT d' (Bo s k n).1 dv pv L2)
theorem Cx.four{d:Ae}{cs:List Value}{n:AA} (h:Cx d cs n):∃ka kc va vc ia ic,cs=[.bool n.leaf,.slice ka n.keys.length kc,.slice va n.vals.length vc,.slice ia n.kids.length ic]:=by
 obtain⟨kv,vv,iv,rfl,a1,a2,a3⟩:=h
 obtain⟨x1,x2,rfl⟩:=a1.val
 obtain⟨y1,y2,rfl⟩:=a2.val
 obtain⟨z1,z2,rfl⟩:=a3.val
 exact⟨_,_,_,_,_,_,rfl⟩
def Ol(a0 a1 a2 a3:Nat):AX:=⟨64,[(.tmp 6),(.tmp 7)],(.seq (rG (o1 5 (.box (tP 2)) (o1 6 (.mv (kZ 0)) (o1 7 (.mv (kZ 0)) .done)))) (.seq (rG (o1 14 (.ld (some 4) (tP 5)) (oc 15 a0 [(tP 14)] (om 13 15 (oe 16 13 0 (oe 17 13 1 (om 8 16 (om 9 17 .done)))))))) (.seq (.seq (rG (om 18 9 (ob 19 .neq (tP 18) (kZ 0) .done))) (.cond (tP 19) (.seq (rG (om 20 9 (o1 6 (.mv (kZ 0)) (om 7 20 .done)))) .ret) .skip)) (.seq (.seq (rG (om 21 1 (ob 22 .geq (tP 21) (kZ 0) .done))) (.cond (tP 22) (.seq (rG (om 23 0 (o1 24 (.nilc (tP 23)) (oj 25 0 24 (ol 26 25 (om 27 1 (om 28 8 (oc 29 a1 [(tP 26),(tP 27),(tP 28)] (om 10 29 .done))))))))) (.seq (rG (om 30 10 (ob 31 .neq (tP 30) (kZ 240) .done))) (.cond (tP 31) (.seq (rG (om 32 1 (om 33 10 (om 6 32 (om 7 33 .done))))) .ret) .skip))) .skip)) (.seq (rG (om 35 0 (o1 36 (.nilc (tP 35)) (oj 37 0 36 (ol 38 37 (oc 39 a2 [(tP 38)] (om 34 39 (oe 40 34 0 (oe 41 34 1 (om 11 40 (om 9 41 .done))))))))))) (.seq (.seq (rG (om 42 9 (ob 43 .neq (tP 42) (kZ 0) .done))) (.cond (tP 43) (.seq (rG (om 44 9 (o1 6 (.mv (kZ 0)) (om 7 44 .done)))) .ret) .skip)) (.seq (.seq (rG (om 45 1 (ob 46 .geq (tP 45) (kZ 0) .done))) (.cond (tP 46) (.seq (rG (om 47 0 (o1 48 (.nilc (tP 47)) (oj 49 0 48 (ol 50 49 (om 51 1 (oc 52 a3 [(tP 50),(tP 51)] (om 12 52 .done)))))))) (.seq (rG (om 53 12 (ob 54 .neq (tP 53) (kZ 0) .done))) (.cond (tP 54) (.seq (rG (om 55 12 (o1 6 (.mv (kZ 0)) (om 7 55 .done)))) .ret) .skip))) .skip)) (.seq (rG (om 56 11 (om 57 0 (o1 58 (.nilc (tP 57)) (oj 59 0 58 (ol 60 59 (om 61 11 (om 62 8 (oc 63 a1 [(tP 60),(tP 61),(tP 62)] (om 6 56 (om 7 63 .done))))))))))) .ret))))))))⟩
set_option maxRecDepth 4000 in
theorem XG{P:Program}{f f1 f2 f3 f4:FuncId} (hd:dec P f=some (Ol f1 f2 f3 f4)) (h1:LA P f1) (h2:NA P f2) (h3:Pgr.FM P f3) (h4:Pgr.Gx P f4):HB P f:=by
 intro d s dv pv L bt Tt r h c k cs n hp hn hz
 obtain⟨bp,rfl⟩:=hp.ptr
 have hn0:=hn
 obtain⟨ka,kc,va,vc,ia,ic,rfl⟩:=Cx.four hn
 refine AE hd (Aca rfl) ?_
 show gwp P _ _ _ _ _
 apply Ac;apply Ad
 refine Cl rfl (fun b5 T5=>?_)
 (refine Ab rfl (Ab rfl (Aa (Ac (Ad (Bd 0 rfl rfl rfl ?_))))))
 refine Bi rfl (U3 h1 hn0 hz) (fun v d2 L2 _ ⟨e0,u,g,e1,e2,hg⟩=>?_)
 subst e0;subst e1;subst e2
 obtain⟨ua,uc,rfl⟩:=hg.val
 cases hr:Bv n with
 |false=>
  have hF:Bo s k n=(s,0,200):=by unfold Bo;rw [hr,if_neg (by decide)]
  rw [hF]
  rw [hr,if_neg (by decide)] at hg
  rw [if_neg (by decide),if_neg (by decide)]
  clear hr hF
  (refine AU rfl (Ao rfl rfl (Ao rfl rfl (Am rfl (Ab rfl (Aa (Ac (Ac (Ad (Ab rfl (AP rfl rfl (Aa (Ax rfl (by omega) (Ac (Ad (Ab rfl (Ab rfl (Ab rfl (Aa (An ?_))))))))))))))))))))
  exact CB (L':=tb bt Tt (.pointer (some ⟨bp,0,none⟩)) r h c::L) rfl rfl (.cons _ (.cons _ (Acb _))) ⟨Le.refl _,rfl,L,rfl,hp⟩
 |true=>
  rw [hr,if_pos rfl] at hg
  rw [if_pos rfl,if_pos rfl]
  obtain⟨d3,hle,v1,hb⟩:∃d3,Le d2 d3∧Vs d2 [g] d3 []∧AJ d3 (.slice ua (B3 n).length uc) (B3 n):=⟨join d2 g,Le.AF _ _,Vs.freeze,Aq.rsl (R:=AM) (sz:=1) hg AW (by omega) (Le.AF _ _) (Le.A5 _ _)⟩
  have hp3:=hp.mono hle
  refine B6 _ _ (Vs.app v1 _) ?_
  have hP:Bo s k n=if 0≤k∧(s.put k (B3 n)).2≠240 then((s.put k (B3 n)).1,k,(s.put k (B3 n)).2)
    else if s.AT.2.2≠0 then(s.AT.1,0,s.AT.2.2)
    else if 0≤k then
     if (s.AT.1.drop k).2≠0 then((s.AT.1.drop k).1,0,(s.AT.1.drop k).2)
     else(((s.AT.1.drop k).1.put s.AT.2.1 (B3 n)).1,s.AT.2.1,((s.AT.1.drop k).1.put s.AT.2.1 (B3 n)).2)
    else((s.AT.1.put s.AT.2.1 (B3 n)).1,s.AT.2.1,(s.AT.1.put s.AT.2.1 (B3 n)).2):=by unfold Bo;rw [hr,if_pos rfl]
  clear hr
  generalize B3 n=pg at hb hP
  by_cases hk:0≤k
  ·(refine AU rfl (Ao rfl rfl (Ao rfl rfl (Am rfl (Ab rfl (Aa (Ac (Ac (Ad (Ab rfl (AP rfl rfl (Aa (Ar rfl (by omega) (Ak (Ac (Ac (Ad (Ab rfl (DF rfl rfl (Aa (Ax rfl (by omega) (Ac (Ad (Al rfl (Au rfl (Ai rfl (Ah rfl (Aj 1 rfl rfl) (Ab rfl (Am rfl ?_)))))))))))))))))))))))))))))
   refine Ba [_,_] (Yq h2 hp3 (k:=k) hb) rfl rfl (fun w d4 L4 hl4 ⟨e4,hp4⟩=>?_)
   subst e4
   by_cases he:(s.put k pg).2=240
   ·have hs4:(s.put k pg).1=s:=by
     unfold PD.put at he⊢
     by_cases q1:s.kind k=1
     ·by_cases q2:pg.length=256
      ·simp only [if_pos q1,if_pos q2] at he;exact absurd he (by decide)
      ·simp only [if_pos q1,if_neg q2]
     ·simp only [if_neg q1]
    rw [hs4] at hp4
    rw [if_neg (fun q=>q.2 he)] at hP
    rw [he]
    have hb4:=RSl.mono (R:=AM) AW hb hl4
    (refine Ab rfl (Aa (Ac (Ad (Ab rfl (AP rfl rfl (Aa (Ar rfl (by omega) (Ak (Ac (Ad (Al rfl (Au rfl (Ai rfl (Ah rfl (Aj 1 rfl rfl) ?_)))))))))))))))
    refine Ba [_,_] (YP h3 hp4) rfl rfl (fun w d5 L5 hl5 ⟨e5,hp5⟩=>?_)
    subst e5
    have hb5:=RSl.mono (R:=AM) AW hb4 hl5
    by_cases ht:s.AT.2.2=0
    ·rw [if_neg (fun q=>q ht),if_pos hk] at hP
     rw [ht]
     (refine AU rfl (Ao rfl rfl (Ao rfl rfl (Ab rfl (Ab rfl (Aa (Ac (Ac (Ad (Ab rfl (AP rfl rfl (Aa (Ar rfl (by omega) (Ak (Ac (Ac (Ad (Ab rfl (DF rfl rfl (Aa (Ax rfl (by omega) (Ac (Ad (Al rfl (Au rfl (Ai rfl (Ah rfl (Aj 1 rfl rfl) (Ab rfl ?_))))))))))))))))))))))))))))
     refine Ba [_,_] (Uo h4 hp5 (k:=k)) rfl rfl (fun w d6 L6 hl6 ⟨e6,hp6⟩=>?_)
     subst e6
     by_cases hd6:(s.AT.1.drop k).2=0
     ·rw [if_neg (fun q=>q hd6)] at hP
      rw [hd6,hP]
      have hb6:=RSl.mono (R:=AM) AW hb5 hl6
      (refine Ab rfl (Aa (Ac (Ad (Ab rfl (AP rfl rfl (Aa (Ar rfl (by omega) (Ak (Ac (Ad (Ab rfl (Al rfl (Au rfl (Ai rfl (Ah rfl (Aj 1 rfl rfl) (Ab rfl (Am rfl ?_))))))))))))))))))
      refine Ba [_,_] (Yq h2 hp6 (k:=s.AT.2.1) hb6) rfl rfl (fun w d7 L7 hl7 ⟨e7,hp7⟩=>?_)
      subst e7
      (refine Ab rfl (Ab rfl (Aa (An ?_))))
      exact CB (L':=tb bt Tt (.pointer (some ⟨bp,0,none⟩)) r h c::L7) rfl rfl (.cons _ (Acb _)) ⟨(hle.trans hl4).trans ((hl5.trans hl6).trans hl7),rfl,L7,rfl,hp7⟩
     ·rw [if_pos hd6] at hP
      rw [hP]
      (refine Ab rfl (Aa (Ac (Ad (Ab rfl (AP rfl rfl (Aa (Ax rfl (by omega) (Ac (Ad (Ab rfl (Ab rfl (Ab rfl (Aa (An ?_)))))))))))))))
      exact CB (L':=tb bt Tt (.pointer (some ⟨bp,0,none⟩)) r h c::L6) rfl rfl (.cons _ (Acb _)) ⟨(hle.trans hl4).trans (hl5.trans hl6),rfl,L6,rfl,hp6⟩
    ·rw [if_pos ht] at hP
     rw [hP]
     (refine AU rfl (Ao rfl rfl (Ao rfl rfl (Ab rfl (Ab rfl (Aa (Ac (Ac (Ad (Ab rfl (AP rfl rfl (Aa (Ax rfl (by omega) (Ac (Ad (Ab rfl (Ab rfl (Ab rfl (Aa (An ?_))))))))))))))))))))
     exact CB (L':=tb bt Tt (.pointer (some ⟨bp,0,none⟩)) r h c::L5) rfl rfl (.cons _ (Acb _)) ⟨(hle.trans hl4).trans hl5,rfl,L5,rfl,hp5⟩
   ·rw [if_pos ⟨hk,he⟩] at hP
    rw [hP]
    (refine Ab rfl (Aa (Ac (Ad (Ab rfl (AP rfl rfl (Aa (Ax rfl (by omega) (Ac (Ad (Ab rfl (Ab rfl (Ab rfl (Ab rfl (Aa (An ?_))))))))))))))))
    exact CB (L':=tb bt Tt (.pointer (some ⟨bp,0,none⟩)) r h c::L4) rfl rfl (.cons _ (Acb _)) ⟨hle.trans hl4,rfl,L4,rfl,hp4⟩
  ·rw [if_neg (fun q=>hk q.1)] at hP
   (refine AU rfl (Ao rfl rfl (Ao rfl rfl (Am rfl (Ab rfl (Aa (Ac (Ac (Ad (Ab rfl (AP rfl rfl (Aa (Ar rfl (by omega) (Ak (Ac (Ac (Ad (Ab rfl (DF rfl rfl (Aa (Ar rfl (by omega) (Ak (Ac (Ad (Al rfl (Au rfl (Ai rfl (Ah rfl (Aj 1 rfl rfl) ?_))))))))))))))))))))))))))))
   refine Ba [_,_] (YP h3 hp3) rfl rfl (fun w d5 L5 hl5 ⟨e5,hp5⟩=>?_)
   subst e5
   have hb5:=RSl.mono (R:=AM) AW hb hl5
   by_cases ht:s.AT.2.2=0
   ·rw [if_neg (fun q=>q ht),if_neg hk] at hP
    rw [ht,hP]
    (refine AU rfl (Ao rfl rfl (Ao rfl rfl (Ab rfl (Ab rfl (Aa (Ac (Ac (Ad (Ab rfl (AP rfl rfl (Aa (Ar rfl (by omega) (Ak (Ac (Ac (Ad (Ab rfl (DF rfl rfl (Aa (Ar rfl (by omega) (Ak (Ac (Ad (Ab rfl (Al rfl (Au rfl (Ai rfl (Ah rfl (Aj 1 rfl rfl) (Ab rfl (Am rfl ?_)))))))))))))))))))))))))))))))
    refine Ba [_,_] (Yq h2 hp5 (k:=s.AT.2.1) hb5) rfl rfl (fun w d7 L7 hl7 ⟨e7,hp7⟩=>?_)
    subst e7
    (refine Ab rfl (Ab rfl (Aa (An ?_))))
    exact CB (L':=tb bt Tt (.pointer (some ⟨bp,0,none⟩)) r h c::L7) rfl rfl (.cons _ (Acb _)) ⟨(hle.trans hl5).trans hl7,rfl,L7,rfl,hp7⟩
   ·rw [if_pos ht] at hP
    rw [hP]
    (refine AU rfl (Ao rfl rfl (Ao rfl rfl (Ab rfl (Ab rfl (Aa (Ac (Ac (Ad (Ab rfl (AP rfl rfl (Aa (Ax rfl (by omega) (Ac (Ad (Ab rfl (Ab rfl (Ab rfl (Aa (An ?_))))))))))))))))))))
    exact CB (L':=tb bt Tt (.pointer (some ⟨bp,0,none⟩)) r h c::L5) rfl rfl (.cons _ (Acb _)) ⟨hle.trans hl5,rfl,L5,rfl,hp5⟩
end Go.Gk.Tre
end
section
namespace Go.Gk.Tre
open Go Go.Gk Go.Gk.Node
theorem Sr{n:AA} (h:A0 n≤1000000000000):A0 (AV n)≤1000000000000∧A0 (A6 n)≤1000000000000:=by
 by_cases hc:C6 n=true
 ·have hc':=hc
  simp only [C6,Acd,decide_eq_true_eq] at hc'
  obtain⟨hs,hm⟩:=hc'
  simp only [A3,Acd] at hs
  obtain⟨hks,hrest⟩:=hs
  obtain⟨ha1, -, -⟩:=M4 n
  cases hlf:n.leaf with
  |true=>
   simp only [hlf,if_true] at hm hrest
   have eL:AV n=⟨true,n.keys.take (atD n),n.vals.take (atD n),[]⟩:=by simp [AV,hc,hlf]
   have eR:A6 n=⟨true,n.keys.drop (atD n),n.vals.drop (atD n),[]⟩:=by simp [A6,hc,hlf]
   have hall:A0 n=2+Bj n n.keys.length:=by simp [A0,hlf]
   have hcl:Bj (AV n) (AV n).keys.length=Bj n (atD n):=by
    rw [eL]
    simp only [Acw,Agw (show atD n≤n.keys.length by omega)]
    exact G3 n _ hlf.symm (a:=atD n) (fun j hj=>by simp only [Da,getD_take hj]) (fun _ j hj=>by simp only [EL,getD_take hj]) _ (Ach _)
   have hcr:Bj (A6 n) (A6 n).keys.length+Bj n (atD n)=Bj n n.keys.length:=by
    rw [eR]
    simp only [Acn]
    have:=G4 n ⟨true,n.keys.drop (atD n),n.vals.drop (atD n),[]⟩ hlf.symm (a:=atD n) (fun j=>by simp only [Da,Gf]) (fun _ j=>by simp only [EL,Gf]) (n.keys.length - atD n)
    rw [this];congr 1;omega
   have hmo:=F9 n (show atD n≤n.keys.length by omega)
   have sL:A0 (AV n)=2+Bj (AV n) (AV n).keys.length:=by rw [eL];simp [A0]
   have sR:A0 (A6 n)=2+Bj (A6 n) (A6 n).keys.length:=by rw [eR];simp [A0]
   omega
  |false=>
   simp only [hlf,Aci,if_false] at hm hrest
   simp only [Acd,decide_eq_true_eq] at hrest
   obtain⟨⟨hvl,hil⟩,hia⟩:=hrest
   have ha4:at2 n≤n.keys.length - 1:=by simp only [at2];omega
   have ha5:2≤at2 n:=by simp only [at2];omega
   have eL:AV n=⟨false,n.keys.take (at2 n - 1),[],n.kids.take (at2 n)⟩:=by simp [AV,hc,hlf]
   have eR:A6 n=⟨false,n.keys.drop (at2 n),[],n.kids.drop (at2 n)⟩:=by simp [A6,hc,hlf]
   have hall:A0 n=2+2*(n.keys.length+1)+Bj n n.keys.length:=by simp only [A0,hlf,Aci,if_false,hil]
   have hcl:Bj (AV n) (AV n).keys.length=Bj n (at2 n - 1):=by
    rw [eL]
    simp only [Acw,Agw (show at2 n - 1≤n.keys.length by omega)]
    exact G3 n _ hlf.symm (a:=at2 n - 1) (fun j hj=>by simp only [Da,getD_take hj]) (fun h=>by rw [hlf] at h;cases h) _ (Ach _)
   have hcr:Bj (A6 n) (A6 n).keys.length+Bj n (at2 n)=Bj n n.keys.length:=by
    rw [eR]
    simp only [Acn]
    have:=G4 n ⟨false,n.keys.drop (at2 n),[],n.kids.drop (at2 n)⟩ hlf.symm (a:=at2 n) (fun j=>by simp only [Da,Gf]) (fun h=>by rw [hlf] at h;cases h) (n.keys.length - at2 n)
    rw [this];congr 1;omega
   have hmo:=F9 n (show at2 n - 1≤n.keys.length by omega)
   have sL:A0 (AV n)=2+2*(n.kids.take (at2 n)).length+Bj (AV n) (AV n).keys.length:=by rw [eL];simp [A0]
   have sR:A0 (A6 n)=2+2*(n.kids.drop (at2 n)).length+Bj (A6 n) (A6 n).keys.length:=by rw [eR];simp [A0]
   rw [Acw] at sL
   rw [Acn] at sR
   omega
 ·have eL:AV n=⟨false,[],[],[]⟩:=by simp [AV,hc]
  have eR:A6 n=⟨false,[],[],[]⟩:=by simp [A6,hc]
  rw [eL,eR];decide
end Go.Gk.Tre
end
section
namespace Go.Gk.Tre
open Go Go.Gk Go.Gk.Dev Go.Gk.Cch Go.Gk.Pgr Go.Gk.Chn Go.Gk.Node
attribute [local irreducible] gwp gws xwp
def Hq(P:Program) (f:FuncId):Prop:=∀{d:Ae}{s:PD}{dv pv:Value}{L:List Ae}{bt:Nat}{Tt:TypeId}{r h c k:Int}{cs:List Value}{n:AA},PgT d s dv pv L→Cx d cs n→Small n→
 Aw P f [.pointer (some ⟨bt,0,none⟩),.int .i64 k,.agg cs.toArray] d (tb bt Tt pv r h c::L) (Ret fun v d' L'=>Le d d'∧∃ua uc L2,v=.tuple #[.agg [.int .i64 (A9 s k n).2.1.page,.int .i64 (A9 s k n).2.1.other,.slice ua (A9 s k n).2.1.key.length uc,.int .i64 (A9 s k n).2.1.size].toArray,.int .i64 (A9 s k n).2.2]∧
  AJ d' (.slice ua (A9 s k n).2.1.key.length uc) (A9 s k n).2.1.key∧L'=tb bt Tt pv r h c::L2∧PgT d' (A9 s k n).1 dv pv L2)
def MU(a0 a1 a2 a3:Nat):AX:=⟨63,[(.cell 6 (some 4)),(.tmp 7)],(.seq (rG (o1 5 (.box (tP 2)) (o1 6 (.alo (.agg #[(.int .i64 0),(.int .i64 0),(.slice none 0 0),(.int .i64 0)])) (o1 7 (.mv (kZ 0)) .done)))) (.seq (.seq (rG (o1 16 (.ld (some 4) (tP 5)) (oc 17 a0 [(tP 16)] .done))) (.cond (tP 17) (.seq (rG (om 19 0 (om 20 1 (o1 21 (.ld (some 4) (tP 5)) (oc 22 a1 [(tP 19),(tP 20),(tP 21)] (om 18 22 (oe 23 18 0 (oe 24 18 1 (om 8 23 (om 9 24 .done)))))))))) (.seq (rG (om 25 8 (o1 26 (.ld (some 4) (tP 5)) (oc 27 a2 [(tP 26)] (o1 28 (.bld [(0,1),(1,1),(2,1),(3,1)] [(.int .i64 0),(.int .i64 0),(.slice none 0 0),(.int .i64 0)] [(0,(tP 25)),(1,(kZ (-1))),(3,(tP 27))]) (om 29 9 (o0 (.st 4 (tP 6) (tP 28)) (om 7 29 .done)))))))) .ret)) .skip)) (.seq (rG (o1 31 (.ld (some 4) (tP 5)) (oc 32 a3 [(tP 31)] (om 30 32 (oe 33 30 0 (oe 34 30 1 (oe 35 30 2 (oe 36 30 3 (o1 10 (.alo (.agg #[(.bool false),(.slice none 0 0),(.slice none 0 0),(.slice none 0 0)])) (o1 11 (.alo (.agg #[(.bool false),(.slice none 0 0),(.slice none 0 0),(.slice none 0 0)])) (o0 (.st 4 (tP 10) (tP 33)) (o0 (.st 4 (tP 11) (tP 34)) (om 12 35 (om 13 36 .done)))))))))))))) (.seq (.seq (rG (om 37 13 (ob 38 .neq (tP 37) (kZ 0) .done))) (.cond (tP 38) (.seq (rG (o1 39 (.bld [(0,1),(1,1),(2,1),(3,1)] [(.int .i64 0),(.int .i64 0),(.slice none 0 0),(.int .i64 0)] []) (om 40 13 (o0 (.st 4 (tP 6) (tP 39)) (om 7 40 .done))))) .ret) .skip)) (.seq (rG (om 42 0 (om 43 1 (o1 44 (.ld (some 4) (tP 10)) (oc 45 a1 [(tP 42),(tP 43),(tP 44)] (om 41 45 (oe 46 41 0 (oe 47 41 1 (om 14 46 (om 13 47 .done)))))))))) (.seq (.seq (rG (om 48 13 (ob 49 .neq (tP 48) (kZ 0) .done))) (.cond (tP 49) (.seq (rG (o1 50 (.bld [(0,1),(1,1),(2,1),(3,1)] [(.int .i64 0),(.int .i64 0),(.slice none 0 0),(.int .i64 0)] []) (om 51 13 (o0 (.st 4 (tP 6) (tP 50)) (om 7 51 .done))))) .ret) .skip)) (.seq (rG (om 53 0 (o1 54 (.ld (some 4) (tP 11)) (oc 55 a1 [(tP 53),(kZ (-1)),(tP 54)] (om 52 55 (oe 56 52 0 (oe 57 52 1 (om 15 56 (om 13 57 .done))))))))) (.seq (rG (om 58 14 (om 59 15 (om 60 12 (o1 61 (.bld [(0,1),(1,1),(2,1),(3,1)] [(.int .i64 0),(.int .i64 0),(.slice none 0 0),(.int .i64 0)] [(0,(tP 58)),(1,(tP 59)),(2,(tP 60)),(3,(kZ 256))]) (om 62 13 (o0 (.st 4 (tP 6) (tP 61)) (om 7 62 .done)))))))) .ret))))))))⟩
set_option maxRecDepth 4000 in
set_option maxHeartbeats 2000000 in
theorem Xz{P:Program}{f f1 f2 f3 f4:FuncId} (hd:dec P f=some (MU f1 f2 f3 f4)) (h1:I6 P f1) (h2:HB P f2) (h3:Ll P f3) (h4:Pb P f4):Hq P f:=by
 intro d s dv pv L bt Tt r h c k cs n hp hn hz
 have hn0:=hn
 obtain⟨ka,kc,va,vc,ia,ic,rfl⟩:=Cx.four hn
 refine AE hd (Aca rfl) ?_
 show gwp P _ _ _ _ _
 apply Ac;apply Ad
 refine Cl rfl (fun b5 T5=>?_)
 refine BU (fun b6 T6=>?_)
 (refine Ab rfl (Aa (Ac (Ac (Ad (Bd 1 rfl rfl rfl ?_))))))
 have hrt:=h1 hn0 hz.1
 cases hr:Bv n with
 |true=>
  rw [hr] at hrt
  have hF:A9 s k n=((Bo s k n).1,⟨(Bo s k n).2.1, -1,[],A0 n⟩,(Bo s k n).2.2):=by unfold A9;rw [hr,if_pos rfl]
  rw [hF]
  clear hr
  refine BP rfl hrt ?_
  (refine Aa (Bf rfl (Ac (Ad (Al rfl (Ab rfl (Bd 1 rfl rfl rfl ?_)))))))
  refine Ba [_,_] (h2 (k:=k) hp hn0 hz.1) rfl rfl (fun v d2 L2 hl ⟨_,e1,L3,e2,hp2⟩=>?_)
  subst e1;subst e2
  (refine AU rfl (Ao rfl rfl (Ao rfl rfl (Ab rfl (Ab rfl (Aa (Ac (Ad (Ab rfl (Bd 1 rfl rfl rfl ?_))))))))))
  refine BP rfl (h3 (hn0.mono hl) hz.1) ?_
  (refine BI rfl (Ab rfl ?_))
  refine Bm 0 rfl rfl rfl rfl (Ach _) rfl ?_
  (refine Ab rfl (Aa (An ?_)))
  exact A8 [.agg [.int .i64 (Bo s k n).2.1,.int .i64 (-1),.slice none 0 0,.int .i64 (A0 n:Nat)].toArray,.int .i64 (Bo s k n).2.2] ⟨AS 0 rfl rfl rfl,Av rfl,trivial⟩ (d':=d2) (L':=tb bt Tt pv r h c::L3) (Vs.drop (.cons _ (.cons _ (Acb _)))) ⟨hl,none,0,L3,rfl,RSl.nil,rfl,hp2⟩
 |false=>
  rw [hr] at hrt
  have hF:A9 s k n=if C6 n then if (Bo s k (AV n)).2.2=0 then((Bo (Bo s k (AV n)).1 (-1) (A6 n)).1,⟨(Bo s k (AV n)).2.1,(Bo (Bo s k (AV n)).1 (-1) (A6 n)).2.1,BA n,256⟩,(Bo (Bo s k (AV n)).1 (-1) (A6 n)).2.2)
    else((Bo s k (AV n)).1,Cc,(Bo s k (AV n)).2.2) else(s,Cc,200):=by unfold A9;rw [hr,if_neg (by decide)]
  rw [hF]
  clear hr
  refine BP rfl hrt ?_
  (refine Aa (AR rfl (Ak (Ac (Ad (Bd 1 rfl rfl rfl ?_))))))
  refine Bi rfl (h4 hn0 hz) (fun v d2 L2 _ ⟨e0,ca,cb,kv,La,Lb,g,e1,e2,oa,ob,og⟩=>?_)
  subst e0;subst e1;subst e2
  obtain⟨ga,gc,rfl⟩:=og.val
  obtain⟨d3,v1,hl3,hf⟩:=Vs.HF d2 (La++Lb++[g])
  have na:=DG.Ij oa hl3 (fun h hm=>hf h (by simp [hm]))
  have nb:=DG.Ij ob hl3 (fun h hm=>hf h (by simp [hm]))
  have hkey:AJ d3 (.slice ga (BA n).length gc) (BA n):=Aq.rsl (R:=AM) (sz:=1) og AW (by omega) hl3 (hf g (by simp))
  have hp3:=hp.mono hl3
  refine B6 _ _ (Vs.app v1 _) ?_
  obtain⟨xa,xc,ya,yc,za,zc,rfl⟩:=Cx.four na
  obtain⟨xa',xc',ya',yc',za',zc',rfl⟩:=Cx.four nb
  by_cases hcb:C6 n=true
  ·have hcb2:(if C6 n=true then(0:Int) else 200)=0:=if_pos hcb
   rw [if_pos hcb]
   obtain⟨zs1,zs2⟩:=Sr hz.1
   rw [hcb2]
   clear hcb hcb2 hF
   (refine AU rfl (Ao rfl rfl (Ao rfl rfl (Ao rfl rfl (Ao rfl rfl (BU (fun _ _=>BU (fun _ _=>?_))))))))
   rename_i b11 T11
   refine Bm 1 rfl rfl rfl rfl (Ach _) rfl ?_
   refine Bm 0 rfl rfl rfl rfl (Ach _) rfl ?_
   (refine Am rfl (Ab rfl (Aa (Ac (Ac (Ad (Ab rfl (AP rfl rfl (Aa (Ar rfl (by omega) (Ak (Ac (Ad (Al rfl (Ab rfl (Bd 1 rfl rfl rfl ?_))))))))))))))))
   refine Ba [_,_,_,_] (h2 (k:=k) hp3 na zs1) rfl rfl (fun v d4 L4 hl4 ⟨_,e4,L5,e5,hp5⟩=>?_)
   subst e4;subst e5
   by_cases hz4:(Bo s k (AV n)).2.2=0
   ·rw [if_pos hz4]
    rw [hz4]
    (refine AU rfl (Ao rfl rfl (Ao rfl rfl (Ab rfl (Ab rfl (Aa (Ac (Ac (Ad (Ab rfl (AP rfl rfl (Aa (Ar rfl (by omega) (Ak (Ac (Ad (Al rfl (Bd 0 rfl rfl rfl ?_))))))))))))))))))
    refine Ba [_,_,_,_] (h2 (k:= -1) hp5 (nb.mono hl4) zs2) rfl rfl (fun v d6 L6 hl6 ⟨_,e6,L7,e7,hp7⟩=>?_)
    subst e6;subst e7
    (refine AU rfl (Ao rfl rfl (Ao rfl rfl (Ab rfl (Ab rfl (Aa (Ac (Ad (Ab rfl (Ab rfl (Am rfl (BI rfl (Ab rfl ?_)))))))))))))
    refine Bm 2 rfl rfl rfl rfl (Ach _) rfl ?_
    (refine Ab rfl (Aa (An ?_)))
    exact A8 [.agg [.int .i64 (Bo s k (AV n)).2.1,.int .i64 (Bo (Bo s k (AV n)).1 (-1) (A6 n)).2.1,.slice ga (BA n).length gc,.int .i64 256].toArray,.int .i64 (Bo (Bo s k (AV n)).1 (-1) (A6 n)).2.2] ⟨AS 2 rfl rfl rfl,Av rfl,trivial⟩ (d':=d6) (L':=tb bt Tt pv r h c::L7) (Vs.drop (.cons _ (.cons _ (.cons _ (.cons _ (Acb _)))))) ⟨hl3.trans (hl4.trans hl6),ga,gc,L7,rfl,RSl.mono (R:=AM) AW hkey (hl4.trans hl6),rfl,hp7⟩
   ·rw [if_neg hz4]
    (refine AU rfl (Ao rfl rfl (Ao rfl rfl (Ab rfl (Ab rfl (Aa (Ac (Ac (Ad (Ab rfl (AP rfl rfl (Aa (Ax rfl (by omega) (Ac (Ad (BI rfl (Ab rfl ?_)))))))))))))))))
    refine Bm 2 rfl rfl rfl rfl (Ach _) rfl ?_
    (refine Ab rfl (Aa (An ?_)))
    exact A8 [.agg [.int .i64 0,.int .i64 0,.slice none 0 0,.int .i64 0].toArray,.int .i64 (Bo s k (AV n)).2.2] ⟨AS 2 rfl rfl rfl,Av rfl,trivial⟩ (d':=d4) (L':=tb bt Tt pv r h c::L5) (Vs.drop (.cons _ (.cons _ (.cons _ (.cons _ (Acb _)))))) ⟨hl3.trans hl4,none,0,L5,rfl,RSl.nil,rfl,hp5⟩
  ·have hcb2:(if C6 n=true then(0:Int) else 200)=200:=if_neg hcb
   rw [if_neg hcb]
   rw [hcb2]
   clear hcb hcb2 hF
   (refine AU rfl (Ao rfl rfl (Ao rfl rfl (Ao rfl rfl (Ao rfl rfl (BU (fun _ _=>BU (fun _ _=>?_))))))))
   rename_i b11 T11
   refine Bm 1 rfl rfl rfl rfl (Ach _) rfl ?_
   refine Bm 0 rfl rfl rfl rfl (Ach _) rfl ?_
   (refine Am rfl (Ab rfl (Aa (Ac (Ac (Ad (Ab rfl (AP rfl rfl (Aa (Ax rfl (by omega) (Ac (Ad (BI rfl (Ab rfl ?_))))))))))))))
   refine Bm 2 rfl rfl rfl rfl (Ach _) rfl ?_
   (refine Ab rfl (Aa (An ?_)))
   exact A8 [.agg [.int .i64 0,.int .i64 0,.slice none 0 0,.int .i64 0].toArray,.int .i64 200] ⟨AS 2 rfl rfl rfl,Av rfl,trivial⟩ (d':=d3) (L':=tb bt Tt pv r h c::L) (Vs.drop (.cons _ (.cons _ (.cons _ (.cons _ (Acb _)))))) ⟨hl3,none,0,L,rfl,RSl.nil,rfl,hp3⟩
abbrev tbD(bt:Nat) (Tt:TypeId) (pv:Value) (t:TD):Ae:=tb bt Tt pv t.root t.height t.count
structure MOk (m:MdD):Prop where
 p0: -1≤m.page
 p1:m.page≤16384
 o0: -1≤m.other
 o1:m.other≤16384
 k:m.key.length≤1000
abbrev mdV(m:MdD) (ua:Option Addr) (uc:Nat):Value:=.agg [.int .i64 m.page,.int .i64 m.other,.slice ua m.key.length uc,.int .i64 m.size].toArray
def IK(P:Program) (f:FuncId):Prop:=∀{d:Ae}{t:TD}{m:MdD}{dv pv:Value}{L:List Ae}{bt:Nat}{Tt:TypeId}{ua:Option Addr}{uc:Nat},PgT d t.s dv pv L→AJ d (.slice ua m.key.length uc) m.key→MOk m→t.height≤1000000→
 Aw P f [.pointer (some ⟨bt,0,none⟩),mdV m ua uc] d (tbD bt Tt pv t::L) (Ret fun v d' L'=>Le d d'∧v=.int .i64 (CF t m).2∧∃L2,L'=tbD bt Tt pv (CF t m).1::L2∧PgT d' (CF t m).1.s dv pv L2)
def Nv(a0:Nat):AX:=⟨41,[(.tmp 4)],(.seq (rG (o1 3 (.box (tP 1)) (o1 4 (.mv (kZ 0)) .done))) (.seq (rG (om 7 0 (oj 8 0 3 (ol 9 8 (o1 10 (.nilc (tP 7)) (oj 11 1 10 (o0 (.st 1 (tP 11) (tP 9)) .done))))))) (.seq (.seq (rG (oj 12 1 3 (ol 13 12 (ob 14 .lss (tP 13) (kZ 0) .done)))) (.cond (tP 14) (.seq (rG (o1 4 (.mv (kZ 0)) .done)) .ret) .skip)) (.seq (rG (om 16 0 (oj 17 2 3 (ol 18 17 (o1 19 (.bsl 1 1 [(.slice none 0 0)] [(0,(tP 18))]) (oj 20 0 3 (ol 21 20 (oj 22 1 3 (ol 23 22 (o1 24 (.bsl 2 1 [(.int .i64 0)] [(0,(tP 21)),(1,(tP 23))]) (o1 25 (.bld [(0,1),(1,1),(2,1),(3,1)] [(.bool false),(.slice none 0 0),(.slice none 0 0),(.slice none 0 0)] [(1,(tP 19)),(3,(tP 24))]) (oc 26 a0 [(tP 16),(kZ (-1)),(tP 25)] (om 15 26 (oe 27 15 0 (oe 28 15 1 (om 5 27 (om 6 28 .done))))))))))))))))) (.seq (rG (om 29 0 (om 30 5 (o1 31 (.nilc (tP 29)) (oj 32 1 31 (o0 (.st 1 (tP 32) (tP 30)) .done)))))) (.seq (rG (om 33 0 (o1 34 (.nilc (tP 33)) (oj 35 2 34 (ol 36 35 (ob 37 .add (tP 36) (kZ 1) (o1 38 (.nilc (tP 33)) (oj 39 2 38 (o0 (.st 1 (tP 39) (tP 37)) .done))))))))) (.seq (rG (om 40 6 (om 4 40 .done))) .ret)))))))⟩
set_option maxRecDepth 4000 in
theorem W4{P:Program}{f f1:FuncId} (hd:dec P f=some (Nv f1)) (h1:HB P f1):IK P f:=by
 intro d t m dv pv L bt Tt ua uc hp hk hm hh
 obtain⟨s,root,height,count⟩:=t
 simp only at hp hh
 refine AE hd (Aca rfl) ?_
 show gwp P _ _ _ _ _
 apply Ac;apply Ad
 refine Cl rfl (fun b3 T3=>?_)
 (refine Ab rfl (Aa (Ac (Ad (Al rfl (Ai rfl (Ah rfl (Aj 0 rfl rfl) (Au rfl (Ai rfl ?_)))))))))
 refine AY 1 [pv,.int .i64 m.page,.int .i64 height,.int .i64 count] rfl rfl rfl rfl (Aca rfl) rfl rfl ?_
 by_cases ho:m.other<0
 ·have hF:CF ⟨s,root,height,count⟩ m=(⟨s,m.page,height,count⟩,0):=by unfold CF;rw [if_pos ho]
  rw [hF]
  (refine Aa (Ac (Ac (Ad (Ai rfl (Ah rfl (Aj 0 rfl rfl) (AB rfl rfl (Aa (Ax rfl (by omega) (Ac (Ad (Ab rfl (Aa (An ?_))))))))))))))
  exact BF (L':=tbD bt Tt pv ⟨s,m.page,height,count⟩::L) rfl (.cons _ (Acb _)) ⟨Le.refl _,rfl,L,rfl,hp⟩
 ·have hF:CF ⟨s,root,height,count⟩ m=(⟨(Bo s (-1) ⟨false,[m.key],[],[m.page,m.other]⟩).1,(Bo s (-1) ⟨false,[m.key],[],[m.page,m.other]⟩).2.1,height+1,count⟩,(Bo s (-1) ⟨false,[m.key],[],[m.page,m.other]⟩).2.2):=by unfold CF;rw [if_neg ho]
  rw [hF]
  have hm1:=hm.p0
  have hm2:=hm.p1
  have hm3:=hm.o0
  have hm4:=hm.o1
  have hm5:=hm.k
  (refine Aa (Ac (Ac (Ad (Ai rfl (Ah rfl (Aj 0 rfl rfl) (AB rfl rfl (Aa (Ar rfl (by omega) (Ak (Ac (Ad (Al rfl (Ai rfl (Ah rfl (Aj 0 rfl rfl) ?_)))))))))))))))
  refine D9 (v0:=.slice ua m.key.length uc) rfl rfl (fun b19 T19=>?_)
  (refine Ai rfl (Ah rfl (Aj 1 rfl rfl) (Ai rfl (Ah rfl (Aj 1 rfl rfl) ?_))))
  refine Abs (v0:=.int .i64 m.page) (v1:=.int .i64 m.other) rfl rfl rfl rfl (fun b24 T24=>?_)
  (apply BI;rfl)
  obtain⟨d2,hle,v1,l1,l2⟩:∃d2,Le d d2∧Vs d (bx b24 T24 [.int .i64 m.page,.int .i64 m.other]::bx b19 T19 [.slice ua m.key.length uc]::[]) d2 []∧Le (bx b24 T24 [.int .i64 m.page,.int .i64 m.other]) d2∧Le (bx b19 T19 [.slice ua m.key.length uc]) d2:=
   ⟨join (join d (bx b24 T24 [.int .i64 m.page,.int .i64 m.other])) (bx b19 T19 [.slice ua m.key.length uc]),(Le.AF _ _).trans (Le.AF _ _),Vs.freeze.trans Vs.freeze,(Le.A5 _ _).trans (Le.AF _ _),Le.A5 _ _⟩
  have hn:Cx d2 [.bool false,.slice (some ⟨b19,0,none⟩) 1 1,.slice none 0 0,.slice (some ⟨b24,0,none⟩) 2 2] ⟨false,[m.key],[],[m.page,m.other]⟩:=by
   refine⟨_,_,_,rfl,Aq.rsl (R:=RBs) (sz:=1) (d:=d) (Aq.En (x:=m.key) rfl ⟨_,rfl,hk⟩) EM (by omega) hle l2,RSl.nil,Aq.rsl (R:=Be) (sz:=1) (d:=d) (Aq.AbD (l:=[m.page,m.other]) (n:=2) rfl (fun x hx=>?_) rfl (Aca rfl)) B4 (by omega) hle l1⟩
   simp only [Adb,List.not_mem_nil,or_false] at hx
   rcases hx with rfl|rfl<;>omega
  refine B6 _ _ (Vs.app v1 _) ?_
  refine Ba [_] (h1 (k:= -1) (hp.mono hle) hn (by simp [A0,Bj,DR,Da];omega)) rfl rfl (fun v d4 L4 hl4 ⟨_,e4,L5,e5,hp5⟩=>?_)
  subst e4;subst e5
  (refine AU rfl (Ao rfl rfl (Ao rfl rfl (Ab rfl (Ab rfl (Aa (Ac (Ad (Al rfl (Ab rfl (Au rfl (Ai rfl ?_))))))))))))
  refine AY 1 [pv,.int .i64 (Bo s (-1) ⟨false,[m.key],[],[m.page,m.other]⟩).2.1,.int .i64 height,.int .i64 count] rfl rfl rfl rfl (Aca rfl) rfl rfl ?_
  (refine Aa (Ac (Ad (Al rfl (Au rfl (Ai rfl (Ah rfl (Aj 1 rfl rfl) (AL rfl rfl (by omega) (by omega) (Au rfl (Ai rfl ?_))))))))))
  refine AY 1 [pv,.int .i64 (Bo s (-1) ⟨false,[m.key],[],[m.page,m.other]⟩).2.1,.int .i64 ((height:Int)+1),.int .i64 count] rfl rfl rfl rfl (Aca rfl) rfl rfl ?_
  (refine Aa (Ac (Ad (Ab rfl (Ab rfl (Aa (An ?_)))))))
  exact BF (L':=tbD bt Tt pv ⟨_,(Bo s (-1) ⟨false,[m.key],[],[m.page,m.other]⟩).2.1,height+1,count⟩::L5) rfl (.cons _ (Acb _)) ⟨hle.trans hl4,rfl,L5,rfl,hp5⟩
def OJ(P:Program) (f:FuncId):Prop:=∀{d:Ae}{b:Bool},CP P f [.bool b] d (.int .i64 (if b then 1 else 0))
def QI:AX:=⟨4,[(.tmp 2)],(.seq (rG (o1 2 (.mv (kZ 0)) .done)) (.seq (.seq (rG (om 3 0 .done)) (.cond (tP 3) (.seq (rG (o1 2 (.mv (kZ 1)) .done)) .ret) .skip)) (.seq (rG (o1 2 (.mv (kZ 0)) .done)) .ret)))⟩
theorem W3{P:Program}{f:FuncId} (hd:dec P f=some QI):OJ P f:=by
 intro d b
 refine AE hd (Aca rfl) ?_
 show gwp P _ _ _ _ _
 cases b
 ·(refine Ac (Ad (Ab rfl (Aa (Ac (Ac (Ad (Af rfl (Aa (AR rfl (Ak (Ac (Ad (Ab rfl (Aa (An ?_))))))))))))))))
  exact YX rfl
 ·(refine Ac (Ad (Ab rfl (Aa (Ac (Ac (Ad (Af rfl (Aa (Bf rfl (Ac (Ad (Ab rfl (Aa (An ?_)))))))))))))))
  exact YX rfl
theorem Mw{s:PD}{k:Int} (h:(Bk s k).2=0):Bv (Bk s k).1=true:=by
 unfold Bk at h⊢
 by_cases hl:Bh s k
 ·rw [if_pos hl] at h⊢
  simp only [Oh] at h
  cases hr:Node.BG (s.bytes k) with
  |none=>rw [hr] at h;cases h
  |some n=>rw [NO,hr];exact(N4 hr).1
 ·rw [if_neg hl] at h;cases h
theorem Hc{n:AA} (h:Bv n=true) (hl:n.leaf=false):n.kids.length=n.keys.length+1:=by
 simp only [Bv,A3,hl,Acd,Aci,if_false,decide_eq_true_eq] at h
 exact h.1.2.1.2
theorem JT{n:AA} (h:Bv n=true) (hl:n.leaf=true):n.vals.length=n.keys.length:=by
 simp only [Bv,A3,hl,Acd,if_true,decide_eq_true_eq] at h
 exact h.1.2.1.1
theorem UG{s:PD}{k:Int} (h:(Bk s k).2=0) (hl:(Bk s k).1.leaf=false):0<(Bk s k).1.kids.length:=by
 rw [Hc (Mw h) hl];omega
def KY(P:Program) (f:FuncId):Prop:=∀{d:Ae}{t:TD}{dv pv:Value}{L:List Ae}{bt:Nat}{Tt:TypeId},PgT d t.s dv pv L→1≤t.height→t.height≤1000001→
 Aw P f [.pointer (some ⟨bt,0,none⟩)] d (tbD bt Tt pv t::L) (Ret fun v d' L'=>Le d d'∧v=.int .i64 (Dw t).2∧∃L2,L'=tbD bt Tt pv (Dw t).1::L2∧PgT d' (Dw t).1.s dv pv L2)
def Km(a0 a1:Nat):AX:=⟨56,[(.tmp 2)],(.seq (rG (o1 2 (.mv (kZ 0)) .done)) (.seq (rG (om 7 0 (om 8 0 (o1 9 (.nilc (tP 8)) (oj 10 1 9 (ol 11 10 (oc 12 a0 [(tP 7),(tP 11)] (om 6 12 (oe 13 6 0 (oe 14 6 1 (o1 3 (.alo (.agg #[(.bool false),(.slice none 0 0),(.slice none 0 0),(.slice none 0 0)])) (o0 (.st 4 (tP 3) (tP 13)) (om 4 14 .done))))))))))))) (.seq (.seq (rG (om 15 4 (ob 16 .neq (tP 15) (kZ 0) (om 17 16 (oF 18 17 (.fld 1 (tP 3)) (oF 19 17 (.ld none (tP 18)) (oF 20 17 (.len (tP 19)) (oF 21 17 (.bin .gtr (tP 20) (kZ 0)) (o1 22 (.pick (tP 17) (.const (.bool true)) (tP 21)) .done))))))))) (.cond (tP 22) (.seq (rG (om 23 4 (om 2 23 .done))) .ret) .skip)) (.seq (.seq (.reg true (pm 24 0 (p1 25 (.nilc (tP 24)) (p1 26 (.fld 0 (tP 25)) (pl 27 26 (pm 28 0 (p1 29 (.nilc (tP 28)) (p1 30 (.fld 1 (tP 29)) (pl 31 30 (oc 32 a1 [(tP 27),(tP 31)] (.bar (pm 5 32 .done)))))))))))) (.seq (rG (om 33 5 (ob 34 .neq (tP 33) (kZ 0) .done))) (.cond (tP 34) (.seq (rG (om 35 5 (om 2 35 .done))) .ret) .skip))) (.seq (rG (om 36 0 (o1 37 (.nilc (tP 36)) (oj 38 2 37 (ol 39 38 (ob 40 .sub (tP 39) (kZ 1) (o1 41 (.nilc (tP 36)) (oj 42 2 41 (o0 (.st 1 (tP 42) (tP 40)) .done))))))))) (.seq (rG (om 43 0 (o1 44 (.nilc (tP 43)) (oj 45 1 44 (o0 (.st 1 (tP 45) (kZ (-1))) .done))))) (.seq (.seq (rG (oj 46 0 3 (ol 47 46 (o1 48 (.un .not (tP 47)) .done)))) (.cond (tP 48) (rG (om 49 0 (oj 50 3 3 (ol 51 50 (o1 52 (.idx 1 (tP 51) (kZ 0)) (ol 53 52 (o1 54 (.nilc (tP 49)) (oj 55 1 54 (o0 (.st 1 (tP 55) (tP 53)) .done))))))))) .skip)) (.seq (rG (o1 2 (.mv (kZ 0)) .done)) .ret))))))))⟩
set_option maxRecDepth 4000 in
theorem UO{P:Program}{f f1 f2:FuncId} (hd:dec P f=some (Km f1 f2)) (h1:IQ P f1) (h2:Pgr.Gx P f2):KY P f:=by
 intro d t dv pv L bt Tt hp hh1 hh2
 obtain⟨s,root,height,count⟩:=t
 simp only at hp hh1 hh2
 obtain⟨bp,rfl⟩:=hp.ptr
 obtain⟨tc0,hp⟩:=hp
 refine AE hd (Aca rfl) ?_
 show gwp P _ _ _ _ _
 (refine Ac (Ad (Ab rfl (Aa (Ac (Ad (Al rfl (Al rfl (Au rfl (Ai rfl (Ah rfl (Aj 0 rfl rfl) ?_)))))))))))
 refine Ba [] (h1 (k:=root) hp) rfl rfl (fun v d2 L2 hl ⟨_,cs,hk,hv,hi,L3,tc,e1,e2,hn,hp2,htc⟩=>?_)
 subst e1;subst e2
 have hp2:PgT d2 s dv (.pointer (some ⟨bp,0,none⟩)) L3:=⟨tc,hp2⟩
 rw [show Bk {s with tc:=tc0} root=Bk s root from rfl] at hn⊢
 have hrr:(Bk s root).2=0→(Bk s root).1.leaf=false→0<(Bk s root).1.kids.length:=UG
 have hn0:=hn
 obtain⟨ka,kc,va,vc,ia,ic,rfl⟩:=hn.cells
 have hS:Dw ⟨s,root,height,count⟩=if (Bk s root).2≠0∨(Bk s root).1.keys≠[] then(⟨s,root,height,count⟩,(Bk s root).2) else if (s.drop root).2≠0 then(⟨(s.drop root).1,root,height,count⟩,(s.drop root).2) else
  (⟨(s.drop root).1,if (Bk s root).1.leaf then -1 else(Bk s root).1.kids.getD 0 0,height - 1,count⟩,0):=rfl
 rw [hS]
 generalize Bk s root=R at hn hn0 hrr
 obtain⟨⟨lf,ks,vs,is⟩,e⟩:=R
 simp only at hn hn0 hrr⊢
 (refine AU rfl (Ao rfl rfl (Ao rfl rfl (BU (fun _ _=>?_)))))
 rename_i b3 T3
 refine Bm 0 rfl rfl rfl rfl (Ach _) rfl ?_
 by_cases he:e=0
 ·by_cases hks:ks=[]
  ·subst hks;subst he
   rw [if_neg (by simp)]
   have hz0:([]:List (List UInt8)).length=0:=rfl
   (refine Ab rfl (Aa (Ac (Ac (Ad (Ab rfl (AP rfl rfl (Af rfl (Bb rfl (by omega) (Ag rfl (Ai rfl (Ag rfl (Ah rfl (Aj 0 rfl rfl) (Ag rfl (AK rfl (Ag rfl (BQ rfl rfl (As rfl rfl (Aa (Ar rfl (by omega) (Ak (Ac (Ac ?_)))))))))))))))))))))))
   refine Bs [_,_,_,_,_] L3 rfl ?_
   (refine Al rfl (Au rfl (Ai rfl (Ah rfl (Aj 4 rfl rfl) (Al rfl (Au rfl (Ai rfl (Ah rfl (Aj 4 rfl rfl) ?_))))))))
   refine DZ (Uo h2 hp2 (k:=root)) rfl (fun v d4 L4 hl4 ⟨e4,hp4⟩=>?_)
   subst e4
   by_cases hd4:(s.drop root).2=0
   ·rw [if_neg (fun q=>q hd4)]
    rw [hd4]
    (refine B1 (Ab rfl (Aa (Ac (Ad (Ab rfl (AP rfl rfl (Aa (Ar rfl (by omega) (Ak (Ac (Ad (Al rfl (Au rfl (Ai rfl (Ah rfl (Aj 4 rfl rfl) (CU rfl rfl (by omega) (by omega) (Au rfl (Ai rfl ?_)))))))))))))))))))
    refine AY 4 [.pointer (some ⟨bp,0,none⟩),.int .i64 root,.int .i64 ((height:Int) - 1),.int .i64 count] rfl rfl rfl rfl (Aca rfl) rfl rfl ?_
    (refine Aa (Ac (Ad (Al rfl (Au rfl (Ai rfl ?_))))))
    refine AY 4 [.pointer (some ⟨bp,0,none⟩),.int .i64 (-1),.int .i64 ((height:Int) - 1),.int .i64 count] rfl rfl rfl rfl (Aca rfl) rfl rfl ?_
    have hhh:((height:Int) - 1)=((height - 1:Nat):Int):=by omega
    cases lf with
    |true=>
     (refine Aa (Ac (Ac (Ad (Ai rfl (Ah rfl (Aj 0 rfl rfl) (Bt rfl (Aa (AR rfl (Ak (Ac (Ad (Ab rfl (Aa (An ?_)))))))))))))))
     rw [hhh]
     exact BF (L':=tbD bt Tt (.pointer (some ⟨bp,0,none⟩)) ⟨(s.drop root).1, -1,height - 1,count⟩::L4) rfl (.cons _ (.cons _ (.cons _ (.cons _ (Acb _))))) ⟨hl.trans hl4,rfl,L4,rfl,hp4⟩
    |false=>
     have hkk:=hrr rfl rfl
     obtain⟨kv,vv,iv,q,r1,r2,r3⟩:=hn0
     cases q
     obtain⟨b1,T1,l1,c1,cs1,q1,rfl,hcl,hcs,hle1,⟨rfl,hb1,hb2⟩, -⟩:=Aq.at (by omega) r3 hkk
     cases q1
     have c0:=hcs 0 _ rfl
     (refine Aa (Ac (Ac (Ad (Ai rfl (Ah rfl (Aj 0 rfl rfl) (Bt rfl (Aa (Bf rfl (Ad (Al rfl (Ai rfl (Ah rfl (Aj 0 rfl rfl) (Bw _ rfl rfl rfl (by omega) (Ah rfl (Aj 3 rfl (by assumption)) (Au rfl (Ai rfl ?_)))))))))))))))))
     have hg0:is.getD 0 0=is[0]:=by rw [Acf,Ace hkk];rfl
     refine AY 4 [.pointer (some ⟨bp,0,none⟩),.int .i64 is[0],.int .i64 ((height:Int) - 1),.int .i64 count] rfl rfl rfl rfl (Aca rfl) rfl rfl ?_
     (refine Aa (Ac (Ad (Ab rfl (Aa (An ?_))))))
     rw [hhh,hg0]
     exact BF (L':=tbD bt Tt (.pointer (some ⟨bp,0,none⟩)) ⟨(s.drop root).1,is[0],height - 1,count⟩::L4) rfl (.cons _ (.cons _ (.cons _ (.cons _ (Acb _))))) ⟨hl.trans hl4,rfl,L4,rfl,hp4⟩
   ·rw [if_pos hd4]
    (refine B1 (Ab rfl (Aa (Ac (Ad (Ab rfl (AP rfl rfl (Aa (Ax rfl (by omega) (Ac (Ad (Ab rfl (Ab rfl (Aa (An ?_)))))))))))))))
    exact BF (L':=tbD bt Tt (.pointer (some ⟨bp,0,none⟩)) ⟨(s.drop root).1,root,height,count⟩::L4) rfl (.cons _ (.cons _ (.cons _ (.cons _ (Acb _))))) ⟨hl.trans hl4,rfl,L4,rfl,hp4⟩
  ·have hkl:0<ks.length:=List.length_pos_iff.2 hks
   subst he
   rw [if_pos (.inr hks)]
   (refine Ab rfl (Aa (Ac (Ac (Ad (Ab rfl (AP rfl rfl (Af rfl (Bb rfl (by omega) (Ag rfl (Ai rfl (Ag rfl (Ah rfl (Aj 0 rfl rfl) (Ag rfl (AK rfl (Ag rfl (BQ rfl rfl (As rfl rfl (Aa (Ax rfl (by omega) (Ac (Ad (Ab rfl (Ab rfl (Aa (An ?_))))))))))))))))))))))))))
   exact BF (L':=tbD bt Tt (.pointer (some ⟨bp,0,none⟩)) ⟨s,root,height,count⟩::L3) rfl (.cons _ (.cons _ (.cons _ (.cons _ (Acb _))))) ⟨hl,rfl,L3,rfl,hp2⟩
 ·rw [if_pos (.inl he)]
  (refine Ab rfl (Aa (Ac (Ac (Ad (Ab rfl (AP rfl rfl (Af rfl (Bn rfl (by omega) (Ap rfl (Ap rfl (Ap rfl (Ap rfl (AG rfl rfl (Aa (Bf rfl (Ac (Ad (Ab rfl (Ab rfl (Aa (An ?_))))))))))))))))))))))
  exact BF (L':=tbD bt Tt (.pointer (some ⟨bp,0,none⟩)) ⟨s,root,height,count⟩::L3) rfl (.cons _ (.cons _ (.cons _ (.cons _ (Acb _))))) ⟨hl,rfl,L3,rfl,hp2⟩
end Go.Gk.Tre
end
section
namespace Go.Gk
open Go
section
def Up(pr:Bool) (P:Program) (f:FuncId):Option JD:=
 match P.funcs[f]? with
 |some fn=>
  if fn.name== "runtime.NumGoroutine" || !P.follows .mixedOrders then none else
  match fn.body with
  |some (.seq a (.seq b (.seq (.region _ ops false) c)))=>
   match QA fn.ntmps ops.toList,fn.results.toList.mapM (GZ P fn.ntmps) with
   |some (fd,g,cs),some rs=>if rs.all (fun r=> !(Iu c).contains (YU r)) then some ⟨fn.ntmps,rs,.seq (D3 pr P fn.ntmps a) (D3 pr P fn.ntmps b),fd,g,cs,D3 pr P fn.ntmps c⟩ else none
   |_,_=>none
  |_=>none
 |none=>none
section
variable {pr:Bool}{P:Program}
theorem UP{pr':Bool}{f:FuncId}{g:JD}{v:AX} (hd:Up pr P f=some g) (hv:IA pr' P g.g=some v) (hvr:v.res=[]) {args:List Value} (ha:args.length≤g.n) (hcl:g.caps.length≤v.n) {d:Ae}{L:List Ae}{R:Ending→Ae→List Ae→Prop}
  (h:gwp P g.a (Qq P g v R) (F2 args) d L):Aw P f args d L R:=by
 simp only [Up] at hd
 split at hd<;>try cases hd
 rename_i fn hf
 split at hd<;>try cases hd
 rename_i hn
 split at hd<;>try cases hd
 rename_i A1 A2 id ops C hb
 split at hd<;>try cases hd
 rename_i fd gg cs rs hdf hrs
 split at hd<;>cases hd
 rename_i hall
 simp only [Ady,not_or,Aev,Afu] at hn
 have hm:P.follows .mixedOrders=true:=by simpa using hn.2
 obtain⟨o1,o2,caps,ats,rfl,h1,h2,h3,h4,h5,h6,h7,h8⟩:=N5 hdf
 simp only at h1 h2 h5 h7 h8 hv hcl ha h
 have hvc:Jq P gg:=by
  have hv':=hv
  simp only [IA] at hv'
  split at hv'<;>try cases hv'
  rename_i fn' hf'
  split at hv'<;>try cases hv'
  rename_i hn'
  split at hv'<;>try cases hv'
  rename_i hb'
  simp only [Ady,not_or,Aev,Afu] at hn'
  exact⟨fn',hf',by rw [hb'];rfl,hn'.1⟩
 refine⟨⟨fn,hf,by rw [hb];rfl,hn.1⟩,fun F W hOk=>?_⟩
 refine calls_of_wp_defers hf hb ?_
 rw [Nw ha]
 refine wp_seq (wp_mono (ES (ds:=[]) (F:=F) (W0:=W) (d0:=d) hm A1 _ _ d L W h hOk (Le.refl d) (AH.refl W)) ?_)
 intro e a w hq
 cases e with
 |panic c=>obtain⟨_,_,_,_,_,_,hh⟩:=hq;exact hh.elim
 |exit i=>obtain⟨_,_,_,_,_,_,_,hh⟩:=hq;exact hh.elim
 |ret=>obtain⟨_,_,_,_,_,_,_,hh⟩:=hq;exact hh.elim
 |goto l=>exact hq.elim
 |outgrown=>exact hq.elim
 |normal=>
 obtain⟨ρ0,d01,L01,rfl,k1,k2,k3,k4⟩:=hq
 refine wp_seq (wp_mono (ES (ds:=[]) (F:=F) (W0:=W) (d0:=d) hm A2 _ _ d01 L01 w k4 k1 k2 k3) ?_)
 intro e a w hq
 cases e with
 |panic c=>obtain⟨_,_,_,_,_,_,hh⟩:=hq;exact hh.elim
 |exit i=>obtain⟨_,_,_,_,_,_,_,hh⟩:=hq;exact hh.elim
 |ret=>obtain⟨_,_,_,_,_,_,_,hh⟩:=hq;exact hh.elim
 |goto l=>exact hq.elim
 |outgrown=>exact hq.elim
 |normal=>
 obtain⟨ρ,d1,L1,rfl,k1,k2,k3,k4⟩:=hq
 simp only [Qq] at k4
 refine wp_seq (wp_region ?_)
 have l:Ade (#[o1,o2]:Array Oper).size=[0,1]:=rfl
 rw [l]
 have g0:(#[o1,o2]:Array Oper)[0]?=some o1:=rfl
 have g1:(#[o1,o2]:Array Oper)[1]?=some o2:=rfl
 have e1:∀ys,Region.wanted o1 ys=true:=fun ys=>by simp [Region.wanted,h3]
 have e2:∀ys,Region.wanted o2 ys=true:=fun ys=>by simp [Region.wanted,h6]
 have hcv:caps.map (act fn.ntmps ρ []).eval=(cs.map ρ).toArray:=by
  have:=IG (ρ:=ρ) (ds:=[]) h8
  exact Array.ext' (by rw [Array.toList_map,this])
 have x1:∀w,(execOp (act fn.ntmps ρ []).eval o1).run P w=.ok (.value (DP gg (cs.map ρ))) w:=by
  intro w;simp [execOp,h2,Instr.makeFunc,Result.andThen,hcv,DP]
 have hfd:(act fn.ntmps (upd ρ fd (DP gg (cs.map ρ))) []).eval (.tmp fd)=DP gg (cs.map ρ):=by
  rw [A7 (x:=.tmp fd) (by simpa [DJ] using h7)];simp [ev,upd]
 have x2:∀w,(execOp (act fn.ntmps (upd ρ fd (DP gg (cs.map ρ))) []).eval o2).run P w=.ok (.defer {target:=.fn (.func gg) (cs.map ρ).toArray,args:= #[]}) w:=by
  intro w
  generalize (act fn.ntmps (upd ρ fd (DP gg (cs.map ρ))) []).eval=e at hfd
  simp [execOp,h5,resolve,hfd,DP,Deferred.ofValue,Result.andThen]
 have p1:(act fn.ntmps ρ []).put o1.dst (DP gg (cs.map ρ))=act fn.ntmps (upd ρ fd (DP gg (cs.map ρ))) []:=by
  rw [h1,ER (d:=some fd) (fun _ e=>by cases e;exact h7)];rfl
 simp only [wpOps_cons,wpOp,g0,e1,if_true]
 refine .inl ?_
 simp only [Oper.wp,x1,Oper.upon,p1,wpOps_cons,wpOp,g1,e2,if_true]
 refine .inl ?_
 simp only [x2,Oper.upon,h4]
 show Code.wp P C _ (act fn.ntmps (upd ρ fd (DP gg (cs.map ρ))) [{target:=.fn (.func gg) (cs.map ρ).toArray,args:= #[]}]) w
 have hlen:(cs.map ρ).length≤v.n:=by simpa using hcl
 have hinv:∀w,(invoke (.fn (.func gg) (cs.map ρ).toArray) #[]).run P w=.ok (.enter gg (cs.map ρ).toArray) w:=by
  intro w;simp [invoke,EP hvc]
 generalize hD:(⟨.fn (.func gg) (cs.map ρ).toArray, #[]⟩:Deferred)=D
 refine wp_mono (ES (ds:=[D]) (F:=F) (W0:=W) (d0:=d) hm C _ _ d1 L1 w k4 k1 k2 k3) ?_
 subst hD
 have fin:∀a w,(∃ρ' d' L',a=act fn.ntmps ρ' [⟨.fn (.func gg) (cs.map ρ).toArray, #[]⟩]∧Ok (d'::(L'++F)) w∧Le d d'∧AH W w∧gwp P v.code (KK (Cs rs R ρ')) (F2 (cs.map ρ)) d' L')→
   Leaves P fn a.tmps (fun e W'=>∃d' L',Ok (d'::(L'++F)) W'∧Le d d'∧AH W W'∧R e d' L') a.defers .returning w:=by
  rintro a w ⟨ρ',d',L',rfl,j1,j2,j3,j4⟩
  refine leaves_cons (by simp) (hinv w) ((JZ hv hvr hlen j4 j1).mono ?_)
  rintro e u' w' ⟨⟨r,rfl⟩,rfl,d2,L2,q1,q2,q3,vs,q4,d3,L3,q5,q6⟩
  exact⟨Jj vs,RV hrs q1 q4,d3,L3,q5.2 F w' q1,(j2.trans q2).trans q5.1,j3.trans q3,q6⟩
 intro e a w hq
 cases e with
 |normal=>exact fin a w hq
 |ret=>exact fin a w hq
 |panic c=>obtain⟨_,_,_,_,_,_,hh⟩:=hq;exact hh.elim
 |exit i=>obtain⟨_,_,_,_,_,_,_,hh⟩:=hq;exact hh.elim
 |goto l=>exact hq.elim
 |outgrown=>exact hq.elim
end
end
end Go.Gk
end
section
namespace Go.Gk.Tre
open Go Go.Gk Go.Gk.Dev Go.Gk.Cch Go.Gk.Pgr Go.Gk.Chn Go.Gk.Node
attribute [local irreducible] gwp gws xwp
section
def Is(P:Program) (f:FuncId):Prop:=∀{d:Ae}{t t':TD}{e:Int}{dv pv:Value}{L X X':List Ae}{bt:Nat}{Tt:TypeId}{g:FuncId}{caps:List Value},PgT d t.s dv pv L→Pgr.AH t.s t'.s→
 (∀d1,Le d d1→Aw P g caps d1 (tbD bt Tt pv t::(X++L)) (Ret fun v d' L'=>Le d1 d'∧v=.int .i64 e∧∃L2,L'=tbD bt Tt pv t'::(X'++L2)∧PgT d' t'.s dv pv L2))→
 Aw P f [.pointer (some ⟨bt,0,none⟩),.func (.func g) #[] caps.toArray] d (tbD bt Tt pv t::(X++L)) (Ret fun v d' L'=>Le d d'∧v=.int .i64 e∧∃L2,L'=tbD bt Tt pv (B8 t t' e)::(X'++L2)∧PgT d' (B8 t t' e).s dv pv L2)
def Kk(a0 a1:Nat):JD:=⟨18,[(.cell 4 none)],(.seq (rG (o1 2 (.box (tP 0)) (o1 4 (.alo (.int .i64 0)) .done))) (.reg true (pl 7 2 (p1 8 (.nilc (tP 7)) (p1 9 (.fld 0 (tP 8)) (pl 10 9 (pl 12 2 (p1 13 (.nilc (tP 12)) (.par (o1 14 (.ld (some 4) (tP 13)) .done) (.par (o1 6 (.alo (.agg #[(.pointer none),(.int .i64 0),(.int .i64 0),(.int .i64 0)])) .done) (.par (oc 11 a0 [(tP 10)] .done) (o1 5 (.alo (.pointer none)) .done) .done) (o0 (.st 1 (tP 5) (tP 11)) .done)) (o0 (.st 4 (tP 6) (tP 14)) .done)))))))))),15,a1,[4,6,2,5],(.seq (rG (om 16 1 (o1 17 (.callv (tP 16) []) (o0 (.st 1 (tP 4) (tP 17)) .done)))) .ret)⟩
def Gs(a0:Nat):AX:=⟨15,[],(.seq (rG (ol 4 0 (ob 5 .neq (tP 4) (kZ 0) .done))) (.cond (tP 5) (.seq (rG (ol 6 2 (o1 7 (.ld (some 4) (tP 1)) (o1 8 (.nilc (tP 6)) (o0 (.st 4 (tP 8) (tP 7)) .done))))) (.reg true (pl 9 2 (p1 10 (.nilc (tP 9)) (p1 11 (.fld 0 (tP 10)) (pl 12 11 (pl 13 3 (oc 14 a0 [(tP 12),(tP 13)] .done)))))))) .skip))⟩
def Q6(P:Program) (f:FuncId):Prop:=∃f3,dec P f=some (Gs f3)∧K6 P f3
theorem Z1{P:Program}{f f3:FuncId} (hd:dec P f=some (Gs f3)) (h:K6 P f3):Q6 P f:=⟨f3,hd,h⟩
section
variable {P:Program}{pan:List PanicEntry→AQ}{Qn:Env→AQ}{Ls L:List Ae}{ρ:Env}{d:Ae}{s:GS}{t:Nat}
theorem Yp{f:Operand}{g:FuncId}{first cap:Array Value}{args:List Operand}{R:Value→Ae→List Ae→Prop}{vs:List Value}{A B:List Ae} (hp:L.Perm (A++B)) (ef:ev ρ f=.func (.func g) first cap) (ea:first.toList++args.map (ev ρ)++cap.toList=vs)
  (hc:Aw P g vs d A (Ret R)) (h:∀v d' L',Le d d'→R v d' L'→gws P pan Qn s Ls (upd ρ t v) d' (L'++B)):gws P pan Qn (.op false ⟨some t,none,.callv f args⟩ s) Ls ρ d L:=
 B6 d (A++B) (Vs.perm hp) (Lo A.length ef ea (by rw [Ahc];exact hc) (fun v d' L' hl hr=>by rw [Agp];exact h v d' L' hl hr))
end
theorem Abu{P:Program}{f:FuncId} (h:K4 P f) {d:Ae}{s:PD}{dv pv:Value}{L:List Ae} (hp:PgT d s dv pv L):Aw P f [pv] d L (Ret fun r d' L'=>L'=L∧Le d d'∧Mk d' s.mark s.frm pv r):=by
 obtain⟨n,hp⟩:=hp
 have:=h hp
 exact this
theorem Aa1{P:Program}{f:FuncId} (h:K6 P f) {d:Ae}{s s0:PD}{dv pv v:Value}{L:List Ae} (hp:PgT d s dv pv L) (hG:Pgr.Good s0) (hk:Pgr.AH s0 s) (hm:Mk d s0.mark s0.frm pv v):
  Aw P f [pv,v] d L (Ret fun r d' L'=>d'=d∧r=.int .i64 0∧PgT d (s.back s0.mark) dv pv L'):=by
 obtain⟨n,hp⟩:=hp
 have hg:=hG.kd
 have hr:wr s0.mark.round=wr s.round:=by rw [show s0.mark.round=s0.round from rfl,hk.round]
 refine Aw.DV (h (m:=s0.mark) hp (by rw [show({s with tc:=n}:PD).frm=s.frm from rfl,hk.frm];exact hm) (fun _=>⟨hk.og,fun i=>hg i⟩)) (fun r d' L' _ ⟨h1,h2,_⟩=>⟨d',L',Vs.refl _ _,?_⟩)
 obtain⟨h3,h4⟩:=h2 hr
 exact⟨h1,h3,n,h4⟩
set_option maxRecDepth 4000 in
set_option maxHeartbeats 2000000 in
theorem TZ{P:Program}{f f1 f2:FuncId} (hd:Up true P f=some (Kk f1 f2)) (h1:K4 P f1) (h2:Q6 P f2):Is P f:=by
 obtain⟨f3,hv,h3⟩:=h2
 intro d t t' e dv pv L X X' bt Tt g caps hp hk hdo
 obtain⟨bp,rfl⟩:=hp.ptr
 have hG:=hp.EX
 refine UP hd hv rfl (Aca rfl) (Aca rfl) ?_
 show gwp P _ _ _ _ _
 apply Ac;apply Ad
 refine Fh rfl (fun b2 T2=>?_)
 refine DI (fun b4 T4=>?_)
 apply Aa
 refine Bs [bx b4 T4 [.int .i64 0],bx b2 T2 [.pointer (some ⟨bt,0,none⟩)],tbD bt Tt (.pointer (some ⟨bp,0,none⟩)) t] (X++L) rfl ?_
 (refine Ah rfl (Aj 1 rfl rfl) (Au rfl (Ai rfl (Ah rfl (Aj 2 rfl rfl) (Ah rfl (Aj 1 rfl rfl) (Au rfl ?_))))))
 refine Gj (α:=Unit) (β:=(Nat×TypeId)×(Nat×TypeId)×Value) [(1,.func (.func g) #[] caps.toArray),(2,.pointer (some ⟨b2,0,none⟩)),(4,.pointer (some ⟨b4,0,none⟩))]
  (fun _=>[(14,.agg [.pointer (some ⟨bp,0,none⟩),.int .i64 t.root,.int .i64 t.height,.int .i64 t.count].toArray)]) (fun _ _ M=>M=[]) (fun y=>[(6,.pointer (some ⟨y.1.1,0,none⟩)),(5,.pointer (some ⟨y.2.1.1,0,none⟩))])
  (fun y d' M=>Mk d' t.s.mark t.s.frm (.pointer (some ⟨bp,0,none⟩)) y.2.2∧M=bx y.1.1 y.1.2 [.pointer none,.int .i64 0,.int .i64 0,.int .i64 0]::bx y.2.1.1 y.2.1.2 [y.2.2]::(X++L)) [] (X++L) rfl
  (fun x d d' M hl h=>h) (fun y d d' M hl h=>⟨h.1.mono hl,h.2⟩) (fun x=>rfl) (fun y=>rfl) rfl ⟨rfl,rfl,rfl,trivial⟩ ?_ ?_ ?_
 ·(refine Bd 2 rfl rfl rfl (A4 ?_))
  exact⟨_,rfl,(),⟨rfl,trivial⟩,rfl⟩
 ·refine Gj (α:=Nat×TypeId) (β:=(Nat×TypeId)×Value) [] (fun x=>[(6,.pointer (some ⟨x.1,0,none⟩))]) (fun x _ M=>M=[bx x.1 x.2 [.pointer none,.int .i64 0,.int .i64 0,.int .i64 0]])
   (fun y=>[(11,y.2),(5,.pointer (some ⟨y.1.1,0,none⟩))]) (fun y d' M=>Mk d' t.s.mark t.s.frm (.pointer (some ⟨bp,0,none⟩)) y.2∧M=(X++L)++[bx y.1.1 y.1.2 [.pointer none]]) [] (X++L) rfl
   (fun x d d' M hl h=>h) (fun y d d' M hl h=>⟨h.1.mono hl,h.2⟩) (fun x=>rfl) (fun y=>rfl) rfl trivial ?_ ?_ ?_
  ·refine BU (fun b6 T6=>?_)
   (apply A4)
   exact⟨_,rfl,(b6,T6),⟨rfl,trivial⟩,rfl⟩
  ·refine Gj (α:=Value) (β:=Nat×TypeId) [] (fun x=>[(11,x)]) (fun x d' M=>Mk d' t.s.mark t.s.frm (.pointer (some ⟨bp,0,none⟩)) x∧M=X++L) (fun y=>[(5,.pointer (some ⟨y.1,0,none⟩))]) (fun y _ M=>M=[bx y.1 y.2 [.pointer none]]) (X++L) [] (by simp)
    (fun x d d' M hl h=>⟨h.1.mono hl,h.2⟩) (fun y d d' M hl h=>h) (fun x=>rfl) (fun y=>rfl) rfl trivial ?_ ?_ ?_
   ·refine Ba X (Abu h1 hp) rfl rfl (fun v d2 L2 hl2 ⟨e1,_,hm⟩=>?_)
    subst e1
    (apply A4)
    exact⟨_,rfl,v,⟨rfl,trivial⟩,hm,rfl⟩
   ·refine DI (fun b5 T5=>?_)
    (apply A4)
    exact⟨_,rfl,(b5,T5),⟨rfl,trivial⟩,rfl⟩
   ·rintro mv ⟨b5,T5⟩ ρ2 d2 M1 M2 hl2 ⟨hm,hM1⟩ hM2
    subst hM1;subst hM2
    (apply A4)
    exact⟨_,rfl,((b5,T5),mv),⟨rfl,rfl,trivial⟩,hm,rfl⟩
  ·rintro⟨b6,T6⟩ ⟨⟨b5,T5⟩,mv⟩ ρ2 d2 M1 M2 hl2 hM1 ⟨hm,hM2⟩
   subst hM1;subst hM2
   refine B6 _ (bx b5 T5 [.pointer none]::bx b6 T6 [.pointer none,.int .i64 0,.int .i64 0,.int .i64 0]::(X++L)) (Vs.perm ((Ack (l₁:=_::(X++L)) (l₂:=[_])))) ?_
   have hmc:∃bm,mv=.pointer (some ⟨bm,0,none⟩):=by obtain⟨bm,_,_,_,_,_,q,_⟩:=hm;exact⟨bm,q⟩
   obtain⟨bm,rfl⟩:=hmc
   refine AY 0 [.pointer (some ⟨bm,0,none⟩)] rfl rfl rfl rfl (Ach _) rfl rfl ?_
   refine Hz ⟨d2,_,Vs.perm (Aga _ (Adc _ _ _)),?_⟩
   exact⟨_,rfl,((b6,T6),(b5,T5),_),⟨rfl,rfl,trivial⟩,hm,rfl⟩
 rintro _ ⟨⟨b6,T6⟩,⟨b5,T5⟩,mv⟩ ρ2 d2 M1 M2 hl2 hM1 ⟨hm,hM2⟩
 subst hM1;subst hM2
 simp only at hm⊢
 refine Bm 0 rfl rfl rfl rfl (Ach _) rfl ?_
 apply A4
 show gwp P _ _ _ _ _
 (refine Ac (Ad (FA rfl ?_)))
 refine Yp (A:=tbD bt Tt (.pointer (some ⟨bp,0,none⟩)) t::(X++L)) (B:=[_,_,_,_]) ((Adj (l₁:=[_,_])).trans (Aco _ (Ack (l₁:=[_,_,_,_])))) rfl rfl (hdo d2 hl2) (fun v d3 L3 hl3 ⟨_,e1,L4,e2,hp4⟩=>?_)
 subst e1;subst e2
 refine B6 _ _ (Vs.perm (Ack (l₂:=[_,_,_,_]))) ?_
 refine AY 0 [.int .i64 e] rfl rfl rfl rfl (Ach _) rfl rfl ?_
 (refine Aa (An (Ac (Ad (Ah rfl (Aj 0 rfl rfl) (AP rfl rfl (Aa ?_)))))))
 show gwp P _ _ _ _ _
 skip
 by_cases he:e=0
 ·have hF:B8 t t' e=t':=by unfold B8;rw [if_pos he]
  rw [hF]
  (refine Ar rfl (by omega) (Ak ?_))
  exact A8 [.int .i64 e] ⟨⟨_,_,rfl,Aj 0 rfl rfl⟩,trivial⟩ (d':=d3) (L':=tbD bt Tt (.pointer (some ⟨bp,0,none⟩)) t'::(X'++L4)) (Vs.drop (.cons _ (.cons _ (.cons _ (.cons _ (Acb _)))))) ⟨hl2.trans hl3,rfl,L4,rfl,hp4⟩
 ·have hF:B8 t t' e={t with s:=t'.s.back t.s.mark}:=by unfold B8;rw [if_neg he]
  rw [hF]
  (refine Ax rfl (by omega) (Ac (Ad (Ah rfl (Aj 1 rfl rfl) (Bd 2 rfl rfl rfl (Au rfl ?_))))))
  refine Bm 4 rfl rfl rfl rfl (Ach _) rfl ?_
  (apply Aa)
  refine Bs [_,_,_,_,_] (X'++L4) rfl ?_
  (refine Ah rfl (Aj 1 rfl rfl) (Au rfl (Ai rfl (Ah rfl (Aj 4 rfl rfl) (Ah rfl (Aj 3 rfl rfl) ?_)))))
  refine Ba X' (Aa1 h3 hp4 hG hk (hm.mono hl3)) rfl rfl (fun v d5 L5 hl5 ⟨e5,_,hp5⟩=>?_)
  subst e5
  (apply A4)
  exact A8 [.int .i64 e] ⟨⟨_,_,rfl,Aj 0 rfl rfl⟩,trivial⟩ (d':=d5) (L':=tbD bt Tt (.pointer (some ⟨bp,0,none⟩)) {t with s:=t'.s.back t.s.mark}::(X'++L5)) (Vs.drop (.cons _ (.cons _ (.cons _ (.cons _ (Acb _)))))) ⟨hl2.trans hl3,rfl,L5,rfl,hp5⟩
end
def QU(P:Program) (f:FuncId):Prop:=∀{d:Ae}{s:PD}{dv pv:Value}{L:List Ae},Pg d s dv pv L→
 Aw P f [pv] d L (Ret fun v d' L'=>Le d d'∧∃bt Tt,v=.tuple #[.pointer (some ⟨bt,0,none⟩),.int .i64 0]∧L'=tbD bt Tt pv ⟨s, -1,0,0⟩::L)
def Ul(a0:Nat):AX:=⟨10,[(.tmp 2),(.tmp 3)],(.seq (rG (o1 2 (.mv (.const (.pointer none))) (o1 3 (.mv (kZ 0)) .done))) (.seq (.seq (rG (om 4 0 (oc 5 a0 [(tP 4)] (o1 6 (.eqp false (tP 5) (.const (.pointer none))) .done)))) (.cond (tP 6) (.seq (rG (o1 2 (.mv (.const (.pointer none))) (o1 3 (.mv (kZ 1)) .done))) .ret) .skip)) (.seq (rG (om 7 0 (o1 8 (.bld [(0,1),(1,1),(2,1),(3,1)] [(.pointer none),(.int .i64 0),(.int .i64 0),(.int .i64 0)] [(0,(tP 7)),(1,(kZ (-1)))]) (o1 9 (.box (tP 8)) (om 2 9 (o1 3 (.mv (kZ 0)) .done)))))) .ret)))⟩
theorem Zk{P:Program}{f f1:FuncId} (hd:dec P f=some (Ul f1)) (h1:K4 P f1):QU P f:=by
 intro d s dv pv L hp
 obtain⟨bp,rfl⟩:=hp.ptr
 refine AE hd (Aca rfl) ?_
 show gwp P _ _ _ _ _
 (refine Ac (Ad (Al rfl (Ab rfl (Aa (Ac (Ac (Ad (Al rfl ?_)))))))))
 refine DZ (h1 hp) rfl (fun v d2 L2 hl2 ⟨e1,_,hm⟩=>?_)
 subst e1
 have hmc:∃bm,v=.pointer (some ⟨bm,0,none⟩):=by obtain⟨bm,_,_,_,_,_,q,_⟩:=hm;exact⟨bm,q⟩
 obtain⟨bm,rfl⟩:=hmc
 (refine C5 rfl rfl (Aa (AR rfl (Ak (Ac (Ad (Al rfl (BI rfl (Cl rfl (fun _ _=>Al rfl (Ab rfl (Aa (An ?_)))))))))))))
 exact A8 [.pointer (some ⟨_,0,none⟩),.int .i64 0] ⟨Av rfl,Av rfl,trivial⟩ (Vs.refl _ _) ⟨hl2,_,_,rfl,rfl⟩
def LJ(root height count:Int):Bool:=(decide (height=0)&& decide (root= -1)&& decide (count=0))||(decide (1≤height)&& decide (0≤root)&& decide (1≤count))
end Go.Gk.Tre
end
section
namespace Go.Gk.Tre
open Go Go.Gk Go.Gk.Dev Go.Gk.Cch Go.Gk.Pgr Go.Gk.Chn Go.Gk.Node
structure Fit (n:AA) (N:Nat):Prop where
 k:n.keys.length≤N
 v:n.vals.length≤N
 i:n.kids.length≤N
 kl:∀x∈n.keys,x.length≤1000
 vl:∀x∈n.vals,x.length≤1000
theorem OU{l:List (List UInt8)} (h:∀x∈l,x.length≤1000) (j:Nat):(l.getD j []).length≤1000:=by
 rw [Acf]
 cases q:l[j]? with
 |none=>simp
 |some x=>exact h x (Aew q)
theorem Rm{n:AA} (hk:∀x∈n.keys,x.length≤1000) (hv:∀x∈n.vals,x.length≤1000):∀k,Bj n k≤2002*k
 |0=>by simp [Bj]
 |k+1=>by
  have h1:=Rm hk hv k
  have h2:Da n k≤1000:=OU hk k
  have h3:EL n k≤1000:=OU hv k
  simp only [Bj,DR]
  split<;>omega
theorem Fit.small{n:AA}{N:Nat} (h:Fit n N) (hN:N≤100000):Small n:=by
 have h1:=Rm h.kl h.vl n.keys.length
 have h2:=h.k
 have h3:=h.i
 have h4:=h.v
 refine⟨?_,by omega,by omega,by omega⟩
 unfold A0
 split<;>omega
theorem IS{n:AA}:∀k,k≤Bj n k
 |0=>Ach _
 |k+1=>by
  have:=IS (n:=n) k
  simp only [Bj,DR]
  split<;>omega
theorem Kw{n:AA} (h:Bv n=true):Fit n 257∧∀x∈n.keys,x.length≤64:=by
 have hs:A3 n=true:=by simp only [Bv,Acd] at h;exact h.1
 have hz:A0 n≤256:=by simp only [Bv,Acd,decide_eq_true_eq] at h;exact h.2
 have hk:n.keys.length≤254:=by
  have:=IS (n:=n) n.keys.length
  unfold A0 at hz;omega
 have hkl:∀x∈n.keys,x.length≤64:=fun x hx=>by
  obtain⟨k,hk,rfl⟩:=Aeh hx
  simp only [A3,Acd] at hs
  exact RC hs.1 hk
 refine⟨⟨by omega,?_,?_,fun x hx=>by have:=hkl x hx;omega,fun x hx=>?_⟩,hkl⟩
 ·simp only [A3,Acd] at hs
  cases hl:n.leaf with
  |true=>
   have h2:=hs.2
   simp only [hl,if_true,Acd,decide_eq_true_eq] at h2
   omega
  |false=>
   have h2:=hs.2
   simp only [hl,Aci,if_false,Acd,decide_eq_true_eq] at h2
   omega
 ·simp only [A3,Acd] at hs
  cases hl:n.leaf with
  |true=>
   have h2:=hs.2
   simp only [hl,if_true,Acd,decide_eq_true_eq] at h2
   omega
  |false=>
   have h2:=hs.2
   simp only [hl,Aci,if_false,Acd,decide_eq_true_eq] at h2
   omega
 ·simp only [A3,Acd] at hs
  cases hl:n.leaf with
  |true=>
   have h2:=hs.2
   simp only [hl,if_true,Acd,decide_eq_true_eq,Acq] at h2
   have:=h2.2 x hx
   simp only [Ha,decide_eq_true_eq] at this
   omega
  |false=>
   have h2:=hs.2
   simp only [hl,Aci,if_false,Acd,decide_eq_true_eq] at h2
   have:n.vals=[]:=Acm h2.1.1
   rw [this] at hx;cases hx
theorem Jy{α:Type}{l:List α}{i:Nat}{y x:α} (h:x∈BX l i y):x=y∨x∈l:=by
 unfold BX at h
 rcases Acj.1 h with h|h
 ·exact .inr (Aha h)
 ·rcases Adb.1 h with h|h
  ·exact .inl h
  ·exact .inr (Agf h)
theorem Kx{α:Type}{l:List α}{i:Nat}{x:α} (h:x∈l.eraseIdx i):x∈l:=(Agc l i).subset h
theorem O9{α:Type}{l:List α}{i:Nat}{y x:α} (h:x∈l.set i y):x=y∨x∈l:=(List.mem_or_eq_of_mem_set h).symm
end Go.Gk.Tre
end
section
namespace Go.Gk.Tre
open Go Go.Gk Go.Gk.Dev Go.Gk.Cch Go.Gk.Pgr Go.Gk.Chn Go.Gk.Node
attribute [local irreducible] gwp gws xwp
def JN(P:Program) (f:FuncId):Prop:=∀{d:Ae}{s:PD}{dv pv:Value}{L:List Ae}{bt:Nat}{Tt:TypeId}{r h c k:Int}{cs:List Value}{n:AA}{hk hv hi:Ae}{i:Nat}{m:MdD}{ua:Option Addr}{uc:Nat},
 PgT d s dv pv L→DH d cs n hk hv hi→Fit n 1000→i<n.kids.length→(0≤m.other→i≤n.keys.length)→MOk m→AJ d (.slice ua m.key.length uc) m.key→
 Aw P f [.pointer (some ⟨bt,0,none⟩),.int .i64 k,.agg cs.toArray,.int .i64 i,mdV m ua uc] d (hk::hv::hi::tb bt Tt pv r h c::L) (Ret fun v d' L'=>Le d d'∧∃ua' uc' L2,v=.tuple #[mdV (Ci s k n i m).2.1 ua' uc',.int .i64 (Ci s k n i m).2.2]∧
  AJ d' (.slice ua' (Ci s k n i m).2.1.key.length uc') (Ci s k n i m).2.1.key∧L'=tb bt Tt pv r h c::L2∧PgT d' (Ci s k n i m).1 dv pv L2)
def Ma(a0 a1 a2 a3:Nat):AX:=⟨61,[(.cell 10 (some 4)),(.tmp 11)],(.seq (rG (o1 7 (.box (tP 2)) (o1 9 (.box (tP 4)) (o1 10 (.alo (.agg #[(.int .i64 0),(.int .i64 0),(.slice none 0 0),(.int .i64 0)])) (o1 11 (.mv (kZ 0)) .done))))) (.seq (.seq (.reg true (p1 12 (.fld 3 (tP 7)) (pl 13 12 (pm 14 3 (p1 15 (.idx 1 (tP 13) (tP 14)) (pl 16 15 (p1 17 (.fld 0 (tP 9)) (pl 18 17 (p1 19 (.bin .eql (tP 16) (tP 18)) (pm 20 19 (.op true ⟨(some 21),(some (20,true)),(.fld 1 (tP 9))⟩ (.op true ⟨(some 22),(some (20,true)),(.ld none (tP 21))⟩ (.op true ⟨(some 23),(some (20,true)),(.bin .lss (tP 22) (kZ 0))⟩ (p1 24 (.pick (tP 20) (tP 23) (.const (.bool false))) .done)))))))))))))) (.cond (tP 24) (.seq (rG (om 25 1 (o1 26 (.ld (some 4) (tP 7)) (oc 27 a0 [(tP 26)] (o1 28 (.bld [(0,1),(1,1),(2,1),(3,1)] [(.int .i64 0),(.int .i64 0),(.slice none 0 0),(.int .i64 0)] [(0,(tP 25)),(1,(kZ (-1))),(3,(tP 27))]) (o0 (.st 4 (tP 10) (tP 28)) (o1 11 (.mv (kZ 0)) .done))))))) .ret) .skip)) (.seq (rG (oj 29 3 7 (ol 30 29 (om 31 3 (oj 32 0 9 (ol 33 32 (oI 34 1 30 31 (o0 (.st 1 (tP 34) (tP 33)) .done)))))))) (.seq (.seq (rG (oj 35 1 9 (ol 36 35 (ob 37 .geq (tP 36) (kZ 0) .done)))) (.cond (tP 37) (.reg true (p1 38 (.fld 1 (tP 7)) (pl 39 38 (pm 40 3 (p1 41 (.fld 2 (tP 9)) (pl 42 41 (p1 45 (.fld 3 (tP 7)) (pl 46 45 (pm 47 3 (p1 48 (.bin .add (tP 47) (kZ 1)) (p1 49 (.fld 1 (tP 9)) (pl 50 49 (.par (o1 51 (.bsl 1 1 [(.int .i64 0)] [(0,(tP 50))]) .done) (o1 43 (.bsl 1 1 [(.slice none 0 0)] [(0,(tP 42))]) (oc 44 a1 [(tP 39),(tP 40),(tP 43)] (p1 53 (.fld 1 (tP 7)) .done))) (oc 52 a2 [(tP 46),(tP 48),(tP 51)] (.bar (o0 (.st 1 (tP 53) (tP 44)) (p1 54 (.fld 3 (tP 7)) (o0 (.st 1 (tP 54) (tP 52)) .done)))))))))))))))))) .skip)) (.seq (rG (om 55 0 (om 56 1 (o1 57 (.ld (some 4) (tP 7)) (oc 58 a3 [(tP 55),(tP 56),(tP 57)] (oe 59 58 0 (oe 60 58 1 (o0 (.st 4 (tP 10) (tP 59)) (om 11 60 .done))))))))) .ret)))))⟩
theorem _root_.Go.Gk.Vs.out{d d':Ae} (A B:List Ae) {M M':List Ae} (p:M.Perm M') (v:Vs d M' d' []):Vs d (A++(M++B)) d' (A++B):=by
 have p1:(A++(M++B)).Perm (M'++(A++B)):=by
  refine(Adz A M B).trans ?_
  exact Afb _ p
 exact(Vs.perm p1).trans (Vs.app v (A++B))
theorem F0{d:Ae}{cs:List Value}{n:AA}{hk hv hi:Ae} (o:DH d cs n hk hv hi):∃d2,Le d d2∧Vs d [hk,hv,hi] d2 []∧Cx d2 cs n:=by
 obtain⟨d2,h1,h2,h3⟩:=Vs.HF d [hk,hv,hi]
 exact⟨d2,h2,h1,o.Ij h2 (h3 _ (by simp)) (h3 _ (by simp)) (h3 _ (by simp))⟩
set_option maxRecDepth 4000 in
set_option maxHeartbeats 2000000 in
theorem WR{P:Program}{f f1 f2 f3 f4:FuncId} (hd:JU P f=some (Ma f1 f2 f3 f4)) (h1:Ll P f1) (h2:Jk RBs P f2) (h3:Jk Be P f3) (h4:Hq P f4):JN P f:=by
 intro d s dv pv L bt Tt r h c k cs n hk hv hi i m ua uc hp hn hfit hi0 hi1 hm hmk
 have hm1:=hm.p0
 have hm2:=hm.p1
 have hm3:=hm.o0
 have hm4:=hm.o1
 have hm5:=hm.k
 have hn0:=hn
 obtain⟨kv,vv,iv,rfl,r1,r2,r3⟩:=hn0
 obtain⟨xa,xc,rfl⟩:=r1.val
 obtain⟨ya,yc,rfl⟩:=r2.val
 have r3':=r3
 obtain⟨b1,T1,l1,c1,cs1,q1,rfl,hcl,hcs,hle1,⟨rfl,hb1,hb2⟩,hset⟩:=Aq.at (by omega) r3' hi0
 subst q1
 have c0:=hcs 0 _ rfl
 have hg0:n.kids.getD i 0=n.kids[i]:=by rw [Acf,Ace hi0];rfl
 refine AE hd (Aca rfl) ?_
 show gwp P _ _ _ _ _
 apply Ac;apply Ad
 refine Cl rfl (fun b7 T7=>?_)
 refine Cl (l:=[.int .i64 m.page,.int .i64 m.other,.slice ua m.key.length uc,.int .i64 m.size]) rfl (fun b9 T9=>?_)
 refine BU (fun b10 T10=>?_)
 apply Ab;rfl;apply Aa
 refine FR (fun ρ d' L'=>BC ρ [(0,.pointer (some ⟨bt,0,none⟩)),(1,.int .i64 k),(3,.int .i64 i),(7,.pointer (some ⟨b7,0,none⟩)),(9,.pointer (some ⟨b9,0,none⟩)),(10,.pointer (some ⟨b10,0,none⟩))]∧¬(n.kids[i]=m.page∧m.other<0)∧d=d'∧L'=[bx b10 T10 [.int .i64 0,.int .i64 0,.slice none 0 0,.int .i64 0],bx b9 T9 [.int .i64 m.page,.int .i64 m.other,.slice ua m.key.length uc,.int .i64 m.size],bx b7 T7 [.bool n.leaf,.slice xa n.keys.length xc,.slice ya n.vals.length yc,.slice (some ⟨b1,0,none⟩) n.kids.length c1],hk,hv,bx b1 T1 l1,tb bt Tt pv r h c]++L) ?_ ?_
 ·by_cases hB1:n.kids[i]=m.page
  ·by_cases hA2:m.other<0
   ·have hF:Ci s k n i m=(s,⟨k, -1,[],A0 n⟩,0):=by unfold Ci;rw [hg0,if_pos ⟨hB1,hA2⟩]
    rw [hF]
    apply Ac
    refine Bs [_,_,_,_,_,_,_] L rfl ?_
    (refine Ai rfl (Ah rfl (Aj 2 rfl rfl) (Ab rfl (Bw _ rfl rfl rfl (by omega) (Ah rfl (Aj 5 rfl (by assumption)) (Ai rfl (Ah rfl (Aj 1 rfl rfl) (AO rfl rfl (Af rfl (Bn rfl (by omega) (Ag rfl (Ai rfl (Ag rfl (Ah rfl (Aj 1 rfl rfl) (Ag rfl (AB rfl rfl (AG rfl rfl (A4 (Ax rfl (by omega) (Ac (Ad (Ab rfl (Bd 2 rfl rfl rfl ?_)))))))))))))))))))))))
    refine IJ rfl (v:=.int .i64 (A0 n)) (fun d1 hl1 hk1=>h1 (hn.Ij hl1 (hk1 _ (by simp)) (hk1 _ (by simp)) (hk1 _ (by simp))) (hfit.small (by omega)).1) ?_
    (apply BI;rfl)
    refine Bm 0 rfl rfl rfl rfl (Ach _) rfl ?_
    (refine Ab rfl (Aa (An ?_)))
    exact A8 [mdV ⟨k, -1,[],A0 n⟩ none 0,.int .i64 0] ⟨AS 0 rfl rfl rfl,Av rfl,trivial⟩ (d':=d) (L':=tb bt Tt pv r h c::L) (Vs.drop (.cons _ (.cons _ (.cons _ (.cons _ (.cons _ (.cons _ (Acb _)))))))) ⟨Le.refl _,none,0,L,rfl,RSl.nil,rfl,hp⟩
   ·apply Ac
    refine Bs [_,_,_,_,_,_,_] L rfl ?_
    (refine Ai rfl (Ah rfl (Aj 2 rfl rfl) (Ab rfl (Bw _ rfl rfl rfl (by omega) (Ah rfl (Aj 5 rfl (by assumption)) (Ai rfl (Ah rfl (Aj 1 rfl rfl) (AO rfl rfl (Af rfl (Bn rfl (by omega) (Ag rfl (Ai rfl (Ag rfl (Ah rfl (Aj 1 rfl rfl) (Ag rfl (AB rfl rfl (AG rfl rfl (A4 (Ar rfl (by omega) (Ak ?_))))))))))))))))))))
    exact⟨⟨rfl,rfl,rfl,rfl,rfl,rfl,trivial⟩,fun q=>hA2 q.2,rfl,rfl⟩
  ·apply Ac
   refine Bs [_,_,_,_,_,_,_] L rfl ?_
   (refine Ai rfl (Ah rfl (Aj 2 rfl rfl) (Ab rfl (Bw _ rfl rfl rfl (by omega) (Ah rfl (Aj 5 rfl (by assumption)) (Ai rfl (Ah rfl (Aj 1 rfl rfl) (AO rfl rfl (Af rfl (Bb rfl (by omega) (Ap rfl (Ap rfl (Ap rfl (As rfl rfl (A4 (AR rfl (Ak ?_)))))))))))))))))
   exact⟨⟨rfl,rfl,rfl,rfl,rfl,rfl,trivial⟩,fun q=>hB1 q.1,rfl,rfl⟩
 rintro ρ d' L' ⟨hsl,hA,hdd,hLL⟩
 subst hdd;subst hLL
 refine Df _ hsl ?_
 have hF:Ci s k n i m=if 0≤m.other then A9 s k {n with keys:=BX n.keys i m.key,kids:=BX (n.kids.set i m.page) (i+1) m.other} else A9 s k {n with kids:=n.kids.set i m.page}:=by unfold Ci;rw [hg0,if_neg hA]
 rw [hF]
 clear hF hA
 have hrow:=hset [.int .i64 m.page] m.page rfl ⟨rfl,by omega,by omega⟩
 have hrl:=hrow.val
 generalize hT:(if 0≤m.other then A9 s k {n with keys:=BX n.keys i m.key,kids:=BX (n.kids.set i m.page) (i+1) m.other} else A9 s k {n with kids:=n.kids.set i m.page})=T
 (refine Ac (Ad (Ai rfl (Ah rfl (Aj 2 rfl rfl) (Ab rfl (Ai rfl (Ah rfl (Aj 1 rfl rfl) (Bw _ rfl rfl rfl (by omega) ?_))))))))
 refine AY 5 (patch l1 (i*1) [.int .i64 m.page]) rfl rfl rfl rfl (by omega) rfl rfl ?_
 apply Aa
 refine FR (fun ρ d' L'=>Le d d'∧∃cs' n' hk' hv' hi' Lr,BC ρ [(0,.pointer (some ⟨bt,0,none⟩)),(1,.int .i64 k),(7,.pointer (some ⟨b7,0,none⟩)),(10,.pointer (some ⟨b10,0,none⟩))]∧DH d' cs' n' hk' hv' hi'∧Fit n' 1001∧A9 s k n'=T∧Lr.Perm [hk',hv',hi']∧
  L'=bx b10 T10 [.int .i64 0,.int .i64 0,.slice none 0 0,.int .i64 0]::bx b9 T9 [.int .i64 m.page,.int .i64 m.other,.slice ua m.key.length uc,.int .i64 m.size]::bx b7 T7 cs'::(Lr++tb bt Tt pv r h c::L)) ?_ ?_
 ·by_cases ho:0≤m.other
  ·rw [if_pos ho] at hT
   have hi2:=hi1 ho
   have hfi:=hfit.i
   have hfk:=hfit.k
   (refine Ac (Ad (Ai rfl (Ah rfl (Aj 1 rfl rfl) (DF rfl rfl (Aa (Ax rfl (by omega) ?_)))))))
   refine Bs [_,_,_] (hk::hv::bx b1 T1 (patch l1 (i*1) [.int .i64 m.page])::tb bt Tt pv r h c::L) rfl ?_
   (refine Ai rfl (Ah rfl (Aj 2 rfl rfl) (Ab rfl (Ai rfl (Ah rfl (Aj 1 rfl rfl) (Ai rfl (Ah rfl (Aj 2 rfl rfl) (Ab rfl (AL rfl rfl (by omega) (by omega) (Ai rfl (Ah rfl (Aj 1 rfl rfl) ?_)))))))))))
   refine Gj (α:=Nat×TypeId) (β:=Option Addr×Nat×Ae) [(0,.pointer (some ⟨bt,0,none⟩)),(1,.int .i64 k),(7,.pointer (some ⟨b7,0,none⟩)),(10,.pointer (some ⟨b10,0,none⟩)),(46,.slice (some ⟨b1,0,none⟩) n.kids.length c1),(48,.int .i64 ((i:Int)+1))]
    (fun x=>[(51,.slice (some ⟨x.1,0,none⟩) 1 1)]) (fun x d L=>L=[bx x.1 x.2 [.int .i64 m.other]]) (fun y=>[(44,.slice y.1 (n.keys.length+1) y.2.1),(53,.pointer (some ⟨b7,1,none⟩))])
    (fun y d' M=>Aq 1 RBs d' (.slice y.1 (n.keys.length+1) y.2.1) (BX n.keys i m.key) y.2.2∧M=y.2.2::hv::bx b1 T1 (patch l1 (i*1) [.int .i64 m.page])::tb bt Tt pv r h c::L) [] _ rfl
    (fun x d d' M hl h=>h) (fun y d d' M hl h=>⟨h.1.D7 hl,h.2⟩) (fun x=>rfl) (fun y=>rfl) rfl ⟨rfl,rfl,rfl,rfl,rfl,rfl,trivial⟩ ?_ ?_ ?_
   ·refine D9 (v0:=.int .i64 m.other) rfl rfl (fun b51 T51=>?_)
    (apply A4)
    exact⟨_,rfl,(b51,T51),⟨rfl,trivial⟩,rfl⟩
   ·refine D9 (v0:=.slice ua m.key.length uc) rfl rfl (fun b43 T43=>?_)
    refine Dx (A:=[_,_]) rfl rfl (h2 r1 hi2 (by omega) ⟨_,rfl,hmk⟩ Fq) (fun v d1 L1 hl1 ⟨e0,h',e1,hg⟩=>?_)
    subst e0;subst e1
    have hgl:=EW (y:=m.key) hi2
    obtain⟨ga,gc,rfl⟩:=hg.val
    rw [hgl] at hg⊢
    (refine Ai rfl (A4 ?_))
    exact⟨_,rfl,(ga,gc,h'),⟨rfl,rfl,trivial⟩,hg,rfl⟩
   ·rintro⟨b51,T51⟩ ⟨ga,gc,h44⟩ ρ2 d2 M1 M2 hl2 hM1 ⟨hg44,hM2⟩
    subst hM1;subst hM2
    simp only at hg44⊢
    refine C3 (A:=[bx b51 T51 [.int .i64 m.other],bx b1 T1 (patch l1 (i*1) [.int .i64 m.page])]) (h3 (i:=i+1) (y:=m.other) (hrow.Ie hl2) (by simp;omega) (by simp;omega) ⟨rfl,by omega,by omega⟩ De) (Aco _ (Adj (l₁:=[_,_]))) rfl (fun v d3 L3 hl3 ⟨e0,h52,e1,hg52⟩=>?_)
    subst e0;subst e1
    obtain⟨za,zc,rfl⟩:=hg52.val
    refine⟨_,_,Vs.refl _ _,?_⟩
    apply B1
    refine AY 2 [.bool n.leaf,.slice ga (n.keys.length+1) gc,.slice ya n.vals.length yc,.slice (some ⟨b1,0,none⟩) n.kids.length c1] rfl rfl rfl rfl (Aca rfl) rfl rfl ?_
    (apply Ai;rfl)
    refine AY 2 [.bool n.leaf,.slice ga (n.keys.length+1) gc,.slice ya n.vals.length yc,.slice za (BX (n.kids.set i m.page) (i+1) m.other).length zc] rfl rfl rfl rfl (Aca rfl) rfl rfl ?_
    (apply Aa)
    refine⟨hl2,_,{n with keys:=BX n.keys i m.key,kids:=BX (n.kids.set i m.page) (i+1) m.other},h44,hv,h52,[_,_,_],⟨rfl,rfl,rfl,rfl,trivial⟩,⟨_,_,_,rfl,hg44,r2.D7 hl2,hg52⟩,⟨?_,?_,?_,fun x hx=>?_,hfit.vl⟩,hT,Ack (l₁:=[_]) (l₂:=[_,_]),rfl⟩
    ·show(BX n.keys i m.key).length≤_
     rw [EW hi2];omega
    ·exact Nat.le_succ_of_le hfit.v
    ·show(BX (n.kids.set i m.page) (i+1) m.other).length≤_
     rw [EW (by simp;omega),Adf];omega
    ·rcases Jy hx with rfl|hx
     ·exact hm5
     ·exact hfit.kl x hx
  ·rw [if_neg ho] at hT
   (refine Ac (Ad (Ai rfl (Ah rfl (Aj 1 rfl rfl) (DF rfl rfl (Aa (Ar rfl (by omega) (Ak ?_))))))))
   obtain⟨za,zc,hza⟩:=hrl
   exact⟨Le.refl _,_,{n with kids:=n.kids.set i m.page},hk,hv,_,[_,_,_],⟨rfl,rfl,rfl,rfl,trivial⟩,⟨_,_,_,rfl,r1,r2,hrow⟩,⟨Nat.le_succ_of_le hfit.k,Nat.le_succ_of_le hfit.v,by simp only [Adf];exact Nat.le_succ_of_le hfit.i,hfit.kl,hfit.vl⟩,hT,Adp _,rfl⟩
 rintro ρ d' L' ⟨hle,cs',n',hk',hv',hi',Lr,hsl,hn',hfit',hT',hpm,hLL⟩
 subst hLL;subst hT'
 obtain⟨ka,kc,va,vc,ia,ic,rfl⟩:=hn'.cells
 refine Df _ hsl ?_
 obtain⟨d2,hl2,v2,hn2⟩:=F0 hn'
 (refine Ac (Ad (Al rfl (Ab rfl (Bd 2 rfl rfl rfl ?_)))))
 refine B6 _ _ (Vs.out [_,_,_] _ hpm v2) ?_
 refine Ba [_,_,_] (h4 (k:=k) (hp.mono (hle.trans hl2)) hn2 (hfit'.small (by omega))) rfl rfl (fun v d4 L4 hl4 ⟨_,wa,wc,L5,e4,hk4,e5,hp5⟩=>?_)
 subst e4;subst e5
 (refine Ao rfl rfl (Ao rfl rfl ?_))
 refine Bm 0 rfl rfl rfl rfl (Ach _) rfl ?_
 (refine Ab rfl (Aa (An ?_)))
 exact A8 [mdV (A9 s k n').2.1 wa wc,.int .i64 (A9 s k n').2.2] ⟨AS 0 rfl rfl rfl,Av rfl,trivial⟩ (d':=d4) (L':=tb bt Tt pv r h c::L5) (Vs.drop (.cons _ (.cons _ (.cons _ (Acb _))))) ⟨(hle.trans hl2).trans hl4,wa,wc,L5,rfl,hk4,rfl,hp5⟩
end Go.Gk.Tre
end
section
namespace Go.Gk.Tre
open Go Go.Gk Go.Gk.Dev Go.Gk.Cch Go.Gk.Pgr Go.Gk.Chn Go.Gk.Node
section
theorem Fo{s:PD} (h:Pgr.Good s):Pgr.Good s.AT.1:=by
 unfold PD.AT
 cases q:CY 0 s.kinds with
 |none=>exact h
 |some i=>
  obtain⟨a,b,c,e,g⟩:=h.kds (ks:=s.kinds.set i 1) rfl (by decide) (by decide)
  exact⟨a,b,c,e,g⟩
theorem HE{s:PD} (h:Pgr.Good s) (k:Int) (b:Sec):Pgr.Good (s.put k b).1:=by
 unfold PD.put
 split
 ·split
  ·exact⟨h.one,h.len,h.inn,h.syn,h.kd⟩
  ·exact h
 ·exact h
theorem Iv{s:PD} (h:Pgr.Good s) (k:Int):Pgr.Good (s.drop k).1:=by
 unfold PD.drop
 split
 ·exact h.kds rfl (by decide) (by decide)
 ·split
  ·exact h.kds rfl (by decide) (by decide)
  ·exact h
theorem PM{s:PD} (h:Pgr.Good s) {k:Int}{n:AA}:Pgr.Good (Bo s k n).1:=by
 unfold Bo
 split
 ·split
  ·exact HE h _ _
  ·split
   ·exact Fo h
   ·split
    ·split
     ·exact Iv (Fo h) _
     ·exact HE (Iv (Fo h) _) _ _
    ·exact HE (Fo h) _ _
 ·exact h
theorem MH{s:PD} (h:Pgr.Good s) {k:Int}{n:AA} (h0: -1≤k) (h1:k≤16384): -1≤(Bo s k n).2.1∧(Bo s k n).2.1≤16384:=by
 have ht:=PH h
 have hz: -1≤(0:Int)∧(0:Int)≤16384:=by decide
 have ht': -1≤s.AT.2.1∧s.AT.2.1≤16384:=by omega
 unfold Bo
 split
 ·split
  ·exact⟨h0,h1⟩
  ·split
   ·exact hz
   ·split
    ·split
     ·exact hz
     ·exact ht'
    ·exact ht'
 ·exact hz
theorem PQ{n:AA} (h:Bv n=true):∀x∈n.kids,0≤x∧x≤8191:=by
 simp only [Bv,A3,Acd] at h
 intro x hx
 cases hl:n.leaf with
 |true=>
  have h2:=h.1.2
  simp only [hl,if_true,Acd,decide_eq_true_eq] at h2
  have:n.kids=[]:=Acm h2.1.2
  rw [this] at hx;cases hx
 |false=>
  have h2:=h.1.2
  simp only [hl,Aci,if_false,Acd,decide_eq_true_eq,Acq] at h2
  have:=h2.2 x hx
  simpa [FQ] using this
theorem VL{n:AA} (h:∀x∈n.keys,x.length≤1000):(BA n).length≤1000:=by
 unfold BA
 split
 ·exact OU h _
 ·simp
theorem D5:MOk Cc:=⟨by decide,by decide,by decide,by decide,by decide⟩
theorem GL{s:PD} (h:Pgr.Good s) {k:Int}{n:AA} (h0: -1≤k) (h1:k≤16384) (hk:∀x∈n.keys,x.length≤1000):MOk (A9 s k n).2.1:=by
 unfold A9
 split
 ·obtain⟨a,b⟩:=MH h (n:=n) h0 h1
  exact⟨a,b,(by decide:(-1:Int)≤ -1),(by decide:(-1:Int)≤16384),Adg _⟩
 ·split
  ·show MOk (if (Bo s k (AV n)).2.2=0 then _ else _:PD×MdD×Int).2.1
   split
   ·obtain⟨a,b⟩:=MH h (n:=AV n) h0 h1
    obtain⟨c,e⟩:=MH (PM h (k:=k) (n:=AV n)) (k:= -1) (n:=A6 n) (by decide) (by decide)
    exact⟨a,b,c,e,VL hk⟩
   ·exact D5
  ·exact D5
theorem PS{s:PD} (h:Pgr.Good s) {k:Int}{n:AA}{i:Nat}{m:MdD} (h0: -1≤k) (h1:k≤16384) (hk:∀x∈n.keys,x.length≤1000) (hm:MOk m):MOk (Ci s k n i m).2.1:=by
 unfold Ci
 split
 ·exact⟨h0,h1,(by decide:(-1:Int)≤ -1),(by decide:(-1:Int)≤16384),Adg _⟩
 ·split
  ·refine GL h h0 h1 (fun x hx=>?_)
   rcases Jy hx with rfl|hx
   ·exact hm.k
   ·exact hk x hx
  ·exact GL h h0 h1 hk
theorem MN{n:AA}{key:List UInt8}:(findD n key).1≤n.keys.length:=by
 have h:low n key≤n.keys.length:=(List.takeWhile_sublist _).length_le
 unfold findD
 split
 ·exact h
 ·have:=(List.takeWhile_sublist (fun k=>decide (k=key)) (l:=n.keys.drop (low n key))).length_le
  rw [Acn] at this
  show low n key+_≤_
  omega
theorem Ni{n:AA}{key:List UInt8} (h:(findD n key).2=true):(findD n key).1<n.keys.length:=by
 unfold findD at h⊢
 split
 ·rename_i hl
  rw [if_pos hl] at h
  simp only [Acd,decide_eq_true_eq] at h
  exact h.1
 ·rename_i hl
  rw [if_neg hl] at h
  cases h
section
variable {s:PD}{k:Int}{key cell:List UInt8}{x:Nat}
theorem Ix{h:Int} (e:(AZ s k h).2=0):Bv (AZ s k h).1=true∧(AZ s k h).1.leaf=decide (h=1):=by
 unfold AZ at e⊢
 by_cases q:(Bk s k).2=0∧(Bk s k).1.leaf≠decide (h=1)
 ·rw [if_pos q] at e;exact absurd (show(200:Int)=0 from e) (by decide)
 ·rw [if_neg q] at e
  exact⟨Mw e,Classical.byContradiction fun w=>q ⟨e,w⟩⟩
theorem XH(h:(AZ s k ((x+1:Nat):Int)).2≠0):BW s k key cell (x+1)=(s,Cc,false,(AZ s k ((x+1:Nat):Int)).2):=by
 rw [BW];exact if_pos h
theorem S7(h:(AZ s k ((0+1:Nat):Int)).2=0) {n:AA} (hn:(AZ s k ((0+1:Nat):Int)).1=n) {i:Nat} (hf:findD n key=(i,true)):
  BW s k key cell (0+1)=if (BN s (n.vals.getD i [])).2≠0 then((BN s (n.vals.getD i [])).1,Cc,false,(BN s (n.vals.getD i [])).2) else
   ((A9 (BN s (n.vals.getD i [])).1 k {n with vals:=n.vals.set i cell}).1,(A9 (BN s (n.vals.getD i [])).1 k {n with vals:=n.vals.set i cell}).2.1,false,(A9 (BN s (n.vals.getD i [])).1 k {n with vals:=n.vals.set i cell}).2.2):=by
 subst hn
 rw [BW]
 refine(if_neg (fun q=>q h)).trans ((if_pos rfl).trans ((if_pos (by rw [hf])).trans ?_))
 rw [hf]
theorem Tb(h:(AZ s k ((0+1:Nat):Int)).2=0) {n:AA} (hn:(AZ s k ((0+1:Nat):Int)).1=n) {i:Nat} (hf:findD n key=(i,false)):
  BW s k key cell (0+1)=((A9 s k {n with keys:=BX n.keys i key,vals:=BX n.vals i cell}).1,(A9 s k {n with keys:=BX n.keys i key,vals:=BX n.vals i cell}).2.1,true,(A9 s k {n with keys:=BX n.keys i key,vals:=BX n.vals i cell}).2.2):=by
 subst hn
 rw [BW]
 refine(if_neg (fun q=>q h)).trans ((if_pos rfl).trans ((if_neg (by rw [hf];exact Ahn)).trans ?_))
 rw [hf]
theorem NW(h:(AZ s k ((x+1+1:Nat):Int)).2=0) {n:AA} (hn:(AZ s k ((x+1+1:Nat):Int)).1=n) {i:Nat}{b:Bool} (hf:findD n key=(i,b)):
  BW s k key cell (x+1+1)=if (BW s (n.kids.getD i 0) key cell (x+1)).2.2.2≠0 then((BW s (n.kids.getD i 0) key cell (x+1)).1,Cc,false,(BW s (n.kids.getD i 0) key cell (x+1)).2.2.2) else
   ((Ci (BW s (n.kids.getD i 0) key cell (x+1)).1 k n i (BW s (n.kids.getD i 0) key cell (x+1)).2.1).1,(Ci (BW s (n.kids.getD i 0) key cell (x+1)).1 k n i (BW s (n.kids.getD i 0) key cell (x+1)).2.1).2.1,(BW s (n.kids.getD i 0) key cell (x+1)).2.2.1,(Ci (BW s (n.kids.getD i 0) key cell (x+1)).1 k n i (BW s (n.kids.getD i 0) key cell (x+1)).2.1).2.2):=by
 subst hn
 rw [BW]
 refine(if_neg (fun q=>q h)).trans ((if_neg (Aez _)).trans ?_)
 rw [hf]
theorem XT(h:(AZ s k ((x+1:Nat):Int)).2≠0):BS s k key (x+1)=(s,Cc,false,(AZ s k ((x+1:Nat):Int)).2):=by
 rw [BS];exact if_pos h
theorem SZ(h:(AZ s k ((0+1:Nat):Int)).2=0) {n:AA} (hn:(AZ s k ((0+1:Nat):Int)).1=n) {i:Nat} (hf:findD n key=(i,true)):
  BS s k key (0+1)=if (BN s (n.vals.getD i [])).2≠0 then((BN s (n.vals.getD i [])).1,Cc,false,(BN s (n.vals.getD i [])).2) else
   ((A9 (BN s (n.vals.getD i [])).1 k {n with keys:=n.keys.eraseIdx i,vals:=n.vals.eraseIdx i}).1,(A9 (BN s (n.vals.getD i [])).1 k {n with keys:=n.keys.eraseIdx i,vals:=n.vals.eraseIdx i}).2.1,true,(A9 (BN s (n.vals.getD i [])).1 k {n with keys:=n.keys.eraseIdx i,vals:=n.vals.eraseIdx i}).2.2):=by
 subst hn
 rw [BS]
 refine(if_neg (fun q=>q h)).trans ((if_pos rfl).trans ((if_pos (by rw [hf])).trans ?_))
 rw [hf]
theorem Tc(h:(AZ s k ((0+1:Nat):Int)).2=0) {n:AA} (hn:(AZ s k ((0+1:Nat):Int)).1=n) {i:Nat} (hf:findD n key=(i,false)):BS s k key (0+1)=(s,⟨k, -1,[],256⟩,false,0):=by
 subst hn
 rw [BS]
 exact(if_neg (fun q=>q h)).trans ((if_pos rfl).trans (if_neg (by rw [hf];exact Ahn)))
theorem NV(h:(AZ s k ((x+1+1:Nat):Int)).2=0) {n:AA} (hn:(AZ s k ((x+1+1:Nat):Int)).1=n) {i:Nat}{b:Bool} (hf:findD n key=(i,b)) {u:PD×MdD×Bool×Int} (hu:BS s (n.kids.getD i 0) key (x+1)=u):
  BS s k key (x+1+1)=if u.2.2.2≠0∨u.2.2.1=false then(u.1,⟨k, -1,[],256⟩,u.2.2.1,u.2.2.2) else
   if u.2.1.other<0∧u.2.1.size<80 then((Dt u.1 k {n with kids:=n.kids.set i u.2.1.page} i).1,(Dt u.1 k {n with kids:=n.kids.set i u.2.1.page} i).2.1,true,(Dt u.1 k {n with kids:=n.kids.set i u.2.1.page} i).2.2)
   else((Ci u.1 k n i u.2.1).1,(Ci u.1 k n i u.2.1).2.1,true,(Ci u.1 k n i u.2.1).2.2):=by
 subst hn;subst hu
 rw [BS]
 refine(if_neg (fun q=>q h)).trans ((if_neg (Aez _)).trans ?_)
 rw [hf]
 by_cases q:(BS s ((AZ s k ((x+1+1:Nat):Int)).1.kids.getD i 0) key (x+1)).2.2.2≠0∨(BS s ((AZ s k ((x+1+1:Nat):Int)).1.kids.getD i 0) key (x+1)).2.2.1=false
 ·rw [if_pos q,if_pos q]
 ·rw [if_neg q,if_neg q]
  split<;>rfl
end
end
end Go.Gk.Tre
end
section
namespace Go.Gk.Tre
open Go Go.Gk Go.Gk.Dev Go.Gk.Cch Go.Gk.Pgr Go.Gk.Chn Go.Gk.Node
attribute [local irreducible] gwp gws xwp
section
theorem S8{s:PD}{n:Nat}{c:List UInt8}:DE {s with tc:=n} c=DE s c:=by unfold DE;rw [show Chn.BG {s with tc:=n} (Fs c) (EK c)=Chn.BG s (Fs c) (EK c) from QW]
theorem Aad{P:Program}{f:FuncId} (h:Ji P f) {d:Ae}{s:PD}{n:Nat}{dv pv w:Value}{L:List Ae}{bt:Nat}{Tt:TypeId}{r h' c:Int}{b:List UInt8} (hp:Pg d {s with tc:=n} dv pv L) (hw:AJ d w b):
  Aw P f [.pointer (some ⟨bt,0,none⟩),w] d (tb bt Tt pv r h' c::L) (Ret fun v d' L'=>Le d d'∧∃u L2 tc,v=.tuple #[u,.int .i64 (DE s b).2]∧L'=tb bt Tt pv r h' c::L2∧AJ d' u (DE s b).1∧Pg d' {s with tc:=tc} dv pv L2∧((DE s b).2=0→tc=n+F3 b)):=by
 refine Aw.DV (h hp hw) (fun r d' L' _ ⟨q0,u,L2,tc,q1,q2,q3,q4,q5⟩=>⟨d',L',Vs.refl _ _,?_⟩)
 rw [S8] at q1 q3 q5
 exact⟨q0,u,L2,tc,q1,q2,q3,q4,q5⟩
def CS(t:TD) (key:List UInt8):List UInt8×Bool×Int:=if BM key≠0 then([],false,BM key) else EC t.s key t.root t.height
def I3(P:Program) (f:FuncId):Prop:=∀{d:Ae}{t:TD}{dv pv kv:Value}{L:List Ae}{bt:Nat}{Tt:TypeId}{key:List UInt8},Pg d t.s dv pv L→AJ d kv key→t.height≤1000000→
 Aw P f [.pointer (some ⟨bt,0,none⟩),kv] d (tbD bt Tt pv t::L) (Ret fun v d' L'=>Le d d'∧∃u L2 tc,v=.tuple #[u,.bool (CS t key).2.1,.int .i64 (CS t key).2.2]∧AJ d' u (CS t key).1∧L'=tbD bt Tt pv t::L2∧Pg d' {t.s with tc:=tc} dv pv L2∧
  (BM key=0→(CS t key).2.2=0→tc=t.s.tc+GK t.s key t.root t.height))
section
variable {s:PD}{k:Int}{key:List UInt8}{x:Nat}
theorem Yk(h:(AZ s k ((x+1:Nat):Int)).2≠0):EC s key k (x+1)=([],false,(AZ s k ((x+1:Nat):Int)).2):=by
 rw [EC];exact if_pos h
theorem S9(h:(AZ s k ((0+1:Nat):Int)).2=0) {n:AA} (hn:(AZ s k ((0+1:Nat):Int)).1=n) {i:Nat} (hf:findD n key=(i,true)):
  EC s key k (0+1)=((DE s (n.vals.getD i [])).1,decide ((DE s (n.vals.getD i [])).2=0),(DE s (n.vals.getD i [])).2)∧GK s key k (0+1)=1+F3 (n.vals.getD i []):=by
 subst hn
 rw [EC,GK]
 refine⟨(if_neg (fun q=>q h)).trans ((if_pos rfl).trans ((if_pos (by rw [hf])).trans ?_)),(if_pos rfl).trans ((if_pos (by rw [hf])).trans ?_)⟩
 ·rw [hf]
 ·rw [hf]
theorem Tv(h:(AZ s k ((0+1:Nat):Int)).2=0) {n:AA} (hn:(AZ s k ((0+1:Nat):Int)).1=n) {i:Nat} (hf:findD n key=(i,false)):EC s key k (0+1)=([],false,0)∧GK s key k (0+1)=1:=by
 subst hn
 rw [EC,GK]
 exact⟨(if_neg (fun q=>q h)).trans ((if_pos rfl).trans (if_neg (by rw [hf];exact Ahn))),(if_pos rfl).trans (if_neg (by rw [hf];exact Ahn))⟩
theorem NQ(h:(AZ s k ((x+1+1:Nat):Int)).2=0) {n:AA} (hn:(AZ s k ((x+1+1:Nat):Int)).1=n) {i:Nat}{b:Bool} (hf:findD n key=(i,b)):
  EC s key k (x+1+1)=EC s key (n.kids.getD i 0) (x+1)∧GK s key k (x+1+1)=1+GK s key (n.kids.getD i 0) (x+1):=by
 subst hn
 rw [EC,GK]
 refine⟨(if_neg (fun q=>q h)).trans ((if_neg (Aez _)).trans ?_),(if_neg (Aez _)).trans ?_⟩
 ·rw [hf]
 ·rw [hf]
end
def N8(a0 a1 a2 a3:Nat):AX:=⟨71,[(.tmp 4),(.tmp 5),(.tmp 6)],(.seq (rG (o1 4 (.mv (.const (.slice none 0 0))) (o1 5 (.mv (.const (.bool false))) (o1 6 (.mv (kZ 0)) .done)))) (.seq (.seq (rG (om 14 0 (om 15 1 (oc 16 a0 [(tP 14),(tP 15)] (om 7 16 .done))))) (.seq (rG (om 17 7 (ob 18 .neq (tP 17) (kZ 0) .done))) (.cond (tP 18) (.seq (rG (om 19 7 (o1 4 (.mv (.const (.slice none 0 0))) (o1 5 (.mv (.const (.bool false))) (om 6 19 .done))))) .ret) .skip))) (.seq (rG (om 20 0 (o1 21 (.nilc (tP 20)) (oj 22 1 21 (ol 23 22 (om 8 23 .done)))))) (.seq (.seq (rG (om 24 0 (o1 25 (.nilc (tP 24)) (oj 26 2 25 (ol 27 26 (om 9 27 .done)))))) (.block 0 (.loop (.seq (.seq (rG (om 28 9 (ob 29 .gtr (tP 28) (kZ 0) .done))) (.cond (tP 29) .skip (.exit 0))) (.seq (.block 1 (.seq (rG (om 33 0 (om 34 8 (om 35 9 (oc 36 a1 [(tP 33),(tP 34),(tP 35)] (om 32 36 (oe 37 32 0 (oe 38 32 1 (o1 10 (.alo (.agg #[(.bool false),(.slice none 0 0),(.slice none 0 0),(.slice none 0 0)])) (o0 (.st 4 (tP 10) (tP 37)) (om 11 38 .done))))))))))) (.seq (.seq (rG (om 39 11 (ob 40 .neq (tP 39) (kZ 0) .done))) (.cond (tP 40) (.seq (rG (om 41 11 (o1 4 (.mv (.const (.slice none 0 0))) (o1 5 (.mv (.const (.bool false))) (om 6 41 .done))))) .ret) .skip)) (.seq (rG (o1 43 (.ld (some 4) (tP 10)) (om 44 1 (oc 45 a2 [(tP 43),(tP 44)] (om 42 45 (oe 46 42 0 (oe 47 42 1 (om 12 46 (om 13 47 .done))))))))) (.seq (.seq (rG (om 48 9 (ob 49 .gtr (tP 48) (kZ 1) .done))) (.cond (tP 49) (.seq (rG (oj 50 3 10 (ol 51 50 (om 52 12 (oI 53 1 51 52 (ol 54 53 (om 8 54 .done))))))) (.exit 1)) .skip)) (.seq (.seq (rG (om 55 13 (o1 56 (.un .not (tP 55)) .done))) (.cond (tP 56) (.seq (rG (o1 4 (.mv (.const (.slice none 0 0))) (o1 5 (.mv (.const (.bool false))) (o1 6 (.mv (kZ 0)) .done)))) .ret) .skip)) (.seq (rG (om 58 0 (oj 59 2 10 (ol 60 59 (om 61 12 (oI 62 1 60 61 (ol 63 62 (oc 64 a3 [(tP 58),(tP 63)] (om 57 64 (oe 65 57 0 (oe 66 57 1 (om 4 65 (om 11 66 .done))))))))))))) (.seq (rG (om 67 4 (om 68 11 (ob 69 .eql (tP 68) (kZ 0) (om 70 11 (om 4 67 (om 5 69 (om 6 70 .done)))))))) .ret)))))))) (rG (om 30 9 (ob 31 .sub (tP 30) (kZ 1) (om 9 31 .done))))))))) (.seq (rG (o1 4 (.mv (.const (.slice none 0 0))) (o1 5 (.mv (.const (.bool false))) (o1 6 (.mv (kZ 0)) .done)))) .ret)))))⟩
set_option maxRecDepth 4000 in
set_option maxHeartbeats 4000000 in
theorem ZV{P:Program}{f f1 f2 f3 f4:FuncId} (hd:dec P f=some (N8 f1 f2 f3 f4)) (h1:K0 P f1) (h2:HY P f2) (h3:I5 P f3 findD) (h4:Ji P f4):I3 P f:=by
 intro d t dv pv kv L bt Tt key hp hk hh
 obtain⟨bp,rfl⟩:=hp.ptr
 obtain⟨ka,kc,rfl⟩:=hk.val
 obtain⟨s,root,height,count⟩:=t
 simp only at hp hh
 refine AE hd (Aca rfl) ?_
 show gwp P _ _ _ _ _
 (refine Ac (Ad (Am rfl (Af rfl (Ab rfl (Aa (Ac (Ac (Ad (Al rfl (Am rfl ?_)))))))))))
 refine Ba [] (h1 (L:=L) hk) rfl rfl (fun v d2 L2 _ ⟨e1,e2,e3⟩=>?_)
 subst e1;subst e2;subst e3
 by_cases hw:BM key=0
 ·have hF:CS ⟨s,root,height,count⟩ key=EC s key root height:=by unfold CS;rw [if_neg (fun q=>q hw)]
  rw [hF,hw]
  show gws P _ _ _ _ _ _ _
  (refine Ab rfl (Aa (Ac (Ad (Ab rfl (AP rfl rfl (Aa (Ar rfl (by omega) (Ak (Ac (Ad (Al rfl (Au rfl (Ai rfl (Ah rfl (Aj 0 rfl rfl) (Ab rfl (Aa (Ac (Ac (Ad (Al rfl (Au rfl (Ai rfl (Ah rfl (Aj 0 rfl rfl) (Ab rfl (Aa (Az ?_)))))))))))))))))))))))))))
  refine CL (α:=Nat×Int) (fun x=>[(0,.pointer (some ⟨bt,0,none⟩)),(1,.slice ka key.length kc),(8,.int .i64 x.2),(9,.int .i64 x.1)])
   (fun x d' L'=>Le d2 d'∧x.1≤height∧EC s key root height=EC s key x.2 x.1∧∃J L2 tc,L'=J++tb bt Tt (.pointer (some ⟨bp,0,none⟩)) root height count::L2∧Pg d' {s with tc:=tc} dv (.pointer (some ⟨bp,0,none⟩)) L2∧tc+GK s key x.2 x.1=s.tc+GK s key root height)
   (fun x=>x.1) (height,root) ⟨rfl,rfl,rfl,rfl,trivial⟩ ⟨Le.refl _,Ach _,rfl,[],L,s.tc,rfl,hp,rfl⟩ ?_
  rintro⟨h,page⟩ ρ d' L' ⟨hle,hhh,hgt,J,L3,tc,rfl,hp3,htt⟩
  simp only at hhh hgt hp3 htt⊢
  by_cases hz:h=0
  ·subst hz
   rw [hgt,EC]
   rw [GK] at htt
   (refine Ac (Ac (Ad (Ab rfl (BQ rfl rfl (Aa (Ar rfl (by omega) (Bg (Ac (Ad (Am rfl (Af rfl (Ab rfl (Aa (An ?_)))))))))))))))
   exact A8 [.slice none 0 0,.bool false,.int .i64 0] ⟨Av rfl,Av rfl,Av rfl,trivial⟩ (d':=d') (L':=tb bt Tt (.pointer (some ⟨bp,0,none⟩)) root height count::L3) (Vs.drop (Adm J _)) ⟨hle,_,L3,tc,rfl,RSl.nil,rfl,hp3,fun _ _=>htt⟩
  ·obtain⟨x,rfl⟩:∃x,h=x+1:=⟨h - 1,by omega⟩
   (refine Ac (Ac (Ad (Ab rfl (BQ rfl rfl (Aa (Ax rfl (by omega) (Ak (Ac (Az (Ac (Ad (Al rfl (Ab rfl (Ab rfl ?_)))))))))))))))
   refine Ba J (h2 (k:=page) (x:=((x+1:Nat):Int)) hp3) rfl rfl (fun v d4 L4 hl4 ⟨_,cs,hk4,hv4,hi4,L5,tc5,e1,e2,hn,hp5,htc5⟩=>?_)
   subst e1;subst e2
   rw [show AZ {s with tc:=tc} page ((x+1:Nat):Int)=AZ s page ((x+1:Nat):Int) from rfl] at hn htc5⊢
   have hp5:Pg d4 {s with tc:=tc5} dv (.pointer (some ⟨bp,0,none⟩)) L5:=hp5
   have htc5:(AZ s page ((x+1:Nat):Int)).2=0→tc5=tc+1:=htc5
   obtain⟨d6,hl6,v6,hn6⟩:=F0 hn
   have hp6:=hp5.mono hl6
   refine B6 _ _ (Vs.out (M:=[_,_,_]) J _ (Adp _) v6) ?_
   obtain⟨xa,xc,ya,yc,za,zc,rfl⟩:=Cx.four hn6
   have hk6:=RSl.mono (R:=AM) AW hk ((hle.trans hl4).trans hl6)
   (refine AU rfl (Ao rfl rfl (Ao rfl rfl (BU (fun _ _=>?_)))))
   rename_i b10 T10
   refine Bm 0 rfl rfl rfl rfl (Ach _) rfl ?_
   by_cases he:(AZ s page ((x+1:Nat):Int)).2=0
   ·have htc6:=htc5 he
    obtain⟨hr,hlf⟩:=Ix he
    obtain⟨n,hne⟩:∃n,(AZ s page ((x+1:Nat):Int)).1=n:=⟨_,rfl⟩
    rw [hne] at hn6 hr hlf⊢
    obtain⟨i,b,hfd⟩:∃i b,findD n key=(i,b):=⟨_,_,rfl⟩
    have hile:i≤n.keys.length:=by have:=MN (n:=n) (key:=key);rw [hfd] at this;exact this
    rw [he]
    have hlv:n.leaf=true→n.vals.length=n.keys.length:=JT hr
    have hli:n.leaf=false→n.kids.length=n.keys.length+1:=Hc hr
    clear hr
    have hfc:=h3 hn6 hk6
    rw [hfd] at hfc
    obtain⟨kv,vv,iv,q,r1,r2,r3⟩:=hn6
    cases q
    (refine Ab rfl (Aa (Ac (Ac (Ad (Ab rfl (AP rfl rfl (Aa (Ar rfl (by omega) (Ak (Ac (Ad (Bd 0 rfl rfl rfl (Am rfl ?_))))))))))))))
    refine BP rfl hfc ?_
    (refine AU rfl (Ao rfl rfl (Ao rfl rfl (Ab rfl (Af rfl (Aa ?_))))))
    apply Ac;apply Ac;apply Ad
    (refine Ab rfl (BQ rfl rfl (Aa ?_)))
    by_cases hx0:x=0
    ·subst hx0
     have hvl:=hlv (by rw [hlf];rfl)
     clear hlv hli hlf
     refine Ar rfl (by omega) ?_
     cases b with
     |true=>
      have hilt:i<n.keys.length:=by have:=Ni (n:=n) (key:=key) (by rw [hfd]);rw [hfd] at this;exact this
      have hiv:i<n.vals.length:=by omega
      have hgv:n.vals.getD i []=n.vals[i]:=by rw [Acf,Ace hiv];rfl
      obtain⟨hI1,hI2⟩:=S9 he hne hfd
      rw [hgv] at hI1 hI2
      rw [hgt,hI1]
      rw [hI2] at htt
      (refine Ak (Ac (Ac (Ad (Af rfl (Bt rfl (Aa (AR rfl (Ak (Ac (Ad (Al rfl (Ai rfl (Ah rfl (Aj 0 rfl rfl) (Ab rfl (BK (sz:=1) (R:=RBs) (by rfl) (by assumption) (by rfl) rfl (by omega) ?_)))))))))))))));rintro _ _ _ _ _ ⟨_,rfl,_⟩;apply Ah;rfl;exact B2 (by assumption) rfl)
      refine Ba (_::J) (Aad h4 (b:=n.vals[i]) hp6 (by assumption)) rfl rfl (fun v d7 L7 hl7 ⟨_,u,L8,tc8,e7,e8,hu,hp8,htc8⟩=>?_)
      subst e7;subst e8
      obtain⟨ua,uc,rfl⟩:=hu.val
      generalize DE s n.vals[i]=V at hu htc8⊢
      (refine AU rfl (Ao rfl rfl (Ao rfl rfl (Am rfl (Ab rfl (Aa (Ac (Ad (Am rfl (Ab rfl (AO rfl rfl (Ab rfl (Am rfl (Af rfl (Ab rfl (Aa (An ?_)))))))))))))))))
      exact A8 [.slice ua V.1.length uc,.bool (decide (V.2=0)),.int .i64 V.2] ⟨Av rfl,Av rfl,Av rfl,trivial⟩ (d':=d7) (L':=tb bt Tt (.pointer (some ⟨bp,0,none⟩)) root height count::L8) (Vs.drop (.cons _ (Adm J _))) ⟨((hle.trans hl4).trans hl6).trans hl7,_,L8,tc8,rfl,hu,rfl,hp8,fun _ q=>(by have h8:tc8=tc5+F3 n.vals[i]:=htc8 q;omega)⟩
     |false=>
      obtain⟨hI1,hI2⟩:=Tv he hne hfd
      rw [hgt,hI1]
      rw [hI2] at htt
      (refine Ak (Ac (Ac (Ad (Af rfl (Bt rfl (Aa (Bf rfl (Ac (Ad (Am rfl (Af rfl (Ab rfl (Aa (An ?_)))))))))))))))
      exact A8 [.slice none 0 0,.bool false,.int .i64 0] ⟨Av rfl,Av rfl,Av rfl,trivial⟩ (d':=d6) (L':=tb bt Tt (.pointer (some ⟨bp,0,none⟩)) root height count::L5) (Vs.drop (.cons _ (Adm J _))) ⟨(hle.trans hl4).trans hl6,_,L5,tc5,rfl,RSl.nil,rfl,hp6,fun _ _=>(by omega)⟩
    ·obtain⟨x,rfl⟩:∃y,x=y+1:=⟨x - 1,by omega⟩
     have hil:=hli (by rw [hlf];simp;omega)
     clear hlv hli hlf
     have hii:i<n.kids.length:=by omega
     have hgk:n.kids.getD i 0=n.kids[i]:=by rw [Acf,Ace hii];rfl
     obtain⟨hI1,hI2⟩:=NQ (key:=key) he hne hfd
     rw [hgk] at hI1 hI2
     refine Ax rfl (by omega) ?_
     (refine Ac (Ad (Ai rfl (Ah rfl (Aj 0 rfl rfl) (Ab rfl (BK (sz:=1) (R:=Be) (by rfl) (by assumption) (by rfl) rfl (by omega) ?_)))));rintro _ _ _ _ _ ⟨rfl,_,_⟩;refine Ah rfl (B2 (by assumption) rfl) (Ab rfl (Aa (Bg (Ad (Ab rfl (CU rfl rfl (by omega) (by omega) (Ab rfl (Aa ?_)))))))))
     exact⟨(x+1,n.kids[i]),by simp only;omega,⟨rfl,rfl,rfl,congrArg (Value.int .i64) (by push_cast;omega),trivial⟩,(hle.trans hl4).trans hl6,by simp only;omega,hgt.trans hI1,_::J,L5,tc5,rfl,hp6,by simp only;omega⟩
   ·rw [hgt,Yk he]
    (refine Ab rfl (Aa (Ac (Ac (Ad (Ab rfl (AP rfl rfl (Aa (Ax rfl (by omega) (Ac (Ad (Ab rfl (Am rfl (Af rfl (Ab rfl (Aa (An ?_)))))))))))))))))
    exact A8 [.slice none 0 0,.bool false,.int .i64 (AZ s page ((x+1:Nat):Int)).2] ⟨Av rfl,Av rfl,Av rfl,trivial⟩ (d':=d6) (L':=tb bt Tt (.pointer (some ⟨bp,0,none⟩)) root height count::L5) (Vs.drop (.cons _ (Adm J _))) ⟨(hle.trans hl4).trans hl6,_,L5,tc5,rfl,RSl.nil,rfl,hp6,fun _ q=>absurd q he⟩
 ·have hF:CS ⟨s,root,height,count⟩ key=([],false,BM key):=by unfold CS;rw [if_pos hw]
  rw [hF]
  (refine Ab rfl (Aa (Ac (Ad (Ab rfl (AP rfl rfl (Aa (Ax rfl (by omega) (Ac (Ad (Ab rfl (Am rfl (Af rfl (Ab rfl (Aa (An ?_))))))))))))))))
  exact A8 [.slice none 0 0,.bool false,.int .i64 (BM key)] ⟨Av rfl,Av rfl,Av rfl,trivial⟩ (d':=d2) (L':=_::L) (Vs.refl _ _) ⟨Le.refl _,_,L,s.tc,rfl,RSl.nil,rfl,hp,fun q=>absurd q hw⟩
end
end Go.Gk.Tre
end
section
namespace Go.Gk.Tre
open Go Go.Gk Go.Gk.Dev Go.Gk.Cch Go.Gk.Pgr Go.Gk.Chn Go.Gk.Node
section
attribute [local irreducible] gwp gws xwp
end
end Go.Gk.Tre
end
section
namespace Go.Gk
open Go
section
theorem Aw.pre{P:Program}{f:FuncId}{args:List Value}{d:Ae}{A L:List Ae}{R:Ending→Ae→List Ae→Prop} (p:L.Perm A) (h:Aw P f args d A R):Aw P f args d L R:=
 ⟨h.1,fun F W ok=>h.2 F W (ok.perm (Aco d (Afb F p)))⟩
theorem Aw.VW{P:Program}{f:FuncId}{args:List Value}{d:Ae}{A B:List Ae}{R R':Value→Ae→List Ae→Prop} (h:Aw P f args d A (Ret R)) (hR:∀v d' A',Le d d'→R v d' A'→∃L',(A'++B).Perm L'∧R' v d' L'):Aw P f args d (A++B) (Ret R'):=by
 refine⟨h.1,fun F W ok=>(h.2 (B++F) W (by rwa [←Acg])).mono ?_⟩
 rintro e W' ⟨d',A',h1,h2,h3,h4⟩
 cases e with
 |returned v=>
  obtain⟨L',p,hr⟩:=hR v d' A' h2 h4
  refine⟨d',L',?_,h2,h3,hr⟩
  rw [←Acg] at h1
  exact h1.perm (Aco d' (Afb F p))
 |panicked c=>exact h4.elim
 |outgrown=>exact h4.elim
section
variable {P:Program}{pan:List PanicEntry→AQ}{Qn:Env→AQ}{Ls L:List Ae}{ρ:Env}{d:Ae}{s:GS}{t:Nat}
theorem TI{f:FuncId}{args:List Operand}{R:Value→Ae→List Ae→Prop}{vs:List Value}{A B:List Ae} (hc:Aw P f vs d A (Ret R)) (hp:(Ls++L).Perm (A++B)) (ea:args.map (ev ρ)=vs)
  (h:∀v d' A',Le d d'→R v d' A'→∃L'',(A'++B).Perm (Ls++L'')∧gws P pan Qn s Ls (upd ρ t v) d' L''):gws P pan Qn (.op false ⟨some t,none,.call f args⟩ s) Ls ρ d L:=
 ⟨d,L,Vs.refl d L,.inr ⟨Ls,Ret fun v d' L'=>∃L'',L'=Ls++L''∧gws P pan Qn s Ls (upd ρ t v) d' L'',rfl,
  by rw [ea];exact Aw.pre hp (Aw.VW hc (fun v d' A' hl hr=>by obtain⟨L'',p,k⟩:=h v d' A' hl hr;exact⟨Ls++L'',p,L'',rfl,k⟩)),
  fun e d' L' hl hr=>by
   cases e with
   |returned v=>
    obtain⟨L'',e1,k⟩:=hr
    exact⟨L'',e1,_,_,Vs.refl _ _,k⟩
   |panicked c=>exact hr.elim
   |outgrown=>exact hr.elim⟩⟩
end
end
end Go.Gk
end
section
namespace Go.Gk
open Go Go.Proofs Go.RowKit
def X7(g3 g4:Nat) (d:Ae):Prop:=(∀c,c<256→DC d g3 c (.int .u8 (Lib.firstT c)))∧∀i,i<16→DC d g4 (2*i) (.int .u8 (Lib.accLo i))∧DC d g4 (2*i+1) (.int .u8 (Lib.accHi i))
theorem X7.mono{g3 g4:Nat}{d d':Ae} (h:X7 g3 g4 d) (hl:Le d d'):X7 g3 g4 d':=⟨fun c hc=>(h.1 c hc).mono hl,fun i hi=>⟨(h.2 i hi).1.mono hl,(h.2 i hi).2.mono hl⟩⟩
end Go.Gk
end
section
namespace Go.Gk
open Go Go.Proofs Go.RowKit Go.Shelf
end Go.Gk
end
section
namespace Go.Gk
open Go Go.Proofs Go.RowKit Go.Shelf
end Go.Gk
end
section
namespace Go.Gk.Tre
open Go Go.Gk Go.Gk.Dev Go.Gk.Cch Go.Gk.Pgr Go.Gk.Chn Go.Gk.Node
section
attribute [local irreducible] gwp gws xwp
end
end Go.Gk.Tre
end
section
namespace Go.Gk.Chn
open Go Go.Gk Go.Gk.Dev Go.Gk.Cch Go.Gk.Pgr Go.Gk.Node
section
theorem Ot{P:Program}{pan:List PanicEntry→AQ}{Qn:Env→AQ}{Ls L:List Ae}{ρ:Env}{d:Ae}{s:GS}{t:Nat}{sz by_:Nat}{z:List Value}{x y:Operand}{k k':IntKind}{n c:Nat} (ex:ev ρ x=.int k (n:Nat)) (ey:ev ρ y=.int k' (c:Nat)) (h1:n≤c) (h2:c≤9223372036854775807) (h3:by_*c≤281474976710656)
  (h:∀b T,gws P pan Qn s Ls (upd ρ t (.slice (some ⟨b,0,none⟩) n c)) (join d (bx b T (Bl z (c*sz)))) L):gws P pan Qn (.op false ⟨some t,none,.mks sz by_ z x y⟩ s) Ls ρ d L:=
 ⟨d,L,Vs.refl d L,k,k',n,c,ex,ey,h1,h2,h3,fun b T=>⟨_,_,Vs.freeze,h b T⟩⟩
attribute [local irreducible] gwp gws xwp
def UW(P:Program) (f:FuncId):Prop:=∀{d:Ae}{n:Nat},1≤n→n≤8192→Aw P f [.int .i64 n] d [] (Ret fun r d' L'=>L'=[]∧∃b a c,r=.tuple #[.pointer (some ⟨b,0,none⟩),.int .i64 0]∧DC d' b 0 (.slice a n c))
def KN:AX:=⟨31,[(.tmp 2),(.tmp 3)],(.seq (rG (o1 2 (.mv (.const (.pointer none))) (o1 3 (.mv (kZ 0)) .done))) (.seq (.seq (rG (om 6 0 (ob 7 .lss (tP 6) (kZ 1) (om 8 7 (gF 9 8 0 (oF 10 8 (.bin .gtr (tP 9) (kZ 8192)) (o1 11 (.pick (tP 8) (.const (.bool true)) (tP 10)) .done))))))) (.cond (tP 11) (.seq (rG (o1 2 (.mv (.const (.pointer none))) (o1 3 (.mv (kZ 2)) .done))) .ret) .skip)) (.seq (rG (o1 12 (.bld [(0,1),(1,1),(2,1),(3,1)] [(.slice none 0 0),(.slice none 0 0),(.int .i64 0),(.int .i64 0)] [(3,(kZ (-1)))]) (o1 13 (.box (tP 12)) (om 4 13 .done)))) (.seq (.seq (rG (o1 5 (.mv (kZ 0)) .done)) (.block 0 (.loop (.seq (.seq (rG (om 14 5 (om 15 0 (ob 16 .lss (tP 14) (tP 15) .done)))) (.cond (tP 16) .skip (.exit 0))) (.seq (.block 1 (.reg true (pm 19 4 (pm 20 4 (p1 21 (.nilc (tP 20)) (p1 22 (.fld 0 (tP 21)) (pl 23 22 (o1 24 (.mks 1 1 [(.int .u8 0)] (kZ 256) (kZ 256)) (p1 25 (.b2s (tP 24)) (o1 26 (.bsl 1 1 [(Bp [])] [(0,(tP 25))]) (o1 27 (.app 1 16 [(Bp [])] (tP 23) (tP 26)) (p1 28 (.nilc (tP 19)) (p1 29 (.fld 0 (tP 28)) (.bar (o0 (.st 1 (tP 29) (tP 27)) .done))))))))))))))) (rG (om 17 5 (ob 18 .add (tP 17) (kZ 1) (om 5 18 .done))))))))) (.seq (rG (om 30 4 (om 2 30 (o1 3 (.mv (kZ 0)) .done)))) .ret)))))⟩
set_option maxRecDepth 4000 in
set_option maxHeartbeats 1000000 in
theorem AaR{P:Program}{f:FuncId} (hd:JU P f=some KN):UW P f:=by
 intro d n hn1 hn2
 refine AE hd (Aca rfl) ?_
 show gwp P _ _ _ _ _
 (refine Ac (Ad ?_))
 refine B6 d [emp] Vs.emp ?_
 (refine Al rfl (Ab rfl (Aa (Ac (Ac (Ad (Ab rfl (AB rfl rfl (Af rfl (Bb rfl (by omega) (Ag rfl (Ab rfl (Ag rfl (BQ rfl rfl (As rfl rfl (Aa (Ar rfl (by omega) (Ak (Ac (Ad (BI rfl (Cl rfl (fun _ _=>Al rfl (Aa (Ac (Ac (Ad (Ab rfl (Aa (Az ?_))))))))))))))))))))))))))))))
 rename_i b T
 refine CL (α:=Nat×Option Addr×Nat) (fun x=>[(0,.int .i64 n),(4,.pointer (some ⟨b,0,none⟩)),(5,.int .i64 x.1)])
  (fun x d' L'=>Le d d'∧x.1≤n∧∃h,[bx b T [.slice x.2.1 x.1 x.2.2,.slice none 0 0,.int .i64 0,.int .i64 (-1)],h].Sublist L'∧Aq 1 K2 d' (.slice x.2.1 x.1 x.2.2) (Acr x.1 (Acr 256 0)) h) (fun x=>n - x.1) (0,none,0) ⟨rfl,rfl,rfl,trivial⟩ ⟨Le.refl _,Adg _,emp,Acb _,Aq.nil⟩ ?_
 rintro⟨i,a,c⟩ ρ d' L' ⟨hle,hi,h,hsub,hrow⟩
 simp only at hi hsub hrow⊢
 apply Ac;apply Ac;apply Ad
 refine B6 d' _ (Vs.drop hsub) ?_
 by_cases e:i<n
 ·(refine Ab rfl (Ab rfl (AB rfl rfl (Aa (Ax rfl (by omega) (Ak (Ac (Az ?_))))))))
  refine Bs [bx b T [.slice a i c,.slice none 0 0,.int .i64 0,.int .i64 (-1)]] [h] rfl ?_
  (refine Al rfl (Al rfl (Au rfl (Ai rfl (Ah rfl (Aj 0 rfl rfl) ?_)))))
  refine Ot (n:=256) (c:=256) rfl rfl (Ach _) (by omega) (by omega) (fun b24 T24=>?_)
  have hg:Aq 1 AM d' (.slice (some ⟨b24,0,none⟩) 256 256) (Acr 256 0) (bx b24 T24 (Bl [.int .u8 0] (256*1))):=Aq.zero rfl (by omega) rfl (by omega)
  have hgr:=Aq.rsl (R:=AM) (sz:=1) hg AW (by omega) (Le.AF _ _) (Le.A5 d' (bx b24 T24 (Bl [.int .u8 0] (256*1))))
  have hl2:Le d' (join d' (bx b24 T24 (Bl [.int .u8 0] (256*1)))):=Le.AF _ _
  refine Bc rfl hgr ?_
  refine D9 (v0:=Bp (Acr 256 0)) rfl rfl (fun b26 T26=>?_)
  have hrow2:Aq 1 K2 (join d' (bx b24 T24 (Bl [.int .u8 0] (256*1)))) (.slice a i c) (Acr i (Acr 256 0)) h:=by
   have:=Aq.mono (R:=K2) Yr hrow hl2
   exact this
  have hil:(Acr i (Acr 256 (0:UInt8))).length=i:=Adn
  refine D6 (R:=K2) 0 rfl rfl hrow2 rfl (Aq.En (R:=K2) (x:=Acr 256 0) rfl ⟨rfl,by simp⟩) WB (by omega) (by simp;omega) (by simp;omega) (fun v' h' ho'=>?_)
  rw [←List.replicate_succ'] at ho'
  obtain⟨a',c',rfl⟩:=ho'.val
  rw [Adn] at ho'⊢
  (refine Au rfl (Ai rfl (B1 ?_)))
  refine AY 0 [.slice a' (i+1) c',.slice none 0 0,.int .i64 0,.int .i64 (-1)] rfl rfl rfl rfl (Aca rfl) rfl rfl ?_
  (refine Aa (Ad (Ab rfl (AL rfl rfl (by omega) (by omega) (Ab rfl (Aa ?_))))))
  exact⟨(i+1,a',c'),by simp only;omega,⟨rfl,rfl,rfl,trivial⟩,hle.trans hl2,e,h',Acb _,ho'⟩
 ·have:i=n:=by omega
  subst this
  (refine Ab rfl (Ab rfl (AB rfl rfl (Aa (Ar rfl (by omega) (Bg (Ac (Ad (Al rfl (Al rfl (Ab rfl (Aa (An ?_)))))))))))))
  exact A8 [.pointer (some ⟨b,0,none⟩),.int .i64 0] ⟨rfl,rfl,trivial⟩ (d':=join (join d' (bx b T [.slice a i c,.slice none 0 0,.int .i64 0,.int .i64 (-1)])) h) (L':=[]) (Vs.freeze.trans Vs.freeze) ⟨rfl,b,a,c,rfl,(Le.dcs ((Le.A5 _ _).trans (Le.AF _ _))).at (i:=0) rfl⟩
end
end Go.Gk.Chn
end
