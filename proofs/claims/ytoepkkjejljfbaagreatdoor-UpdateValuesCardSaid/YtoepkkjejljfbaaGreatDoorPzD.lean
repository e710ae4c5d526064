/-
  Our own texts, one behind the other: GkS1 GkP0 GkS2 GkS3 GkS4 GkS5 GkS6 GkS7 GkS8 GkS9 GkT1 Gk18 GkT2 GkVArg GkM2 GkM3 Gk24 GkP1 GkP2 GkY0 GkY1.
-/
import Derived.Sort.Walk0
import Derived.Test.YtoepkkjejljfbaaGreatDoorPzC
set_option linter.defProp false
set_option linter.unusedVariables false
set_option linter.unusedSimpArgs false
open Nat renaming le_of_ble_eq_true→No,le_refl→ZL,zero_le→ZN,not_lt_zero→Z3,le_trans→Aaf
open List renaming take_succ_eq_append_getElem→ZA,nil_sublist→ZB,getElem_mem→ZC,all_eq_true→ZF,replicate→ZI,take_append_drop→ZM,mem_cons→ZR,length_cons→ZU,take_length→ZV,append_nil→ZW,getElem?_eq_none→ZY,getElem_of_mem→Aae,drop_length→Aag,length_singleton→Aak,not_mem_nil→Abl,getD→Acd,pairwise_iff_getElem→Acj,all_append→Adg
open Bool renaming and_eq_true→Zz,not_eq_true→Abk
open Int renaming toNat_natCast→Z2,mul_assoc→Acr,dvd_of_emod_eq_zero→Adh
section
namespace Go.Gk.Val
open Go Go.Gk
attribute [local irreducible] gwp gws
variable{P:Program}{f f1:FuncId}
structure St where
 kind:Int
 text:List UInt8
 src:Int
 dst:Int
 hf:Bool
 ht:Bool
def RSt(_:Ag)(cs:List Value)(s:St):Prop:=cs=[vZ s.kind,Al s.text,vZ s.src,vZ s.dst,.bool s.hf,.bool s.ht]∧I64 s.kind∧s.text.length≤140737488355328∧I64 s.src∧I64 s.dst
def HL:Eg RSt:=fun _ _ _ h=>by obtain⟨rfl,_⟩:=h;rfl
def Df:HG RSt:=fun _ h=>h
def Bm(n k:Int):Int:=if n<0 then n+k else n
def EO(n k:Int):Int:=max 0 (min k (Bm n k))
def A5(s:St)(k:Int):Int×Int:=
 let a:=if s.hf then EO s.src k else 0
 let b:=if s.ht then EO s.dst k else k
 (a,max a b)
def C8(s:St){k:Int}(hk:0≤k):0≤(A5 s k).1∧(A5 s k).1≤(A5 s k).2∧(A5 s k).2≤k:=by
 simp only[A5,EO];split<;>split<;>omega
def Hl(P:Program)(f:FuncId):Prop:=∀{d}{n k:Int},I64 n→0≤k→k≤140737488355328→AM P f [vZ n,vZ k] d (vZ (Bm n k))
def Px:A6:=⟨11,[(.tmp 4)],(sR (o1 4 (.mv z0) .done) (.seq (sR (om 5 0<|ob 6 .lss 5 z0 .done) (.cond 6 (sR (om 7 0<|om 8 1<|ob 9 .add 7 8<|om 4 9 .done) .ret) .skip)) (sR (om 10 0<|om 4 10 .done) .ret)))⟩
def WA(hd:dec P f=some Px):Hl P f:=by
 intro d n k ⟨hn1,hn2⟩ hk1 hk2;refine AM.of' hd (No rfl) ?_;show gwp P _ _ _ _ _;by_cases h:n<0
 ·(refine Ac<|Ab rfl<|Aa<|Ai<|Ac<|Ab rfl<|Ax rfl rfl<|Aa<|Au rfl (by omega)<|Ac<|Ab rfl<|Ab rfl<|AI rfl rfl (by omega) (by omega)<|Ab rfl<|Aa<|Ar ?_);apply CF;rfl;rw[Bm,if_pos h]
 ·(refine Ac<|Ab rfl<|Aa<|Ai<|Ac<|Ab rfl<|Ax rfl rfl<|Aa<|Ao rfl (by omega)<|Am<|Ac<|Ab rfl<|Ab rfl<|Aa<|Ar ?_);apply CF;rfl;rw[Bm,if_neg h]
def NL(P:Program)(f:FuncId):Prop:=∀{d}{n k:Int},I64 n→0≤k→k≤140737488355328→AM P f [vZ n,vZ k] d (vZ (EO n k))
def Jq:A6:=⟨17,[(.tmp 4)],(sR (o1 4 (.mv z0) .done) (.seq (sR (om 5 0<|ob 6 .lss 5 z0 .done) (.cond 6 (rG (om 7 0<|om 8 1<|ob 9 .add 7 8<|om 0 9 .done)) .skip)) (.seq (sR (om 10 0<|ob 11 .lss 10 z0 .done) (.cond 11 (sR (o1 4 (.mv z0) .done) .ret) .skip)) (.seq (sR (om 12 0<|om 13 1<|ob 14 .gtr 12 13 .done) (.cond 14 (sR (om 15 1<|om 4 15 .done) .ret) .skip)) (sR (om 16 0<|om 4 16 .done) .ret)))))⟩
def Wj(hd:dec P f=some Jq):NL P f:=by
 intro d n k ⟨hn1,hn2⟩ hk1 hk2;refine AM.of' hd (No rfl) ?_;show gwp P _ _ _ _ _;by_cases h:n<0
 ·by_cases h2:n+k<0
  ·(refine Ac<|Ab rfl<|Aa<|Ai<|Ac<|Ab rfl<|Ax rfl rfl<|Aa<|Au rfl (by omega)<|Ay<|Ab rfl<|Ab rfl<|AI rfl rfl (by omega) (by omega)<|Ab rfl<|Aa<|Ai<|Ac<|Ab rfl<|Ax rfl rfl<|Aa<|Au rfl (by omega)<|Ac<|Ab rfl<|Aa<|Ar ?_);apply CF;rfl;simp only[EO,Bm];rw[if_pos h];omega
  ·by_cases h3:k<n+k
   ·omega
   ·(refine Ac<|Ab rfl<|Aa<|Ai<|Ac<|Ab rfl<|Ax rfl rfl<|Aa<|Au rfl (by omega)<|Ay<|Ab rfl<|Ab rfl<|AI rfl rfl (by omega) (by omega)<|Ab rfl<|Aa<|Ai<|Ac<|Ab rfl<|Ax rfl rfl<|Aa<|Ao rfl (by omega)<|Am<|Ai<|Ac<|Ab rfl<|Ab rfl<|AP rfl rfl<|Aa<|Ao rfl (by omega)<|Am<|Ac<|Ab rfl<|Ab rfl<|Aa<|Ar ?_);apply CF;rfl;simp only[EO,Bm];rw[if_pos h];omega
 ·by_cases h3:k<n
  ·(refine Ac<|Ab rfl<|Aa<|Ai<|Ac<|Ab rfl<|Ax rfl rfl<|Aa<|Ao rfl (by omega)<|Am<|Ai<|Ac<|Ab rfl<|Ax rfl rfl<|Aa<|Ao rfl (by omega)<|Am<|Ai<|Ac<|Ab rfl<|Ab rfl<|AP rfl rfl<|Aa<|Au rfl (by omega)<|Ac<|Ab rfl<|Ab rfl<|Aa<|Ar ?_);apply CF;rfl;simp only[EO,Bm];rw[if_neg h];omega
  ·(refine Ac<|Ab rfl<|Aa<|Ai<|Ac<|Ab rfl<|Ax rfl rfl<|Aa<|Ao rfl (by omega)<|Am<|Ai<|Ac<|Ab rfl<|Ax rfl rfl<|Aa<|Ao rfl (by omega)<|Am<|Ai<|Ac<|Ab rfl<|Ab rfl<|AP rfl rfl<|Aa<|Ao rfl (by omega)<|Am<|Ac<|Ab rfl<|Ab rfl<|Aa<|Ar ?_);apply CF;rfl;simp only[EO,Bm];rw[if_neg h];omega
def FB(P:Program)(f:FuncId):Prop:=∀{d cs}{s:St}{k:Int},RSt d cs s→0≤k→k≤140737488355328→AM P f [.agg cs.toArray,vZ k] d (.tuple #[vZ (A5 s k).1,vZ (A5 s k).2])
def QN(a0:Nat):A6:=⟨31,[(.tmp 4),(.tmp 5)],(sR (o1 2 (.box 0)<|o1 4 (.mv z0)<|o1 5 (.mv z0) .done) (sR (om 8 1<|o1 6 (.mv z0)<|om 7 8 .done) (.seq (sR (oj 9 4 2<|ol 10 9 .done) (.cond 10 (rG (om 11 1<|oj 12 2 2<|ol 13 12<|om 14 1<|oc 15 a0 [13,14]<|o1 16 (.mn2 11 15)<|o1 17 (.mx2 z0 16)<|om 6 17 .done)) .skip)) (.seq (sR (oj 18 5 2<|ol 19 18 .done) (.cond 19 (rG (om 20 1<|oj 21 3 2<|ol 22 21<|om 23 1<|oc 24 a0 [22,23]<|o1 25 (.mn2 20 24)<|o1 26 (.mx2 z0 25)<|om 7 26 .done)) .skip)) (sR (om 27 6<|om 28 6<|om 29 7<|o1 30 (.mx2 28 29)<|om 4 27<|om 5 30 .done) .ret)))))⟩
def Yw(hd:dec P f=some (QN f1))(h1:Hl P f1):FB P f:=by
 intro d cs s k ⟨hcs,ik,it,is,id⟩ hk1 hk2;subst hcs;refine AM.of' hd (No rfl) ?_;show gwp P _ _ _ _ _;apply Ai;apply Ay;refine AO (l:=[vZ s.kind,Al s.text,vZ s.src,vZ s.dst,.bool s.hf,.bool s.ht]) rfl (fun b2 T2=>?_);cases hf:s.hf with
 |true=>
  cases ht:s.ht with
  |true=>
   (refine Ab rfl<|Ab rfl<|Aa<|Ac<|Ab rfl<|Ab rfl<|Ab rfl<|Aa<|Ai<|Ac<|Af rfl<|Ah rfl (Aj 0 rfl rfl)<|Aa<|Bb rfl<|Ay<|Ab rfl<|Af rfl<|Ah rfl (Aj 0 rfl rfl)<|Ab rfl ?_)
   refine AF rfl (h1 is hk1 hk2) ?_
   (refine PE rfl rfl<|Ic rfl rfl<|Ab rfl<|Aa<|Ai<|Ac<|Af rfl<|Ah rfl (Aj 0 rfl rfl)<|Aa<|Bb rfl<|Ay<|Ab rfl<|Af rfl<|Ah rfl (Aj 0 rfl rfl)<|Ab rfl ?_)
   refine AF rfl (h1 id hk1 hk2) ?_
   (refine PE rfl rfl<|Ic rfl rfl<|Ab rfl<|Aa<|Ac<|Ab rfl<|Ab rfl<|Ab rfl<|Ic rfl rfl<|Ab rfl<|Ab rfl<|Aa<|Ar ?_)
   refine BS (by simp[A5,EO,hf];rfl) (by simp[A5,EO,hf,ht];rfl)
  |false=>
   (refine Ab rfl<|Ab rfl<|Aa<|Ac<|Ab rfl<|Ab rfl<|Ab rfl<|Aa<|Ai<|Ac<|Af rfl<|Ah rfl (Aj 0 rfl rfl)<|Aa<|Bb rfl<|Ay<|Ab rfl<|Af rfl<|Ah rfl (Aj 0 rfl rfl)<|Ab rfl ?_)
   refine AF rfl (h1 is hk1 hk2) ?_
   (refine PE rfl rfl<|Ic rfl rfl<|Ab rfl<|Aa<|Ai<|Ac<|Af rfl<|Ah rfl (Aj 0 rfl rfl)<|Aa<|AK rfl<|Am<|Ac<|Ab rfl<|Ab rfl<|Ab rfl<|Ic rfl rfl<|Ab rfl<|Ab rfl<|Aa<|Ar ?_)
   refine BS (by simp[A5,EO,hf];rfl) (by simp[A5,EO,hf,ht];rfl)
 |false=>
  cases ht:s.ht with
  |true=>
   (refine Ab rfl<|Ab rfl<|Aa<|Ac<|Ab rfl<|Ab rfl<|Ab rfl<|Aa<|Ai<|Ac<|Af rfl<|Ah rfl (Aj 0 rfl rfl)<|Aa<|AK rfl<|Am<|Ai<|Ac<|Af rfl<|Ah rfl (Aj 0 rfl rfl)<|Aa<|Bb rfl<|Ay<|Ab rfl<|Af rfl<|Ah rfl (Aj 0 rfl rfl)<|Ab rfl ?_)
   refine AF rfl (h1 id hk1 hk2) ?_
   (refine PE rfl rfl<|Ic rfl rfl<|Ab rfl<|Aa<|Ac<|Ab rfl<|Ab rfl<|Ab rfl<|Ic rfl rfl<|Ab rfl<|Ab rfl<|Aa<|Ar ?_)
   refine BS (by simp[A5,EO,hf];rfl) (by simp[A5,EO,hf,ht];rfl)
  |false=>
   (refine Ab rfl<|Ab rfl<|Aa<|Ac<|Ab rfl<|Ab rfl<|Ab rfl<|Aa<|Ai<|Ac<|Af rfl<|Ah rfl (Aj 0 rfl rfl)<|Aa<|AK rfl<|Am<|Ai<|Ac<|Af rfl<|Ah rfl (Aj 0 rfl rfl)<|Aa<|AK rfl<|Am<|Ac<|Ab rfl<|Ab rfl<|Ab rfl<|Ic rfl rfl<|Ab rfl<|Ab rfl<|Aa<|Ar ?_)
   refine BS (by simp[A5,EO,hf];rfl) (by simp[A5,hf,ht];rfl)
def Kh(a0:Nat):A6:=⟨27,[(.tmp 4),(.tmp 5)],(sR (o1 2 (.box 0)<|o1 4 (.mv z0)<|o1 5 (.mv z0) .done) (sR (o1 6 (.mv z0) .done) (sR (om 8 1<|om 7 8 .done) (.seq (sR (oj 9 4 2<|ol 10 9 .done) (.cond 10 (rG (oj 11 2 2<|ol 12 11<|om 13 1<|oc 14 a0 [12,13]<|om 6 14 .done)) .skip)) (.seq (sR (oj 15 5 2<|ol 16 15 .done) (.cond 16 (rG (oj 17 3 2<|ol 18 17<|om 19 1<|oc 20 a0 [18,19]<|om 7 20 .done)) .skip)) (.seq (sR (om 21 7<|om 22 6<|ob 23 .lss 21 22 .done) (.cond 23 (rG (om 24 6<|om 7 24 .done)) .skip)) (sR (om 25 6<|om 26 7<|om 4 25<|om 5 26 .done) .ret)))))))⟩
def Ws(hd:dec P f=some (Kh f1))(h1:NL P f1):FB P f:=by
 intro d cs s k ⟨hcs,ik,it,is,id⟩ hk1 hk2;subst hcs;refine AM.of' hd (No rfl) ?_;show gwp P _ _ _ _ _;apply Ai;apply Ay;refine AO (l:=[vZ s.kind,Al s.text,vZ s.src,vZ s.dst,.bool s.hf,.bool s.ht]) rfl (fun b2 T2=>?_);have e1:∀a b:Int,b<a→max a b=a:=by omega
 have e2:∀a b:Int,¬b<a→max a b=b:=by omega
 cases hf:s.hf with
 |true=>
  cases ht:s.ht with
  |true=>
   (refine Ab rfl<|Ab rfl<|Aa<|Ac<|Ab rfl<|Aa<|Ac<|Ab rfl<|Ab rfl<|Aa<|Ai<|Ac<|Af rfl<|Ah rfl (Aj 0 rfl rfl)<|Aa<|Bb rfl<|Ay<|Af rfl<|Ah rfl (Aj 0 rfl rfl)<|Ab rfl ?_)
   refine AF rfl (h1 is hk1 hk2) ?_
   (refine Ab rfl<|Aa<|Ai<|Ac<|Af rfl<|Ah rfl (Aj 0 rfl rfl)<|Aa<|Bb rfl<|Ay<|Af rfl<|Ah rfl (Aj 0 rfl rfl)<|Ab rfl ?_)
   refine AF rfl (h1 id hk1 hk2) ?_
   by_cases hc:EO s.dst k<EO s.src k
   ·(refine Ab rfl<|Aa<|Ai<|Ac<|Ab rfl<|Ab rfl<|Ax rfl rfl<|Aa<|Au rfl (by omega)<|Ay<|Ab rfl<|Ab rfl<|Aa<|Ac<|Ab rfl<|Ab rfl<|Ab rfl<|Ab rfl<|Aa<|Ar ?_)
    refine BS (by simp[A5,hf];rfl) (by simp[A5,hf,ht,e1 _ _ hc];rfl)
   ·(refine Ab rfl<|Aa<|Ai<|Ac<|Ab rfl<|Ab rfl<|Ax rfl rfl<|Aa<|Ao rfl (by omega)<|Am<|Ac<|Ab rfl<|Ab rfl<|Ab rfl<|Ab rfl<|Aa<|Ar ?_)
    refine BS (by simp[A5,hf];rfl) (by simp[A5,hf,ht,e2 _ _ hc];rfl)
  |false=>
   (refine Ab rfl<|Ab rfl<|Aa<|Ac<|Ab rfl<|Aa<|Ac<|Ab rfl<|Ab rfl<|Aa<|Ai<|Ac<|Af rfl<|Ah rfl (Aj 0 rfl rfl)<|Aa<|Bb rfl<|Ay<|Af rfl<|Ah rfl (Aj 0 rfl rfl)<|Ab rfl ?_)
   refine AF rfl (h1 is hk1 hk2) ?_
   by_cases hc:k<EO s.src k
   ·(refine Ab rfl<|Aa<|Ai<|Ac<|Af rfl<|Ah rfl (Aj 0 rfl rfl)<|Aa<|AK rfl<|Am<|Ai<|Ac<|Ab rfl<|Ab rfl<|Ax rfl rfl<|Aa<|Au rfl (by omega)<|Ay<|Ab rfl<|Ab rfl<|Aa<|Ac<|Ab rfl<|Ab rfl<|Ab rfl<|Ab rfl<|Aa<|Ar ?_)
    refine BS (by simp[A5,hf];rfl) (by simp[A5,hf,ht,e1 _ _ hc];rfl)
   ·(refine Ab rfl<|Aa<|Ai<|Ac<|Af rfl<|Ah rfl (Aj 0 rfl rfl)<|Aa<|AK rfl<|Am<|Ai<|Ac<|Ab rfl<|Ab rfl<|Ax rfl rfl<|Aa<|Ao rfl (by omega)<|Am<|Ac<|Ab rfl<|Ab rfl<|Ab rfl<|Ab rfl<|Aa<|Ar ?_)
    refine BS (by simp[A5,hf];rfl) (by simp[A5,hf,ht,e2 _ _ hc];rfl)
 |false=>
  cases ht:s.ht with
  |true=>
   (refine Ab rfl<|Ab rfl<|Aa<|Ac<|Ab rfl<|Aa<|Ac<|Ab rfl<|Ab rfl<|Aa<|Ai<|Ac<|Af rfl<|Ah rfl (Aj 0 rfl rfl)<|Aa<|AK rfl<|Am<|Ai<|Ac<|Af rfl<|Ah rfl (Aj 0 rfl rfl)<|Aa<|Bb rfl<|Ay<|Af rfl<|Ah rfl (Aj 0 rfl rfl)<|Ab rfl ?_)
   refine AF rfl (h1 id hk1 hk2) ?_
   by_cases hc:EO s.dst k<0
   ·(refine Ab rfl<|Aa<|Ai<|Ac<|Ab rfl<|Ab rfl<|Ax rfl rfl<|Aa<|Au rfl (by omega)<|Ay<|Ab rfl<|Ab rfl<|Aa<|Ac<|Ab rfl<|Ab rfl<|Ab rfl<|Ab rfl<|Aa<|Ar ?_)
    refine BS (by simp[A5,hf];rfl) (by simp[A5,hf,ht,e1 _ _ hc];rfl)
   ·(refine Ab rfl<|Aa<|Ai<|Ac<|Ab rfl<|Ab rfl<|Ax rfl rfl<|Aa<|Ao rfl (by omega)<|Am<|Ac<|Ab rfl<|Ab rfl<|Ab rfl<|Ab rfl<|Aa<|Ar ?_)
    refine BS (by simp[A5,hf];rfl) (by simp[A5,hf,ht,e2 _ _ hc];rfl)
  |false=>
   by_cases hc:k<0
   ·omega
   ·(refine Ab rfl<|Ab rfl<|Aa<|Ac<|Ab rfl<|Aa<|Ac<|Ab rfl<|Ab rfl<|Aa<|Ai<|Ac<|Af rfl<|Ah rfl (Aj 0 rfl rfl)<|Aa<|AK rfl<|Am<|Ai<|Ac<|Af rfl<|Ah rfl (Aj 0 rfl rfl)<|Aa<|AK rfl<|Am<|Ai<|Ac<|Ab rfl<|Ab rfl<|Ax rfl rfl<|Aa<|Ao rfl (by omega)<|Am<|Ac<|Ab rfl<|Ab rfl<|Ab rfl<|Ab rfl<|Aa<|Ar ?_)
    refine BS (by simp[A5,hf];rfl) (by simp[A5,hf,ht,e2 _ _ hc];rfl)
def K6(P:Program)(f:FuncId):Prop:=∀{d l},AM P f [Al l] d (.bool false)
def IT:A6:=⟨6,[(.tmp 2)],(sR (o1 2 (.mv (.const (.bool false))) .done) (sR (om 3 0<|om 4 0<|ob 5 .neq 3 4<|om 2 5 .done) .ret))⟩
def HX(hd:dec P f=some IT):K6 P f:=by
 intro d l;refine AM.of' hd (No rfl) ?_;show gwp P _ _ _ _ _;(refine Ac<|Ad rfl<|Aa<|Ac<|Bk rfl<|Bk rfl<|C3 rfl rfl<|Ad rfl<|Aa<|Ar ?_);apply Bf;rfl;simp
def K2:A6:=⟨6,[(.tmp 2)],(sR (o1 2 (.mv (.const (.bool false))) .done) (sR (om 3 0<|om 4 0<|ob 5 .neq 3 4<|om 2 5 .done) .ret))⟩
def Jy(hd:dec P f=some K2):K6 P f:=by
 intro d l;refine AM.of' hd (No rfl) ?_;show gwp P _ _ _ _ _;(refine Ac<|Ad rfl<|Aa<|Ac<|Bk rfl<|Bk rfl<|C3 rfl rfl<|Ad rfl<|Aa<|Ar ?_);apply Bf;rfl;simp
def PQ(P:Program)(f:FuncId):Prop:=∀{d l k},AM P f [Al l,Al k] d (.bool (Op.bytesLess l k))
def LF(a0:Nat):A6:=⟨17,[(.tmp 4)],(sR (o1 4 (.mv (.const (.bool false))) .done) (sR (om 5 0<|oc 6 a0 [5]<|om 7 6<|gT 8 7 1<|oT 9 7 (.call a0 [8])<|oT 10 7 (.un .not 9)<|gP 11 7 10<|om 12 11<|gF 13 12 0<|gF 14 12 1<|oF 15 12 (.bin .lss 13 14)<|o1 16 (.pick 12 (.const (.bool true)) 15)<|om 4 16 .done) .ret))⟩
def Ys(hd:dec P f=some (LF f1))(h1:K6 P f1):PQ P f:=by
 intro d l k;refine AM.of' hd (No rfl) ?_;show gwp P _ _ _ _ _;(refine Ac<|Ad rfl<|Aa<|Ac<|Bk rfl ?_);refine AF rfl h1 ?_;(refine Ad rfl<|Ak rfl<|Ak rfl<|Ak rfl<|An rfl rfl<|Ad rfl<|Ae rfl<|Bk rfl<|Ae rfl<|Bk rfl<|Ae rfl<|Lf rfl rfl<|An rfl rfl<|Ad rfl<|Aa<|Ar ?_);apply Bf;rfl;rfl
def HS(P:Program)(f:FuncId):Prop:=∀{d v ks k},BK d v ks→rising ks=true→AM P f [v,Al k] d (.tuple #[vZ (AZ ks k),.bool (decide (k∈ks))])
def Fm(a0 a1:Nat):A6:=⟨54,[(.tmp 4),(.tmp 5)],(sR (o1 4 (.mv z0)<|o1 5 (.mv (.const (.bool false))) .done) (sR (om 10 0<|oL 11 10<|om 6 11 .done) (sR (om 12 6<|o1 7 (.mv z0)<|om 8 12 .done) (.seq (.block 0 (.loop (.seq (sR (om 13 7<|om 14 8<|ob 15 .lss 13 14 .done) (.cond 15 .skip (.exit 0))) (.block 1 (sR (om 16 7<|om 17 8<|ob 18 .add 16 17<|o1 19 (.cvi .u64 18)<|ob 20 .shr 19 (.const (.int .u64 1))<|o1 21 (.cvi .i64 20)<|om 9 21 .done) (sR (om 22 0<|om 23 9<|oI 24 1 22 23<|ol 25 24<|om 26 1<|oc 27 a0 [25,26] .done) (.cond 27 (rG (om 28 9<|ob 29 .add 28 z1<|om 7 29 .done)) (rG (om 30 9<|om 8 30 .done))))))))) (sR (om 31 7<|om 32 7<|om 33 6<|ob 34 .lss 32 33<|om 35 34<|gT 36 35 0<|gT 37 35 7<|oT 38 35 (.idx 1 36 37)<|oT 39 35 (.ld none 38)<|gT 40 35 1<|oT 41 35 (.bin .eql 39 40)<|gT 42 35 41<|gF 43 42 0<|gF 44 42 7<|oF 45 42 (.idx 1 43 44)<|oF 46 42 (.ld none 45)<|oF 47 42 (.call a1 [46])<|gF 48 42 47<|gT 49 48 1<|oT 50 48 (.call a1 [49])<|oF 51 42 (.pick 48 50 (.const (.bool false)))<|oT 52 35 (.pick 42 (.const (.bool true)) 51)<|gP 53 35 52<|om 4 31<|om 5 53 .done) .ret)))))⟩
def Vd{f2}(hd:dec P f=some (Fm f1 f2))(h1:PQ P f1)(h2:K6 P f2):HS P f:=by
 intro d v ks k hv hr;have n1:=RSl.Be hv;have hll:=Fp ks k;obtain⟨a,c,rfl⟩:=RSl.val hv;have hv':RSl 1 A2 d (.slice a ks.length c) ks:=hv;refine AM.of' hd (No rfl) ?_;show gwp P _ _ _ _ _;(refine Ac<|Ab rfl<|Ad rfl<|Aa<|Ac<|As rfl<|AA rfl<|Ab rfl<|Aa<|Ac<|Ab rfl<|Ab rfl<|Ab rfl<|Aa<|Ai<|Av ?_);refine CD (α:=Nat×Nat) (fun x=>[(0,.slice a ks.length c),(1,Al k),(6,vZ ks.length),(7,vZ x.1),(8,vZ x.2)]) (fun _=>[]) (fun x=>x.1≤AZ ks k∧AZ ks k≤x.2∧x.2≤ks.length) (fun x=>x.2 - x.1) (0,ks.length)
  ⟨rfl,rfl,rfl,rfl,rfl,trivial⟩ rfl ⟨ZN _,hll,ZL _⟩ ?_
 rintro⟨lo,hi⟩ ρ ⟨k1,k2,k3⟩;simp only at k1 k2 k3;by_cases hc:lo<hi
 ·obtain⟨m,hm⟩:∃m,m=(lo+hi) / 2:=⟨_,rfl⟩
  have hmv:((lo:Int)+hi) % 18446744073709551616 / 2=m:=by omega
  (refine Ai<|Ac<|Ab rfl<|Ab rfl<|Ax rfl rfl<|Aa<|Au rfl (by omega)<|Am<|Av<|Ac<|Ab rfl<|Ab rfl<|AI rfl rfl (by omega) (by omega)<|Hz rfl ?_);refine Ku rfl rfl (by omega) (by omega) ?_;(refine FW rfl (by omega) (by omega)<|Ab rfl<|Aa<|Ac<|As rfl<|Ab rfl ?_);refine AJ (sz:=1) (R:=A2) (m:=m) (by rfl) hv' (by rfl) hmv (by omega) ?_;rintro _ _ _ _ _ ⟨rfl,_⟩;(refine Ah rfl (A1 (by assumption) rfl)<|Bk rfl ?_);refine AF rfl h1 ?_;have hm':m<ks.length:=by omega
  have hsp:=I4 hr k m hm';cases hb:Op.bytesLess ks[m] k with
  |true=>
   have:=hsp.1 hb
   (refine Aa<|Bb rfl<|Ay<|Ab rfl<|AI rfl rfl (by omega) (by omega)<|Ab rfl<|Aa ?_)
   exact⟨(m+1,hi),by simp only;omega,⟨rfl,rfl,rfl,int_eq (by simp only;omega),rfl,trivial⟩,rfl,rfl,by simp only;omega,k2,k3⟩
  |false=>
   have:¬m<AZ ks k:=fun h=>by rw[hsp.2 h] at hb;cases hb
   (refine Aa<|AK rfl<|Ay<|Ab rfl<|Ab rfl<|Aa ?_)
   exact⟨(lo,m),by simp only;omega,⟨rfl,rfl,rfl,rfl,int_eq (by simp only;omega),trivial⟩,rfl,rfl,k1,by simp only;omega,by simp only;omega⟩
 obtain rfl:hi=lo:=by omega
 have hlo:hi=AZ ks k:=by omega
 by_cases h6:hi<ks.length
 ·by_cases h7:ks[hi]=k
  ·have hmem:k∈ks:=by rw[←h7];exact ZC h6
   (refine Ai<|Ac<|Ab rfl<|Ab rfl<|Ax rfl rfl<|Aa<|Ao rfl (by omega)<|AV<|Ac<|Ab rfl<|Ab rfl<|Ab rfl<|Ax rfl rfl<|Ad rfl<|AE rfl (by omega)<|Ae rfl<|As rfl<|Ae rfl<|Ab rfl<|Ae rfl<|AJ (sz:=1) (R:=A2) (by rfl) (by assumption) (by rfl) rfl (by omega) ?_;rintro _ _ _ _ _ ⟨rfl,_⟩;refine Ae rfl<|Ah rfl (A1 (by assumption) rfl)<|Ae rfl<|Bk rfl<|Ae rfl<|Ek rfl rfl<|Ae rfl<|Ad rfl<|AE rfl (by omega)<|Ak rfl<|Ak rfl<|Ak rfl<|Ak rfl<|Ak rfl<|Ak rfl<|AY rfl<|AY rfl<|Ak rfl<|Ae rfl<|Ap rfl rfl<|Ap rfl rfl<|Ab rfl<|Ad rfl<|Aa<|Ar ?_);refine BS (by rw[←hlo];rfl) (by rw[decide_eq_true hmem];rfl)
  ·have hmem:¬k∈ks:=fun h=>by
    obtain⟨_,e⟩:=(mem_iff hr).1 h;subst hlo;exact h7 e
   (refine Ai<|Ac<|Ab rfl<|Ab rfl<|Ax rfl rfl<|Aa<|Ao rfl (by omega)<|AV<|Ac<|Ab rfl<|Ab rfl<|Ab rfl<|Ax rfl rfl<|Ad rfl<|AE rfl (by omega)<|Ae rfl<|As rfl<|Ae rfl<|Ab rfl<|Ae rfl<|AJ (sz:=1) (R:=A2) (by rfl) (by assumption) (by rfl) rfl (by omega) ?_;rintro _ _ _ _ _ ⟨rfl,_⟩;refine Ae rfl<|Ah rfl (A1 (by assumption) rfl)<|Ae rfl<|Bk rfl<|Ae rfl<|Ek rfl rfl<|Ae rfl<|Ad rfl<|AB rfl (by omega)<|Ae rfl<|As rfl<|Ae rfl<|Ab rfl<|Ae rfl<|AJ (sz:=1) (R:=A2) (by rfl) (by assumption) (by rfl) rfl (by omega) ?_;rintro _ _ _ _ _ ⟨rfl,_⟩;refine Ae rfl<|Ah rfl (A1 (by assumption) rfl)<|Ae rfl ?_);refine AF rfl h2 ?_;(refine Ae rfl<|Ad rfl<|Ak rfl<|Ak rfl<|Ae rfl<|An rfl rfl<|Ae rfl<|An rfl rfl<|Ap rfl rfl<|Ab rfl<|Ad rfl<|Aa<|Ar ?_);refine BS (by rw[←hlo];rfl) (by rw[decide_eq_false hmem];rfl)
 ·have hmem:¬k∈ks:=fun h=>by
   obtain⟨h',e⟩:=(mem_iff hr).1 h;omega
  (refine Ai<|Ac<|Ab rfl<|Ab rfl<|Ax rfl rfl<|Aa<|Ao rfl (by omega)<|AV<|Ac<|Ab rfl<|Ab rfl<|Ab rfl<|Ax rfl rfl<|Ad rfl<|AB rfl (by omega)<|Ak rfl<|Ak rfl<|Ak rfl<|Ak rfl<|Ak rfl<|Ak rfl<|Ak rfl<|AY rfl<|AY rfl<|AY rfl<|AY rfl<|AY rfl<|AY rfl<|AY rfl<|AY rfl<|AY rfl<|Ak rfl<|An rfl rfl<|Ab rfl<|Ad rfl<|Aa<|Ar ?_);refine BS (by rw[←hlo];rfl) (by rw[decide_eq_false hmem];rfl)
def NB(P:Program)(f:FuncId):Prop:=∀{d cs}{v:V}{k},Aw d cs v→rising v.keys=true→AM P f [.agg cs.toArray,Al k] d (vZ (if k∈v.keys then(AZ v.keys k:Int) else -1))
def Kl:A6:=⟨21,[(.tmp 4)],(sR (o1 2 (.box 0)<|o1 4 (.mv z0) .done) (.seq (sR (o1 5 (.mv z0) .done) (.block 0 (.loop (.seq (sR (om 6 5<|oj 7 5 2<|ol 8 7<|oL 9 8<|ob 10 .lss 6 9 .done) (.cond 10 .skip (.exit 0))) (.seq (.block 1 (sR (oj 13 5 2<|ol 14 13<|om 15 5<|oI 16 1 14 15<|ol 17 16<|om 18 1<|ob 19 .eql 17 18 .done) (.cond 19 (sR (om 20 5<|om 4 20 .done) .ret) .skip))) (rG (om 11 5<|ob 12 .add 11 z1<|om 5 12 .done))))))) (sR (o1 4 (.mv (kZ (-1))) .done) .ret)))⟩
def YE(hd:dec P f=some Kl):NB P f:=by
 intro d cs v k hv hr;refine AM.of' hd (No rfl) ?_;obtain⟨lv,kv,rfl,ik,im,ie,it,hl,hks⟩:=hv.open;obtain⟨ka,kc,rfl⟩:=RSl.val hks;have hks':RSl 1 A2 d (.slice ka v.keys.length kc) v.keys:=hks;have n2:=RSl.Be hks;show gwp P _ _ _ _ _;apply Ai;apply Ay;refine AO (l:=[vZ v.kind,vZ v.m,vZ v.e,Al v.text,lv,.slice ka v.keys.length kc]) rfl (fun b2 T2=>?_);(refine Ab rfl<|Aa<|Ai<|Ac<|Ab rfl<|Aa<|Av ?_);refine CD (α:=Nat) (fun i=>[(1,Al k),(2,pZ b2),(5,vZ i)]) (fun _=>[bx b2 T2 [vZ v.kind,vZ v.m,vZ v.e,Al v.text,lv,.slice ka v.keys.length kc]])
  (fun i=>i≤v.keys.length∧∀j (hj:j<v.keys.length),j<i→v.keys[j]≠k) (fun i=>v.keys.length - i) 0 ⟨rfl,rfl,rfl,trivial⟩ rfl ⟨ZN _,fun j _ h=>absurd h (Z3 j)⟩ ?_
 rintro i ρ ⟨hi,hno⟩;by_cases hc:i<v.keys.length
 ·by_cases he:v.keys[i]=k
  ·(refine Ai<|Ac<|Ab rfl<|Af rfl<|Ah rfl (Aj 0 rfl rfl)<|AA rfl<|Ax rfl rfl<|Aa<|Au rfl (by omega)<|Am<|Ai<|Av<|Ac<|Af rfl<|Ah rfl (Aj 0 rfl rfl)<|Ab rfl<|AJ (sz:=1) (R:=A2) (by rfl) (by assumption) (by rfl) rfl (by omega) ?_;rintro _ _ _ _ _ ⟨rfl,_⟩;refine Ah rfl (A1 (by assumption) rfl)<|Bk rfl<|Ek rfl rfl<|Aa<|Au rfl (by omega)<|Ac<|Ab rfl<|Ab rfl<|Aa<|Ar ?_);apply CF;rfl;rw[if_pos (by rw[←he];exact ZC hc),NY hr hc he]
  ·(refine Ai<|Ac<|Ab rfl<|Af rfl<|Ah rfl (Aj 0 rfl rfl)<|AA rfl<|Ax rfl rfl<|Aa<|Au rfl (by omega)<|Am<|Ai<|Av<|Ac<|Af rfl<|Ah rfl (Aj 0 rfl rfl)<|Ab rfl<|AJ (sz:=1) (R:=A2) (by rfl) (by assumption) (by rfl) rfl (by omega) ?_;rintro _ _ _ _ _ ⟨rfl,_⟩;refine Ah rfl (A1 (by assumption) rfl)<|Bk rfl<|Ek rfl rfl<|Aa<|Ao rfl (by omega)<|Am<|Ay<|Ab rfl<|AI rfl rfl (by omega) (by omega)<|Ab rfl<|Aa ?_);refine⟨i+1,by omega,⟨rfl,rfl,int_eq (by omega),trivial⟩,rfl,rfl,hc,fun j hj hji=>?_⟩
   by_cases e:j=i
   ·subst e;exact he
   ·exact hno j hj (by omega)
 ·(refine Ai<|Ac<|Ab rfl<|Af rfl<|Ah rfl (Aj 0 rfl rfl)<|AA rfl<|Ax rfl rfl<|Aa<|Ao rfl (by omega)<|AV<|Ac<|Ab rfl<|Aa<|Ar ?_);apply CF;rfl;rw[if_neg (fun h=>?_)];obtain⟨j,hj,e⟩:=Aae h;exact hno j hj (by omega) e
end Go.Gk.Val
end
section
namespace Go.Gk.Val
open Go Go.Gk Go.Gk.Utf
variable{v:V}
def KR{ks}:∀{m:Nat},D5 ks m=true↔∀i,i<m→FJ ks i=true
 |0=>by simp[D5]
 |m+1=>by
  rw[D5,Zz,KR];constructor
  ·rintro⟨h1,h2⟩ i hi;rcases Nat.lt_succ_iff_lt_or_eq.1 hi with h|rfl
   ·exact h1 i h
   ·exact h2
  ·intro h;exact⟨fun i hi=>h i (by omega),h m (by omega)⟩
abbrev TI(ks:List (List UInt8)):Prop:=ks.Pairwise fun a b=>Op.bytesLess a b=true
def JT{ks}:rising ks=true↔(∀k∈ks,u8 k=true)∧TI ks:=by
 constructor
 ·intro h;refine⟨fun k hk=>?_,?_⟩
  ·obtain⟨i,hi,rfl⟩:=Aae hk;have:=KR.1 h i hi;rw[FJ,Zz] at this;simpa [Acd,hi] using this.1
  ·rw[TI,Acj];intro i j hi hj hij;exact Ly h hj hij
 ·rintro⟨h1,h2⟩;rw[TI,Acj] at h2;refine KR.2 fun i hi=>?_;rw[FJ,Zz];refine⟨by simpa [Acd,hi] using h1 _ (ZC hi),?_⟩
  cases i with
  |zero=>rfl
  |succ i=>
   have:=h2 i (i+1) (by omega) hi (by omega)
   have hi':i<ks.length:=by omega
   simpa [Acd,hi,hi'] using this
def QU:∀{ks k}{j:Nat}(_:j<AZ ks k) (hj:j<ks.length),Op.bytesLess ks[j] k=true
 |[],_,_,_,hj=>absurd hj (Z3 _)
 |a::ks,k,j,h,hj=>by
  unfold AZ at h;rw[List.takeWhile_cons] at h;by_cases e:Op.bytesLess a k=true
  ·rw[if_pos e,ZU] at h;cases j with
   |zero=>exact e
   |succ j=>exact QU (ks:=ks) (by unfold AZ;omega) (by simpa using hj)
  ·rw[if_neg e] at h;exact absurd h (Z3 _)
def QJ:∀{ks k}(hj:AZ ks k<ks.length),Op.bytesLess ks[AZ ks k] k=false
 |[],_,hj=>absurd hj (Z3 _)
 |a::ks,k,hj=>by
  by_cases e:Op.bytesLess a k=true
  ·have h0:AZ (a::ks) k=AZ ks k+1:=by unfold AZ;rw[List.takeWhile_cons,if_pos e,ZU]
   have hj':AZ ks k<ks.length:=by rw[h0] at hj;simpa using hj
   have:=QJ hj';simp only[h0,List.getElem_cons_succ];exact this
  ·have h0:AZ (a::ks) k=0:=by unfold AZ;rw[List.takeWhile_cons,if_neg e];rfl
   simp only[h0,List.getElem_cons_zero];simpa using e
def Fx(o:List (List UInt8)×List V)(k:List UInt8)(x:V):List (List UInt8)×List V:=
 if o.1[AZ o.1 k]?=some k then(o.1,o.2.set (AZ o.1 k) x)
 else(o.1.take (AZ o.1 k)++[k]++o.1.drop (AZ o.1 k),(o.2.take (AZ o.1 k)++[x]++o.2.drop (AZ o.1 k)).set (AZ o.1 k) x)
def CK(ks:List (List UInt8))(l:List V):Nat→List (List UInt8)×List V
 |0=>([],[])
 |n+1=>Fx (CK ks l n) (ks.getD n []) (l.getD n V.zero)
def Yn{o:List (List UInt8)×List V}(h:o.1.length=o.2.length)(k:List UInt8)(x:V):(Fx o k x).1.length=(Fx o k x).2.length∧(Fx o k x).1.length≤o.1.length+1:=by
 have:=Fp o.1 k;unfold Fx;split
 ·simp[h]
 ·simp;omega
def Mk(ks:List (List UInt8))(l:List V):∀n,(CK ks l n).1.length=(CK ks l n).2.length∧(CK ks l n).1.length≤n
 |0=>⟨rfl,ZL _⟩
 |n+1=>by
  have ih:=Mk ks l n;have:=Yn ih.1 (ks.getD n []) (l.getD n V.zero);exact⟨this.1,by have:=this.2;have:=ih.2;rw[CK];omega⟩
def Gq(h:BH v=true):BW v=true:=by rw[Ed,Zz] at h;exact h.1
def CR{x:V}(h:BH v=true)(hx:x∈v.list):BH x=true:=by rw[Ed,Zz,ZF] at h;exact h.2 x hx
def Mv{l:List V}(h:∀x∈l,BH x=true):BH (.mk 5 0 0 [] l [])=true:=by
 rw[Ed,Zz,ZF];exact⟨by simp[BW,Cf,V.kind,V.m,V.e,V.text,V.list,V.keys,Br,u8,Lib.validD_nil,rising,D5],h⟩
def R0{l:List V}{ks}(hr:rising ks=true)(hl:ks.length=l.length)(h:∀x∈l,BH x=true):BH (.mk 6 0 0 [] l ks)=true:=by
 rw[Ed,Zz,ZF];refine⟨?_,h⟩
 simp[BW,Cf,V.kind,V.m,V.e,V.text,V.list,V.keys,Br,u8,Lib.validD_nil];exact⟨hr,hl⟩
def HA{k m e:Int}{t}{l:List V}{ks}{n:Nat}(h:∀x∈l,Bc x≤n):Bc (.mk k m e t l ks)≤n+1:=DQ.2 h
def CE:AS v=0↔BH v=true∧Bc v≤48:=by
 unfold AS;constructor
 ·intro h;by_cases h1:Bc v≤48
  ·rw[if_pos h1] at h;by_cases h2:BH v=true
   ·exact⟨h2,h1⟩
   ·rw[if_neg h2] at h;cases h
  ·rw[if_neg h1] at h;cases h
 ·rintro⟨h1,h2⟩;rw[if_pos h2,if_pos h1]
def Ba:I64 0:=⟨by decide,by decide⟩
def Tw:I64 4:=⟨by decide,by decide⟩
def EB:I64 5:=⟨by decide,by decide⟩
def G9:I64 6:=⟨by decide,by decide⟩
abbrev A7:List Value:=[.int .i64 0,.int .i64 0,.int .i64 0,Al [],.slice none 0 0,.slice none 0 0]
def Bh{ρ d L}{b t u:Nat}{T cs}{w:V}{e:Int}(i:Nat)(e4:ρ t=pZ b)(hi:L[i]?=some (bx b T cs))(e5:ρ u=vZ e)(hw:Aw d cs w):
  Cs [.cell t (some 6),.tmp u] (Ret fun r d' L'=>L'=[]∧∃cs',r=.tuple #[.agg cs'.toArray,vZ e]∧Aw d' cs' w) ρ d L:=
 BG (L':=[]) [.agg cs.toArray,vZ e] ⟨A3 i e4 hi (Aw.len hw),A4 e5,trivial⟩ (ZB _) ⟨rfl,cs,rfl,hw⟩
end Go.Gk.Val
end
section
namespace Go.Gk.Val
open Go Go.Gk Go.Gk.Utf
attribute [local irreducible] gwp gws
variable{P:Program}{f f1 f2 f3:FuncId}{v w:V}{d:Ag}{b:Nat}{T:TypeId}
def Hg{α}(sz:Nat)(R:Ag→List Value→α→Prop)(P:Program)(f:FuncId):Prop:=∀{d v w}{xs ys:List α}{i j:Nat},RSl sz R d v xs→RSl sz R d w ys→i≤j→j≤xs.length→xs.length+ys.length≤1000000001→
 A8 P f [v,vZ i,vZ j,w] d [] (Ret fun r d' L'=>L'=[]∧RSl sz R d' r (xs.take i++ys++xs.drop j))
def KN:A6:=⟨31,[(.tmp 8)],(sR (o1 8 (.mv nS) .done) (sR (om 10 0<|oL 11 10<|om 12 2<|ob 13 .sub 11 12<|om 14 1<|ob 15 .add 13 14<|om 16 3<|oL 17 16<|ob 18 .add 15 17<|o1 19 (.mks 1 16 [(Al [])] z0 18)<|om 9 19 .done) (.seq (.reg true (pm 20 9<|pm 21 0<|pm 22 1<|p1 23 (.sl 1 21 none (some 22) none)<|pm 25 3<|pm 27 0<|pm 28 2<|p1 29 (.sl 1 27 (some 28) none none)<|o1 24 (.app 1 16 [(Al [])] 20 23)<|o1 26 (.app 1 16 [(Al [])] 24 25)<|o1 30 (.app 1 16 [(Al [])] 26 29) (.bar (pm 8 30 .done)))) .ret)))⟩
def TA(hd:dec P f=some KN):Hg 1 A2 P f:=by
 intro d v w xs ys i j hv hw hij hj hb;have n1:=RSl.Be hv;have n2:=RSl.Be hw;have hv':=hv;obtain⟨a,c,rfl⟩:=RSl.val hv;obtain⟨a2,c2,rfl⟩:=RSl.val hw;refine Bd hd (No rfl) ?_;show gwp P _ _ _ _ _;(refine Ac<|As rfl<|Aa<|Ac<|As rfl<|AA rfl<|Ab rfl<|Bn rfl rfl (by omega) (by omega)<|Ab rfl<|AI rfl rfl (by omega) (by omega)<|As rfl<|AA rfl<|AI rfl rfl (by omega) (by omega) ?_);refine Io (n:=0) (c:=xs.length - j+i+ys.length) rfl (int_eq (by omega)) (by omega) (by omega) (by omega) (fun b9 T9=>?_);have o0:AN 1 A2 d (.slice (some ⟨b9,0,none⟩) 0 (xs.length - j+i+ys.length)) [] (bx b9 T9 (BC [Al []] ((xs.length - j+i+ys.length)*1))):=
  ⟨[],BO.mk rfl (by simp) (ZN _) (by omega) (by simp[BC]) rfl,fun i hi=>absurd hi (Z3 i)⟩
 (refine As rfl<|Aa<|Ai ?_);refine Dh [] [_] rfl ?_;(refine As rfl<|As rfl<|Ab rfl ?_);refine GO (n:=i) rfl hv' rfl rfl (by omega) (fun v23 hv23=>?_);(refine As rfl<|As rfl<|Ab rfl ?_);refine DF (n:=j) rfl hv' rfl rfl (by omega) (fun v29 hv29=>?_);refine CO (R:=A2) (xs:=[]) (ys:=xs.take i) 0 rfl rfl o0 rfl (RSl.src (R:=A2) hv23 CQ (by omega) _) (by omega) (by simp;omega) (by simp;omega) (fun v5 h5 hrow5=>?_);refine CO (R:=A2) (xs:=[]++xs.take i) (ys:=ys) 0 rfl rfl hrow5 rfl (RSl.src (R:=A2) hw CQ (by omega) _) (by omega) (by simp;omega) (by simp;omega) (fun v6 h6 hrow6=>?_);refine CO (R:=A2) (xs:=[]++xs.take i++ys) (ys:=xs.drop j) 0 rfl rfl hrow6 rfl (RSl.src (R:=A2) hv29 CQ (by omega) _) (by omega) (by simp;omega) (by simp;omega) (fun v7 h7 hrow7=>?_);obtain⟨a7,c7,rfl⟩:=hrow7.val;(refine Bt<|As rfl<|Aa<|Ar ?_);exact SO rfl (fun d' hl hk=>⟨rfl,hrow7.rsl (R:=A2) Dl (by omega) hl (hk _ (by simp))⟩)
def IL:A6:=⟨31,[(.tmp 8)],(sR (o1 8 (.mv nS) .done) (sR (om 10 0<|oL 11 10<|om 12 2<|ob 13 .sub 11 12<|om 14 1<|ob 15 .add 13 14<|om 16 3<|oL 17 16<|ob 18 .add 15 17<|o1 19 (.mks 6 88 [(vZ 0),(vZ 0),(vZ 0),(Al []),(.slice none 0 0),(.slice none 0 0)] z0 18)<|om 9 19 .done) (.seq (.reg true (pm 20 9<|pm 21 0<|pm 22 1<|p1 23 (.sl 6 21 none (some 22) none)<|pm 25 3<|pm 27 0<|pm 28 2<|p1 29 (.sl 6 27 (some 28) none none)<|o1 24 (.app 6 88 [(vZ 0),(vZ 0),(vZ 0),(Al []),(.slice none 0 0),(.slice none 0 0)] 20 23)<|o1 26 (.app 6 88 [(vZ 0),(vZ 0),(vZ 0),(Al []),(.slice none 0 0),(.slice none 0 0)] 24 25)<|o1 30 (.app 6 88 [(vZ 0),(vZ 0),(vZ 0),(Al []),(.slice none 0 0),(.slice none 0 0)] 26 29) (.bar (pm 8 30 .done)))) .ret)))⟩
def Ps(hd:dec P f=some IL):Hg 6 Aw P f:=by
 intro d v w xs ys i j hv hw hij hj hb;have n1:=RSl.Be hv;have n2:=RSl.Be hw;have hv':=hv;obtain⟨a,c,rfl⟩:=RSl.val hv;obtain⟨a2,c2,rfl⟩:=RSl.val hw;refine Bd hd (No rfl) ?_;show gwp P _ _ _ _ _;(refine Ac<|As rfl<|Aa<|Ac<|As rfl<|AA rfl<|Ab rfl<|Bn rfl rfl (by omega) (by omega)<|Ab rfl<|AI rfl rfl (by omega) (by omega)<|As rfl<|AA rfl<|AI rfl rfl (by omega) (by omega) ?_);refine Io (n:=0) (c:=xs.length - j+i+ys.length) rfl (int_eq (by omega)) (by omega) (by omega) (by omega) (fun b9 T9=>?_);have o0:AN 6 Aw d (.slice (some ⟨b9,0,none⟩) 0 (xs.length - j+i+ys.length)) [] (bx b9 T9 (BC [vZ 0,vZ 0,vZ 0,Al [],.slice none 0 0,.slice none 0 0] ((xs.length - j+i+ys.length)*6))):=
  ⟨[],BO.mk rfl (by simp) (ZN _) (by omega) (by simp[BC]) rfl,fun i hi=>absurd hi (Z3 i)⟩
 (refine As rfl<|Aa<|Ai ?_);refine Dh [] [_] rfl ?_;(refine As rfl<|As rfl<|Ab rfl ?_);refine GO (n:=i) rfl hv' rfl rfl (by omega) (fun v23 hv23=>?_);(refine As rfl<|As rfl<|Ab rfl ?_);refine DF (n:=j) rfl hv' rfl rfl (by omega) (fun v29 hv29=>?_);refine CO (R:=Aw) (xs:=[]) (ys:=xs.take i) 0 rfl rfl o0 rfl (RSl.src (R:=Aw) hv23 AH (by omega) _) (by omega) (by simp;omega) (by simp;omega) (fun v5 h5 hrow5=>?_);refine CO (R:=Aw) (xs:=[]++xs.take i) (ys:=ys) 0 rfl rfl hrow5 rfl (RSl.src (R:=Aw) hw AH (by omega) _) (by omega) (by simp;omega) (by simp;omega) (fun v6 h6 hrow6=>?_);refine CO (R:=Aw) (xs:=[]++xs.take i++ys) (ys:=xs.drop j) 0 rfl rfl hrow6 rfl (RSl.src (R:=Aw) hv29 AH (by omega) _) (by omega) (by simp;omega) (by simp;omega) (fun v7 h7 hrow7=>?_);obtain⟨a7,c7,rfl⟩:=hrow7.val;(refine Bt<|As rfl<|Aa<|Ar ?_);exact SO rfl (fun d' hl hk=>⟨rfl,hrow7.rsl (R:=Aw) B8 (by omega) hl (hk _ (by simp))⟩)
def JV(l:List V)(i:Int):V:=if 0≤i∧i<l.length then l.getD i.toNat V.zero else V.zero
def Ez{α}(l:List α)(ab:Int×Int):List α:=(l.drop ab.1.toNat).take (ab.2.toNat - ab.1.toNat)
def AU(v:V)(s:St):V×Int:=
 if v.kind=0 then(V.zero,0)
 else if s.kind=0∧v.kind=6 then(if s.text∈v.keys then v.list.getD (AZ v.keys s.text) V.zero else V.zero,0)
 else if s.kind=1∧v.kind=5 then(JV v.list (Bm s.src v.list.length),0)
 else if s.kind=2∧v.kind=5 then(.mk 5 0 0 [] (Ez v.list (A5 s v.list.length)) [],0)
 else if s.kind=2∧v.kind=4 then(.mk 4 0 0 (Ez (chs v.text) (A5 s (chs v.text).length)).flatten [] [],0)
 else(V.zero,80)
def DL(h:BW v=true):rising v.keys=true:=by simp[BW] at h;exact h.1.2
def P3(h:BW v=true):u8 v.text=true:=by simp[BW] at h;exact h.1.1.2
def FT(h:BW v=true)(hk:v.kind=6):v.keys.length=v.list.length:=by
 simp[BW] at h;rcases h.2 with h|h
 ·exact absurd hk h
 ·exact h
def CY{ρ d0 L}{t u:Nat}{cs}{e:Int}(i:Nat)(e4:ρ t=pZ b)(hi:L[i]?=some (bx b T cs))(e5:ρ u=vZ e)(hw:Aw d0 cs w):
  Cs [.cell t (some 6),.tmp u] (Ret fun r _ L'=>L'=[]∧∃cs',r=.tuple #[.agg cs'.toArray,vZ e]∧Aw d0 cs' w) ρ d L:=
 BG (L':=[]) [.agg cs.toArray,vZ e] ⟨A3 i e4 hi (Aw.len hw),A4 e5,trivial⟩ (ZB _) ⟨rfl,cs,rfl,hw⟩
def U3{l}{c:Nat}(h1:(BR l).length≤140737488355328)(h2:(BR l).length≤c)(h3:c≤maxLen)(h4:Le (bx b T (BR l++ZI (c - (BR l).length) (.int .i32 0))) d):
  RSl 1 Xf d (.slice (some ⟨b,0,none⟩) (BR l).length c) (rns l):=by
 have hl:(BR l).length=(rns l).length:=by rw[K3];simp
 have o:BO 1 (.slice (some ⟨b,0,none⟩) (BR l).length c) (BR l).length (BR l) (bx b T (BR l++ZI (c - (BR l).length) (.int .i32 0))):=
  BO.mk (by omega) h1 h2 (by simp only[maxLen] at h3;omega) (by simp;omega) (by simp)
 refine o.YN h4 hl (fun i hi=>⟨.int .i32 (rns l)[i],?_,rfl⟩)
 rw[K3];simp[hi]
def GR(P:Program)(f:FuncId):Prop:=∀{d cs ds}{v:V}{s:St},Aw d cs v→BW v=true→v.text.length≤1000000000→RSt d ds s→
 A8 P f [.agg cs.toArray,.agg ds.toArray] d [] (Ret fun r d' L'=>d'=d∧L'=[]∧∃cs',r=.tuple #[.agg cs'.toArray,vZ (AU v s).2]∧Aw d cs' (AU v s).1)
def Qy(a0 a1 a2:Nat):A6:=⟨122,[(.cell 4 (some 6)),(.tmp 5)],(sR (o1 2 (.box 0)<|o1 3 (.box 1)<|o1 4 (.alo (.agg #[(vZ 0),(vZ 0),(vZ 0),(Al []),(.slice none 0 0),(.slice none 0 0)]))<|o1 5 (.mv z0) .done) (.seq (.block 0 (sR (oj 15 0 2<|ol 16 15<|ob 17 .eql 16 z0<|om 14 17 .done) (.cond 14 (sR (o1 18 (.bld [(0,1),(1,2),(3,1),(4,1),(5,1)] [(vZ 0),(vZ 0),(vZ 0),(Al []),(.slice none 0 0),(.slice none 0 0)] [])<|o0 (.st 6 4 18)<|o1 5 (.mv z0) .done) .ret) (sR (oj 20 0 3<|ol 21 20<|ob 22 .eql 21 z0<|om 23 22<|oT 24 23 (.fld 0 2)<|oT 25 23 (.ld none 24)<|oT 26 23 (.bin .eql 25 (kZ 6))<|gP 27 23 26<|om 19 27 .done) (.cond 19 (.seq (sR (oj 29 5 2<|ol 30 29<|oj 31 1 3<|ol 32 31<|oc 33 a0 [30,32]<|om 28 33<|oe 34 28 0<|oe 35 28 1<|om 6 34<|om 7 35 .done) (sR (om 36 7 .done) (.cond 36 (sR (oj 37 4 2<|ol 38 37<|om 39 6<|oI 40 6 38 39<|o1 41 (.ld (some 6) 40)<|o0 (.st 6 4 41)<|o1 5 (.mv z0) .done) .ret) .skip))) (sR (o1 42 (.bld [(0,1),(1,2),(3,1),(4,1),(5,1)] [(vZ 0),(vZ 0),(vZ 0),(Al []),(.slice none 0 0),(.slice none 0 0)] [])<|o0 (.st 6 4 42)<|o1 5 (.mv z0) .done) .ret)) (sR (oj 44 0 3<|ol 45 44<|ob 46 .eql 45 z1<|om 47 46<|oT 48 47 (.fld 0 2)<|oT 49 47 (.ld none 48)<|oT 50 47 (.bin .eql 49 (kZ 5))<|gP 51 47 50<|om 43 51 .done) (.cond 43 (.seq (sR (oj 52 2 3<|ol 53 52<|oj 54 4 2<|ol 55 54<|oL 56 55<|oc 57 a1 [53,56]<|om 8 57 .done) (sR (om 58 8<|ob 59 .geq 58 z0<|om 60 59<|gT 61 60 8<|oT 62 60 (.fld 4 2)<|oT 63 60 (.ld none 62)<|oT 64 60 (.len 63)<|oT 65 60 (.bin .lss 61 64)<|gP 66 60 65 .done) (.cond 66 (sR (oj 67 4 2<|ol 68 67<|om 69 8<|oI 70 6 68 69<|o1 71 (.ld (some 6) 70)<|o0 (.st 6 4 71)<|o1 5 (.mv z0) .done) .ret) .skip))) (sR (o1 72 (.bld [(0,1),(1,2),(3,1),(4,1),(5,1)] [(vZ 0),(vZ 0),(vZ 0),(Al []),(.slice none 0 0),(.slice none 0 0)] [])<|o0 (.st 6 4 72)<|o1 5 (.mv z0) .done) .ret)) (sR (oj 74 0 3<|ol 75 74<|ob 76 .eql 75 z2<|om 77 76<|oT 78 77 (.fld 0 2)<|oT 79 77 (.ld none 78)<|oT 80 77 (.bin .eql 79 (kZ 5))<|gP 81 77 80<|om 73 81 .done) (.cond 73 (sR (o1 83 (.ld (some 6) 3)<|oj 84 4 2<|ol 85 84<|oL 86 85<|oc 87 a2 [83,86]<|om 82 87<|oe 88 82 0<|oe 89 82 1<|om 9 88<|om 10 89 .done) (sR (oj 90 4 2<|ol 91 90<|om 92 9<|om 93 10<|o1 94 (.sl 6 91 (some 92) (some 93) none)<|o1 95 (.bld [(0,1),(1,2),(3,1),(4,1),(5,1)] [(vZ 0),(vZ 0),(vZ 0),(Al []),(.slice none 0 0),(.slice none 0 0)] [(0,(kZ 5)),(3,94)])<|o0 (.st 6 4 95)<|o1 5 (.mv z0) .done) .ret)) (sR (oj 97 0 3<|ol 98 97<|ob 99 .eql 98 z2<|om 100 99<|oT 101 100 (.fld 0 2)<|oT 102 100 (.ld none 101)<|oT 103 100 (.bin .eql 102 (kZ 4))<|gP 104 100 103<|om 96 104 .done) (.cond 96 (sR (oj 105 3 2<|ol 106 105<|o1 107 (.s2r 106)<|om 11 107 .done) (sR (o1 109 (.ld (some 6) 3)<|om 110 11<|oL 111 110<|oc 112 a2 [109,111]<|om 108 112<|oe 113 108 0<|oe 114 108 1<|om 12 113<|om 13 114 .done) (sR (om 115 11<|om 116 12<|om 117 13<|o1 118 (.sl 1 115 (some 116) (some 117) none)<|o1 119 (.r2s 118)<|o1 120 (.bld [(0,1),(1,2),(3,1),(4,1),(5,1)] [(vZ 0),(vZ 0),(vZ 0),(Al []),(.slice none 0 0),(.slice none 0 0)] [(0,(kZ 4)),(2,119)])<|o0 (.st 6 4 120)<|o1 5 (.mv z0) .done) .ret))) .skip))))))))))) (sR (o1 121 (.bld [(0,1),(1,2),(3,1),(4,1),(5,1)] [(vZ 0),(vZ 0),(vZ 0),(Al []),(.slice none 0 0),(.slice none 0 0)] [])<|o0 (.st 6 4 121)<|o1 5 (.mv (kZ 80)) .done) .ret)))⟩
set_option maxHeartbeats 1000000 in
def X6{P:Program}{f f1 f2 f3:FuncId}(hd:dec P f=some (Qy f1 f2 f3))(h1:HS P f1)(h2:Hl P f2)(h3:FB P f3):GR P f:=by
 intro d cs ds v s hv hone hvt hs;have hr:=DL hone;have hu:=P3 hone;have hkl:=FT hone;refine A8.forget (Q:=fun r L'=>L'=[]∧∃cs',r=.tuple #[.agg cs'.toArray,vZ (AU v s).2]∧Aw d cs' (AU v s).1) ?_;refine Bd hd (No rfl) ?_;obtain⟨w,e,hF⟩:∃w e,AU v s=(w,e):=⟨_,_,rfl⟩
 rw[hF];have hs':=hs;obtain⟨hds,ik',it',is,id⟩:=hs';subst hds;obtain⟨lv,kv,rfl,ik,im,ie,it,hl,hks⟩:=hv.open;obtain⟨la,lc,rfl⟩:=RSl.val hl;obtain⟨ka,kc,rfl⟩:=RSl.val hks;have hl':RSl 6 Aw d (.slice la v.list.length lc) v.list:=hl;have n1:=RSl.Be hl;have n2:=RSl.Be hks;show gwp P _ _ _ _ _;apply Ai;apply Ay;refine AO (l:=[vZ v.kind,vZ v.m,vZ v.e,Al v.text,.slice la v.list.length lc,.slice ka v.keys.length kc]) rfl (fun b2 T2=>?_);refine AO (l:=[vZ s.kind,Al s.text,vZ s.src,vZ s.dst,.bool s.hf,.bool s.ht]) rfl (fun b3 T3=>?_);(refine AX (fun _ _=>Ab rfl<|Aa ?_));rename_i b4 T4;by_cases k0:v.kind=0
 ·rw[AU,if_pos k0] at hF;cases hF;(refine Ai<|Av<|Ac<|Af rfl<|Ah rfl (Aj 2 rfl rfl)<|Aq rfl rfl<|Ad rfl<|Aa<|Au rfl (by omega)<|Ac<|Bl ?_);refine Az 0 [vZ 0,vZ 0,vZ 0,Al [],.slice none 0 0,.slice none 0 0] rfl rfl rfl rfl (No rfl) rfl rfl ?_;(refine Ab rfl<|Aa<|Ar ?_);exact CY 0 rfl rfl rfl Aw.zero
 by_cases s0:s.kind=0
 ·by_cases v6:v.kind=6
  ·rw[AU,if_neg k0,if_pos ⟨s0,v6⟩] at hF;(refine Ai<|Av<|Ac<|Af rfl<|Ah rfl (Aj 2 rfl rfl)<|Aq rfl rfl<|Ad rfl<|Aa<|Ao rfl (by omega)<|Ac<|Af rfl<|Ah rfl (Aj 1 rfl rfl)<|Aq rfl rfl<|Ad rfl<|AE rfl (by omega)<|Ae rfl<|Af rfl<|Ae rfl<|Ah rfl (Aj 2 rfl rfl)<|Ae rfl<|Aq rfl rfl<|Ap rfl rfl<|Ad rfl<|Aa<|Au rfl (by omega)<|Ai<|Ac<|Af rfl<|Ah rfl (Aj 2 rfl rfl)<|Af rfl<|Ah rfl (Aj 1 rfl rfl) ?_);refine AF rfl (h1 hks hr) ?_;by_cases hm:s.text∈v.keys
   ·rw[if_pos hm] at hF;cases hF;obtain⟨hlo,_⟩:=(mem_iff hr).1 hm;have hlo2:AZ v.keys s.text<v.list.length:=by have:=hkl v6;omega
    (refine Bj rfl<|AL rfl rfl<|AL rfl rfl<|Ab rfl<|Ad rfl<|Aa<|Ac<|Ad rfl<|Aa<|Au rfl (by omega)<|Ac<|Af rfl<|Ah rfl (Aj 2 rfl rfl)<|Ab rfl<|AJ (sz:=6) (R:=Aw) (by rfl) (by assumption) (by rfl) rfl (by omega) ?_;rintro _ _ _ _ _ _;apply BE;rfl;assumption;assumption);rename_i cs hcs hD hR;obtain⟨c0,c1,c2,c3,c4,c5,rfl⟩:=six hcs;refine Az 0 [c0,c1,c2,c3,c4,c5] rfl rfl rfl rfl (No rfl) (AH _ _ _ hR) rfl ?_;(refine Ab rfl<|Aa<|Ar ?_);exact CY 0 rfl rfl rfl (by rw[show v.list.getD (AZ v.keys s.text) V.zero=v.list[AZ v.keys s.text] by simp[hlo2]];exact hR)
   ·rw[if_neg hm] at hF;cases hF;(refine Bj rfl<|AL rfl rfl<|AL rfl rfl<|Ab rfl<|Ad rfl<|Aa<|Ac<|Ad rfl<|Aa<|Ao rfl (by omega)<|Am<|Ac<|Bl ?_);refine Az 0 [vZ 0,vZ 0,vZ 0,Al [],.slice none 0 0,.slice none 0 0] rfl rfl rfl rfl (No rfl) rfl rfl ?_;(refine Ab rfl<|Aa<|Ar ?_);exact CY 0 rfl rfl rfl Aw.zero
  ·rw[AU,if_neg k0,if_neg (fun h=>v6 h.2),if_neg (fun h=>by omega),if_neg (fun h=>by omega),if_neg (fun h=>by omega)] at hF;cases hF;(refine Ai<|Av<|Ac<|Af rfl<|Ah rfl (Aj 2 rfl rfl)<|Aq rfl rfl<|Ad rfl<|Aa<|Ao rfl (by omega)<|Ac<|Af rfl<|Ah rfl (Aj 1 rfl rfl)<|Aq rfl rfl<|Ad rfl<|AE rfl (by omega)<|Ae rfl<|Af rfl<|Ae rfl<|Ah rfl (Aj 2 rfl rfl)<|Ae rfl<|Aq rfl rfl<|Ap rfl rfl<|Ad rfl<|Aa<|Ao rfl (by omega)<|Ac<|Af rfl<|Ah rfl (Aj 1 rfl rfl)<|Aq rfl rfl<|Ad rfl<|AB rfl (by omega)<|Ak rfl<|Ak rfl<|Ak rfl<|An rfl rfl<|Ad rfl<|Aa<|AK rfl<|Ac<|Af rfl<|Ah rfl (Aj 1 rfl rfl)<|Aq rfl rfl<|Ad rfl<|AB rfl (by omega)<|Ak rfl<|Ak rfl<|Ak rfl<|An rfl rfl<|Ad rfl<|Aa<|AK rfl<|Ac<|Af rfl<|Ah rfl (Aj 1 rfl rfl)<|Aq rfl rfl<|Ad rfl<|AB rfl (by omega)<|Ak rfl<|Ak rfl<|Ak rfl<|An rfl rfl<|Ad rfl<|Aa<|AK rfl<|Am<|Ac<|Bl ?_);refine Az 0 [vZ 0,vZ 0,vZ 0,Al [],.slice none 0 0,.slice none 0 0] rfl rfl rfl rfl (No rfl) rfl rfl ?_;(refine Ab rfl<|Aa<|Ar ?_);exact CY 0 rfl rfl rfl Aw.zero
 by_cases s1:s.kind=1
 ·by_cases v5:v.kind=5
  ·rw[AU,if_neg k0,if_neg (fun h=>s0 h.1),if_pos ⟨s1,v5⟩,JV] at hF;(refine Ai<|Av<|Ac<|Af rfl<|Ah rfl (Aj 2 rfl rfl)<|Aq rfl rfl<|Ad rfl<|Aa<|Ao rfl (by omega)<|Ac<|Af rfl<|Ah rfl (Aj 1 rfl rfl)<|Aq rfl rfl<|Ad rfl<|AB rfl (by omega)<|Ak rfl<|Ak rfl<|Ak rfl<|An rfl rfl<|Ad rfl<|Aa<|AK rfl<|Ac<|Af rfl<|Ah rfl (Aj 1 rfl rfl)<|Aq rfl rfl<|Ad rfl<|AE rfl (by omega)<|Ae rfl<|Af rfl<|Ae rfl<|Ah rfl (Aj 2 rfl rfl)<|Ae rfl<|Aq rfl rfl<|Ap rfl rfl<|Ad rfl<|Aa<|Au rfl (by omega)<|Ai<|Ac<|Af rfl<|Ah rfl (Aj 1 rfl rfl)<|Af rfl<|Ah rfl (Aj 2 rfl rfl)<|AA rfl ?_);refine AF rfl (h2 is (by omega) (by omega)) ?_;by_cases p0:0≤Bm s.src v.list.length
   ·by_cases p1:Bm s.src v.list.length<v.list.length
    ·rw[if_pos ⟨p0,p1⟩] at hF;cases hF;have hlo2:(Bm s.src v.list.length).toNat<v.list.length:=by omega
     (refine Ab rfl<|Aa<|Ac<|Ab rfl<|B5 rfl rfl<|Ad rfl<|AE rfl (by omega)<|Ae rfl<|Ab rfl<|Ae rfl<|Af rfl<|Ae rfl<|Ah rfl (Aj 2 rfl rfl)<|Ae rfl<|AA rfl<|Ae rfl<|Ax rfl rfl<|Ap rfl rfl<|Aa<|Au rfl (by omega)<|Ac<|Af rfl<|Ah rfl (Aj 2 rfl rfl)<|Ab rfl ?_);refine AJ (sz:=6) (R:=Aw) (m:=(Bm s.src v.list.length).toNat) (by rfl) hl' (by rfl) (by omega) hlo2 ?_;rintro _ _ cs hcs hD hR;(apply BE;rfl;assumption;assumption);obtain⟨c0,c1,c2,c3,c4,c5,rfl⟩:=six hcs;refine Az 0 [c0,c1,c2,c3,c4,c5] rfl rfl rfl rfl (No rfl) (AH _ _ _ hR) rfl ?_;(refine Ab rfl<|Aa<|Ar ?_);exact CY 0 rfl rfl rfl (by rw[show v.list.getD (Bm s.src v.list.length).toNat V.zero=v.list[(Bm s.src v.list.length).toNat] by simp[hlo2]];exact hR)
    ·rw[if_neg (fun h=>p1 h.2)] at hF;cases hF;(refine Ab rfl<|Aa<|Ac<|Ab rfl<|B5 rfl rfl<|Ad rfl<|AE rfl (by omega)<|Ae rfl<|Ab rfl<|Ae rfl<|Af rfl<|Ae rfl<|Ah rfl (Aj 2 rfl rfl)<|Ae rfl<|AA rfl<|Ae rfl<|Ax rfl rfl<|Ap rfl rfl<|Aa<|Ao rfl (by omega)<|Am<|Ac<|Bl ?_);refine Az 0 [vZ 0,vZ 0,vZ 0,Al [],.slice none 0 0,.slice none 0 0] rfl rfl rfl rfl (No rfl) rfl rfl ?_;(refine Ab rfl<|Aa<|Ar ?_);exact CY 0 rfl rfl rfl Aw.zero
   ·rw[if_neg (fun h=>p0 h.1)] at hF;cases hF;(refine Ab rfl<|Aa<|Ac<|Ab rfl<|B5 rfl rfl<|Ad rfl<|AB rfl (by omega)<|Ak rfl<|Ak rfl<|Ak rfl<|Ak rfl<|Ak rfl<|An rfl rfl<|Aa<|AK rfl<|Am<|Ac<|Bl ?_);refine Az 0 [vZ 0,vZ 0,vZ 0,Al [],.slice none 0 0,.slice none 0 0] rfl rfl rfl rfl (No rfl) rfl rfl ?_;(refine Ab rfl<|Aa<|Ar ?_);exact CY 0 rfl rfl rfl Aw.zero
  ·rw[AU,if_neg k0,if_neg (fun h=>s0 h.1),if_neg (fun h=>v5 h.2),if_neg (fun h=>by omega),if_neg (fun h=>by omega)] at hF;cases hF;(refine Ai<|Av<|Ac<|Af rfl<|Ah rfl (Aj 2 rfl rfl)<|Aq rfl rfl<|Ad rfl<|Aa<|Ao rfl (by omega)<|Ac<|Af rfl<|Ah rfl (Aj 1 rfl rfl)<|Aq rfl rfl<|Ad rfl<|AB rfl (by omega)<|Ak rfl<|Ak rfl<|Ak rfl<|An rfl rfl<|Ad rfl<|Aa<|AK rfl<|Ac<|Af rfl<|Ah rfl (Aj 1 rfl rfl)<|Aq rfl rfl<|Ad rfl<|AE rfl (by omega)<|Ae rfl<|Af rfl<|Ae rfl<|Ah rfl (Aj 2 rfl rfl)<|Ae rfl<|Aq rfl rfl<|Ap rfl rfl<|Ad rfl<|Aa<|Ao rfl (by omega)<|Ac<|Af rfl<|Ah rfl (Aj 1 rfl rfl)<|Aq rfl rfl<|Ad rfl<|AB rfl (by omega)<|Ak rfl<|Ak rfl<|Ak rfl<|An rfl rfl<|Ad rfl<|Aa<|AK rfl<|Ac<|Af rfl<|Ah rfl (Aj 1 rfl rfl)<|Aq rfl rfl<|Ad rfl<|AB rfl (by omega)<|Ak rfl<|Ak rfl<|Ak rfl<|An rfl rfl<|Ad rfl<|Aa<|AK rfl<|Am<|Ac<|Bl ?_);refine Az 0 [vZ 0,vZ 0,vZ 0,Al [],.slice none 0 0,.slice none 0 0] rfl rfl rfl rfl (No rfl) rfl rfl ?_;(refine Ab rfl<|Aa<|Ar ?_);exact CY 0 rfl rfl rfl Aw.zero
 by_cases s2:s.kind=2
 ·by_cases v5:v.kind=5
  ·rw[AU,if_neg k0,if_neg (fun h=>s0 h.1),if_neg (fun h=>s1 h.1),if_pos ⟨s2,v5⟩] at hF;cases hF;have hends:=C8 s (k:=v.list.length) (by omega);(refine Ai<|Av<|Ac<|Af rfl<|Ah rfl (Aj 2 rfl rfl)<|Aq rfl rfl<|Ad rfl<|Aa<|Ao rfl (by omega)<|Ac<|Af rfl<|Ah rfl (Aj 1 rfl rfl)<|Aq rfl rfl<|Ad rfl<|AB rfl (by omega)<|Ak rfl<|Ak rfl<|Ak rfl<|An rfl rfl<|Ad rfl<|Aa<|AK rfl<|Ac<|Af rfl<|Ah rfl (Aj 1 rfl rfl)<|Aq rfl rfl<|Ad rfl<|AB rfl (by omega)<|Ak rfl<|Ak rfl<|Ak rfl<|An rfl rfl<|Ad rfl<|Aa<|AK rfl<|Ac<|Af rfl<|Ah rfl (Aj 1 rfl rfl)<|Aq rfl rfl<|Ad rfl<|AE rfl (by omega)<|Ae rfl<|Af rfl<|Ae rfl<|Ah rfl (Aj 2 rfl rfl)<|Ae rfl<|Aq rfl rfl<|Ap rfl rfl<|Ad rfl<|Aa<|Au rfl (by omega)<|Ac<|AD 1 rfl rfl rfl<|Af rfl<|Ah rfl (Aj 2 rfl rfl)<|AA rfl ?_);refine AF rfl (h3 hs (by omega) (by omega)) ?_;(refine Bj rfl<|AL rfl rfl<|AL rfl rfl<|Ab rfl<|Ab rfl<|Aa<|Ac<|Af rfl<|Ah rfl (Aj 2 rfl rfl)<|Ab rfl<|Ab rfl ?_);refine Oh (n:=(A5 s v.list.length).1.toNat) (m:=(A5 s v.list.length).2.toNat) rfl hl' rfl rfl (by omega) (by omega) (by omega) (by omega) (fun v' hv'=>?_);obtain⟨sa,sc,rfl⟩:=RSl.val hv';(apply DR;rfl;rfl);refine Az 0 [vZ 5,vZ 0,vZ 0,Al [],.slice sa _ sc,.slice none 0 0] rfl rfl rfl rfl (No rfl) rfl rfl ?_;(refine Ab rfl<|Aa<|Ar ?_);exact CY 0 rfl rfl rfl (Aw.close (v:=.mk 5 0 0 [] (Ez v.list (A5 s v.list.length)) []) EB Ba Ba (by simp) hv' RSl.nil)
  by_cases v4:v.kind=4
  ·rw[AU,if_neg k0,if_neg (fun h=>s0 h.1),if_neg (fun h=>s1 h.1),if_neg (fun h=>v5 h.2),if_pos ⟨s2,v4⟩] at hF;cases hF;have hrl:(BR v.text).length=(chs v.text).length:=by rw[K3];simp[SD]
   have hcl:=Oq v.text;have hends:=C8 s (k:=(chs v.text).length) (by omega);have hrn:=SD v.text;(refine Ai<|Av<|Ac<|Af rfl<|Ah rfl (Aj 2 rfl rfl)<|Aq rfl rfl<|Ad rfl<|Aa<|Ao rfl (by omega)<|Ac<|Af rfl<|Ah rfl (Aj 1 rfl rfl)<|Aq rfl rfl<|Ad rfl<|AB rfl (by omega)<|Ak rfl<|Ak rfl<|Ak rfl<|An rfl rfl<|Ad rfl<|Aa<|AK rfl<|Ac<|Af rfl<|Ah rfl (Aj 1 rfl rfl)<|Aq rfl rfl<|Ad rfl<|AB rfl (by omega)<|Ak rfl<|Ak rfl<|Ak rfl<|An rfl rfl<|Ad rfl<|Aa<|AK rfl<|Ac<|Af rfl<|Ah rfl (Aj 1 rfl rfl)<|Aq rfl rfl<|Ad rfl<|AE rfl (by omega)<|Ae rfl<|Af rfl<|Ae rfl<|Ah rfl (Aj 2 rfl rfl)<|Ae rfl<|Aq rfl rfl<|Ap rfl rfl<|Ad rfl<|Aa<|Ao rfl (by omega)<|Ac<|Af rfl<|Ah rfl (Aj 1 rfl rfl)<|Aq rfl rfl<|Ad rfl<|AE rfl (by omega)<|Ae rfl<|Af rfl<|Ae rfl<|Ah rfl (Aj 2 rfl rfl)<|Ae rfl<|Aq rfl rfl<|Ap rfl rfl<|Ad rfl<|Aa<|Au rfl (by omega)<|Ac<|Af rfl<|Ah rfl (Aj 2 rfl rfl) ?_);refine Zm rfl (by omega) (fun b11 T11 c11 hc1 hc2=>?_);refine BF (fun d5 hl5 hg5=>?_);have hrr:=U3 (by omega) hc1 hc2 hg5;rw[hrl] at hrr⊢;(refine As rfl<|Aa<|Ac<|AD 1 rfl rfl rfl<|As rfl<|AA rfl ?_);refine AF rfl (h3 (d:=d5) hs (by omega) (by omega)) ?_;(refine Bj rfl<|AL rfl rfl<|AL rfl rfl<|Ab rfl<|Ab rfl<|Aa<|Ac<|As rfl<|Ab rfl<|Ab rfl ?_);refine Oh (n:=(A5 s (chs v.text).length).1.toNat) (m:=(A5 s (chs v.text).length).2.toNat) rfl hrr rfl rfl (by omega) (by omega) (by omega) (by omega) (fun v' hv'=>?_);refine Zs rfl hv' ?_;rw[Vy hu];(apply QM;rfl;rfl);refine Az 0 [vZ 4,vZ 0,vZ 0,Al (Ez (chs v.text) (A5 s (chs v.text).length)).flatten,.slice none 0 0,.slice none 0 0] rfl rfl rfl rfl (No rfl) rfl rfl ?_;(refine Ab rfl<|Aa<|Ar ?_);exact CY 0 rfl rfl rfl (Aw.close (v:=.mk 4 0 0 (Ez (chs v.text) (A5 s (chs v.text).length)).flatten [] []) Tw Ba Ba (Aaf (JF _ _) it) RSl.nil RSl.nil)
  rw[AU,if_neg k0,if_neg (fun h=>s0 h.1),if_neg (fun h=>s1 h.1),if_neg (fun h=>v5 h.2),if_neg (fun h=>v4 h.2)] at hF;cases hF;(refine Ai<|Av<|Ac<|Af rfl<|Ah rfl (Aj 2 rfl rfl)<|Aq rfl rfl<|Ad rfl<|Aa<|Ao rfl (by omega)<|Ac<|Af rfl<|Ah rfl (Aj 1 rfl rfl)<|Aq rfl rfl<|Ad rfl<|AB rfl (by omega)<|Ak rfl<|Ak rfl<|Ak rfl<|An rfl rfl<|Ad rfl<|Aa<|AK rfl<|Ac<|Af rfl<|Ah rfl (Aj 1 rfl rfl)<|Aq rfl rfl<|Ad rfl<|AB rfl (by omega)<|Ak rfl<|Ak rfl<|Ak rfl<|An rfl rfl<|Ad rfl<|Aa<|AK rfl<|Ac<|Af rfl<|Ah rfl (Aj 1 rfl rfl)<|Aq rfl rfl<|Ad rfl<|AE rfl (by omega)<|Ae rfl<|Af rfl<|Ae rfl<|Ah rfl (Aj 2 rfl rfl)<|Ae rfl<|Aq rfl rfl<|Ap rfl rfl<|Ad rfl<|Aa<|Ao rfl (by omega)<|Ac<|Af rfl<|Ah rfl (Aj 1 rfl rfl)<|Aq rfl rfl<|Ad rfl<|AE rfl (by omega)<|Ae rfl<|Af rfl<|Ae rfl<|Ah rfl (Aj 2 rfl rfl)<|Ae rfl<|Aq rfl rfl<|Ap rfl rfl<|Ad rfl<|Aa<|Ao rfl (by omega)<|Am<|Ac<|Bl ?_);refine Az 0 [vZ 0,vZ 0,vZ 0,Al [],.slice none 0 0,.slice none 0 0] rfl rfl rfl rfl (No rfl) rfl rfl ?_;(refine Ab rfl<|Aa<|Ar ?_);exact CY 0 rfl rfl rfl Aw.zero
 rw[AU,if_neg k0,if_neg (fun h=>s0 h.1),if_neg (fun h=>s1 h.1),if_neg (fun h=>s2 h.1),if_neg (fun h=>s2 h.1)] at hF;cases hF;(refine Ai<|Av<|Ac<|Af rfl<|Ah rfl (Aj 2 rfl rfl)<|Aq rfl rfl<|Ad rfl<|Aa<|Ao rfl (by omega)<|Ac<|Af rfl<|Ah rfl (Aj 1 rfl rfl)<|Aq rfl rfl<|Ad rfl<|AB rfl (by omega)<|Ak rfl<|Ak rfl<|Ak rfl<|An rfl rfl<|Ad rfl<|Aa<|AK rfl<|Ac<|Af rfl<|Ah rfl (Aj 1 rfl rfl)<|Aq rfl rfl<|Ad rfl<|AB rfl (by omega)<|Ak rfl<|Ak rfl<|Ak rfl<|An rfl rfl<|Ad rfl<|Aa<|AK rfl<|Ac<|Af rfl<|Ah rfl (Aj 1 rfl rfl)<|Aq rfl rfl<|Ad rfl<|AB rfl (by omega)<|Ak rfl<|Ak rfl<|Ak rfl<|An rfl rfl<|Ad rfl<|Aa<|AK rfl<|Ac<|Af rfl<|Ah rfl (Aj 1 rfl rfl)<|Aq rfl rfl<|Ad rfl<|AB rfl (by omega)<|Ak rfl<|Ak rfl<|Ak rfl<|An rfl rfl<|Ad rfl<|Aa<|AK rfl<|Am<|Ac<|Bl ?_);refine Az 0 [vZ 0,vZ 0,vZ 0,Al [],.slice none 0 0,.slice none 0 0] rfl rfl rfl rfl (No rfl) rfl rfl ?_;(refine Ab rfl<|Aa<|Ar ?_);exact CY 0 rfl rfl rfl Aw.zero
def N6(P:Program)(f:FuncId):Prop:=∀{d l},u8 l=true→l.length≤1000000000→A8 P f [Al l] d [] (Ret fun r d' L'=>L'=[]∧BK d' r (chs l))
def Ja(a0:Nat):A6:=⟨24,[(.tmp 2)],(sR (o1 2 (.mv nS) .done) (sR (o1 3 (.mv nS) .done) (.seq (.block 0 (.loop (.seq (sR (om 6 0<|o1 7 (.lens 6)<|ob 8 .gtr 7 z0 .done) (.cond 8 .skip (.exit 0))) (.block 1 (sR (om 10 0<|oc 11 a0 [10]<|om 9 11<|oe 12 9 0<|oe 13 9 1<|om 4 12<|om 5 13 .done) (sR (om 14 3<|om 15 0<|om 16 5<|o1 17 (.sls 15 none (some 16))<|o1 18 (.bsl 1 1 [(Al [])] [(0,17)])<|o1 19 (.app 1 16 [(Al [])] 14 18)<|om 3 19 .done) (rG (om 20 0<|om 21 5<|o1 22 (.sls 20 (some 21) none)<|om 0 22 .done)))))))) (sR (om 23 3<|om 2 23 .done) .ret))))⟩
def VR(hd:dec P f=some (Ja f1))(h1:IN P f1):N6 P f:=by
 intro d l hu hl;have hlen:=Oq l;refine Bd hd (No rfl) ?_;show gwp P _ _ _ _ _;apply Ai;apply Ay;refine B9 d [emp] Vs.emp ?_;(refine As rfl<|Aa<|Ac<|As rfl<|Aa<|Ai<|Av ?_);refine OB (α:=List UInt8) (fun x w=>[(0,Al x),(3,w)])
  (fun x w h d' L'=>d'=d∧∃dn:List (List UInt8),x.length+dn.length≤l.length∧u8 x=true∧dn++chs x=chs l∧AN 1 A2 d w dn h∧L'=[h]) (fun x=>x.length) l (.slice none 0 0) emp
  ⟨rfl,rfl,trivial⟩ ⟨rfl,[],by simp,hu,rfl,AN.nil,rfl⟩ ?_
 rintro l' w h ρ d' L' ⟨hdd,dn,hle,hu',hch,hrow,hL⟩;subst hdd;subst hL;obtain⟨a,c,rfl⟩:=hrow.val;by_cases hc:l'=[]
 ·have h0:l'.length=0:=by rw[hc];rfl
  (refine Ai<|Ac<|Bk rfl<|ED rfl<|AP rfl rfl<|Aa<|Ao rfl (by omega)<|AV<|Ac<|As rfl<|As rfl<|Aa<|Ar ?_);rw[hc,XC,ZW] at hch;refine SO rfl (fun d' hld hk=>?_);exact⟨rfl,by rw[←hch];exact hrow.rsl (R:=A2) Dl (by omega) hld (hk _ (by simp))⟩
 ·have hpos:1≤l'.length:=List.length_pos_iff.2 hc;have hfw:=XG hc hu';have hw:=Lib.decodeL_width l';have hwl:=Lib.decodeL_le l' hc;have hst:=WE hc;(refine Ai<|Ac<|Bk rfl<|ED rfl<|AP rfl rfl<|Aa<|Au rfl (by omega)<|Am<|Av<|Ac<|Bk rfl ?_);refine AF rfl (h1 hc (by omega)) ?_;(refine Bj rfl<|AL rfl rfl<|AL rfl rfl<|Ab rfl<|Ab rfl<|Aa<|Ac<|As rfl<|Bk rfl<|Ab rfl ?_);refine R1 (n:=(Lib.decodeL l').2) rfl rfl (by omega) (by omega) ?_;refine E5 (v0:=Al (l'.take (Lib.decodeL l').2)) rfl rfl (fun b18 T18=>?_);have o18:AN 1 A2 d' (.slice (some ⟨b18,0,none⟩) 1 1) [l'.take (Lib.decodeL l').2] (bx b18 T18 [Al (l'.take (Lib.decodeL l').2)]):=AN.D8 rfl ⟨rfl,by simp;omega⟩;refine DH (R:=A2) 0 rfl rfl hrow rfl o18 CQ (by omega) (by simp;omega) (by simp;omega) (fun v5 h5 o5=>?_);obtain⟨a5,c5,rfl⟩:=o5.val;(refine As rfl<|Aa<|Ay<|Bk rfl<|Ab rfl ?_);refine Ph (n:=(Lib.decodeL l').2) rfl rfl (by omega) (by omega) ?_;(refine Bk rfl<|Aa ?_);exact⟨l'.drop (Lib.decodeL l').2,_,h5,by simp;omega,⟨rfl,rfl,trivial⟩,rfl,dn++[l'.take (Lib.decodeL l').2],by simp;omega,NF hc hu',by rw[List.append_assoc,←hch,hst];rfl,o5,rfl⟩
def KV(a0 a1 a2:Nat):A6:=⟨124,[(.cell 4 (some 6)),(.tmp 5)],(sR (o1 2 (.box 0)<|o1 3 (.box 1)<|o1 4 (.alo (.agg #[(vZ 0),(vZ 0),(vZ 0),(Al []),(.slice none 0 0),(.slice none 0 0)]))<|o1 5 (.mv z0) .done) (sR (o1 6 (.alo (.agg #[(vZ 0),(vZ 0),(vZ 0),(Al []),(.slice none 0 0),(.slice none 0 0)])) .done) (.seq (sR (oj 14 0 2<|ol 15 14<|ob 16 .eql 15 z0 .done) (.cond 16 (sR (o1 17 (.ld (some 6) 6)<|o0 (.st 6 4 17)<|o1 5 (.mv z0) .done) .ret) .skip)) (.seq (sR (oj 18 0 3<|ol 19 18<|ob 20 .eql 19 z0<|om 21 20<|oT 22 21 (.fld 0 2)<|oT 23 21 (.ld none 22)<|oT 24 21 (.bin .eql 23 (kZ 6))<|gP 25 21 24<|om 26 25<|oF 27 26 (.fld 0 3)<|oF 28 26 (.ld none 27)<|oF 29 26 (.bin .eql 28 z1)<|gF 30 26 29<|oT 31 30 (.fld 0 2)<|oT 32 30 (.ld none 31)<|oT 33 30 (.bin .eql 32 (kZ 5))<|oF 34 26 (.pick 30 33 (.const (.bool false)))<|o1 35 (.pick 26 (.const (.bool true)) 34) .done) (.cond 35 (sR (oj 36 2 3<|ol 37 36<|om 7 37 .done) (.seq (sR (oj 38 0 3<|ol 39 38<|ob 40 .eql 39 z0 .done) (.cond 40 (rG (o1 41 (.ld (some 6) 2)<|oj 42 1 3<|ol 43 42<|oc 44 a0 [41,43]<|om 7 44 .done)) (sR (om 45 7<|ob 46 .lss 45 z0 .done) (.cond 46 (rG (om 47 7<|oj 48 4 2<|ol 49 48<|oL 50 49<|ob 51 .add 47 50<|om 7 51 .done)) .skip)))) (.seq (sR (om 52 7<|ob 53 .geq 52 z0<|om 54 53<|gT 55 54 7<|oT 56 54 (.fld 4 2)<|oT 57 54 (.ld none 56)<|oT 58 54 (.len 57)<|oT 59 54 (.bin .lss 55 58)<|gP 60 54 59 .done) (.cond 60 (rG (oj 61 4 2<|ol 62 61<|om 63 7<|oI 64 6 62 63<|o1 65 (.ld (some 6) 64)<|o0 (.st 6 6 65) .done)) .skip)) (sR (o1 66 (.ld (some 6) 6)<|o0 (.st 6 4 66)<|o1 5 (.mv z0) .done) .ret)))) .skip)) (.seq (sR (oj 67 0 3<|ol 68 67<|ob 69 .eql 68 z2<|om 70 69<|oT 71 70 (.fld 0 2)<|oT 72 70 (.ld none 71)<|oT 73 70 (.bin .eql 72 (kZ 5))<|gP 74 70 73 .done) (.cond 74 (sR (o1 76 (.ld (some 6) 3)<|oj 77 4 2<|ol 78 77<|oL 79 78<|oc 80 a1 [76,79]<|om 75 80<|oe 81 75 0<|oe 82 75 1<|om 8 81<|om 9 82 .done) (sR (oj 83 4 2<|ol 84 83<|om 85 8<|om 86 9<|o1 87 (.sl 6 84 (some 85) (some 86) none)<|o1 88 (.bld [(0,1),(1,2),(3,1),(4,1),(5,1)] [(vZ 0),(vZ 0),(vZ 0),(Al []),(.slice none 0 0),(.slice none 0 0)] [(0,(kZ 5)),(3,87)])<|o0 (.st 6 4 88)<|o1 5 (.mv z0) .done) .ret)) .skip)) (.seq (sR (oj 89 0 3<|ol 90 89<|ob 91 .eql 90 z2<|om 92 91<|oT 93 92 (.fld 0 2)<|oT 94 92 (.ld none 93)<|oT 95 92 (.bin .eql 94 (kZ 4))<|gP 96 92 95 .done) (.cond 96 (sR (oj 97 3 2<|ol 98 97<|oc 99 a2 [98]<|om 10 99 .done) (sR (o1 101 (.ld (some 6) 3)<|om 102 10<|oL 103 102<|oc 104 a1 [101,103]<|om 100 104<|oe 105 100 0<|oe 106 100 1<|om 11 105<|om 12 106 .done) (sR (oj 107 0 6<|o0 (.st 1 107 (kZ 4)) .done) (.seq (sR (om 108 11<|om 13 108 .done) (.block 0 (.loop (.seq (sR (om 109 13<|om 110 12<|ob 111 .lss 109 110 .done) (.cond 111 .skip (.exit 0))) (.seq (.block 1 (.reg true (p1 114 (.fld 3 6)<|pl 115 114<|pm 116 10<|pm 117 13<|p1 118 (.idx 1 116 117)<|pl 119 118<|p1 120 (.bin .add 115 119)<|p1 121 (.fld 3 6) (.bar (o0 (.st 1 121 120) .done))))) (rG (om 112 13<|ob 113 .add 112 z1<|om 13 113 .done))))))) (sR (o1 122 (.ld (some 6) 6)<|o0 (.st 6 4 122)<|o1 5 (.mv z0) .done) .ret))))) .skip)) (sR (o1 123 (.ld (some 6) 6)<|o0 (.st 6 4 123)<|o1 5 (.mv (kZ 80)) .done) .ret)))))))⟩
set_option maxHeartbeats 1000000 in
def Vr(hd:dec P f=some (KV f1 f2 f3))(h1:NB P f1)(h2:FB P f2)(h3:N6 P f3):GR P f:=by
 intro d cs ds v s hv hone hvt hs;have hr:=DL hone;have hu:=P3 hone;have hkl:=FT hone;refine A8.forget (Q:=fun r L'=>L'=[]∧∃cs',r=.tuple #[.agg cs'.toArray,vZ (AU v s).2]∧Aw d cs' (AU v s).1) ?_;refine Bd hd (No rfl) ?_;obtain⟨w,e,hF⟩:∃w e,AU v s=(w,e):=⟨_,_,rfl⟩
 rw[hF];have hs':=hs;obtain⟨hds,ik',it',is,id⟩:=hs';subst hds;obtain⟨is1,is2⟩:=is;have hv0:=hv;obtain⟨lv,kv,rfl,ik,im,ie,it,hl,hks⟩:=hv.open;obtain⟨la,lc,rfl⟩:=RSl.val hl;obtain⟨ka,kc,rfl⟩:=RSl.val hks;have hl':RSl 6 Aw d (.slice la v.list.length lc) v.list:=hl;have n1:=RSl.Be hl;have n2:=RSl.Be hks;show gwp P _ _ _ _ _;apply Ai;apply Ay;refine AO (l:=[vZ v.kind,vZ v.m,vZ v.e,Al v.text,.slice la v.list.length lc,.slice ka v.keys.length kc]) rfl (fun b2 T2=>?_);refine AO (l:=[vZ s.kind,Al s.text,vZ s.src,vZ s.dst,.bool s.hf,.bool s.ht]) rfl (fun b3 T3=>?_);(refine AX (fun _ _=>Ab rfl<|Aa ?_));rename_i b4 T4;apply Ai;apply Ay;(refine AX (fun _ _=>Aa ?_));rename_i b6 T6;by_cases k0:v.kind=0
 ·rw[AU,if_pos k0] at hF;cases hF;(refine Ai<|Ac<|Af rfl<|Ah rfl (Aj 3 rfl rfl)<|Aq rfl rfl<|Aa<|Au rfl (by omega)<|Ac<|AD 0 rfl rfl rfl ?_);refine Az 1 [vZ 0,vZ 0,vZ 0,Al [],.slice none 0 0,.slice none 0 0] rfl rfl rfl rfl (No rfl) rfl rfl ?_;(refine Ab rfl<|Aa<|Ar ?_);exact CY 1 rfl rfl rfl Aw.zero
 by_cases s0:s.kind=0
 ·by_cases v6:v.kind=6
  ·rw[AU,if_neg k0,if_pos ⟨s0,v6⟩] at hF;(refine Ai<|Ac<|Af rfl<|Ah rfl (Aj 3 rfl rfl)<|Aq rfl rfl<|Aa<|Ao rfl (by omega)<|Am<|Ai<|Ac<|Af rfl<|Ah rfl (Aj 2 rfl rfl)<|Aq rfl rfl<|Ad rfl<|AE rfl (by omega)<|Ae rfl<|Af rfl<|Ae rfl<|Ah rfl (Aj 3 rfl rfl)<|Ae rfl<|Aq rfl rfl<|Ap rfl rfl<|Ad rfl<|AE rfl (by omega)<|Ak rfl<|Ak rfl<|Ak rfl<|Ak rfl<|AY rfl<|AY rfl<|AY rfl<|Ak rfl<|Ap rfl rfl<|Aa<|Bb rfl<|Ac<|Af rfl<|Ah rfl (Aj 2 rfl rfl)<|Ab rfl<|Aa<|Ai<|Ac<|Af rfl<|Ah rfl (Aj 2 rfl rfl)<|Aq rfl rfl<|Aa<|Au rfl (by omega)<|Ay<|AD 3 rfl rfl rfl<|Af rfl<|Ah rfl (Aj 2 rfl rfl) ?_);refine AF rfl (h1 hv0 hr) ?_;by_cases hm:s.text∈v.keys
   ·rw[if_pos hm] at hF⊢;cases hF;obtain⟨hlo,_⟩:=(mem_iff hr).1 hm;have hlo2:AZ v.keys s.text<v.list.length:=by have:=hkl v6;omega
    (refine Ab rfl<|Aa<|Ai<|Ac<|Ab rfl<|B5 rfl rfl<|Ad rfl<|AE rfl (by omega)<|Ae rfl<|Ab rfl<|Ae rfl<|Af rfl<|Ae rfl<|Ah rfl (Aj 3 rfl rfl)<|Ae rfl<|AA rfl<|Ae rfl<|Ax rfl rfl<|Ap rfl rfl<|Aa<|Au rfl (by omega)<|Ay<|Af rfl<|Ah rfl (Aj 3 rfl rfl)<|Ab rfl<|AJ (sz:=6) (R:=Aw) (by rfl) (by assumption) (by rfl) rfl (by omega) ?_;rintro _ _ _ _ _ _;apply BE;rfl;assumption;assumption);rename_i cs hcs hD hR;obtain⟨c0,c1,c2,c3,c4,c5,rfl⟩:=six hcs;refine Az 0 [c0,c1,c2,c3,c4,c5] rfl rfl rfl rfl (No rfl) (AH _ _ _ hR) rfl ?_;(refine Aa<|Ac<|AD 0 rfl rfl rfl ?_);refine Az 1 [c0,c1,c2,c3,c4,c5] rfl rfl rfl rfl (No rfl) (AH _ _ _ hR) rfl ?_;(refine Ab rfl<|Aa<|Ar ?_);exact CY 1 rfl rfl rfl (by rw[show v.list.getD (AZ v.keys s.text) V.zero=v.list[AZ v.keys s.text] by simp[hlo2]];exact hR)
   ·rw[if_neg hm] at hF⊢;cases hF;(refine Ab rfl<|Aa<|Ai<|Ac<|Ab rfl<|B5 rfl rfl<|Ad rfl<|AB rfl (by omega)<|Ak rfl<|Ak rfl<|Ak rfl<|Ak rfl<|Ak rfl<|An rfl rfl<|Aa<|AK rfl<|Am<|Ac<|AD 0 rfl rfl rfl ?_);refine Az 1 [vZ 0,vZ 0,vZ 0,Al [],.slice none 0 0,.slice none 0 0] rfl rfl rfl rfl (No rfl) rfl rfl ?_;(refine Ab rfl<|Aa<|Ar ?_);exact CY 1 rfl rfl rfl Aw.zero
  ·rw[AU,if_neg k0,if_neg (fun h=>v6 h.2),if_neg (fun h=>by omega),if_neg (fun h=>by omega),if_neg (fun h=>by omega)] at hF;cases hF;(refine Ai<|Ac<|Af rfl<|Ah rfl (Aj 3 rfl rfl)<|Aq rfl rfl<|Aa<|Ao rfl (by omega)<|Am<|Ai<|Ac<|Af rfl<|Ah rfl (Aj 2 rfl rfl)<|Aq rfl rfl<|Ad rfl<|AE rfl (by omega)<|Ae rfl<|Af rfl<|Ae rfl<|Ah rfl (Aj 3 rfl rfl)<|Ae rfl<|Aq rfl rfl<|Ap rfl rfl<|Ad rfl<|AB rfl (by omega)<|Ae rfl<|Af rfl<|Ae rfl<|Ah rfl (Aj 2 rfl rfl)<|Ae rfl<|Aq rfl rfl<|Ae rfl<|Ad rfl<|AB rfl (by omega)<|Ak rfl<|Ak rfl<|Ak rfl<|Ae rfl<|An rfl rfl<|An rfl rfl<|Aa<|AK rfl<|Am<|Ai<|Ac<|Af rfl<|Ah rfl (Aj 2 rfl rfl)<|Aq rfl rfl<|Ad rfl<|AB rfl (by omega)<|Ak rfl<|Ak rfl<|Ak rfl<|An rfl rfl<|Aa<|AK rfl<|Am<|Ai<|Ac<|Af rfl<|Ah rfl (Aj 2 rfl rfl)<|Aq rfl rfl<|Ad rfl<|AB rfl (by omega)<|Ak rfl<|Ak rfl<|Ak rfl<|An rfl rfl<|Aa<|AK rfl<|Am<|Ac<|AD 0 rfl rfl rfl ?_);refine Az 1 [vZ 0,vZ 0,vZ 0,Al [],.slice none 0 0,.slice none 0 0] rfl rfl rfl rfl (No rfl) rfl rfl ?_;(refine Ab rfl<|Aa<|Ar ?_);exact CY 1 rfl rfl rfl Aw.zero
 by_cases s1:s.kind=1
 ·by_cases v5:v.kind=5
  ·rw[AU,if_neg k0,if_neg (fun h=>s0 h.1),if_pos ⟨s1,v5⟩,JV] at hF;by_cases hneg:s.src<0
   ·have hpl:Bm s.src v.list.length=s.src+v.list.length:=by rw[Bm,if_pos hneg]
    rw[hpl] at hF;by_cases p0:0≤s.src+(v.list.length:Int)
    ·by_cases p1:s.src+(v.list.length:Int)<v.list.length
     ·rw[if_pos ⟨p0,p1⟩] at hF;cases hF;have hlo2:(s.src+(v.list.length:Int)).toNat<v.list.length:=by omega
      (refine Ai<|Ac<|Af rfl<|Ah rfl (Aj 3 rfl rfl)<|Aq rfl rfl<|Aa<|Ao rfl (by omega)<|Am<|Ai<|Ac<|Af rfl<|Ah rfl (Aj 2 rfl rfl)<|Aq rfl rfl<|Ad rfl<|AB rfl (by omega)<|Ak rfl<|Ak rfl<|Ak rfl<|An rfl rfl<|Ad rfl<|Ae rfl<|Af rfl<|Ae rfl<|Ah rfl (Aj 2 rfl rfl)<|Ae rfl<|Aq rfl rfl<|Ae rfl<|Ad rfl<|AE rfl (by omega)<|Ae rfl<|Af rfl<|Ae rfl<|Ah rfl (Aj 3 rfl rfl)<|Ae rfl<|Aq rfl rfl<|Ae rfl<|Ap rfl rfl<|An rfl rfl<|Aa<|Au rfl (by omega)<|Ac<|Af rfl<|Ah rfl (Aj 2 rfl rfl)<|Ab rfl<|Aa<|Ai<|Ac<|Af rfl<|Ah rfl (Aj 2 rfl rfl)<|Aq rfl rfl<|Aa<|Ao rfl (by omega)<|Ac<|Ab rfl<|Ax rfl rfl<|Aa<|Au rfl (by omega)<|Ay<|Ab rfl<|Af rfl<|Ah rfl (Aj 3 rfl rfl)<|AA rfl<|AI rfl rfl (by omega) (by omega)<|Ab rfl<|Aa<|Ai<|Ac<|Ab rfl<|B5 rfl rfl<|Ad rfl<|AE rfl (by omega)<|Ae rfl<|Ab rfl<|Ae rfl<|Af rfl<|Ae rfl<|Ah rfl (Aj 3 rfl rfl)<|Ae rfl<|AA rfl<|Ae rfl<|Ax rfl rfl<|Ap rfl rfl<|Aa<|Au rfl (by omega)<|Ay<|Af rfl<|Ah rfl (Aj 3 rfl rfl)<|Ab rfl ?_);refine AJ (sz:=6) (R:=Aw) (m:=(s.src+(v.list.length:Int)).toNat) (by rfl) hl' (by rfl) (by omega) hlo2 ?_;rintro _ _ cs hcs hD hR;(apply BE;rfl;assumption;assumption);obtain⟨c0,c1,c2,c3,c4,c5,rfl⟩:=six hcs;refine Az 0 [c0,c1,c2,c3,c4,c5] rfl rfl rfl rfl (No rfl) (AH _ _ _ hR) rfl ?_;(refine Aa<|Ac<|AD 0 rfl rfl rfl ?_);refine Az 1 [c0,c1,c2,c3,c4,c5] rfl rfl rfl rfl (No rfl) (AH _ _ _ hR) rfl ?_;(refine Ab rfl<|Aa<|Ar ?_);exact CY 1 rfl rfl rfl (by rw[show v.list.getD (s.src+(v.list.length:Int)).toNat V.zero=v.list[(s.src+(v.list.length:Int)).toNat] by simp[hlo2]];exact hR)
     ·omega
    ·rw[if_neg (fun h=>p0 h.1)] at hF;cases hF;(refine Ai<|Ac<|Af rfl<|Ah rfl (Aj 3 rfl rfl)<|Aq rfl rfl<|Aa<|Ao rfl (by omega)<|Am<|Ai<|Ac<|Af rfl<|Ah rfl (Aj 2 rfl rfl)<|Aq rfl rfl<|Ad rfl<|AB rfl (by omega)<|Ak rfl<|Ak rfl<|Ak rfl<|An rfl rfl<|Ad rfl<|Ae rfl<|Af rfl<|Ae rfl<|Ah rfl (Aj 2 rfl rfl)<|Ae rfl<|Aq rfl rfl<|Ae rfl<|Ad rfl<|AE rfl (by omega)<|Ae rfl<|Af rfl<|Ae rfl<|Ah rfl (Aj 3 rfl rfl)<|Ae rfl<|Aq rfl rfl<|Ae rfl<|Ap rfl rfl<|An rfl rfl<|Aa<|Au rfl (by omega)<|Ac<|Af rfl<|Ah rfl (Aj 2 rfl rfl)<|Ab rfl<|Aa<|Ai<|Ac<|Af rfl<|Ah rfl (Aj 2 rfl rfl)<|Aq rfl rfl<|Aa<|Ao rfl (by omega)<|Ac<|Ab rfl<|Ax rfl rfl<|Aa<|Au rfl (by omega)<|Ay<|Ab rfl<|Af rfl<|Ah rfl (Aj 3 rfl rfl)<|AA rfl<|AI rfl rfl (by omega) (by omega)<|Ab rfl<|Aa<|Ai<|Ac<|Ab rfl<|B5 rfl rfl<|Ad rfl<|AB rfl (by omega)<|Ak rfl<|Ak rfl<|Ak rfl<|Ak rfl<|Ak rfl<|An rfl rfl<|Aa<|AK rfl<|Am<|Ac<|AD 0 rfl rfl rfl ?_);refine Az 1 [vZ 0,vZ 0,vZ 0,Al [],.slice none 0 0,.slice none 0 0] rfl rfl rfl rfl (No rfl) rfl rfl ?_;(refine Ab rfl<|Aa<|Ar ?_);exact CY 1 rfl rfl rfl Aw.zero
   ·have hpl:Bm s.src v.list.length=s.src:=by rw[Bm,if_neg hneg]
    rw[hpl] at hF;by_cases p1:s.src<v.list.length
    ·rw[if_pos ⟨by omega,p1⟩] at hF;cases hF;have hlo2:s.src.toNat<v.list.length:=by omega
     (refine Ai<|Ac<|Af rfl<|Ah rfl (Aj 3 rfl rfl)<|Aq rfl rfl<|Aa<|Ao rfl (by omega)<|Am<|Ai<|Ac<|Af rfl<|Ah rfl (Aj 2 rfl rfl)<|Aq rfl rfl<|Ad rfl<|AB rfl (by omega)<|Ak rfl<|Ak rfl<|Ak rfl<|An rfl rfl<|Ad rfl<|Ae rfl<|Af rfl<|Ae rfl<|Ah rfl (Aj 2 rfl rfl)<|Ae rfl<|Aq rfl rfl<|Ae rfl<|Ad rfl<|AE rfl (by omega)<|Ae rfl<|Af rfl<|Ae rfl<|Ah rfl (Aj 3 rfl rfl)<|Ae rfl<|Aq rfl rfl<|Ae rfl<|Ap rfl rfl<|An rfl rfl<|Aa<|Au rfl (by omega)<|Ac<|Af rfl<|Ah rfl (Aj 2 rfl rfl)<|Ab rfl<|Aa<|Ai<|Ac<|Af rfl<|Ah rfl (Aj 2 rfl rfl)<|Aq rfl rfl<|Aa<|Ao rfl (by omega)<|Ac<|Ab rfl<|Ax rfl rfl<|Aa<|Ao rfl (by omega)<|Am<|Ai<|Ac<|Ab rfl<|B5 rfl rfl<|Ad rfl<|AE rfl (by omega)<|Ae rfl<|Ab rfl<|Ae rfl<|Af rfl<|Ae rfl<|Ah rfl (Aj 3 rfl rfl)<|Ae rfl<|AA rfl<|Ae rfl<|Ax rfl rfl<|Ap rfl rfl<|Aa<|Au rfl (by omega)<|Ay<|Af rfl<|Ah rfl (Aj 3 rfl rfl)<|Ab rfl ?_);refine AJ (sz:=6) (R:=Aw) (m:=s.src.toNat) (by rfl) hl' (by rfl) (by omega) hlo2 ?_;rintro _ _ cs hcs hD hR;(apply BE;rfl;assumption;assumption);obtain⟨c0,c1,c2,c3,c4,c5,rfl⟩:=six hcs;refine Az 0 [c0,c1,c2,c3,c4,c5] rfl rfl rfl rfl (No rfl) (AH _ _ _ hR) rfl ?_;(refine Aa<|Ac<|AD 0 rfl rfl rfl ?_);refine Az 1 [c0,c1,c2,c3,c4,c5] rfl rfl rfl rfl (No rfl) (AH _ _ _ hR) rfl ?_;(refine Ab rfl<|Aa<|Ar ?_);exact CY 1 rfl rfl rfl (by rw[show v.list.getD s.src.toNat V.zero=v.list[s.src.toNat] by simp[hlo2]];exact hR)
    ·rw[if_neg (fun h=>p1 h.2)] at hF;cases hF;(refine Ai<|Ac<|Af rfl<|Ah rfl (Aj 3 rfl rfl)<|Aq rfl rfl<|Aa<|Ao rfl (by omega)<|Am<|Ai<|Ac<|Af rfl<|Ah rfl (Aj 2 rfl rfl)<|Aq rfl rfl<|Ad rfl<|AB rfl (by omega)<|Ak rfl<|Ak rfl<|Ak rfl<|An rfl rfl<|Ad rfl<|Ae rfl<|Af rfl<|Ae rfl<|Ah rfl (Aj 2 rfl rfl)<|Ae rfl<|Aq rfl rfl<|Ae rfl<|Ad rfl<|AE rfl (by omega)<|Ae rfl<|Af rfl<|Ae rfl<|Ah rfl (Aj 3 rfl rfl)<|Ae rfl<|Aq rfl rfl<|Ae rfl<|Ap rfl rfl<|An rfl rfl<|Aa<|Au rfl (by omega)<|Ac<|Af rfl<|Ah rfl (Aj 2 rfl rfl)<|Ab rfl<|Aa<|Ai<|Ac<|Af rfl<|Ah rfl (Aj 2 rfl rfl)<|Aq rfl rfl<|Aa<|Ao rfl (by omega)<|Ac<|Ab rfl<|Ax rfl rfl<|Aa<|Ao rfl (by omega)<|Am<|Ai<|Ac<|Ab rfl<|B5 rfl rfl<|Ad rfl<|AE rfl (by omega)<|Ae rfl<|Ab rfl<|Ae rfl<|Af rfl<|Ae rfl<|Ah rfl (Aj 3 rfl rfl)<|Ae rfl<|AA rfl<|Ae rfl<|Ax rfl rfl<|Ap rfl rfl<|Aa<|Ao rfl (by omega)<|Am<|Ac<|AD 0 rfl rfl rfl ?_);refine Az 1 [vZ 0,vZ 0,vZ 0,Al [],.slice none 0 0,.slice none 0 0] rfl rfl rfl rfl (No rfl) rfl rfl ?_;(refine Ab rfl<|Aa<|Ar ?_);exact CY 1 rfl rfl rfl Aw.zero
  ·rw[AU,if_neg k0,if_neg (fun h=>s0 h.1),if_neg (fun h=>v5 h.2),if_neg (fun h=>by omega),if_neg (fun h=>by omega)] at hF;cases hF;(refine Ai<|Ac<|Af rfl<|Ah rfl (Aj 3 rfl rfl)<|Aq rfl rfl<|Aa<|Ao rfl (by omega)<|Am<|Ai<|Ac<|Af rfl<|Ah rfl (Aj 2 rfl rfl)<|Aq rfl rfl<|Ad rfl<|AB rfl (by omega)<|Ak rfl<|Ak rfl<|Ak rfl<|An rfl rfl<|Ad rfl<|Ae rfl<|Af rfl<|Ae rfl<|Ah rfl (Aj 2 rfl rfl)<|Ae rfl<|Aq rfl rfl<|Ae rfl<|Ad rfl<|AE rfl (by omega)<|Ae rfl<|Af rfl<|Ae rfl<|Ah rfl (Aj 3 rfl rfl)<|Ae rfl<|Aq rfl rfl<|Ae rfl<|Ap rfl rfl<|An rfl rfl<|Aa<|Ao rfl (by omega)<|Am<|Ai<|Ac<|Af rfl<|Ah rfl (Aj 2 rfl rfl)<|Aq rfl rfl<|Ad rfl<|AB rfl (by omega)<|Ak rfl<|Ak rfl<|Ak rfl<|An rfl rfl<|Aa<|AK rfl<|Am<|Ai<|Ac<|Af rfl<|Ah rfl (Aj 2 rfl rfl)<|Aq rfl rfl<|Ad rfl<|AB rfl (by omega)<|Ak rfl<|Ak rfl<|Ak rfl<|An rfl rfl<|Aa<|AK rfl<|Am<|Ac<|AD 0 rfl rfl rfl ?_);refine Az 1 [vZ 0,vZ 0,vZ 0,Al [],.slice none 0 0,.slice none 0 0] rfl rfl rfl rfl (No rfl) rfl rfl ?_;(refine Ab rfl<|Aa<|Ar ?_);exact CY 1 rfl rfl rfl Aw.zero
 by_cases s2:s.kind=2
 ·by_cases v5:v.kind=5
  ·rw[AU,if_neg k0,if_neg (fun h=>s0 h.1),if_neg (fun h=>s1 h.1),if_pos ⟨s2,v5⟩] at hF;cases hF;have hends:=C8 s (k:=v.list.length) (by omega);(refine Ai<|Ac<|Af rfl<|Ah rfl (Aj 3 rfl rfl)<|Aq rfl rfl<|Aa<|Ao rfl (by omega)<|Am<|Ai<|Ac<|Af rfl<|Ah rfl (Aj 2 rfl rfl)<|Aq rfl rfl<|Ad rfl<|AB rfl (by omega)<|Ak rfl<|Ak rfl<|Ak rfl<|An rfl rfl<|Ad rfl<|Ae rfl<|Af rfl<|Ae rfl<|Ah rfl (Aj 2 rfl rfl)<|Ae rfl<|Aq rfl rfl<|Ae rfl<|Ad rfl<|AB rfl (by omega)<|Ak rfl<|Ak rfl<|Ak rfl<|Ae rfl<|An rfl rfl<|An rfl rfl<|Aa<|AK rfl<|Am<|Ai<|Ac<|Af rfl<|Ah rfl (Aj 2 rfl rfl)<|Aq rfl rfl<|Ad rfl<|AE rfl (by omega)<|Ae rfl<|Af rfl<|Ae rfl<|Ah rfl (Aj 3 rfl rfl)<|Ae rfl<|Aq rfl rfl<|Ap rfl rfl<|Aa<|Au rfl (by omega)<|Ac<|AD 2 rfl rfl rfl<|Af rfl<|Ah rfl (Aj 3 rfl rfl)<|AA rfl ?_);refine AF rfl (h2 hs (by omega) (by omega)) ?_;(refine Bj rfl<|AL rfl rfl<|AL rfl rfl<|Ab rfl<|Ab rfl<|Aa<|Ac<|Af rfl<|Ah rfl (Aj 3 rfl rfl)<|Ab rfl<|Ab rfl ?_);refine Oh (n:=(A5 s v.list.length).1.toNat) (m:=(A5 s v.list.length).2.toNat) rfl hl' rfl rfl (by omega) (by omega) (by omega) (by omega) (fun v' hv'=>?_);obtain⟨sa,sc,rfl⟩:=RSl.val hv';(apply DR;rfl;rfl);refine Az 1 [vZ 5,vZ 0,vZ 0,Al [],.slice sa _ sc,.slice none 0 0] rfl rfl rfl rfl (No rfl) rfl rfl ?_;(refine Ab rfl<|Aa<|Ar ?_);exact CY 1 rfl rfl rfl (Aw.close (v:=.mk 5 0 0 [] (Ez v.list (A5 s v.list.length)) []) EB Ba Ba (by simp) hv' RSl.nil)
  by_cases v4:v.kind=4
  ·rw[AU,if_neg k0,if_neg (fun h=>s0 h.1),if_neg (fun h=>s1 h.1),if_neg (fun h=>v5 h.2),if_pos ⟨s2,v4⟩] at hF;cases hF;have hcl:=Oq v.text;have hends:=C8 s (k:=(chs v.text).length) (by omega);(refine Ai<|Ac<|Af rfl<|Ah rfl (Aj 3 rfl rfl)<|Aq rfl rfl<|Aa<|Ao rfl (by omega)<|Am<|Ai<|Ac<|Af rfl<|Ah rfl (Aj 2 rfl rfl)<|Aq rfl rfl<|Ad rfl<|AB rfl (by omega)<|Ak rfl<|Ak rfl<|Ak rfl<|An rfl rfl<|Ad rfl<|Ae rfl<|Af rfl<|Ae rfl<|Ah rfl (Aj 2 rfl rfl)<|Ae rfl<|Aq rfl rfl<|Ae rfl<|Ad rfl<|AB rfl (by omega)<|Ak rfl<|Ak rfl<|Ak rfl<|Ae rfl<|An rfl rfl<|An rfl rfl<|Aa<|AK rfl<|Am<|Ai<|Ac<|Af rfl<|Ah rfl (Aj 2 rfl rfl)<|Aq rfl rfl<|Ad rfl<|AE rfl (by omega)<|Ae rfl<|Af rfl<|Ae rfl<|Ah rfl (Aj 3 rfl rfl)<|Ae rfl<|Aq rfl rfl<|Ap rfl rfl<|Aa<|Ao rfl (by omega)<|Am<|Ai<|Ac<|Af rfl<|Ah rfl (Aj 2 rfl rfl)<|Aq rfl rfl<|Ad rfl<|AE rfl (by omega)<|Ae rfl<|Af rfl<|Ae rfl<|Ah rfl (Aj 3 rfl rfl)<|Ae rfl<|Aq rfl rfl<|Ap rfl rfl<|Aa<|Au rfl (by omega)<|Ac<|Af rfl<|Ah rfl (Aj 3 rfl rfl) ?_);refine AR rfl (h3 hu hvt) (fun r d5 L5 hl5 ⟨hL,hrr⟩=>?_);subst hL;obtain⟨ra,rc,rfl⟩:=RSl.val hrr;have hrr':RSl 1 A2 d5 (.slice ra (chs v.text).length rc) (chs v.text):=hrr;(refine As rfl<|Aa<|Ac<|AD 2 rfl rfl rfl<|As rfl<|AA rfl ?_);refine AF rfl (h2 (d:=d5) hs (by omega) (by omega)) ?_;obtain⟨A,B,hab⟩:∃A B:Int,A5 s (chs v.text).length=(A,B):=⟨_,_,rfl⟩
   rw[hab] at hends⊢;simp only at hends⊢;obtain⟨a,rfl⟩:∃a:Nat,A=(a:Int):=⟨A.toNat,by omega⟩
   obtain⟨b,rfl⟩:∃b:Nat,B=(b:Int):=⟨B.toNat,by omega⟩
   have hmid:Ez (chs v.text) ((a:Int),(b:Int))=((chs v.text).drop a).take (b - a):=by simp[Ez]
   rw[hmid];(refine Bj rfl<|AL rfl rfl<|AL rfl rfl<|Ab rfl<|Ab rfl<|Aa<|Ac<|Af rfl ?_);refine Az 0 [vZ 4,vZ 0,vZ 0,Al [],.slice none 0 0,.slice none 0 0] rfl rfl rfl rfl (No rfl) rfl rfl ?_;(refine Aa<|Ai<|Ac<|Ab rfl<|Ab rfl<|Aa<|Av ?_);have hzz:∀i:Nat,(((chs v.text).drop a).take i).flatten.length≤v.text.length:=fun i=>JF a i;refine CD (α:=Nat) (fun i=>[(4,pZ b4),(6,pZ b6),(10,.slice ra (chs v.text).length rc),(12,vZ b),(13,vZ i)])
    (fun i=>[bx b6 T6 [vZ 4,vZ 0,vZ 0,Al (((chs v.text).drop a).take (i - a)).flatten,.slice none 0 0,.slice none 0 0],bx b4 T4 [vZ 0,vZ 0,vZ 0,Al [],.slice none 0 0,.slice none 0 0],bx b3 T3 [vZ s.kind,Al s.text,vZ s.src,vZ s.dst,.bool s.hf,.bool s.ht],bx b2 T2 [vZ v.kind,vZ v.m,vZ v.e,Al v.text,.slice la v.list.length lc,.slice ka v.keys.length kc]])
    (fun i=>a≤i∧i≤b) (fun i=>b - i) a ⟨rfl,rfl,rfl,rfl,rfl,trivial⟩ (by rw[Nat.sub_self];rfl) ⟨ZL _,by omega⟩ ?_
   rintro i ρ ⟨hi1,hi2⟩;by_cases hc:i<b
   ·have hcl2:(chs v.text)[i].length≤140737488355328:=by
     obtain⟨_,_,_,_,_,_,_,_,_,_,_,h8⟩:=hrr';obtain⟨cs,_,_,_,h9⟩:=h8 i (by omega);exact h9
    have hz2:=hzz (i - a);(refine Ai<|Ac<|Ab rfl<|Ab rfl<|Ax rfl rfl<|Aa<|Au rfl (by omega)<|Am<|Ai<|Av<|AT<|Af rfl<|Ah rfl (Aj 0 rfl rfl)<|As rfl<|Ab rfl<|AJ (sz:=1) (R:=A2) (by rfl) (by assumption) (by rfl) rfl (by omega) ?_;rintro _ _ _ _ _ ⟨rfl,_⟩;apply Ah;rfl;exact A1 (by assumption) rfl);refine YI rfl rfl (by omega) ?_;(refine Af rfl<|Bt ?_);have hstep:(((chs v.text).drop a).take (i+1 - a)).flatten=(((chs v.text).drop a).take (i - a)).flatten++(chs v.text)[i]:=by
     rw[show i+1 - a=i - a+1 by omega,ZA (show i - a<((chs v.text).drop a).length by simp;omega)];simp[show a+(i - a)=i by omega]
    refine Az 0 [vZ 4,vZ 0,vZ 0,Al ((((chs v.text).drop a).take (i - a)).flatten++(chs v.text)[i]),.slice none 0 0,.slice none 0 0] rfl rfl rfl rfl (No rfl) rfl rfl ?_;rw[←hstep];(refine Aa<|Ay<|Ab rfl<|AI rfl rfl (by omega) (by omega)<|Ab rfl<|Aa ?_);exact⟨i+1,by omega,⟨rfl,rfl,rfl,rfl,int_eq (by omega),trivial⟩,rfl,rfl,by omega,by omega⟩
   ·obtain rfl:i=b:=by omega
    (refine Ai<|Ac<|Ab rfl<|Ab rfl<|Ax rfl rfl<|Aa<|Ao rfl (by omega)<|AV<|Ac<|AD 0 rfl rfl rfl ?_);refine Az 1 [vZ 4,vZ 0,vZ 0,Al (((chs v.text).drop a).take (i - a)).flatten,.slice none 0 0,.slice none 0 0] rfl rfl rfl rfl (No rfl) rfl rfl ?_;(refine Ab rfl<|Aa<|Ar ?_);exact CY 1 rfl rfl rfl (Aw.close (v:=.mk 4 0 0 (((chs v.text).drop a).take (i - a)).flatten [] []) Tw Ba Ba (Aaf (hzz _) it) RSl.nil RSl.nil)
  rw[AU,if_neg k0,if_neg (fun h=>s0 h.1),if_neg (fun h=>s1 h.1),if_neg (fun h=>v5 h.2),if_neg (fun h=>v4 h.2)] at hF;cases hF;(refine Ai<|Ac<|Af rfl<|Ah rfl (Aj 3 rfl rfl)<|Aq rfl rfl<|Aa<|Ao rfl (by omega)<|Am<|Ai<|Ac<|Af rfl<|Ah rfl (Aj 2 rfl rfl)<|Aq rfl rfl<|Ad rfl<|AB rfl (by omega)<|Ak rfl<|Ak rfl<|Ak rfl<|An rfl rfl<|Ad rfl<|Ae rfl<|Af rfl<|Ae rfl<|Ah rfl (Aj 2 rfl rfl)<|Ae rfl<|Aq rfl rfl<|Ae rfl<|Ad rfl<|AB rfl (by omega)<|Ak rfl<|Ak rfl<|Ak rfl<|Ae rfl<|An rfl rfl<|An rfl rfl<|Aa<|AK rfl<|Am<|Ai<|Ac<|Af rfl<|Ah rfl (Aj 2 rfl rfl)<|Aq rfl rfl<|Ad rfl<|AE rfl (by omega)<|Ae rfl<|Af rfl<|Ae rfl<|Ah rfl (Aj 3 rfl rfl)<|Ae rfl<|Aq rfl rfl<|Ap rfl rfl<|Aa<|Ao rfl (by omega)<|Am<|Ai<|Ac<|Af rfl<|Ah rfl (Aj 2 rfl rfl)<|Aq rfl rfl<|Ad rfl<|AE rfl (by omega)<|Ae rfl<|Af rfl<|Ae rfl<|Ah rfl (Aj 3 rfl rfl)<|Ae rfl<|Aq rfl rfl<|Ap rfl rfl<|Aa<|Ao rfl (by omega)<|Am<|Ac<|AD 0 rfl rfl rfl ?_);refine Az 1 [vZ 0,vZ 0,vZ 0,Al [],.slice none 0 0,.slice none 0 0] rfl rfl rfl rfl (No rfl) rfl rfl ?_;(refine Ab rfl<|Aa<|Ar ?_);exact CY 1 rfl rfl rfl Aw.zero
 rw[AU,if_neg k0,if_neg (fun h=>s0 h.1),if_neg (fun h=>s1 h.1),if_neg (fun h=>s2 h.1),if_neg (fun h=>s2 h.1)] at hF;cases hF;(refine Ai<|Ac<|Af rfl<|Ah rfl (Aj 3 rfl rfl)<|Aq rfl rfl<|Aa<|Ao rfl (by omega)<|Am<|Ai<|Ac<|Af rfl<|Ah rfl (Aj 2 rfl rfl)<|Aq rfl rfl<|Ad rfl<|AB rfl (by omega)<|Ak rfl<|Ak rfl<|Ak rfl<|An rfl rfl<|Ad rfl<|Ae rfl<|Af rfl<|Ae rfl<|Ah rfl (Aj 2 rfl rfl)<|Ae rfl<|Aq rfl rfl<|Ae rfl<|Ad rfl<|AB rfl (by omega)<|Ak rfl<|Ak rfl<|Ak rfl<|Ae rfl<|An rfl rfl<|An rfl rfl<|Aa<|AK rfl<|Am<|Ai<|Ac<|Af rfl<|Ah rfl (Aj 2 rfl rfl)<|Aq rfl rfl<|Ad rfl<|AB rfl (by omega)<|Ak rfl<|Ak rfl<|Ak rfl<|An rfl rfl<|Aa<|AK rfl<|Am<|Ai<|Ac<|Af rfl<|Ah rfl (Aj 2 rfl rfl)<|Aq rfl rfl<|Ad rfl<|AB rfl (by omega)<|Ak rfl<|Ak rfl<|Ak rfl<|An rfl rfl<|Aa<|AK rfl<|Am<|Ac<|AD 0 rfl rfl rfl ?_);refine Az 1 [vZ 0,vZ 0,vZ 0,Al [],.slice none 0 0,.slice none 0 0] rfl rfl rfl rfl (No rfl) rfl rfl ?_;(refine Ab rfl<|Aa<|Ar ?_);exact CY 1 rfl rfl rfl Aw.zero
section
def Ca(s:St):Bool:=decide (0≤s.kind∧s.kind≤2)&&(decide (s.kind≠0)||u8 s.text)
def all_false{l:List St}{i:Nat}(h:i<l.length)(hb:Ca l[i]=false):l.all Ca=false:=by
 rw[←Abk,ZF];intro ha;rw[ha _ (ZC h)] at hb;cases hb
def Jx(T:Ag→Prop)(P:Program)(f:FuncId):Prop:=∀{d w}{l:List St},T d→RSl 6 RSt d w l→AM P f [w] d (vZ (if l.all Ca=true then 0 else 2))
def Jn(a0:Nat):A6:=⟨41,[(.tmp 2)],(sR (o1 2 (.mv z0) .done) (.seq (sR (o1 3 (.mv z0) .done) (.block 0 (.loop (.seq (sR (om 4 3<|om 5 0<|oL 6 5<|ob 7 .lss 4 6 .done) (.cond 7 .skip (.exit 0))) (.seq (.block 1 (sR (om 10 0<|om 11 3<|oI 12 6 10 11<|oj 13 0 12<|ol 14 13<|ob 15 .lss 14 z0<|om 16 15<|gF 17 16 0<|gF 18 16 3<|oF 19 16 (.idx 6 17 18)<|oF 20 16 (.fld 0 19)<|oF 21 16 (.ld none 20)<|oF 22 16 (.bin .gtr 21 z2)<|o1 23 (.pick 16 (.const (.bool true)) 22)<|om 24 23<|gF 25 24 0<|gF 26 24 3<|oF 27 24 (.idx 6 25 26)<|oF 28 24 (.fld 0 27)<|oF 29 24 (.ld none 28)<|oF 30 24 (.bin .eql 29 z0)<|gF 31 24 30<|gT 32 31 0<|gT 33 31 3<|oT 34 31 (.idx 6 32 33)<|oT 35 31 (.fld 1 34)<|oT 36 31 (.ld none 35)<|oT 37 31 (.call a0 [36])<|oT 38 31 (.un .not 37)<|oF 39 24 (.pick 31 38 (.const (.bool false)))<|o1 40 (.pick 24 (.const (.bool true)) 39) .done) (.cond 40 (sR (o1 2 (.mv z2) .done) .ret) .skip))) (rG (om 8 3<|ob 9 .add 8 z1<|om 3 9 .done))))))) (sR (o1 2 (.mv z0) .done) .ret)))⟩
def TX{T:Ag→Prop}(hd:dec P f=some (Jn f1))(h1:DP T P f1):Jx T P f:=by
 intro d w l ht hw;have n1:=RSl.Be hw;obtain⟨a,c,rfl⟩:=RSl.val hw;have hw':=hw;refine AM.of' hd (No rfl) ?_;show gwp P _ _ _ _ _;(refine Ac<|Ab rfl<|Aa<|Ai<|Ac<|Ab rfl<|Aa<|Av ?_);refine CD (α:=Nat) (fun i=>[(0,.slice a l.length c),(3,vZ i)]) (fun _=>[]) (fun i=>i≤l.length∧(l.take i).all Ca=true) (fun i=>l.length - i) 0 ⟨rfl,rfl,trivial⟩ rfl ⟨ZN _,by simp⟩ ?_;rintro i ρ ⟨hi,hall⟩;by_cases hc:i<l.length
 ·have hnext:Ca l[i]=true→(l.take (i+1)).all Ca=true:=fun h=>by rw[ZA hc,Adg,hall];simp[h]
  have hfail:Ca l[i]=false→(2:Int)=if l.all Ca=true then 0 else 2:=fun h=>by rw[if_neg (by rw[all_false hc h];simp)]
  have hlen:l[i].text.length≤140737488355328:=by
   obtain⟨_,_,_,_,_,_,_,_,_,_,_,h8⟩:=hw';obtain⟨cs,_,_,_,_,h9,_⟩:=h8 i hc;exact h9
  by_cases q1:l[i].kind<0
  ·(refine Ai<|Ac<|Ab rfl<|As rfl<|AA rfl<|Ax rfl rfl<|Aa<|Au rfl (by omega)<|Am<|Ai<|Av<|Ac<|As rfl<|Ab rfl<|AJ (sz:=6) (R:=RSt) (by rfl) (by assumption) (by rfl) rfl (by omega) ?_;rintro _ _ _ _ _ ⟨rfl,_,_,_,_⟩;refine Af rfl<|Ah rfl (Ci (by assumption) rfl)<|Ax rfl rfl<|Ad rfl<|AE rfl (by omega)<|Ak rfl<|Ak rfl<|Ak rfl<|Ak rfl<|Ak rfl<|Ak rfl<|Ap rfl rfl<|Ad rfl<|Ak rfl<|Ak rfl<|Ak rfl<|Ak rfl<|Ak rfl<|Ak rfl<|Ak rfl<|AY rfl<|AY rfl<|AY rfl<|AY rfl<|AY rfl<|AY rfl<|AY rfl<|Ak rfl<|Ap rfl rfl<|Aa<|Bb rfl<|Ac<|Ab rfl<|Aa<|Ar ?_);apply CF;rfl;exact hfail (by simp only[Ca];rw[decide_eq_false (by omega)];rfl)
  by_cases q2:l[i].kind>2
  ·(refine Ai<|Ac<|Ab rfl<|As rfl<|AA rfl<|Ax rfl rfl<|Aa<|Au rfl (by omega)<|Am<|Ai<|Av<|Ac<|As rfl<|Ab rfl<|AJ (sz:=6) (R:=RSt) (by rfl) (by assumption) (by rfl) rfl (by omega) ?_;rintro _ _ _ _ _ ⟨rfl,_,_,_,_⟩;refine Af rfl<|Ah rfl (Ci (by assumption) rfl)<|Ax rfl rfl<|Ad rfl<|AB rfl (by omega)<|Ae rfl<|As rfl<|Ae rfl<|Ab rfl<|Ae rfl<|AJ (sz:=6) (R:=RSt) (by rfl) (by assumption) (by rfl) rfl (by omega) ?_;rintro _ _ _ _ _ ⟨rfl,_,_,_,_⟩;refine Ae rfl<|Af rfl<|Ae rfl<|Ah rfl (Ci (by assumption) rfl)<|Ae rfl<|AP rfl rfl<|An rfl rfl<|Ad rfl<|AE rfl (by omega)<|Ak rfl<|Ak rfl<|Ak rfl<|Ak rfl<|Ak rfl<|Ak rfl<|Ak rfl<|AY rfl<|AY rfl<|AY rfl<|AY rfl<|AY rfl<|AY rfl<|AY rfl<|Ak rfl<|Ap rfl rfl<|Aa<|Bb rfl<|Ac<|Ab rfl<|Aa<|Ar ?_);apply CF;rfl;exact hfail (by simp only[Ca];rw[decide_eq_false (by omega)];rfl)
  have hk:decide (0≤l[i].kind∧l[i].kind≤2)=true:=decide_eq_true (by omega);by_cases q3:l[i].kind=0
  ·(refine Ai<|Ac<|Ab rfl<|As rfl<|AA rfl<|Ax rfl rfl<|Aa<|Au rfl (by omega)<|Am<|Ai<|Av<|Ac<|As rfl<|Ab rfl<|AJ (sz:=6) (R:=RSt) (by rfl) (by assumption) (by rfl) rfl (by omega) ?_;rintro _ _ _ _ _ ⟨rfl,_,_,_,_⟩;refine Af rfl<|Ah rfl (Ci (by assumption) rfl)<|Ax rfl rfl<|Ad rfl<|AB rfl (by omega)<|Ae rfl<|As rfl<|Ae rfl<|Ab rfl<|Ae rfl<|AJ (sz:=6) (R:=RSt) (by rfl) (by assumption) (by rfl) rfl (by omega) ?_;rintro _ _ _ _ _ ⟨rfl,_,_,_,_⟩;refine Ae rfl<|Af rfl<|Ae rfl<|Ah rfl (Ci (by assumption) rfl)<|Ae rfl<|AP rfl rfl<|An rfl rfl<|Ad rfl<|AB rfl (by omega)<|Ae rfl<|As rfl<|Ae rfl<|Ab rfl<|Ae rfl<|AJ (sz:=6) (R:=RSt) (by rfl) (by assumption) (by rfl) rfl (by omega) ?_;rintro _ _ _ _ _ ⟨rfl,_,_,_,_⟩;refine Ae rfl<|Af rfl<|Ae rfl<|Ah rfl (Ci (by assumption) rfl)<|Ae rfl<|Aq rfl rfl<|Ae rfl<|Ad rfl<|AE rfl (by omega)<|Ae rfl<|As rfl<|Ae rfl<|Ab rfl<|Ae rfl<|AJ (sz:=6) (R:=RSt) (by rfl) (by assumption) (by rfl) rfl (by omega) ?_;rintro _ _ _ _ _ ⟨rfl,_,_,_,_⟩;refine Ae rfl<|Af rfl<|Ae rfl<|Ah rfl (Ci (by assumption) rfl)<|Ae rfl ?_);refine AF rfl (h1 ht hlen) ?_;cases hu:u8 l[i].text with
   |true=>
    (refine Ae rfl<|Bi rfl<|Ae rfl<|Ap rfl rfl<|An rfl rfl<|Aa<|AK rfl<|Am<|Ay<|Ab rfl<|AI rfl rfl (by omega) (by omega)<|Ab rfl<|Aa ?_)
    exact⟨i+1,by omega,⟨rfl,int_eq (by omega),trivial⟩,rfl,rfl,hc,hnext (by simp only[Ca,hk,hu];simp)⟩
   |false=>
    (refine Ae rfl<|Bi rfl<|Ae rfl<|Ap rfl rfl<|An rfl rfl<|Aa<|Bb rfl<|Ac<|Ab rfl<|Aa<|Ar ?_)
    apply CF;rfl
    exact hfail (by simp only[Ca,hk,hu];simp[q3])
  ·(refine Ai<|Ac<|Ab rfl<|As rfl<|AA rfl<|Ax rfl rfl<|Aa<|Au rfl (by omega)<|Am<|Ai<|Av<|Ac<|As rfl<|Ab rfl<|AJ (sz:=6) (R:=RSt) (by rfl) (by assumption) (by rfl) rfl (by omega) ?_;rintro _ _ _ _ _ ⟨rfl,_,_,_,_⟩;refine Af rfl<|Ah rfl (Ci (by assumption) rfl)<|Ax rfl rfl<|Ad rfl<|AB rfl (by omega)<|Ae rfl<|As rfl<|Ae rfl<|Ab rfl<|Ae rfl<|AJ (sz:=6) (R:=RSt) (by rfl) (by assumption) (by rfl) rfl (by omega) ?_;rintro _ _ _ _ _ ⟨rfl,_,_,_,_⟩;refine Ae rfl<|Af rfl<|Ae rfl<|Ah rfl (Ci (by assumption) rfl)<|Ae rfl<|AP rfl rfl<|An rfl rfl<|Ad rfl<|AB rfl (by omega)<|Ae rfl<|As rfl<|Ae rfl<|Ab rfl<|Ae rfl<|AJ (sz:=6) (R:=RSt) (by rfl) (by assumption) (by rfl) rfl (by omega) ?_;rintro _ _ _ _ _ ⟨rfl,_,_,_,_⟩;refine Ae rfl<|Af rfl<|Ae rfl<|Ah rfl (Ci (by assumption) rfl)<|Ae rfl<|Aq rfl rfl<|Ae rfl<|Ad rfl<|AB rfl (by omega)<|Ak rfl<|Ak rfl<|Ak rfl<|Ak rfl<|Ak rfl<|Ak rfl<|Ak rfl<|Ae rfl<|An rfl rfl<|An rfl rfl<|Aa<|AK rfl<|Am<|Ay<|Ab rfl<|AI rfl rfl (by omega) (by omega)<|Ab rfl<|Aa ?_);exact⟨i+1,by omega,⟨rfl,int_eq (by omega),trivial⟩,rfl,rfl,hc,hnext (by simp only[Ca,hk];simp[q3])⟩
 ·obtain rfl:i=l.length:=by omega
  rw[ZV] at hall;(refine Ai<|Ac<|Ab rfl<|As rfl<|AA rfl<|Ax rfl rfl<|Aa<|Ao rfl (by omega)<|AV<|Ac<|Ab rfl<|Aa<|Ar ?_);apply CF;rfl;rw[if_pos hall]
def Cw(v:V)(l:List St):Int:=if AS v≠0 then AS v else if l.all Ca=true then 0 else 2
def Lv(T:Ag→Prop)(P:Program)(f:FuncId):Prop:=∀{d cs w}{v:V}{l:List St},T d→Aw d cs v→RSl 6 RSt d w l→AM P f [.agg cs.toArray,w] d (vZ (Cw v l))
def Pv(a0 a1:Nat):A6:=⟨39,[(.tmp 4)],(sR (o1 2 (.box 0)<|o1 4 (.mv z0) .done) (.seq (sR (o1 8 (.ld (some 6) 2)<|oc 9 a0 [8]<|om 5 9 .done) (sR (om 10 5<|ob 11 .neq 10 z0 .done) (.cond 11 (sR (om 12 5<|om 4 12 .done) .ret) .skip))) (.seq (sR (om 13 1<|oL 14 13<|o1 15 (.mv z0) .done) (.block 0 (.loop (sR (ob 16 .lss 15 14 .done) (.seq (.cond 16 .skip (.exit 0)) (.seq (.block 1 (sR (oI 17 6 13 15<|o1 18 (.ld (some 6) 17)<|o1 7 (.alo (.agg #[(vZ 0),(Al []),(vZ 0),(vZ 0),(.bool false),(.bool false)]))<|o0 (.st 6 7 18) .done) (sR (oj 19 0 7<|ol 20 19<|ob 21 .lss 20 z0<|om 22 21<|oF 23 22 (.fld 0 7)<|oF 24 22 (.ld none 23)<|oF 25 22 (.bin .gtr 24 z2)<|o1 26 (.pick 22 (.const (.bool true)) 25)<|om 27 26<|oF 28 27 (.fld 0 7)<|oF 29 27 (.ld none 28)<|oF 30 27 (.bin .eql 29 z0)<|gF 31 27 30<|oT 32 31 (.fld 1 7)<|oT 33 31 (.ld none 32)<|oT 34 31 (.call a1 [33])<|oT 35 31 (.un .not 34)<|oF 36 27 (.pick 31 35 (.const (.bool false)))<|o1 37 (.pick 27 (.const (.bool true)) 36) .done) (.cond 37 (sR (o1 4 (.mv z2) .done) .ret) .skip)))) (rG (ob 38 .add 15 z1<|om 15 38 .done)))))))) (sR (o1 4 (.mv z0) .done) .ret))))⟩
def WB{T:Ag→Prop}(hd:dec P f=some (Pv f1 f2))(h1:Fq T P f1)(h2:DP T P f2):Lv T P f:=by
 intro d cs w v l ht hv hw;have n1:=RSl.Be hw;obtain⟨a,c,rfl⟩:=RSl.val hw;have hw':=hw;refine AM.of' hd (No rfl) ?_;have hv0:=hv;obtain⟨lv,kv,rfl,ik,im,ie,it,hl,hks⟩:=hv.open;show gwp P _ _ _ _ _;apply Ai;apply Ay;refine AO (l:=[vZ v.kind,vZ v.m,vZ v.e,Al v.text,lv,kv]) rfl (fun b2 T2=>?_);(refine Ab rfl<|Aa<|Ai<|Ac<|AD 0 rfl rfl rfl ?_);refine AF rfl (h1 ht hv0) ?_;by_cases h0:AS v≠0
 ·(refine Ab rfl<|Aa<|Ac<|Ab rfl<|AG rfl rfl<|Aa<|Au rfl (by omega)<|Ac<|Ab rfl<|Ab rfl<|Aa<|Ar ?_);apply CF;rfl;rw[Cw,if_pos h0]
 rw[Cw,if_neg h0];(refine Ab rfl<|Aa<|Ac<|Ab rfl<|AG rfl rfl<|Aa<|Ao rfl (by omega)<|Am<|Ai<|Ac<|As rfl<|AA rfl<|Ab rfl<|Aa<|Av ?_);refine Bg (α:=Nat) (fun i=>[(13,.slice a l.length c),(14,vZ l.length),(15,vZ i)]) (fun i d' L'=>d'=d∧i≤l.length∧(l.take i).all Ca=true) (fun i=>l.length - i) 0 ⟨rfl,rfl,rfl,trivial⟩ ⟨rfl,ZN _,by simp⟩ ?_;rintro i ρ d' L' ⟨hdd,hi,hall⟩;subst hdd;by_cases hc:i<l.length
 ·have hnext:Ca l[i]=true→(l.take (i+1)).all Ca=true:=fun h=>by rw[ZA hc,Adg,hall];simp[h]
  have hfail:Ca l[i]=false→(2:Int)=if l.all Ca=true then 0 else 2:=fun h=>by rw[if_neg (by rw[all_false hc h];simp)]
  (refine Ac<|Ax rfl rfl<|Aa<|Ai<|Au rfl (by omega)<|Am<|Ai<|Av<|Ac<|AJ (sz:=6) (R:=RSt) (by rfl) (by assumption) (by rfl) rfl (by omega) ?_;rintro _ _ _ _ _ ⟨rfl,_,_,_,_⟩;refine BE rfl (by assumption) rfl<|AX (fun _ _=>?_));rename_i hcs hD ik' hlen is id b7 T7;refine Az 0 [vZ l[i].kind,Al l[i].text,vZ l[i].src,vZ l[i].dst,.bool l[i].hf,.bool l[i].ht] rfl rfl rfl rfl (No rfl) rfl rfl ?_;by_cases q1:l[i].kind<0
  ·(refine Aa<|Ac<|Af rfl<|Ah rfl (Aj 0 rfl rfl)<|Ax rfl rfl<|Ad rfl<|AE rfl (by omega)<|Ak rfl<|Ak rfl<|Ak rfl<|Ap rfl rfl<|Ad rfl<|Ak rfl<|Ak rfl<|Ak rfl<|Ak rfl<|AY rfl<|AY rfl<|AY rfl<|AY rfl<|Ak rfl<|Ap rfl rfl<|Aa<|Bb rfl<|Ac<|Ab rfl<|Aa<|Ar ?_);apply CF;rfl;exact hfail (by simp only[Ca];rw[decide_eq_false (by omega)];rfl)
  by_cases q2:l[i].kind>2
  ·(refine Aa<|Ac<|Af rfl<|Ah rfl (Aj 0 rfl rfl)<|Ax rfl rfl<|Ad rfl<|AB rfl (by omega)<|Ae rfl<|Af rfl<|Ae rfl<|Ah rfl (Aj 0 rfl rfl)<|Ae rfl<|AP rfl rfl<|An rfl rfl<|Ad rfl<|AE rfl (by omega)<|Ak rfl<|Ak rfl<|Ak rfl<|Ak rfl<|AY rfl<|AY rfl<|AY rfl<|AY rfl<|Ak rfl<|Ap rfl rfl<|Aa<|Bb rfl<|Ac<|Ab rfl<|Aa<|Ar ?_);apply CF;rfl;exact hfail (by simp only[Ca];rw[decide_eq_false (by omega)];rfl)
  have hk:decide (0≤l[i].kind∧l[i].kind≤2)=true:=decide_eq_true (by omega);by_cases q3:l[i].kind=0
  ·(refine Aa<|Ac<|Af rfl<|Ah rfl (Aj 0 rfl rfl)<|Ax rfl rfl<|Ad rfl<|AB rfl (by omega)<|Ae rfl<|Af rfl<|Ae rfl<|Ah rfl (Aj 0 rfl rfl)<|Ae rfl<|AP rfl rfl<|An rfl rfl<|Ad rfl<|AB rfl (by omega)<|Ae rfl<|Af rfl<|Ae rfl<|Ah rfl (Aj 0 rfl rfl)<|Ae rfl<|Aq rfl rfl<|Ae rfl<|Ad rfl<|AE rfl (by omega)<|Ae rfl<|Af rfl<|Ae rfl<|Ah rfl (Aj 0 rfl rfl)<|Ae rfl ?_);refine AF rfl (h2 ht hlen) ?_;cases hu:u8 l[i].text with
   |true=>
    (refine Ae rfl<|Bi rfl<|Ae rfl<|Ap rfl rfl<|An rfl rfl<|Aa<|AK rfl<|Am<|Ay<|AI rfl rfl (by omega) (by omega)<|Ab rfl<|Aa ?_)
    exact⟨i+1,by omega,⟨rfl,rfl,int_eq (by omega),trivial⟩,rfl,hc,hnext (by simp only[Ca,hk,hu];simp)⟩
   |false=>
    (refine Ae rfl<|Bi rfl<|Ae rfl<|Ap rfl rfl<|An rfl rfl<|Aa<|Bb rfl<|Ac<|Ab rfl<|Aa<|Ar ?_)
    apply CF;rfl
    exact hfail (by simp only[Ca,hk,hu];simp[q3])
  ·(refine Aa<|Ac<|Af rfl<|Ah rfl (Aj 0 rfl rfl)<|Ax rfl rfl<|Ad rfl<|AB rfl (by omega)<|Ae rfl<|Af rfl<|Ae rfl<|Ah rfl (Aj 0 rfl rfl)<|Ae rfl<|AP rfl rfl<|An rfl rfl<|Ad rfl<|AB rfl (by omega)<|Ae rfl<|Af rfl<|Ae rfl<|Ah rfl (Aj 0 rfl rfl)<|Ae rfl<|Aq rfl rfl<|Ae rfl<|Ad rfl<|AB rfl (by omega)<|Ak rfl<|Ak rfl<|Ak rfl<|Ak rfl<|Ae rfl<|An rfl rfl<|An rfl rfl<|Aa<|AK rfl<|Am<|Ay<|AI rfl rfl (by omega) (by omega)<|Ab rfl<|Aa ?_);exact⟨i+1,by omega,⟨rfl,rfl,int_eq (by omega),trivial⟩,rfl,hc,hnext (by simp only[Ca,hk];simp[q3])⟩
 ·obtain rfl:i=l.length:=by omega
  rw[ZV] at hall;(refine Ac<|Ax rfl rfl<|Aa<|Ai<|Ao rfl (by omega)<|AV<|Ac<|Ab rfl<|Aa<|Ar ?_);apply CF;rfl;rw[if_pos hall]
def Gd(v:V):Prop:=BH v=true∧Bq v≤1000000000
def F0(v:V):1≤Bq v:=by have:=B0 v;omega
def I0:Gd V.zero:=⟨by decide,by decide⟩
def Ki:∀(l:List V) (n:Nat),BV (l.drop n)≤BV l
 |l,0=>by simp
 |[],n+1=>by simp
 |x::l,n+1=>by have:=Ki l n;simp only[List.drop_succ_cons,BV];omega
def KI:∀(l:List V) (n:Nat),BV (l.take n)≤BV l
 |l,0=>by simp[BV]
 |[],n+1=>by simp
 |x::l,n+1=>by have:=KI l n;simp only[List.take_succ_cons,BV];omega
def Ux{x:V}(h:Gd v)(hx:x∈v.list):Gd x:=by
 obtain⟨h1,h2⟩:=h;rw[Ed,Zz,ZF] at h1;have h3:=B0 v;have h4:=HW hx;exact⟨h1.2 x hx,by omega⟩
def R2(h:Gd v)(i:Nat):Gd (v.list.getD i V.zero):=by
 by_cases hi:i<v.list.length
 ·rw[show v.list.getD i V.zero=v.list[i] by simp[hi]];exact Ux h (ZC hi)
 ·rw[show v.list.getD i V.zero=V.zero by simp[hi]];exact I0
def EF(h:Gd v):BW v=true:=by have:=h.1;rw[Ed,Zz] at this;exact this.1
def FY(h:Gd v):v.text.length≤1000000000:=by have:=B0 v;have:=h.2;omega
def Gu(h:Gd v)(s:St):Gd (AU v s).1:=by
 have h3:=B0 v;unfold AU;split
 ·exact I0
 split
 ·simp only;split
  ·exact R2 h _
  ·exact I0
 split
 ·simp only[JV];split
  ·exact R2 h _
  ·exact I0
 split
 ·refine⟨?_,?_⟩
  ·rw[Ed,Zz,ZF];refine⟨by simp[BW,Cf,V.kind,V.m,V.e,V.text,V.list,V.keys,Br,u8,Lib.validD_nil,rising,D5],fun x hx=>?_⟩
   exact(Ux h (List.mem_of_mem_drop (List.mem_of_mem_take hx))).1
  ·rw[B0];have h5:=KI (v.list.drop (A5 s v.list.length).1.toNat) ((A5 s v.list.length).2.toNat - (A5 s v.list.length).1.toNat);have h6:=Ki v.list (A5 s v.list.length).1.toNat;have h7:=h.2;show 1+0+0+BV (Ez v.list (A5 s v.list.length))≤1000000000;simp only[Ez];omega
 split
 ·refine⟨?_,?_⟩
  ·rw[Ed,Zz,ZF];refine⟨?_,fun x hx=>by cases hx⟩
   have:=S8 (P3 (EF h)) (A5 s (chs v.text).length).1.toNat ((A5 s (chs v.text).length).2.toNat - (A5 s (chs v.text).length).1.toNat);simp[BW,Cf,V.kind,V.m,V.e,V.text,V.list,V.keys,Br,u8,Ez,this,rising,D5]
  ·rw[B0];have h5:=JF (l:=v.text) (A5 s (chs v.text).length).1.toNat ((A5 s (chs v.text).length).2.toNat - (A5 s (chs v.text).length).1.toNat);have h7:=h.2;show 1+(Ez (chs v.text) (A5 s (chs v.text).length)).flatten.length+0+0≤1000000000;simp only[Ez];omega
 ·exact I0
def Gv(h:AS v=0)(hb:Bq v≤1000000000):Gd v:=by
 unfold AS at h;split at h
 ·split at h
  ·exact⟨by assumption,hb⟩
  ·cases h
 ·cases h
def LO{l:List St}(h:Cw v l=0):AS v=0:=by
 unfold Cw at h;split at h
 ·exact h
 ·rename_i h2;simpa using h2
section
variable {ρ:Env}{d:Ag}{L:List Ag}
def G8{t u:Nat}{cs}{e:Int}{h}(i:Nat)(e4:ρ t=pZ b)(hi:L[i]?=some (bx b T cs))(e5:ρ u=vZ e)(hw:Cv cs w h)(hs:Vs d L d [h]):
  Cs [.cell t (some 6),.tmp u] (Ret fun r _ L'=>∃cs' h,r=.tuple #[.agg cs'.toArray,vZ e]∧L'=[h]∧Cv cs' w h) ρ d L:=
 G0 (L':=[h]) [.agg cs.toArray,vZ e] ⟨A3 i e4 hi hw.cells.1,A4 e5,trivial⟩ hs ⟨cs,h,rfl,rfl,hw⟩
def DN:Vs d L d [E4 [emp,emp]]:=
 (Vs.emp.trans (Vs.emp.trans (Vs.Nx (L:=[emp,emp]) (L0:=L)))).trans (Vs.drop ((ZB _).cons_cons _))
end
end
def toK(ks:List (List UInt8))(k:List UInt8):Nat:=if k∈ks then AZ ks k+1 else AZ ks k
def QY{ks}(h:rising ks=true)(k:List UInt8):AZ ks k≤toK ks k∧toK ks k≤ks.length:=by
 have:=Fp ks k;unfold toK;split
 ·rename_i hm;obtain⟨h1,_⟩:=(mem_iff h).1 hm;omega
 ·omega
def Cq(v:V)(k:List UInt8)(y:V):V:=.mk 6 0 0 [] (v.list.take (AZ v.keys k)++[y]++v.list.drop (toK v.keys k)) (v.keys.take (AZ v.keys k)++[k]++v.keys.drop (toK v.keys k))
def Oo(P:Program)(f:FuncId):Prop:=∀{d cs es}{v y:V}{k},Aw d cs v→rising v.keys=true→v.keys.length=v.list.length→v.keys.length≤1000000000→k.length≤140737488355328→Aw d es y→
 A8 P f [.agg cs.toArray,Al k,.agg es.toArray] d [] (Ret fun r d' L'=>L'=[]∧∃cs',r=.agg cs'.toArray∧Aw d' cs' (Cq v k y))
def TS{ρ L}{t:Nat}{cs}(i:Nat)(e4:ρ t=pZ b)(hi:L[i]?=some (bx b T cs))(hw:Aw d cs w):
  Cs [.cell t (some 6)] (Ret fun r d' L'=>L'=[]∧∃cs',r=.agg cs'.toArray∧Aw d' cs' w) ρ d L:=
 BG (L':=[]) [.agg cs.toArray] ⟨A3 i e4 hi (Aw.len hw),trivial⟩ (ZB _) ⟨rfl,cs,rfl,hw⟩
def PC(a0 a1 a2:Nat):A6:=⟨36,[(.cell 6 (some 6))],(sR (o1 3 (.box 0)<|o1 5 (.box 2)<|o1 6 (.alo (.agg #[(vZ 0),(vZ 0),(vZ 0),(Al []),(.slice none 0 0),(.slice none 0 0)])) .done) (sR (oj 11 5 3<|ol 12 11<|om 13 1<|oc 14 a0 [12,13]<|om 10 14<|oe 15 10 0<|oe 16 10 1<|om 7 15<|om 8 16 .done) (sR (om 17 7<|om 9 17 .done) (.seq (sR (om 18 8 .done) (.cond 18 (rG (om 19 9<|ob 20 .add 19 z1<|om 9 20 .done)) .skip)) (.seq (.reg true (p1 21 (.fld 5 3)<|pl 22 21<|pm 23 7<|pm 24 9<|pm 25 1<|p1 28 (.fld 4 3)<|pl 29 28<|pm 30 7<|pm 31 9<|p1 32 (.ld (some 6) 5) (.alt ⟨(some 26),none,(.bsl 1 1 [(Al [])] [(0,25)])⟩ (.alt ⟨(some 27),none,(.call a1 [22,23,24,26])⟩ (o1 33 (.bsl 1 6 [(vZ 0),(vZ 0),(vZ 0),(Al []),(.slice none 0 0),(.slice none 0 0)] [(0,32)]) (oc 34 a2 [29,30,31,33] (p1 35 (.bld [(0,1),(1,2),(3,1),(4,1),(5,1)] [(vZ 0),(vZ 0),(vZ 0),(Al []),(.slice none 0 0),(.slice none 0 0)] [(0,(kZ 6)),(4,27),(3,34)]) (.bar (o0 (.st 6 6 35) .done))))) (o1 33 (.bsl 1 6 [(vZ 0),(vZ 0),(vZ 0),(Al []),(.slice none 0 0),(.slice none 0 0)] [(0,32)]) (oc 27 a1 [22,23,24,26] (oc 34 a2 [29,30,31,33] (p1 35 (.bld [(0,1),(1,2),(3,1),(4,1),(5,1)] [(vZ 0),(vZ 0),(vZ 0),(Al []),(.slice none 0 0),(.slice none 0 0)] [(0,(kZ 6)),(4,27),(3,34)]) (.bar (o0 (.st 6 6 35) .done))))))) (o1 33 (.bsl 1 6 [(vZ 0),(vZ 0),(vZ 0),(Al []),(.slice none 0 0),(.slice none 0 0)] [(0,32)]) (o1 26 (.bsl 1 1 [(Al [])] [(0,25)]) (oc 27 a1 [22,23,24,26] (oc 34 a2 [29,30,31,33] (p1 35 (.bld [(0,1),(1,2),(3,1),(4,1),(5,1)] [(vZ 0),(vZ 0),(vZ 0),(Al []),(.slice none 0 0),(.slice none 0 0)] [(0,(kZ 6)),(4,27),(3,34)]) (.bar (o0 (.st 6 6 35) .done)))))))))) .ret)))))⟩
set_option maxHeartbeats 1000000 in
def VH{P:Program}{f f1 f2 f3:FuncId}(hd:dec P f=some (PC f1 f2 f3))(h1:HS P f1)(h2:Hg 1 A2 P f2)(h3:Hg 6 Aw P f3):Oo P f:=by
 intro d cs es v y k hv hr hlen hb hk hy;refine Bd hd (No rfl) ?_;have htk:=QY hr k;obtain⟨lv,kv,rfl,ik,im,ie,it,hl,hks⟩:=hv.open;obtain⟨la,lc,rfl⟩:=RSl.val hl;obtain⟨ka,kc,rfl⟩:=RSl.val hks;obtain⟨y0,y1,y2,y3,y4,y5,rfl⟩:=six hy.len;show gwp P _ _ _ _ _;apply Ai;apply Ay;refine AO (l:=[vZ v.kind,vZ v.m,vZ v.e,Al v.text,.slice la v.list.length lc,.slice ka v.keys.length kc]) rfl (fun b3 T3=>?_);refine AO (l:=[y0,y1,y2,y3,y4,y5]) rfl (fun b5 T5=>?_);(refine AX (fun _ _=>Aa ?_));rename_i b6 T6;apply Ai;apply Ay;(refine Af rfl<|Ah rfl (Aj 2 rfl rfl)<|Bk rfl ?_);refine AF rfl (h1 hks hr) ?_;(refine Bj rfl<|AL rfl rfl<|AL rfl rfl<|Ab rfl<|Ad rfl<|Aa ?_);apply Ai;apply Ay;(refine Ab rfl<|Ab rfl<|Aa ?_);refine Ct (fun ρ d' L'=>d'=d∧A9 ρ [(1,Al k),(3,pZ b3),(5,pZ b5),(6,pZ b6),(7,vZ (AZ v.keys k:Nat)),(9,vZ (toK v.keys k:Nat))]∧
  L'=[bx b6 T6 [vZ 0,vZ 0,vZ 0,Al [],.slice none 0 0,.slice none 0 0],bx b5 T5 [y0,y1,y2,y3,y4,y5],bx b3 T3 [vZ v.kind,vZ v.m,vZ v.e,Al v.text,.slice la v.list.length lc,.slice ka v.keys.length kc]]) ?_ ?_
 ·have n2:=RSl.Be hks;have hlk:=Fp v.keys k;by_cases hm:k∈v.keys
  ·(refine Ac<|Ad rfl<|Aa<|Au rfl (by omega)<|Ay<|Ab rfl<|AI rfl rfl (by omega) (by omega)<|Ab rfl<|Aa ?_);exact⟨rfl,⟨rfl,rfl,rfl,rfl,rfl,int_eq (by simp[toK,hm]),trivial⟩,rfl⟩
  ·(refine Ac<|Ad rfl<|Aa<|Ao rfl (by omega)<|Am ?_);exact⟨rfl,⟨rfl,rfl,rfl,rfl,rfl,int_eq (by simp[toK,hm]),trivial⟩,rfl⟩
 rintro ρ d' L' ⟨hdd,hsl,hL⟩;subst hdd;subst hL;refine Bo _ hsl ?_;clear hsl;generalize hlo:AZ v.keys k=lo at*;generalize hto:toK v.keys k=tq at*;have hF:Cq v k y=.mk 6 0 0 [] (v.list.take lo++[y]++v.list.drop tq) (v.keys.take lo++[k]++v.keys.drop tq):=by rw[Cq,hlo,hto]
 rw[hF];have kone:∀{d:Ag}{b:Nat}{T:TypeId},Le (bx b T [Al k]) d→RSl 1 A2 d (.slice (some ⟨b,0,none⟩) 1 1) [k]:=fun h=>(AN.D8 (sz:=1) (R:=A2) (d:=emp) rfl ⟨rfl,hk⟩).rsl (R:=A2) Dl (by omega) (fun _ _ h=>h.elim) h;have yone:∀{d d2:Ag}{b:Nat}{T:TypeId},Aw d [y0,y1,y2,y3,y4,y5] y→Le d d2→Le (bx b T [y0,y1,y2,y3,y4,y5]) d2→RSl 6 Aw d2 (.slice (some ⟨b,0,none⟩) 1 1) [y]:=fun h hl hg=>(AN.D8 (sz:=6) (R:=Aw) rfl h).rsl (R:=Aw) B8 (by omega) hl hg;apply Ai;refine AT ?_;(refine Af rfl<|Ah rfl (Aj 2 rfl rfl)<|Ab rfl<|Ab rfl<|Bk rfl<|Af rfl<|Ah rfl (Aj 2 rfl rfl)<|Ab rfl<|Ab rfl<|AD 1 rfl rfl rfl ?_);refine Dx ?_ ?_
 ·refine E5 (v0:=Al k) rfl rfl (fun b26 T26=>?_);refine Dx ?_ ?_
  ·refine BF (fun d1 hl1 hg1=>?_);refine AR rfl (h2 (BK.mono hks hl1) (kone hg1) htk.1 htk.2 (by simp;omega)) (fun r d2 L2 hl2 ⟨hL,hr2⟩=>?_);subst hL;obtain⟨ra,rc,rfl⟩:=RSl.val hr2;refine D4 rfl rfl (fun b33 T33=>?_);refine BF (fun d3 hl3 hg3=>?_);refine AR rfl (h3 (BL.mono hl ((hl1.trans hl2).trans hl3)) (yone (Aw.mono (hl1.trans hl2) hy) hl3 hg3) htk.1 (by omega) (by simp;omega)) (fun r d4 L4 hl4 ⟨hL,hr4⟩=>?_);subst hL;obtain⟨sa,sc,rfl⟩:=RSl.val hr4;(refine Gh rfl rfl rfl<|Bt ?_);refine Az 0 [vZ 6,vZ 0,vZ 0,Al [],.slice sa _ sc,.slice ra _ rc] rfl rfl rfl rfl (No rfl) rfl rfl ?_;(refine Aa<|Ar ?_);exact TS 0 rfl rfl (Aw.close (v:=.mk 6 0 0 [] (v.list.take lo++[y]++v.list.drop tq) (v.keys.take lo++[k]++v.keys.drop tq)) G9 Ba Ba (by simp) hr4 (BK.mono hr2 (hl3.trans hl4)))
  ·refine BF (fun d1 hl1 hg1=>?_);refine D4 rfl rfl (fun b33 T33=>?_);refine BF (fun d2 hl2 hg2=>?_);refine AR rfl (h2 (BK.mono hks (hl1.trans hl2)) (BK.mono (kone hg1) hl2) htk.1 htk.2 (by simp;omega)) (fun r d3 L2 hl3 ⟨hL,hr2⟩=>?_);subst hL;obtain⟨ra,rc,rfl⟩:=RSl.val hr2;refine AR rfl (h3 (BL.mono hl ((hl1.trans hl2).trans hl3)) (BL.mono (yone (Aw.mono hl1 hy) hl2 hg2) hl3) htk.1 (by omega) (by simp;omega)) (fun r d4 L4 hl4 ⟨hL,hr4⟩=>?_);subst hL;obtain⟨sa,sc,rfl⟩:=RSl.val hr4;(refine Gh rfl rfl rfl<|Bt ?_);refine Az 0 [vZ 6,vZ 0,vZ 0,Al [],.slice sa _ sc,.slice ra _ rc] rfl rfl rfl rfl (No rfl) rfl rfl ?_;(refine Aa<|Ar ?_);exact TS 0 rfl rfl (Aw.close (v:=.mk 6 0 0 [] (v.list.take lo++[y]++v.list.drop tq) (v.keys.take lo++[k]++v.keys.drop tq)) G9 Ba Ba (by simp) hr4 (BK.mono hr2 hl4))
 ·refine D4 rfl rfl (fun b33 T33=>?_);refine BF (fun d1 hl1 hg1=>?_);refine E5 (v0:=Al k) rfl rfl (fun b26 T26=>?_);refine BF (fun d2 hl2 hg2=>?_);refine AR rfl (h2 (BK.mono hks (hl1.trans hl2)) (kone hg2) htk.1 htk.2 (by simp;omega)) (fun r d3 L2 hl3 ⟨hL,hr2⟩=>?_);subst hL;obtain⟨ra,rc,rfl⟩:=RSl.val hr2;refine AR rfl (h3 (BL.mono hl ((hl1.trans hl2).trans hl3)) (BL.mono (yone hy hl1 hg1) (hl2.trans hl3)) htk.1 (by omega) (by simp;omega)) (fun r d4 L4 hl4 ⟨hL,hr4⟩=>?_);subst hL;obtain⟨sa,sc,rfl⟩:=RSl.val hr4;(refine Gh rfl rfl rfl<|Bt ?_);refine Az 0 [vZ 6,vZ 0,vZ 0,Al [],.slice sa _ sc,.slice ra _ rc] rfl rfl rfl rfl (No rfl) rfl rfl ?_;(refine Aa<|Ar ?_);exact TS 0 rfl rfl (Aw.close (v:=.mk 6 0 0 [] (v.list.take lo++[y]++v.list.drop tq) (v.keys.take lo++[k]++v.keys.drop tq)) G9 Ba Ba (by simp) hr4 (BK.mono hr2 hl4))
def Yk{n i:Nat}(hi:i<n):chunk (BC z6 (n*6)) i 6=z6:=by
 have hl:(BC z6 (n*6)).length=n*6:=by simp[BC]
 apply List.ext_getElem?;intro j;by_cases hj:j<6
 ·rw[chunk,List.getElem?_take_of_lt hj,List.getElem?_drop,BC,List.getElem?_map,List.getElem?_range (by omega)];have e:(i*6+j) % z6.length=j:=by show(i*6+j) % 6=j;omega
  simp only[Option.map_some,e];obtain rfl|rfl|rfl|rfl|rfl|rfl:j=0∨j=1∨j=2∨j=3∨j=4∨j=5:=by omega
  all_goals rfl
 ·rw[ZY (by rw[OD hl hi];omega),ZY (by simp[z6];omega)]
def O0{n:Nat}(hn:n≤140737488355328)(h:Le (bx b T (BC z6 (n*6))) d):RSl 6 Aw d (.slice (some ⟨b,0,none⟩) n n) (ZI n V.zero):=by
 have o:BO 6 (.slice (some ⟨b,0,none⟩) n n) n (BC z6 (n*6)) (bx b T (BC z6 (n*6))):=BO.lit (by simp[BC]) hn;refine o.rsl h (by simp) (by omega) (fun i hi=>?_);show Aw d (chunk (BC z6 (n*6)) i 6) _;rw[Yk (by simpa using hi),List.getElem_replicate];exact Aw.zero
def Md(h:BW v=true)(hk:v.kind=0∨v.kind=6):v.keys.length=v.list.length:=by
 rcases hk with hk|hk
 ·have hb:Cf v=true:=by simp[BW] at h;exact h.1.1.1.1
  obtain⟨k,m,e,t,l,ks⟩:=v;have hk:k=0:=hk;subst hk;simp[Cf,V.kind,V.m,V.e,V.text,V.list,V.keys] at hb;simp[V.keys,V.list,hb]
 ·exact FT h hk
def Cm(l:List V)(n:Nat):List V:=l++ZI (n - l.length) V.zero
def BP(v:V)(s:St)(y:V):V×Int:=
 if s.kind=0∧(v.kind=0∨v.kind=6) then(Cq v s.text y,0)
 else if s.kind=1∧(v.kind=0∨v.kind=5) then
  (if Bm s.src v.list.length<0∨4095<Bm s.src v.list.length then(V.zero,4)
  else(.mk 5 0 0 [] ((Cm v.list ((Bm s.src v.list.length).toNat+1)).take (Bm s.src v.list.length).toNat++[y]++(Cm v.list ((Bm s.src v.list.length).toNat+1)).drop ((Bm s.src v.list.length).toNat+1)) [],0))
 else if s.kind=2∧(v.kind=0∨v.kind=5)∧y.kind=5 then(.mk 5 0 0 [] (v.list.take (A5 s v.list.length).1.toNat++y.list++v.list.drop (A5 s v.list.length).2.toNat) [],0)
 else(V.zero,80)
def PJ(P:Program)(f:FuncId):Prop:=∀{d cs ds es}{v y:V}{s:St},Aw d cs v→BW v=true→RSt d ds s→Aw d es y→Cc v+Cc y≤900000000→
 A8 P f [.agg cs.toArray,.agg ds.toArray,.agg es.toArray] d [] (Ret fun r d' L'=>L'=[]∧∃cs',r=.tuple #[.agg cs'.toArray,vZ (BP v s y).2]∧Aw d' cs' (BP v s y).1)
def RK(a0 a1 a2 a3:Nat):A6:=⟨118,[(.cell 6 (some 6)),(.tmp 7)],(sR (o1 3 (.box 0)<|o1 4 (.box 1)<|o1 5 (.box 2)<|o1 6 (.alo (.agg #[(vZ 0),(vZ 0),(vZ 0),(Al []),(.slice none 0 0),(.slice none 0 0)]))<|o1 7 (.mv z0) .done) (sR (oj 14 0 3<|ol 15 14<|ob 16 .eql 15 z0<|om 8 16 .done) (.seq (.block 0 (sR (oj 18 0 4<|ol 19 18<|ob 20 .eql 19 z0<|om 21 20<|gT 22 21 8<|gT 23 21 22<|oF 24 23 (.fld 0 3)<|oF 25 23 (.ld none 24)<|oF 26 23 (.bin .eql 25 (kZ 6))<|oT 27 21 (.pick 23 (.const (.bool true)) 26)<|gP 28 21 27<|om 17 28 .done) (.cond 17 (sR (o1 29 (.ld (some 6) 3)<|oj 30 1 4<|ol 31 30<|o1 32 (.ld (some 6) 5)<|oc 33 a0 [29,31,32]<|o0 (.st 6 6 33)<|o1 7 (.mv z0) .done) .ret) (sR (oj 35 0 4<|ol 36 35<|ob 37 .eql 36 z1<|om 38 37<|gT 39 38 8<|gT 40 38 39<|oF 41 40 (.fld 0 3)<|oF 42 40 (.ld none 41)<|oF 43 40 (.bin .eql 42 (kZ 5))<|oT 44 38 (.pick 40 (.const (.bool true)) 43)<|gP 45 38 44<|om 34 45 .done) (.cond 34 (sR (oj 46 2 4<|ol 47 46<|oj 48 4 3<|ol 49 48<|oL 50 49<|oc 51 a1 [47,50]<|om 9 51 .done) (.seq (sR (om 52 9<|ob 53 .lss 52 z0<|om 54 53<|gF 55 54 9<|oF 56 54 (.bin .gtr 55 (kZ 4095))<|o1 57 (.pick 54 (.const (.bool true)) 56) .done) (.cond 57 (sR (o1 58 (.bld [(0,1),(1,2),(3,1),(4,1),(5,1)] [(vZ 0),(vZ 0),(vZ 0),(Al []),(.slice none 0 0),(.slice none 0 0)] [])<|o0 (.st 6 6 58)<|o1 7 (.mv (kZ 4)) .done) .ret) .skip)) (sR (oj 59 4 3<|ol 60 59<|om 10 60 .done) (.seq (sR (om 61 9<|ob 62 .add 61 z1<|om 63 10<|oL 64 63<|ob 65 .sub 62 64<|om 11 65 .done) (sR (om 66 11<|ob 67 .gtr 66 z0 .done) (.cond 67 (rG (om 68 10<|om 69 10<|oL 70 69<|om 71 10<|oL 72 71<|om 73 11<|o1 74 (.mks 6 88 [(vZ 0),(vZ 0),(vZ 0),(Al []),(.slice none 0 0),(.slice none 0 0)] 73 73)<|oc 75 a2 [68,70,72,74]<|om 10 75 .done)) .skip))) (sR (om 76 10<|om 77 9<|om 78 9<|ob 79 .add 78 z1<|o1 80 (.ld (some 6) 5)<|o1 81 (.bsl 1 6 [(vZ 0),(vZ 0),(vZ 0),(Al []),(.slice none 0 0),(.slice none 0 0)] [(0,80)])<|oc 82 a2 [76,77,79,81]<|o1 83 (.bld [(0,1),(1,2),(3,1),(4,1),(5,1)] [(vZ 0),(vZ 0),(vZ 0),(Al []),(.slice none 0 0),(.slice none 0 0)] [(0,(kZ 5)),(3,82)])<|o0 (.st 6 6 83)<|o1 7 (.mv z0) .done) .ret))))) (sR (oj 85 0 4<|ol 86 85<|ob 87 .eql 86 z2<|om 88 87<|gT 89 88 8<|gT 90 88 89<|oF 91 90 (.fld 0 3)<|oF 92 90 (.ld none 91)<|oF 93 90 (.bin .eql 92 (kZ 5))<|oT 94 88 (.pick 90 (.const (.bool true)) 93)<|gP 95 88 94<|om 96 95<|oT 97 96 (.fld 0 5)<|oT 98 96 (.ld none 97)<|oT 99 96 (.bin .eql 98 (kZ 5))<|gP 100 96 99<|om 84 100 .done) (.cond 84 (sR (o1 102 (.ld (some 6) 4)<|oj 103 4 3<|ol 104 103<|oL 105 104<|oc 106 a3 [102,105]<|om 101 106<|oe 107 101 0<|oe 108 101 1<|om 12 107<|om 13 108 .done) (sR (oj 109 4 3<|ol 110 109<|om 111 12<|om 112 13<|oj 113 4 5<|ol 114 113<|oc 115 a2 [110,111,112,114]<|o1 116 (.bld [(0,1),(1,2),(3,1),(4,1),(5,1)] [(vZ 0),(vZ 0),(vZ 0),(Al []),(.slice none 0 0),(.slice none 0 0)] [(0,(kZ 5)),(3,115)])<|o0 (.st 6 6 116)<|o1 7 (.mv z0) .done) .ret)) .skip))))))) (sR (o1 117 (.bld [(0,1),(1,2),(3,1),(4,1),(5,1)] [(vZ 0),(vZ 0),(vZ 0),(Al []),(.slice none 0 0),(.slice none 0 0)] [])<|o0 (.st 6 6 117)<|o1 7 (.mv (kZ 80)) .done) .ret))))⟩
set_option maxHeartbeats 2000000 in
def YZ{P:Program}{f f1 f2 f3 f4:FuncId}(hd:dec P f=some (RK f1 f2 f3 f4))(h1:Oo P f1)(h2:Hl P f2)(h3:Hg 6 Aw P f3)(h4:FB P f4):PJ P f:=by
 intro d cs ds es v y s hv hone hs hy hb;refine Bd hd (No rfl) ?_;have hr:=DL hone;have b1:=Ex (v:=v);have b2':=Gm (v:=v);have b3':=Ex (v:=y);obtain⟨w,e,hF⟩:∃w e,BP v s y=(w,e):=⟨_,_,rfl⟩
 rw[hF];have hs':=hs;obtain⟨hds,ik',it',is,id⟩:=hs';subst hds;have hv0:=hv;have hy0:=hy;obtain⟨lv,kv,rfl,ik,im,ie,it,hl,hks⟩:=hv.open;obtain⟨la,lc,rfl⟩:=RSl.val hl;have hl':RSl 6 Aw d (.slice la v.list.length lc) v.list:=hl;obtain⟨yl,yk,rfl,yik,_,_,_,yhl,_⟩:=hy.open;obtain⟨ya,yc,rfl⟩:=RSl.val yhl;have yone:∀{d d2:Ag}{b:Nat}{T:TypeId},Aw d [vZ y.kind,vZ y.m,vZ y.e,Al y.text,.slice ya y.list.length yc,yk] y→Le d d2→Le (bx b T [vZ y.kind,vZ y.m,vZ y.e,Al y.text,.slice ya y.list.length yc,yk]) d2→RSl 6 Aw d2 (.slice (some ⟨b,0,none⟩) 1 1) [y]:=
  fun h hl hg=>(AN.D8 (sz:=6) (R:=Aw) rfl h).rsl (R:=Aw) B8 (by omega) hl hg
 show gwp P _ _ _ _ _;apply Ai;apply Ay;refine AO (l:=[vZ v.kind,vZ v.m,vZ v.e,Al v.text,.slice la v.list.length lc,kv]) rfl (fun b3 T3=>?_);refine AO (l:=[vZ s.kind,Al s.text,vZ s.src,vZ s.dst,.bool s.hf,.bool s.ht]) rfl (fun b4 T4=>?_);refine AO (l:=[vZ y.kind,vZ y.m,vZ y.e,Al y.text,.slice ya y.list.length yc,yk]) rfl (fun b5 T5=>?_);(refine AX (fun _ _=>Ab rfl<|Aa ?_));rename_i b6 T6;by_cases s0:s.kind=0
 ·by_cases hk:v.kind=0∨v.kind=6
  ·rw[BP,if_pos ⟨s0,hk⟩] at hF;cases hF;have hlens:=Md hone hk;by_cases k0:v.kind=0
   ·(refine Ac<|Af rfl<|Ah rfl (Aj 3 rfl rfl)<|Aq rfl rfl<|Ad rfl<|Aa<|Ai<|Av<|Ac<|Af rfl<|Ah rfl (Aj 2 rfl rfl)<|Aq rfl rfl<|Ad rfl<|AE rfl (by omega)<|Ae rfl<|Ad rfl<|Ae rfl<|Ad rfl<|AE rfl (by omega)<|Ak rfl<|Ak rfl<|Ak rfl<|Ae rfl<|Ap rfl rfl<|Ap rfl rfl<|Ad rfl<|Aa<|Bb rfl<|Ac<|AD 3 rfl rfl rfl<|Af rfl<|Ah rfl (Aj 2 rfl rfl)<|AD 1 rfl rfl rfl ?_);refine AR rfl (h1 hv0 hr hlens (by omega) it' hy0) (fun r d2 L2 hl2 ⟨hL,cs',hr',hR'⟩=>?_);subst hL;subst hr';obtain⟨e0,e1,e2,e3,e4,e5,rfl⟩:=six hR'.len;refine Az 0 [e0,e1,e2,e3,e4,e5] rfl rfl rfl rfl (No rfl) (AH _ _ _ hR') rfl ?_;(refine Ab rfl<|Aa<|Ar ?_);exact Bh 0 rfl rfl rfl hR'
   by_cases k6:v.kind≠0
   ·(refine Ac<|Af rfl<|Ah rfl (Aj 3 rfl rfl)<|Aq rfl rfl<|Ad rfl<|Aa<|Ai<|Av<|Ac<|Af rfl<|Ah rfl (Aj 2 rfl rfl)<|Aq rfl rfl<|Ad rfl<|AE rfl (by omega)<|Ae rfl<|Ad rfl<|Ae rfl<|Ad rfl<|AB rfl (by omega)<|Ae rfl<|Af rfl<|Ae rfl<|Ah rfl (Aj 3 rfl rfl)<|Ae rfl<|Aq rfl rfl<|Ae rfl<|An rfl rfl<|Ap rfl rfl<|Ad rfl<|Aa<|Au rfl (by omega)<|Ac<|AD 3 rfl rfl rfl<|Af rfl<|Ah rfl (Aj 2 rfl rfl)<|AD 1 rfl rfl rfl ?_);refine AR rfl (h1 hv0 hr hlens (by omega) it' hy0) (fun r d2 L2 hl2 ⟨hL,cs',hr',hR'⟩=>?_);subst hL;subst hr';obtain⟨e0,e1,e2,e3,e4,e5,rfl⟩:=six hR'.len;refine Az 0 [e0,e1,e2,e3,e4,e5] rfl rfl rfl rfl (No rfl) (AH _ _ _ hR') rfl ?_;(refine Ab rfl<|Aa<|Ar ?_);exact Bh 0 rfl rfl rfl hR'
   omega
  ·rw[BP,if_neg (fun h=>hk h.2),if_neg (fun h=>by omega),if_neg (fun h=>by omega)] at hF;cases hF;(refine Ac<|Af rfl<|Ah rfl (Aj 3 rfl rfl)<|Aq rfl rfl<|Ad rfl<|Aa<|Ai<|Av<|Ac<|Af rfl<|Ah rfl (Aj 2 rfl rfl)<|Aq rfl rfl<|Ad rfl<|AE rfl (by omega)<|Ae rfl<|Ad rfl<|Ae rfl<|Ad rfl<|AB rfl (by omega)<|Ae rfl<|Af rfl<|Ae rfl<|Ah rfl (Aj 3 rfl rfl)<|Ae rfl<|Aq rfl rfl<|Ae rfl<|An rfl rfl<|Ap rfl rfl<|Ad rfl<|Aa<|Ao rfl (by omega)<|Ac<|Af rfl<|Ah rfl (Aj 2 rfl rfl)<|Aq rfl rfl<|Ad rfl<|AB rfl (by omega)<|Ak rfl<|Ak rfl<|AY rfl<|AY rfl<|AY rfl<|Ak rfl<|An rfl rfl<|Ad rfl<|Aa<|AK rfl<|Ac<|Af rfl<|Ah rfl (Aj 2 rfl rfl)<|Aq rfl rfl<|Ad rfl<|AB rfl (by omega)<|Ak rfl<|Ak rfl<|AY rfl<|AY rfl<|AY rfl<|Ak rfl<|An rfl rfl<|Ad rfl<|Ak rfl<|Ak rfl<|Ak rfl<|An rfl rfl<|Ad rfl<|Aa<|AK rfl<|Am<|Ac<|Bl ?_);refine Az 0 [vZ 0,vZ 0,vZ 0,Al [],.slice none 0 0,.slice none 0 0] rfl rfl rfl rfl (No rfl) rfl rfl ?_;(refine Ab rfl<|Aa<|Ar ?_);exact Bh 0 rfl rfl rfl Aw.zero
 by_cases s1:s.kind=1
 ·by_cases hk:v.kind=0∨v.kind=5
  ·rw[BP,if_neg (fun h=>s0 h.1),if_pos ⟨s1,hk⟩] at hF;obtain⟨p,hp⟩:∃p,Bm s.src v.list.length=p:=⟨_,rfl⟩
   rw[hp] at hF;by_cases k0:v.kind=0
   ·(refine Ac<|Af rfl<|Ah rfl (Aj 3 rfl rfl)<|Aq rfl rfl<|Ad rfl<|Aa<|Ai<|Av<|Ac<|Af rfl<|Ah rfl (Aj 2 rfl rfl)<|Aq rfl rfl<|Ad rfl<|AB rfl (by omega)<|Ak rfl<|Ak rfl<|AY rfl<|AY rfl<|AY rfl<|Ak rfl<|An rfl rfl<|Ad rfl<|Aa<|AK rfl<|Ac<|Af rfl<|Ah rfl (Aj 2 rfl rfl)<|Aq rfl rfl<|Ad rfl<|AE rfl (by omega)<|Ae rfl<|Ad rfl<|Ae rfl<|Ad rfl<|AE rfl (by omega)<|Ak rfl<|Ak rfl<|Ak rfl<|Ae rfl<|Ap rfl rfl<|Ap rfl rfl<|Ad rfl<|Aa<|Bb rfl<|Ac<|Af rfl<|Ah rfl (Aj 2 rfl rfl)<|Af rfl<|Ah rfl (Aj 3 rfl rfl)<|AA rfl ?_);refine AF rfl (h2 is (by omega) (by omega)) ?_;rw[hp];by_cases q0:p<0
    ·rw[if_pos (.inl q0)] at hF;cases hF;(refine Ab rfl<|Aa<|Ai<|Ac<|Ab rfl<|Ax rfl rfl<|Ad rfl<|AE rfl (by omega)<|Ak rfl<|Ak rfl<|Ap rfl rfl<|Aa<|Bb rfl<|Ac<|Bl ?_);refine Az 0 [vZ 0,vZ 0,vZ 0,Al [],.slice none 0 0,.slice none 0 0] rfl rfl rfl rfl (No rfl) rfl rfl ?_;(refine Ab rfl<|Aa<|Ar ?_);exact Bh 0 rfl rfl rfl Aw.zero
    by_cases q1:p>4095
    ·rw[if_pos (.inr q1)] at hF;cases hF;(refine Ab rfl<|Aa<|Ai<|Ac<|Ab rfl<|Ax rfl rfl<|Ad rfl<|AB rfl (by omega)<|Ae rfl<|Ab rfl<|Ae rfl<|AP rfl rfl<|An rfl rfl<|Aa<|Au rfl (by omega)<|Ac<|Bl ?_);refine Az 0 [vZ 0,vZ 0,vZ 0,Al [],.slice none 0 0,.slice none 0 0] rfl rfl rfl rfl (No rfl) rfl rfl ?_;(refine Ab rfl<|Aa<|Ar ?_);exact Bh 0 rfl rfl rfl Aw.zero
    rw[if_neg (fun h=>by omega)] at hF;cases hF;obtain⟨n,rfl⟩:∃n:Nat,p=(n:Int):=⟨p.toNat,by omega⟩
    simp only[Z2];have hpl:(Cm v.list (n+1)).length=v.list.length+(n+1 - v.list.length):=by simp[Cm]
    by_cases q2:v.list.length<n+1
    ·(refine Ab rfl<|Aa<|Ai<|Ac<|Ab rfl<|Ax rfl rfl<|Ad rfl<|AB rfl (by omega)<|Ae rfl<|Ab rfl<|Ae rfl<|AP rfl rfl<|An rfl rfl<|Aa<|Ao rfl (by omega)<|Am<|Ac<|Af rfl<|Ah rfl (Aj 3 rfl rfl)<|As rfl<|Aa<|Ai<|Ac<|Ab rfl<|AI rfl rfl (by omega) (by omega)<|As rfl<|AA rfl<|Bn rfl rfl (by omega) (by omega)<|Ab rfl<|Aa<|Ac<|Ab rfl<|AP rfl rfl<|Aa<|Au rfl (by omega)<|Ay<|As rfl<|As rfl<|AA rfl<|As rfl<|AA rfl<|Ab rfl ?_);refine Io (n:=n+1 - v.list.length) (c:=n+1 - v.list.length) (int_eq (by omega)) (int_eq (by omega)) (ZL _) (by omega) (by omega) (fun b74 T74=>?_);refine BF (fun d1 hl1 hg1=>?_);have hz:=O0 (by omega) hg1;refine AR rfl (h3 (BL.mono hl hl1) hz (ZL _) (ZL _) (by simp;omega)) (fun r d2 L2 hl2 ⟨hL,hr2⟩=>?_);subst hL;have hr3:RSl 6 Aw d2 r (Cm v.list (n+1)):=by rw[ZV,Aag,ZW] at hr2;exact hr2
     obtain⟨ra,rc,rfl⟩:=RSl.val hr3;(refine As rfl<|Aa<|Ac<|As rfl<|Ab rfl<|Ab rfl<|AI rfl rfl (by omega) (by omega)<|AD 1 rfl rfl rfl ?_);refine D4 rfl rfl (fun b81 T81=>?_);refine BF (fun d3 hl3 hg3=>?_);refine AR rfl (h3 (i:=n) (j:=n+1) (BL.mono hr3 hl3) (yone (Aw.mono (hl1.trans hl2) hy0) hl3 hg3) (by omega) (by omega) (by simp only[Aak];omega)) (fun r d4 L4 hl4 ⟨hL,hr4⟩=>?_);subst hL;obtain⟨sa,sc,rfl⟩:=RSl.val hr4;(apply DR;rfl;rfl);refine Az 0 [vZ 5,vZ 0,vZ 0,Al [],.slice sa _ sc,.slice none 0 0] rfl rfl rfl rfl (No rfl) rfl rfl ?_;(refine Ab rfl<|Aa<|Ar ?_);exact Bh 0 rfl rfl rfl (Aw.close (v:=.mk 5 0 0 [] ((Cm v.list (n+1)).take n++[y]++(Cm v.list (n+1)).drop (n+1)) []) EB Ba Ba (by simp) hr4 RSl.nil)
    ·have hpe:Cm v.list (n+1)=v.list:=by simp[Cm,show n+1 - v.list.length=0 by omega]
     rw[hpe];(refine Ab rfl<|Aa<|Ai<|Ac<|Ab rfl<|Ax rfl rfl<|Ad rfl<|AB rfl (by omega)<|Ae rfl<|Ab rfl<|Ae rfl<|AP rfl rfl<|An rfl rfl<|Aa<|Ao rfl (by omega)<|Am<|Ac<|Af rfl<|Ah rfl (Aj 3 rfl rfl)<|As rfl<|Aa<|Ai<|Ac<|Ab rfl<|AI rfl rfl (by omega) (by omega)<|As rfl<|AA rfl<|Bn rfl rfl (by omega) (by omega)<|Ab rfl<|Aa<|Ac<|Ab rfl<|AP rfl rfl<|Aa<|Ao rfl (by omega)<|Am<|Ac<|As rfl<|Ab rfl<|Ab rfl<|AI rfl rfl (by omega) (by omega)<|AD 1 rfl rfl rfl ?_);refine D4 rfl rfl (fun b81 T81=>?_);refine BF (fun d3 hl3 hg3=>?_);refine AR rfl (h3 (i:=n) (j:=n+1) (BL.mono hl hl3) (yone hy0 hl3 hg3) (by omega) (by omega) (by simp only[Aak];omega)) (fun r d4 L4 hl4 ⟨hL,hr4⟩=>?_);subst hL;obtain⟨sa,sc,rfl⟩:=RSl.val hr4;(apply DR;rfl;rfl);refine Az 0 [vZ 5,vZ 0,vZ 0,Al [],.slice sa _ sc,.slice none 0 0] rfl rfl rfl rfl (No rfl) rfl rfl ?_;(refine Ab rfl<|Aa<|Ar ?_);exact Bh 0 rfl rfl rfl (Aw.close (v:=.mk 5 0 0 [] (v.list.take n++[y]++v.list.drop (n+1)) []) EB Ba Ba (by simp) hr4 RSl.nil)
   by_cases k6:v.kind≠0
   ·(refine Ac<|Af rfl<|Ah rfl (Aj 3 rfl rfl)<|Aq rfl rfl<|Ad rfl<|Aa<|Ai<|Av<|Ac<|Af rfl<|Ah rfl (Aj 2 rfl rfl)<|Aq rfl rfl<|Ad rfl<|AB rfl (by omega)<|Ak rfl<|Ak rfl<|AY rfl<|AY rfl<|AY rfl<|Ak rfl<|An rfl rfl<|Ad rfl<|Aa<|AK rfl<|Ac<|Af rfl<|Ah rfl (Aj 2 rfl rfl)<|Aq rfl rfl<|Ad rfl<|AE rfl (by omega)<|Ae rfl<|Ad rfl<|Ae rfl<|Ad rfl<|AB rfl (by omega)<|Ae rfl<|Af rfl<|Ae rfl<|Ah rfl (Aj 3 rfl rfl)<|Ae rfl<|Aq rfl rfl<|Ae rfl<|An rfl rfl<|Ap rfl rfl<|Ad rfl<|Aa<|Au rfl (by omega)<|Ac<|Af rfl<|Ah rfl (Aj 2 rfl rfl)<|Af rfl<|Ah rfl (Aj 3 rfl rfl)<|AA rfl ?_);refine AF rfl (h2 is (by omega) (by omega)) ?_;rw[hp];by_cases q0:p<0
    ·rw[if_pos (.inl q0)] at hF;cases hF;(refine Ab rfl<|Aa<|Ai<|Ac<|Ab rfl<|Ax rfl rfl<|Ad rfl<|AE rfl (by omega)<|Ak rfl<|Ak rfl<|Ap rfl rfl<|Aa<|Bb rfl<|Ac<|Bl ?_);refine Az 0 [vZ 0,vZ 0,vZ 0,Al [],.slice none 0 0,.slice none 0 0] rfl rfl rfl rfl (No rfl) rfl rfl ?_;(refine Ab rfl<|Aa<|Ar ?_);exact Bh 0 rfl rfl rfl Aw.zero
    by_cases q1:p>4095
    ·rw[if_pos (.inr q1)] at hF;cases hF;(refine Ab rfl<|Aa<|Ai<|Ac<|Ab rfl<|Ax rfl rfl<|Ad rfl<|AB rfl (by omega)<|Ae rfl<|Ab rfl<|Ae rfl<|AP rfl rfl<|An rfl rfl<|Aa<|Au rfl (by omega)<|Ac<|Bl ?_);refine Az 0 [vZ 0,vZ 0,vZ 0,Al [],.slice none 0 0,.slice none 0 0] rfl rfl rfl rfl (No rfl) rfl rfl ?_;(refine Ab rfl<|Aa<|Ar ?_);exact Bh 0 rfl rfl rfl Aw.zero
    rw[if_neg (fun h=>by omega)] at hF;cases hF;obtain⟨n,rfl⟩:∃n:Nat,p=(n:Int):=⟨p.toNat,by omega⟩
    simp only[Z2];have hpl:(Cm v.list (n+1)).length=v.list.length+(n+1 - v.list.length):=by simp[Cm]
    by_cases q2:v.list.length<n+1
    ·(refine Ab rfl<|Aa<|Ai<|Ac<|Ab rfl<|Ax rfl rfl<|Ad rfl<|AB rfl (by omega)<|Ae rfl<|Ab rfl<|Ae rfl<|AP rfl rfl<|An rfl rfl<|Aa<|Ao rfl (by omega)<|Am<|Ac<|Af rfl<|Ah rfl (Aj 3 rfl rfl)<|As rfl<|Aa<|Ai<|Ac<|Ab rfl<|AI rfl rfl (by omega) (by omega)<|As rfl<|AA rfl<|Bn rfl rfl (by omega) (by omega)<|Ab rfl<|Aa<|Ac<|Ab rfl<|AP rfl rfl<|Aa<|Au rfl (by omega)<|Ay<|As rfl<|As rfl<|AA rfl<|As rfl<|AA rfl<|Ab rfl ?_);refine Io (n:=n+1 - v.list.length) (c:=n+1 - v.list.length) (int_eq (by omega)) (int_eq (by omega)) (ZL _) (by omega) (by omega) (fun b74 T74=>?_);refine BF (fun d1 hl1 hg1=>?_);have hz:=O0 (by omega) hg1;refine AR rfl (h3 (BL.mono hl hl1) hz (ZL _) (ZL _) (by simp;omega)) (fun r d2 L2 hl2 ⟨hL,hr2⟩=>?_);subst hL;have hr3:RSl 6 Aw d2 r (Cm v.list (n+1)):=by rw[ZV,Aag,ZW] at hr2;exact hr2
     obtain⟨ra,rc,rfl⟩:=RSl.val hr3;(refine As rfl<|Aa<|Ac<|As rfl<|Ab rfl<|Ab rfl<|AI rfl rfl (by omega) (by omega)<|AD 1 rfl rfl rfl ?_);refine D4 rfl rfl (fun b81 T81=>?_);refine BF (fun d3 hl3 hg3=>?_);refine AR rfl (h3 (i:=n) (j:=n+1) (BL.mono hr3 hl3) (yone (Aw.mono (hl1.trans hl2) hy0) hl3 hg3) (by omega) (by omega) (by simp only[Aak];omega)) (fun r d4 L4 hl4 ⟨hL,hr4⟩=>?_);subst hL;obtain⟨sa,sc,rfl⟩:=RSl.val hr4;(apply DR;rfl;rfl);refine Az 0 [vZ 5,vZ 0,vZ 0,Al [],.slice sa _ sc,.slice none 0 0] rfl rfl rfl rfl (No rfl) rfl rfl ?_;(refine Ab rfl<|Aa<|Ar ?_);exact Bh 0 rfl rfl rfl (Aw.close (v:=.mk 5 0 0 [] ((Cm v.list (n+1)).take n++[y]++(Cm v.list (n+1)).drop (n+1)) []) EB Ba Ba (by simp) hr4 RSl.nil)
    ·have hpe:Cm v.list (n+1)=v.list:=by simp[Cm,show n+1 - v.list.length=0 by omega]
     rw[hpe];(refine Ab rfl<|Aa<|Ai<|Ac<|Ab rfl<|Ax rfl rfl<|Ad rfl<|AB rfl (by omega)<|Ae rfl<|Ab rfl<|Ae rfl<|AP rfl rfl<|An rfl rfl<|Aa<|Ao rfl (by omega)<|Am<|Ac<|Af rfl<|Ah rfl (Aj 3 rfl rfl)<|As rfl<|Aa<|Ai<|Ac<|Ab rfl<|AI rfl rfl (by omega) (by omega)<|As rfl<|AA rfl<|Bn rfl rfl (by omega) (by omega)<|Ab rfl<|Aa<|Ac<|Ab rfl<|AP rfl rfl<|Aa<|Ao rfl (by omega)<|Am<|Ac<|As rfl<|Ab rfl<|Ab rfl<|AI rfl rfl (by omega) (by omega)<|AD 1 rfl rfl rfl ?_);refine D4 rfl rfl (fun b81 T81=>?_);refine BF (fun d3 hl3 hg3=>?_);refine AR rfl (h3 (i:=n) (j:=n+1) (BL.mono hl hl3) (yone hy0 hl3 hg3) (by omega) (by omega) (by simp only[Aak];omega)) (fun r d4 L4 hl4 ⟨hL,hr4⟩=>?_);subst hL;obtain⟨sa,sc,rfl⟩:=RSl.val hr4;(apply DR;rfl;rfl);refine Az 0 [vZ 5,vZ 0,vZ 0,Al [],.slice sa _ sc,.slice none 0 0] rfl rfl rfl rfl (No rfl) rfl rfl ?_;(refine Ab rfl<|Aa<|Ar ?_);exact Bh 0 rfl rfl rfl (Aw.close (v:=.mk 5 0 0 [] (v.list.take n++[y]++v.list.drop (n+1)) []) EB Ba Ba (by simp) hr4 RSl.nil)
   omega
  ·rw[BP,if_neg (fun h=>s0 h.1),if_neg (fun h=>hk h.2),if_neg (fun h=>by omega)] at hF;cases hF;(refine Ac<|Af rfl<|Ah rfl (Aj 3 rfl rfl)<|Aq rfl rfl<|Ad rfl<|Aa<|Ai<|Av<|Ac<|Af rfl<|Ah rfl (Aj 2 rfl rfl)<|Aq rfl rfl<|Ad rfl<|AB rfl (by omega)<|Ak rfl<|Ak rfl<|AY rfl<|AY rfl<|AY rfl<|Ak rfl<|An rfl rfl<|Ad rfl<|Aa<|AK rfl<|Ac<|Af rfl<|Ah rfl (Aj 2 rfl rfl)<|Aq rfl rfl<|Ad rfl<|AE rfl (by omega)<|Ae rfl<|Ad rfl<|Ae rfl<|Ad rfl<|AB rfl (by omega)<|Ae rfl<|Af rfl<|Ae rfl<|Ah rfl (Aj 3 rfl rfl)<|Ae rfl<|Aq rfl rfl<|Ae rfl<|An rfl rfl<|Ap rfl rfl<|Ad rfl<|Aa<|Ao rfl (by omega)<|Ac<|Af rfl<|Ah rfl (Aj 2 rfl rfl)<|Aq rfl rfl<|Ad rfl<|AB rfl (by omega)<|Ak rfl<|Ak rfl<|AY rfl<|AY rfl<|AY rfl<|Ak rfl<|An rfl rfl<|Ad rfl<|Ak rfl<|Ak rfl<|Ak rfl<|An rfl rfl<|Ad rfl<|Aa<|AK rfl<|Am<|Ac<|Bl ?_);refine Az 0 [vZ 0,vZ 0,vZ 0,Al [],.slice none 0 0,.slice none 0 0] rfl rfl rfl rfl (No rfl) rfl rfl ?_;(refine Ab rfl<|Aa<|Ar ?_);exact Bh 0 rfl rfl rfl Aw.zero
 by_cases s2:s.kind=2
 ·by_cases hk:v.kind=0∨v.kind=5
  ·have hk2:=hk;by_cases k0:v.kind=0
   ·by_cases y5:y.kind=5
    ·rw[BP,if_neg (fun h=>s0 h.1),if_neg (fun h=>s1 h.1),if_pos ⟨s2,hk,y5⟩] at hF;cases hF;have hends:=C8 s (k:=v.list.length) (by omega);have n1:=RSl.Be hl;(refine Ac<|Af rfl<|Ah rfl (Aj 3 rfl rfl)<|Aq rfl rfl<|Ad rfl<|Aa<|Ai<|Av<|Ac<|Af rfl<|Ah rfl (Aj 2 rfl rfl)<|Aq rfl rfl<|Ad rfl<|AB rfl (by omega)<|Ak rfl<|Ak rfl<|AY rfl<|AY rfl<|AY rfl<|Ak rfl<|An rfl rfl<|Ad rfl<|Aa<|AK rfl<|Ac<|Af rfl<|Ah rfl (Aj 2 rfl rfl)<|Aq rfl rfl<|Ad rfl<|AB rfl (by omega)<|Ak rfl<|Ak rfl<|AY rfl<|AY rfl<|AY rfl<|Ak rfl<|An rfl rfl<|Ad rfl<|Aa<|AK rfl<|Ac<|Af rfl<|Ah rfl (Aj 2 rfl rfl)<|Aq rfl rfl<|Ad rfl<|AE rfl (by omega)<|Ae rfl<|Ad rfl<|Ae rfl<|Ad rfl<|AE rfl (by omega)<|Ak rfl<|Ak rfl<|Ak rfl<|Ae rfl<|Ap rfl rfl<|Ap rfl rfl<|Ad rfl<|Ae rfl<|Af rfl<|Ae rfl<|Ah rfl (Aj 1 rfl rfl)<|Ae rfl<|Aq rfl rfl<|Ap rfl rfl<|Ad rfl<|Aa<|Au rfl (by omega)<|Ac<|AD 2 rfl rfl rfl<|Af rfl<|Ah rfl (Aj 3 rfl rfl)<|AA rfl ?_);refine AF rfl (h4 hs (by omega) (by omega)) ?_;obtain⟨A,B,hab⟩:∃A B:Int,A5 s v.list.length=(A,B):=⟨_,_,rfl⟩
     rw[hab] at hends⊢;simp only at hends⊢;obtain⟨a,rfl⟩:∃a:Nat,A=(a:Int):=⟨A.toNat,by omega⟩
     obtain⟨b,rfl⟩:∃b:Nat,B=(b:Int):=⟨B.toNat,by omega⟩
     simp only[Z2];(refine Bj rfl<|AL rfl rfl<|AL rfl rfl<|Ab rfl<|Ab rfl<|Aa<|Ac<|Af rfl<|Ah rfl (Aj 3 rfl rfl)<|Ab rfl<|Ab rfl<|Af rfl<|Ah rfl (Aj 1 rfl rfl) ?_);refine AR rfl (h3 (i:=a) (j:=b) hl yhl (by omega) (by omega) (by omega)) (fun r d4 L4 hl4 ⟨hL,hr4⟩=>?_);subst hL;obtain⟨sa,sc,rfl⟩:=RSl.val hr4;(apply DR;rfl;rfl);refine Az 0 [vZ 5,vZ 0,vZ 0,Al [],.slice sa _ sc,.slice none 0 0] rfl rfl rfl rfl (No rfl) rfl rfl ?_;(refine Ab rfl<|Aa<|Ar ?_);exact Bh 0 rfl rfl rfl (Aw.close (v:=.mk 5 0 0 [] (v.list.take a++y.list++v.list.drop b) []) EB Ba Ba (by simp) hr4 RSl.nil)
    ·rw[BP,if_neg (fun h=>s0 h.1),if_neg (fun h=>s1 h.1),if_neg (fun h=>y5 h.2.2)] at hF;cases hF;(refine Ac<|Af rfl<|Ah rfl (Aj 3 rfl rfl)<|Aq rfl rfl<|Ad rfl<|Aa<|Ai<|Av<|Ac<|Af rfl<|Ah rfl (Aj 2 rfl rfl)<|Aq rfl rfl<|Ad rfl<|AB rfl (by omega)<|Ak rfl<|Ak rfl<|AY rfl<|AY rfl<|AY rfl<|Ak rfl<|An rfl rfl<|Ad rfl<|Aa<|AK rfl<|Ac<|Af rfl<|Ah rfl (Aj 2 rfl rfl)<|Aq rfl rfl<|Ad rfl<|AB rfl (by omega)<|Ak rfl<|Ak rfl<|AY rfl<|AY rfl<|AY rfl<|Ak rfl<|An rfl rfl<|Ad rfl<|Aa<|AK rfl<|Ac<|Af rfl<|Ah rfl (Aj 2 rfl rfl)<|Aq rfl rfl<|Ad rfl<|AE rfl (by omega)<|Ae rfl<|Ad rfl<|Ae rfl<|Ad rfl<|AE rfl (by omega)<|Ak rfl<|Ak rfl<|Ak rfl<|Ae rfl<|Ap rfl rfl<|Ap rfl rfl<|Ad rfl<|Ae rfl<|Af rfl<|Ae rfl<|Ah rfl (Aj 1 rfl rfl)<|Ae rfl<|Aq rfl rfl<|Ap rfl rfl<|Ad rfl<|Aa<|Ao rfl (by omega)<|Am<|Ac<|Bl ?_);refine Az 0 [vZ 0,vZ 0,vZ 0,Al [],.slice none 0 0,.slice none 0 0] rfl rfl rfl rfl (No rfl) rfl rfl ?_;(refine Ab rfl<|Aa<|Ar ?_);exact Bh 0 rfl rfl rfl Aw.zero
   by_cases k6:v.kind≠0
   ·by_cases y5:y.kind=5
    ·rw[BP,if_neg (fun h=>s0 h.1),if_neg (fun h=>s1 h.1),if_pos ⟨s2,hk,y5⟩] at hF;cases hF;have hends:=C8 s (k:=v.list.length) (by omega);have n1:=RSl.Be hl;(refine Ac<|Af rfl<|Ah rfl (Aj 3 rfl rfl)<|Aq rfl rfl<|Ad rfl<|Aa<|Ai<|Av<|Ac<|Af rfl<|Ah rfl (Aj 2 rfl rfl)<|Aq rfl rfl<|Ad rfl<|AB rfl (by omega)<|Ak rfl<|Ak rfl<|AY rfl<|AY rfl<|AY rfl<|Ak rfl<|An rfl rfl<|Ad rfl<|Aa<|AK rfl<|Ac<|Af rfl<|Ah rfl (Aj 2 rfl rfl)<|Aq rfl rfl<|Ad rfl<|AB rfl (by omega)<|Ak rfl<|Ak rfl<|AY rfl<|AY rfl<|AY rfl<|Ak rfl<|An rfl rfl<|Ad rfl<|Aa<|AK rfl<|Ac<|Af rfl<|Ah rfl (Aj 2 rfl rfl)<|Aq rfl rfl<|Ad rfl<|AE rfl (by omega)<|Ae rfl<|Ad rfl<|Ae rfl<|Ad rfl<|AB rfl (by omega)<|Ae rfl<|Af rfl<|Ae rfl<|Ah rfl (Aj 3 rfl rfl)<|Ae rfl<|Aq rfl rfl<|Ae rfl<|An rfl rfl<|Ap rfl rfl<|Ad rfl<|AE rfl (by omega)<|Ae rfl<|Af rfl<|Ae rfl<|Ah rfl (Aj 1 rfl rfl)<|Ae rfl<|Aq rfl rfl<|Ap rfl rfl<|Ad rfl<|Aa<|Au rfl (by omega)<|Ac<|AD 2 rfl rfl rfl<|Af rfl<|Ah rfl (Aj 3 rfl rfl)<|AA rfl ?_);refine AF rfl (h4 hs (by omega) (by omega)) ?_;obtain⟨A,B,hab⟩:∃A B:Int,A5 s v.list.length=(A,B):=⟨_,_,rfl⟩
     rw[hab] at hends⊢;simp only at hends⊢;obtain⟨a,rfl⟩:∃a:Nat,A=(a:Int):=⟨A.toNat,by omega⟩
     obtain⟨b,rfl⟩:∃b:Nat,B=(b:Int):=⟨B.toNat,by omega⟩
     simp only[Z2];(refine Bj rfl<|AL rfl rfl<|AL rfl rfl<|Ab rfl<|Ab rfl<|Aa<|Ac<|Af rfl<|Ah rfl (Aj 3 rfl rfl)<|Ab rfl<|Ab rfl<|Af rfl<|Ah rfl (Aj 1 rfl rfl) ?_);refine AR rfl (h3 (i:=a) (j:=b) hl yhl (by omega) (by omega) (by omega)) (fun r d4 L4 hl4 ⟨hL,hr4⟩=>?_);subst hL;obtain⟨sa,sc,rfl⟩:=RSl.val hr4;(apply DR;rfl;rfl);refine Az 0 [vZ 5,vZ 0,vZ 0,Al [],.slice sa _ sc,.slice none 0 0] rfl rfl rfl rfl (No rfl) rfl rfl ?_;(refine Ab rfl<|Aa<|Ar ?_);exact Bh 0 rfl rfl rfl (Aw.close (v:=.mk 5 0 0 [] (v.list.take a++y.list++v.list.drop b) []) EB Ba Ba (by simp) hr4 RSl.nil)
    ·rw[BP,if_neg (fun h=>s0 h.1),if_neg (fun h=>s1 h.1),if_neg (fun h=>y5 h.2.2)] at hF;cases hF;(refine Ac<|Af rfl<|Ah rfl (Aj 3 rfl rfl)<|Aq rfl rfl<|Ad rfl<|Aa<|Ai<|Av<|Ac<|Af rfl<|Ah rfl (Aj 2 rfl rfl)<|Aq rfl rfl<|Ad rfl<|AB rfl (by omega)<|Ak rfl<|Ak rfl<|AY rfl<|AY rfl<|AY rfl<|Ak rfl<|An rfl rfl<|Ad rfl<|Aa<|AK rfl<|Ac<|Af rfl<|Ah rfl (Aj 2 rfl rfl)<|Aq rfl rfl<|Ad rfl<|AB rfl (by omega)<|Ak rfl<|Ak rfl<|AY rfl<|AY rfl<|AY rfl<|Ak rfl<|An rfl rfl<|Ad rfl<|Aa<|AK rfl<|Ac<|Af rfl<|Ah rfl (Aj 2 rfl rfl)<|Aq rfl rfl<|Ad rfl<|AE rfl (by omega)<|Ae rfl<|Ad rfl<|Ae rfl<|Ad rfl<|AB rfl (by omega)<|Ae rfl<|Af rfl<|Ae rfl<|Ah rfl (Aj 3 rfl rfl)<|Ae rfl<|Aq rfl rfl<|Ae rfl<|An rfl rfl<|Ap rfl rfl<|Ad rfl<|AE rfl (by omega)<|Ae rfl<|Af rfl<|Ae rfl<|Ah rfl (Aj 1 rfl rfl)<|Ae rfl<|Aq rfl rfl<|Ap rfl rfl<|Ad rfl<|Aa<|Ao rfl (by omega)<|Am<|Ac<|Bl ?_);refine Az 0 [vZ 0,vZ 0,vZ 0,Al [],.slice none 0 0,.slice none 0 0] rfl rfl rfl rfl (No rfl) rfl rfl ?_;(refine Ab rfl<|Aa<|Ar ?_);exact Bh 0 rfl rfl rfl Aw.zero
   omega
  ·rw[BP,if_neg (fun h=>s0 h.1),if_neg (fun h=>s1 h.1),if_neg (fun h=>hk h.2.1)] at hF;cases hF;(refine Ac<|Af rfl<|Ah rfl (Aj 3 rfl rfl)<|Aq rfl rfl<|Ad rfl<|Aa<|Ai<|Av<|Ac<|Af rfl<|Ah rfl (Aj 2 rfl rfl)<|Aq rfl rfl<|Ad rfl<|AB rfl (by omega)<|Ak rfl<|Ak rfl<|AY rfl<|AY rfl<|AY rfl<|Ak rfl<|An rfl rfl<|Ad rfl<|Aa<|AK rfl<|Ac<|Af rfl<|Ah rfl (Aj 2 rfl rfl)<|Aq rfl rfl<|Ad rfl<|AB rfl (by omega)<|Ak rfl<|Ak rfl<|AY rfl<|AY rfl<|AY rfl<|Ak rfl<|An rfl rfl<|Ad rfl<|Aa<|AK rfl<|Ac<|Af rfl<|Ah rfl (Aj 2 rfl rfl)<|Aq rfl rfl<|Ad rfl<|AE rfl (by omega)<|Ae rfl<|Ad rfl<|Ae rfl<|Ad rfl<|AB rfl (by omega)<|Ae rfl<|Af rfl<|Ae rfl<|Ah rfl (Aj 3 rfl rfl)<|Ae rfl<|Aq rfl rfl<|Ae rfl<|An rfl rfl<|Ap rfl rfl<|Ad rfl<|AB rfl (by omega)<|Ak rfl<|Ak rfl<|Ak rfl<|An rfl rfl<|Ad rfl<|Aa<|AK rfl<|Am<|Ac<|Bl ?_);refine Az 0 [vZ 0,vZ 0,vZ 0,Al [],.slice none 0 0,.slice none 0 0] rfl rfl rfl rfl (No rfl) rfl rfl ?_;(refine Ab rfl<|Aa<|Ar ?_);exact Bh 0 rfl rfl rfl Aw.zero
 rw[BP,if_neg (fun h=>s0 h.1),if_neg (fun h=>s1 h.1),if_neg (fun h=>s2 h.1)] at hF;cases hF;by_cases k0:v.kind=0
 ·(refine Ac<|Af rfl<|Ah rfl (Aj 3 rfl rfl)<|Aq rfl rfl<|Ad rfl<|Aa<|Ai<|Av<|Ac<|Af rfl<|Ah rfl (Aj 2 rfl rfl)<|Aq rfl rfl<|Ad rfl<|AB rfl (by omega)<|Ak rfl<|Ak rfl<|AY rfl<|AY rfl<|AY rfl<|Ak rfl<|An rfl rfl<|Ad rfl<|Aa<|AK rfl<|Ac<|Af rfl<|Ah rfl (Aj 2 rfl rfl)<|Aq rfl rfl<|Ad rfl<|AB rfl (by omega)<|Ak rfl<|Ak rfl<|AY rfl<|AY rfl<|AY rfl<|Ak rfl<|An rfl rfl<|Ad rfl<|Aa<|AK rfl<|Ac<|Af rfl<|Ah rfl (Aj 2 rfl rfl)<|Aq rfl rfl<|Ad rfl<|AB rfl (by omega)<|Ak rfl<|Ak rfl<|AY rfl<|AY rfl<|AY rfl<|Ak rfl<|An rfl rfl<|Ad rfl<|Ak rfl<|Ak rfl<|Ak rfl<|An rfl rfl<|Ad rfl<|Aa<|AK rfl<|Am<|Ac<|Bl ?_);refine Az 0 [vZ 0,vZ 0,vZ 0,Al [],.slice none 0 0,.slice none 0 0] rfl rfl rfl rfl (No rfl) rfl rfl ?_;(refine Ab rfl<|Aa<|Ar ?_);exact Bh 0 rfl rfl rfl Aw.zero
 ·(refine Ac<|Af rfl<|Ah rfl (Aj 3 rfl rfl)<|Aq rfl rfl<|Ad rfl<|Aa<|Ai<|Av<|Ac<|Af rfl<|Ah rfl (Aj 2 rfl rfl)<|Aq rfl rfl<|Ad rfl<|AB rfl (by omega)<|Ak rfl<|Ak rfl<|AY rfl<|AY rfl<|AY rfl<|Ak rfl<|An rfl rfl<|Ad rfl<|Aa<|AK rfl<|Ac<|Af rfl<|Ah rfl (Aj 2 rfl rfl)<|Aq rfl rfl<|Ad rfl<|AB rfl (by omega)<|Ak rfl<|Ak rfl<|AY rfl<|AY rfl<|AY rfl<|Ak rfl<|An rfl rfl<|Ad rfl<|Aa<|AK rfl<|Ac<|Af rfl<|Ah rfl (Aj 2 rfl rfl)<|Aq rfl rfl<|Ad rfl<|AB rfl (by omega)<|Ak rfl<|Ak rfl<|AY rfl<|AY rfl<|AY rfl<|Ak rfl<|An rfl rfl<|Ad rfl<|Ak rfl<|Ak rfl<|Ak rfl<|An rfl rfl<|Ad rfl<|Aa<|AK rfl<|Am<|Ac<|Bl ?_);refine Az 0 [vZ 0,vZ 0,vZ 0,Al [],.slice none 0 0,.slice none 0 0] rfl rfl rfl rfl (No rfl) rfl rfl ?_;(refine Ab rfl<|Aa<|Ar ?_);exact Bh 0 rfl rfl rfl Aw.zero
def Ch:V→List St→V→V×Int
 |_,[],x=>(x,0)
 |v,s::l,x=>if (AU v s).2≠0 then(V.zero,(AU v s).2) else if (Ch (AU v s).1 l x).2≠0 then(V.zero,(Ch (AU v s).1 l x).2) else BP v s (Ch (AU v s).1 l x).1
def Dj(v:V)(s:St):Bq (AU v s).1≤Bq v:=by
 have h3:=B0 v;have hz:Bq V.zero=1:=by decide
 have hg:∀i:Nat,Bq (v.list.getD i V.zero)≤Bq v:=fun i=>by
  by_cases hi:i<v.list.length
  ·rw[show v.list.getD i V.zero=v.list[i] by simp[hi]];have:=HW (ZC hi);omega
  ·rw[show v.list.getD i V.zero=V.zero by simp[hi],hz];exact F0 v
 unfold AU;split
 ·simp only[hz];exact F0 v
 split
 ·simp only;split
  ·exact hg _
  ·rw[hz];exact F0 v
 split
 ·simp only[JV];split
  ·exact hg _
  ·rw[hz];exact F0 v
 split
 ·rw[B0];have h5:=KI (v.list.drop (A5 s v.list.length).1.toNat) ((A5 s v.list.length).2.toNat - (A5 s v.list.length).1.toNat);have h6:=Ki v.list (A5 s v.list.length).1.toNat;show 1+0+0+BV (Ez v.list (A5 s v.list.length))≤Bq v;simp only[Ez];omega
 split
 ·rw[B0];have h5:=JF (l:=v.text) (A5 s (chs v.text).length).1.toNat ((A5 s (chs v.text).length).2.toNat - (A5 s (chs v.text).length).1.toNat);show 1+(Ez (chs v.text) (A5 s (chs v.text).length)).flatten.length+0+0≤Bq v;simp only[Ez];omega
 ·simp only[hz];exact F0 v
def Dz:∀a b:List V,Co (a++b)=Co a+Co b
 |[],b=>by simp[Co]
 |x::a,b=>by simp only[List.cons_append,Co,Dz a b];omega
def I2{l:List V}{i j:Nat}(h:i≤j):Co (l.take i)+Co (l.drop j)≤Co l:=by
 have h1:=Dz (l.take i) (l.drop i);rw[ZM] at h1;have h2:=Dz ((l.drop i).take (j - i)) ((l.drop i).drop (j - i));rw[ZM,List.drop_drop,show i+(j - i)=j by omega] at h2;omega
def VN(n:Nat):Co (ZI n V.zero)=n:=by
 induction n with
 |zero=>rfl
 |succ n ih=>
  rw[List.replicate_succ]
  have:Cc V.zero=1:=by decide
  simp only[Co,ih,this];omega
def SF(v:V)(s:St)(y:V):Cc (BP v s y).1≤Cc v+Cc y+4100:=by
 have h3:=CZ v;have hy:=CZ y;have hz:Cc V.zero=1:=by decide
 unfold BP;split
 ·simp only[Cq];have hlt:AZ v.keys s.text≤toK v.keys s.text:=by unfold toK;split<;>omega
  have h4:=I2 (l:=v.list) hlt;have h5:(v.keys.take (AZ v.keys s.text)).length+(v.keys.drop (toK v.keys s.text)).length≤v.keys.length:=by simp;omega
  rw[CZ];show 1+(v.keys.take (AZ v.keys s.text)++[s.text]++v.keys.drop (toK v.keys s.text)).length+Co (v.list.take (AZ v.keys s.text)++[y]++v.list.drop (toK v.keys s.text))≤_;rw[Dz,Dz];simp only[List.length_append,Aak,Co];omega
 split
 ·split
  ·simp only[hz];omega
  ·rename_i hp;obtain⟨n,hn⟩:∃n:Nat,Bm s.src v.list.length=(n:Int):=⟨(Bm s.src v.list.length).toNat,by omega⟩
   rw[hn] at hp⊢;simp only[Z2];have h4:=I2 (l:=Cm v.list (n+1)) (show n≤n+1 by omega);have h5:Co (Cm v.list (n+1))≤Co v.list+(n+1):=by rw[Cm,Dz,VN];omega
   rw[CZ];show 1+0+Co ((Cm v.list (n+1)).take n++[y]++(Cm v.list (n+1)).drop (n+1))≤_;rw[Dz,Dz];simp only[Co];omega
 split
 ·have he:=C8 s (k:=v.list.length) (by omega);have h4:=I2 (l:=v.list) (show(A5 s v.list.length).1.toNat≤(A5 s v.list.length).2.toNat by omega);rw[CZ];show 1+0+Co (v.list.take (A5 s v.list.length).1.toNat++y.list++v.list.drop (A5 s v.list.length).2.toNat)≤_;rw[Dz,Dz];omega
 ·simp only[hz];omega
def XJ(v:V):1≤Cc v:=by have:=CZ v;omega
def Ld:∀(l:List St) (v x:V),Bq v≤1000000→Cc (Ch v l x).1≤Cc x+l.length*1004100
 |[],v,x,_=>by simp[Ch]
 |s::l,v,x,hb=>by
  have hz:Cc V.zero=1:=by decide
  have h1:=XJ x;have h2:=Ld l (AU v s).1 x (Aaf (Dj v s) hb);have h3:=SF v s (Ch (AU v s).1 l x).1;have h4:=Ec v;simp only[Ch,ZU];split
  ·simp only[hz];omega
  split
  ·simp only[hz];omega
  ·omega
def Rt(P:Program)(f:FuncId):Prop:=∀(l:List St) {d cs es w}{v x:V},Aw d cs v→Gd v→Bq v≤1000000→RSl 6 RSt d w l→Aw d es x→Cc x≤1000000→l.length≤100→
 A8 P f [.agg cs.toArray,w,.agg es.toArray] d [] (Ret fun r d' L'=>L'=[]∧∃cs',r=.tuple #[.agg cs'.toArray,vZ (Ch v l x).2]∧Aw d' cs' (Ch v l x).1)
def RU(a0 a1 a2:Nat):A6:=⟨46,[(.cell 6 (some 6)),(.tmp 7)],(sR (o1 3 (.box 0)<|o1 5 (.box 2)<|o1 6 (.alo (.agg #[(vZ 0),(vZ 0),(vZ 0),(Al []),(.slice none 0 0),(.slice none 0 0)]))<|o1 7 (.mv z0) .done) (.seq (sR (om 10 1<|oL 11 10<|ob 12 .eql 11 z0 .done) (.cond 12 (sR (o1 13 (.ld (some 6) 5)<|o0 (.st 6 6 13)<|o1 7 (.mv z0) .done) .ret) .skip)) (.seq (.reg true (pm 16 1<|p1 17 (.idx 6 16 z0)<|p1 18 (.ld (some 6) 17) (.alt ⟨(some 15),none,(.ld (some 6) 3)⟩ (.alt ⟨(some 19),none,(.call a0 [15,18])⟩ (pm 14 19 (p1 20 (.ext 14 0) (p1 21 (.ext 14 1) (o1 8 (.alo (.agg #[(vZ 0),(vZ 0),(vZ 0),(Al []),(.slice none 0 0),(.slice none 0 0)])) (o0 (.st 6 8 20) (pm 9 21 .done)))))) (o1 8 (.alo (.agg #[(vZ 0),(vZ 0),(vZ 0),(Al []),(.slice none 0 0),(.slice none 0 0)])) (oc 19 a0 [15,18] (pm 14 19 (p1 20 (.ext 14 0) (p1 21 (.ext 14 1) (o0 (.st 6 8 20) (pm 9 21 .done)))))))) (o1 8 (.alo (.agg #[(vZ 0),(vZ 0),(vZ 0),(Al []),(.slice none 0 0),(.slice none 0 0)])) (o1 15 (.ld (some 6) 3) (oc 19 a0 [15,18] (pm 14 19 (p1 20 (.ext 14 0) (p1 21 (.ext 14 1) (o0 (.st 6 8 20) (pm 9 21 .done))))))))))) (.seq (sR (om 22 9<|ob 23 .neq 22 z0 .done) (.cond 23 (sR (o1 24 (.bld [(0,1),(1,2),(3,1),(4,1),(5,1)] [(vZ 0),(vZ 0),(vZ 0),(Al []),(.slice none 0 0),(.slice none 0 0)] [])<|om 25 9<|o0 (.st 6 6 24)<|om 7 25 .done) .ret) .skip)) (.seq (.reg true (pm 28 1<|p1 29 (.sl 6 28 (some z1) none none) (.alt ⟨(some 27),none,(.ld (some 6) 8)⟩ (o1 30 (.ld (some 6) 5) (oc 31 a1 [27,29,30] (pm 26 31 (p1 32 (.ext 26 0) (p1 33 (.ext 26 1) (o0 (.st 6 8 32) (pm 9 33 .done))))))) (o1 30 (.ld (some 6) 5) (o1 27 (.ld (some 6) 8) (oc 31 a1 [27,29,30] (pm 26 31 (p1 32 (.ext 26 0) (p1 33 (.ext 26 1) (o0 (.st 6 8 32) (pm 9 33 .done))))))))))) (.seq (sR (om 34 9<|ob 35 .neq 34 z0 .done) (.cond 35 (sR (o1 36 (.bld [(0,1),(1,2),(3,1),(4,1),(5,1)] [(vZ 0),(vZ 0),(vZ 0),(Al []),(.slice none 0 0),(.slice none 0 0)] [])<|om 37 9<|o0 (.st 6 6 36)<|om 7 37 .done) .ret) .skip)) (.seq (.reg true (p1 38 (.ld (some 6) 3)<|pm 39 1<|p1 40 (.idx 6 39 z0)<|p1 41 (.ld (some 6) 40)<|p1 42 (.ld (some 6) 8)<|oc 43 a2 [38,41,42]<|p1 44 (.ext 43 0)<|p1 45 (.ext 43 1) (.bar (o0 (.st 6 6 44) (pm 7 45 .done))))) .ret)))))))⟩
set_option maxHeartbeats 2000000 in
def XX(hd:dec P f=some (RU f1 f f2))(h1:GR P f1)(h2:PJ P f2):Rt P f:=by
 intro l;induction l with
 |nil=>
  intro d cs es w v x hv hg hb hw hx hbx hll
  obtain⟨a,c,rfl⟩:=RSl.val hw
  refine Bd hd (No rfl) ?_
  obtain⟨c0,c1,c2,c3,c4,c5,rfl⟩:=six hv.len
  obtain⟨x0,x1,x2,x3,x4,x5,rfl⟩:=six hx.len
  show gwp P _ _ _ _ _
  apply Ai;apply Ay
  refine AO (l:=[c0,c1,c2,c3,c4,c5]) rfl (fun b3 T3=>?_)
  refine AO (l:=[x0,x1,x2,x3,x4,x5]) rfl (fun b5 T5=>?_)
  have hz:(([]:List St).length:Int)=0:=rfl
  (refine AX (fun _ _=>Ab rfl<|Aa<|Ai<|Ac<|As rfl<|AA rfl<|Aq rfl rfl<|Aa<|Au rfl (by omega)<|Ac<|AD 1 rfl rfl rfl ?_))
  refine Az 0 [x0,x1,x2,x3,x4,x5] rfl rfl rfl rfl (No rfl) (AH _ _ _ hx) rfl ?_
  (refine Ab rfl<|Aa<|Ar ?_)
  exact Bh 0 rfl rfl rfl hx
 |cons s l ih=>
  intro d cs es w v x hv hg hb hw hx hbx hll
  have n1:=RSl.Be hw
  obtain⟨a,c,rfl⟩:=RSl.val hw
  have hw':=hw
  have hcnt:=Ld l (AU v s).1 x (Aaf (Dj v s) hb)
  have hcb:=Ec v
  have hlc:((s::l).length:Int)=l.length+1:=by simp
  rw[ZU] at hll
  refine Bd hd (No rfl) ?_
  obtain⟨c0,c1,c2,c3,c4,c5,rfl⟩:=six hv.len
  obtain⟨x0,x1,x2,x3,x4,x5,rfl⟩:=six hx.len
  show gwp P _ _ _ _ _
  apply Ai;apply Ay
  refine AO (l:=[c0,c1,c2,c3,c4,c5]) rfl (fun b3 T3=>?_)
  refine AO (l:=[x0,x1,x2,x3,x4,x5]) rfl (fun b5 T5=>?_)
  (refine AX (fun _ _=>Ab rfl<|Aa ?_))
  rename_i b6 T6
  apply Ai;apply Ai;apply Ay
  (refine As rfl<|AA rfl<|Aq rfl rfl<|Aa ?_)
  refine Ao rfl (by omega) ?_
  apply Am
  refine Ct (fun ρ d' L'=>d'=d∧∃b8 T8 e0 e1 e2 e3 e4 e5,A9 ρ [(1,.slice a (s::l).length c),(3,pZ b3),(5,pZ b5),(6,pZ b6),(8,pZ b8),(9,vZ (AU v s).2)]∧Aw d [e0,e1,e2,e3,e4,e5] (AU v s).1∧
   L'=[bx b6 T6 [vZ 0,vZ 0,vZ 0,Al [],.slice none 0 0,.slice none 0 0],bx b5 T5 [x0,x1,x2,x3,x4,x5],bx b3 T3 [c0,c1,c2,c3,c4,c5],bx b8 T8 [e0,e1,e2,e3,e4,e5]]) ?_ ?_
  ·refine AT ?_
   (refine As rfl<|AJ (m:=0) (sz:=6) (R:=RSt) (by rfl) (by assumption) (by rfl) rfl (by omega) ?_;rintro _ _ _ _ _ ⟨rfl,_,_,_,_⟩;apply BE;rfl;assumption;rfl)
   rename_i hcs hD ik' it' is id
   have hS:RSt d [vZ s.kind,Al s.text,vZ s.src,vZ s.dst,.bool s.hf,.bool s.ht] s:=⟨rfl,ik',it',is,id⟩
   refine Dx ?_ ?_
   ·(apply AD 2;rfl;rfl;rfl)
    refine Dx ?_ ?_
    ·refine AR rfl (h1 hv (EF hg) (FY hg) hS) (fun r d3 L3 _ ⟨hdd,hL,cs',hr,hR'⟩=>?_)
     subst hdd;subst hL;subst hr
     obtain⟨e0,e1,e2,e3,e4,e5,rfl⟩:=six hR'.len
     (refine Bj rfl<|AL rfl rfl<|AL rfl rfl<|AX (fun _ _=>?_))
     rename_i b8 T8
     refine Az 0 [e0,e1,e2,e3,e4,e5] rfl rfl rfl rfl (No rfl) (AH _ _ _ hR') rfl ?_
     (refine Ab rfl<|AW ?_)
     exact⟨rfl,b8,T8,_,_,_,_,_,_,⟨rfl,rfl,rfl,rfl,rfl,rfl,trivial⟩,hR',rfl⟩
    ·(apply AX;intro _ _)
     rename_i b8 T8
     refine AR rfl (h1 hv (EF hg) (FY hg) hS) (fun r d3 L3 _ ⟨hdd,hL,cs',hr,hR'⟩=>?_)
     subst hdd;subst hL;subst hr
     obtain⟨e0,e1,e2,e3,e4,e5,rfl⟩:=six hR'.len
     (refine Bj rfl<|AL rfl rfl<|AL rfl rfl ?_)
     refine Az 0 [e0,e1,e2,e3,e4,e5] rfl rfl rfl rfl (No rfl) (AH _ _ _ hR') rfl ?_
     (refine Ab rfl<|AW ?_)
     exact⟨rfl,b8,T8,_,_,_,_,_,_,⟨rfl,rfl,rfl,rfl,rfl,rfl,trivial⟩,hR',rfl⟩
   ·(refine AX (fun _ _=>AD 2 rfl rfl rfl ?_))
    rename_i b8 T8
    refine AR rfl (h1 hv (EF hg) (FY hg) hS) (fun r d3 L3 _ ⟨hdd,hL,cs',hr,hR'⟩=>?_)
    subst hdd;subst hL;subst hr
    obtain⟨e0,e1,e2,e3,e4,e5,rfl⟩:=six hR'.len
    (refine Bj rfl<|AL rfl rfl<|AL rfl rfl ?_)
    refine Az 0 [e0,e1,e2,e3,e4,e5] rfl rfl rfl rfl (No rfl) (AH _ _ _ hR') rfl ?_
    (refine Ab rfl<|AW ?_)
    exact⟨rfl,b8,T8,_,_,_,_,_,_,⟨rfl,rfl,rfl,rfl,rfl,rfl,trivial⟩,hR',rfl⟩
  rintro ρ d' L' ⟨hdd,b8,T8,e0,e1,e2,e3,e4,e5,hsl,hR,hL⟩
  subst hdd;subst hL
  refine Bo _ hsl ?_
  clear hsl
  by_cases he:(AU v s).2≠0
  ·rw[Ch,if_pos he]
   (refine Ai<|Ac<|Ab rfl<|AG rfl rfl<|Aa<|Au rfl (by omega)<|Ac<|Bl<|Ab rfl ?_)
   refine Az 0 [vZ 0,vZ 0,vZ 0,Al [],.slice none 0 0,.slice none 0 0] rfl rfl rfl rfl (No rfl) rfl rfl ?_
   (refine Ab rfl<|Aa<|Ar ?_)
   exact Bh 0 rfl rfl rfl Aw.zero
  rw[Ch,if_neg he]
  (refine Ai<|Ac<|Ab rfl<|AG rfl rfl<|Aa<|Ao rfl (by omega) ?_)
  apply Am
  refine Ct (fun ρ d9 L9=>Le d' d9∧∃f0 f1 f2 f3 f4 f5,A9 ρ [(1,.slice a (s::l).length c),(3,pZ b3),(5,pZ b5),(6,pZ b6),(8,pZ b8),(9,vZ (Ch (AU v s).1 l x).2)]∧Aw d9 [f0,f1,f2,f3,f4,f5] (Ch (AU v s).1 l x).1∧
   L9=[bx b6 T6 [vZ 0,vZ 0,vZ 0,Al [],.slice none 0 0,.slice none 0 0],bx b5 T5 [x0,x1,x2,x3,x4,x5],bx b3 T3 [c0,c1,c2,c3,c4,c5],bx b8 T8 [f0,f1,f2,f3,f4,f5]]) ?_ ?_
  ·refine Dh [bx b6 T6 [vZ 0,vZ 0,vZ 0,Al [],.slice none 0 0,.slice none 0 0],bx b5 T5 [x0,x1,x2,x3,x4,x5],bx b3 T3 [c0,c1,c2,c3,c4,c5]] [bx b8 T8 [e0,e1,e2,e3,e4,e5]] rfl ?_
   (apply As;rfl)
   refine DF (n:=1) rfl hw' rfl rfl (by simp) (fun v' hv'=>?_)
   refine Dx ?_ ?_
   ·(refine AD 3 rfl rfl rfl<|AD 1 rfl rfl rfl ?_)
    refine AR rfl (ih hR (Gu hg s) (Aaf (Dj v s) hb) hv' hx hbx (by omega)) (fun r d4 L4 hl4 ⟨hL,cs',hr,hR'⟩=>?_)
    subst hL;subst hr
    obtain⟨f0,f1,f2,f3,f4,f5,rfl⟩:=six hR'.len
    (refine Bj rfl<|AL rfl rfl<|AL rfl rfl ?_)
    refine Az 0 [f0,f1,f2,f3,f4,f5] rfl rfl rfl rfl (No rfl) (AH _ _ _ hR') rfl ?_
    (refine Ab rfl<|AW ?_)
    exact⟨hl4,_,_,_,_,_,_,⟨rfl,rfl,rfl,rfl,rfl,rfl,trivial⟩,hR',rfl⟩
   ·(refine AD 1 rfl rfl rfl<|AD 3 rfl rfl rfl ?_)
    refine AR rfl (ih hR (Gu hg s) (Aaf (Dj v s) hb) hv' hx hbx (by omega)) (fun r d4 L4 hl4 ⟨hL,cs',hr,hR'⟩=>?_)
    subst hL;subst hr
    obtain⟨f0,f1,f2,f3,f4,f5,rfl⟩:=six hR'.len
    (refine Bj rfl<|AL rfl rfl<|AL rfl rfl ?_)
    refine Az 0 [f0,f1,f2,f3,f4,f5] rfl rfl rfl rfl (No rfl) (AH _ _ _ hR') rfl ?_
    (refine Ab rfl<|AW ?_)
    exact⟨hl4,_,_,_,_,_,_,⟨rfl,rfl,rfl,rfl,rfl,rfl,trivial⟩,hR',rfl⟩
  rintro ρ d4 L' ⟨hl4,f0,f1,f2,f3,f4,f5,hsl,hR',hL⟩
  subst hL
  refine Bo _ hsl ?_
  clear hsl
  by_cases he2:(Ch (AU v s).1 l x).2≠0
  ·rw[if_pos he2]
   (refine Ai<|Ac<|Ab rfl<|AG rfl rfl<|Aa<|Au rfl (by omega)<|Ac<|Bl<|Ab rfl ?_)
   refine Az 0 [vZ 0,vZ 0,vZ 0,Al [],.slice none 0 0,.slice none 0 0] rfl rfl rfl rfl (No rfl) rfl rfl ?_
   (refine Ab rfl<|Aa<|Ar ?_)
   exact Bh 0 rfl rfl rfl Aw.zero
  rw[if_neg he2]
  have hw4:RSl 6 RSt d4 (.slice a (s::l).length c) (s::l):=RSl.mono (R:=RSt) (fun hl h=>h) hw' hl4
  (refine Ai<|Ac<|Ab rfl<|AG rfl rfl<|Aa<|Ao rfl (by omega)<|Am<|Ai ?_)
  refine AT ?_
  (refine AD 2 rfl rfl rfl<|As rfl<|AJ (m:=0) (sz:=6) (R:=RSt) (by rfl) (by assumption) (by rfl) rfl (by omega) ?_;rintro _ _ _ _ _ ⟨rfl,_,_,_,_⟩;refine BE rfl (by assumption) rfl<|AD 3 rfl rfl rfl ?_)
  rename_i hcs hD ik' it' is id
  refine AR rfl (h2 (Aw.mono hl4 hv) (EF hg) ⟨rfl,ik',it',is,id⟩ hR' (by omega)) (fun r d5 L5 hl5 ⟨hL,cs',hr,hR2⟩=>?_)
  subst hL;subst hr
  obtain⟨g0,g1,g2,g3,g4,g5,rfl⟩:=six hR2.len
  (refine AL rfl rfl<|AL rfl rfl<|Bt ?_)
  refine Az 0 [g0,g1,g2,g3,g4,g5] rfl rfl rfl rfl (No rfl) (AH _ _ _ hR2) rfl ?_
  (refine Ab rfl<|Aa<|Ar ?_)
  exact Bh 0 rfl rfl rfl hR2
def CG(v:V)(l:List St)(x:V):V×Int:=
 if AS v≠0 then(V.zero,AS v) else if AS x≠0 then(V.zero,AS x) else if Cw v l≠0 then(V.zero,Cw v l)
 else if (Ch v l x).2≠0 then(V.zero,(Ch v l x).2) else if AS (Ch v l x).1≠0 then(V.zero,AS (Ch v l x).1) else((Ch v l x).1,0)
def S6(T:Ag→Prop)(P:Program)(f:FuncId):Prop:=∀{d cs es w}{v x:V}{l:List St},T d→Aw d cs v→RSl 6 RSt d w l→Aw d es x→Bq v≤1000000→Cc x≤1000000→l.length≤100→
 A8 P f [.agg cs.toArray,w,.agg es.toArray] d [] (Ret fun r d' L'=>d'=d∧∃cs' h,r=.tuple #[.agg cs'.toArray,vZ (CG v l x).2]∧L'=[h]∧Cv cs' (CG v l x).1 h)
def RT(a0 a1 a2 a3:Nat):A6:=⟨49,[(.cell 6 (some 6)),(.tmp 7)],(sR (o1 3 (.box 0)<|o1 5 (.box 2)<|o1 6 (.alo (.agg #[(vZ 0),(vZ 0),(vZ 0),(Al []),(.slice none 0 0),(.slice none 0 0)]))<|o1 7 (.mv z0) .done) (.seq (sR (o1 13 (.ld (some 6) 3)<|oc 14 a0 [13]<|om 8 14 .done) (sR (om 15 8<|ob 16 .neq 15 z0 .done) (.cond 16 (sR (o1 17 (.bld [(0,1),(1,2),(3,1),(4,1),(5,1)] [(vZ 0),(vZ 0),(vZ 0),(Al []),(.slice none 0 0),(.slice none 0 0)] [])<|om 18 8<|o0 (.st 6 6 17)<|om 7 18 .done) .ret) .skip))) (.seq (sR (o1 19 (.ld (some 6) 5)<|oc 20 a0 [19]<|om 9 20 .done) (sR (om 21 9<|ob 22 .neq 21 z0 .done) (.cond 22 (sR (o1 23 (.bld [(0,1),(1,2),(3,1),(4,1),(5,1)] [(vZ 0),(vZ 0),(vZ 0),(Al []),(.slice none 0 0),(.slice none 0 0)] [])<|om 24 9<|o0 (.st 6 6 23)<|om 7 24 .done) .ret) .skip))) (.seq (sR (o1 25 (.ld (some 6) 3)<|om 26 1<|oc 27 a1 [25,26]<|om 10 27 .done) (sR (om 28 10<|ob 29 .neq 28 z0 .done) (.cond 29 (sR (o1 30 (.bld [(0,1),(1,2),(3,1),(4,1),(5,1)] [(vZ 0),(vZ 0),(vZ 0),(Al []),(.slice none 0 0),(.slice none 0 0)] [])<|om 31 10<|o0 (.st 6 6 30)<|om 7 31 .done) .ret) .skip))) (sR (o1 33 (.ld (some 6) 3)<|om 34 1<|o1 35 (.ld (some 6) 5)<|oc 36 a2 [33,34,35]<|om 32 36<|oe 37 32 0<|oe 38 32 1<|o1 11 (.alo (.agg #[(vZ 0),(vZ 0),(vZ 0),(Al []),(.slice none 0 0),(.slice none 0 0)]))<|o0 (.st 6 11 37)<|om 12 38 .done) (.seq (sR (om 39 12<|ob 40 .eql 39 z0 .done) (.cond 40 (rG (o1 41 (.ld (some 6) 11)<|oc 42 a0 [41]<|om 12 42 .done)) .skip)) (.seq (sR (om 43 12<|ob 44 .neq 43 z0 .done) (.cond 44 (sR (o1 45 (.bld [(0,1),(1,2),(3,1),(4,1),(5,1)] [(vZ 0),(vZ 0),(vZ 0),(Al []),(.slice none 0 0),(.slice none 0 0)] [])<|om 46 12<|o0 (.st 6 6 45)<|om 7 46 .done) .ret) .skip)) (sR (o1 47 (.ld (some 6) 11)<|oc 48 a3 [47]<|o0 (.st 6 6 48)<|o1 7 (.mv z0) .done) .ret))))))))⟩
set_option maxHeartbeats 1000000 in
def YX{T:Ag→Prop}{f4}(hT:∀{d d'},Le d d'→T d→T d')(hd:dec P f=some (RT f1 f2 f3 f4))(h1:Fq T P f1)(h2:Lv T P f2)(h3:Rt P f3)(h4:Hm P f4):S6 T P f:=by
 intro d cs es w v x l ht hv hw hx hbv hbx hll;have n1:=RSl.Be hw;obtain⟨a,c,rfl⟩:=RSl.val hw;have hcnt:=Ld l v x hbv;refine A8.forget (Q:=fun r L'=>∃cs' h,r=.tuple #[.agg cs'.toArray,vZ (CG v l x).2]∧L'=[h]∧Cv cs' (CG v l x).1 h) ?_;refine Bd hd (No rfl) ?_;obtain⟨c0,c1,c2,c3,c4,c5,rfl⟩:=six hv.len;obtain⟨x0,x1,x2,x3,x4,x5,rfl⟩:=six hx.len;show gwp P _ _ _ _ _;apply Ai;apply Ay;refine AO (l:=[c0,c1,c2,c3,c4,c5]) rfl (fun b3 T3=>?_);refine AO (l:=[x0,x1,x2,x3,x4,x5]) rfl (fun b5 T5=>?_);(refine AX (fun _ _=>Ab rfl<|Aa<|Ai<|Ac<|AD 2 rfl rfl rfl ?_));rename_i b6 T6;refine AF rfl (h1 ht hv) ?_;by_cases q1:AS v≠0
 ·rw[CG,if_pos q1];(refine Ab rfl<|Aa<|Ac<|Ab rfl<|AG rfl rfl<|Aa<|Au rfl (by omega)<|Ac<|Bl<|Ab rfl ?_);refine Az 0 [vZ 0,vZ 0,vZ 0,Al [],.slice none 0 0,.slice none 0 0] rfl rfl rfl rfl (No rfl) rfl rfl ?_;(refine Ab rfl<|Aa<|Ar ?_);exact G8 0 rfl rfl rfl Cv.zero DN
 (refine Ab rfl<|Aa<|Ac<|Ab rfl<|AG rfl rfl<|Aa<|Ao rfl (by omega)<|Am<|Ai<|Ac<|AD 1 rfl rfl rfl ?_);refine AF rfl (h1 ht hx) ?_;by_cases q2:AS x≠0
 ·rw[CG,if_neg q1,if_pos q2];(refine Ab rfl<|Aa<|Ac<|Ab rfl<|AG rfl rfl<|Aa<|Au rfl (by omega)<|Ac<|Bl<|Ab rfl ?_);refine Az 0 [vZ 0,vZ 0,vZ 0,Al [],.slice none 0 0,.slice none 0 0] rfl rfl rfl rfl (No rfl) rfl rfl ?_;(refine Ab rfl<|Aa<|Ar ?_);exact G8 0 rfl rfl rfl Cv.zero DN
 (refine Ab rfl<|Aa<|Ac<|Ab rfl<|AG rfl rfl<|Aa<|Ao rfl (by omega)<|Am<|Ai<|Ac<|AD 2 rfl rfl rfl<|As rfl ?_);refine AF rfl (h2 ht hv hw) ?_;by_cases q3:Cw v l≠0
 ·rw[CG,if_neg q1,if_neg q2,if_pos q3];(refine Ab rfl<|Aa<|Ac<|Ab rfl<|AG rfl rfl<|Aa<|Au rfl (by omega)<|Ac<|Bl<|Ab rfl ?_);refine Az 0 [vZ 0,vZ 0,vZ 0,Al [],.slice none 0 0,.slice none 0 0] rfl rfl rfl rfl (No rfl) rfl rfl ?_;(refine Ab rfl<|Aa<|Ar ?_);exact G8 0 rfl rfl rfl Cv.zero DN
 rw[CG,if_neg q1,if_neg q2,if_neg q3];have hgd:=Gv (v:=v) (by simpa using q1) (by omega);(refine Ab rfl<|Aa<|Ac<|Ab rfl<|AG rfl rfl<|Aa<|Ao rfl (by omega)<|Am<|Ac<|AD 2 rfl rfl rfl<|As rfl<|AD 1 rfl rfl rfl ?_);refine AR rfl (h3 l hv hgd hbv hw hx hbx hll) (fun r d2 L2 hl2 ⟨hL,cs',hr,hR⟩=>?_);subst hL;subst hr;obtain⟨f0,f1',f2',f3',f4',f5,rfl⟩:=six hR.len;(refine Bj rfl<|AL rfl rfl<|AL rfl rfl<|AX (fun _ _=>?_));rename_i b11 T11;refine Az 0 [f0,f1',f2',f3',f4',f5] rfl rfl rfl rfl (No rfl) (AH _ _ _ hR) rfl ?_;by_cases q4:(Ch v l x).2≠0
 ·rw[if_pos q4];(refine Ab rfl<|Aa<|Ai<|Ac<|Ab rfl<|Aq rfl rfl<|Aa<|Ao rfl (by omega)<|Am<|Ai<|Ac<|Ab rfl<|AG rfl rfl<|Aa<|Au rfl (by omega)<|Ac<|Bl<|Ab rfl ?_);refine Az 1 [vZ 0,vZ 0,vZ 0,Al [],.slice none 0 0,.slice none 0 0] rfl rfl rfl rfl (No rfl) rfl rfl ?_;(refine Ab rfl<|Aa<|Ar ?_);exact G8 1 rfl rfl rfl Cv.zero DN
 rw[if_neg q4];(refine Ab rfl<|Aa<|Ai<|Ac<|Ab rfl<|Aq rfl rfl<|Aa<|Au rfl (by omega)<|Ay<|AD 0 rfl rfl rfl ?_);refine AF rfl (h1 (hT hl2 ht) hR) ?_;by_cases q5:AS (Ch v l x).1≠0
 ·rw[if_pos q5];(refine Ab rfl<|Aa<|Ai<|Ac<|Ab rfl<|AG rfl rfl<|Aa<|Au rfl (by omega)<|Ac<|Bl<|Ab rfl ?_);refine Az 1 [vZ 0,vZ 0,vZ 0,Al [],.slice none 0 0,.slice none 0 0] rfl rfl rfl rfl (No rfl) rfl rfl ?_;(refine Ab rfl<|Aa<|Ar ?_);exact G8 1 rfl rfl rfl Cv.zero DN
 rw[if_neg q5];(refine Ab rfl<|Aa<|Ai<|Ac<|Ab rfl<|AG rfl rfl<|Aa<|Ao rfl (by omega)<|Am<|Ac<|AD 0 rfl rfl rfl ?_);refine AR rfl (h4 _ hR (by omega)) (fun r d3 L3 _ ⟨hdd,cs',g,hr,hL,ho⟩=>?_);subst hdd;subst hL;subst hr;obtain⟨e0,e1,e2,e3,e4,e5,rfl⟩:=six ho.cells.1;refine Az 2 [e0,e1,e2,e3,e4,e5] rfl rfl rfl rfl (No rfl) ho.cells.2 rfl ?_;(refine Ab rfl<|Aa<|Ar ?_);exact G8 2 rfl rfl rfl ho (Vs.drop ((ZB _).cons_cons _))
def Bv(v:V)(s:St):V×Int:=
 if v.kind=0 then(v,0)
 else if s.kind=0∧v.kind=6 then
  (if s.text∈v.keys then .mk 6 0 0 [] (v.list.take (AZ v.keys s.text)++[]++v.list.drop (AZ v.keys s.text+1)) (v.keys.take (AZ v.keys s.text)++[]++v.keys.drop (AZ v.keys s.text+1)) else v,0)
 else if s.kind=1∧v.kind=5 then
  (if Bm s.src v.list.length<0∨(v.list.length:Int)≤Bm s.src v.list.length then v else .mk 5 0 0 [] (v.list.take (Bm s.src v.list.length).toNat++[]++v.list.drop ((Bm s.src v.list.length).toNat+1)) [],0)
 else if s.kind=2∧v.kind=5 then(.mk 5 0 0 [] (v.list.take (A5 s v.list.length).1.toNat++[]++v.list.drop (A5 s v.list.length).2.toNat) [],0)
 else(V.zero,80)
def KT(P:Program)(f:FuncId):Prop:=∀{d cs ds}{v:V}{s:St},Aw d cs v→BW v=true→RSt d ds s→Cc v≤900000000→
 A8 P f [.agg cs.toArray,.agg ds.toArray] d [] (Ret fun r d' L'=>L'=[]∧∃cs',r=.tuple #[.agg cs'.toArray,vZ (Bv v s).2]∧Aw d' cs' (Bv v s).1)
def MQ(a0 a1 a2 a3 a4:Nat):A6:=⟨105,[(.cell 4 (some 6)),(.tmp 5)],(sR (o1 2 (.box 0)<|o1 3 (.box 1)<|o1 4 (.alo (.agg #[(vZ 0),(vZ 0),(vZ 0),(Al []),(.slice none 0 0),(.slice none 0 0)]))<|o1 5 (.mv z0) .done) (.seq (.block 0 (sR (oj 12 0 2<|ol 13 12<|ob 14 .eql 13 z0<|om 11 14 .done) (.cond 11 (sR (o1 15 (.ld (some 6) 2)<|o0 (.st 6 4 15)<|o1 5 (.mv z0) .done) .ret) (sR (oj 17 0 3<|ol 18 17<|ob 19 .eql 18 z0<|om 20 19<|oT 21 20 (.fld 0 2)<|oT 22 20 (.ld none 21)<|oT 23 20 (.bin .eql 22 (kZ 6))<|gP 24 20 23<|om 16 24 .done) (.cond 16 (sR (oj 26 5 2<|ol 27 26<|oj 28 1 3<|ol 29 28<|oc 30 a0 [27,29]<|om 25 30<|oe 31 25 0<|oe 32 25 1<|om 6 31<|om 7 32 .done) (.seq (sR (om 33 7<|o1 34 (.un .not 33) .done) (.cond 34 (sR (o1 35 (.ld (some 6) 2)<|o0 (.st 6 4 35)<|o1 5 (.mv z0) .done) .ret) .skip)) (.seq (.reg true (p1 36 (.fld 5 2)<|pl 37 36<|pm 38 6<|pm 39 6<|p1 40 (.bin .add 39 z1)<|p1 42 (.fld 4 2)<|pl 43 42<|pm 44 6<|pm 45 6<|p1 46 (.bin .add 45 z1)<|oc 41 a1 [37,38,40,nS]<|oc 47 a2 [43,44,46,nS]<|p1 48 (.bld [(0,1),(1,2),(3,1),(4,1),(5,1)] [(vZ 0),(vZ 0),(vZ 0),(Al []),(.slice none 0 0),(.slice none 0 0)] [(0,(kZ 6)),(4,41),(3,47)]) (.bar (o0 (.st 6 4 48) (p1 5 (.mv z0) .done))))) .ret))) (sR (oj 50 0 3<|ol 51 50<|ob 52 .eql 51 z1<|om 53 52<|oT 54 53 (.fld 0 2)<|oT 55 53 (.ld none 54)<|oT 56 53 (.bin .eql 55 (kZ 5))<|gP 57 53 56<|om 49 57 .done) (.cond 49 (sR (oj 58 2 3<|ol 59 58<|oj 60 4 2<|ol 61 60<|oL 62 61<|oc 63 a3 [59,62]<|om 8 63 .done) (.seq (sR (om 64 8<|ob 65 .lss 64 z0<|om 66 65<|gF 67 66 8<|oF 68 66 (.fld 4 2)<|oF 69 66 (.ld none 68)<|oF 70 66 (.len 69)<|oF 71 66 (.bin .geq 67 70)<|o1 72 (.pick 66 (.const (.bool true)) 71) .done) (.cond 72 (sR (o1 73 (.ld (some 6) 2)<|o0 (.st 6 4 73)<|o1 5 (.mv z0) .done) .ret) .skip)) (sR (oj 74 4 2<|ol 75 74<|om 76 8<|om 77 8<|ob 78 .add 77 z1<|oc 79 a2 [75,76,78,nS]<|o1 80 (.bld [(0,1),(1,2),(3,1),(4,1),(5,1)] [(vZ 0),(vZ 0),(vZ 0),(Al []),(.slice none 0 0),(.slice none 0 0)] [(0,(kZ 5)),(3,79)])<|o0 (.st 6 4 80)<|o1 5 (.mv z0) .done) .ret))) (sR (oj 82 0 3<|ol 83 82<|ob 84 .eql 83 z2<|om 85 84<|oT 86 85 (.fld 0 2)<|oT 87 85 (.ld none 86)<|oT 88 85 (.bin .eql 87 (kZ 5))<|gP 89 85 88<|om 81 89 .done) (.cond 81 (sR (o1 91 (.ld (some 6) 3)<|oj 92 4 2<|ol 93 92<|oL 94 93<|oc 95 a4 [91,94]<|om 90 95<|oe 96 90 0<|oe 97 90 1<|om 9 96<|om 10 97 .done) (sR (oj 98 4 2<|ol 99 98<|om 100 9<|om 101 10<|oc 102 a2 [99,100,101,nS]<|o1 103 (.bld [(0,1),(1,2),(3,1),(4,1),(5,1)] [(vZ 0),(vZ 0),(vZ 0),(Al []),(.slice none 0 0),(.slice none 0 0)] [(0,(kZ 5)),(3,102)])<|o0 (.st 6 4 103)<|o1 5 (.mv z0) .done) .ret)) .skip))))))))) (sR (o1 104 (.bld [(0,1),(1,2),(3,1),(4,1),(5,1)] [(vZ 0),(vZ 0),(vZ 0),(Al []),(.slice none 0 0),(.slice none 0 0)] [])<|o0 (.st 6 4 104)<|o1 5 (.mv (kZ 80)) .done) .ret)))⟩
set_option maxHeartbeats 2000000 in
def SN{f4 f5}(hd:dec P f=some (MQ f1 f2 f3 f4 f5))(h1:HS P f1)(h2:Hg 1 A2 P f2)(h3:Hg 6 Aw P f3)(h4:Hl P f4)(h5:FB P f5):KT P f:=by
 intro d cs ds v s hv hone hs hb;refine Bd hd (No rfl) ?_;have hr:=DL hone;have b1:=Ex (v:=v);have b2':=Gm (v:=v);obtain⟨w,e,hF⟩:∃w e,Bv v s=(w,e):=⟨_,_,rfl⟩
 rw[hF];have hs':=hs;obtain⟨hds,ik',it',is,id⟩:=hs';subst hds;have hv0:=hv;obtain⟨lv,kv,rfl,ik,im,ie,it,hl,hks⟩:=hv.open;obtain⟨la,lc,rfl⟩:=RSl.val hl;obtain⟨ka,kc,rfl⟩:=RSl.val hks;have n1:=RSl.Be hl;show gwp P _ _ _ _ _;apply Ai;apply Ay;refine AO (l:=[vZ v.kind,vZ v.m,vZ v.e,Al v.text,.slice la v.list.length lc,.slice ka v.keys.length kc]) rfl (fun b2 T2=>?_);refine AO (l:=[vZ s.kind,Al s.text,vZ s.src,vZ s.dst,.bool s.hf,.bool s.ht]) rfl (fun b3 T3=>?_);(refine AX (fun _ _=>Ab rfl<|Aa ?_));rename_i b4 T4;by_cases k0:v.kind=0
 ·rw[Bv,if_pos k0] at hF;cases hF;(refine Ai<|Av<|Ac<|Af rfl<|Ah rfl (Aj 2 rfl rfl)<|Aq rfl rfl<|Ad rfl<|Aa<|Au rfl (by omega)<|Ac<|AD 2 rfl rfl rfl ?_);refine Az 0 [vZ v.kind,vZ v.m,vZ v.e,Al v.text,.slice la v.list.length lc,.slice ka v.keys.length kc] rfl rfl rfl rfl (No rfl) rfl rfl ?_;(refine Ab rfl<|Aa<|Ar ?_);exact Bh 0 rfl rfl rfl hv0
 by_cases s0:s.kind=0
 ·by_cases v6:v.kind=6
  ·rw[Bv,if_neg k0,if_pos ⟨s0,v6⟩] at hF;have hlens:=FT hone v6;(refine Ai<|Av<|Ac<|Af rfl<|Ah rfl (Aj 2 rfl rfl)<|Aq rfl rfl<|Ad rfl<|Aa<|Ao rfl (by omega)<|Ac<|Af rfl<|Ah rfl (Aj 1 rfl rfl)<|Aq rfl rfl<|Ad rfl<|AE rfl (by omega)<|Ae rfl<|Af rfl<|Ae rfl<|Ah rfl (Aj 2 rfl rfl)<|Ae rfl<|Aq rfl rfl<|Ap rfl rfl<|Ad rfl<|Aa<|Au rfl (by omega)<|Ac<|Af rfl<|Ah rfl (Aj 2 rfl rfl)<|Af rfl<|Ah rfl (Aj 1 rfl rfl) ?_);refine AF rfl (h1 hks hr) ?_;by_cases hm:s.text∈v.keys
   ·rw[if_pos hm] at hF;cases hF;obtain⟨hlo,_⟩:=(mem_iff hr).1 hm;have hm':(!decide (s.text∈v.keys))=false:=by simp[hm]
    (refine Bj rfl<|AL rfl rfl<|AL rfl rfl<|Ab rfl<|Ad rfl<|Aa<|Ai<|Ac<|Ad rfl<|Bi rfl<|Aa ?_;apply CU;rfl;(with_reducible assumption);refine Am<|Ai ?_);refine AT ?_;(refine Af rfl<|Ah rfl (Aj 2 rfl rfl)<|Ab rfl<|Ab rfl<|AI rfl rfl (by omega) (by omega)<|Af rfl<|Ah rfl (Aj 2 rfl rfl)<|Ab rfl<|Ab rfl<|AI rfl rfl (by omega) (by omega) ?_);refine AR rfl (h2 (i:=AZ v.keys s.text) (j:=AZ v.keys s.text+1) (ys:=[]) hks RSl.nil (by omega) (by omega) (by simp;omega)) (fun r d2 L2 hl2 ⟨hL,hr2⟩=>?_);subst hL;obtain⟨ra,rc,rfl⟩:=RSl.val hr2;refine AR rfl (h3 (i:=AZ v.keys s.text) (j:=AZ v.keys s.text+1) (ys:=[]) (BL.mono hl hl2) RSl.nil (by omega) (by omega) (by simp;omega)) (fun r d4 L4 hl4 ⟨hL,hr4⟩=>?_);subst hL;obtain⟨sa,sc,rfl⟩:=RSl.val hr4;(refine Gh rfl rfl rfl<|Bt ?_);refine Az 0 [vZ 6,vZ 0,vZ 0,Al [],.slice sa _ sc,.slice ra _ rc] rfl rfl rfl rfl (No rfl) rfl rfl ?_;(refine Ab rfl<|Aa<|Ar ?_);exact Bh 0 rfl rfl rfl (Aw.close (v:=.mk 6 0 0 [] (v.list.take (AZ v.keys s.text)++[]++v.list.drop (AZ v.keys s.text+1)) (v.keys.take (AZ v.keys s.text)++[]++v.keys.drop (AZ v.keys s.text+1))) G9 Ba Ba (by simp) hr4 (BK.mono hr2 hl4))
   ·rw[if_neg hm] at hF;cases hF;have hm':(!decide (s.text∈v.keys))=true:=by simp[hm]
    (refine Bj rfl<|AL rfl rfl<|AL rfl rfl<|Ab rfl<|Ad rfl<|Aa<|Ai<|Ac<|Ad rfl<|Bi rfl<|Aa ?_;apply E9;rfl;(with_reducible assumption);refine Ac<|AD 2 rfl rfl rfl ?_);refine Az 0 [vZ v.kind,vZ v.m,vZ v.e,Al v.text,.slice la v.list.length lc,.slice ka v.keys.length kc] rfl rfl rfl rfl (No rfl) rfl rfl ?_;(refine Ab rfl<|Aa<|Ar ?_);exact Bh 0 rfl rfl rfl hv0
  ·rw[Bv,if_neg k0,if_neg (fun h=>v6 h.2),if_neg (fun h=>by omega),if_neg (fun h=>by omega)] at hF;cases hF;(refine Ai<|Av<|Ac<|Af rfl<|Ah rfl (Aj 2 rfl rfl)<|Aq rfl rfl<|Ad rfl<|Aa<|Ao rfl (by omega)<|Ac<|Af rfl<|Ah rfl (Aj 1 rfl rfl)<|Aq rfl rfl<|Ad rfl<|AE rfl (by omega)<|Ae rfl<|Af rfl<|Ae rfl<|Ah rfl (Aj 2 rfl rfl)<|Ae rfl<|Aq rfl rfl<|Ap rfl rfl<|Ad rfl<|Aa<|Ao rfl (by omega)<|Ac<|Af rfl<|Ah rfl (Aj 1 rfl rfl)<|Aq rfl rfl<|Ad rfl<|AB rfl (by omega)<|Ak rfl<|Ak rfl<|Ak rfl<|An rfl rfl<|Ad rfl<|Aa<|AK rfl<|Ac<|Af rfl<|Ah rfl (Aj 1 rfl rfl)<|Aq rfl rfl<|Ad rfl<|AB rfl (by omega)<|Ak rfl<|Ak rfl<|Ak rfl<|An rfl rfl<|Ad rfl<|Aa<|AK rfl<|Am<|Ac<|Bl ?_);refine Az 0 [vZ 0,vZ 0,vZ 0,Al [],.slice none 0 0,.slice none 0 0] rfl rfl rfl rfl (No rfl) rfl rfl ?_;(refine Ab rfl<|Aa<|Ar ?_);exact Bh 0 rfl rfl rfl Aw.zero
 by_cases s1:s.kind=1
 ·by_cases v5:v.kind=5
  ·rw[Bv,if_neg k0,if_neg (fun h=>s0 h.1),if_pos ⟨s1,v5⟩] at hF;obtain⟨p,hp⟩:∃p,Bm s.src v.list.length=p:=⟨_,rfl⟩
   rw[hp] at hF;(refine Ai<|Av<|Ac<|Af rfl<|Ah rfl (Aj 2 rfl rfl)<|Aq rfl rfl<|Ad rfl<|Aa<|Ao rfl (by omega)<|Ac<|Af rfl<|Ah rfl (Aj 1 rfl rfl)<|Aq rfl rfl<|Ad rfl<|AB rfl (by omega)<|Ak rfl<|Ak rfl<|Ak rfl<|An rfl rfl<|Ad rfl<|Aa<|AK rfl<|Ac<|Af rfl<|Ah rfl (Aj 1 rfl rfl)<|Aq rfl rfl<|Ad rfl<|AE rfl (by omega)<|Ae rfl<|Af rfl<|Ae rfl<|Ah rfl (Aj 2 rfl rfl)<|Ae rfl<|Aq rfl rfl<|Ap rfl rfl<|Ad rfl<|Aa<|Au rfl (by omega)<|Ac<|Af rfl<|Ah rfl (Aj 1 rfl rfl)<|Af rfl<|Ah rfl (Aj 2 rfl rfl)<|AA rfl ?_);refine AF rfl (h4 is (by omega) (by omega)) ?_;rw[hp];by_cases q0:p<0
   ·rw[if_pos (.inl q0)] at hF;cases hF;(refine Ab rfl<|Aa<|Ai<|Ac<|Ab rfl<|Ax rfl rfl<|Ad rfl<|AE rfl (by omega)<|Ak rfl<|Ak rfl<|Ak rfl<|Ak rfl<|Ak rfl<|Ap rfl rfl<|Aa<|Bb rfl<|Ac<|AD 2 rfl rfl rfl ?_);refine Az 0 [vZ v.kind,vZ v.m,vZ v.e,Al v.text,.slice la v.list.length lc,.slice ka v.keys.length kc] rfl rfl rfl rfl (No rfl) rfl rfl ?_;(refine Ab rfl<|Aa<|Ar ?_);exact Bh 0 rfl rfl rfl hv0
   by_cases q1:(v.list.length:Int)≤p
   ·rw[if_pos (.inr q1)] at hF;cases hF;(refine Ab rfl<|Aa<|Ai<|Ac<|Ab rfl<|Ax rfl rfl<|Ad rfl<|AB rfl (by omega)<|Ae rfl<|Ab rfl<|Ae rfl<|Af rfl<|Ae rfl<|Ah rfl (Aj 2 rfl rfl)<|Ae rfl<|AA rfl<|Ae rfl<|B5 rfl rfl<|An rfl rfl<|Aa<|Au rfl (by omega)<|Ac<|AD 2 rfl rfl rfl ?_);refine Az 0 [vZ v.kind,vZ v.m,vZ v.e,Al v.text,.slice la v.list.length lc,.slice ka v.keys.length kc] rfl rfl rfl rfl (No rfl) rfl rfl ?_;(refine Ab rfl<|Aa<|Ar ?_);exact Bh 0 rfl rfl rfl hv0
   rw[if_neg (fun h=>by omega)] at hF;cases hF;obtain⟨n,rfl⟩:∃n:Nat,p=(n:Int):=⟨p.toNat,by omega⟩
   simp only[Z2];(refine Ab rfl<|Aa<|Ai<|Ac<|Ab rfl<|Ax rfl rfl<|Ad rfl<|AB rfl (by omega)<|Ae rfl<|Ab rfl<|Ae rfl<|Af rfl<|Ae rfl<|Ah rfl (Aj 2 rfl rfl)<|Ae rfl<|AA rfl<|Ae rfl<|B5 rfl rfl<|An rfl rfl<|Aa<|Ao rfl (by omega)<|Am<|Ac<|Af rfl<|Ah rfl (Aj 2 rfl rfl)<|Ab rfl<|Ab rfl<|AI rfl rfl (by omega) (by omega) ?_);refine AR rfl (h3 (i:=n) (j:=n+1) (ys:=[]) hl RSl.nil (by omega) (by omega) (by simp;omega)) (fun r d4 L4 hl4 ⟨hL,hr4⟩=>?_);subst hL;obtain⟨sa,sc,rfl⟩:=RSl.val hr4;(apply DR;rfl;rfl);refine Az 0 [vZ 5,vZ 0,vZ 0,Al [],.slice sa _ sc,.slice none 0 0] rfl rfl rfl rfl (No rfl) rfl rfl ?_;(refine Ab rfl<|Aa<|Ar ?_);exact Bh 0 rfl rfl rfl (Aw.close (v:=.mk 5 0 0 [] (v.list.take n++[]++v.list.drop (n+1)) []) EB Ba Ba (by simp) hr4 RSl.nil)
  ·rw[Bv,if_neg k0,if_neg (fun h=>s0 h.1),if_neg (fun h=>v5 h.2),if_neg (fun h=>by omega)] at hF;cases hF;(refine Ai<|Av<|Ac<|Af rfl<|Ah rfl (Aj 2 rfl rfl)<|Aq rfl rfl<|Ad rfl<|Aa<|Ao rfl (by omega)<|Ac<|Af rfl<|Ah rfl (Aj 1 rfl rfl)<|Aq rfl rfl<|Ad rfl<|AB rfl (by omega)<|Ak rfl<|Ak rfl<|Ak rfl<|An rfl rfl<|Ad rfl<|Aa<|AK rfl<|Ac<|Af rfl<|Ah rfl (Aj 1 rfl rfl)<|Aq rfl rfl<|Ad rfl<|AE rfl (by omega)<|Ae rfl<|Af rfl<|Ae rfl<|Ah rfl (Aj 2 rfl rfl)<|Ae rfl<|Aq rfl rfl<|Ap rfl rfl<|Ad rfl<|Aa<|Ao rfl (by omega)<|Ac<|Af rfl<|Ah rfl (Aj 1 rfl rfl)<|Aq rfl rfl<|Ad rfl<|AB rfl (by omega)<|Ak rfl<|Ak rfl<|Ak rfl<|An rfl rfl<|Ad rfl<|Aa<|AK rfl<|Am<|Ac<|Bl ?_);refine Az 0 [vZ 0,vZ 0,vZ 0,Al [],.slice none 0 0,.slice none 0 0] rfl rfl rfl rfl (No rfl) rfl rfl ?_;(refine Ab rfl<|Aa<|Ar ?_);exact Bh 0 rfl rfl rfl Aw.zero
 by_cases s2:s.kind=2
 ·by_cases v5:v.kind=5
  ·rw[Bv,if_neg k0,if_neg (fun h=>s0 h.1),if_neg (fun h=>s1 h.1),if_pos ⟨s2,v5⟩] at hF;cases hF;have hends:=C8 s (k:=v.list.length) (by omega);(refine Ai<|Av<|Ac<|Af rfl<|Ah rfl (Aj 2 rfl rfl)<|Aq rfl rfl<|Ad rfl<|Aa<|Ao rfl (by omega)<|Ac<|Af rfl<|Ah rfl (Aj 1 rfl rfl)<|Aq rfl rfl<|Ad rfl<|AB rfl (by omega)<|Ak rfl<|Ak rfl<|Ak rfl<|An rfl rfl<|Ad rfl<|Aa<|AK rfl<|Ac<|Af rfl<|Ah rfl (Aj 1 rfl rfl)<|Aq rfl rfl<|Ad rfl<|AB rfl (by omega)<|Ak rfl<|Ak rfl<|Ak rfl<|An rfl rfl<|Ad rfl<|Aa<|AK rfl<|Ac<|Af rfl<|Ah rfl (Aj 1 rfl rfl)<|Aq rfl rfl<|Ad rfl<|AE rfl (by omega)<|Ae rfl<|Af rfl<|Ae rfl<|Ah rfl (Aj 2 rfl rfl)<|Ae rfl<|Aq rfl rfl<|Ap rfl rfl<|Ad rfl<|Aa<|Au rfl (by omega)<|Ac<|AD 1 rfl rfl rfl<|Af rfl<|Ah rfl (Aj 2 rfl rfl)<|AA rfl ?_);refine AF rfl (h5 hs (by omega) (by omega)) ?_;obtain⟨A,B,hab⟩:∃A B:Int,A5 s v.list.length=(A,B):=⟨_,_,rfl⟩
   rw[hab] at hends⊢;simp only at hends⊢;obtain⟨a,rfl⟩:∃a:Nat,A=(a:Int):=⟨A.toNat,by omega⟩
   obtain⟨b,rfl⟩:∃b:Nat,B=(b:Int):=⟨B.toNat,by omega⟩
   simp only[Z2];(refine Bj rfl<|AL rfl rfl<|AL rfl rfl<|Ab rfl<|Ab rfl<|Aa<|Ac<|Af rfl<|Ah rfl (Aj 2 rfl rfl)<|Ab rfl<|Ab rfl ?_);refine AR rfl (h3 (i:=a) (j:=b) (ys:=[]) hl RSl.nil (by omega) (by omega) (by simp;omega)) (fun r d4 L4 hl4 ⟨hL,hr4⟩=>?_);subst hL;obtain⟨sa,sc,rfl⟩:=RSl.val hr4;(apply DR;rfl;rfl);refine Az 0 [vZ 5,vZ 0,vZ 0,Al [],.slice sa _ sc,.slice none 0 0] rfl rfl rfl rfl (No rfl) rfl rfl ?_;(refine Ab rfl<|Aa<|Ar ?_);exact Bh 0 rfl rfl rfl (Aw.close (v:=.mk 5 0 0 [] (v.list.take a++[]++v.list.drop b) []) EB Ba Ba (by simp) hr4 RSl.nil)
  rw[Bv,if_neg k0,if_neg (fun h=>s0 h.1),if_neg (fun h=>s1 h.1),if_neg (fun h=>v5 h.2)] at hF;cases hF;(refine Ai<|Av<|Ac<|Af rfl<|Ah rfl (Aj 2 rfl rfl)<|Aq rfl rfl<|Ad rfl<|Aa<|Ao rfl (by omega)<|Ac<|Af rfl<|Ah rfl (Aj 1 rfl rfl)<|Aq rfl rfl<|Ad rfl<|AB rfl (by omega)<|Ak rfl<|Ak rfl<|Ak rfl<|An rfl rfl<|Ad rfl<|Aa<|AK rfl<|Ac<|Af rfl<|Ah rfl (Aj 1 rfl rfl)<|Aq rfl rfl<|Ad rfl<|AB rfl (by omega)<|Ak rfl<|Ak rfl<|Ak rfl<|An rfl rfl<|Ad rfl<|Aa<|AK rfl<|Ac<|Af rfl<|Ah rfl (Aj 1 rfl rfl)<|Aq rfl rfl<|Ad rfl<|AE rfl (by omega)<|Ae rfl<|Af rfl<|Ae rfl<|Ah rfl (Aj 2 rfl rfl)<|Ae rfl<|Aq rfl rfl<|Ap rfl rfl<|Ad rfl<|Aa<|Ao rfl (by omega)<|Am<|Ac<|Bl ?_);refine Az 0 [vZ 0,vZ 0,vZ 0,Al [],.slice none 0 0,.slice none 0 0] rfl rfl rfl rfl (No rfl) rfl rfl ?_;(refine Ab rfl<|Aa<|Ar ?_);exact Bh 0 rfl rfl rfl Aw.zero
 rw[Bv,if_neg k0,if_neg (fun h=>s0 h.1),if_neg (fun h=>s1 h.1),if_neg (fun h=>s2 h.1)] at hF;cases hF;(refine Ai<|Av<|Ac<|Af rfl<|Ah rfl (Aj 2 rfl rfl)<|Aq rfl rfl<|Ad rfl<|Aa<|Ao rfl (by omega)<|Ac<|Af rfl<|Ah rfl (Aj 1 rfl rfl)<|Aq rfl rfl<|Ad rfl<|AB rfl (by omega)<|Ak rfl<|Ak rfl<|Ak rfl<|An rfl rfl<|Ad rfl<|Aa<|AK rfl<|Ac<|Af rfl<|Ah rfl (Aj 1 rfl rfl)<|Aq rfl rfl<|Ad rfl<|AB rfl (by omega)<|Ak rfl<|Ak rfl<|Ak rfl<|An rfl rfl<|Ad rfl<|Aa<|AK rfl<|Ac<|Af rfl<|Ah rfl (Aj 1 rfl rfl)<|Aq rfl rfl<|Ad rfl<|AB rfl (by omega)<|Ak rfl<|Ak rfl<|Ak rfl<|An rfl rfl<|Ad rfl<|Aa<|AK rfl<|Am<|Ac<|Bl ?_);refine Az 0 [vZ 0,vZ 0,vZ 0,Al [],.slice none 0 0,.slice none 0 0] rfl rfl rfl rfl (No rfl) rfl rfl ?_;(refine Ab rfl<|Aa<|Ar ?_);exact Bh 0 rfl rfl rfl Aw.zero
def BX:V→List St→V×Int
 |_,[]=>(V.zero,0)
 |v,[s]=>Bv v s
 |v,s::s2::l=>if (AU v s).2≠0∨(AU v s).1.kind=0 then(v,(AU v s).2) else if (BX (AU v s).1 (s2::l)).2≠0 then(v,(BX (AU v s).1 (s2::l)).2) else BP v s (BX (AU v s).1 (s2::l)).1
def Rx(v:V)(s:St):Cc (Bv v s).1≤Cc v:=by
 have h3:=CZ v;have hz:Cc V.zero=1:=by decide
 have key:∀(i j:Nat),i≤j→∀ks:List (List UInt8),ks.length≤v.keys.length→Cc (.mk 5 0 0 [] (v.list.take i++[]++v.list.drop j) ks)≤Cc v∧Cc (.mk 6 0 0 [] (v.list.take i++[]++v.list.drop j) ks)≤Cc v:=by
  intro i j hij ks hk;have h4:=I2 (l:=v.list) hij;rw[CZ,CZ];show 1+ks.length+Co (v.list.take i++[]++v.list.drop j)≤_∧1+ks.length+Co (v.list.take i++[]++v.list.drop j)≤_;rw[Dz,Dz];simp only[Co];omega
 unfold Bv;split
 ·exact ZL _
 split
 ·simp only;split
  ·exact(key _ _ (by omega) _ (by simp;omega)).2
  ·exact ZL _
 split
 ·simp only;split
  ·exact ZL _
  ·exact(key _ _ (by omega) _ (by simp)).1
 split
 ·have he:=C8 s (k:=v.list.length) (by omega);exact(key _ _ (by omega) _ (by simp)).1
 ·simp only[hz];omega
def JN:∀(l:List St) (v:V),Bq v≤1000000→Cc (BX v l).1≤1000000+l.length*1004100
 |[],v,_=>by
  have hz:Cc V.zero=1:=by decide
  simp[BX,hz]
 |[s],v,hb=>by
  have h1:=Rx v s;have h4:=Ec v;simp only[BX,Aak];omega
 |s::s2::l,v,hb=>by
  have h2:=JN (s2::l) (AU v s).1 (Aaf (Dj v s) hb);have h3:=SF v s (BX (AU v s).1 (s2::l)).1;have h4:=Ec v;rw[BX];simp only[ZU] at h2⊢;split
  ·simp only;omega
  split
  ·simp only;omega
  ·omega
def Of(P:Program)(f:FuncId):Prop:=∀(l:List St) {d cs w}{v:V},Aw d cs v→Gd v→Bq v≤1000000→RSl 6 RSt d w l→l.length≤100→
 A8 P f [.agg cs.toArray,w] d [] (Ret fun r d' L'=>L'=[]∧∃cs',r=.tuple #[.agg cs'.toArray,vZ (BX v l).2]∧Aw d' cs' (BX v l).1)
def Rj(a0 a1 a2 a3:Nat):A6:=⟨58,[(.cell 4 (some 6)),(.tmp 5)],(sR (o1 2 (.box 0)<|o1 4 (.alo (.agg #[(vZ 0),(vZ 0),(vZ 0),(Al []),(.slice none 0 0),(.slice none 0 0)]))<|o1 5 (.mv z0) .done) (.seq (sR (om 8 1<|oL 9 8 .done) (.block 0 (sR (ob 11 .eql 9 z0<|om 10 11 .done) (.cond 10 (sR (o1 12 (.bld [(0,1),(1,2),(3,1),(4,1),(5,1)] [(vZ 0),(vZ 0),(vZ 0),(Al []),(.slice none 0 0),(.slice none 0 0)] [])<|o0 (.st 6 4 12)<|o1 5 (.mv z0) .done) .ret) (sR (ob 14 .eql 9 z1<|om 13 14 .done) (.cond 13 (.seq (.reg true (p1 15 (.ld (some 6) 2)<|pm 16 1<|p1 17 (.idx 6 16 z0)<|p1 18 (.ld (some 6) 17)<|oc 19 a0 [15,18]<|p1 20 (.ext 19 0)<|p1 21 (.ext 19 1) (.bar (o0 (.st 6 4 20) (pm 5 21 .done))))) .ret) .skip)))))) (.seq (.reg true (pm 24 1<|p1 25 (.idx 6 24 z0)<|p1 26 (.ld (some 6) 25) (.alt ⟨(some 23),none,(.ld (some 6) 2)⟩ (.alt ⟨(some 27),none,(.call a1 [23,26])⟩ (pm 22 27 (p1 28 (.ext 22 0) (p1 29 (.ext 22 1) (o1 6 (.alo (.agg #[(vZ 0),(vZ 0),(vZ 0),(Al []),(.slice none 0 0),(.slice none 0 0)])) (o0 (.st 6 6 28) (pm 7 29 .done)))))) (o1 6 (.alo (.agg #[(vZ 0),(vZ 0),(vZ 0),(Al []),(.slice none 0 0),(.slice none 0 0)])) (oc 27 a1 [23,26] (pm 22 27 (p1 28 (.ext 22 0) (p1 29 (.ext 22 1) (o0 (.st 6 6 28) (pm 7 29 .done)))))))) (o1 6 (.alo (.agg #[(vZ 0),(vZ 0),(vZ 0),(Al []),(.slice none 0 0),(.slice none 0 0)])) (o1 23 (.ld (some 6) 2) (oc 27 a1 [23,26] (pm 22 27 (p1 28 (.ext 22 0) (p1 29 (.ext 22 1) (o0 (.st 6 6 28) (pm 7 29 .done))))))))))) (.seq (sR (om 30 7<|ob 31 .neq 30 z0<|om 32 31<|oF 33 32 (.fld 0 6)<|oF 34 32 (.ld none 33)<|oF 35 32 (.bin .eql 34 z0)<|o1 36 (.pick 32 (.const (.bool true)) 35) .done) (.cond 36 (sR (o1 37 (.ld (some 6) 2)<|om 38 7<|o0 (.st 6 4 37)<|om 5 38 .done) .ret) .skip)) (.seq (.reg true (pm 41 1<|p1 42 (.sl 6 41 (some z1) none none)<|o1 40 (.ld (some 6) 6)<|oc 43 a2 [40,42]<|pm 39 43<|p1 44 (.ext 39 0)<|p1 45 (.ext 39 1)<|o0 (.st 6 6 44)<|pm 7 45 .done)) (.seq (sR (om 46 7<|ob 47 .neq 46 z0 .done) (.cond 47 (sR (o1 48 (.ld (some 6) 2)<|om 49 7<|o0 (.st 6 4 48)<|om 5 49 .done) .ret) .skip)) (.seq (.reg true (p1 50 (.ld (some 6) 2)<|pm 51 1<|p1 52 (.idx 6 51 z0)<|p1 53 (.ld (some 6) 52)<|p1 54 (.ld (some 6) 6)<|oc 55 a3 [50,53,54]<|p1 56 (.ext 55 0)<|p1 57 (.ext 55 1) (.bar (o0 (.st 6 4 56) (pm 5 57 .done))))) .ret)))))))⟩
set_option maxHeartbeats 2000000 in
def WM(hd:dec P f=some (Rj f1 f2 f f3))(h1:KT P f1)(h2:GR P f2)(h3:PJ P f3):Of P f:=by
 intro l;induction l with
 |nil=>
  intro d cs w v hv hg hb hw hll
  obtain⟨a,c,rfl⟩:=RSl.val hw
  refine Bd hd (No rfl) ?_
  obtain⟨c0,c1,c2,c3,c4,c5,rfl⟩:=six hv.len
  show gwp P _ _ _ _ _
  apply Ai;apply Ay
  refine AO (l:=[c0,c1,c2,c3,c4,c5]) rfl (fun b2 T2=>?_)
  have hz:(([]:List St).length:Int)=0:=rfl
  (refine AX (fun _ _=>Ab rfl<|Aa<|Ai<|Ac<|As rfl<|AA rfl<|Aa<|Av<|Ac<|Aq rfl rfl<|Ad rfl<|Aa<|Au rfl (by omega)<|Ac<|Bl ?_))
  refine Az 0 [vZ 0,vZ 0,vZ 0,Al [],.slice none 0 0,.slice none 0 0] rfl rfl rfl rfl (No rfl) rfl rfl ?_
  (refine Ab rfl<|Aa<|Ar ?_)
  exact Bh 0 rfl rfl rfl Aw.zero
 |cons s l ih=>
  intro d cs w v hv hg hb hw hll
  have n1:=RSl.Be hw
  obtain⟨a,c,rfl⟩:=RSl.val hw
  have hw':=hw
  have hcb:=Ec v
  refine Bd hd (No rfl) ?_
  have hv0:=hv
  obtain⟨c0,c1,c2,c3,c4,c5,rfl⟩:=six hv.len
  show gwp P _ _ _ _ _
  apply Ai;apply Ay
  refine AO (l:=[c0,c1,c2,c3,c4,c5]) rfl (fun b2 T2=>?_)
  (refine AX (fun _ _=>Ab rfl<|Aa ?_))
  rename_i b4 T4
  cases l with
  |nil=>
   have hz:(([s]:List St).length:Int)=1:=rfl
   (refine Ai<|Ac<|As rfl<|AA rfl<|Aa<|Av<|Ac<|Aq rfl rfl<|Ad rfl<|Aa<|Ao rfl (by omega)<|Ac<|Aq rfl rfl<|Ad rfl<|Aa<|Au rfl (by omega)<|Ai ?_)
   refine AT ?_
   (refine AD 1 rfl rfl rfl<|As rfl<|AJ (m:=0) (sz:=6) (R:=RSt) (by rfl) (by assumption) (by rfl) rfl (by omega) ?_;rintro _ _ _ _ _ ⟨rfl,_,_,_,_⟩;apply BE;rfl;assumption;rfl)
   rename_i hcs hD ik' it' is id
   refine AR rfl (h1 hv (EF hg) ⟨rfl,ik',it',is,id⟩ (by omega)) (fun r d5 L5 hl5 ⟨hL,cs',hr,hR2⟩=>?_)
   subst hL;subst hr
   obtain⟨g0,g1,g2,g3,g4,g5,rfl⟩:=six hR2.len
   (refine AL rfl rfl<|AL rfl rfl<|Bt ?_)
   refine Az 0 [g0,g1,g2,g3,g4,g5] rfl rfl rfl rfl (No rfl) (AH _ _ _ hR2) rfl ?_
   (refine Ab rfl<|Aa<|Ar ?_)
   exact Bh 0 rfl rfl rfl hR2
  |cons s2 l=>
  have hz:((s::s2::l).length:Int)=l.length+2:=by simp;omega
  have hcnt:=JN (s2::l) (AU v s).1 (Aaf (Dj v s) hb)
  have hll':(s2::l).length≤99:=by rw[ZU] at hll;omega
  (refine Ai<|Ac<|As rfl<|AA rfl<|Aa<|Av<|Ac<|Aq rfl rfl<|Ad rfl<|Aa<|Ao rfl (by omega)<|Ac<|Aq rfl rfl<|Ad rfl<|Aa<|Ao rfl (by omega) ?_)
  apply Am
  refine Ct (fun ρ d' L'=>d'=d∧∃b6 T6 e1 e2 e3 e4 e5,A9 ρ [(1,.slice a (s::s2::l).length c),(2,pZ b2),(4,pZ b4),(6,pZ b6),(7,vZ (AU v s).2)]∧Aw d [vZ (AU v s).1.kind,e1,e2,e3,e4,e5] (AU v s).1∧
   L'=[bx b4 T4 [vZ 0,vZ 0,vZ 0,Al [],.slice none 0 0,.slice none 0 0],bx b2 T2 [c0,c1,c2,c3,c4,c5],bx b6 T6 [vZ (AU v s).1.kind,e1,e2,e3,e4,e5]]) ?_ ?_
  ·refine AT ?_
   (refine As rfl<|AJ (m:=0) (sz:=6) (R:=RSt) (by rfl) (by assumption) (by rfl) rfl (by omega) ?_;rintro _ _ _ _ _ ⟨rfl,_,_,_,_⟩;apply BE;rfl;assumption;rfl)
   rename_i hcs hD ik' it' is id
   have hS:RSt d [vZ s.kind,Al s.text,vZ s.src,vZ s.dst,.bool s.hf,.bool s.ht] s:=⟨rfl,ik',it',is,id⟩
   refine Dx ?_ ?_
   ·(apply AD 1;rfl;rfl;rfl)
    refine Dx ?_ ?_
    ·refine AR rfl (h2 hv (EF hg) (FY hg) hS) (fun r d3 L3 _ ⟨hdd,hL,cs',hr,hR'⟩=>?_)
     subst hdd;subst hL;subst hr
     obtain⟨lv',kv',rfl,_⟩:=hR'.open
     (refine Bj rfl<|AL rfl rfl<|AL rfl rfl<|AX (fun _ _=>?_))
     rename_i b6 T6
     refine Az 0 [vZ (AU v s).1.kind,vZ (AU v s).1.m,vZ (AU v s).1.e,Al (AU v s).1.text,lv',kv'] rfl rfl rfl rfl (No rfl) (AH _ _ _ hR') rfl ?_
     (refine Ab rfl<|AW ?_)
     exact⟨rfl,b6,T6,_,_,_,_,_,⟨rfl,rfl,rfl,rfl,rfl,trivial⟩,hR',rfl⟩
    ·(apply AX;intro _ _)
     rename_i b6 T6
     refine AR rfl (h2 hv (EF hg) (FY hg) hS) (fun r d3 L3 _ ⟨hdd,hL,cs',hr,hR'⟩=>?_)
     subst hdd;subst hL;subst hr
     obtain⟨lv',kv',rfl,_⟩:=hR'.open
     (refine Bj rfl<|AL rfl rfl<|AL rfl rfl ?_)
     refine Az 0 [vZ (AU v s).1.kind,vZ (AU v s).1.m,vZ (AU v s).1.e,Al (AU v s).1.text,lv',kv'] rfl rfl rfl rfl (No rfl) (AH _ _ _ hR') rfl ?_
     (refine Ab rfl<|AW ?_)
     exact⟨rfl,b6,T6,_,_,_,_,_,⟨rfl,rfl,rfl,rfl,rfl,trivial⟩,hR',rfl⟩
   ·(refine AX (fun _ _=>AD 1 rfl rfl rfl ?_))
    rename_i b6 T6
    refine AR rfl (h2 hv (EF hg) (FY hg) hS) (fun r d3 L3 _ ⟨hdd,hL,cs',hr,hR'⟩=>?_)
    subst hdd;subst hL;subst hr
    obtain⟨lv',kv',rfl,_⟩:=hR'.open
    (refine Bj rfl<|AL rfl rfl<|AL rfl rfl ?_)
    refine Az 0 [vZ (AU v s).1.kind,vZ (AU v s).1.m,vZ (AU v s).1.e,Al (AU v s).1.text,lv',kv'] rfl rfl rfl rfl (No rfl) (AH _ _ _ hR') rfl ?_
    (refine Ab rfl<|AW ?_)
    exact⟨rfl,b6,T6,_,_,_,_,_,⟨rfl,rfl,rfl,rfl,rfl,trivial⟩,hR',rfl⟩
  rintro ρ d' L' ⟨hdd,b6,T6,e1,e2,e3,e4,e5,hsl,hR,hL⟩
  subst hdd;subst hL
  refine Bo _ hsl ?_
  clear hsl
  rw[BX]
  by_cases he:(AU v s).2≠0
  ·rw[if_pos (.inl he)]
   (refine Ai<|Ac<|Ab rfl<|AG rfl rfl<|Ad rfl<|AE rfl (by omega)<|Ak rfl<|Ak rfl<|Ak rfl<|Ap rfl rfl<|Aa<|Bb rfl<|Ac<|AD 1 rfl rfl rfl<|Ab rfl ?_)
   refine Az 0 [c0,c1,c2,c3,c4,c5] rfl rfl rfl rfl (No rfl) (AH _ _ _ hv0) rfl ?_
   (refine Ab rfl<|Aa<|Ar ?_)
   exact Bh 0 rfl rfl rfl hv0
  by_cases hk0:(AU v s).1.kind=0
  ·rw[if_pos (.inr hk0)]
   (refine Ai<|Ac<|Ab rfl<|AG rfl rfl<|Ad rfl<|AB rfl (by omega)<|Ae rfl<|Af rfl<|Ae rfl<|Ah rfl (Aj 2 rfl rfl)<|Ae rfl<|Aq rfl rfl<|An rfl rfl<|Aa<|Au rfl (by omega)<|Ac<|AD 1 rfl rfl rfl<|Ab rfl ?_)
   refine Az 0 [c0,c1,c2,c3,c4,c5] rfl rfl rfl rfl (No rfl) (AH _ _ _ hv0) rfl ?_
   (refine Ab rfl<|Aa<|Ar ?_)
   exact Bh 0 rfl rfl rfl hv0
  rw[if_neg (fun h=>h.elim he hk0)]
  (refine Ai<|Ac<|Ab rfl<|AG rfl rfl<|Ad rfl<|AB rfl (by omega)<|Ae rfl<|Af rfl<|Ae rfl<|Ah rfl (Aj 2 rfl rfl)<|Ae rfl<|Aq rfl rfl<|An rfl rfl<|Aa<|Ao rfl (by omega)<|Am<|Ai ?_)
  refine Dh [bx b4 T4 [vZ 0,vZ 0,vZ 0,Al [],.slice none 0 0,.slice none 0 0],bx b2 T2 [c0,c1,c2,c3,c4,c5]] [bx b6 T6 [vZ (AU v s).1.kind,e1,e2,e3,e4,e5]] rfl ?_
  (apply As;rfl)
  refine DF (n:=1) rfl hw' rfl rfl (by simp) (fun v' hv'=>?_)
  (apply AD 2;rfl;rfl;rfl)
  refine AR rfl (ih hR (Gu hg s) (Aaf (Dj v s) hb) hv' (by omega)) (fun r d4 L4 hl4 ⟨hL,cs',hr,hR'⟩=>?_)
  subst hL;subst hr
  obtain⟨f0,f1,f2,f3,f4,f5,rfl⟩:=six hR'.len
  (refine Bj rfl<|AL rfl rfl<|AL rfl rfl ?_)
  refine Az 0 [f0,f1,f2,f3,f4,f5] rfl rfl rfl rfl (No rfl) (AH _ _ _ hR') rfl ?_
  have hv4:=Aw.mono hl4 hv0
  by_cases he2:(BX (AU v s).1 (s2::l)).2≠0
  ·rw[if_pos he2]
   (refine Ab rfl<|AW<|Ai<|Ac<|Ab rfl<|AG rfl rfl<|Aa<|Au rfl (by omega)<|Ac<|AD 1 rfl rfl rfl<|Ab rfl ?_)
   refine Az 0 [c0,c1,c2,c3,c4,c5] rfl rfl rfl rfl (No rfl) (AH _ _ _ hv0) rfl ?_
   (refine Ab rfl<|Aa<|Ar ?_)
   exact Bh 0 rfl rfl rfl hv4
  rw[if_neg he2]
  have hw4:RSl 6 RSt d4 (.slice a (s::s2::l).length c) (s::s2::l):=RSl.mono (R:=RSt) (fun hl h=>h) hw' hl4
  (refine Ab rfl<|AW<|Ai<|Ac<|Ab rfl<|AG rfl rfl<|Aa<|Ao rfl (by omega)<|Am<|Ai ?_)
  refine AT ?_
  (refine AD 1 rfl rfl rfl<|As rfl<|AJ (m:=0) (sz:=6) (R:=RSt) (by rfl) (by assumption) (by rfl) rfl (by omega) ?_;rintro _ _ _ _ _ ⟨rfl,_,_,_,_⟩;refine BE rfl (by assumption) rfl<|AD 2 rfl rfl rfl ?_)
  rename_i hcs hD ik' it' is id
  refine AR rfl (h3 hv4 (EF hg) ⟨rfl,ik',it',is,id⟩ hR' (by omega)) (fun r d5 L5 hl5 ⟨hL,cs',hr,hR2⟩=>?_)
  subst hL;subst hr
  obtain⟨g0,g1,g2,g3,g4,g5,rfl⟩:=six hR2.len
  (refine AL rfl rfl<|AL rfl rfl<|Bt ?_)
  refine Az 0 [g0,g1,g2,g3,g4,g5] rfl rfl rfl rfl (No rfl) (AH _ _ _ hR2) rfl ?_
  (refine Ab rfl<|Aa<|Ar ?_)
  exact Bh 0 rfl rfl rfl hR2
def CC(v:V)(l:List St):V×Int:=if Cw v l≠0 then(V.zero,Cw v l) else if (BX v l).2≠0 then(V.zero,(BX v l).2) else((BX v l).1,0)
def PZ(T:Ag→Prop)(P:Program)(f:FuncId):Prop:=∀{d cs w}{v:V}{l:List St},T d→Aw d cs v→RSl 6 RSt d w l→Bq v≤1000000→l.length≤100→
 A8 P f [.agg cs.toArray,w] d [] (Ret fun r d' L'=>d'=d∧∃cs' h,r=.tuple #[.agg cs'.toArray,vZ (CC v l).2]∧L'=[h]∧Cv cs' (CC v l).1 h)
def Qi(a0 a1 a2:Nat):A6:=⟨28,[(.cell 4 (some 6)),(.tmp 5)],(sR (o1 2 (.box 0)<|o1 4 (.alo (.agg #[(vZ 0),(vZ 0),(vZ 0),(Al []),(.slice none 0 0),(.slice none 0 0)]))<|o1 5 (.mv z0) .done) (.seq (sR (o1 9 (.ld (some 6) 2)<|om 10 1<|oc 11 a0 [9,10]<|om 6 11 .done) (sR (om 12 6<|ob 13 .neq 12 z0 .done) (.cond 13 (sR (o1 14 (.bld [(0,1),(1,2),(3,1),(4,1),(5,1)] [(vZ 0),(vZ 0),(vZ 0),(Al []),(.slice none 0 0),(.slice none 0 0)] [])<|om 15 6<|o0 (.st 6 4 14)<|om 5 15 .done) .ret) .skip))) (sR (o1 17 (.ld (some 6) 2)<|om 18 1<|oc 19 a1 [17,18]<|om 16 19<|oe 20 16 0<|oe 21 16 1<|o1 7 (.alo (.agg #[(vZ 0),(vZ 0),(vZ 0),(Al []),(.slice none 0 0),(.slice none 0 0)]))<|o0 (.st 6 7 20)<|om 8 21 .done) (.seq (sR (om 22 8<|ob 23 .neq 22 z0 .done) (.cond 23 (sR (o1 24 (.bld [(0,1),(1,2),(3,1),(4,1),(5,1)] [(vZ 0),(vZ 0),(vZ 0),(Al []),(.slice none 0 0),(.slice none 0 0)] [])<|om 25 8<|o0 (.st 6 4 24)<|om 5 25 .done) .ret) .skip)) (sR (o1 26 (.ld (some 6) 7)<|oc 27 a2 [26]<|o0 (.st 6 4 27)<|o1 5 (.mv z0) .done) .ret)))))⟩
def Yg{T:Ag→Prop}(hd:dec P f=some (Qi f1 f2 f3))(h1:Lv T P f1)(h2:Of P f2)(h3:Hm P f3):PZ T P f:=by
 intro d cs w v l ht hv hw hbv hll;have n1:=RSl.Be hw;obtain⟨a,c,rfl⟩:=RSl.val hw;have hcnt:=JN l v hbv;refine A8.forget (Q:=fun r L'=>∃cs' h,r=.tuple #[.agg cs'.toArray,vZ (CC v l).2]∧L'=[h]∧Cv cs' (CC v l).1 h) ?_;refine Bd hd (No rfl) ?_;obtain⟨c0,c1,c2,c3,c4,c5,rfl⟩:=six hv.len;show gwp P _ _ _ _ _;apply Ai;apply Ay;refine AO (l:=[c0,c1,c2,c3,c4,c5]) rfl (fun b2 T2=>?_);(refine AX (fun _ _=>Ab rfl<|Aa<|Ai<|Ac<|AD 1 rfl rfl rfl<|As rfl ?_));rename_i b4 T4;refine AF rfl (h1 ht hv hw) ?_;by_cases q3:Cw v l≠0
 ·rw[CC,if_pos q3];(refine Ab rfl<|Aa<|Ac<|Ab rfl<|AG rfl rfl<|Aa<|Au rfl (by omega)<|Ac<|Bl<|Ab rfl ?_);refine Az 0 [vZ 0,vZ 0,vZ 0,Al [],.slice none 0 0,.slice none 0 0] rfl rfl rfl rfl (No rfl) rfl rfl ?_;(refine Ab rfl<|Aa<|Ar ?_);exact G8 0 rfl rfl rfl Cv.zero DN
 rw[CC,if_neg q3];have hgd:=Gv (LO (v:=v) (l:=l) (by omega)) (by omega);(refine Ab rfl<|Aa<|Ac<|Ab rfl<|AG rfl rfl<|Aa<|Ao rfl (by omega)<|Am<|Ac<|AD 1 rfl rfl rfl<|As rfl ?_);refine AR rfl (h2 l hv hgd hbv hw hll) (fun r d2 L2 hl2 ⟨hL,cs',hr,hR⟩=>?_);subst hL;subst hr;obtain⟨f0,f1',f2',f3',f4',f5,rfl⟩:=six hR.len;(refine Bj rfl<|AL rfl rfl<|AL rfl rfl<|AX (fun _ _=>?_));rename_i b7 T7;refine Az 0 [f0,f1',f2',f3',f4',f5] rfl rfl rfl rfl (No rfl) (AH _ _ _ hR) rfl ?_;by_cases q4:(BX v l).2≠0
 ·rw[if_pos q4];(refine Ab rfl<|Aa<|Ai<|Ac<|Ab rfl<|AG rfl rfl<|Aa<|Au rfl (by omega)<|Ac<|Bl<|Ab rfl ?_);refine Az 1 [vZ 0,vZ 0,vZ 0,Al [],.slice none 0 0,.slice none 0 0] rfl rfl rfl rfl (No rfl) rfl rfl ?_;(refine Ab rfl<|Aa<|Ar ?_);exact G8 1 rfl rfl rfl Cv.zero DN
 rw[if_neg q4];(refine Ab rfl<|Aa<|Ai<|Ac<|Ab rfl<|AG rfl rfl<|Aa<|Ao rfl (by omega)<|Am<|Ac<|AD 0 rfl rfl rfl ?_);refine AR rfl (h3 _ hR (by omega)) (fun r d3 L3 _ ⟨hdd,cs',g,hr,hL,ho⟩=>?_);subst hdd;subst hL;subst hr;obtain⟨e0,e1,e2,e3,e4,e5,rfl⟩:=six ho.cells.1;refine Az 2 [e0,e1,e2,e3,e4,e5] rfl rfl rfl rfl (No rfl) ho.cells.2 rfl ?_;(refine Ab rfl<|Aa<|Ar ?_);exact G8 2 rfl rfl rfl ho (Vs.drop ((ZB _).cons_cons _))
end Go.Gk.Val
end
section
namespace Go.Gk.Val
open Go Go.Gk Go.Gk.Utf
section
attribute [local irreducible] gwp gws
end
end Go.Gk.Val
end
section
namespace Go.Gk
open Go
section
section
variable {P:Program}{pan:List PanicEntry→A0}{Qn:Env→A0}{Ls L:List Ag}{ρ:Env}{d:Ag}{s:GS}{t:Nat}{tk:Bool}
def PY{y l}(ey:ev ρ y=Al l)(h:gws P pan Qn s Ls (upd ρ t (.agg [vZ 0,Al l,vZ 0,vZ 0,.bool false,.bool false].toArray)) d L):
  gws P pan Qn (.op tk ⟨some t,none,.bld [(0,1),(1,1),(2,1),(3,1),(4,1),(5,1)] [vZ 0,Al [],vZ 0,vZ 0,.bool false,.bool false] [(0,.const (vZ 0)),(1,y)]⟩ s) Ls ρ d L:=
 BN (cs:=[vZ 0,Al l,vZ 0,vZ 0,.bool false,.bool false]) (by have e0:ev ρ (.const (vZ 0))=vZ 0:=rfl;simp[Instr.fill,e0,ey,Value.cells,Al]) h
def Nd{y}{a:Int}(ey:ev ρ y=vZ a)(h:gws P pan Qn s Ls (upd ρ t (.agg [vZ 1,Al [],vZ a,vZ 0,.bool false,.bool false].toArray)) d L):
  gws P pan Qn (.op tk ⟨some t,none,.bld [(0,1),(1,1),(2,1),(3,1),(4,1),(5,1)] [vZ 0,Al [],vZ 0,vZ 0,.bool false,.bool false] [(0,.const (vZ 1)),(2,y)]⟩ s) Ls ρ d L:=
 BN (cs:=[vZ 1,Al [],vZ a,vZ 0,.bool false,.bool false]) (by have e0:ev ρ (.const (vZ 1))=vZ 1:=rfl;simp[Instr.fill,e0,ey,Value.cells,Al]) h
end
end
end Go.Gk
end
section
namespace Go.Gk.Val
open Go Go.Gk Go.Gk.Utf
section
attribute [local irreducible] gwp gws
end
end Go.Gk.Val
end
section
namespace Go.Gk.Val
open Go Go.Gk
section
section
variable {H:Type}{enc:TypeId×Value→H}{P:Program}{W:World}
def Za{t ti ts tb}(hf:∃fs:Array Field,P.underlying t=some (.struct fs)∧(fs[0]?).map (fun f=>(f.offset,f.type))=some (0,ti)∧(fs[1]?).map (fun f=>(f.offset,f.type))=some (1,ts)∧(fs[2]?).map (fun f=>(f.offset,f.type))=some (2,ti)∧
   (fs[3]?).map (fun f=>(f.offset,f.type))=some (3,ti)∧(fs[4]?).map (fun f=>(f.offset,f.type))=some (4,tb)∧(fs[5]?).map (fun f=>(f.offset,f.type))=some (5,tb))
  (c:P.cellsOf t=6) (ci:P.cellsOf ti=1) (cs:P.cellsOf ts=1) (cb:P.cellsOf tb=1) (ui:P.underlying ti=some (.int .i64)) (us:P.underlying ts=some .string) (ub:P.underlying tb=some .bool):Rd enc P W t RSt:=by
 intro held fuel cs' x h hw
 obtain⟨fs,hu,f0,f1,f2,f3,f4,f5⟩:=hf
 obtain⟨hl,hfs⟩:=OR hu h hw
 obtain⟨k,e0,hk⟩:=hfs 0 0 ti 1 f0 ci (IY ui)
 obtain⟨s,e1,hs⟩:=hfs 1 1 ts 1 f1 cs (P9 us)
 obtain⟨a,e2,ha⟩:=hfs 2 2 ti 1 f2 ci (IY ui)
 obtain⟨b,e3,hb⟩:=hfs 3 3 ti 1 f3 ci (IY ui)
 obtain⟨p,e4⟩:=hfs 4 4 tb 1 f4 cb (Sd ub)
 obtain⟨q,e5⟩:=hfs 5 5 tb 1 f5 cb (Sd ub)
 obtain⟨a0,a1,a2,a3,a4,a5,rfl⟩:=six (hl.trans c)
 simp only[List.drop,List.take,List.cons.injEq,and_true] at e0 e1 e2 e3 e4 e5
 subst e0;subst e1;subst e2;subst e3;subst e4;subst e5
 exact⟨⟨k,s,a,b,p,q⟩,rfl,hk,hs,ha,hb⟩
end
end
end Go.Gk.Val
end
section
namespace Go.Gk.Val
open Go Go.Gk Go.Gk.Utf
attribute [local irreducible] gwp gws
def Jl(P:Program)(f:FuncId):Prop:=∀{d v w a b},BK d v a→BK d w b→AM P f [v,w] d (.bool (decide (a=b)))
def Gw:A6:=⟨26,[(.tmp 4)],(sR (o1 4 (.mv (.const (.bool false))) .done) (.seq (sR (om 6 0<|oL 7 6<|om 8 1<|oL 9 8<|ob 10 .neq 7 9 .done) (.cond 10 (sR (o1 4 (.mv (.const (.bool false))) .done) .ret) .skip)) (.seq (sR (om 11 0<|oL 12 11<|o1 13 (.mv z0) .done) (.block 0 (.loop (sR (ob 14 .lss 13 12 .done) (.seq (.cond 14 .skip (.exit 0)) (.seq (.block 1 (sR (om 15 13<|om 5 15 .done) (.seq (.reg true (pm 16 0<|pm 17 5<|p1 18 (.idx 1 16 17)<|pl 19 18<|pm 20 1<|pm 21 5<|p1 22 (.idx 1 20 21)<|pl 23 22<|p1 24 (.bin .neq 19 23) .done)) (.cond 24 (sR (o1 4 (.mv (.const (.bool false))) .done) .ret) .skip)))) (rG (ob 25 .add 13 z1<|om 13 25 .done)))))))) (sR (o1 4 (.mv (.const (.bool true))) .done) .ret))))⟩
def Uj{P f}(hd:I7 P f=some Gw):Jl P f:=by
 intro d v w a b hv hw;have n1:=RSl.Be hv;have n2:=RSl.Be hw;obtain⟨pa,ca,rfl⟩:=RSl.val hv;obtain⟨pb,cb,rfl⟩:=RSl.val hw;have hv':RSl 1 A2 d (.slice pa a.length ca) a:=hv;have hw':RSl 1 A2 d (.slice pb b.length cb) b:=hw;refine AM.of' hd (No rfl) ?_;show gwp P _ _ _ _ _;by_cases hlen:(a.length:Int)≠b.length
 ·(refine Ac<|Ad rfl<|Aa<|Ai<|Ac<|As rfl<|AA rfl<|As rfl<|AA rfl<|AG rfl rfl<|Aa<|Au rfl (by omega)<|Ac<|Ad rfl<|Aa<|Ar ?_);apply Bf;rfl;rw[eq_comm,decide_eq_false_iff_not];intro e;subst e;exact hlen rfl
 have hlen':a.length=b.length:=by omega
 have hlz:(a.length:Int)=b.length:=by omega
 (refine Ac<|Ad rfl<|Aa<|Ai<|Ac<|As rfl<|AA rfl<|As rfl<|AA rfl<|AG rfl rfl<|Aa<|Ao rfl (by omega)<|Am<|Ai<|Ac<|As rfl<|AA rfl<|Ab rfl<|Aa<|Av ?_);refine CD (α:=Nat) (fun i=>[(0,.slice pa a.length ca),(1,.slice pb b.length cb),(12,vZ a.length),(13,vZ i)]) (fun _=>[]) (fun i=>i≤a.length∧a.take i=b.take i) (fun i=>a.length - i) 0 ⟨rfl,rfl,rfl,rfl,trivial⟩ rfl ⟨ZN _,rfl⟩ ?_;rintro i ρ ⟨hi,heq⟩;by_cases hc:i<a.length
 ·have hcb:i<b.length:=by omega
  by_cases he:a[i]≠b[i]
  ·(refine Ac<|Ax rfl rfl<|Aa<|Ai<|Au rfl (by omega)<|Am<|Ai<|Av<|Ac<|Ab rfl<|Ab rfl<|Aa<|Ai<|AT<|As rfl<|Ab rfl<|AJ (sz:=1) (R:=A2) (by rfl) (by assumption) (by rfl) rfl (by omega) ?_;rintro _ _ _ _ _ ⟨rfl,_⟩;refine Ah rfl (A1 (by assumption) rfl)<|As rfl<|Ab rfl<|AJ (sz:=1) (R:=A2) (by rfl) (by assumption) (by rfl) rfl (by omega) ?_;rintro _ _ _ _ _ ⟨rfl,_⟩;refine Ah rfl (A1 (by assumption) rfl)<|C3 rfl rfl<|Aa<|Au rfl (by omega)<|Ac<|Ad rfl<|Aa<|Ar ?_);apply Bf;rfl;rw[eq_comm,decide_eq_false_iff_not];intro e;subst e;exact he rfl
  ·(refine Ac<|Ax rfl rfl<|Aa<|Ai<|Au rfl (by omega)<|Am<|Ai<|Av<|Ac<|Ab rfl<|Ab rfl<|Aa<|Ai<|AT<|As rfl<|Ab rfl<|AJ (sz:=1) (R:=A2) (by rfl) (by assumption) (by rfl) rfl (by omega) ?_;rintro _ _ _ _ _ ⟨rfl,_⟩;refine Ah rfl (A1 (by assumption) rfl)<|As rfl<|Ab rfl<|AJ (sz:=1) (R:=A2) (by rfl) (by assumption) (by rfl) rfl (by omega) ?_;rintro _ _ _ _ _ ⟨rfl,_⟩;refine Ah rfl (A1 (by assumption) rfl)<|C3 rfl rfl<|Aa<|Ao rfl (by omega)<|Am<|Ay<|AI rfl rfl (by omega) (by omega)<|Ab rfl<|Aa ?_);have he':a[i]=b[i]:=by simpa using he
   exact⟨i+1,by omega,⟨rfl,rfl,rfl,int_eq (by omega),trivial⟩,rfl,rfl,hc,by rw[ZA hc,ZA hcb,heq,he']⟩
 ·obtain rfl:i=a.length:=by omega
  rw[ZV,hlen',ZV] at heq;(refine Ac<|Ax rfl rfl<|Aa<|Ai<|Ao rfl (by omega)<|AV<|Ac<|Ad rfl<|Aa<|Ar ?_);apply Bf;rfl;rw[eq_comm,decide_eq_true_eq];exact heq
def JI{l m:List V}:F9 l m=true↔l=m:=Kw fun x _ y=>CP x y
def Me(P:Program)(f:FuncId):Prop:=∀{d v w}{l m:List V}{g},BL d v l→BL d w m→(∀x∈l,∀y cs ds,Aw d cs x→Aw d ds y→AM P g [.agg cs.toArray,.agg ds.toArray] d (.bool (Ck x y)))→
 AM P f [v,w,.func (.func g) #[] #[]] d (.bool (F9 l m))
def Da:A6:=⟨32,[(.tmp 6)],(sR (o1 6 (.mv (.const (.bool false))) .done) (.seq (sR (om 10 0<|oL 11 10<|om 12 1<|oL 13 12<|ob 14 .neq 11 13 .done) (.cond 14 (sR (o1 6 (.mv (.const (.bool false))) .done) .ret) .skip)) (.seq (sR (om 15 0<|oL 16 15<|o1 17 (.mv z0) .done) (.block 0 (.loop (sR (ob 18 .lss 17 16 .done) (.seq (.cond 18 .skip (.exit 0)) (.seq (.block 1 (sR (om 19 17<|oI 20 6 15 17<|o1 21 (.ld (some 6) 20)<|o1 8 (.alo (.agg #[(vZ 0),(vZ 0),(vZ 0),(Al []),(.slice none 0 0),(.slice none 0 0)]))<|om 7 19<|o0 (.st 6 8 21) .done) (sR (om 22 1<|om 23 7<|oI 24 6 22 23<|o1 25 (.ld (some 6) 24)<|o1 9 (.alo (.agg #[(vZ 0),(vZ 0),(vZ 0),(Al []),(.slice none 0 0),(.slice none 0 0)]))<|o0 (.st 6 9 25) .done) (sR (om 26 2<|o1 27 (.ld (some 6) 8)<|o1 28 (.ld (some 6) 9)<|o1 29 (.callv 26 [27,28])<|o1 30 (.un .not 29) .done) (.cond 30 (sR (o1 6 (.mv (.const (.bool false))) .done) .ret) .skip))))) (rG (ob 31 .add 17 z1<|om 17 31 .done)))))))) (sR (o1 6 (.mv (.const (.bool true))) .done) .ret))))⟩
set_option maxHeartbeats 1000000 in
def UL{P f}(hd:dec P f=some Da):Me P f:=by
 intro d v w a b g hv hw hg;have n1:=RSl.Be hv;have n2:=RSl.Be hw;obtain⟨pa,ca,rfl⟩:=RSl.val hv;obtain⟨pb,cb,rfl⟩:=RSl.val hw;have hv':RSl 6 Aw d (.slice pa a.length ca) a:=hv;have hw':RSl 6 Aw d (.slice pb b.length cb) b:=hw;have hbad:∀{p:Prop},¬p→(a=b→p)→false=F9 a b:=fun h1 h2=>by rw[eq_comm,←Abk,JI];exact fun e=>h1 (h2 e)
 refine AM.of' hd (No rfl) ?_;show gwp P _ _ _ _ _;by_cases hlen:(a.length:Int)≠b.length
 ·(refine Ac<|Ad rfl<|Aa<|Ai<|Ac<|As rfl<|AA rfl<|As rfl<|AA rfl<|AG rfl rfl<|Aa<|Au rfl (by omega)<|Ac<|Ad rfl<|Aa<|Ar ?_);apply Bf;rfl;exact hbad (p:=(a.length:Int)=b.length) hlen (fun e=>by rw[e])
 have hlen':a.length=b.length:=by omega
 have hlz:(a.length:Int)=b.length:=by omega
 (refine Ac<|Ad rfl<|Aa<|Ai<|Ac<|As rfl<|AA rfl<|As rfl<|AA rfl<|AG rfl rfl<|Aa<|Ao rfl (by omega)<|Am<|Ai<|Ac<|As rfl<|AA rfl<|Ab rfl<|Aa<|Av ?_);refine Bg (α:=Nat) (fun i=>[(1,.slice pb b.length cb),(2,.func (.func g) #[] #[]),(15,.slice pa a.length ca),(16,vZ a.length),(17,vZ i)]) (fun i d' L'=>d'=d∧i≤a.length∧a.take i=b.take i) (fun i=>a.length - i) 0 ⟨rfl,rfl,rfl,rfl,rfl,trivial⟩ ⟨rfl,ZN _,rfl⟩ ?_;rintro i ρ d' L' ⟨hdd,hi,heq⟩;subst hdd;have hv2:RSl 6 Aw d' (.slice pa a.length ca) a:=hv';have hw2:RSl 6 Aw d' (.slice pb b.length cb) b:=hw';by_cases hc:i<a.length
 ·have hcb:i<b.length:=by omega
  (refine Ac<|Ax rfl rfl<|Aa<|Ai<|Au rfl (by omega)<|Am<|Ai<|Av<|Ac<|Ab rfl<|AJ (sz:=6) (R:=Aw) (by rfl) (by assumption) (by rfl) rfl (by omega) ?_;rintro _ _ _ _ _ _;refine BE rfl (by assumption) (by assumption)<|AX (fun _ _=>Ab rfl ?_));rename_i cs hcs hD hR b8 T8;obtain⟨c0,c1,c2,c3,c4,c5,rfl⟩:=six hcs;refine Az 0 [c0,c1,c2,c3,c4,c5] rfl rfl rfl rfl (No rfl) (AH _ _ _ hR) rfl ?_;(refine Aa<|Ac<|As rfl<|Ab rfl<|AJ (sz:=6) (R:=Aw) (by rfl) (by assumption) (by rfl) rfl (by omega) ?_;rintro _ _ _ _ _ _;refine BE rfl (by assumption) (by assumption)<|AX (fun _ _=>?_));rename_i ds hds hD2 hR2 b9 T9;obtain⟨e0,e1,e2,e3,e4,e5,rfl⟩:=six hds;refine Az 0 [e0,e1,e2,e3,e4,e5] rfl rfl rfl rfl (No rfl) (AH _ _ _ hR2) rfl ?_;(refine Aa<|Ac<|CV rfl<|AD 1 rfl rfl rfl<|AD 0 rfl rfl rfl ?_);refine Ea (vs:=[.agg [c0,c1,c2,c3,c4,c5].toArray,.agg [e0,e1,e2,e3,e4,e5].toArray]) rfl rfl (hg _ (ZC hc) _ _ _ hR hR2) ?_;cases hs:Ck a[i] b[i] with
  |false=>
   (refine Bi rfl<|Aa<|Bb rfl<|Ac<|Ad rfl<|Aa<|Ar ?_)
   apply Bf;rfl
   refine hbad (p:=a[i]=b[i]) (fun e=>?_) (fun e=>by subst e;rfl)
   rw[(CP _ _).2 e] at hs;cases hs
  |true=>
   (refine Bi rfl<|Aa<|AK rfl<|Am<|Ay<|AI rfl rfl (by omega) (by omega)<|Ab rfl<|Aa ?_)
   exact⟨i+1,by omega,⟨rfl,rfl,rfl,rfl,int_eq (by omega),trivial⟩,rfl,hc,by rw[ZA hc,ZA hcb,heq,(CP _ _).1 hs]⟩
 ·obtain rfl:i=a.length:=by omega
  rw[ZV,hlen',ZV] at heq;(refine Ac<|Ax rfl rfl<|Aa<|Ai<|Ao rfl (by omega)<|AV<|Ac<|Ad rfl<|Aa<|Ar ?_);apply Bf;rfl;rw[eq_comm,JI];exact heq
def QH(a0 a1 a2:Nat):A6:=⟨38,[(.tmp 4)],(sR (o1 2 (.box 0)<|o1 3 (.box 1)<|o1 4 (.mv (.const (.bool false))) .done) (sR (oj 5 0 2<|ol 6 5<|oj 7 0 3<|ol 8 7<|ob 9 .eql 6 8<|om 10 9<|oT 11 10 (.fld 1 2)<|oT 12 10 (.ld (some 2) 11)<|oT 13 10 (.fld 1 3)<|oT 14 10 (.ld (some 2) 13)<|oT 15 10 (.eqc false [(0,0),(0,1)] 12 14)<|gP 16 10 15<|om 17 16<|oT 18 17 (.fld 3 2)<|oT 19 17 (.ld none 18)<|oT 20 17 (.fld 3 3)<|oT 21 17 (.ld none 20)<|oT 22 17 (.bin .eql 19 21)<|gP 23 17 22<|om 24 23<|oT 25 24 (.fld 5 2)<|oT 26 24 (.ld none 25)<|oT 27 24 (.fld 5 3)<|oT 28 24 (.ld none 27)<|oT 29 24 (.call a0 [26,28])<|gP 30 24 29<|om 31 30<|oT 32 31 (.fld 4 2)<|oT 33 31 (.ld none 32)<|oT 34 31 (.fld 4 3)<|oT 35 31 (.ld none 34)<|oT 36 31 (.call a1 [33,35,(.func a2)])<|gP 37 31 36<|om 4 37 .done) .ret))⟩
set_option maxHeartbeats 1000000 in
def V9{P f f1 f2}(hd:dec P f=some (QH f1 f2 f))(h1:Jl P f1)(h2:Me P f2):Gi P f:=by
 intro a;induction a using V.ind with
 |h a ih=>
 intro b d cs ds ha hb;refine AM.of' hd (No rfl) ?_;have hbad:∀{p:Prop},¬p→(a=b→p)→false=Ck a b:=fun h1 h2=>Lc ⟨fun h=>(by cases h),fun h=>absurd (h2 h) h1⟩;obtain⟨lv,kv,rfl,ik,im,ie,it,hl,hks⟩:=ha.open;obtain⟨lv',kv',rfl,ik',im',ie',it',hl',hks'⟩:=hb.open;obtain⟨la,lc,rfl⟩:=RSl.val hl;obtain⟨ka,kc,rfl⟩:=RSl.val hks;obtain⟨la',lc',rfl⟩:=RSl.val hl';obtain⟨ka',kc',rfl⟩:=RSl.val hks';show gwp P _ _ _ _ _;apply Ai;apply Ay;refine AO (l:=[vZ a.kind,vZ a.m,vZ a.e,Al a.text,.slice la a.list.length lc,.slice ka a.keys.length kc]) rfl (fun b2 T2=>?_);refine AO (l:=[vZ b.kind,vZ b.m,vZ b.e,Al b.text,.slice la' b.list.length lc',.slice ka' b.keys.length kc']) rfl (fun b3 T3=>?_);by_cases p1:a.kind≠b.kind
 ·(refine Ad rfl<|Aa<|Ac<|Af rfl<|Ah rfl (Aj 1 rfl rfl)<|Af rfl<|Ah rfl (Aj 0 rfl rfl)<|Aq rfl rfl<|Ad rfl<|AB rfl (by omega)<|Ak rfl<|Ak rfl<|Ak rfl<|Ak rfl<|Ak rfl<|An rfl rfl<|Ad rfl<|Ak rfl<|Ak rfl<|Ak rfl<|Ak rfl<|Ak rfl<|An rfl rfl<|Ad rfl<|Ak rfl<|Ak rfl<|Ak rfl<|Ak rfl<|Ak rfl<|An rfl rfl<|Ad rfl<|Ak rfl<|Ak rfl<|Ak rfl<|Ak rfl<|Ak rfl<|An rfl rfl<|Ad rfl<|Aa<|Ar ?_);apply Bf;rfl;exact hbad (p:=a.kind=b.kind) p1 (fun h=>by rw[h])
 by_cases p2:(false ^^(decide (a.m=b.m)&& decide (a.e=b.e)))=false
 ·(refine Ad rfl<|Aa<|Ac<|Af rfl<|Ah rfl (Aj 1 rfl rfl)<|Af rfl<|Ah rfl (Aj 0 rfl rfl)<|Aq rfl rfl<|Ad rfl<|AE rfl (by omega)<|Ae rfl<|Af rfl<|Ae rfl<|BJ 1 rfl rfl rfl<|Ae rfl<|Af rfl<|Ae rfl<|BJ 0 rfl rfl rfl<|Ae rfl<|Cx rfl rfl<|Ap rfl rfl<|Ad rfl ?_;apply Lj;rfl;(with_reducible assumption);refine Ak rfl<|Ak rfl<|Ak rfl<|Ak rfl<|Ak rfl<|An rfl rfl<|Ad rfl<|Ak rfl<|Ak rfl<|Ak rfl<|Ak rfl<|Ak rfl<|An rfl rfl<|Ad rfl<|Ak rfl<|Ak rfl<|Ak rfl<|Ak rfl<|Ak rfl<|An rfl rfl<|Ad rfl<|Aa<|Ar ?_);apply Bf;rfl;refine hbad (p:=a.m=b.m∧a.e=b.e) (fun h=>?_) (fun h=>by rw[h];exact⟨rfl,rfl⟩);rw[h.1,h.2] at p2;simp at p2
 have p2':(false ^^(decide (a.m=b.m)&& decide (a.e=b.e)))=true:=by simpa using p2
 have p2'':a.m=b.m∧a.e=b.e:=by simpa using p2'
 by_cases p3:a.text≠b.text
 ·(refine Ad rfl<|Aa<|Ac<|Af rfl<|Ah rfl (Aj 1 rfl rfl)<|Af rfl<|Ah rfl (Aj 0 rfl rfl)<|Aq rfl rfl<|Ad rfl<|AE rfl (by omega)<|Ae rfl<|Af rfl<|Ae rfl<|BJ 1 rfl rfl rfl<|Ae rfl<|Af rfl<|Ae rfl<|BJ 0 rfl rfl rfl<|Ae rfl<|Cx rfl rfl<|Ap rfl rfl<|Ad rfl ?_;apply Jc;rfl;(with_reducible assumption);refine Ae rfl<|Af rfl<|Ae rfl<|Ah rfl (Aj 1 rfl rfl)<|Ae rfl<|Af rfl<|Ae rfl<|Ah rfl (Aj 0 rfl rfl)<|Ae rfl<|Ek rfl rfl<|Ap rfl rfl<|Ad rfl<|AB rfl (by omega)<|Ak rfl<|Ak rfl<|Ak rfl<|Ak rfl<|Ak rfl<|An rfl rfl<|Ad rfl<|Ak rfl<|Ak rfl<|Ak rfl<|Ak rfl<|Ak rfl<|An rfl rfl<|Ad rfl<|Aa<|Ar ?_);apply Bf;rfl;exact hbad (p:=a.text=b.text) p3 (fun h=>by rw[h])
 have p3':a.text=b.text:=by simpa using p3
 have p1':a.kind=b.kind:=by simpa using p1
 have fin:a.keys=b.keys→a.list=b.list→true=Ck a b:=fun e1 e2=>Lc ⟨fun _=>by
  obtain⟨k,m,e,t,l,ks⟩:=a;obtain⟨k',m',e',t',l',ks'⟩:=b;simp only[V.kind,V.m,V.e,V.text,V.list,V.keys] at p1' p2'' p3' e1 e2;rw[p1',p2''.1,p2''.2,p3',e1,e2],fun _=>rfl⟩
 (refine Ad rfl<|Aa<|Ac<|Af rfl<|Ah rfl (Aj 1 rfl rfl)<|Af rfl<|Ah rfl (Aj 0 rfl rfl)<|Aq rfl rfl<|Ad rfl<|AE rfl (by omega)<|Ae rfl<|Af rfl<|Ae rfl<|BJ 1 rfl rfl rfl<|Ae rfl<|Af rfl<|Ae rfl<|BJ 0 rfl rfl rfl<|Ae rfl<|Cx rfl rfl<|Ap rfl rfl<|Ad rfl ?_;apply Jc;rfl;(with_reducible assumption);refine Ae rfl<|Af rfl<|Ae rfl<|Ah rfl (Aj 1 rfl rfl)<|Ae rfl<|Af rfl<|Ae rfl<|Ah rfl (Aj 0 rfl rfl)<|Ae rfl<|Ek rfl rfl<|Ap rfl rfl<|Ad rfl<|AE rfl (by omega)<|Ae rfl<|Af rfl<|Ae rfl<|Ah rfl (Aj 1 rfl rfl)<|Ae rfl<|Af rfl<|Ae rfl<|Ah rfl (Aj 0 rfl rfl)<|Ae rfl ?_);refine AF rfl (h1 hks hks') ?_;by_cases p4:a.keys=b.keys
 ·rw[decide_eq_true p4];(refine Ap rfl rfl<|Ad rfl<|Ae rfl<|Af rfl<|Ae rfl<|Ah rfl (Aj 1 rfl rfl)<|Ae rfl<|Af rfl<|Ae rfl<|Ah rfl (Aj 0 rfl rfl)<|Ae rfl ?_);refine AF rfl (h2 hl hl' (fun x hx y cs ds hcx hcy=>ih x hx y hcx hcy)) ?_;cases p5:F9 a.list b.list with
  |true=>
   (refine Ap rfl rfl<|Ad rfl<|Aa<|Ar ?_)
   apply Bf;rfl
   exact fin p4 (JI.1 p5)
  |false=>
   (refine Ap rfl rfl<|Ad rfl<|Aa<|Ar ?_)
   apply Bf;rfl
   refine hbad (p:=a.list=b.list) (fun h=>?_) (fun h=>by rw[h])
   rw[JI.2 h] at p5;cases p5
 ·rw[decide_eq_false p4];(refine Ap rfl rfl<|Ad rfl<|Ak rfl<|Ak rfl<|Ak rfl<|Ak rfl<|Ak rfl<|An rfl rfl<|Ad rfl<|Aa<|Ar ?_);apply Bf;rfl;exact hbad (p:=a.keys=b.keys) p4 (fun h=>by rw[h])
end Go.Gk.Val
end
section
namespace Go.Gk
open Go
section
section
variable {κ ν:Type}(kE:κ→Value) (vE:ν→Value)
end
section
variable {κ ν:Type} [DecidableEq κ]
end
section
variable {κ ν:Type}{kE:κ→Value}{vE:ν→Value}
variable {P:Program}{pan:List PanicEntry→A0}{Qn:Env→A0}{Ls L:List Ag}{ρ:Env}{d:Ag}{s:GS}{t:Nat}
end
end
end Go.Gk
end
section
namespace Go.Gk.Val
open Go Go.Gk Go.Gk.Utf
end Go.Gk.Val
end
section
namespace Go.Gk.Val
open Go Go.Gk Go.Gk.Utf
end Go.Gk.Val
end
section
namespace Go.Gk.Val
open Go Go.Gk Go.Gk.Utf
variable{n:Int}
def dig:Nat→Int→Int→Int×Int
 |0,n,e=>(n,e)
 |f+1,n,e=>if n≠0∧n % 10=0 then dig f (n / 10) (e+1) else(n,e)
def B1(n:Int):Bool:=decide (-1000000000≤n∧n≤1000000000)
def El(n:Int):V:=.mk 3 (dig 10 n 0).1 (dig 10 n 0).2 [] [] []
def Mp{f:Nat}{e:Int}(h:n≠0∧n % 10=0):dig (f+1) n e=dig f (n / 10) (e+1):=by rw[dig,if_pos h]
def Ht{f:Nat}{e:Int}(h:¬(n≠0∧n % 10=0)):dig f n e=(n,e):=by
 cases f with
 |zero=>rfl
 |succ f=>rw[dig,if_neg h]
def Qx(h:n % 10=0):n.tdiv 10=n / 10:=Int.tdiv_eq_ediv_of_dvd (Adh h)
def JC:n.tmod 10=0↔n % 10=0:=by
 constructor
 ·intro h;exact Int.emod_eq_zero_of_dvd (Int.dvd_of_tmod_eq_zero h)
 ·intro h;exact Int.tmod_eq_zero_of_dvd (Adh h)
def ME:∀(f:Nat) (n e:Int),n.natAbs<10 ^ f→∃k:Nat,k≤f∧(dig f n e).2=e+k∧n=(dig f n e).1*10 ^ k∧((dig f n e).1=0∨(dig f n e).1 % 10≠0)∧(n=0→k=0)
 |0,n,e,h=>⟨0,ZL _,by simp[dig],by simp[dig],by left;simp[dig];omega,fun _=>rfl⟩
 |f+1,n,e,h=>by
  by_cases c:n≠0∧n % 10=0
  ·rw[Mp c];obtain⟨k,h1,h2,h3,h4,h5⟩:=ME f (n / 10) (e+1) (by rw[Nat.pow_succ] at h;omega);refine⟨k+1,by omega,by rw[h2];push_cast;omega,?_,h4,fun q=>absurd q c.1⟩
   rw[Int.pow_succ,←Acr,←h3];omega
  ·rw[Ht c];refine⟨0,by omega,by simp,by simp,?_,fun _=>rfl⟩
   show n=0∨n % 10≠0;by_cases z:n=0
   ·exact Or.inl z
   ·exact Or.inr (fun q=>c ⟨z,q⟩)
def ES(n:Int):Bool:=decide (n>1000000000∨n< -1000000000)
def AQ(v:V):Int×Bool:=if v.kind≠3∨v.e<0∨v.e>9 then(0,false) else if ES v.m=true then(0,false) else(v.m*10 ^ v.e.toNat,B1 (v.m*10 ^ v.e.toNat))
def C7:Nat→Int→Int×Bool
 |0,n=>(n,B1 n)
 |k+1,n=>if ES n=true then(0,false) else C7 k (n*10)
def Cd(v:V):Int×Bool:=if v.kind≠3∨v.e<0 then(0,false) else C7 v.e.toNat v.m
def Dy:B1 n=true↔ -1000000000≤n∧n≤1000000000:=by simp[B1]
def JG:ES n=true↔¬(B1 n=true):=by simp[ES,B1];omega
def Vv:∀(k:Nat) {n:Int},¬(-1000000000≤n∧n≤1000000000)→(C7 k n).2=false
 |0,n,h=>by simp[C7,B1];omega
 |k+1,n,h=>by rw[C7,if_pos (by rw[JG,Dy];exact h)]
def Jh:∀(k:Nat) {n:Int},(C7 k n).2=true→(C7 k n).1=n*10 ^ k∧B1 (n*10 ^ k)=true
 |0,n,h=>by simp only[C7] at h⊢;simpa using h
 |k+1,n,h=>by
  rw[C7] at h⊢;by_cases c:ES n=true
  ·rw[if_pos c] at h;cases h
  ·rw[if_neg c] at h⊢;obtain⟨h1,h2⟩:=Jh k h;have e:n*10 ^(k+1)=n*10*10 ^ k:=by rw[Int.pow_succ];rw[Acr,Int.mul_comm 10]
   rw[e];exact⟨h1,h2⟩
def UJ(k:Nat):(1:Int)≤10 ^ k:=by
 induction k with
 |zero=>decide
 |succ k ih=>rw[Int.pow_succ];omega
def G3(n:Int)(k:Nat):(0≤n→n≤n*10 ^ k)∧(n≤0→n*10 ^ k≤n):=by
 have h:=UJ k;constructor
 ·intro hn;have:=Int.mul_le_mul_of_nonneg_left h hn;omega
 ·intro hn;have:=Int.mul_le_mul_of_nonpos_left hn h;omega
def MR:∀(k:Nat) {n:Int},B1 (n*10 ^ k)=true→C7 k n=(n*10 ^ k,true)
 |0,n,h=>by simp only[C7];simp at h⊢;exact h
 |k+1,n,h=>by
  have e:n*10 ^(k+1)=n*10*10 ^ k:=by rw[Int.pow_succ];rw[Acr,Int.mul_comm 10]
  rw[e] at h;have h':=h;rw[Dy] at h;have a:=G3 (n*10) k;rw[C7,if_neg (by rw[JG,Dy];intro q;apply q;omega),MR k h',e]
def PW{v:V}(h:Br v.m v.e=true):(AQ v).2=(Cd v).2∧((AQ v).2=true→AQ v=Cd v):=by
 unfold AQ Cd;by_cases c1:v.kind≠3∨v.e<0
 ·rw[if_pos (by rcases c1 with c|c;exact Or.inl c;exact Or.inr (Or.inl c)),if_pos c1];exact⟨rfl,fun _=>rfl⟩
 rw[if_neg c1];have hm:v.m=0→v.e=0:=by
  intro q;unfold Br at h;rw[if_pos q] at h;simpa using h
 by_cases c2:v.e>9
 ·rw[if_pos (Or.inr (Or.inr c2))];have hf:(C7 v.e.toNat v.m).2=false:=by
   cases hq:(C7 v.e.toNat v.m).2 with
   |false=>rfl
   |true=>
    obtain⟨_,h2⟩:=Jh _ hq
    rw[Dy] at h2
    obtain⟨k,hk⟩:∃k,v.e.toNat=k+10:=⟨v.e.toNat - 10,by omega⟩
    have e:v.m*10 ^ v.e.toNat=v.m*10000000000*10 ^ k:=by
     rw[hk,Int.pow_add,Int.mul_comm (10 ^ k),←Acr];rfl
    rw[e] at h2
    have a:=G3 (v.m*10000000000) k
    omega
  exact⟨hf.symm,fun q=>by cases q⟩
 ·rw[if_neg (by intro q;rcases q with q|q|q;exact c1 (Or.inl q);exact c1 (Or.inr q);exact c2 q)];by_cases c3:ES v.m=true
  ·rw[if_pos c3];rw[JG,Dy] at c3;exact⟨(Vv _ c3).symm,fun q=>by cases q⟩
  ·rw[if_neg c3];by_cases c4:B1 (v.m*10 ^ v.e.toNat)=true
   ·rw[MR _ c4,c4];exact⟨rfl,fun _=>rfl⟩
   ·have c4':B1 (v.m*10 ^ v.e.toNat)=false:=by simpa using c4
    refine⟨?_,fun q=>absurd q c4⟩
    show B1 _=_;rw[c4'];cases hq:(C7 v.e.toNat v.m).2 with
    |false=>rfl
    |true=>exact absurd (Jh _ hq).2 c4
def IC(h:B1 n=true):Br (dig 10 n 0).1 (dig 10 n 0).2=true∧AQ (El n)=(n,true):=by
 rw[Dy] at h;have hb:n.natAbs<10 ^ 10:=by rw[show(10:Nat)^ 10=10000000000 by decide];omega
 obtain⟨k,h1,h2,h3,h4,h5⟩:=ME 10 n 0 hb;simp only[Int.zero_add] at h2;have a:=G3 (dig 10 n 0).1 k;rw[←h3] at a;have hk:k≤9:=by
  by_cases z:n=0
  ·have:=h5 z;omega
  ·rcases Nat.lt_or_ge k 10 with q|q
   ·omega
   ·have e:k=10:=by omega
    subst e;rw[show(10:Int)^ 10=10000000000 by decide] at h3;omega
 constructor
 ·unfold Br;by_cases z:(dig 10 n 0).1=0
  ·have zn:n=0:=by rw[h3,z];simp
   rw[if_pos z,h2,h5 zn];rfl
  ·rw[if_neg z,h2];have h4':(dig 10 n 0).1 % 10≠0:=by rcases h4 with q|q;exact absurd q z;exact q
   simp only[decide_eq_true_eq];refine⟨by omega,by omega,h4',by omega,by omega⟩
 ·unfold AQ El;simp only[V.kind,V.m,V.e];rw[h2];have ek:((k:Int)).toNat=k:=by omega
  rw[if_neg (by omega),if_neg (by rw[JG,Dy];intro q;apply q;omega),ek,←h3];rw[show B1 n=true from Dy.2 h]
def DE:List UInt8:=[101,110,100]
def CA:List UInt8:=[115,116,97,114,116]
def stZ:St:=⟨0,[],0,0,false,false⟩
def CN(n:Int)(has:Bool):Bool:= !has||B1 n
def Dk(n:Int)(has:Bool):V:=if has then(if B1 n then El n else V.zero) else V.zero
def BM(s:St):Bool:=if s.kind=0 then u8 s.text else if s.kind=1 then B1 s.src else if s.kind=2 then CN s.dst s.ht && CN s.src s.hf else false
def B4(s:St):V:=if s.kind=0 then .mk 4 0 0 s.text [] [] else if s.kind=1 then(if B1 s.src then El s.src else V.zero) else if s.kind=2 then .mk 6 0 0 [] [Dk s.dst s.ht,Dk s.src s.hf] [DE,CA] else V.zero
def Dc(w:List St):Bool:=w.all BM
def BU(w:List St):V:=.mk 5 0 0 [] (w.map B4) []
def Cr(w:List St):V×Int:=if Dc w then(BU w,0) else(V.zero,2)
def BB(v:V):St×Bool:=
 if v.kind=4 then(⟨0,v.text,0,0,false,false⟩,true)
 else if v.kind=3 then(⟨1,[],(AQ v).1,0,false,false⟩,(AQ v).2)
 else if v.kind=6 then
  if v.keys=[DE,CA] then
   let a:=v.list.getD 0 V.zero;let b:=v.list.getD 1 V.zero
   (⟨2,[],if b.kind≠0 then(AQ b).1 else 0,if a.kind≠0 then(AQ a).1 else 0,decide (b.kind≠0),decide (a.kind≠0)⟩,(decide (a.kind=0)||(AQ a).2)&&(decide (b.kind=0)||(AQ b).2))
  else(stZ,false)
 else(stZ,false)
def G1(v:V):List St×Int:=
 if AS v≠0 then([],AS v) else if v.kind≠5 then([],80) else if v.list.all (fun x=>(BB x).2) then(v.list.map fun x=>(BB x).1,0) else([],80)
def Sj{v:V}:BH v=true↔BW v=true∧∀x∈v.list,BH x=true:=by rw[Ed,Zz,ZF]
def NI(h:B1 n=true):Dk n true=El n:=by simp[Dk,h]
def OU(h:B1 n=true):BH (El n)=true:=by
 obtain⟨h1,_⟩:=IC h;rw[Sj];refine⟨?_,fun x hx=>absurd hx (Abl)⟩
 simp[El,BW,Cf,V.kind,V.m,V.e,V.text,V.list,V.keys,h1,u8,Lib.validD_nil,rising,D5]
def WG:BH V.zero=true:=by decide
def RX{has:Bool}(h:CN n has=true):BH (Dk n has)=true:=by
 cases has with
 |false=>exact WG
 |true=>
  have h:B1 n=true:=by simpa [CN] using h
  rw[NI h];exact OU h
def Rm{s:St}(h:BM s=true):BH (B4 s)=true:=by
 unfold BM at h;unfold B4;by_cases k0:s.kind=0
 ·rw[if_pos k0] at h⊢;rw[Sj];refine⟨?_,fun x hx=>absurd hx (Abl)⟩
  simp only[BW,Cf,V.kind,V.m,V.e,V.text,V.list,V.keys,h];rfl
 rw[if_neg k0] at h⊢;by_cases k1:s.kind=1
 ·rw[if_pos k1] at h⊢;rw[if_pos h];exact OU h
 rw[if_neg k1] at h⊢;by_cases k2:s.kind=2
 ·rw[if_pos k2] at h⊢;rw[Zz] at h;refine R0 (by decide) rfl fun x hx=>?_;simp only[ZR,Abl,or_false] at hx;rcases hx with rfl|rfl
  ·exact RX h.1
  ·exact RX h.2
 ·rw[if_neg k2] at h;cases h
def SE{w:List St}(h:Dc w=true):BH (BU w)=true:=by
 refine Mv fun x hx=>?_;obtain⟨s,hs,rfl⟩:=List.mem_map.1 hx;exact Rm (ZF.1 h s hs)
def U4{has:Bool}:(Dk n has).list=[]:=by unfold Dk;split<;>(try split)<;>rfl
def SV(s:St):Bc (B4 s)≤2:=by
 rw[show 2=1+1 from rfl,DQ];intro x hx;rw[show 1=0+1 from rfl,DQ];intro y hy;exfalso;unfold B4 at hx;split at hx
 ·cases hx
 split at hx
 ·split at hx<;>cases hx
 split at hx
 ·simp only[V.list,ZR,Abl,or_false] at hx;rcases hx with rfl|rfl<;>(rw[U4] at hy;cases hy)
 ·cases hx
end Go.Gk.Val
end
