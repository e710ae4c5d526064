/-
  Our own texts, one behind the other: GkV2 GkV3 GkV10 GkTabs Gk21 GkV4 GkU2 GkV5 GkV6 GkV7 GkV8 Gk17 GkV9 GkVArg0 GkU3 GkS0 GkS1 GkP0 GkS2.
-/
import Derived.Shelf.Unicode.ValidAny
import Derived.Lib.RuneCountTail
import Derived.Lib.QuoteLoop
import Derived.Lib.MapLaws
import Derived.Lib.ValidLaws
import Derived.Test.YtakjmidegfgjoaaGreatDoorPtB
set_option linter.defProp false
set_option linter.unusedVariables false
set_option linter.unusedSimpArgs false
open Nat renaming le_of_ble_eq_true→Aca,le_refl→Ack,zero_le→Acu,not_lt_zero→Aec,sub_self→Aeu,add_sub_cancel→Afo,pow_le_pow_right→Agd
open List renaming nil_sublist→Acb,length_append→Acd,getElem?_eq_getElem→Acf,length_cons→Acg,mem_cons_of_mem→Aci,length_drop→Acl,eq_nil_of_length_eq_zero→Acm,all_eq_true→Acn,getElem_mem→Acq,take_succ_eq_append_getElem→Acx,length_singleton→Adf,mem_of_mem_take→Adg,replicate→Adi,mem_cons→Adj,length_pos_iff→Adk,take_of_length_le→Adm,map_cons→Adx,range→Ady,getElem_of_mem→Aea,take_length→Aed,nil_append→Aer,getElem?_append_left→Aet,getD→Aez,take_succ_cons→Afh,map_nil→Afl,length→Afp,all_append→Age,map_take→Agj,drop_zero→Agr,getElem_cons_succ→Agu,pairwise_iff_getElem→Ahe
open Bool renaming and_eq_true→Ace,false_eq_true→Adl,or_eq_true→Aee,not_eq_true→Aev,true_and→Afi,eq_iff_iff→Afu
open List.Sublist renaming refl→Acy
open Int renaming le_refl→Afv
section
namespace Go.Gk.Val
open Go Go.Gk
attribute [local irreducible] gwp gws
variable{ks:List (List UInt8)}{P:Program}{f f1:FuncId}{k m e:Int}{l:List V}
mutual
def Bj:V→Nat
 |.mk _ _ _ _ l _=>DS l+1
def DS:List V→Nat
 |[]=>0
 |x::l=>max (Bj x) (DS l)
end
def HY{n:Nat}:∀{l:List V},DS l≤n↔∀x∈l,Bj x≤n
 |[]=>by simp[DS]
 |x::l=>by
  simp only[DS,Adj,forall_eq_or_imp];rw[←HY (l:=l)];omega
def EL{v:V}{n:Nat}:Bj v≤n+1↔∀x∈v.list,Bj x≤n:=by
 obtain⟨k,m,e,t,l,ks⟩:=v;simp only[Bj,V.list];rw[←HY];omega
def Fs(v:V):1≤Bj v:=by obtain⟨k,m,e,t,l,ks⟩:=v;simp only[Bj];omega
def u8(l:List UInt8):Bool:=Lib.validD l
def B4(m e:Int):Bool:=if m=0 then decide (e=0) else decide (-1000000000000000000<m∧m<1000000000000000000∧m % 10≠0∧ -64≤e∧e≤64)
def GJ(ks:List (List UInt8))(i:Nat):Bool:=u8 (ks.getD i [])&&(i==0||Op.bytesLess (ks.getD (i - 1) []) (ks.getD i []))
def Ep(ks:List (List UInt8)):Nat→Bool
 |0=>true
 |k+1=>Ep ks k && GJ ks k
def rising(ks:List (List UInt8)):Bool:=Ep ks ks.length
def GC{k:Nat}(h:GJ ks k=false):∀{m:Nat},k<m→Ep ks m=false:=by
 intro m hm;induction hm with
 |refl=>simp[Ep,h]
 |step _ ih=>simp[Ep,ih]
def CI(v:V):Bool:=decide (0≤v.kind∧v.kind≤6)&&(decide (v.kind=3)||decide (v.m=0∧v.e=0))&&(decide (v.kind=4)||decide (v.text=[]))&&(decide (5≤v.kind)||decide (v.list=[]))&&(decide (v.kind=6)||decide (v.keys=[]))
def Cz(v:V):Bool:=CI v && B4 v.m v.e && u8 v.text && rising v.keys &&(decide (v.kind≠6)||decide (v.keys.length=v.list.length))
mutual
def Cf:V→Bool
 |.mk k m e t l ks=>Cz (.mk k m e t l ks)&& KH l
def KH:List V→Bool
 |[]=>true
 |x::l=>Cf x && KH l
end
def Ry:∀l:List V,KH l=l.all Cf
 |[]=>rfl
 |x::l=>by simp[KH,Ry l]
def DZ(v:V):Cf v=(Cz v && v.list.all Cf):=by obtain⟨k,m,e,t,l,ks⟩:=v;simp[Cf,Ry,V.list]
def Bf(v:V):Int:=if Bj v≤48 then(if Cf v then 0 else 30) else 31
def Mz(P:Program)(f:FuncId):Prop:=∀{d v}{l:List V}{g cap}{p:V→Bool},Cw d v l→(∀x∈l,∀cs,Az d cs x→AO P g (.agg cs.toArray::cap) d (.bool (p x)))→
 AO P f [v,.func (.func g) #[] cap.toArray] d (.bool (l.all p))
def Jd:Bo:=⟨18,[(.tmp 4)],(sR (o1 4 (.mv (.const (.bool false))) .done) (.seq (sR (om 7 0<|oL 8 7<|o1 9 (.mv z0) .done) (.block 0 (.loop (sR (ob 10 .lss 9 8 .done) (.seq (.cond 10 .skip (.exit 0)) (.seq (.block 1 (sR (oI 11 6 7 9<|o1 12 (.ld (some 6) 11)<|o1 6 (.alo (.agg #[(vZ 0),(vZ 0),(vZ 0),(Ag []),nV,nV]))<|o0 (.st 6 6 12) .done) (sR (om 13 1<|o1 14 (.ld (some 6) 6)<|o1 15 (.callv 13 [14])<|o1 16 (.un .not 15) .done) (.cond 16 (sR (o1 4 (.mv (.const (.bool false))) .done) .ret) .skip)))) (rG (ob 17 .add 9 z1<|om 9 17 .done)))))))) (sR (o1 4 (.mv (.const (.bool true))) .done) .ret)))⟩
def Xt(hd:dec P f=some Jd):Mz P f:=by
 intro d v l g cap p hv hg;have hll:=RSl.BW hv;obtain⟨a,c,rfl⟩:=RSl.val hv;refine EK hd<|Aj<|Ao Z<|Ap<|AR Z<|AK Z<|AL Z<|Am<|BP (α:=Nat) (fun i=>[(1,.func (.func g) #[] cap.toArray),(7,.slice a l.length c),(8,vZ l.length),(9,vZ i)])
  (fun i d' L'=>d'=d∧i≤l.length∧(l.take i).all p=true) (fun i=>l.length - i) 0 ⟨Z,Z,Z,Z,trivial⟩ ⟨Z,Acu _,by simp⟩ ?_
 rintro i ρ d' L' ⟨hdd,hi,hp⟩;subst hdd;have hv':RSl 6 Az d' (.slice a l.length c) l:=hv;(refine Aj<|As Z Z<|Cr ?_);first|refine NV rfl (fun hc=>?_) (fun hc=>?_)|refine Sn rfl (fun hc=>?_) (fun hc=>?_)
 ·have hi1:i<l.length:=by omega
  (refine Ay<|Ax<|Am<|Aj<|A2 (sz:=6) (R:=Az) (by rfl) (by assumption) (by rfl) Z (by omega) ?_;rintro _ _ _ _ _ _;refine CT Z (by assumption) (by assumption)<|BV (fun _ _=>?_));rename_i cs hcs hD hR b6 T6;obtain⟨c0,c1,c2,c3,c4,c5,rfl⟩:∃c0 c1 c2 c3 c4 c5,cs=[c0,c1,c2,c3,c4,c5]:=by
   match cs,hcs with
   |[a,b,c,d,e,f],_=>exact⟨a,b,c,d,e,f,Z⟩
  have h1c:=AW _ _ _ hR;refine Au 0 [c0,c1,c2,c3,c4,c5] Z Z Z Z (Aca Z) h1c Z<|Br<|Yr Z<|AP 0 Z Z Z<|Te (vs:=.agg [c0,c1,c2,c3,c4,c5].toArray::cap) Z (by simp;rfl) (hg _ (Acq hi1) _ hR) ?_;cases hpx:p l[i] with
  |false=>
   (refine Bu Z<|BK Z<|Aj<|Bk Z ?_)
   apply Yl;rfl
   rw[eq_comm,←Aev,Acn]
   intro h;rw[h _ (Acq hi1)] at hpx;cases hpx
  |true=>
   (refine Bu Z<|Bh Z<|Ar<|AY Z Z<|AL Z ?_)
   exact⟨i+1,by omega,⟨Z,Z,Z,int_eq (by omega),trivial⟩,Z,hi1,by rw[Acx hi1,Age,hp];simp[hpx]⟩
 ·obtain rfl:i=l.length:=by omega
  rw[Aed] at hp;(refine A6<|Aj<|Bk Z ?_);apply Yl;rfl;exact hp.symm
def LY(P:Program)(f:FuncId):Prop:=∀(v:V) {d cs}{k:Nat},Az d cs v→k≤1000000→AO P f [.agg cs.toArray,vZ k] d (.bool (decide (Bj v≤k)))
def MV(a0:Nat):Bo:=⟨8,[(.tmp 3)],(sR (o1 2 (.box 0)<|o1 3 (.mv (.const (.bool false))) .done) (sR (o1 4 (.ld (some 6) 2)<|ol 5 1<|ob 6 .sub 5 z1<|oc 7 a0 [4,6]<|om 3 7 .done) .ret))⟩
def NR(a0 a1:Nat):Bo:=⟨13,[(.tmp 4)],(sR (o1 2 (.box 0)<|o1 3 (.box 1)<|o1 4 (.mv (.const (.bool false))) .done) (sR (ol 5 3<|ob 6 .gtr 5 z0<|om 7 6<|oT 8 7 (.fld 4 2)<|oT 9 7 (.ld none 8)<|oT 10 7 (.mkf (.func a0) [] [3])<|oT 11 7 (.call a1 [9,10])<|gP 12 7 11<|om 4 12 .done) .ret))⟩
def Ut{f2}(hd:dec P f=some (NR f1 f2))(h1:dec P f1=some (MV f))(h2:Mz P f2):LY P f:=by
 intro v;induction v using V.ind with
 |h v ih=>
 intro d cs k hv hk;refine AO.of' hd (Aca Z) ?_;obtain⟨lv,kv,rfl,ik,im,ie,it,hl,hks⟩:=hv.open;show gwp P _ _ _ _ _;apply Ax;apply Ar;refine Bg (l:=[vZ v.kind,vZ v.m,vZ v.e,Ag v.text,lv,kv]) Z (fun b2 T2=>?_);refine Ye (v:=vZ k) Z (fun b3 T3=>?_);refine DI (fun d3 hl3 hg3=>?_);have hc3:DCs d3 b3 0 [vZ k]:=Dn hg3;by_cases hk0:k=0
 ·subst hk0;(refine Ao Z<|Aj<|Al Z (BQ (by assumption) Z)<|AS Z Z<|Ac Z<|Aw Z<|Aq Z Z<|Aq Z Z<|Af Z Z<|Bk Z ?_);apply BF;rfl;have:=Fs v;simp;omega
 ·obtain⟨k,rfl⟩:∃j,k=j+1:=⟨k - 1,by omega⟩
  refine Ao Z<|Aj<|Al Z (BQ (by assumption) Z)<|AS Z Z<|Ac Z<|AA Z<|Aa Z<|Ae Z<|Aa Z<|c_l Z Z Z<|Aa Z<|Abi<|Aa Z<|AG Z (h2 (g:=f1) (cap:=[pZ b3]) (p:=fun x=>decide (Bj x≤k)) (Cw.mono hl hl3) (fun x hx cs hcs=>?_)) ?_
  ·refine AO.of' h1 (Aca Z) ?_;obtain⟨lv,kv,rfl,_⟩:=hcs.open;show gwp P _ _ _ _ _;apply Ax;apply Ar;refine Bg (l:=[vZ x.kind,vZ x.m,vZ x.e,Ag x.text,lv,kv]) Z (fun b5 T5=>?_);(refine Ao Z<|Aj<|AP 0 Z Z Z<|Al Z (BQ (by assumption) Z)<|DQ Z Z ?_);have e:((k+1:Nat):Int) - 1=(k:Int):=by omega
   rw[e];refine AG Z (ih x hx hcs (by omega))<|Bk Z<|CX Z
  ·(refine Ah Z Z<|Bk Z ?_);apply BF;rfl;rw[Afu];simp only[Acn,decide_eq_true_eq];exact EL.symm
def RG{t}(h:k<0∨6<k):CI (.mk k m e t l ks)=false:=by
 simp only[CI,V.kind];rw[decide_eq_false (show¬(0≤k∧k≤6) by omega)];rfl
def AaZ{t}(h:k≠3)(h':¬(m=0∧e=0)):CI (.mk k m e t l ks)=false:=by
 simp only[CI,V.kind,V.m,V.e];rw[decide_eq_false h,decide_eq_false h'];simp
def VA{t}(h:k≠4)(h':t≠[]):CI (.mk k m e t l ks)=false:=by
 simp only[CI,V.kind,V.text];rw[decide_eq_false h,decide_eq_false h'];simp
def Ro{t}(h:k<5)(h':0<l.length):CI (.mk k m e t l ks)=false:=by
 have h2:¬l=[]:=by intro h;subst h;simp at h'
 simp only[CI,V.kind,V.list];rw[decide_eq_false (show¬5≤k by omega),decide_eq_false h2];simp
def MA{t}(h:k≠6)(h':0<ks.length):CI (.mk k m e t l ks)=false:=by
 have h2:¬ks=[]:=by intro h;subst h;simp at h'
 simp only[CI,V.kind,V.keys];rw[decide_eq_false h,decide_eq_false h2];simp
def Sl(P:Program)(f:FuncId):Prop:=∀{d cs}{v:V},Az d cs v→AO P f [.agg cs.toArray] d (.bool (CI v))
def QM:Bo:=⟨49,[(.tmp 2)],(sR (o1 1 (.box 0)<|o1 2 (.mv (.const (.bool false))) .done) (.seq (.block 0 (sR (oj 4 0 1<|ol 5 4<|ob 6 .lss 5 z0<|om 7 6<|oF 8 7 (.fld 0 1)<|oF 9 7 (.ld none 8)<|oF 10 7 (.bin .gtr 9 (kZ 6))<|o1 11 (.pick 7 (.const (.bool true)) 10)<|om 3 11 .done) (.cond 3 (sR (o1 2 (.mv (.const (.bool false))) .done) .ret) (.seq (sR (oj 13 0 1<|ol 14 13<|ob 15 .neq 14 (kZ 3)<|om 16 15<|oT 17 16 (.fld 1 1)<|oT 18 16 (.ld (some 2) 17)<|oT 19 16 (.bld [(0,1),(1,1)] [(vZ 0),(vZ 0)] [])<|oT 20 16 (.eqc true [(0,0),(0,1)] 18 19)<|gP 21 16 20<|om 12 21 .done) (.cond 12 .skip (rG (oj 22 0 1<|ol 23 22<|ob 24 .neq 23 (kZ 4)<|om 25 24<|oT 26 25 (.fld 3 1)<|oT 27 25 (.ld none 26)<|oT 28 25 (.bin .neq 27 (.const (Ag [])))<|gP 29 25 28<|om 12 29 .done)))) (.cond 12 (sR (o1 2 (.mv (.const (.bool false))) .done) .ret) (.seq (sR (oj 31 0 1<|ol 32 31<|ob 33 .lss 32 (kZ 5)<|om 34 33<|oT 35 34 (.fld 4 1)<|oT 36 34 (.ld none 35)<|oT 37 34 (.len 36)<|oT 38 34 (.bin .gtr 37 z0)<|gP 39 34 38<|om 30 39 .done) (.cond 30 .skip (rG (oj 40 0 1<|ol 41 40<|ob 42 .neq 41 (kZ 6)<|om 43 42<|oT 44 43 (.fld 5 1)<|oT 45 43 (.ld none 44)<|oT 46 43 (.len 45)<|oT 47 43 (.bin .gtr 46 z0)<|gP 48 43 47<|om 30 48 .done)))) (.cond 30 (sR (o1 2 (.mv (.const (.bool false))) .done) .ret) .skip))))))) (sR (o1 2 (.mv (.const (.bool true))) .done) .ret)))⟩
def Y3(hd:dec P f=some QM):Sl P f:=by
 intro d cs v hv;refine AO.of' hd (Aca Z) ?_;obtain⟨lv,kv,rfl,ik,im,ie,it,hl,hks⟩:=hv.open;obtain⟨la,lc,rfl⟩:=RSl.val hl;obtain⟨ka,kc,rfl⟩:=RSl.val hks;obtain⟨k,m,e,t,l,ks⟩:=v;simp only[V.kind,V.m,V.e,V.text,V.list,V.keys] at*;show gwp P _ _ _ _ _;by_cases h1:k<0
 ·(refine Aj<|Bg Z (fun _ _=>Ao Z<|Ax<|Am<|Aj<|AI Z Z Z<|As Z Z<|Ac Z<|AA Z<|Aq Z Z<|AF Z<|Ah Z Z<|Ao Z<|Ci Z<|Aj<|Bk Z ?_));apply BF;rfl;exact(RG (by omega)).symm
 by_cases h2:k>6
 ·(refine Aj<|Bg Z (fun _ _=>Ao Z<|Ax<|Am<|Aj<|AI Z Z Z<|As Z Z<|Ac Z<|Aw Z<|Aa Z<|Ae Z<|Aa Z<|c_l Z Z Z<|Aa Z<|AS Z Z<|Af Z Z<|Ao Z<|Bn Z<|Aj<|Bk Z ?_));apply BF;rfl;exact(RG (by omega)).symm
 by_cases h3:k≠3∧(true ^^(decide (m=0)&& decide (e=0)))=true
 ·obtain⟨h3,h4⟩:=h3;have h5:¬(m=0∧e=0):=by intro ⟨h,h'⟩;simp[h,h'] at h4
  (refine Aj<|Bg Z (fun _ _=>Ao Z<|Ax<|Am<|Aj<|AI Z Z Z<|As Z Z<|Ac Z<|Aw Z<|Aa Z<|Ae Z<|Aa Z<|c_l Z Z Z<|Aa Z<|AS Z Z<|Af Z Z<|Ao Z<|AH Z<|Ap<|AI Z Z Z<|AB Z Z<|Ac Z<|AA Z<|Aa Z<|Ae Z<|Aa Z<|DF 0 Z Z Z<|Aa Z<|B2 Z<|Aa Z<|D7 Z Z<|Ah Z Z<|Ao Z ?_);apply I0;rfl;(with_reducible assumption);apply Ay;apply I0;rfl;(with_reducible assumption);refine Aj<|Bk Z ?_);apply BF;rfl;exact(AaZ h3 h5).symm
 have h3':k=3∨(m=0∧e=0):=by
  by_cases hk:k=3
  ·exact .inl hk
  ·refine .inr ?_;have:¬(true ^^(decide (m=0)&& decide (e=0)))=true:=fun h=>h3 ⟨hk,h⟩;simpa using this
 by_cases hk3:k=3
 ·have hfin:k=3→t=[]→l=[]→ks=[]→true=CI (.mk k m e t l ks):=by
   intro h1 h2 h3 h4;rw[h1,h2,h3,h4];simp[CI,V.kind,V.m,V.e,V.text,V.list,V.keys]
  by_cases h6:t≠[]
  ·(refine Aj<|Bg Z (fun _ _=>Ao Z<|Ax<|Am<|Aj<|AI Z Z Z<|As Z Z<|Ac Z<|Aw Z<|Aa Z<|Ae Z<|Aa Z<|c_l Z Z Z<|Aa Z<|AS Z Z<|Af Z Z<|Ao Z<|AH Z<|Ap<|AI Z Z Z<|AB Z Z<|Ac Z<|Aw Z<|Aq Z Z<|Aq Z Z<|Af Z Z<|Ao Z<|A7 Z<|Ar<|AI Z Z Z<|AB Z Z<|Ac Z<|AA Z<|Aa Z<|Ae Z<|Aa Z<|c_l Z Z Z<|Aa Z<|Ee Z Z<|Ah Z Z<|Ao Z<|Bn Z<|Aj<|Bk Z ?_));apply BF;rfl;exact(VA (by omega) h6).symm
  have h6':t=[]:=by simpa using h6
  by_cases h7:0<l.length
  ·(refine Aj<|Bg Z (fun _ _=>Ao Z<|Ax<|Am<|Aj<|AI Z Z Z<|As Z Z<|Ac Z<|Aw Z<|Aa Z<|Ae Z<|Aa Z<|c_l Z Z Z<|Aa Z<|AS Z Z<|Af Z Z<|Ao Z<|AH Z<|Ap<|AI Z Z Z<|AB Z Z<|Ac Z<|Aw Z<|Aq Z Z<|Aq Z Z<|Af Z Z<|Ao Z<|A7 Z<|Ar<|AI Z Z Z<|AB Z Z<|Ac Z<|AA Z<|Aa Z<|Ae Z<|Aa Z<|c_l Z Z Z<|Aa Z<|Ee Z Z<|Ah Z Z<|Ao Z<|AH Z<|Ap<|AI Z Z Z<|As Z Z<|Ac Z<|AA Z<|Aa Z<|Ae Z<|Aa Z<|c_l Z Z Z<|Aa Z<|AK Z<|Aa Z<|AS Z Z<|Ah Z Z<|Ao Z<|Bn Z<|Ay<|Bn Z<|Aj<|Bk Z ?_));apply BF;rfl;exact(Ro (by omega) h7).symm
  by_cases h8:0<ks.length
  ·(refine Aj<|Bg Z (fun _ _=>Ao Z<|Ax<|Am<|Aj<|AI Z Z Z<|As Z Z<|Ac Z<|Aw Z<|Aa Z<|Ae Z<|Aa Z<|c_l Z Z Z<|Aa Z<|AS Z Z<|Af Z Z<|Ao Z<|AH Z<|Ap<|AI Z Z Z<|AB Z Z<|Ac Z<|Aw Z<|Aq Z Z<|Aq Z Z<|Af Z Z<|Ao Z<|A7 Z<|Ar<|AI Z Z Z<|AB Z Z<|Ac Z<|AA Z<|Aa Z<|Ae Z<|Aa Z<|c_l Z Z Z<|Aa Z<|Ee Z Z<|Ah Z Z<|Ao Z<|AH Z<|Ap<|AI Z Z Z<|As Z Z<|Ac Z<|AA Z<|Aa Z<|Ae Z<|Aa Z<|c_l Z Z Z<|Aa Z<|AK Z<|Aa Z<|AS Z Z<|Ah Z Z<|Ao Z<|AH Z<|Ar<|AI Z Z Z<|AB Z Z<|Ac Z<|AA Z<|Aa Z<|Ae Z<|Aa Z<|c_l Z Z Z<|Aa Z<|AK Z<|Aa Z<|AS Z Z<|Ah Z Z<|Ao Z<|Bn Z<|Aj<|Bk Z ?_));apply BF;rfl;exact(MA (by omega) h8).symm
  (refine Aj<|Bg Z (fun _ _=>Ao Z<|Ax<|Am<|Aj<|AI Z Z Z<|As Z Z<|Ac Z<|Aw Z<|Aa Z<|Ae Z<|Aa Z<|c_l Z Z Z<|Aa Z<|AS Z Z<|Af Z Z<|Ao Z<|AH Z<|Ap<|AI Z Z Z<|AB Z Z<|Ac Z<|Aw Z<|Aq Z Z<|Aq Z Z<|Af Z Z<|Ao Z<|A7 Z<|Ar<|AI Z Z Z<|AB Z Z<|Ac Z<|AA Z<|Aa Z<|Ae Z<|Aa Z<|c_l Z Z Z<|Aa Z<|Ee Z Z<|Ah Z Z<|Ao Z<|AH Z<|Ap<|AI Z Z Z<|As Z Z<|Ac Z<|AA Z<|Aa Z<|Ae Z<|Aa Z<|c_l Z Z Z<|Aa Z<|AK Z<|Aa Z<|AS Z Z<|Ah Z Z<|Ao Z<|AH Z<|Ar<|AI Z Z Z<|AB Z Z<|Ac Z<|AA Z<|Aa Z<|Ae Z<|Aa Z<|c_l Z Z Z<|Aa Z<|AK Z<|Aa Z<|AS Z Z<|Ah Z Z<|Ao Z<|AH Z<|Ay<|Aj<|Bk Z ?_));apply BF;rfl;have e1:l=[]:=Acm (by omega);have e2:ks=[]:=Acm (by omega);exact hfin hk3 h6' e1 e2
 ·have h5:(true ^^(decide (m=0)&& decide (e=0)))=false:=by
   rcases h3' with h|h
   ·exact absurd h hk3
   ·simp[h]
  have h5':m=0∧e=0:=by
   rcases h3' with h|h
   ·exact absurd h hk3
   ·exact h
  by_cases h6:k≠4∧t≠[]
  ·obtain⟨h6,h6'⟩:=h6;(refine Aj<|Bg Z (fun _ _=>Ao Z<|Ax<|Am<|Aj<|AI Z Z Z<|As Z Z<|Ac Z<|Aw Z<|Aa Z<|Ae Z<|Aa Z<|c_l Z Z Z<|Aa Z<|AS Z Z<|Af Z Z<|Ao Z<|AH Z<|Ap<|AI Z Z Z<|AB Z Z<|Ac Z<|AA Z<|Aa Z<|Ae Z<|Aa Z<|DF 0 Z Z Z<|Aa Z<|B2 Z<|Aa Z<|D7 Z Z<|Ah Z Z<|Ao Z ?_);apply EM;rfl;(with_reducible assumption);refine Ar<|AI Z Z Z<|AB Z Z<|Ac Z<|AA Z<|Aa Z<|Ae Z<|Aa Z<|c_l Z Z Z<|Aa Z<|Ee Z Z<|Ah Z Z<|Ao Z<|Bn Z<|Aj<|Bk Z ?_);apply BF;rfl;exact(VA h6 h6').symm
  have h6b:k=4∨t=[]:=by
   by_cases hk:k=4
   ·exact .inl hk
   ·exact .inr (by by_cases ht:t=[]<;>simp_all)
  by_cases h7:k<5∧0<l.length
  ·obtain⟨h7,h7'⟩:=h7;have hl0:l≠[]:=by intro h;subst h;simp at h7'
   by_cases hk4:k=4
   ·(refine Aj<|Bg Z (fun _ _=>Ao Z<|Ax<|Am<|Aj<|AI Z Z Z<|As Z Z<|Ac Z<|Aw Z<|Aa Z<|Ae Z<|Aa Z<|c_l Z Z Z<|Aa Z<|AS Z Z<|Af Z Z<|Ao Z<|AH Z<|Ap<|AI Z Z Z<|AB Z Z<|Ac Z<|AA Z<|Aa Z<|Ae Z<|Aa Z<|DF 0 Z Z Z<|Aa Z<|B2 Z<|Aa Z<|D7 Z Z<|Ah Z Z<|Ao Z ?_);apply EM;rfl;(with_reducible assumption);refine Ar<|AI Z Z Z<|AB Z Z<|Ac Z<|Aw Z<|Aq Z Z<|AF Z<|Af Z Z<|Ao Z<|A7 Z<|Ap<|AI Z Z Z<|As Z Z<|Ac Z<|AA Z<|Aa Z<|Ae Z<|Aa Z<|c_l Z Z Z<|Aa Z<|AK Z<|Aa Z<|AS Z Z<|Ah Z Z<|Ao Z<|Bn Z<|Ay<|Bn Z<|Aj<|Bk Z ?_);apply BF;rfl;exact(Ro h7 h7').symm
   ·have h6c:¬(t≠[]):=by
     rcases h6b with h|h
     ·exact absurd h hk4
     ·simp[h]
    (refine Aj<|Bg Z (fun _ _=>Ao Z<|Ax<|Am<|Aj<|AI Z Z Z<|As Z Z<|Ac Z<|Aw Z<|Aa Z<|Ae Z<|Aa Z<|c_l Z Z Z<|Aa Z<|AS Z Z<|Af Z Z<|Ao Z<|AH Z<|Ap<|AI Z Z Z<|AB Z Z<|Ac Z<|AA Z<|Aa Z<|Ae Z<|Aa Z<|DF 0 Z Z Z<|Aa Z<|B2 Z<|Aa Z<|D7 Z Z<|Ah Z Z<|Ao Z ?_);apply EM;rfl;(with_reducible assumption);refine Ar<|AI Z Z Z<|AB Z Z<|Ac Z<|AA Z<|Aa Z<|Ae Z<|Aa Z<|c_l Z Z Z<|Aa Z<|Ee Z Z<|Ah Z Z<|Ao Z<|AH Z<|Ap<|AI Z Z Z<|As Z Z<|Ac Z<|AA Z<|Aa Z<|Ae Z<|Aa Z<|c_l Z Z Z<|Aa Z<|AK Z<|Aa Z<|AS Z Z<|Ah Z Z<|Ao Z<|Bn Z<|Ay<|Bn Z<|Aj<|Bk Z ?_);apply BF;rfl;exact(Ro h7 h7').symm
  by_cases h8:k≠6∧0<ks.length
  ·obtain⟨h8,h8'⟩:=h8;have hl0:ks≠[]:=by intro h;subst h;simp at h8'
   by_cases hk4:k=4
   ·have h7c:¬0<l.length:=fun h=>h7 ⟨by omega,h⟩;(refine Aj<|Bg Z (fun _ _=>Ao Z<|Ax<|Am<|Aj<|AI Z Z Z<|As Z Z<|Ac Z<|Aw Z<|Aa Z<|Ae Z<|Aa Z<|c_l Z Z Z<|Aa Z<|AS Z Z<|Af Z Z<|Ao Z<|AH Z<|Ap<|AI Z Z Z<|AB Z Z<|Ac Z<|AA Z<|Aa Z<|Ae Z<|Aa Z<|DF 0 Z Z Z<|Aa Z<|B2 Z<|Aa Z<|D7 Z Z<|Ah Z Z<|Ao Z ?_);apply EM;rfl;(with_reducible assumption);refine Ar<|AI Z Z Z<|AB Z Z<|Ac Z<|Aw Z<|Aq Z Z<|AF Z<|Af Z Z<|Ao Z<|A7 Z<|Ap<|AI Z Z Z<|As Z Z<|Ac Z<|AA Z<|Aa Z<|Ae Z<|Aa Z<|c_l Z Z Z<|Aa Z<|AK Z<|Aa Z<|AS Z Z<|Ah Z Z<|Ao Z<|AH Z<|Ar<|AI Z Z Z<|AB Z Z<|Ac Z<|AA Z<|Aa Z<|Ae Z<|Aa Z<|c_l Z Z Z<|Aa Z<|AK Z<|Aa Z<|AS Z Z<|Ah Z Z<|Ao Z<|Bn Z<|Aj<|Bk Z ?_);apply BF;rfl;exact(MA h8 h8').symm
   ·have h6c:¬(t≠[]):=by
     rcases h6b with h|h
     ·exact absurd h hk4
     ·simp[h]
    by_cases h7c:k<5
    ·have h7d:¬0<l.length:=fun h=>h7 ⟨h7c,h⟩;(refine Aj<|Bg Z (fun _ _=>Ao Z<|Ax<|Am<|Aj<|AI Z Z Z<|As Z Z<|Ac Z<|Aw Z<|Aa Z<|Ae Z<|Aa Z<|c_l Z Z Z<|Aa Z<|AS Z Z<|Af Z Z<|Ao Z<|AH Z<|Ap<|AI Z Z Z<|AB Z Z<|Ac Z<|AA Z<|Aa Z<|Ae Z<|Aa Z<|DF 0 Z Z Z<|Aa Z<|B2 Z<|Aa Z<|D7 Z Z<|Ah Z Z<|Ao Z ?_);apply EM;rfl;(with_reducible assumption);refine Ar<|AI Z Z Z<|AB Z Z<|Ac Z<|AA Z<|Aa Z<|Ae Z<|Aa Z<|c_l Z Z Z<|Aa Z<|Ee Z Z<|Ah Z Z<|Ao Z<|AH Z<|Ap<|AI Z Z Z<|As Z Z<|Ac Z<|AA Z<|Aa Z<|Ae Z<|Aa Z<|c_l Z Z Z<|Aa Z<|AK Z<|Aa Z<|AS Z Z<|Ah Z Z<|Ao Z<|AH Z<|Ar<|AI Z Z Z<|AB Z Z<|Ac Z<|AA Z<|Aa Z<|Ae Z<|Aa Z<|c_l Z Z Z<|Aa Z<|AK Z<|Aa Z<|AS Z Z<|Ah Z Z<|Ao Z<|Bn Z<|Aj<|Bk Z ?_);apply BF;rfl;exact(MA h8 h8').symm
    ·(refine Aj<|Bg Z (fun _ _=>Ao Z<|Ax<|Am<|Aj<|AI Z Z Z<|As Z Z<|Ac Z<|Aw Z<|Aa Z<|Ae Z<|Aa Z<|c_l Z Z Z<|Aa Z<|AS Z Z<|Af Z Z<|Ao Z<|AH Z<|Ap<|AI Z Z Z<|AB Z Z<|Ac Z<|AA Z<|Aa Z<|Ae Z<|Aa Z<|DF 0 Z Z Z<|Aa Z<|B2 Z<|Aa Z<|D7 Z Z<|Ah Z Z<|Ao Z ?_);apply EM;rfl;(with_reducible assumption);refine Ar<|AI Z Z Z<|AB Z Z<|Ac Z<|AA Z<|Aa Z<|Ae Z<|Aa Z<|c_l Z Z Z<|Aa Z<|Ee Z Z<|Ah Z Z<|Ao Z<|AH Z<|Ap<|AI Z Z Z<|As Z Z<|Ac Z<|Aw Z<|Aq Z Z<|Aq Z Z<|Af Z Z<|Ao Z<|A7 Z<|Ar<|AI Z Z Z<|AB Z Z<|Ac Z<|AA Z<|Aa Z<|Ae Z<|Aa Z<|c_l Z Z Z<|Aa Z<|AK Z<|Aa Z<|AS Z Z<|Ah Z Z<|Ao Z<|Bn Z<|Aj<|Bk Z ?_);apply BF;rfl;exact(MA h8 h8').symm
  have e2:k=6∨ks=[]:=by
   by_cases hk:k=6
   ·exact .inl hk
   ·exact .inr (Acm (by
     have:¬0<ks.length:=fun h=>h8 ⟨hk,h⟩;omega))
  have e1:5≤k∨l=[]:=by
   by_cases hk:5≤k
   ·exact .inl hk
   ·exact .inr (Acm (by
     have:¬0<l.length:=fun h=>h7 ⟨by omega,h⟩;omega))
  have fin:true=CI (.mk k m e t l ks):=by
   simp only[CI,V.kind,V.m,V.e,V.text,V.list,V.keys];rw[eq_comm];simp only[Ace,Aee,decide_eq_true_eq];exact⟨⟨⟨⟨by omega,.inr h5'⟩,h6b⟩,e1⟩,e2⟩
  by_cases hk4:k=4
  ·have h7c:¬0<l.length:=fun h=>h7 ⟨by omega,h⟩;have h8c:¬0<ks.length:=fun h=>h8 ⟨by omega,h⟩;(refine Aj<|Bg Z (fun _ _=>Ao Z<|Ax<|Am<|Aj<|AI Z Z Z<|As Z Z<|Ac Z<|Aw Z<|Aa Z<|Ae Z<|Aa Z<|c_l Z Z Z<|Aa Z<|AS Z Z<|Af Z Z<|Ao Z<|AH Z<|Ap<|AI Z Z Z<|AB Z Z<|Ac Z<|AA Z<|Aa Z<|Ae Z<|Aa Z<|DF 0 Z Z Z<|Aa Z<|B2 Z<|Aa Z<|D7 Z Z<|Ah Z Z<|Ao Z ?_);apply EM;rfl;(with_reducible assumption);refine Ar<|AI Z Z Z<|AB Z Z<|Ac Z<|Aw Z<|Aq Z Z<|AF Z<|Af Z Z<|Ao Z<|A7 Z<|Ap<|AI Z Z Z<|As Z Z<|Ac Z<|AA Z<|Aa Z<|Ae Z<|Aa Z<|c_l Z Z Z<|Aa Z<|AK Z<|Aa Z<|AS Z Z<|Ah Z Z<|Ao Z<|AH Z<|Ar<|AI Z Z Z<|AB Z Z<|Ac Z<|AA Z<|Aa Z<|Ae Z<|Aa Z<|c_l Z Z Z<|Aa Z<|AK Z<|Aa Z<|AS Z Z<|Ah Z Z<|Ao Z<|AH Z<|Ay<|Aj<|Bk Z ?_);apply BF;rfl;exact fin
  ·have h6c:¬(t≠[]):=by
    rcases h6b with h|h
    ·exact absurd h hk4
    ·simp[h]
   by_cases h7c:k<5
   ·have h7d:¬0<l.length:=fun h=>h7 ⟨h7c,h⟩;have h8c:¬0<ks.length:=fun h=>h8 ⟨by omega,h⟩;(refine Aj<|Bg Z (fun _ _=>Ao Z<|Ax<|Am<|Aj<|AI Z Z Z<|As Z Z<|Ac Z<|Aw Z<|Aa Z<|Ae Z<|Aa Z<|c_l Z Z Z<|Aa Z<|AS Z Z<|Af Z Z<|Ao Z<|AH Z<|Ap<|AI Z Z Z<|AB Z Z<|Ac Z<|AA Z<|Aa Z<|Ae Z<|Aa Z<|DF 0 Z Z Z<|Aa Z<|B2 Z<|Aa Z<|D7 Z Z<|Ah Z Z<|Ao Z ?_);apply EM;rfl;(with_reducible assumption);refine Ar<|AI Z Z Z<|AB Z Z<|Ac Z<|AA Z<|Aa Z<|Ae Z<|Aa Z<|c_l Z Z Z<|Aa Z<|Ee Z Z<|Ah Z Z<|Ao Z<|AH Z<|Ap<|AI Z Z Z<|As Z Z<|Ac Z<|AA Z<|Aa Z<|Ae Z<|Aa Z<|c_l Z Z Z<|Aa Z<|AK Z<|Aa Z<|AS Z Z<|Ah Z Z<|Ao Z<|AH Z<|Ar<|AI Z Z Z<|AB Z Z<|Ac Z<|AA Z<|Aa Z<|Ae Z<|Aa Z<|c_l Z Z Z<|Aa Z<|AK Z<|Aa Z<|AS Z Z<|Ah Z Z<|Ao Z<|AH Z<|Ay<|Aj<|Bk Z ?_);apply BF;rfl;exact fin
   ·by_cases h8c:k=6
    ·(refine Aj<|Bg Z (fun _ _=>Ao Z<|Ax<|Am<|Aj<|AI Z Z Z<|As Z Z<|Ac Z<|Aw Z<|Aa Z<|Ae Z<|Aa Z<|c_l Z Z Z<|Aa Z<|AS Z Z<|Af Z Z<|Ao Z<|AH Z<|Ap<|AI Z Z Z<|AB Z Z<|Ac Z<|AA Z<|Aa Z<|Ae Z<|Aa Z<|DF 0 Z Z Z<|Aa Z<|B2 Z<|Aa Z<|D7 Z Z<|Ah Z Z<|Ao Z ?_);apply EM;rfl;(with_reducible assumption);refine Ar<|AI Z Z Z<|AB Z Z<|Ac Z<|AA Z<|Aa Z<|Ae Z<|Aa Z<|c_l Z Z Z<|Aa Z<|Ee Z Z<|Ah Z Z<|Ao Z<|AH Z<|Ap<|AI Z Z Z<|As Z Z<|Ac Z<|Aw Z<|Aq Z Z<|Aq Z Z<|Af Z Z<|Ao Z<|A7 Z<|Ar<|AI Z Z Z<|AB Z Z<|Ac Z<|Aw Z<|Aq Z Z<|Aq Z Z<|Af Z Z<|Ao Z<|A7 Z<|Ay<|Aj<|Bk Z ?_);apply BF;rfl;exact fin
    ·have h8d:¬0<ks.length:=fun h=>h8 ⟨h8c,h⟩;(refine Aj<|Bg Z (fun _ _=>Ao Z<|Ax<|Am<|Aj<|AI Z Z Z<|As Z Z<|Ac Z<|Aw Z<|Aa Z<|Ae Z<|Aa Z<|c_l Z Z Z<|Aa Z<|AS Z Z<|Af Z Z<|Ao Z<|AH Z<|Ap<|AI Z Z Z<|AB Z Z<|Ac Z<|AA Z<|Aa Z<|Ae Z<|Aa Z<|DF 0 Z Z Z<|Aa Z<|B2 Z<|Aa Z<|D7 Z Z<|Ah Z Z<|Ao Z ?_);apply EM;rfl;(with_reducible assumption);refine Ar<|AI Z Z Z<|AB Z Z<|Ac Z<|AA Z<|Aa Z<|Ae Z<|Aa Z<|c_l Z Z Z<|Aa Z<|Ee Z Z<|Ah Z Z<|Ao Z<|AH Z<|Ap<|AI Z Z Z<|As Z Z<|Ac Z<|Aw Z<|Aq Z Z<|Aq Z Z<|Af Z Z<|Ao Z<|A7 Z<|Ar<|AI Z Z Z<|AB Z Z<|Ac Z<|AA Z<|Aa Z<|Ae Z<|Aa Z<|c_l Z Z Z<|Aa Z<|AK Z<|Aa Z<|AS Z Z<|Ah Z Z<|Ao Z<|AH Z<|Ay<|Aj<|Bk Z ?_);apply BF;rfl;exact fin
def Aaq:m.tmod 10=0↔m % 10=0:=by
 constructor
 ·intro h;exact Int.emod_eq_zero_of_dvd (Int.dvd_of_tmod_eq_zero h)
 ·intro h;exact Int.tmod_eq_zero_of_dvd (Int.dvd_of_emod_eq_zero h)
def Ij:List Value:=(Ady 20).map fun i=>.int .u64 ((10 ^ i:Nat):Int)
def Ow(P:Program)(f:FuncId):Prop:=∀{d}{m e:Int},I64 m→AO P f [.agg [vZ m,vZ e].toArray] d (.int .u64 m.natAbs)
def Up:Bo:=⟨13,[(.tmp 2)],(sR (o1 1 (.box 0)<|o1 2 (.mv (.const (.int .u64 0))) .done) (.seq (sR (oj 3 0 1<|ol 4 3<|ob 5 .lss 4 z0 .done) (.cond 5 (sR (oj 6 0 1<|ol 7 6<|o1 8 (.cvi .u64 7)<|o1 9 (.un .neg 8)<|om 2 9 .done) .ret) .skip)) (sR (oj 10 0 1<|ol 11 10<|o1 12 (.cvi .u64 11)<|om 2 12 .done) .ret)))⟩
def Zm(hd:dec P f=some Up):Ow P f:=by
 intro d m e ⟨h1,h2⟩;refine AO.of' hd (Aca Z) ?_;show gwp P _ _ _ _ _;by_cases h:m<0
 ·(refine Aj<|Bg Z (fun _ _=>A1 Z<|AI Z Z Z<|As Z Z<|AE Z<|Aj<|AI Z Z Z<|NX Z<|VN Z<|AM Z ?_));apply C7;rfl;omega
 ·(refine Aj<|Bg Z (fun _ _=>A1 Z<|AI Z Z Z<|As Z Z<|AJ Z<|Aj<|AI Z Z Z<|NX Z<|AM Z ?_));apply C7;rfl;omega
def Lh(P:Program)(f:FuncId):Prop:=∀{d},AO P f [] d (.agg [vZ 0,vZ 0].toArray)
def TX:Bo:=⟨2,[(.cell 0 (some 2))],(sR (o1 0 (.alo (.agg #[(vZ 0),(vZ 0)])) .done) (sR (o1 1 (.bld [(0,1),(1,1)] [(vZ 0),(vZ 0)] [])<|o0 (.st 2 0 1) .done) .ret))⟩
def ZD(hd:dec P f=some TX):Lh P f:=by
 intro d;refine AO.of' hd (Aca Z) ?_;show gwp P _ _ _ _ _;(refine Aj<|BV (fun _ _=>Br<|B2 Z ?_));rename_i b T;refine Au 0 [vZ 0,vZ 0] Z Z Z Z (Aca Z) Z Z<|Bz<|Ba [.agg [vZ 0,vZ 0].toArray] ⟨Bc 0 Z Z Z,trivial⟩ (Acb _) ⟨Z,Z⟩
def Jg(T:Ad→Prop)(P:Program)(f:FuncId):Prop:=∀{d}{m e:Int},T d→I64 m→I64 e→AO P f [.agg [vZ m,vZ e].toArray] d (.bool (B4 m e))
def Xy(T:Ad→Prop)(P:Program)(f:FuncId):Prop:=∀{d l},T d→l.length≤140737488355328→AO P f [Ag l] d (.bool (u8 l))
def SP(a0 a1 a2:Nat):Bo:=⟨30,[(.tmp 2)],(sR (o1 1 (.box 0)<|o1 2 (.mv (.const (.bool false))) .done) (.seq (sR (oj 3 0 1<|ol 4 3<|ob 5 .eql 4 z0 .done) (.cond 5 (.seq (.reg true (p1 6 (.ld (some 2) 1)<|oc 7 a0 []<|p1 8 (.eqc false [(0,0),(0,1)] 6 7) (.bar (pm 2 8 .done)))) .ret) .skip)) (.seq (.reg true (p1 9 (.ld (some 2) 1)<|p1 11 (.idxa 20 1 (.global a1) (kZ 18))<|pl 12 11<|oc 10 a2 [9]<|p1 13 (.bin .lss 10 12)<|pm 14 13 (.op true ⟨(some 15),(some (14,true)),(.fld 0 1)⟩ (.op true ⟨(some 16),(some (14,true)),(.ld none 15)⟩ (.op true ⟨(some 17),(some (14,true)),(.bin .rem 16 (kZ 10))⟩ (.op true ⟨(some 18),(some (14,true)),(.bin .neq 17 z0)⟩ (p1 19 (.pick 14 18 (.const (.bool false))) (pm 20 19 (.op true ⟨(some 21),(some (20,true)),(.fld 1 1)⟩ (.op true ⟨(some 22),(some (20,true)),(.ld none 21)⟩ (.op true ⟨(some 23),(some (20,true)),(.bin .geq 22 (kZ (-64)))⟩ (p1 24 (.pick 20 23 (.const (.bool false))) (pm 25 24 (.op true ⟨(some 26),(some (25,true)),(.fld 1 1)⟩ (.op true ⟨(some 27),(some (25,true)),(.ld none 26)⟩ (.op true ⟨(some 28),(some (25,true)),(.bin .leq 27 (kZ 64))⟩ (p1 29 (.pick 25 28 (.const (.bool false))) (.bar (pm 2 29 .done))))))))))))))))))) .ret)))⟩
def Aay{T:Ad→Prop}{g2 f3}(hT:∀d,T d→DCs d g2 0 Ij)(hd:dec P f=some (SP f1 g2 f3))(h1:Lh P f1)(h3:Ow P f3):Jg T P f:=by
 intro d m e ht hm he;have htab:=hT d ht;have ht18:DC d g2 18 (.int .u64 1000000000000000000):=htab.at (i:=18) Z;obtain⟨he1,he2⟩:=he;refine AO.of' hd (Aca Z) ?_;show gwp P _ _ _ _ _;apply Ax;apply Ar;refine Bg (l:=[vZ m,vZ e]) Z (fun b1 T1=>?_);by_cases h:m=0
 ·subst h;refine Ao Z<|Ap<|AI Z Z Z<|Ai Z Z<|AE Z<|Ax<|Bd<|AP 0 Z Z Z<|AG Z h1<|D7 Z Z<|B0<|Bk Z ?_;apply BF;rfl;simp[B4]
 ·refine Ao Z<|Ap<|AI Z Z Z<|Ai Z Z<|AJ Z<|Ax<|Bd ?_;(apply AP 0;rfl;rfl;rfl);refine Dd 18 Z Z Z (by omega)<|Al Z (C0 (by exact ht18))<|AG Z (h3 hm) ?_;have hmI:=hm;obtain⟨hm1,hm2⟩:=hm;have hmod:=Aaq (m:=m);by_cases h4:(m.natAbs:Int)<1000000000000000000
  ·by_cases h5:m.tmod 10≠0
   ·by_cases h6:e≥ -64
    ·by_cases h7:e≤64
     ·(refine As Z Z<|Ac Z<|AA Z<|Aa Z<|Ae Z<|Aa Z<|c_l Z Z Z<|Aa Z<|JW Z Z (by omega)<|Aa Z<|AB Z Z<|Ah Z Z<|Ac Z<|AA Z<|Aa Z<|Ae Z<|Aa Z<|c_l Z Z Z<|Aa Z<|A5 Z Z<|Ah Z Z<|Ac Z<|AA Z<|Aa Z<|Ae Z<|Aa Z<|c_l Z Z Z<|Aa Z<|BN Z Z<|Ah Z Z<|B0<|Bk Z ?_);apply BF;rfl;(rw[B4,if_neg h,Afu];simp only[decide_eq_true_eq];omega)
     ·(refine As Z Z<|Ac Z<|AA Z<|Aa Z<|Ae Z<|Aa Z<|c_l Z Z Z<|Aa Z<|JW Z Z (by omega)<|Aa Z<|AB Z Z<|Ah Z Z<|Ac Z<|AA Z<|Aa Z<|Ae Z<|Aa Z<|c_l Z Z Z<|Aa Z<|A5 Z Z<|Ah Z Z<|Ac Z<|AA Z<|Aa Z<|Ae Z<|Aa Z<|c_l Z Z Z<|Aa Z<|BN Z Z<|Ah Z Z<|B0<|Bk Z ?_);apply BF;rfl;(rw[B4,if_neg h,Afu];simp only[decide_eq_true_eq];omega)
    ·(refine As Z Z<|Ac Z<|AA Z<|Aa Z<|Ae Z<|Aa Z<|c_l Z Z Z<|Aa Z<|JW Z Z (by omega)<|Aa Z<|AB Z Z<|Ah Z Z<|Ac Z<|AA Z<|Aa Z<|Ae Z<|Aa Z<|c_l Z Z Z<|Aa Z<|A5 Z Z<|Ah Z Z<|Ac Z<|Aw Z<|Aq Z Z<|AF Z<|Af Z Z<|B0<|Bk Z ?_);apply BF;rfl;(rw[B4,if_neg h,Afu];simp only[Adl,decide_eq_true_eq,false_iff];omega)
   ·(refine As Z Z<|Ac Z<|AA Z<|Aa Z<|Ae Z<|Aa Z<|c_l Z Z Z<|Aa Z<|JW Z Z (by omega)<|Aa Z<|AB Z Z<|Ah Z Z<|Ac Z<|Aw Z<|Aq Z Z<|AF Z<|Af Z Z<|Ac Z<|Aq Z Z<|AF Z<|Af Z Z<|B0<|Bk Z ?_);apply BF;rfl;(rw[B4,if_neg h,Afu];simp only[Adl,decide_eq_true_eq,false_iff];omega)
  ·(refine As Z Z<|Ac Z<|Aw Z<|Aq Z Z<|Aq Z Z<|Af Z Z<|Ac Z<|Aq Z Z<|AF Z<|Af Z Z<|Ac Z<|Aq Z Z<|AF Z<|Af Z Z<|B0<|Bk Z ?_);apply BF;rfl;(rw[B4,if_neg h,Afu];simp only[Adl,decide_eq_true_eq,false_iff];omega)
def Ek(T:Ad→Prop)(P:Program)(f:FuncId):Prop:=∀{d l},T d→l.length≤140737488355328→AO P f [Ag l] d (.bool (u8 l))
def Qp(a0:Nat):Bo:=⟨5,[(.tmp 2)],(sR (o1 2 (.mv (.const (.bool false))) .done) (sR (om 3 0<|oc 4 a0 [3]<|om 2 4 .done) .ret))⟩
def XW{T:Ad→Prop}(hd:dec P f=some (Qp f1))(h1:Xy T P f1):Ek T P f:=by
 intro d l ht hl;refine AO.of' hd (Aca Z) ?_;show gwp P _ _ _ _ _;refine Aj<|Ao Z<|Aj<|Ak Z<|AG Z (h1 ht hl)<|Bk Z<|CX Z
def getD_at{i:Nat}(h:i<ks.length):ks.getD i []=ks[i]:=by simp[h]
def Ts(h:0<ks.length):GJ ks 0=u8 ks[0]:=by
 rw[GJ,getD_at h];simp
def J8{j:Nat}(h:j+1<ks.length):GJ ks (j+1)=(u8 ks[j+1] && Op.bytesLess ks[j] ks[j+1]):=by
 rw[GJ,getD_at h,Afo,getD_at (show j<ks.length by omega)];simp
def TF{i:Nat}(h:i<ks.length)(hu:u8 ks[i]=false):GJ ks i=false:=by
 rw[GJ,getD_at h,hu];rfl
def Nf(T:Ad→Prop)(P:Program)(f:FuncId):Prop:=∀{d v ks},T d→B9 d v ks→AO P f [v] d (.bool (rising ks))
def OZ(a0:Nat):Bo:=⟨29,[(.tmp 2)],(sR (o1 2 (.mv (.const (.bool false))) .done) (.seq (sR (om 5 0<|oL 6 5<|o1 7 (.mv z0) .done) (.block 0 (.loop (sR (ob 8 .lss 7 6 .done) (.seq (.cond 8 .skip (.exit 0)) (.seq (.block 1 (sR (om 9 7<|oI 10 1 5 7<|ol 11 10<|om 3 9<|om 4 11 .done) (sR (om 12 4<|oc 13 a0 [12]<|o1 14 (.un .not 13)<|om 15 14<|gF 16 15 3<|oF 17 15 (.bin .gtr 16 z0)<|gF 18 15 17<|gT 19 18 0<|gT 20 18 3<|oT 21 18 (.bin .sub 20 z1)<|oT 22 18 (.idx 1 19 21)<|oT 23 18 (.ld none 22)<|gT 24 18 4<|oT 25 18 (.bin .geq 23 24)<|oF 26 15 (.pick 18 25 (.const (.bool false)))<|o1 27 (.pick 15 (.const (.bool true)) 26) .done) (.cond 27 (sR (o1 2 (.mv (.const (.bool false))) .done) .ret) .skip)))) (rG (ob 28 .add 7 z1<|om 7 28 .done)))))))) (sR (o1 2 (.mv (.const (.bool true))) .done) .ret)))⟩
def Vd{T:Ad→Prop}(hd:dec P f=some (OZ f1))(h1:Ek T P f1):Nf T P f:=by
 intro d v ks ht hv;have hll:=RSl.BW hv;have hsl:∀i (h:i<ks.length),ks[i].length≤140737488355328:=fun i h=>by
  obtain⟨_,_,_,_,_,_,_,_,_,_,_,h8⟩:=hv;obtain⟨cs,_,_,_,h9⟩:=h8 i h;exact h9
 have hv':RSl 1 A9 d v ks:=hv;obtain⟨a,c,rfl⟩:=RSl.val hv;refine AO.of' hd (Aca Z) ?_;show gwp P _ _ _ _ _;refine Aj<|Ao Z<|Ap<|AR Z<|AK Z<|AL Z<|Am<|DJ (α:=Nat) (fun i=>[(0,.slice a ks.length c),(5,.slice a ks.length c),(6,vZ ks.length),(7,vZ i)]) (fun _=>[]) (fun i=>i≤ks.length∧Ep ks i=true) (fun i=>ks.length - i) 0 ⟨Z,Z,Z,Z,trivial⟩ Z ⟨Acu _,Z⟩ ?_;rintro i ρ ⟨hi,hr⟩;by_cases hc:i<ks.length
 ·have e0:ks.getD i []=ks[i]:=by simp[hc]
  (refine Aj<|As Z Z<|Cr<|Bn Z<|Ay<|Ax<|Am<|AD Z<|A2 (sz:=1) (R:=A9) (by rfl) (by assumption) (by rfl) Z (by omega) ?_;rintro _ _ _ _ _ ⟨rfl,_⟩;refine Al Z (BQ (by assumption) Z)<|Ab Z<|Ak Z<|Br<|Ak Z ?_);refine AG Z (h1 ht (hsl i hc)) ?_;cases hu:u8 ks[i] with
  |false=>
   (refine Bu Z<|Ac Z<|Aq Z Z<|AF Z<|AN Z<|AN Z<|AN Z<|AN Z<|AN Z<|AN Z<|AN Z<|AF Z<|Ah Z Z<|BK Z<|Aj<|Bk Z ?_)
   apply BF;rfl
   exact(GC (TF hc hu) hc).symm
  |true=>
   by_cases hi0:i=0
   ·subst hi0
    (refine Bu Z<|Ac Z<|Aa Z<|Ab Z<|Aa Z<|AS Z Z<|Aa Z<|Ac Z<|Aw Z<|Aq Z Z<|Aq Z Z<|Aq Z Z<|AF Z<|Aa Z<|Af Z Z<|Af Z Z<|Bh Z<|Ar<|AY Z Z<|AL Z ?_)
    exact⟨1,by omega,⟨Z,Z,Z,Z,trivial⟩,Z,Z,by omega,by rw[Ep,Ts hc,hu];rfl⟩
   ·obtain⟨j,rfl⟩:∃j,i=j+1:=⟨i - 1,by omega⟩
    have e1:ks.getD j []=ks[j]:=by simp[show j<ks.length by omega]
    (refine Bu Z<|Ac Z<|Aa Z<|Ab Z<|Aa Z<|AS Z Z<|Aa Z<|Ac Z<|AA Z<|Aa Z<|AR Z<|Aa Z<|Ab Z<|Aa Z<|DQ Z Z<|Aa Z ?_)
    refine A2 (sz:=1) (R:=A9) (m:=j) (by rfl) hv' (by rfl) (by omega) (by omega) ?_;rintro _ _ _ _ _ ⟨rfl,_⟩
    cases hb:Op.bytesLess ks[j] ks[j+1] with
    |false=>
     have hb':(!Op.bytesLess ks[j] ks[j+1])=true:=by rw[hb];rfl
     (refine Aa Z<|Al Z (BQ (by assumption) Z)<|Aa Z<|Ak Z<|Aa Z<|QF Z Z<|Aa Z<|Ah Z Z<|Af Z Z<|Av ?_;apply I0;rfl;(with_reducible assumption);refine Aj<|Bk Z ?_)
     apply BF;rfl
     exact(GC (by rw[J8 hc,hb,Bool.and_false]) hc).symm
    |true=>
     have hb':(!Op.bytesLess ks[j] ks[j+1])=false:=by rw[hb];rfl
     (refine Aa Z<|Al Z (BQ (by assumption) Z)<|Aa Z<|Ak Z<|Aa Z<|QF Z Z<|Aa Z<|Ah Z Z<|Af Z Z<|Av ?_;apply EM;rfl;(with_reducible assumption);refine Ay<|Ar<|AY Z Z<|AL Z ?_)
     exact⟨j+2,by omega,⟨Z,Z,Z,int_eq (by omega),trivial⟩,Z,Z,by omega,by rw[Ep,hr,J8 hc,hu,hb];rfl⟩
 ·obtain rfl:i=ks.length:=by omega
  (refine Aj<|As Z Z<|Cr<|AH Z<|A6<|Aj<|Bk Z ?_);apply BF;rfl;exact hr.symm
def U9(T:Ad→Prop)(P:Program)(f:FuncId):Prop:=∀(v:V) {d cs},T d→Az d cs v→AO P f [.agg cs.toArray] d (.bool (Cf v))
def SN(a0 a1 a2 a3 a4 a5:Nat):Bo:=⟨41,[(.tmp 2)],(sR (o1 1 (.box 0)<|o1 2 (.mv (.const (.bool false))) .done) (.seq (sR (o1 3 (.ld (some 6) 1)<|oc 4 a0 [3]<|o1 5 (.un .not 4)<|om 6 5<|oF 7 6 (.fld 1 1)<|oF 8 6 (.ld (some 2) 7)<|oF 9 6 (.call a1 [8])<|oF 10 6 (.un .not 9)<|o1 11 (.pick 6 (.const (.bool true)) 10)<|om 12 11<|oF 13 12 (.fld 3 1)<|oF 14 12 (.ld none 13)<|oF 15 12 (.call a2 [14])<|oF 16 12 (.un .not 15)<|o1 17 (.pick 12 (.const (.bool true)) 16)<|om 18 17<|oF 19 18 (.fld 5 1)<|oF 20 18 (.ld none 19)<|oF 21 18 (.call a3 [20])<|oF 22 18 (.un .not 21)<|o1 23 (.pick 18 (.const (.bool true)) 22) .done) (.cond 23 (sR (o1 2 (.mv (.const (.bool false))) .done) .ret) .skip)) (sR (oj 24 0 1<|ol 25 24<|ob 26 .neq 25 (kZ 6)<|om 27 26<|oF 28 27 (.fld 5 1)<|oF 29 27 (.ld none 28)<|oF 30 27 (.len 29)<|oF 31 27 (.fld 4 1)<|oF 32 27 (.ld none 31)<|oF 33 27 (.len 32)<|oF 34 27 (.bin .eql 30 33)<|o1 35 (.pick 27 (.const (.bool true)) 34)<|om 36 35<|oT 37 36 (.fld 4 1)<|oT 38 36 (.ld none 37)<|oT 39 36 (.call a4 [38,(.func a5)])<|gP 40 36 39<|om 2 40 .done) .ret)))⟩
def AaC{T:Ad→Prop}{f2 f3 f4 f5}(hd:dec P f=some (SN f1 f2 f3 f4 f5 f))(h1:Sl P f1)(h2:Jg T P f2)(h3:Ek T P f3)(h4:Nf T P f4)(h5:Mz P f5):U9 T P f:=by
 intro v;induction v using V.ind with
 |h v ih=>
 intro d cs ht hv;refine AO.of' hd (Aca Z) ?_;have hv':=hv;obtain⟨lv,kv,rfl,ik,im,ie,it,hl,hks⟩:=hv'.open;obtain⟨la,lc,rfl⟩:=RSl.val hl;obtain⟨ka,kc,rfl⟩:=RSl.val hks;have e0:=DZ v;show gwp P _ _ _ _ _;apply Ax;apply Ar;refine Bg (l:=[vZ v.kind,vZ v.m,vZ v.e,Ag v.text,.slice la v.list.length lc,.slice ka v.keys.length kc]) Z (fun b1 T1=>?_);refine Ao Z<|Ap<|AP 0 Z Z Z<|AG Z (h1 hv) ?_;cases hb:CI v with
 |false=>
  (refine Bu Z<|Ac Z<|Aq Z Z<|Aq Z Z<|Ah Z Z<|Ac Z<|Aq Z Z<|Aq Z Z<|Ah Z Z<|Ac Z<|Aq Z Z<|Aq Z Z<|Ah Z Z<|BK Z<|Aj<|Bk Z ?_)
  apply BF;rfl
  rw[e0];simp[Cz,hb]
 |true=>
 refine Bu Z<|Ac Z<|Aa Z<|Ae Z<|Aa Z<|DF 0 Z Z Z<|Aa Z<|AG Z (h2 ht im ie) ?_;cases hn:B4 v.m v.e with
 |false=>
  (refine Aa Z<|Bu Z<|Af Z Z<|Ac Z<|Aq Z Z<|Aq Z Z<|Ah Z Z<|Ac Z<|Aq Z Z<|Aq Z Z<|Ah Z Z<|BK Z<|Aj<|Bk Z ?_)
  apply BF;rfl
  rw[e0];simp[Cz,hn]
 |true=>
 refine Aa Z<|Bu Z<|Af Z Z<|Ac Z<|Aa Z<|Ae Z<|Aa Z<|c_l Z Z Z<|Aa Z<|AG Z (h3 ht it) ?_;cases hu:u8 v.text with
 |false=>
  (refine Aa Z<|Bu Z<|Af Z Z<|Ac Z<|Aq Z Z<|Aq Z Z<|Ah Z Z<|BK Z<|Aj<|Bk Z ?_)
  apply BF;rfl
  rw[e0];simp[Cz,hu]
 |true=>
 refine Aa Z<|Bu Z<|Af Z Z<|Ac Z<|Aa Z<|Ae Z<|Aa Z<|c_l Z Z Z<|Aa Z<|AG Z (h4 ht hks) ?_;cases hr:rising v.keys with
 |false=>
  (refine Aa Z<|Bu Z<|Af Z Z<|BK Z<|Aj<|Bk Z ?_)
  apply BF;rfl
  rw[e0];simp[Cz,hr]
 |true=>
 by_cases h6:v.kind≠6∨v.keys.length=v.list.length
 ·have e1:Cz v=true:=by
   simp only[Cz,hb,hn,hu,hr,Afi,Aee,decide_eq_true_eq];exact h6
  by_cases h7:v.kind≠6
  ·refine Aa Z<|Bu Z<|Af Z Z<|Bh Z<|Aj<|AI Z Z Z<|AB Z Z<|Ac Z<|AA Z<|Aq Z Z<|Aq Z Z<|Aq Z Z<|AF Z<|Ah Z Z<|Ac Z<|Aa Z<|Ae Z<|Aa Z<|c_l Z Z Z<|Aa Z<|AG Z (h5 (g:=f) (cap:=[]) (p:=Cf) hl (fun x hx cs hcs=>ih x hx ht hcs))<|Ah Z Z<|Bk Z ?_;apply BF;rfl;rw[e0,e1];rfl
  ·have h8:v.keys.length=v.list.length:=by
    rcases h6 with h|h
    ·exact absurd h h7
    ·exact h
   have h8':(v.keys.length:Int)=v.list.length:=by omega
   refine Aa Z<|Bu Z<|Af Z Z<|Bh Z<|Aj<|AI Z Z Z<|AB Z Z<|Ac Z<|Aw Z<|Aa Z<|Ae Z<|Aa Z<|c_l Z Z Z<|Aa Z<|AK Z<|Aa Z<|Ae Z<|Aa Z<|c_l Z Z Z<|Aa Z<|AK Z<|Aa Z<|Ai Z Z<|Af Z Z<|Ac Z<|AA Z<|Aa Z<|Ae Z<|Aa Z<|c_l Z Z Z<|Aa Z<|AG Z (h5 (g:=f) (cap:=[]) (p:=Cf) hl (fun x hx cs hcs=>ih x hx ht hcs))<|Ah Z Z<|Bk Z ?_;apply BF;rfl;rw[e0,e1];rfl
 ·have h7:¬v.kind≠6:=fun h=>h6 (.inl h);have h8':¬(v.keys.length:Int)=v.list.length:=fun h=>h6 (.inr (by omega));(refine Aa Z<|Bu Z<|Af Z Z<|Bh Z<|Aj<|AI Z Z Z<|AB Z Z<|Ac Z<|Aw Z<|Aa Z<|Ae Z<|Aa Z<|c_l Z Z Z<|Aa Z<|AK Z<|Aa Z<|Ae Z<|Aa Z<|c_l Z Z Z<|Aa Z<|AK Z<|Aa Z<|Ai Z Z<|Af Z Z<|Ac Z<|Aw Z<|Aq Z Z<|AF Z<|Af Z Z<|Bk Z ?_);apply BF;rfl;have h9:v.keys.length≠v.list.length:=fun h=>h6 (.inr h);have h10:v.kind=6:=by omega
  rw[e0];simp[Cz,h9,h10]
def Iz(T:Ad→Prop)(P:Program)(f:FuncId):Prop:=∀{d cs}{v:V},T d→Az d cs v→AO P f [.agg cs.toArray] d (vZ (Bf v))
def Qs(a0 a1:Nat):Bo:=⟨11,[(.tmp 2)],(sR (o1 1 (.box 0)<|o1 2 (.mv z0) .done) (.seq (.block 0 (sR (o1 4 (.ld (some 6) 1)<|oc 5 a0 [4,(kZ 48)]<|o1 6 (.un .not 5)<|om 3 6 .done) (.cond 3 (sR (o1 2 (.mv (kZ 31)) .done) .ret) (sR (o1 8 (.ld (some 6) 1)<|oc 9 a1 [8]<|o1 10 (.un .not 9)<|om 7 10 .done) (.cond 7 (sR (o1 2 (.mv (kZ 30)) .done) .ret) .skip))))) (sR (o1 2 (.mv z0) .done) .ret)))⟩
def WK{T:Ad→Prop}{f2}(hd:dec P f=some (Qs f1 f2))(h1:LY P f1)(h2:U9 T P f2):Iz T P f:=by
 intro d cs v ht hv;refine AO.of' hd (Aca Z) ?_;have hv':=hv;obtain⟨lv,kv,rfl,ik,im,ie,it,hl,hks⟩:=hv'.open;show gwp P _ _ _ _ _;apply Ax;apply Ar;refine Bg (l:=[vZ v.kind,vZ v.m,vZ v.e,Ag v.text,lv,kv]) Z (fun b1 T1=>?_);refine AL Z<|Ax<|Am<|Aj<|AP 0 Z Z Z<|AG Z (h1 v (k:=48) hv (by omega)) ?_;by_cases h3:Bj v≤48
 ·rw[decide_eq_true h3];refine Bu Z<|Ao Z<|A7 Z<|Aj<|AP 0 Z Z Z<|AG Z (h2 v ht hv) ?_;cases h4:Cf v with
  |true=>
   (refine Bu Z<|Ao Z<|A7 Z<|Ay<|AD Z<|Bz ?_)
   apply C7;rfl
   simp[Bf,h3,h4]
  |false=>
   (refine Bu Z<|Ao Z<|Ci Z<|AD Z<|Bz ?_)
   apply C7;rfl
   simp[Bf,h3,h4]
 ·rw[decide_eq_false h3];(refine Bu Z<|Ao Z<|Ci Z<|AD Z<|Bz ?_);apply C7;rfl;simp[Bf,h3]
end Go.Gk.Val
end
section
namespace Go.Gk.Val
open Go Go.Gk Go.Proofs Go.RowKit Go.Shelf
def Abd{T:Ad→Prop}{P}{ρ:Ren}(L:Lays.n196 P ρ)(hc:Du P (ρ.f 196))(hT:∀d,T d→Jx (ρ.g 3) (ρ.g 4) d):Xy T P (ρ.f 196):=by
 intro d l ht hl;refine AO.Nh hc (fun W hs=>?_);have:=Any.utf8_ValidString L ⟨l.toArray⟩ W (by show l.toArray.size≤_;simp;omega) ((hT d ht).AaD hs);exact this
end Go.Gk.Val
end
section
namespace Go.Gk.Val
open Go Go.Gk Go.Proofs Go.RowKit Go.Shelf
def UC(g3 g4 g2:Nat)(d:Ad):Prop:=Jx g3 g4 d∧DCs d g2 0 Ij
def UC.mono{g3 g4 g2:Nat}{d d'}(hl:Le d d')(h:UC g3 g4 g2 d):UC g3 g4 g2 d':=⟨h.1.mono hl,h.2.mono hl⟩
def Uk:List Int:=(Ady 20).map fun i=>((10 ^ i:Nat):Int)
def Rz:Ij=Uk.map fun z=>Value.int .u64 z:=Z
end Go.Gk.Val
namespace Go.Gk.Val
open Go Go.Gk Go.Proofs Go.RowKit Go.Shelf
def UX(g3 g4 g2 g5:Nat)(d:Ad):Prop:=UC g3 g4 g2 d∧DCs d g5 0 Ij
def UX.mono{g3 g4 g2 g5:Nat}{d d'}(hl:Le d d')(h:UX g3 g4 g2 g5 d):UX g3 g4 g2 g5 d':=⟨h.1.mono hl,h.2.mono hl⟩
end Go.Gk.Val
end
section
namespace Go.Gk
open Go Go.ChangeShapes Go.WideShapes Go.ChangeAt Go.RowKit
section
section
variable {H:Type}{enc:TypeId×Value→H}{P:Program}{W:World}
def Abz(enc:TypeId×Value→H)(P:Program)(W:World)(held:Bool)(fuel:Nat)(t:TypeId){α}(R:Ad→List Value→α→Prop):Prop:=
 ∀(cs:List Value) (x:DataW H×List MemPlace),DataW.trod enc P W 0 (fun _=>true) held fuel t cs=some x→(∀n∈x.1.weights P t,n≤reachBytes)→∃a:α,R (hw W) cs a
def Rd.at{t:TypeId}{α:Type}{R:Ad→List Value→α→Prop}(h:Rd enc P W t R){held:Bool}{fuel:Nat}:Abz enc P W held fuel t R:=fun cs x=>h held fuel cs x
end
end
end Go.Gk
end
section
namespace Go.Gk.Val
open Go Go.Gk Go.Gk.Utf
attribute [local irreducible] gwp gws
def Lu(P:Program)(f:FuncId):Prop:=∀{d}{n:Int},I64 n→AO P f [vZ n] d (Ag (Dr n))
def K3:Bo:=⟨72,[(.tmp 2)],(sR (o1 2 (.mv (.const (Ag []))) .done) (.seq (sR (om 3 0<|ob 4 .lss 3 z0<|om 5 4<|gF 6 5 0<|oF 7 5 (.bin .gtr 6 (kZ 1114111))<|o1 8 (.pick 5 (.const (.bool true)) 7)<|om 9 8<|gF 10 9 0<|oF 11 9 (.bin .geq 10 (kZ 55296))<|gF 12 9 11<|gT 13 12 0<|oT 14 12 (.bin .leq 13 (kZ 57343))<|oF 15 9 (.pick 12 14 (.const (.bool false)))<|o1 16 (.pick 9 (.const (.bool true)) 15) .done) (.cond 16 (sR (o1 2 (.mv (.const (Ag []))) .done) .ret) .skip)) (.seq (sR (om 17 0<|ob 18 .lss 17 (kZ 128) .done) (.cond 18 (sR (om 19 0<|o1 20 (.cvi .u8 19)<|o1 21 (.bsl 1 1 [(.int .u8 0)] [(0,20)])<|o1 22 (.b2s 21)<|om 2 22 .done) .ret) .skip)) (.seq (sR (om 23 0<|ob 24 .lss 23 (kZ 2048) .done) (.cond 24 (sR (om 25 0<|ob 26 .quo 25 (kZ 64)<|ob 27 .add (kZ 192) 26<|o1 28 (.cvi .u8 27)<|om 29 0<|ob 30 .rem 29 (kZ 64)<|ob 31 .add (kZ 128) 30<|o1 32 (.cvi .u8 31)<|o1 33 (.bsl 2 1 [(.int .u8 0)] [(0,28),(1,32)])<|o1 34 (.b2s 33)<|om 2 34 .done) .ret) .skip)) (.seq (sR (om 35 0<|ob 36 .lss 35 (kZ 65536) .done) (.cond 36 (sR (om 37 0<|ob 38 .quo 37 (kZ 4096)<|ob 39 .add (kZ 224) 38<|o1 40 (.cvi .u8 39)<|om 41 0<|ob 42 .quo 41 (kZ 64)<|ob 43 .rem 42 (kZ 64)<|ob 44 .add (kZ 128) 43<|o1 45 (.cvi .u8 44)<|om 46 0<|ob 47 .rem 46 (kZ 64)<|ob 48 .add (kZ 128) 47<|o1 49 (.cvi .u8 48)<|o1 50 (.bsl 3 1 [(.int .u8 0)] [(0,40),(1,45),(2,49)])<|o1 51 (.b2s 50)<|om 2 51 .done) .ret) .skip)) (sR (om 52 0<|ob 53 .quo 52 (kZ 262144)<|ob 54 .add (kZ 240) 53<|o1 55 (.cvi .u8 54)<|om 56 0<|ob 57 .quo 56 (kZ 4096)<|ob 58 .rem 57 (kZ 64)<|ob 59 .add (kZ 128) 58<|o1 60 (.cvi .u8 59)<|om 61 0<|ob 62 .quo 61 (kZ 64)<|ob 63 .rem 62 (kZ 64)<|ob 64 .add (kZ 128) 63<|o1 65 (.cvi .u8 64)<|om 66 0<|ob 67 .rem 66 (kZ 64)<|ob 68 .add (kZ 128) 67<|o1 69 (.cvi .u8 68)<|o1 70 (.bsl 4 1 [(.int .u8 0)] [(0,55),(1,60),(2,65),(3,69)])<|o1 71 (.b2s 70)<|om 2 71 .done) .ret))))))⟩
def Y1{P f}(hd:dec P f=some K3):Lu P f:=by
 intro d n ⟨hn1,hn2⟩;refine AO.of' hd (Aca Z) ?_;show gwp P _ _ _ _ _;by_cases h1:n<0
 ·have e:=OY (.inl h1);refine Aj<|Ak Z<|Bw<|Ab Z<|As Z Z<|Ac Z<|AA Z<|Aq Z Z<|Ah Z Z<|Ac Z<|Aq Z Z<|AF Z<|AN Z<|AN Z<|AF Z<|Ah Z Z<|BK Z<|Aj<|Ak Z<|Bz<|Ku (v:=Ag []) Z ⟨by rw[e],Z⟩
 by_cases h2:n>1114111
 ·have e:=OY (.inr (.inl h2));refine Aj<|Ak Z<|Bw<|Ab Z<|As Z Z<|Ac Z<|Aw Z<|Aa Z<|Ab Z<|Aa Z<|AS Z Z<|Af Z Z<|Ac Z<|AA Z<|Aq Z Z<|AF Z<|AN Z<|AN Z<|AF Z<|Ah Z Z<|BK Z<|Aj<|Ak Z<|Bz<|Ku (v:=Ag []) Z ⟨by rw[e],Z⟩
 by_cases h3:n≥55296∧n≤57343
 ·obtain⟨h3,h3'⟩:=h3;have e:=OY (.inr (.inr ⟨h3,h3'⟩));refine Aj<|Ak Z<|Bw<|Ab Z<|As Z Z<|Ac Z<|Aw Z<|Aa Z<|Ab Z<|Aa Z<|AS Z Z<|Af Z Z<|Ac Z<|Aw Z<|Aa Z<|Ab Z<|Aa Z<|A5 Z Z<|Aa Z<|Ac Z<|AA Z<|Aa Z<|Ab Z<|Aa Z<|BN Z Z<|Aa Z<|Ah Z Z<|Af Z Z<|AE Z<|Aj<|Ak Z<|Bz<|Ku (v:=Ag []) Z ⟨by rw[e],Z⟩
 have hsur:n<55296∨(n≥55296∧¬n≤57343):=by omega
 by_cases h4:n<128
 ·have e:=MN (by omega) h4;refine Aj<|Ak Z<|Bw<|Ab Z<|As Z Z<|Ac Z<|Aw Z<|Aa Z<|Ab Z<|Aa Z<|AS Z Z<|Af Z Z<|Ac Z<|Aw Z<|Aa Z<|Ab Z<|Aa Z<|A5 Z Z<|Aa Z<|Ac Z<|Aw Z<|Aq Z Z<|Aa Z<|Af Z Z<|Af Z Z<|Bh Z<|Ap<|Ab Z<|As Z Z<|AE Z<|AD Z<|Em Z<|Ff (v0:=Bb (UInt8.ofNat (n % 256).toNat)) Z Z (fun b8 T8=>?_);have o:AQ 1 Cd d (.slice (some ⟨b8,0,none⟩) 1 1) (Dr n) (bx b8 T8 [Bb (UInt8.ofNat (n % 256).toNat)]):=AQ.G7 (by rw[e];rfl) (by rw[e];rfl) (by rw[e];simp);refine HW (by rfl) (by assumption) (by simp[lk])<|Ak Z<|Bz<|CX Z
 by_cases h5:n<2048
 ·have e:=TO (by omega) h5;refine Aj<|Ak Z<|Bw<|Ab Z<|As Z Z<|Ac Z<|Aw Z<|Aa Z<|Ab Z<|Aa Z<|AS Z Z<|Af Z Z<|Ac Z<|Aw Z<|Aa Z<|Ab Z<|Aa Z<|A5 Z Z<|Aa Z<|Ac Z<|Aw Z<|Aq Z Z<|Aa Z<|Af Z Z<|Af Z Z<|Bh Z<|Ap<|Ab Z<|As Z Z<|AJ Z<|Ap<|Ab Z<|As Z Z<|AE Z<|AD Z<|F2 Z Z (by omega) (by omega) (by omega)<|AY Z Z<|Em Z<|Ab Z<|Fc Z Z (by omega) (by omega)<|AY Z Z<|Em Z<|UF (v0:=Bb (UInt8.ofNat ((192+n / 64) % 256).toNat)) (v1:=Bb (UInt8.ofNat ((128+n % 64) % 256).toNat)) Z Z Z Z (fun b8 T8=>?_);have o:AQ 1 Cd d (.slice (some ⟨b8,0,none⟩) 2 2) (Dr n) (bx b8 T8 [Bb (UInt8.ofNat ((192+n / 64) % 256).toNat),Bb (UInt8.ofNat ((128+n % 64) % 256).toNat)]):=AQ.G7 (by rw[e];rfl) (by rw[e];rfl) (by rw[e];simp);refine HW (by rfl) (by assumption) (by simp[lk])<|Ak Z<|Bz<|CX Z
 rcases hsur with hs|⟨hs,hs'⟩
 ·have e:=O1 (n:=n) (by omega) (by omega) (by omega);refine Aj<|Ak Z<|Bw<|Ab Z<|As Z Z<|Ac Z<|Aw Z<|Aa Z<|Ab Z<|Aa Z<|AS Z Z<|Af Z Z<|Ac Z<|Aw Z<|Aa Z<|Ab Z<|Aa Z<|A5 Z Z<|Aa Z<|Ac Z<|Aw Z<|Aq Z Z<|Aa Z<|Af Z Z<|Af Z Z<|Bh Z<|Ap<|Ab Z<|As Z Z<|AJ Z<|Ap<|Ab Z<|As Z Z<|AJ Z<|Ap<|Ab Z<|As Z Z<|AE Z<|AD Z<|F2 Z Z (by omega) (by omega) (by omega)<|AY Z Z<|Em Z<|Ab Z<|F2 Z Z (by omega) (by omega) (by omega)<|Fc Z Z (by omega) (by omega)<|AY Z Z<|Em Z<|Ab Z<|Fc Z Z (by omega) (by omega)<|AY Z Z<|Em Z<|Qv (v0:=Bb (UInt8.ofNat ((224+n / 4096) % 256).toNat)) (v1:=Bb (UInt8.ofNat ((128+n / 64 % 64) % 256).toNat)) (v2:=Bb (UInt8.ofNat ((128+n % 64) % 256).toNat)) Z Z Z Z Z Z (fun b8 T8=>?_);have o:AQ 1 Cd d (.slice (some ⟨b8,0,none⟩) 3 3) (Dr n) (bx b8 T8 [Bb (UInt8.ofNat ((224+n / 4096) % 256).toNat),Bb (UInt8.ofNat ((128+n / 64 % 64) % 256).toNat),Bb (UInt8.ofNat ((128+n % 64) % 256).toNat)]):=AQ.G7 (by rw[e];rfl) (by rw[e];rfl) (by rw[e];simp);refine HW (by rfl) (by assumption) (by simp[lk])<|Ak Z<|Bz<|CX Z
 ·by_cases h6:n<65536
  ·have e:=O1 (n:=n) (by omega) (by omega) (by omega);refine Aj<|Ak Z<|Bw<|Ab Z<|As Z Z<|Ac Z<|Aw Z<|Aa Z<|Ab Z<|Aa Z<|AS Z Z<|Af Z Z<|Ac Z<|Aw Z<|Aa Z<|Ab Z<|Aa Z<|A5 Z Z<|Aa Z<|Ac Z<|AA Z<|Aa Z<|Ab Z<|Aa Z<|BN Z Z<|Aa Z<|Ah Z Z<|Af Z Z<|AJ Z<|Ap<|Ab Z<|As Z Z<|AJ Z<|Ap<|Ab Z<|As Z Z<|AJ Z<|Ap<|Ab Z<|As Z Z<|AE Z<|AD Z<|F2 Z Z (by omega) (by omega) (by omega)<|AY Z Z<|Em Z<|Ab Z<|F2 Z Z (by omega) (by omega) (by omega)<|Fc Z Z (by omega) (by omega)<|AY Z Z<|Em Z<|Ab Z<|Fc Z Z (by omega) (by omega)<|AY Z Z<|Em Z<|Qv (v0:=Bb (UInt8.ofNat ((224+n / 4096) % 256).toNat)) (v1:=Bb (UInt8.ofNat ((128+n / 64 % 64) % 256).toNat)) (v2:=Bb (UInt8.ofNat ((128+n % 64) % 256).toNat)) Z Z Z Z Z Z (fun b8 T8=>?_);have o:AQ 1 Cd d (.slice (some ⟨b8,0,none⟩) 3 3) (Dr n) (bx b8 T8 [Bb (UInt8.ofNat ((224+n / 4096) % 256).toNat),Bb (UInt8.ofNat ((128+n / 64 % 64) % 256).toNat),Bb (UInt8.ofNat ((128+n % 64) % 256).toNat)]):=AQ.G7 (by rw[e];rfl) (by rw[e];rfl) (by rw[e];simp);refine HW (by rfl) (by assumption) (by simp[lk])<|Ak Z<|Bz<|CX Z
  ·have e:=TH (n:=n) (by omega) (by omega);refine Aj<|Ak Z<|Bw<|Ab Z<|As Z Z<|Ac Z<|Aw Z<|Aa Z<|Ab Z<|Aa Z<|AS Z Z<|Af Z Z<|Ac Z<|Aw Z<|Aa Z<|Ab Z<|Aa Z<|A5 Z Z<|Aa Z<|Ac Z<|AA Z<|Aa Z<|Ab Z<|Aa Z<|BN Z Z<|Aa Z<|Ah Z Z<|Af Z Z<|AJ Z<|Ap<|Ab Z<|As Z Z<|AJ Z<|Ap<|Ab Z<|As Z Z<|AJ Z<|Ap<|Ab Z<|As Z Z<|AJ Z<|AD Z<|F2 Z Z (by omega) (by omega) (by omega)<|AY Z Z<|Em Z<|Ab Z<|F2 Z Z (by omega) (by omega) (by omega)<|Fc Z Z (by omega) (by omega)<|AY Z Z<|Em Z<|Ab Z<|F2 Z Z (by omega) (by omega) (by omega)<|Fc Z Z (by omega) (by omega)<|AY Z Z<|Em Z<|Ab Z<|Fc Z Z (by omega) (by omega)<|AY Z Z<|Em Z<|Ym (v0:=Bb (UInt8.ofNat ((240+n / 262144) % 256).toNat)) (v1:=Bb (UInt8.ofNat ((128+n / 4096 % 64) % 256).toNat)) (v2:=Bb (UInt8.ofNat ((128+n / 64 % 64) % 256).toNat)) (v3:=Bb (UInt8.ofNat ((128+n % 64) % 256).toNat)) Z Z Z Z Z Z Z Z (fun b8 T8=>?_);have o:AQ 1 Cd d (.slice (some ⟨b8,0,none⟩) 4 4) (Dr n) (bx b8 T8 [Bb (UInt8.ofNat ((240+n / 262144) % 256).toNat),Bb (UInt8.ofNat ((128+n / 4096 % 64) % 256).toNat),Bb (UInt8.ofNat ((128+n / 64 % 64) % 256).toNat),Bb (UInt8.ofNat ((128+n % 64) % 256).toNat)]):=AQ.G7 (by rw[e];rfl) (by rw[e];rfl) (by rw[e];simp);refine HW (by rfl) (by assumption) (by simp[lk])<|Ak Z<|Bz<|CX Z
def IC(P:Program)(f:FuncId):Prop:=∀{d l},l≠[]→l.length≤140737488355328→AO P f [Ag l] d (.tuple #[vZ (Dp l).1,vZ (Dp l).2])
def KD(a0:Nat):Bo:=⟨47,[(.tmp 2),(.tmp 3)],(sR (o1 2 (.mv z0)<|o1 3 (.mv z0) .done) (sR (o1 8 (.bld [(0,1),(1,1),(2,1),(3,1),(4,1)] [(vZ 0),(vZ 0),(vZ 0),(vZ 0),(vZ 0)] [(0,z0),(1,z0),(2,(kZ 192)),(3,(kZ 224)),(4,(kZ 240))])<|o1 4 (.alo (.agg #[(vZ 0),(vZ 0),(vZ 0),(vZ 0),(vZ 0)]))<|o0 (.st 5 4 8) .done) (.seq (sR (o1 5 (.mv z1) .done) (.block 0 (.loop (.seq (sR (om 9 5<|ob 10 .leq 9 (kZ 4)<|om 11 10<|gT 12 11 5<|gT 13 11 0<|oT 14 11 (.lens 13)<|oT 15 11 (.bin .leq 12 14)<|gP 16 11 15 .done) (.cond 16 .skip (.exit 0))) (.seq (.block 1 (.seq (.reg true (pm 19 0<|p1 20 (.sidx 19 z0)<|p1 21 (.cvi .i64 20)<|pm 22 5<|p1 23 (.idxa 5 1 4 22)<|pl 24 23<|p1 25 (.bin .sub 21 24) (.bar (pm 6 25 .done)))) (.seq (sR (o1 7 (.mv z1) .done) (.block 2 (.loop (.seq (sR (om 26 7<|om 27 5<|ob 28 .lss 26 27 .done) (.cond 28 .skip (.exit 2))) (.seq (.block 3 (rG (om 31 6<|ob 32 .mul 31 (kZ 64)<|om 33 0<|om 34 7<|o1 35 (.sidx 33 34)<|o1 36 (.cvi .i64 35)<|ob 37 .add 32 36<|ob 38 .sub 37 (kZ 128)<|om 6 38 .done))) (rG (om 29 7<|ob 30 .add 29 z1<|om 7 30 .done))))))) (.seq (.reg true (pm 39 6<|pm 41 0<|pm 42 5<|p1 43 (.sls 41 none (some 42))<|oc 40 a0 [39]<|p1 44 (.bin .eql 40 43) .done)) (.cond 44 (sR (om 45 6<|om 46 5<|om 2 45<|om 3 46 .done) .ret) .skip))))) (rG (om 17 5<|ob 18 .add 17 z1<|om 5 18 .done))))))) (sR (o1 2 (.mv z0)<|o1 3 (.mv z0) .done) .ret))))⟩
set_option maxHeartbeats 1000000 in
def WJ{P f f1}(hd:dec P f=some (KD f1))(h1:Lu P f1):IC P f:=by
 intro d l hne hl;have hl1:1≤l.length:=Adk.2 hne;refine AO.of' hd (Aca Z) ?_;show gwp P _ _ _ _ _;(refine AD Z<|Bt Z<|B2 Z<|BV (fun _ _=>?_));rename_i b4 T4;refine Au 0 [vZ 0,vZ 0,vZ 192,vZ 224,vZ 240] Z Z Z Z (Aca Z) Z Z<|Bw<|AL Z<|Am<|DJ (α:=Nat) (fun n=>[(0,Ag l),(4,pZ b4),(5,vZ n)]) (fun _=>[bx b4 T4 [vZ 0,vZ 0,vZ 192,vZ 224,vZ 240]])
  (fun n=>1≤n∧n≤5∧FO l (5 - n) n=Dp l) (fun n=>5 - n) 1 ⟨Z,Z,Z,trivial⟩ Z ⟨by omega,by omega,Z⟩ ?_
 rintro n ρ ⟨hn1,hn5,hgo⟩;by_cases hc:n≤4∧n≤l.length
 ·obtain⟨hc1,hc2⟩:=hc;obtain⟨g,hg⟩:∃g,5 - n=g+1:=⟨4 - n,by omega⟩
  rw[hg] at hgo;simp only[FO,if_pos (show n≤4∧n≤l.length from⟨hc1,hc2⟩)] at hgo;have hb0:0≤((l.getD 0 0).toNat:Int)∧((l.getD 0 0).toNat:Int)≤255:=My l 0;have hl0:l[0]?=some (l.getD 0 0):=by simp[show 0<l.length by omega]
  have hhd:[Value.int .i64 0,vZ 0,vZ 192,vZ 224,vZ 240][n]?=some (vZ (Utf.hd n)):=by
   obtain rfl|rfl|rfl|rfl:n=1∨n=2∨n=3∨n=4:=by omega
   ·rfl
   ·rfl
   ·rfl
   ·rfl
  have hhl:0≤Utf.hd n∧Utf.hd n≤240:=by unfold Utf.hd;split<;>omega
  refine Ap<|Ab Z<|BN Z Z<|Ac Z<|AA Z<|Aa Z<|Ab Z<|Aa Z<|Ak Z<|Aa Z<|AX Z<|Aa Z<|BN Z Z<|Ah Z Z<|AE Z<|Ay<|Ax<|Am<|Ax<|Bd ?_;(apply Ak;rfl);refine AU 0 Z Z Z hl0<|Gu Z (by omega) (by omega)<|Ab Z<|Dd n Z Z Z (by omega)<|Al Z (An 0 Z (by simpa using hhd))<|DQ Z Z<|B0<|A1 Z<|AL Z<|Am<|DJ (α:=Nat) (fun i=>[(0,Ag l),(4,pZ b4),(5,vZ n),(6,vZ (Gf l n i)),(7,vZ i)]) (fun _=>[bx b4 T4 [vZ 0,vZ 0,vZ 192,vZ 224,vZ 240]])
   (fun i=>1≤i∧i≤n) (fun i=>n - i) 1 ⟨Z,Z,Z,int_eq Z,Z,trivial⟩ Z ⟨by omega,hn1⟩ ?_
  rintro i ρ ⟨hi1,hi2⟩;have hnb:=Y7 l (n:=n) (i:=i) (by omega);by_cases hc3:i<n
  ·have hbi:=My l i;have hli:l[i]?=some (l.getD i 0):=by simp[show i<l.length by omega]
   refine Ap<|Ab Z<|Ab Z<|As Z Z<|AE Z<|Ay<|Ax<|Am<|Ar<|Ab Z<|Me Z Z (by omega) (by omega)<|Ak Z<|Ab Z<|AU i Z Z Z hli ?_;have hbi':0≤((l.getD i 0).toNat:Int)∧((l.getD i 0).toNat:Int)≤255:=hbi;(refine Gu Z (by omega) (by omega)<|AY Z Z<|DQ Z Z<|AL Z<|Ar<|Ab Z<|AY Z Z<|AL Z ?_);refine⟨i+1,by omega,⟨Z,Z,Z,?_,int_eq (by omega),trivial⟩,Z,Z,by omega,by omega⟩
   obtain⟨j,rfl⟩:∃j,i=j+1:=⟨i - 1,by omega⟩
   rfl
  ·obtain rfl:i=n:=by omega
   refine Ap<|Ab Z<|Ab Z<|As Z Z<|BM Z<|A6<|Ax<|Bd<|Ab Z<|Ak Z<|Ab Z<|It (n:=i) Z Z Z hc2<|AG Z (h1 ⟨by omega,by omega⟩) ?_;by_cases he:Dr (Gf l i i)=l.take i
   ·(refine CS Z Z<|AV<|Bn Z<|AD Z<|Ab Z<|Ab Z<|AM Z ?_);rw[if_pos he] at hgo;rw[←hgo];exact Dy Z Z
   ·(refine CS Z Z<|AV<|AH Z<|Ay<|Ar<|Ab Z<|AY Z Z<|AL Z ?_);rw[if_neg he] at hgo;exact⟨i+1,by omega,⟨Z,Z,int_eq (by omega),trivial⟩,Z,Z,by omega,by omega,by rw[show 5 - (i+1)=g by omega];exact hgo⟩
 ·have hz:Dp l=(0,0):=by
   rw[←hgo];cases h:5 - n with
   |zero=>rfl
   |succ g=>simp only[FO];rw[if_neg hc]
  rw[hz];by_cases hc4:n≤4
  ·have hc5:¬n≤l.length:=fun h=>hc ⟨hc4,h⟩;refine Ap<|Ab Z<|BN Z Z<|Ac Z<|AA Z<|Aa Z<|Ab Z<|Aa Z<|Ak Z<|Aa Z<|AX Z<|Aa Z<|BN Z Z<|Ah Z Z<|BM Z<|A6<|AD Z<|AM Z<|Dy Z Z
  ·refine Ap<|Ab Z<|BN Z Z<|Ac Z<|Aw Z<|Aq Z Z<|Aq Z Z<|Af Z Z<|EX Z<|A6<|AD Z<|AM Z<|Dy Z Z
def KR(a0:Nat):Bo:=⟨18,[(.tmp 2)],(sR (o1 2 (.mv (.const (.bool false))) .done) (.seq (.block 0 (.loop (.seq (sR (om 5 0<|o1 6 (.lens 5)<|ob 7 .gtr 6 z0 .done) (.cond 7 .skip (.exit 0))) (.block 1 (sR (om 9 0<|oc 10 a0 [9]<|om 8 10<|oe 11 8 0<|oe 12 8 1<|om 3 11<|om 4 12 .done) (.seq (sR (om 13 4<|ob 14 .eql 13 z0 .done) (.cond 14 (sR (o1 2 (.mv (.const (.bool false))) .done) .ret) .skip)) (rG (om 15 0<|om 16 4<|o1 17 (.sls 15 (some 16) none)<|om 0 17 .done)))))))) (sR (o1 2 (.mv (.const (.bool true))) .done) .ret)))⟩
def PM{T:Ad→Prop}{P f f1}(hd:dec P f=some (KR f1))(h1:IC P f1):Ek T P f:=by
 intro d l ht hl;refine AO.of' hd (Aca Z) ?_;show gwp P _ _ _ _ _;refine Aj<|Ao Z<|Ax<|Am<|DJ (α:=List UInt8) (fun l'=>[(0,Ag l')]) (fun _=>[]) (fun l'=>l'.length≤l.length∧u8 l'=u8 l) (fun l'=>l'.length) l ⟨Z,trivial⟩ Z ⟨Ack _,Z⟩ ?_;rintro l' ρ ⟨hle,hu⟩;by_cases hc:l'=[]
 ·have h0:l'.length=0:=by rw[hc];rfl
  (refine Ap<|Ak Z<|AX Z<|AS Z Z<|BM Z<|A6<|Aj<|Bk Z ?_);apply BF;rfl;rw[←hu,hc];rfl
 ·have hpos:1≤l'.length:=Adk.2 hc;have hs:=YP hc;have hw:=NS l' 4 1;have hw:0≤(Dp l').2∧(Dp l').2≤l'.length:=hw;refine Ap<|Ak Z<|AX Z<|AS Z Z<|AE Z<|Ay<|Am<|Aj<|Ak Z<|AG Z (h1 hc (by omega)) ?_;by_cases h0:(Dp l').2=0
  ·(refine Bm Z<|Bx Z Z Z Z<|Ab Z<|A1 Z<|Ab Z<|Ai Z Z<|AE Z<|Aj<|Bk Z ?_);apply BF;rfl;rw[←hu,u8,hs,if_pos h0]
  ·refine Bm Z<|Bx Z Z Z Z<|Ab Z<|A1 Z<|Ab Z<|Ai Z Z<|AJ Z<|Ar<|Ak Z<|Ab Z<|B6 (n:=(Dp l').2.toNat) Z Z (by omega) (by omega)<|Ak Z<|Av ?_;refine⟨l'.drop (Dp l').2.toNat,by simp;omega,⟨Z,trivial⟩,Z,Z,by simp;omega,?_⟩
   rw[←hu,u8,u8,hs,if_neg h0]
end Go.Gk.Val
end
section
namespace Go.Gk.Num
open Go
def B1(n:Nat):List Nat:=if _:n=0 then [] else B1 (n / 10)++[n % 10]
termination_by n
decreasing_by omega
def Fm:B1 0=[]:=by rw[B1];simp
def Gq{n:Nat}(h:n≠0):B1 n=B1 (n / 10)++[n % 10]:=by rw[B1];simp[h]
def val(l:List Nat):Nat:=l.foldl (fun m d=>m*10+d) 0
def Ng(l:List Nat)(d:Nat):val (l++[d])=val l*10+d:=by simp[val]
def HP{p:Nat→Prop}(h0:p 0)(hs:∀n,n≠0→p (n / 10)→p n)(n:Nat):p n:=by
 induction n using Nat.strongRecOn with
 |_ n ih=>
  by_cases h:n=0
  ·subst h;exact h0
  ·exact hs n h (ih _ (by omega))
def X9(n:Nat):val (B1 n)=n:=by
 induction n using HP with
 |h0=>rw[Fm];rfl
 |hs n h ih=>rw[Gq h,Ng,ih];omega
def ON(n:Nat):∀d∈B1 n,d<10:=by
 induction n using HP with
 |h0=>rw[Fm];simp
 |hs n h ih=>
  rw[Gq h]
  intro d hd
  rcases List.mem_append.1 hd with hd|hd
  ·exact ih d hd
  ·rw[List.mem_singleton.1 hd];omega
def F4(n:Nat):∀k,(B1 n).length≤k↔n<10 ^ k:=by
 induction n using HP with
 |h0=>intro k;rw[Fm];simp;exact Nat.pow_pos (by omega)
 |hs n h ih=>
  intro k
  rw[Gq h,Acd,Adf]
  cases k with
  |zero=>simp;omega
  |succ k=>
   have:=ih k
   rw[Nat.pow_succ]
   constructor
   ·intro h1;have:=this.1 (by omega);omega
   ·intro h1;have:=this.2 (by omega);omega
def PI{n:Nat}(h:n≠0):∃d l,B1 n=d::l∧d≠0:=by
 induction n using HP with
 |h0=>exact absurd Z h
 |hs n hn ih=>
  by_cases h1:n / 10=0
  ·refine⟨n % 10,[],?_,by omega⟩
   rw[Gq hn,h1,Fm];rfl
  ·obtain⟨d,l,e,hd⟩:=ih h1
   exact⟨d,l++[n % 10],by rw[Gq hn,e];rfl,hd⟩
def lead:List Nat→List Nat
 |0::l=>lead l
 |l=>l
def DV:Nat→List Nat→Int→List Nat×Int
 |0,l,e=>(l,e)
 |f+1,l,e=>if l.getLast?=some 0 then DV f l.dropLast (e+1) else(l,e)
def Eh(neg:Bool)(l:List Nat)(e:Int):Int×Int×Int:=
 let p:=DV (lead l).length (lead l) e
 if p.1=[] then(0,0,0) else
 if p.1.length>18∨p.2< -64∨p.2>64 then(0,0,11) else
 (if neg then -(val p.1:Int) else(val p.1:Int),p.2,0)
def QQ:∀f l (e:Int),e≤(DV f l e).2
 |0,l,e=>Afv e
 |f+1,l,e=>by
  simp only[DV];split
  ·have:=QQ f l.dropLast (e+1);omega
  ·exact Afv e
def Oy:∀f d l (e:Int),d≠0→∃l',(DV f (d::l) e).1=d::l'
 |0,d,l,e,_=>⟨l,Z⟩
 |f+1,d,l,e,hd=>by
  simp only[DV];split
  ·rename_i h;cases l with
   |nil=>simp at h;exact absurd h hd
   |cons a l=>rw[List.dropLast_cons_cons];exact Oy f d _ _ hd
  ·exact⟨l,Z⟩
def S1(m e:Int)(h1: -64≤e)(h2:e≤64):((Eh (decide (m<0)) (B1 m.natAbs) e).2.2=0∧(Eh (decide (m<0)) (B1 m.natAbs) e).1=m∧(Eh (decide (m<0)) (B1 m.natAbs) e).2.1=e)↔
  (if m=0 then e=0 else(-1000000000000000000<m∧m<1000000000000000000∧m % 10≠0∧ -64≤e∧e≤64)):=by
 by_cases h0:m=0
 ·subst h0
  rw[show(0:Int).natAbs=0 from Z,Fm]
  simp[Eh,lead,DV,eq_comm]
 ·rw[if_neg h0]
  have hn:m.natAbs≠0:=by omega
  obtain⟨d,l,hdl,hd0⟩:=PI hn
  have hlead:lead (B1 m.natAbs)=B1 m.natAbs:=by
   rw[hdl];cases d with
   |zero=>exact absurd Z hd0
   |succ d=>rfl
  have hlast:(B1 m.natAbs).getLast?=some (m.natAbs % 10):=by rw[Gq hn];simp
  have hlen:(B1 m.natAbs).length≠0:=by rw[hdl];simp
  obtain⟨f,hf⟩:∃f,(B1 m.natAbs).length=f+1:=⟨(B1 m.natAbs).length - 1,by omega⟩
  have h18:=F4 m.natAbs 18
  have hv:=X9 m.natAbs
  by_cases h10:m.natAbs % 10=0
  ·have hlast':(B1 m.natAbs).getLast?=some 0:=by rw[hlast,h10]
   have ht:DV (B1 m.natAbs).length (B1 m.natAbs) e=DV f (B1 m.natAbs).dropLast (e+1):=by rw[hf,DV,if_pos hlast']
   have hge:e+1≤(DV (lead (B1 m.natAbs)).length (lead (B1 m.natAbs)) e).2:=by rw[hlead,ht];exact QQ _ _ _
   obtain⟨l',hl'⟩:=Oy (B1 m.natAbs).length d l e hd0
   have hne:¬(DV (lead (B1 m.natAbs)).length (lead (B1 m.natAbs)) e).1=[]:=by rw[hlead];rw[←hdl] at hl';rw[hl'];simp
   constructor
   ·rintro⟨a,b,c⟩
    exfalso
    simp only[Eh,if_neg hne] at a c
    split at a
    ·simp at a
    ·rename_i hc;rw[if_neg hc] at c;simp only at c;omega
   ·rintro⟨_,_,h,_⟩
    omega
  ·have hlast':¬(B1 m.natAbs).getLast?=some 0:=by rw[hlast];simpa using h10
   have ht:DV (lead (B1 m.natAbs)).length (lead (B1 m.natAbs)) e=(B1 m.natAbs,e):=by rw[hlead,hf,DV,if_neg hlast']
   have hne:¬B1 m.natAbs=[]:=by rw[hdl];simp
   have hp:(10:Nat)^ 18=1000000000000000000:=by decide
   simp only[Eh,ht,if_neg hne]
   by_cases hb:(B1 m.natAbs).length>18
   ·rw[if_pos (.inl hb)]
    constructor
    ·rintro⟨a,_⟩;simp at a
    ·rintro⟨a,b,_⟩
     exfalso
     have:=h18.2 (by rw[hp];omega)
     omega
   ·rw[if_neg (by omega),hv]
    have h3:=h18.1 (by omega)
    rw[hp] at h3
    constructor
    ·intro _;omega
    ·intro _
     refine⟨Z,?_,Z⟩
     by_cases hm:m<0
     ·simp[hm];omega
     ·simp[hm];omega
end Go.Gk.Num
end
section
namespace Go.Gk.Val
open Go Go.Gk Go.Gk.Num
attribute [local irreducible] gwp gws
def ints(l:List Nat):List Int:=l.map Int.ofNat
def Ol(P:Program)(f:FuncId):Prop:=∀{d}{m e:Int},I64 m→I64 e→Be P f [.agg [vZ m,vZ e].toArray] d [] (Ret fun r d' L'=>L'=[]∧∃dv,r=.agg [.bool (decide (m<0)),dv,vZ e].toArray∧FF d' dv (ints (B1 m.natAbs)))
def Lc:Bo:=⟨31,[(.cell 2 (some 3))],(sR (o1 1 (.box 0)<|o1 2 (.alo (.agg #[(.bool false),nV,(vZ 0)])) .done) (sR (oj 6 0 1<|ol 7 6<|ob 8 .lss 7 z0<|oj 9 1 1<|ol 10 9<|o1 11 (.bld [(0,1),(1,1),(2,1)] [(.bool false),nV,(vZ 0)] [(0,8),(2,10)])<|o1 3 (.alo (.agg #[(.bool false),nV,(vZ 0)]))<|o0 (.st 3 3 11) .done) (sR (oj 12 0 1<|ol 13 12<|om 4 13 .done) (.seq (.block 0 (.loop (.seq (sR (om 14 4<|ob 15 .neq 14 z0 .done) (.cond 15 .skip (.exit 0))) (.block 1 (sR (om 16 4<|ob 17 .rem 16 (kZ 10)<|om 5 17 .done) (.seq (sR (om 18 5<|ob 19 .lss 18 z0 .done) (.cond 19 (rG (om 20 5<|o1 21 (.un .neg 20)<|om 5 21 .done)) .skip)) (sR (om 22 5<|o1 23 (.bsl 1 1 [(vZ 0)] [(0,22)])<|oj 24 1 3<|ol 25 24<|o1 26 (.app 1 8 [(vZ 0)] 23 25)<|oj 27 1 3<|o0 (.st 1 27 26) .done) (rG (om 28 4<|ob 29 .quo 28 (kZ 10)<|om 4 29 .done))))))))) (sR (o1 30 (.ld (some 3) 3)<|o0 (.st 3 2 30) .done) .ret)))))⟩
set_option maxHeartbeats 1000000 in
def ZG{P f}(hd:dec P f=some Lc):Ol P f:=by
 intro d m e hm he;obtain⟨hm1,hm2⟩:=hm;refine Cq hd (Aca Z) ?_;have h19:=(F4 m.natAbs 19).2 (by
  have:(10:Nat)^ 19=10000000000000000000:=by decide
  omega)
 show gwp P _ _ _ _ _;(refine Aj<|Bg Z (fun _ _=>BV (fun _ _=>Br<|Ae Z<|Al Z (An 1 Z Z)<|As Z Z<|Ae Z<|Al Z (An 1 Z Z)<|B2 Z<|BV (fun _ _=>?_))));rename_i b1 T1 b2 T2 b3 T3;refine Au 0 [.bool (decide (m<0)),nV,vZ e] Z Z Z Z (Aca Z) Z Z<|Br<|Ae Z<|Al Z (An 2 Z Z)<|AL Z<|Ax<|Am<|BP (α:=Int) (fun k=>[(2,pZ b2),(3,pZ b3),(4,vZ k)])
  (fun k d' L'=>Le d d'∧ -9223372036854775808≤k∧k≤9223372036854775807∧∃(D:List Nat) (a:Option Addr) (c:Nat),B1 k.natAbs++D=B1 m.natAbs∧(∀n∈D,n<10)∧FF d' (.slice a D.length c) (ints D)∧L'=[bx b3 T3 [.bool (decide (m<0)),.slice a D.length c,vZ e],bx b2 T2 [.bool false,nV,vZ 0],bx b1 T1 [vZ m,vZ e]])
  (fun k=>k.natAbs) m ⟨Z,Z,Z,trivial⟩ ⟨Le.refl d,hm1,hm2,[],none,0,by simp,by simp,(RSl.nil:RSl 1 EU d nV []),Z⟩ ?_
 rintro k ρ d' L' ⟨hl,hk1,hk2,D,a,c,hdig,hlt,hr,hL⟩;subst hL;by_cases hk0:k=0
 ·subst hk0;rw[show(0:Int).natAbs=0 from Z,Fm,Aer] at hdig;refine Ap<|Ab Z<|AB Z Z<|BM Z<|A6<|Aj<|AP 0 Z Z Z<|Au 1 [.bool (decide (m<0)),.slice a D.length c,vZ e] Z Z Z Z (Aca Z) Z Z<|Bz<|Ba [.agg [.bool (decide (m<0)),.slice a D.length c,vZ e].toArray] ⟨Bc 1 Z Z Z,trivial⟩ (Acb _) ⟨Z,_,Z,by rw[←hdig];exact hr⟩
 ·have hpos:=Gq (n:=k.natAbs) (by omega);have hmod:(k.tmod 10).natAbs=k.natAbs % 10:=by rw[Int.natAbs_tmod];rfl
  have hdiv:(k.tdiv 10).natAbs=k.natAbs / 10:=by rw[Int.natAbs_tdiv];rfl
  have hDl:D.length+1≤19:=by
   have:=congrArg Afp hdig;rw[Acd,hpos,Acd,Adf] at this;omega
  have hnext:∀(g:Nat),g=k.natAbs % 10→B1 (k.tdiv 10).natAbs++(g::D)=B1 m.natAbs:=by
   intro g hg;rw[←hdig,hpos,hdiv,hg,List.append_assoc];rfl
  have hmb:(k.tmod 10).natAbs<10:=by omega
  by_cases hneg:k.tmod 10<0
  ·refine Ap<|Ab Z<|AB Z Z<|AE Z<|Ay<|Am<|AD Z<|JW Z Z (by omega)<|A1 Z<|Ab Z<|As Z Z<|AE Z<|Ar<|Ab Z<|Ik Z (by omega) (by omega)<|Bt Z<|Ab Z<|Ff (v0:=vZ (-(k.tmod 10))) Z Z (fun b8 T8=>?_);have hge:(-(k.tmod 10))=((k.natAbs % 10:Nat):Int):=by omega
   refine Ae Z<|Al Z (An 1 Z Z)<|Dc (R:=EU) (w:=.slice a D.length c) (xs:=[((k.natAbs % 10:Nat):Int)]) (ys:=ints D) 0 Z Z (AQ.G8 (x:=((k.natAbs % 10:Nat):Int)) Z ⟨congrArg (fun z=>[Value.int .i64 z]) hge,by omega,by omega⟩) Z (RSl.src (R:=EU) (xs:=ints D) hr Qf (by omega) _) (by omega) (by simp[ints];omega) (by simp[ints];omega) (fun v9 h9 o9=>?_);refine DI (fun d9 hl9 hg9=>?_);have hr9:FF d9 v9 (ints (k.natAbs % 10::D)):=o9.rsl NA (by omega) hl9 hg9;obtain⟨a9,c9,rfl⟩:∃a9 c9,v9=.slice a9 (k.natAbs % 10::D).length c9:=by
    obtain⟨a9,c9,e9⟩:=o9.val;exact⟨a9,c9,by rw[e9];simp[ints]⟩
   (apply Ae;rfl);refine Au 0 [.bool (decide (m<0)),.slice a9 (k.natAbs % 10::D).length c9,vZ e] Z Z Z Z (Aca Z) Z Z<|Av<|Ar<|Ab Z<|WE Z Z (by omega) (by omega) (by omega)<|AL Z ?_;refine⟨k.tdiv 10,by omega,⟨Z,Z,Z,trivial⟩,hl.trans hl9,by omega,by omega,k.natAbs % 10::D,a9,c9,hnext _ Z,?_,hr9,Z⟩
   intro n hn;rcases Adj.1 hn with rfl|hn
   ·omega
   ·exact hlt n hn
  ·refine Ap<|Ab Z<|AB Z Z<|AE Z<|Ay<|Am<|AD Z<|JW Z Z (by omega)<|A1 Z<|Ab Z<|As Z Z<|AJ Z<|AD Z<|Ff (v0:=vZ (k.tmod 10)) Z Z (fun b8 T8=>?_);have hge:(k.tmod 10)=((k.natAbs % 10:Nat):Int):=by omega
   refine Ae Z<|Al Z (An 1 Z Z)<|Dc (R:=EU) (w:=.slice a D.length c) (xs:=[((k.natAbs % 10:Nat):Int)]) (ys:=ints D) 0 Z Z (AQ.G8 (x:=((k.natAbs % 10:Nat):Int)) Z ⟨congrArg (fun z=>[Value.int .i64 z]) hge,by omega,by omega⟩) Z (RSl.src (R:=EU) (xs:=ints D) hr Qf (by omega) _) (by omega) (by simp[ints];omega) (by simp[ints];omega) (fun v9 h9 o9=>?_);refine DI (fun d9 hl9 hg9=>?_);have hr9:FF d9 v9 (ints (k.natAbs % 10::D)):=o9.rsl NA (by omega) hl9 hg9;obtain⟨a9,c9,rfl⟩:∃a9 c9,v9=.slice a9 (k.natAbs % 10::D).length c9:=by
    obtain⟨a9,c9,e9⟩:=o9.val;exact⟨a9,c9,by rw[e9];simp[ints]⟩
   (apply Ae;rfl);refine Au 0 [.bool (decide (m<0)),.slice a9 (k.natAbs % 10::D).length c9,vZ e] Z Z Z Z (Aca Z) Z Z<|Av<|Ar<|Ab Z<|WE Z Z (by omega) (by omega) (by omega)<|AL Z ?_;refine⟨k.tdiv 10,by omega,⟨Z,Z,Z,trivial⟩,hl.trans hl9,by omega,by omega,k.natAbs % 10::D,a9,c9,hnext _ Z,?_,hr9,Z⟩
   intro n hn;rcases Adj.1 hn with rfl|hn
   ·omega
   ·exact hlt n hn
def GP(l:List Nat):(ints l).length=l.length:=by simp[ints]
def ints_at(l:List Nat){i:Nat}(h:i<(ints l).length):(ints l)[i]=((l[i]'(by rw[GP] at h;exact h):Nat):Int):=by simp[ints]
def Sh:∀(n:Nat) (l:List Nat),l.length=n→(∀d∈l,d<10)→val l<10 ^ n:=by
 intro n;induction n with
 |zero=>intro l h _;rw[Acm h];decide
 |succ n ih=>
  intro l h hl
  have hne:l≠[]:=by intro h2;subst h2;simp at h
  rw[←List.dropLast_concat_getLast hne,Ng,Nat.pow_succ]
  have h1:=ih l.dropLast (by simp[h]) (fun d hd=>hl d (List.dropLast_subset l hd))
  have h2:=hl _ (List.getLast_mem hne)
  omega
def MH(P:Program)(f:FuncId):Prop:=∀{d}{neg:Bool}{dv}{D:List Nat}{e:Int},FF d dv (ints D)→(∀n∈D,n<10)→D.length≤1000000→ -1000000000≤e→e≤1000000000→
 AO P f [.agg [.bool neg,dv,vZ e].toArray] d (.tuple #[.agg [vZ (Eh neg D e).1,vZ (Eh neg D e).2.1].toArray,vZ (Eh neg D e).2.2])
def Ki:Bo:=⟨91,[(.cell 2 (some 2)),(.tmp 3)],(sR (o1 1 (.box 0)<|o1 2 (.alo (.agg #[(vZ 0),(vZ 0)]))<|o1 3 (.mv z0) .done) (.seq (.block 0 (.loop (.seq (sR (oj 6 1 1<|ol 7 6<|oL 8 7<|ob 9 .gtr 8 z0<|om 10 9<|oT 11 10 (.fld 1 1)<|oT 12 10 (.ld none 11)<|oT 13 10 (.idx 1 12 z0)<|oT 14 10 (.ld none 13)<|oT 15 10 (.bin .eql 14 z0)<|gP 16 10 15 .done) (.cond 16 .skip (.exit 0))) (.block 1 (rG (oj 17 1 1<|ol 18 17<|o1 19 (.sl 1 18 (some z1) none none)<|oj 20 1 1<|o0 (.st 1 20 19) .done)))))) (.seq (.block 2 (.loop (.seq (sR (oj 21 1 1<|ol 22 21<|oL 23 22<|ob 24 .gtr 23 z0<|om 25 24<|oT 26 25 (.fld 1 1)<|oT 27 25 (.ld none 26)<|oT 28 25 (.fld 1 1)<|oT 29 25 (.ld none 28)<|oT 30 25 (.len 29)<|oT 31 25 (.bin .sub 30 z1)<|oT 32 25 (.idx 1 27 31)<|oT 33 25 (.ld none 32)<|oT 34 25 (.bin .eql 33 z0)<|gP 35 25 34 .done) (.cond 35 .skip (.exit 2))) (.block 3 (sR (oj 36 1 1<|ol 37 36<|oj 38 1 1<|ol 39 38<|oL 40 39<|ob 41 .sub 40 z1<|o1 42 (.sl 1 37 none (some 41) none)<|oj 43 1 1<|o0 (.st 1 43 42) .done) (rG (oj 44 2 1<|ol 45 44<|ob 46 .add 45 z1<|oj 47 2 1<|o0 (.st 1 47 46) .done))))))) (.seq (sR (oj 48 1 1<|ol 49 48<|oL 50 49<|ob 51 .eql 50 z0 .done) (.cond 51 (sR (o1 52 (.bld [(0,1),(1,1)] [(vZ 0),(vZ 0)] [])<|o0 (.st 2 2 52)<|o1 3 (.mv z0) .done) .ret) .skip)) (.seq (sR (oj 53 1 1<|ol 54 53<|oL 55 54<|ob 56 .gtr 55 (kZ 18)<|om 57 56<|oF 58 57 (.fld 2 1)<|oF 59 57 (.ld none 58)<|oF 60 57 (.bin .lss 59 (kZ (-64)))<|o1 61 (.pick 57 (.const (.bool true)) 60)<|om 62 61<|oF 63 62 (.fld 2 1)<|oF 64 62 (.ld none 63)<|oF 65 62 (.bin .gtr 64 (kZ 64))<|o1 66 (.pick 62 (.const (.bool true)) 65) .done) (.cond 66 (sR (o1 67 (.bld [(0,1),(1,1)] [(vZ 0),(vZ 0)] [])<|o0 (.st 2 2 67)<|o1 3 (.mv (kZ 11)) .done) .ret) .skip)) (sR (o1 4 (.mv z0) .done) (.seq (sR (o1 5 (.mv z0) .done) (.block 4 (.loop (.seq (sR (om 68 5<|oj 69 1 1<|ol 70 69<|oL 71 70<|ob 72 .lss 68 71 .done) (.cond 72 .skip (.exit 4))) (.seq (.block 5 (rG (om 75 4<|ob 76 .mul 75 (kZ 10)<|oj 77 1 1<|ol 78 77<|om 79 5<|oI 80 1 78 79<|ol 81 80<|ob 82 .add 76 81<|om 4 82 .done))) (rG (om 73 5<|ob 74 .add 73 z1<|om 5 74 .done))))))) (.seq (sR (oj 83 0 1<|ol 84 83 .done) (.cond 84 (rG (om 85 4<|o1 86 (.un .neg 85)<|om 4 86 .done)) .skip)) (sR (om 87 4<|oj 88 2 1<|ol 89 88<|o1 90 (.bld [(0,1),(1,1)] [(vZ 0),(vZ 0)] [(0,87),(1,89)])<|o0 (.st 2 2 90)<|o1 3 (.mv z0) .done) .ret)))))))))⟩
set_option maxHeartbeats 1000000 in
def Xp{P f}(hd:dec P f=some Ki):MH P f:=by
 intro d neg dv D e hv hlt hDl he1 he2;obtain⟨a0,c0,rfl⟩:=RSl.val hv;rw[GP] at hv;refine AO.of' hd (Aca Z) ?_;obtain⟨res,hres⟩:∃r,r=Eh neg D e:=⟨_,Z⟩
 rw[←hres,GP];show gwp P _ _ _ _ _;apply Ax;apply Ar;refine Bg (l:=[.bool neg,.slice a0 D.length c0,vZ e]) Z (fun b1 T1=>?_);(refine BV (fun _ _=>AL Z ?_));rename_i b2 T2;refine CJ (fun ρ d' L'=>d'=d∧AZ ρ [(1,pZ b1),(2,pZ b2)]∧∃(D':List Nat) (a:Option Addr) (c:Nat),D'=lead D∧(∀n∈D',n<10)∧D'.length≤D.length∧FF d (.slice a D'.length c) (ints D')∧L'=[bx b2 T2 [vZ 0,vZ 0],bx b1 T1 [.bool neg,.slice a D'.length c,vZ e]]) ?_ ?_;apply Am;refine BP (α:=List Nat) (fun _=>[(1,pZ b1),(2,pZ b2)])
  (fun D' d' L'=>d'=d∧lead D'=lead D∧(∀n∈D',n<10)∧D'.length≤D.length∧∃a c,FF d (.slice a D'.length c) (ints D')∧L'=[bx b2 T2 [vZ 0,vZ 0],bx b1 T1 [.bool neg,.slice a D'.length c,vZ e]])
  (fun D'=>D'.length) D ⟨Z,Z,trivial⟩ ⟨Z,Z,hlt,Ack _,a0,c0,hv,Z⟩ ?_
 clear hv hlt;rintro D1 ρ d' L' ⟨hdd,hlead,hlt,hl1,a,c,hr,hL⟩;subst hdd;subst hL;have hil:=GP D1;have exit:lead D1=D1→∀(x0:List Nat×Int),x0=(D1,e)→True:=fun _ _ _=>trivial;by_cases hgo:∃l,D1=0::l
 ·obtain⟨l,rfl⟩:=hgo;have h0:(ints (0::l))[0]'(by simp[ints])=0:=Z;have hp:0<(0::l).length:=by simp
  (refine Ap<|Ae Z<|Al Z (An 1 Z Z)<|AK Z<|AS Z Z<|Ac Z<|AA Z<|Aa Z<|Ae Z<|Aa Z<|Al Z (An 1 Z Z)<|Aa Z<|A2 (m:=0) (sz:=1) (R:=EU) (by rfl) (by assumption) (by rfl) Z (by omega) ?_;rintro _ _ _ _ _ ⟨rfl,_,_⟩;refine Aa Z<|Al Z (BQ (by assumption) Z)<|Aa Z<|Ai Z Z<|Ah Z Z<|AE Z<|Ay<|Am<|Ar<|Ae Z<|Al Z (An 1 Z Z) ?_);refine DN (n:=1) Z hr Z Z (by simp[ints]) (fun v1 hv1=>?_);obtain⟨a1,c1,rfl⟩:∃a1 c1,v1=.slice a1 l.length c1:=by
   obtain⟨a1,c1,e1⟩:=RSl.val hv1;exact⟨a1,c1,by rw[e1];simp[ints]⟩
  (apply Ae;rfl);refine Au 1 [.bool neg,.slice a1 l.length c1,vZ e] Z Z Z Z (Aca Z) Z Z ?_;(apply Av);exact⟨l,by simp,⟨Z,Z,trivial⟩,Z,hlead,fun n hn=>hlt n (Aci _ hn),by simp at hl1;omega,a1,c1,hv1,Z⟩
 ·have hlead1:lead D1=D1:=by
   cases D1 with
   |nil=>rfl
   |cons x l=>
    cases x with
    |zero=>exact absurd ⟨l,Z⟩ hgo
    |succ x=>rfl
  cases D1 with
  |nil=>
   have h00:([]:List Nat).length=0:=Z
   (refine Ap<|Ae Z<|Al Z (An 1 Z Z)<|AK Z<|AS Z Z<|Ac Z<|Aw Z<|Aq Z Z<|Aq Z Z<|AF Z<|Af Z Z<|EX Z<|A6 ?_)
   exact⟨Z,⟨Z,Z,trivial⟩,[],a,c,hlead,hlt,hl1,hr,Z⟩
  |cons x l=>
   have h0:¬(ints (x::l))[0]'(by simp[ints])=0:=by
    rw[ints_at];intro h;have h:(x:Int)=0:=h;exact hgo ⟨l,by rw[show x=0 by omega]⟩
   have hp:0<(x::l).length:=by simp
   (refine Ap<|Ae Z<|Al Z (An 1 Z Z)<|AK Z<|AS Z Z<|Ac Z<|AA Z<|Aa Z<|Ae Z<|Aa Z<|Al Z (An 1 Z Z)<|Aa Z<|A2 (m:=0) (sz:=1) (R:=EU) (by rfl) (by assumption) (by rfl) Z (by omega) ?_;rintro _ _ _ _ _ ⟨rfl,_,_⟩;refine Aa Z<|Al Z (BQ (by assumption) Z)<|Aa Z<|Ai Z Z<|Ah Z Z<|BM Z<|A6 ?_)
   exact⟨Z,⟨Z,Z,trivial⟩,x::l,a,c,by rw[←hlead,hlead1],hlt,hl1,hr,Z⟩
 rintro ρ d' L' ⟨hdd,hsl,D1,a1,c1,hD1,hlt1,hl1,hr1,hL⟩;subst hdd;subst hL;refine A4 _ hsl ?_;clear hv hlt hsl;refine CJ (fun ρ d2 L'=>d2=d'∧AZ ρ [(1,pZ b1),(2,pZ b2)]∧∃(D':List Nat) (e':Int) (a:Option Addr) (c:Nat),(D',e')=DV (lead D).length (lead D) e∧(∀n∈D',n<10)∧D'.length≤D.length∧e≤e'∧e'≤e+D.length∧FF d' (.slice a D'.length c) (ints D')∧L'=[bx b2 T2 [vZ 0,vZ 0],bx b1 T1 [.bool neg,.slice a D'.length c,vZ e']]) ?_ ?_
 ·apply Am;refine BP (α:=List Nat×Int) (fun _=>[(1,pZ b1),(2,pZ b2)])
   (fun x d2 L'=>d2=d'∧DV x.1.length x.1 x.2=DV (lead D).length (lead D) e∧(∀n∈x.1,n<10)∧x.1.length≤D.length∧e≤x.2∧x.2≤e+(D.length - x.1.length:Int)∧∃a c,FF d' (.slice a x.1.length c) (ints x.1)∧L'=[bx b2 T2 [vZ 0,vZ 0],bx b1 T1 [.bool neg,.slice a x.1.length c,vZ x.2]])
   (fun x=>x.1.length) (D1,e) ⟨Z,Z,trivial⟩ ⟨Z,by rw[hD1],hlt1,hl1,Afv e,by simp only;omega,a1,c1,hr1,Z⟩ ?_
  clear hr1 hlt1;rintro⟨D2,e2⟩ ρ d2 L' ⟨hdd,htr,hlt2,hl2,he3,he4,a,c,hr,hL⟩;simp only at htr hlt2 hl2 he3 he4 hr hL;subst hdd;subst hL;have hil:=GP D2;by_cases hgo:D2.getLast?=some 0
  ·have hne:D2≠[]:=by intro h;subst h;simp at hgo
   have hpos:0<D2.length:=Adk.2 hne;have hlast:D2[D2.length - 1]'(by omega)=0:=by
    rw[List.getLast?_eq_getElem?,Acf (by omega)] at hgo;simpa using hgo
   have h0:(ints D2)[D2.length - 1]'(by omega)=0:=by rw[ints_at,hlast];rfl
   refine Ap<|Ae Z<|Al Z (An 1 Z Z)<|AK Z<|AS Z Z<|Ac Z<|AA Z<|Aa Z<|Ae Z<|Aa Z<|Al Z (An 1 Z Z)<|Aa Z<|Ae Z<|Aa Z<|Al Z (An 1 Z Z)<|Aa Z<|AK Z<|Aa Z<|DQ Z Z<|Aa Z<|A2 (sz:=1) (R:=EU) (m:=D2.length - 1) (by rfl) hr (by rfl) (by omega) (by omega) ?_;rintro _ _ _ _ _ ⟨rfl,_,_⟩;refine Aa Z<|Al Z (BQ (by assumption) Z)<|Aa Z<|Ai Z Z<|Ah Z Z<|AE Z<|Ay<|Am<|Aj<|Ae Z<|Al Z (An 1 Z Z)<|Ae Z<|Al Z (An 1 Z Z)<|AK Z<|DQ Z Z<|F8 (n:=D2.length - 1) Z hr Z (by omega) (by omega) (fun v1 hv1=>?_);have e1:(ints D2).take (D2.length - 1)=ints D2.dropLast:=by rw[ints,ints,←Agj,List.dropLast_eq_take]
   rw[e1] at hv1;obtain⟨a3,c3,rfl⟩:∃a3 c3,v1=.slice a3 D2.dropLast.length c3:=by
    obtain⟨a3,c3,e1⟩:=RSl.val hv1;exact⟨a3,c3,by rw[e1,GP]⟩
   (apply Ae;rfl);refine Au 1 [.bool neg,.slice a3 D2.dropLast.length c3,vZ e2] Z Z Z Z (Aca Z) Z Z<|Av<|Ar<|Ae Z<|Al Z (An 1 Z Z)<|AY Z Z<|Ae Z<|Au 1 [.bool neg,.slice a3 D2.dropLast.length c3,vZ (e2+1)] Z Z Z Z (Aca Z) Z Z ?_;(apply Av);have hdl:D2.dropLast.length=D2.length - 1:=by simp
   refine⟨(D2.dropLast,e2+1),by simp only;omega,⟨Z,Z,trivial⟩,Z,?_,fun n hn=>hlt2 n (List.dropLast_subset D2 hn),by simp only;omega,by simp only;omega,by simp only;omega,a3,c3,hv1,Z⟩
   simp only;rw[←htr,hdl];obtain⟨f',hf⟩:∃f',D2.length=f'+1:=⟨D2.length - 1,by omega⟩
   rw[hf,Afo,DV,if_pos hgo]
  ·have hend:(D2,e2)=DV (lead D).length (lead D) e:=by
    rw[←htr];cases hf:D2.length with
    |zero=>rfl
    |succ f'=>rw[DV,if_neg hgo]
   by_cases hne:D2.length=0
   ·(refine Ap<|Ae Z<|Al Z (An 1 Z Z)<|AK Z<|AS Z Z<|Ac Z<|Aw Z<|Aq Z Z<|Aq Z Z<|Aq Z Z<|Aq Z Z<|AF Z<|Af Z Z<|EX Z<|A6 ?_);exact⟨Z,⟨Z,Z,trivial⟩,D2,e2,a,c,hend,hlt2,hl2,he3,by omega,hr,Z⟩
   ·have h0:¬(ints D2)[D2.length - 1]'(by omega)=0:=by
     rw[ints_at];intro h;apply hgo;rw[List.getLast?_eq_getElem?,Acf (by omega)];congr 1;omega
    refine Ap<|Ae Z<|Al Z (An 1 Z Z)<|AK Z<|AS Z Z<|Ac Z<|AA Z<|Aa Z<|Ae Z<|Aa Z<|Al Z (An 1 Z Z)<|Aa Z<|Ae Z<|Aa Z<|Al Z (An 1 Z Z)<|Aa Z<|AK Z<|Aa Z<|DQ Z Z<|Aa Z<|A2 (sz:=1) (R:=EU) (m:=D2.length - 1) (by rfl) hr (by rfl) (by omega) (by omega) ?_;rintro _ _ _ _ _ ⟨rfl,_,_⟩;(refine Aa Z<|Al Z (BQ (by assumption) Z)<|Aa Z<|Ai Z Z<|Ah Z Z<|BM Z<|A6 ?_);exact⟨Z,⟨Z,Z,trivial⟩,D2,e2,a,c,hend,hlt2,hl2,he3,by omega,hr,Z⟩
 rintro ρ d2 L' ⟨hdd,hsl,D2,e2,a2,c2,hend,hlt2,hl2,he3,he4,hr2,hL⟩;subst hdd;subst hL;refine A4 _ hsl ?_;clear hr1 hlt1 hsl;have hil:=GP D2;have hsf:Eh neg D e=if D2=[] then(0,0,0) else if D2.length>18∨e2< -64∨e2>64 then(0,0,11) else(if neg then -(val D2:Int) else(val D2:Int),e2,0):=by
  simp only[Eh,←hend]
 by_cases h0:D2.length=0
 ·have hnil:=Acm h0;rw[if_pos hnil] at hsf;rw[hres,hsf];refine Ap<|Ae Z<|Al Z (An 1 Z Z)<|AK Z<|Ai Z Z<|AE Z<|Aj<|B2 Z<|Au 0 [vZ 0,vZ 0] Z Z Z Z (Aca Z) Z Z<|AM Z<|Ba [.agg [vZ 0,vZ 0].toArray,vZ 0] ⟨Bc 0 Z Z Z,Ea Z,trivial⟩ (Acb _) ⟨Z,Z⟩
 have hnil:¬D2=[]:=by intro h;rw[h] at h0;exact h0 Z
 rw[if_neg hnil] at hsf;by_cases hbad:D2.length>18∨e2< -64∨e2>64
 ·rw[if_pos hbad] at hsf;rw[hres,hsf];by_cases hb1:D2.length>18
  ·refine Ap<|Ae Z<|Al Z (An 1 Z Z)<|AK Z<|Ai Z Z<|AJ Z<|Ap<|Ae Z<|Al Z (An 1 Z Z)<|AK Z<|AS Z Z<|Ac Z<|AA Z<|Aq Z Z<|AF Z<|Ah Z Z<|Ac Z<|Aq Z Z<|AF Z<|Ah Z Z<|BK Z<|Aj<|B2 Z<|Au 0 [vZ 0,vZ 0] Z Z Z Z (Aca Z) Z Z<|AM Z<|Ba [.agg [vZ 0,vZ 0].toArray,vZ 11] ⟨Bc 0 Z Z Z,Ea Z,trivial⟩ (Acb _) ⟨Z,Z⟩
  by_cases hb2:e2< -64
  ·refine Ap<|Ae Z<|Al Z (An 1 Z Z)<|AK Z<|Ai Z Z<|AJ Z<|Ap<|Ae Z<|Al Z (An 1 Z Z)<|AK Z<|AS Z Z<|Ac Z<|Aw Z<|Aa Z<|Ae Z<|Aa Z<|Al Z (An 1 Z Z)<|Aa Z<|As Z Z<|Af Z Z<|Ac Z<|AA Z<|Aq Z Z<|AF Z<|Ah Z Z<|BK Z<|Aj<|B2 Z<|Au 0 [vZ 0,vZ 0] Z Z Z Z (Aca Z) Z Z<|AM Z<|Ba [.agg [vZ 0,vZ 0].toArray,vZ 11] ⟨Bc 0 Z Z Z,Ea Z,trivial⟩ (Acb _) ⟨Z,Z⟩
  ·have hb3:e2>64:=by omega
   refine Ap<|Ae Z<|Al Z (An 1 Z Z)<|AK Z<|Ai Z Z<|AJ Z<|Ap<|Ae Z<|Al Z (An 1 Z Z)<|AK Z<|AS Z Z<|Ac Z<|Aw Z<|Aa Z<|Ae Z<|Aa Z<|Al Z (An 1 Z Z)<|Aa Z<|As Z Z<|Af Z Z<|Ac Z<|Aw Z<|Aa Z<|Ae Z<|Aa Z<|Al Z (An 1 Z Z)<|Aa Z<|AS Z Z<|Af Z Z<|AE Z<|Aj<|B2 Z<|Au 0 [vZ 0,vZ 0] Z Z Z Z (Aca Z) Z Z<|AM Z<|Ba [.agg [vZ 0,vZ 0].toArray,vZ 11] ⟨Bc 0 Z Z Z,Ea Z,trivial⟩ (Acb _) ⟨Z,Z⟩
 rw[if_neg hbad] at hsf;have hb1:¬D2.length>18:=fun h=>hbad (.inl h);have hb2:¬e2< -64:=fun h=>hbad (.inr (.inl h));have hb3:¬e2>64:=fun h=>hbad (.inr (.inr h));have hvl:=Sh D2.length D2 Z hlt2;have hvl2:∀i,i≤D2.length→val (D2.take i)<1000000000000000000:=fun i hi=>by
  have h1:=Sh i (D2.take i) (by simp;omega) (fun n hn=>hlt2 n (Adg hn));have h2:10 ^ i≤10 ^ 18:=Agd (by omega) (by omega);have h3:(10:Nat)^ 18=1000000000000000000:=by decide
  omega
 refine Ap<|Ae Z<|Al Z (An 1 Z Z)<|AK Z<|Ai Z Z<|AJ Z<|Ap<|Ae Z<|Al Z (An 1 Z Z)<|AK Z<|AS Z Z<|Ac Z<|Aw Z<|Aa Z<|Ae Z<|Aa Z<|Al Z (An 1 Z Z)<|Aa Z<|As Z Z<|Af Z Z<|Ac Z<|Aw Z<|Aa Z<|Ae Z<|Aa Z<|Al Z (An 1 Z Z)<|Aa Z<|AS Z Z<|Af Z Z<|AJ Z<|AD Z<|Bw<|AL Z<|Am<|DJ (α:=Nat) (fun i=>[(1,pZ b1),(2,pZ b2),(4,vZ (val (D2.take i):Nat)),(5,vZ i)]) (fun _=>[bx b2 T2 [vZ 0,vZ 0],bx b1 T1 [.bool neg,.slice a2 D2.length c2,vZ e2]])
  (fun i=>i≤D2.length) (fun i=>D2.length - i) 0 ⟨Z,Z,Z,Z,trivial⟩ Z (Acu _) ?_
 intro i ρ hi;have hvi:=hvl2 i hi;by_cases hc:i<D2.length
 ·have hvi3:val (D2.take i)<100000000000000000:=by
   have h1:=Sh i (D2.take i) (by simp;omega) (fun n hn=>hlt2 n (Adg hn));have h2:10 ^ i≤10 ^ 17:=Agd (by omega) (by omega);have h3:(10:Nat)^ 17=100000000000000000:=by decide
   omega
  have hdig:(ints D2)[i]'(by omega)=((D2[i]:Nat):Int):=ints_at D2 (by omega);have hd10:=hlt2 _ (Acq hc);have hd10':0≤(ints D2)[i]'(by omega)∧(ints D2)[i]'(by omega)≤9:=by rw[hdig];omega
  (refine Ap<|Ab Z<|Ae Z<|Al Z (An 1 Z Z)<|AK Z<|As Z Z<|AE Z<|Ay<|Ax<|Am<|Ar<|Ab Z<|Me Z Z (by omega) (by omega)<|Ae Z<|Al Z (An 1 Z Z)<|Ab Z<|A2 (sz:=1) (R:=EU) (by rfl) (by assumption) (by rfl) Z (by omega) ?_;rintro _ _ _ _ _ ⟨rfl,_,_⟩;refine Al Z (BQ (by assumption) Z)<|AY Z Z<|AL Z<|Ar<|Ab Z<|AY Z Z<|AL Z ?_);refine⟨i+1,by omega,⟨Z,Z,int_eq ?_,int_eq (by omega),trivial⟩,Z,Z,hc⟩
  rw[Acx hc,Ng,hdig];omega
 ·obtain rfl:i=D2.length:=by omega
  rw[Aed] at hvi⊢;cases neg with
  |true=>
   simp only[if_true] at hsf
   rw[hres,hsf]
   (refine Ap<|Ab Z<|Ae Z<|Al Z (An 1 Z Z)<|AK Z<|As Z Z<|BM Z<|A6<|Ap<|Ae Z<|Al Z (An 1 Z Z)<|BK Z<|Ar<|Ab Z<|Ik Z (by omega) (by omega)<|Bt Z<|Ab Z<|Ae Z<|Al Z (An 1 Z Z)<|B2 Z ?_)
   refine Au 0 [vZ (-(val D2:Int)),vZ e2] Z Z Z Z (Aca Z) Z Z ?_
   (refine AM Z ?_)
   exact Ba [.agg [vZ (-(val D2:Int)),vZ e2].toArray,vZ 0] ⟨Bc 0 Z Z Z,Ea Z,trivial⟩ (Acb _) ⟨Z,Z⟩
  |false=>
   simp only[Adl,if_false] at hsf
   rw[hres,hsf]
   (refine Ap<|Ab Z<|Ae Z<|Al Z (An 1 Z Z)<|AK Z<|As Z Z<|BM Z<|A6<|Ap<|Ae Z<|Al Z (An 1 Z Z)<|Bh Z<|AD Z<|Ae Z<|Al Z (An 1 Z Z)<|B2 Z ?_)
   refine Au 0 [vZ (val D2:Int),vZ e2] Z Z Z Z (Aca Z) Z Z ?_
   (refine AM Z ?_)
   exact Ba [.agg [vZ (val D2:Int),vZ e2].toArray,vZ 0] ⟨Bc 0 Z Z Z,Ea Z,trivial⟩ (Acb _) ⟨Z,Z⟩
def KF(a0 a1:Nat):Bo:=⟨26,[(.tmp 2)],(sR (o1 1 (.box 0)<|o1 2 (.mv (.const (.bool false))) .done) (.seq (sR (oj 5 1 1<|ol 6 5<|ob 7 .lss 6 (kZ (-64))<|om 8 7<|oF 9 8 (.fld 1 1)<|oF 10 8 (.ld none 9)<|oF 11 8 (.bin .gtr 10 (kZ 64))<|o1 12 (.pick 8 (.const (.bool true)) 11) .done) (.cond 12 (sR (o1 2 (.mv (.const (.bool false))) .done) .ret) .skip)) (sR (o1 14 (.ld (some 2) 1)<|oc 15 a0 [14]<|oc 16 a1 [15]<|om 13 16<|oe 17 13 0<|oe 18 13 1<|o1 3 (.alo (.agg #[(vZ 0),(vZ 0)]))<|o0 (.st 2 3 17)<|om 4 18 .done) (sR (om 19 4<|ob 20 .eql 19 z0<|om 21 20<|oT 22 21 (.ld (some 2) 3)<|oT 23 21 (.ld (some 2) 1)<|oT 24 21 (.eqc false [(0,0),(0,1)] 22 23)<|gP 25 21 24<|om 2 25 .done) .ret))))⟩
set_option maxHeartbeats 1000000 in
def Yu{T:Ad→Prop}{P f f1 f2}(hd:dec P f=some (KF f1 f2))(h1:Ol P f1)(h2:MH P f2):Jg T P f:=by
 intro d m e ht hm he;refine AO.of' hd (Aca Z) ?_;show gwp P _ _ _ _ _;apply Ax;apply Ar;refine Bg (l:=[vZ m,vZ e]) Z (fun b1 T1=>?_);have hlaw:=fun h1 h2=>S1 m e h1 h2;by_cases h3:e< -64
 ·(refine Ao Z<|Ap<|AI Z Z Z<|As Z Z<|Ac Z<|AA Z<|Aq Z Z<|AF Z<|Ah Z Z<|BK Z<|Aj<|Bk Z ?_);apply BF;rfl;rw[B4];split
  ·rw[eq_comm];exact decide_eq_false (by omega)
  ·rw[eq_comm];exact decide_eq_false (by omega)
 by_cases h4:e>64
 ·(refine Ao Z<|Ap<|AI Z Z Z<|As Z Z<|Ac Z<|Aw Z<|Aa Z<|Ae Z<|Aa Z<|c_l Z Z Z<|Aa Z<|AS Z Z<|Af Z Z<|AE Z<|Aj<|Bk Z ?_);apply BF;rfl;rw[B4];split
  ·rw[eq_comm];exact decide_eq_false (by omega)
  ·rw[eq_comm];exact decide_eq_false (by omega)
 have hlaw:=hlaw (by omega) (by omega);have hI:=hm;obtain⟨hm1,hm2⟩:=hm;have h19:=(F4 m.natAbs 19).2 (by
  have:(10:Nat)^ 19=10000000000000000000:=by decide
  omega)
 refine Ao Z<|Ap<|AI Z Z Z<|As Z Z<|Ac Z<|Aw Z<|Aa Z<|Ae Z<|Aa Z<|c_l Z Z Z<|Aa Z<|AS Z Z<|Af Z Z<|AJ Z<|Aj<|AP 0 Z Z Z<|Bi Z (h1 hI he) (fun r d1 L1 hl1 ⟨hL,dv,hr,hdv⟩=>?_);subst hr;subst hL;refine AG Z (h2 hdv (ON _) (by omega) (by omega) (by omega)) ?_;generalize Eh (decide (m<0)) (B1 m.natAbs) e=p at hlaw;obtain⟨m',e',er⟩:=p;simp only at hlaw;(refine Bm Z<|Bx Z Z Z Z<|BV (fun _ _=>?_));rename_i b3 T3;refine Au 0 [vZ m',vZ e'] Z Z Z Z (Aca Z) Z Z ?_;by_cases h5:er=0
 ·subst h5;(refine Bt Z<|Ab Z<|Ai Z Z<|Ac Z<|Ey Z (by with_reducible rfl)<|Aa Z<|AP 0 Z Z Z<|Aa Z<|AP 1 Z Z Z<|Aa Z<|D7 Z Z<|Ah Z Z<|Bk Z ?_);apply BF;rfl;rw[B4,Afu];simp only[true_and] at hlaw;simp only[Bool.false_xor,Ace,decide_eq_true_eq];rw[hlaw];split<;>simp
 ·(refine Bt Z<|Ab Z<|Ai Z Z<|Ac Z<|Aw Z<|Aq Z Z<|AF Z<|Af Z Z<|Bk Z ?_);apply BF;rfl;rw[B4,Afu];simp only[h5,false_and,false_iff] at hlaw;split at hlaw<;>rename_i h6
  ·simp[h6];exact hlaw
  ·simp only[if_neg h6,Adl,false_iff,decide_eq_true_eq];exact hlaw
end Go.Gk.Val
end
section
namespace Go.Gk.Val
open Go Go.Gk
attribute [local irreducible] gwp gws
def LS{v x:V}(h:x∈v.list):Bj x+1≤Bj v:=by
 obtain⟨n,hn⟩:∃n,Bj v=n+1:=⟨Bj v - 1,by have:=Fs v;omega⟩
 have:=(EL (v:=v) (n:=n)).1 (by omega) x h;omega
def Hq(P:Program)(f:FuncId):Prop:=∀(v:V) {d cs},Az d cs v→Bj v≤1000000000→AO P f [.agg cs.toArray] d (vZ (Bj v))
def SL(l:List V)(x:V):DS (l++[x])=max (DS l) (Bj x):=by
 induction l with
 |nil=>simp[DS]
 |cons a l ih=>simp only[List.cons_append,DS,ih];omega
def S3(l:List V)(i:Nat):DS (l.take i)≤DS l:=by
 rw[HY];intro x hx;exact(HY.1 (Ack _)) x (Adg hx)
def P1(v:V):Bj v=DS v.list+1:=by obtain⟨k,m,e,t,l,ks⟩:=v;rfl
def KE(a0:Nat):Bo:=⟨25,[(.tmp 2)],(sR (o1 1 (.box 0)<|o1 2 (.mv z0) .done) (sR (o1 3 (.mv z0) .done) (.seq (sR (o1 4 (.mv z0) .done) (.block 0 (.loop (.seq (sR (om 6 4<|oj 7 4 1<|ol 8 7<|oL 9 8<|ob 10 .lss 6 9 .done) (.cond 10 .skip (.exit 0))) (.seq (.block 1 (sR (oj 13 4 1<|ol 14 13<|om 15 4<|oI 16 6 14 15<|o1 17 (.ld (some 6) 16)<|oc 18 a0 [17]<|om 5 18 .done) (sR (om 19 5<|om 20 3<|ob 21 .gtr 19 20 .done) (.cond 21 (rG (om 22 5<|om 3 22 .done)) .skip)))) (rG (om 11 4<|ob 12 .add 11 z1<|om 4 12 .done))))))) (sR (om 23 3<|ob 24 .add z1 23<|om 2 24 .done) .ret))))⟩
def Vo{P f}(hd:dec P f=some (KE f)):Hq P f:=by
 intro v;induction v using V.ind with
 |h v ih=>
 intro d cs hv hb;refine AO.of' hd (Aca Z) ?_;have he:=P1 v;obtain⟨lv,kv,rfl,ik,im,ie,it,hl,hks⟩:=hv.open;obtain⟨la,lc,rfl⟩:=RSl.val hl;have hll:=RSl.BW hl;have hl':RSl 6 Az d (.slice la v.list.length lc) v.list:=hl;show gwp P _ _ _ _ _;apply Ax;apply Ar;refine Bg (l:=[vZ v.kind,vZ v.m,vZ v.e,Ag v.text,.slice la v.list.length lc,kv]) Z (fun b1 T1=>?_);refine Bt Z<|A1 Z<|AL Z<|Am<|DJ (α:=Nat) (fun i=>[(1,pZ b1),(3,vZ (DS (v.list.take i))),(4,vZ i)]) (fun _=>[bx b1 T1 [vZ v.kind,vZ v.m,vZ v.e,Ag v.text,.slice la v.list.length lc,kv]])
  (fun i=>i≤v.list.length) (fun i=>v.list.length - i) 0 ⟨Z,int_eq (by simp[DS]),Z,trivial⟩ Z (Acu _) ?_
 intro i ρ hi;have hti:=S3 v.list i;by_cases hc:i<v.list.length
 ·have hm:=LS (Acq hc);(refine Ap<|Ab Z<|AI Z Z Z<|AK Z<|As Z Z<|AE Z<|Ay<|Ax<|Am<|Aj<|AI Z Z Z<|Ab Z<|A2 (sz:=6) (R:=Az) (by rfl) (by assumption) (by rfl) Z (by omega) ?_;rintro _ _ _ _ _ _;apply CT;rfl;assumption;assumption);rename_i cs hcs hD hR;refine AG Z (ih _ (Acq hc) hR (by omega)) ?_;have hsn:DS (v.list.take (i+1))=max (DS (v.list.take i)) (Bj v.list[i]):=by rw[Acx hc,SL]
  by_cases hg:DS (v.list.take i)<Bj v.list[i]
  ·(refine Bt Z<|Ab Z<|Ab Z<|AS Z Z<|AE Z<|Ar<|Ab Z<|AL Z<|Ar<|Ab Z<|AY Z Z<|AL Z ?_);exact⟨i+1,by omega,⟨Z,int_eq (by omega),int_eq (by omega),trivial⟩,Z,Z,hc⟩
  ·(refine Bt Z<|Ab Z<|Ab Z<|AS Z Z<|AJ Z<|Ar<|Ab Z<|AY Z Z<|AL Z ?_);exact⟨i+1,by omega,⟨Z,int_eq (by omega),int_eq (by omega),trivial⟩,Z,Z,hc⟩
 ·obtain rfl:i=v.list.length:=by omega
  rw[Aed] at hti⊢;(refine Ap<|Ab Z<|AI Z Z Z<|AK Z<|As Z Z<|BM Z<|A6<|AD Z<|AY Z Z<|AM Z ?_);apply C7;rfl;omega
def Abj{v:V}(h:v.kind<0∨6<v.kind):Cz v=false:=by
 obtain⟨k,m,e,t,l,ks⟩:=v;rw[Cz,RG h];rfl
def IK(T:Ad→Prop)(P:Program)(f:FuncId):Prop:=∀{d cs}{v:V},T d→Az d cs v→AO P f [.agg cs.toArray] d (.bool (Cz v))
def LL(a0 a1:Nat):Bo:=⟨116,[(.tmp 2)],(sR (o1 1 (.box 0)<|o1 2 (.mv (.const (.bool false))) .done) (sR (oj 5 0 1<|ol 6 5<|o1 7 (.bld [(0,1),(1,2),(3,1),(4,1),(5,1)] [(vZ 0),(vZ 0),(vZ 0),(Ag []),nV,nV] [(0,6)])<|o1 3 (.alo (.agg #[(vZ 0),(vZ 0),(vZ 0),(Ag []),nV,nV]))<|o0 (.st 6 3 7) .done) (.seq (sR (oj 8 0 1<|ol 9 8 .done) (.block 0 (.seq (sR (ob 11 .eql 9 z0<|om 10 11 .done) (.cond 10 .skip (sR (ob 12 .eql 9 z1<|om 10 12 .done) (.cond 10 .skip (rG (ob 13 .eql 9 z2<|om 10 13 .done)))))) (.cond 10 .skip (sR (ob 15 .eql 9 (kZ 3)<|om 14 15 .done) (.cond 14 (rG (oj 16 1 1<|o1 17 (.ld (some 2) 16)<|oj 18 1 3<|o0 (.st 2 18 17) .done)) (sR (ob 20 .eql 9 (kZ 4)<|om 19 20 .done) (.cond 19 (rG (oj 21 3 1<|ol 22 21<|oj 23 3 3<|o0 (.st 1 23 22) .done)) (sR (ob 25 .eql 9 (kZ 5)<|om 24 25 .done) (.cond 24 (rG (oj 26 4 1<|ol 27 26<|oj 28 4 3<|o0 (.st 1 28 27) .done)) (sR (ob 30 .eql 9 (kZ 6)<|om 29 30 .done) (.cond 29 (sR (oj 31 4 1<|ol 32 31<|oj 33 4 3<|o0 (.st 1 33 32) .done) (sR (oj 34 5 1<|ol 35 34<|oj 36 5 3<|o0 (.st 1 36 35) .done) (sR (oj 37 5 1<|ol 38 37<|oL 39 38<|oj 40 4 1<|ol 41 40<|oL 42 41<|ob 43 .neq 39 42 .done) (.cond 43 (sR (o1 2 (.mv (.const (.bool false))) .done) .ret) .skip)))) (sR (o1 2 (.mv (.const (.bool false))) .done) .ret))))))))))))) (.seq (sR (o1 4 (.mv z0) .done) (.block 1 (.loop (.seq (sR (om 44 4<|oj 45 5 1<|ol 46 45<|oL 47 46<|ob 48 .lss 44 47 .done) (.cond 48 .skip (.exit 1))) (.seq (.block 2 (.seq (.reg true (p1 51 (.fld 5 1)<|pl 52 51<|pm 53 4<|p1 54 (.idx 1 52 53)<|pl 55 54<|oc 56 a0 [55]<|p1 57 (.un .not 56)<|pm 58 57 (.op true ⟨(some 59),(some (58,false)),(.mv 4)⟩ (.op true ⟨(some 60),(some (58,false)),(.bin .gtr 59 z0)⟩ (.op true ⟨(some 61),(some (58,false)),(.mv 60)⟩ (.op true ⟨(some 62),(some (61,true)),(.fld 5 1)⟩ (.op true ⟨(some 63),(some (61,true)),(.ld none 62)⟩ (.op true ⟨(some 64),(some (61,true)),(.mv 4)⟩ (.op true ⟨(some 65),(some (61,true)),(.bin .sub 64 z1)⟩ (.op true ⟨(some 66),(some (61,true)),(.idx 1 63 65)⟩ (.op true ⟨(some 67),(some (61,true)),(.ld none 66)⟩ (.op true ⟨(some 68),(some (61,true)),(.fld 5 1)⟩ (.op true ⟨(some 69),(some (61,true)),(.ld none 68)⟩ (.op true ⟨(some 70),(some (61,true)),(.mv 4)⟩ (.op true ⟨(some 71),(some (61,true)),(.idx 1 69 70)⟩ (.op true ⟨(some 72),(some (61,true)),(.ld none 71)⟩ (.op true ⟨(some 73),(some (61,true)),(.bin .geq 67 72)⟩ (.op true ⟨(some 74),(some (58,false)),(.pick 61 73 (.const (.bool false)))⟩ (p1 75 (.pick 58 (.const (.bool true)) 74) .done))))))))))))))))))) (.cond 75 (sR (o1 2 (.mv (.const (.bool false))) .done) .ret) .skip))) (rG (om 49 4<|ob 50 .add 49 z1<|om 4 50 .done))))))) (sR (oj 76 1 3<|o1 77 (.ld (some 2) 76)<|oj 78 1 1<|o1 79 (.ld (some 2) 78)<|o1 80 (.eqc false [(0,0),(0,1)] 77 79)<|om 81 80<|oT 82 81 (.fld 3 3)<|oT 83 81 (.ld none 82)<|oT 84 81 (.fld 3 1)<|oT 85 81 (.ld none 84)<|oT 86 81 (.bin .eql 83 85)<|gP 87 81 86<|om 88 87<|oT 89 88 (.fld 4 3)<|oT 90 88 (.ld none 89)<|oT 91 88 (.len 90)<|oT 92 88 (.fld 4 1)<|oT 93 88 (.ld none 92)<|oT 94 88 (.len 93)<|oT 95 88 (.bin .eql 91 94)<|gP 96 88 95<|om 97 96<|oT 98 97 (.fld 5 3)<|oT 99 97 (.ld none 98)<|oT 100 97 (.len 99)<|oT 101 97 (.fld 5 1)<|oT 102 97 (.ld none 101)<|oT 103 97 (.len 102)<|oT 104 97 (.bin .eql 100 103)<|gP 105 97 104<|om 106 105<|oT 107 106 (.fld 1 1)<|oT 108 106 (.ld (some 2) 107)<|oT 109 106 (.call a1 [108])<|gP 110 106 109<|om 111 110<|oT 112 111 (.fld 3 1)<|oT 113 111 (.ld none 112)<|oT 114 111 (.call a0 [113])<|gP 115 111 114<|om 2 115 .done) .ret)))))⟩
def Sz(T:Ad→Prop)(P:Program)(f:FuncId):Prop:=∀(v:V) {d cs},T d→Az d cs v→AO P f [.agg cs.toArray] d (.bool (Cf v))
def LP(a0 a1:Nat):Bo:=⟨20,[(.tmp 2)],(sR (o1 1 (.box 0)<|o1 2 (.mv (.const (.bool false))) .done) (.seq (sR (o1 3 (.mv z0) .done) (.block 0 (.loop (.seq (sR (om 4 3<|oj 5 4 1<|ol 6 5<|oL 7 6<|ob 8 .lss 4 7 .done) (.cond 8 .skip (.exit 0))) (.seq (.block 1 (sR (oj 11 4 1<|ol 12 11<|om 13 3<|oI 14 6 12 13<|o1 15 (.ld (some 6) 14)<|oc 16 a0 [15]<|o1 17 (.un .not 16) .done) (.cond 17 (sR (o1 2 (.mv (.const (.bool false))) .done) .ret) .skip))) (rG (om 9 3<|ob 10 .add 9 z1<|om 3 10 .done))))))) (sR (o1 18 (.ld (some 6) 1)<|oc 19 a1 [18]<|om 2 19 .done) .ret)))⟩
def ZB{T:Ad→Prop}{P f f1}(hd:dec P f=some (LP f f1))(h1:IK T P f1):Sz T P f:=by
 intro v;induction v using V.ind with
 |h v ih=>
 intro d cs ht hv;refine AO.of' hd (Aca Z) ?_;have he:=DZ v;have hv':=hv;obtain⟨lv,kv,rfl,ik,im,ie,it,hl,hks⟩:=hv'.open;obtain⟨la,lc,rfl⟩:=RSl.val hl;obtain⟨ka,kc,rfl⟩:=RSl.val hks;have hll:=RSl.BW hl;have hl':RSl 6 Az d (.slice la v.list.length lc) v.list:=hl;show gwp P _ _ _ _ _;apply Ax;apply Ar;refine Bg (l:=[vZ v.kind,vZ v.m,vZ v.e,Ag v.text,.slice la v.list.length lc,.slice ka v.keys.length kc]) Z (fun b1 T1=>?_);refine Ao Z<|Ap<|AL Z<|Am<|DJ (α:=Nat) (fun i=>[(1,pZ b1),(3,vZ i)]) (fun _=>[bx b1 T1 [vZ v.kind,vZ v.m,vZ v.e,Ag v.text,.slice la v.list.length lc,.slice ka v.keys.length kc]])
  (fun i=>i≤v.list.length∧(v.list.take i).all Cf=true) (fun i=>v.list.length - i) 0 ⟨Z,Z,trivial⟩ Z ⟨Acu _,by simp⟩ ?_
 rintro i ρ ⟨hi,hall⟩;by_cases hc:i<v.list.length
 ·(refine Ap<|Ab Z<|AI Z Z Z<|AK Z<|As Z Z<|AE Z<|Ay<|Ax<|Am<|Aj<|AI Z Z Z<|Ab Z<|A2 (sz:=6) (R:=Az) (by rfl) (by assumption) (by rfl) Z (by omega) ?_;rintro _ _ _ _ _ _;apply CT;rfl;assumption;assumption);rename_i cs hcs hD hR;refine AG Z (ih _ (Acq hc) ht hR) ?_;cases hm:Cf v.list[i] with
  |true=>
   (refine Bu Z<|Bh Z<|Ar<|Ab Z<|AY Z Z<|AL Z ?_)
   exact⟨i+1,by omega,⟨Z,int_eq (by omega),trivial⟩,Z,Z,hc,by rw[Acx hc,Age,hall];simp[hm]⟩
  |false=>
   (refine Bu Z<|BK Z<|Aj<|Bk Z ?_)
   apply BF;rfl
   rw[he,eq_comm,Bool.and_eq_false_iff]
   refine .inr ?_
   rw[←Aev,Acn]
   intro h;rw[h _ (Acq hc)] at hm;cases hm
 ·obtain rfl:i=v.list.length:=by omega
  rw[Aed] at hall;refine Ap<|Ab Z<|AI Z Z Z<|AK Z<|As Z Z<|BM Z<|A6<|Aj<|AP 0 Z Z Z<|AG Z (h1 ht hv)<|Bk Z ?_;apply BF;rfl;rw[he,hall,Bool.and_true]
def Hu(T:Ad→Prop)(P:Program)(f:FuncId):Prop:=∀{d cs}{v:V},T d→Az d cs v→Bj v≤1000000000→AO P f [.agg cs.toArray] d (vZ (Bf v))
def Kh(a0 a1:Nat):Bo:=⟨9,[(.tmp 2)],(sR (o1 1 (.box 0)<|o1 2 (.mv z0) .done) (.seq (sR (o1 3 (.ld (some 6) 1)<|oc 4 a0 [3]<|ob 5 .gtr 4 (kZ 48) .done) (.cond 5 (sR (o1 2 (.mv (kZ 31)) .done) .ret) .skip)) (.seq (sR (o1 6 (.ld (some 6) 1)<|oc 7 a1 [6]<|o1 8 (.un .not 7) .done) (.cond 8 (sR (o1 2 (.mv (kZ 30)) .done) .ret) .skip)) (sR (o1 2 (.mv z0) .done) .ret))))⟩
def VF{T:Ad→Prop}{P f f1 f2}(hd:dec P f=some (Kh f1 f2))(h1:Hq P f1)(h2:Sz T P f2):Hu T P f:=by
 intro d cs v ht hv hb;refine AO.of' hd (Aca Z) ?_;have hv':=hv;obtain⟨lv,kv,rfl,ik,im,ie,it,hl,hks⟩:=hv'.open;show gwp P _ _ _ _ _;apply Ax;apply Ar;refine Bg (l:=[vZ v.kind,vZ v.m,vZ v.e,Ag v.text,lv,kv]) Z (fun b1 T1=>?_);refine A1 Z<|AP 0 Z Z Z<|AG Z (h1 v hv hb) ?_;by_cases h3:Bj v≤48
 ·refine AS Z Z<|AJ Z<|Ap<|AP 0 Z Z Z<|AG Z (h2 v ht hv) ?_;cases h4:Cf v with
  |true=>
   (refine Bu Z<|Bh Z<|AD Z<|Bz ?_)
   apply C7;rfl
   simp[Bf,h3,h4]
  |false=>
   (refine Bu Z<|BK Z<|AD Z<|Bz ?_)
   apply C7;rfl
   simp[Bf,h3,h4]
 ·(refine AS Z Z<|AE Z<|AD Z<|Bz ?_);apply C7;rfl;simp[Bf,h3]
end Go.Gk.Val
end
section
namespace Go.Gk.Val
open Go Go.Gk
section
attribute [local irreducible] gwp gws
end
end Go.Gk.Val
end
section
namespace Go.Gk.Val
open Go Go.Gk
attribute [local irreducible] gwp gws
set_option maxHeartbeats 1000000 in
def ZP{T:Ad→Prop}{P f f1 f2}(hd:dec P f=some (LL f1 f2))(h1:Ek T P f1)(h2:Jg T P f2):IK T P f:=by
 intro d cs v ht hv;refine AO.of' hd (Aca Z) ?_;obtain⟨lv,kv,rfl,ik,im,ie,it,hl,hks⟩:=hv.open;obtain⟨la,lc,rfl⟩:=RSl.val hl;obtain⟨ka,kc,rfl⟩:=RSl.val hks;obtain⟨k,m,e,t,l,ks⟩:=v;simp only[V.kind,V.m,V.e,V.text,V.list,V.keys] at*;have hks':RSl 1 A9 d (.slice ka ks.length kc) ks:=hks;have n1:=RSl.BW hl;have n2:=RSl.BW hks;have hsl:∀i (h:i<ks.length),ks[i].length≤140737488355328:=fun i h=>by
  obtain⟨_,_,_,_,_,_,_,_,_,_,_,h8⟩:=hks;obtain⟨cs,_,_,_,h9⟩:=h8 i h;exact h9
 show gwp P _ _ _ _ _;apply Ax;apply Ar;refine Bg (l:=[vZ k,vZ m,vZ e,Ag t,.slice la l.length lc,.slice ka ks.length kc]) Z (fun b1 T1=>?_);(refine Ao Z ?_);apply Ax;apply Ar;(refine AI Z Z Z<|B2 Z<|BV (fun _ _=>?_));rename_i b3 T3;refine Au 0 [vZ k,vZ 0,vZ 0,Ag [],nV,nV] Z Z Z Z (Aca Z) Z Z ?_;(apply Av);refine CJ (fun ρ d' L'=>d'=d∧AZ ρ [(1,pZ b1),(3,pZ b3)]∧∃pm pe pt pla pln plc pka pkn pkc,L'=[bx b3 T3 [vZ k,vZ pm,vZ pe,Ag pt,.slice pla pln plc,.slice pka pkn pkc],bx b1 T1 [vZ k,vZ m,vZ e,Ag t,.slice la l.length lc,.slice ka ks.length kc]]∧
  CI (.mk k m e t l ks)=(decide (m=pm∧e=pe)&& decide (t=pt)&& decide (l.length=pln)&& decide (ks.length=pkn))∧(k≠6∨ks.length=l.length)) ?_ ?_
 ·by_cases h0:k<0∨6<k
  ·have hz:=Abj (v:=.mk k m e t l ks) h0;(refine Aj<|Ae Z<|Al Z (An 1 Z Z)<|Av<|Am<|Ap<|Ai Z Z<|Ao Z<|AH Z<|Aj<|Ai Z Z<|Ao Z<|AH Z<|Ar<|Ai Z Z<|Ao Z<|AH Z<|Aj<|Ai Z Z<|Ao Z<|AH Z<|Aj<|Ai Z Z<|Ao Z<|AH Z<|Aj<|Ai Z Z<|Ao Z<|AH Z<|Aj<|Ai Z Z<|Ao Z<|AH Z<|Aj<|Bk Z ?_);apply BF;rfl;exact hz.symm
  by_cases h_0:k=0
  ·subst h_0;(refine Aj<|Ae Z<|Al Z (An 1 Z Z)<|Av<|Am<|Ap<|Ai Z Z<|Ao Z<|Bn Z<|Ay<|Bn Z<|Ay ?_);exact⟨Z,⟨Z,Z,trivial⟩,0,0,[],none,0,0,none,0,0,Z,by simp[CI,V.kind,V.m,V.e,V.text,V.list,V.keys],.inl (by decide)⟩
  by_cases h_1:k=1
  ·subst h_1;(refine Aj<|Ae Z<|Al Z (An 1 Z Z)<|Av<|Am<|Ap<|Ai Z Z<|Ao Z<|AH Z<|Aj<|Ai Z Z<|Ao Z<|Bn Z<|Ay<|Bn Z<|Ay ?_);exact⟨Z,⟨Z,Z,trivial⟩,0,0,[],none,0,0,none,0,0,Z,by simp[CI,V.kind,V.m,V.e,V.text,V.list,V.keys],.inl (by decide)⟩
  by_cases h_2:k=2
  ·subst h_2;(refine Aj<|Ae Z<|Al Z (An 1 Z Z)<|Av<|Am<|Ap<|Ai Z Z<|Ao Z<|AH Z<|Aj<|Ai Z Z<|Ao Z<|AH Z<|Ar<|Ai Z Z<|Ao Z<|Bn Z<|Ay ?_);exact⟨Z,⟨Z,Z,trivial⟩,0,0,[],none,0,0,none,0,0,Z,by simp[CI,V.kind,V.m,V.e,V.text,V.list,V.keys],.inl (by decide)⟩
  by_cases h_3:k=3
  ·subst h_3;refine Aj<|Ae Z<|Al Z (An 1 Z Z)<|Av<|Am<|Ap<|Ai Z Z<|Ao Z<|AH Z<|Aj<|Ai Z Z<|Ao Z<|AH Z<|Ar<|Ai Z Z<|Ao Z<|AH Z<|Aj<|Ai Z Z<|Ao Z<|Bn Z<|Ar<|Ae Z<|DF 1 Z Z Z<|Ae Z<|Au 0 [vZ 3,vZ m,vZ e,Ag [],nV,nV] Z Z Z Z (Aca Z) Z Z ?_;(apply Av);exact⟨Z,⟨Z,Z,trivial⟩,m,e,[],none,0,0,none,0,0,Z,by simp[CI,V.kind,V.m,V.e,V.text,V.list,V.keys],.inl (by decide)⟩
  by_cases h_4:k=4
  ·subst h_4;refine Aj<|Ae Z<|Al Z (An 1 Z Z)<|Av<|Am<|Ap<|Ai Z Z<|Ao Z<|AH Z<|Aj<|Ai Z Z<|Ao Z<|AH Z<|Ar<|Ai Z Z<|Ao Z<|AH Z<|Aj<|Ai Z Z<|Ao Z<|AH Z<|Aj<|Ai Z Z<|Ao Z<|Bn Z<|Ar<|Ae Z<|Al Z (An 1 Z Z)<|Ae Z<|Au 0 [vZ 4,vZ 0,vZ 0,Ag t,nV,nV] Z Z Z Z (Aca Z) Z Z ?_;(apply Av);exact⟨Z,⟨Z,Z,trivial⟩,0,0,t,none,0,0,none,0,0,Z,by simp[CI,V.kind,V.m,V.e,V.text,V.list,V.keys],.inl (by decide)⟩
  by_cases h_5:k=5
  ·subst h_5;refine Aj<|Ae Z<|Al Z (An 1 Z Z)<|Av<|Am<|Ap<|Ai Z Z<|Ao Z<|AH Z<|Aj<|Ai Z Z<|Ao Z<|AH Z<|Ar<|Ai Z Z<|Ao Z<|AH Z<|Aj<|Ai Z Z<|Ao Z<|AH Z<|Aj<|Ai Z Z<|Ao Z<|AH Z<|Aj<|Ai Z Z<|Ao Z<|Bn Z<|Ar<|Ae Z<|Al Z (An 1 Z Z)<|Ae Z<|Au 0 [vZ 5,vZ 0,vZ 0,Ag [],.slice la l.length lc,nV] Z Z Z Z (Aca Z) Z Z ?_;(apply Av);exact⟨Z,⟨Z,Z,trivial⟩,0,0,[],la,l.length,lc,none,0,0,Z,by simp[CI,V.kind,V.m,V.e,V.text,V.list,V.keys],.inl (by decide)⟩
  obtain rfl:k=6:=by omega
  refine Aj<|Ae Z<|Al Z (An 1 Z Z)<|Av<|Am<|Ap<|Ai Z Z<|Ao Z<|AH Z<|Aj<|Ai Z Z<|Ao Z<|AH Z<|Ar<|Ai Z Z<|Ao Z<|AH Z<|Aj<|Ai Z Z<|Ao Z<|AH Z<|Aj<|Ai Z Z<|Ao Z<|AH Z<|Aj<|Ai Z Z<|Ao Z<|AH Z<|Aj<|Ai Z Z<|Ao Z<|Bn Z<|Aj<|Ae Z<|Al Z (An 1 Z Z)<|Ae Z<|Au 0 [vZ 6,vZ 0,vZ 0,Ag [],.slice la l.length lc,nV] Z Z Z Z (Aca Z) Z Z<|Br<|Ae Z<|Al Z (An 1 Z Z)<|Ae Z<|Au 0 [vZ 6,vZ 0,vZ 0,Ag [],.slice la l.length lc,.slice ka ks.length kc] Z Z Z Z (Aca Z) Z Z ?_;by_cases h7:(ks.length:Int)≠l.length
  ·(refine Br<|Ae Z<|Al Z (An 1 Z Z)<|AK Z<|Ae Z<|Al Z (An 1 Z Z)<|AK Z<|AB Z Z<|AE Z<|Aj<|Bk Z ?_);apply BF;rfl;have h8:ks.length≠l.length:=by omega
   simp[Cz,h8]
  ·(refine Br<|Ae Z<|Al Z (An 1 Z Z)<|AK Z<|Ae Z<|Al Z (An 1 Z Z)<|AK Z<|AB Z Z<|AJ Z ?_);exact⟨Z,⟨Z,Z,trivial⟩,0,0,[],la,l.length,lc,ka,ks.length,kc,Z,by simp[CI,V.kind,V.m,V.e,V.text,V.list,V.keys],.inr (by omega)⟩
 rintro ρ d' L' ⟨hdd,hsl',pm,pe,pt,pla,pln,plc,pka,pkn,pkc,hL,hbare,h6⟩;subst hdd;subst hL;refine A4 _ hsl' ?_;clear hsl';have hrf:rising ks=false→false=Cz (.mk k m e t l ks):=fun h=>by simp[Cz,h]
 refine Ap<|AL Z<|Am<|DJ (α:=Nat) (fun i=>[(1,pZ b1),(3,pZ b3),(4,vZ i)])
  (fun _=>[bx b3 T3 [vZ k,vZ pm,vZ pe,Ag pt,.slice pla pln plc,.slice pka pkn pkc],bx b1 T1 [vZ k,vZ m,vZ e,Ag t,.slice la l.length lc,.slice ka ks.length kc]])
  (fun i=>i≤ks.length∧Ep ks i=true) (fun i=>ks.length - i) 0 ⟨Z,Z,Z,trivial⟩ Z ⟨Acu _,Z⟩ ?_
 rintro i ρ ⟨hi,hr⟩;by_cases hc:i<ks.length
 ·(refine Ap<|Ab Z<|Ae Z<|Al Z (An 1 Z Z)<|AK Z<|As Z Z<|AE Z<|Ay<|Ax<|Am<|Ax<|Bd<|Ae Z<|Al Z (An 1 Z Z)<|Ab Z<|A2 (sz:=1) (R:=A9) (by rfl) (by assumption) (by rfl) Z (by omega) ?_;rintro _ _ _ _ _ ⟨rfl,_⟩;apply Al;rfl;exact BQ (by assumption) Z);refine AG Z (h1 ht (hsl i hc)) ?_;cases hu:u8 ks[i] with
  |false=>
   (refine Bu Z<|Ac Z<|Aq Z Z<|AF Z<|AN Z<|AN Z<|AN Z<|AN Z<|AN Z<|AN Z<|AN Z<|AN Z<|AN Z<|AN Z<|AN Z<|AN Z<|AF Z<|Ah Z Z<|AV<|Ci Z<|Aj<|Bk Z ?_)
   apply BF;rfl
   exact hrf (GC (TF hc hu) hc)
  |true=>
   by_cases hi0:i=0
   ·subst hi0
    (refine Bu Z<|Ac Z<|Aa Z<|Ab Z<|Aa Z<|AS Z Z<|Aa Z<|Ac Z<|Aw Z<|Aq Z Z<|Aq Z Z<|Aq Z Z<|Aq Z Z<|Aq Z Z<|Aq Z Z<|Aa Z<|Af Z Z<|Af Z Z<|AV<|A7 Z<|Ay<|Ar<|Ab Z<|AY Z Z<|AL Z ?_)
    exact⟨1,by omega,⟨Z,Z,Z,trivial⟩,Z,Z,by omega,by rw[Ep,Ts hc,hu];rfl⟩
   ·obtain⟨j,rfl⟩:∃j,i=j+1:=⟨i - 1,by omega⟩
    (refine Bu Z<|Ac Z<|Aa Z<|Ab Z<|Aa Z<|AS Z Z<|Aa Z<|Ac Z<|AA Z<|Aa Z<|Ae Z<|Aa Z<|Al Z (An 1 Z Z)<|Aa Z<|Ab Z<|Aa Z<|DQ Z Z<|Aa Z ?_)
    refine A2 (sz:=1) (R:=A9) (m:=j) (by rfl) hks' (by rfl) (by omega) (by omega) ?_;rintro _ _ _ _ _ ⟨rfl,_⟩
    cases hb:Op.bytesLess ks[j] ks[j+1] with
    |false=>
     have hb':(!Op.bytesLess ks[j] ks[j+1])=true:=by rw[hb];rfl
     (refine Aa Z<|Al Z (BQ (by assumption) Z)<|Aa Z<|Ae Z<|Aa Z<|Al Z (An 1 Z Z)<|Aa Z<|Ab Z<|Aa Z<|A2 (sz:=1) (R:=A9) (by rfl) (by assumption) (by rfl) Z (by omega) ?_;rintro _ _ _ _ _ ⟨rfl,_⟩;refine Aa Z<|Al Z (BQ (by assumption) Z)<|Aa Z<|QF Z Z<|Aa Z<|Ah Z Z<|Af Z Z<|AV ?_;apply I0;rfl;(with_reducible assumption);refine Aj<|Bk Z ?_)
     apply BF;rfl
     exact hrf (GC (by rw[J8 hc,hb,Bool.and_false]) hc)
    |true=>
     have hb':(!Op.bytesLess ks[j] ks[j+1])=false:=by rw[hb];rfl
     (refine Aa Z<|Al Z (BQ (by assumption) Z)<|Aa Z<|Ae Z<|Aa Z<|Al Z (An 1 Z Z)<|Aa Z<|Ab Z<|Aa Z<|A2 (sz:=1) (R:=A9) (by rfl) (by assumption) (by rfl) Z (by omega) ?_;rintro _ _ _ _ _ ⟨rfl,_⟩;refine Aa Z<|Al Z (BQ (by assumption) Z)<|Aa Z<|QF Z Z<|Aa Z<|Ah Z Z<|Af Z Z<|AV ?_;apply EM;rfl;(with_reducible assumption);refine Ay<|Ar<|Ab Z<|AY Z Z<|AL Z ?_)
     exact⟨j+2,by omega,⟨Z,Z,int_eq (by omega),trivial⟩,Z,Z,by omega,by rw[Ep,hr,J8 hc,hu,hb];rfl⟩
 obtain rfl:i=ks.length:=by omega
 have hr':rising ks=true:=hr;have h6':(!decide (k=6)||decide (ks.length=l.length))=true:=by simpa using h6
 cases hA:(false ^^(decide (pm=m)&& decide (pe=e))) with
 |false=>
  (refine Ap<|Ab Z<|Ae Z<|Al Z (An 1 Z Z)<|AK Z<|As Z Z<|BM Z<|A6<|Aj<|Ae Z<|DF 0 Z Z Z<|Ae Z<|DF 1 Z Z Z<|D7 Z Z<|Ac Z ?_;apply Abq;rfl;(with_reducible assumption);refine Aq Z Z<|Aq Z Z<|AF Z<|Af Z Z<|Ac Z<|Aq Z Z<|Aq Z Z<|Aq Z Z<|AF Z<|Af Z Z<|Ac Z<|Aq Z Z<|Aq Z Z<|Aq Z Z<|AF Z<|Af Z Z<|Ac Z<|Aq Z Z<|AF Z<|Af Z Z<|Ac Z<|Aq Z Z<|AF Z<|Af Z Z<|Bk Z ?_)
  apply BF;rfl
  have:¬(m=pm∧e=pe):=fun⟨h,h'⟩=>by rw[h,h'] at hA;simp at hA
  simp[Cz,hbare,this]
 |true=>
 have hA':m=pm∧e=pe:=by simp at hA;exact⟨hA.1.symm,hA.2.symm⟩
 by_cases hB:pt=t
 ·by_cases hC:(pln:Int)=l.length
  ·by_cases hD:(pkn:Int)=ks.length
   ·(refine Ap<|Ab Z<|Ae Z<|Al Z (An 1 Z Z)<|AK Z<|As Z Z<|BM Z<|A6<|Aj<|Ae Z<|DF 0 Z Z Z<|Ae Z<|DF 1 Z Z Z<|D7 Z Z<|Ac Z ?_;apply Qw;rfl;(with_reducible assumption);refine Aa Z<|Ae Z<|Aa Z<|c_l Z Z Z<|Aa Z<|Ae Z<|Aa Z<|Al Z (An 1 Z Z)<|Aa Z<|CS Z Z<|Ah Z Z<|Ac Z<|AA Z<|Aa Z<|Ae Z<|Aa Z<|c_l Z Z Z<|Aa Z<|AK Z<|Aa Z<|Ae Z<|Aa Z<|Al Z (An 1 Z Z)<|Aa Z<|AK Z<|Aa Z<|Ai Z Z<|Ah Z Z<|Ac Z<|AA Z<|Aa Z<|Ae Z<|Aa Z<|c_l Z Z Z<|Aa Z<|AK Z<|Aa Z<|Ae Z<|Aa Z<|Al Z (An 1 Z Z)<|Aa Z<|AK Z<|Aa Z<|Ai Z Z<|Ah Z Z<|Ac Z<|AA Z<|Aa Z<|Ae Z<|Aa Z<|DF 1 Z Z Z<|Aa Z ?_);refine AG Z (h2 ht im ie) ?_;have hbt:CI (.mk k m e t l ks)=true:=by rw[hbare];simp[hA',hB,show l.length=pln by omega,show ks.length=pkn by omega]
    cases hN:B4 m e with
    |false=>
     (refine Ah Z Z<|Ac Z<|Aq Z Z<|AF Z<|Af Z Z<|Bk Z ?_)
     apply BF;rfl
     simp[Cz,hN]
    |true=>
     (refine Ah Z Z<|Ac Z<|Aa Z<|Ae Z<|Aa Z<|Al Z (An 1 Z Z)<|Aa Z ?_)
     refine AG Z (h1 ht it) ?_
     cases hu:u8 t with
     |false=>
      (refine Ah Z Z<|Bk Z ?_)
      apply BF;rfl
      simp[Cz,hu]
     |true=>
      (refine Ah Z Z<|Bk Z ?_)
      apply BF;rfl
      simp only[Cz,V.kind,V.m,V.e,V.text,V.list,V.keys,hbt,hN,hu,hr',Bool.and_true,Afi]
      simpa using h6'
   ·(refine Ap<|Ab Z<|Ae Z<|Al Z (An 1 Z Z)<|AK Z<|As Z Z<|BM Z<|A6<|Aj<|Ae Z<|DF 0 Z Z Z<|Ae Z<|DF 1 Z Z Z<|D7 Z Z<|Ac Z ?_;apply Qw;rfl;(with_reducible assumption);refine Aa Z<|Ae Z<|Aa Z<|c_l Z Z Z<|Aa Z<|Ae Z<|Aa Z<|Al Z (An 1 Z Z)<|Aa Z<|CS Z Z<|Ah Z Z<|Ac Z<|AA Z<|Aa Z<|Ae Z<|Aa Z<|c_l Z Z Z<|Aa Z<|AK Z<|Aa Z<|Ae Z<|Aa Z<|Al Z (An 1 Z Z)<|Aa Z<|AK Z<|Aa Z<|Ai Z Z<|Ah Z Z<|Ac Z<|AA Z<|Aa Z<|Ae Z<|Aa Z<|c_l Z Z Z<|Aa Z<|AK Z<|Aa Z<|Ae Z<|Aa Z<|Al Z (An 1 Z Z)<|Aa Z<|AK Z<|Aa Z<|Ai Z Z<|Ah Z Z<|Ac Z<|Aw Z<|Aq Z Z<|AF Z<|Af Z Z<|Ac Z<|Aq Z Z<|AF Z<|Af Z Z<|Bk Z ?_);apply BF;rfl;have:¬ks.length=pkn:=by omega
    simp[Cz,hbare,this]
  ·(refine Ap<|Ab Z<|Ae Z<|Al Z (An 1 Z Z)<|AK Z<|As Z Z<|BM Z<|A6<|Aj<|Ae Z<|DF 0 Z Z Z<|Ae Z<|DF 1 Z Z Z<|D7 Z Z<|Ac Z ?_;apply Qw;rfl;(with_reducible assumption);refine Aa Z<|Ae Z<|Aa Z<|c_l Z Z Z<|Aa Z<|Ae Z<|Aa Z<|Al Z (An 1 Z Z)<|Aa Z<|CS Z Z<|Ah Z Z<|Ac Z<|AA Z<|Aa Z<|Ae Z<|Aa Z<|c_l Z Z Z<|Aa Z<|AK Z<|Aa Z<|Ae Z<|Aa Z<|Al Z (An 1 Z Z)<|Aa Z<|AK Z<|Aa Z<|Ai Z Z<|Ah Z Z<|Ac Z<|Aw Z<|Aq Z Z<|Aq Z Z<|Aq Z Z<|AF Z<|Af Z Z<|Ac Z<|Aq Z Z<|AF Z<|Af Z Z<|Ac Z<|Aq Z Z<|AF Z<|Af Z Z<|Bk Z ?_);apply BF;rfl;have:¬l.length=pln:=by omega
   simp[Cz,hbare,this]
 ·(refine Ap<|Ab Z<|Ae Z<|Al Z (An 1 Z Z)<|AK Z<|As Z Z<|BM Z<|A6<|Aj<|Ae Z<|DF 0 Z Z Z<|Ae Z<|DF 1 Z Z Z<|D7 Z Z<|Ac Z ?_;apply Qw;rfl;(with_reducible assumption);refine Aa Z<|Ae Z<|Aa Z<|c_l Z Z Z<|Aa Z<|Ae Z<|Aa Z<|Al Z (An 1 Z Z)<|Aa Z<|CS Z Z<|Ah Z Z<|Ac Z<|Aw Z<|Aq Z Z<|Aq Z Z<|Aq Z Z<|AF Z<|Af Z Z<|Ac Z<|Aq Z Z<|Aq Z Z<|Aq Z Z<|AF Z<|Af Z Z<|Ac Z<|Aq Z Z<|AF Z<|Af Z Z<|Ac Z<|Aq Z Z<|AF Z<|Af Z Z<|Bk Z ?_);apply BF;rfl;have:¬t=pt:=fun h=>hB h.symm;simp[Cz,hbare,this]
end Go.Gk.Val
end
section
namespace Go.Gk
open Go
variable{a:Int}
section
section
variable {P:Program}{pan:List PanicEntry→A0}{Qn:Env→A0}{Ls L:List Ad}{ρ:Env}{d:Ad}{s:GS}{t:Nat}{tk:Bool}
def Bs(h:gws P pan Qn s Ls (upd ρ t (.agg [vZ 0,vZ 0,vZ 0,Ag [],nV,nV].toArray)) d L):
  gws P pan Qn (.op tk ⟨some t,none,.bld [(0,1),(1,2),(3,1),(4,1),(5,1)] [vZ 0,vZ 0,vZ 0,Ag [],nV,nV] []⟩ s) Ls ρ d L:=
 B2 (cs:=[vZ 0,vZ 0,vZ 0,Ag [],nV,nV]) Z h
def Oz{x k}(ex:ev ρ x=.int k a)(h:gws P pan Qn s Ls (upd ρ t (.agg [.int k a,vZ 0,vZ 0,Ag [],nV,nV].toArray)) d L):
  gws P pan Qn (.op tk ⟨some t,none,.bld [(0,1),(1,2),(3,1),(4,1),(5,1)] [vZ 0,vZ 0,vZ 0,Ag [],nV,nV] [(0,x)]⟩ s) Ls ρ d L:=
 B2 (cs:=[.int k a,vZ 0,vZ 0,Ag [],nV,nV]) (by simp[Instr.fill,ex,Value.cells,Ag]) h
def EI{x y k b}{n c:Nat}(ex:ev ρ x=.int k a)(ey:ev ρ y=.slice b n c)(h:gws P pan Qn s Ls (upd ρ t (.agg [.int k a,vZ 0,vZ 0,Ag [],.slice b n c,nV].toArray)) d L):
  gws P pan Qn (.op tk ⟨some t,none,.bld [(0,1),(1,2),(3,1),(4,1),(5,1)] [vZ 0,vZ 0,vZ 0,Ag [],nV,nV] [(0,x),(3,y)]⟩ s) Ls ρ d L:=
 B2 (cs:=[.int k a,vZ 0,vZ 0,Ag [],.slice b n c,nV]) (by simp[Instr.fill,ex,ey,Value.cells,Ag]) h
def Vz{x y k l}(ex:ev ρ x=.int k a)(ey:ev ρ y=Ag l)(h:gws P pan Qn s Ls (upd ρ t (.agg [.int k a,vZ 0,vZ 0,Ag l,nV,nV].toArray)) d L):
  gws P pan Qn (.op tk ⟨some t,none,.bld [(0,1),(1,2),(3,1),(4,1),(5,1)] [vZ 0,vZ 0,vZ 0,Ag [],nV,nV] [(0,x),(2,y)]⟩ s) Ls ρ d L:=
 B2 (cs:=[.int k a,vZ 0,vZ 0,Ag l,nV,nV]) (by simp[Instr.fill,ex,ey,Value.cells,Ag]) h
def Qu{x y z k b b'}{n c n' c':Nat}(ex:ev ρ x=.int k a)(ey:ev ρ y=.slice b' n' c')(ez:ev ρ z=.slice b n c)
  (h:gws P pan Qn s Ls (upd ρ t (.agg [.int k a,vZ 0,vZ 0,Ag [],.slice b n c,.slice b' n' c'].toArray)) d L):
  gws P pan Qn (.op tk ⟨some t,none,.bld [(0,1),(1,2),(3,1),(4,1),(5,1)] [vZ 0,vZ 0,vZ 0,Ag [],nV,nV] [(0,x),(4,y),(3,z)]⟩ s) Ls ρ d L:=
 B2 (cs:=[.int k a,vZ 0,vZ 0,Ag [],.slice b n c,.slice b' n' c']) (by simp[Instr.fill,ex,ey,ez,Value.cells,Ag]) h
def Yk{x y z u k k1 k2}{m e:Int}{l b}{n c:Nat}(ex:ev ρ x=.int k a)(ey:ev ρ y=.agg [.int k1 m,.int k2 e].toArray)(ez:ev ρ z=Ag l)(eu:ev ρ u=.slice b n c)
  (h:gws P pan Qn s Ls (upd ρ t (.agg [.int k a,.int k1 m,.int k2 e,Ag l,nV,.slice b n c].toArray)) d L):
  gws P pan Qn (.op tk ⟨some t,none,.bld [(0,1),(1,2),(3,1),(4,1),(5,1)] [vZ 0,vZ 0,vZ 0,Ag [],nV,nV] [(0,x),(1,y),(2,z),(4,u)]⟩ s) Ls ρ d L:=
 B2 (cs:=[.int k a,.int k1 m,.int k2 e,Ag l,nV,.slice b n c]) (by simp[Instr.fill,ex,ey,ez,eu,Value.cells,Ag]) h
end
end
end Go.Gk
end
section
namespace Go.Gk.Val
open Go Go.Gk
attribute [local irreducible] gwp gws
variable{x v:V}
section
mutual
def C8:V→Nat
 |.mk _ _ _ _ l ks=>1+ks.length+DR l
def DR:List V→Nat
 |[]=>0
 |x::l=>C8 x+DR l
end
def Ej(v:V):C8 v=1+v.keys.length+DR v.list:=by obtain⟨k,m,e,t,l,ks⟩:=v;rfl
def RJ:∀{l:List V},x∈l→C8 x≤DR l
 |y::l,h=>by
  rcases Adj.1 h with rfl|h
  ·simp only[DR];omega
  ·have:=RJ h;simp only[DR];omega
def Rh:∀l:List V,l.length≤DR l
 |[]=>Ack _
 |x::l=>by
  have h1:=Ej x;have h2:=Rh l;simp only[DR,Acg];omega
def GN:v.list.length≤C8 v:=by
 have h1:=Ej v;have h2:=Rh v.list;omega
def IX:v.keys.length≤C8 v:=by
 have h1:=Ej v;omega
def YL(h:x∈v.list):C8 x≤C8 v:=by
 have h1:=Ej v;have h2:=RJ h;omega
mutual
def BG:V→Nat
 |.mk _ _ _ t l ks=>1+t.length+ks.length+BH l
def BH:List V→Nat
 |[]=>0
 |x::l=>BG x+BH l
end
def CP(v:V):BG v=1+v.text.length+v.keys.length+BH v.list:=by obtain⟨k,m,e,t,l,ks⟩:=v;rfl
def E6:∀{l:List V},x∈l→BG x≤BH l
 |y::l,h=>by
  rcases Adj.1 h with rfl|h
  ·simp only[BH];omega
  ·have:=E6 h;simp only[BH];omega
def SC:∀{l:List V},(∀x∈l,C8 x≤BG x)→DR l≤BH l
 |[],_=>Ack _
 |x::l,h=>by
  have h1:=h x (List.mem_cons_self ..);have h2:=SC (l:=l) (fun y hy=>h y (Aci _ hy));simp only[DR,BH];omega
def FR(v:V):C8 v≤BG v:=by
 induction v using V.ind with
 |h v ih=>
  have h1:=CP v
  have h2:=Ej v
  have h4:=SC ih
  omega
def Jj(v:V):Bj v≤BG v:=by
 induction v using V.ind with
 |h v ih=>
  have h1:=CP v
  obtain⟨n,hn⟩:∃n,BG v=n+1:=⟨BG v - 1,by omega⟩
  rw[hn,EL]
  intro x hx
  have:=E6 hx
  have:=ih x hx
  omega
section
variable {P:Program}{pan:List PanicEntry→A0}{Qn:Env→A0}{Ls L:List Ad}{ρ:Env}{d:Ad}{s:GS}{t:Nat}{tk:Bool}
def z6:List Value:=[vZ 0,vZ 0,vZ 0,Ag [],nV,nV]
def six{cs:List Value}(h:cs.length=6):∃a0 a1 a2 a3 a4 a5,cs=[a0,a1,a2,a3,a4,a5]:=by
 match cs,h with
 |[a,b,c,d,e,f],_=>exact⟨a,b,c,d,e,f,Z⟩
def FC{x:Operand}{cs:List Value}(ex:ev ρ x=.agg cs.toArray)(hc:cs.length=6)(h:∀b T,gws P pan Qn s Ls (upd ρ t (.slice (some ⟨b,0,none⟩) 1 1)) d (bx b T cs::L)):
  gws P pan Qn (.op false ⟨some t,none,.bsl 1 6 [vZ 0,vZ 0,vZ 0,Ag [],nV,nV] [(0,x)]⟩ s) Ls ρ d L:=by
 obtain⟨a0,a1,a2,a3,a4,a5,rfl⟩:=six hc
 refine GM (by omega) ?_ h
 simp[Instr.fill,BZ,Ady,List.range.loop,ex,Value.cells]
end
def Pe{α}(R:Ad→List Value→α→Prop)(by_:Nat)(P:Program)(f:FuncId):Prop:=∀{d v}{xs:List α},RSl 1 R d v xs→xs.length*by_≤140737488355328→
 Be P f [v] d [] (Ret fun r d' L'=>d'=d∧∃h,L'=[h]∧AQ 1 R d r xs h)
def Hp:Bo:=⟨8,[(.tmp 2)],(sR (o1 2 (.mv nS) .done) (.seq (sR (om 3 0<|o1 4 (.eqs false 3 nS) .done) (.cond 4 (sR (o1 2 (.mv nS) .done) .ret) .skip)) (sR (o1 5 (.bsl 0 1 [(Ag [])] [])<|om 6 0<|o1 7 (.app 1 16 [(Ag [])] 5 6)<|om 2 7 .done) .ret)))⟩
def VE{P f}(hd:dec P f=some Hp):Pe A9 16 P f:=by
 intro d v xs hv hb;have hv':=hv;have hxl:=RSl.BW hv;obtain⟨a,c,b,o,rfl,h2,h3,h4,h5,_⟩:=hv;refine EK hd ?_;cases a with
 |none=>
  have:xs=[]:=Acm (by have:=h4 Z;omega)
  subst this
  apply Ax;apply Ar
  refine DT d [emp] Vs.emp ?_
  (refine AR Z<|Bw<|AR Z<|Z4 Z Z<|BK Z<|Es Z<|Bz ?_)
  exact XS (L':=[emp]) Z (Acy _) ⟨Z,emp,Z,AQ.nil⟩
 |some a=>
  (refine Es Z<|Bw<|AR Z<|AaX Z Z<|Bh Z<|Aj ?_)
  refine GM (cs:=[]) (by omega) Z (fun b8 T8=>?_)
  (apply AR;rfl)
  refine Dc 0 Z Z (AQ.QJ (R:=A9) (sz:=1)) Z (RSl.src (R:=A9) (xs:=xs) hv' Dt (by omega) _) (by omega) (by simp;omega) (by simp;omega) (fun v5 h5 hrow5=>?_)
  (refine B3<|Bz ?_)
  exact XS (L':=[h5]) Z (Acy _) ⟨Z,h5,Z,hrow5⟩
def Ds.cells{cs h}(o:Ds cs v h):cs.length=6∧(cs.all (·.oneCell'))=true:=
 ⟨(o.OL (Le.refl h)).len,AW _ _ _ (o.OL (Le.refl h))⟩
def H2(v:V)(cs:List Value)(L:List Ad):Prop:=∃lv kv hk hl ccs hs,cs=[vZ v.kind,vZ v.m,vZ v.e,Ag v.text,lv,kv]∧AQ 1 A9 emp kv v.keys hk∧B5 6 lv v.list.length ccs hl∧hs.length=v.list.length∧
 (∀i (h:i<v.list.length),Ds (chunk ccs i 6) v.list[i] (hs.getD i emp))∧L=hk::hl::hs
def J3(P:Program)(f:FuncId):Prop:=∀(v:V) {d cs},Az d cs v→C8 v≤1000000000→Be P f [.agg cs.toArray] d [] (Ret fun r d' L'=>d'=d∧∃cs' h,r=.agg cs'.toArray∧L'=[h]∧Ds cs' v h)
def Uf{P f d cs}(hv:Az d cs v)(h:Be P f [.agg cs.toArray] d [] (Ret fun r d' L'=>d'=d∧∃cs',r=.agg cs'.toArray∧H2 v cs' L')):
  Be P f [.agg cs.toArray] d [] (Ret fun r d' L'=>d'=d∧∃cs' h,r=.agg cs'.toArray∧L'=[h]∧Ds cs' v h):=by
 refine(Ok.AaM h).UH (fun e d' L' _ r=>?_)
 cases e with
 |panicked c=>exact r.elim
 |outgrown=>exact r.elim
 |returned u=>
  obtain⟨⟨hdd,cs',hr,lv,kv,hk,hl,ccs,hs,hcs,gk,gl,hsl,el,hL⟩,hp⟩:=r
  subst hL
  obtain⟨k,m,e,t,l,ks⟩:=v
  obtain⟨_,_,_,ik,im,ie,it,_,_⟩:=hv.open
  exact⟨d',_,Vs.pack _,hdd,cs',_,hr,Z,by rw[hcs];exact Ds.mk ik im ie it gk gl hsl el (List.pairwise_cons.1 hp).2⟩
def RO(a0 a1:Nat):Bo:=⟨32,[(.cell 2 (some 6))],(sR (o1 1 (.box 0)<|o1 2 (.alo (.agg #[(vZ 0),(vZ 0),(vZ 0),(Ag []),nV,nV])) .done) (.seq (.reg true (p1 6 (.fld 0 1)<|pl 7 6<|p1 8 (.fld 1 1)<|p1 9 (.ld (some 2) 8)<|p1 10 (.fld 3 1)<|pl 11 10<|p1 12 (.fld 5 1)<|pl 13 12 (.alt ⟨(some 14),none,(.call a0 [13])⟩ (p1 15 (.bld [(0,1),(1,2),(3,1),(4,1),(5,1)] [(vZ 0),(vZ 0),(vZ 0),(Ag []),nV,nV] [(0,7),(1,9),(2,11),(4,14)]) (o1 3 (.alo (.agg #[(vZ 0),(vZ 0),(vZ 0),(Ag []),nV,nV])) (.bar (o0 (.st 6 3 15) .done)))) (o1 3 (.alo (.agg #[(vZ 0),(vZ 0),(vZ 0),(Ag []),nV,nV])) (oc 14 a0 [13] (p1 15 (.bld [(0,1),(1,2),(3,1),(4,1),(5,1)] [(vZ 0),(vZ 0),(vZ 0),(Ag []),nV,nV] [(0,7),(1,9),(2,11),(4,14)]) (.bar (o0 (.st 6 3 15) .done)))))))) (.seq (sR (oj 16 4 1<|ol 17 16<|oL 18 17<|o1 19 (.mv z0) .done) (.block 0 (.loop (sR (ob 20 .lss 19 18 .done) (.seq (.cond 20 .skip (.exit 0)) (.seq (.block 1 (sR (oI 21 6 17 19<|o1 22 (.ld (some 6) 21)<|o1 5 (.alo (.agg #[(vZ 0),(vZ 0),(vZ 0),(Ag []),nV,nV]))<|o0 (.st 6 5 22) .done) (.reg true (p1 23 (.fld 4 3)<|pl 24 23<|p1 25 (.ld (some 6) 5)<|oc 26 a1 [25]<|o1 27 (.bsl 1 6 [(vZ 0),(vZ 0),(vZ 0),(Ag []),nV,nV] [(0,26)])<|o1 28 (.app 6 88 [(vZ 0),(vZ 0),(vZ 0),(Ag []),nV,nV] 24 27)<|p1 29 (.fld 4 3) (.bar (o0 (.st 1 29 28) .done)))))) (rG (ob 30 .add 19 z1<|om 19 30 .done)))))))) (sR (o1 31 (.ld (some 6) 3)<|o0 (.st 6 2 31) .done) .ret))))⟩
set_option maxHeartbeats 1000000 in
def XF{P:Program}{f f1:FuncId}(hd:dec P f=some (RO f1 f))(h1:Pe A9 16 P f1):J3 P f:=by
 intro v;induction v using V.ind with
 |h v ih=>
 intro d cs hv hb;refine Uf hv (Be.forget (Q:=fun r L'=>∃cs',r=.agg cs'.toArray∧H2 v cs' L') (Cq hd (Aca Z) ?_));have hb1:=GN (v:=v);have hb2:=IX (v:=v);obtain⟨lv,kv,rfl,ik,im,ie,it,hl,hks⟩:=hv.open;obtain⟨la,lc,rfl⟩:=RSl.val hl;obtain⟨ka,kc,rfl⟩:=RSl.val hks;show gwp P _ _ _ _ _;apply Ax;apply Ar;refine Bg (l:=[vZ v.kind,vZ v.m,vZ v.e,Ag v.text,.slice la v.list.length lc,.slice ka v.keys.length kc]) Z (fun b1 T1=>?_);refine DI (fun d1 hl1 hg1=>?_);have hc1:DCs d1 b1 0 [vZ v.kind,vZ v.m,vZ v.e,Ag v.text,.slice la v.list.length lc,.slice ka v.keys.length kc]:=Dn hg1;have hl':RSl 6 Az d1 (.slice la v.list.length lc) v.list:=Cw.mono hl hl1;have hks':RSl 1 A9 d1 (.slice ka v.keys.length kc) v.keys:=B9.mono hks hl1;have n1:=RSl.BW hl';(refine BV (fun _ _=>Av ?_));rename_i b2 T2;refine CJ (fun ρ d' L'=>Le d1 d'∧∃b3 T3 ka' kc' hk,AZ ρ [(1,pZ b1),(2,pZ b2),(3,pZ b3)]∧AQ 1 A9 emp (.slice ka' v.keys.length kc') v.keys hk∧
  L'=[bx b2 T2 [vZ 0,vZ 0,vZ 0,Ag [],nV,nV],bx b3 T3 [vZ v.kind,vZ v.m,vZ v.e,Ag v.text,nV,.slice ka' v.keys.length kc'],hk,emp]) ?_ ?_
 ·refine Bd<|Ae Z<|Al Z (Fa (by assumption) Z)<|Ae Z<|AaU Z (by assumption) Z<|Ae Z<|Al Z (Fa (by assumption) Z)<|Ae Z<|Al Z (Fa (by assumption) Z)<|G9 ?_ ?_
  ·refine Bi Z (h1 hks' (by omega)) (fun r d4 L4 hl4 ⟨hdd,hk,hL,⟨ccs,g1,g2⟩⟩=>?_);subst hdd;subst hL;have g:AQ 1 A9 emp r v.keys hk:=⟨ccs,g1,g2⟩
   obtain⟨ka',kc',rfl⟩:=g.val;(refine Yk Z Z Z Z<|BV (fun _ _=>B0 ?_));rename_i b3 T3;refine Au 1 [vZ v.kind,vZ v.m,vZ v.e,Ag v.text,nV,.slice ka' v.keys.length kc'] Z Z Z Z (Aca Z) Z Z<|JI ⟨_,_,Vs.emp.trans (Vs.pick [1,2,3,0] Z),Le.refl _,b3,T3,_,_,hk,⟨Z,Z,Z,trivial⟩,g,Z⟩
  ·(apply BV;intro _ _);rename_i b3 T3;refine Bi Z (h1 hks' (by omega)) (fun r d4 L4 hl4 ⟨hdd,hk,hL,⟨ccs,g1,g2⟩⟩=>?_);subst hdd;subst hL;have g:AQ 1 A9 emp r v.keys hk:=⟨ccs,g1,g2⟩
   obtain⟨ka',kc',rfl⟩:=g.val;refine Yk Z Z Z Z<|B0<|Au 2 [vZ v.kind,vZ v.m,vZ v.e,Ag v.text,nV,.slice ka' v.keys.length kc'] Z Z Z Z (Aca Z) Z Z<|JI ⟨_,_,Vs.emp.trans (Vs.pick [1,3,2,0] Z),Le.refl _,b3,T3,_,_,hk,⟨Z,Z,Z,trivial⟩,g,Z⟩
 rintro ρ d2 L' ⟨hl2,b3,T3,ka',kc',hk,hsl,hg,hL⟩;subst hL;refine A4 _ hsl ?_;clear hsl;have hc2:=hc1.mono hl2;have hl2':RSl 6 Az d2 (.slice la v.list.length lc) v.list:=Cw.mono hl' hl2;refine Ap<|Ae Z<|Al Z (Fa (by assumption) Z)<|AK Z<|AL Z<|Am<|BP (α:=Nat) (fun i=>[(2,pZ b2),(3,pZ b3),(17,.slice la v.list.length lc),(18,vZ v.list.length),(19,vZ i)])
  (fun i d' L'=>d'=d2∧i≤v.list.length∧∃ra rc hl ccs hs,B5 6 (.slice ra i rc) i ccs hl∧hs.length=i∧(∀j (hj:j<v.list.length),j<i→Ds (chunk ccs j 6) v.list[j] (hs.getD j emp))∧
   L'=bx b2 T2 [vZ 0,vZ 0,vZ 0,Ag [],nV,nV]::bx b3 T3 [vZ v.kind,vZ v.m,vZ v.e,Ag v.text,.slice ra i rc,.slice ka' v.keys.length kc']::hk::hl::hs)
  (fun i=>v.list.length - i) 0 ⟨Z,Z,Z,Z,Z,trivial⟩ ⟨Z,Acu _,none,0,emp,[],[],B5.nil 6,Z,fun j _ h=>absurd h (Aec j),Z⟩ ?_
 rintro i ρ d3 L' ⟨hdd,hi,ra,rc,hl0,ccs,hs,hrow,hhs,hel,hL⟩;subst hdd;subst hL;have hl3':RSl 6 Az d3 (.slice la v.list.length lc) v.list:=hl2';by_cases hc:i<v.list.length
 ·(refine Aj<|As Z Z<|Cr<|Bn Z<|Ay<|Ax<|Am<|Aj<|A2 (sz:=6) (R:=Az) (by rfl) (by assumption) (by rfl) Z (by omega) ?_;rintro _ _ _ _ _ _;refine CT Z (by assumption) (by assumption)<|BV (fun _ _=>?_));rename_i cs hcs hD hR b5 T5;obtain⟨c0,c1,c2,c3,c4,c5,rfl⟩:=six hcs;refine Au 0 [c0,c1,c2,c3,c4,c5] Z Z Z Z (Aca Z) (AW _ _ _ hR) Z ?_;(apply Av);refine BS [bx b5 T5 [c0,c1,c2,c3,c4,c5],bx b2 T2 [vZ 0,vZ 0,vZ 0,Ag [],nV,nV],bx b3 T3 [vZ v.kind,vZ v.m,vZ v.e,Ag v.text,.slice ra i rc,.slice ka' v.keys.length kc'],hk] (hl0::hs) Z<|Ae Z<|Al Z (An 2 Z Z)<|AP 0 Z Z Z<|Bi Z (ih _ (Acq hc) hR (by have:=YL (Acq hc);omega)) (fun r d4 L4 _ ⟨hdd,cs',g,hr,hL,ho⟩=>?_);subst hdd;subst hr;subst hL;obtain⟨hc6,hc1'⟩:=ho.cells;refine FC Z hc6 (fun b27 T27=>?_);refine Tt 1 Z Z hrow Z (by rw[hc6]) hc1' (by omega) (by omega) (by omega) (fun v5 h5 o5=>?_);obtain⟨a5,_,c5',rfl,_⟩:=o5.slice;refine Ae Z<|B0<|DT _ (bx b2 T2 [vZ 0,vZ 0,vZ 0,Ag [],nV,nV]::bx b3 T3 [vZ v.kind,vZ v.m,vZ v.e,Ag v.text,.slice ra i rc,.slice ka' v.keys.length kc']::hk::h5::(hs++[g]))
   ((Vs.perm (List.Perm.append_left [bx b5 T5 [c0,c1,c2,c3,c4,c5],bx b2 T2 [vZ 0,vZ 0,vZ 0,Ag [],nV,nV],bx b3 T3 [vZ v.kind,vZ v.m,vZ v.e,Ag v.text,.slice ra i rc,.slice ka' v.keys.length kc'],hk] ((List.Perm.swap _ _ _).trans ((List.perm_append_singleton g hs).symm.cons _)))).trans (Vs.drop (List.sublist_cons_self _ _))) ?_
  refine Au 1 [vZ v.kind,vZ v.m,vZ v.e,Ag v.text,.slice a5 (i+1) c5',.slice ka' v.keys.length kc'] Z Z Z Z (Aca Z) Z Z<|Av<|Ar<|AY Z Z<|AL Z ?_;refine⟨i+1,by omega,⟨Z,Z,Z,Z,int_eq (by omega),trivial⟩,Z,hc,a5,c5',h5,_,hs++[g],o5,by simp[hhs],fun j hj hji=>?_,Z⟩
  have h6:ccs.length=i*6:=hrow.1;by_cases e:j<i
  ·rw[EG h6 e,show(hs++[g]).getD j emp=hs.getD j emp by simp[Aez,Aet (show j<hs.length by omega)]];exact hel j hj e
  ·obtain rfl:j=i:=by omega
   rw[El h6 (Ack _),Aeu,show chunk cs' 0 6=cs' by simp only[chunk,Nat.zero_mul,Agr];exact Adm (by omega),show(hs++[g]).getD j emp=g by simp[Aez,hhs]];exact ho
 ·obtain rfl:i=v.list.length:=by omega
  refine Aj<|As Z Z<|Cr<|AH Z<|A6<|Aj<|AP 1 Z Z Z<|Au 0 [vZ v.kind,vZ v.m,vZ v.e,Ag v.text,.slice ra v.list.length rc,.slice ka' v.keys.length kc'] Z Z Z Z (Aca Z) Z Z<|Bz<|Se [.agg [vZ v.kind,vZ v.m,vZ v.e,Ag v.text,.slice ra v.list.length rc,.slice ka' v.keys.length kc'].toArray] ⟨Bc 0 Z Z Z,trivial⟩ (Vs.drop (((Acy _).cons _).cons _)) ⟨_,Z,_,_,hk,hl0,ccs,hs,Z,hg,hrow,hhs,fun j hj=>hel j hj hj,Z⟩
end
end Go.Gk.Val
end
section
namespace Go.Gk.Val
open Go Go.Gk
section
section
variable {H:Type}{enc:TypeId×Value→H}{P:Program}{W:World}
end
end
end Go.Gk.Val
end
section
namespace Go.Gk.Utf
open Go Go.Lib
variable{l:List UInt8}
def Ef:Nat→List UInt8→List (List UInt8)
 |0,_=>[]
 |n+1,l=>if l=[] then [] else l.take (decodeL l).2::Ef n (l.drop (decodeL l).2)
def chs(l:List UInt8):List (List UInt8):=Ef l.length l
def FG:Nat→List UInt8→List Int
 |0,_=>[]
 |n+1,l=>if l=[] then [] else((decodeL l).1:Int)::FG n (l.drop (decodeL l).2)
def rns(l:List UInt8):List Int:=FG l.length l
def PX:∀(n m:Nat) (l:List UInt8),l.length≤n→l.length≤m→Ef n l=Ef m l
 |0,0,_,_,_=>rfl
 |0,m+1,l,h,_=>by
  have:l=[]:=Acm (by omega);simp[Ef,this]
 |n+1,0,l,_,h=>by
  have:l=[]:=Acm (by omega);simp[Ef,this]
 |n+1,m+1,l,h1,h2=>by
  by_cases h:l=[]
  ·simp[Ef,h]
  ·have hw:=decodeL_width l;have hl:0<l.length:=Adk.2 h;simp only[Ef,if_neg h];rw[PX n m _ (by rw[Acl];omega) (by rw[Acl];omega)]
def Y0:chs []=[]:=Z
def Xf(h:l≠[]):chs l=l.take (decodeL l).2::chs (l.drop (decodeL l).2):=by
 have hw:=decodeL_width l;have hl:0<l.length:=Adk.2 h;obtain⟨n,hn⟩:∃n,l.length=n+1:=⟨l.length - 1,by omega⟩
 unfold chs;rw[hn];simp only[Ef,if_neg h];rw[PX n (l.drop (decodeL l).2).length _ (by rw[Acl];omega) (Ack _)]
def Q2:∀(n:Nat) (l:List UInt8),(Ef n l).length≤l.length
 |0,_=>Acu _
 |n+1,l=>by
  by_cases h:l=[]
  ·simp[Ef,h]
  ·have hw:=decodeL_width l;have hl:0<l.length:=Adk.2 h;have:=Q2 n (l.drop (decodeL l).2);rw[Acl] at this;simp only[Ef,if_neg h,Acg];omega
def MM(l:List UInt8):(chs l).length≤l.length:=Q2 _ _
def QT:∀(n:Nat) (l:List UInt8),(FG n l).length=(Ef n l).length
 |0,_=>rfl
 |n+1,l=>by
  by_cases h:l=[]
  ·simp[Ef,FG,h]
  ·simp only[Ef,FG,if_neg h,Acg,QT n]
def Po(l:List UInt8):(rns l).length=(chs l).length:=QT _ _
def JG(l:List UInt8)(i:Nat):Utf8.decode ⟨l.toArray⟩ i=decodeL (l.drop i):=by
 have h:=tail_decode ⟨l.toArray⟩ i 0;rw[Nat.add_zero] at h;rw[←h,decodeL];congr 1;simp[ByteArray.extract,ByteArray.copySlice,ByteArray.size];exact Adm (by simp)
def I6{r:Int}(h0:0≤r)(h:r<55296∨(57343<r∧r≤1114111)):EV r=encodeRune r:=by
 have hv:Utf8.valid r=true:=by simp[Utf8.valid];omega
 simp only[EV,Utf8.encode,hv,if_true,encodeRune];by_cases h1:r≤127
 ·rw[if_pos (by omega),encodeRuneZ_one h0 h1];rfl
 rw[if_neg (by omega)];by_cases h2:r≤2047
 ·rw[if_pos (by omega),encodeRuneZ_two (by omega) h2];simp only[Adx,Afl];rw[show(192+r / 64).toNat=0xC0+r.toNat / 64 by omega,show(128+r % 64).toNat=0x80+r.toNat % 64 by omega]
 rw[if_neg (by omega)];by_cases h3:r≤65535
 ·rw[if_pos (by omega),encodeRuneZ_three (by omega)];simp only[Adx,Afl];rw[show(224+r / 4096).toNat=0xE0+r.toNat / 4096 by omega,show(128+r / 64 % 64).toNat=0x80+r.toNat / 64 % 64 by omega,show(128+r % 64).toNat=0x80+r.toNat % 64 by omega]
 rw[if_neg (by omega),encodeRuneZ_four (by omega) (by omega)];simp only[Adx,Afl];rw[show(240+r / 262144).toNat=0xF0+r.toNat / 262144 by omega,show(128+r / 4096 % 64).toNat=0x80+r.toNat / 4096 % 64 by omega,show(128+r / 64 % 64).toNat=0x80+r.toNat / 64 % 64 by omega,show(128+r % 64).toNat=0x80+r.toNat % 64 by omega]
def Tg:∀(n:Nat) (l:List UInt8),validD l=true→(FG n l).map EV=Ef n l
 |0,_,_=>rfl
 |n+1,l,hv=>by
  by_cases h:l=[]
  ·simp[Ef,FG,h]
  ·rw[validD_step l h] at hv;by_cases hb:(decodeL l).1=65533∧(decodeL l).2=1
   ·rw[if_pos hb] at hv;cases hv
   ·rw[if_neg hb] at hv;have hd:(decodeL l).1<55296∨(57343<(decodeL l).1∧(decodeL l).1≤1114111):=by
     rw[decodeL_N];exact decodeN_valid _ _ _ _ _ (UInt8.toNat_lt _)
    simp only[Ef,FG,if_neg h,Adx];rw[I6 (by omega) (by omega),encode_decode l h hb,Tg n _ hv]
def XO(hv:validD l=true)(a b:Nat):(((rns l).drop a).take b).flatMap EV=(((chs l).drop a).take b).flatten:=by
 rw[List.flatMap_def,Agj,List.map_drop,rns,Tg _ _ hv];rfl
def LH(l:List UInt8):∀(n i:Nat) (acc:Array Value),l.length≤n+i→(Conv.runesFrom ⟨l.toArray⟩ n i acc).toList=acc.toList++(FG n (l.drop i)).map (Value.int .i32)
 |0,i,acc,h=>by simp[Conv.runesFrom,FG]
 |n+1,i,acc,h=>by
  have hs:(⟨l.toArray⟩:ByteArray).size=l.length:=by simp[ByteArray.size]
  simp only[Conv.runesFrom,hs];by_cases hi:i<l.length
  ·have hne:l.drop i≠[]:=by simp;omega
   have hw:=decodeL_width (l.drop i);rw[if_pos hi,JG,LH l n _ _ (by omega)];simp only[FG,if_neg hne];simp[List.drop_drop]
  ·have hne:l.drop i=[]:=by simp;omega
   rw[if_neg hi,hne];simp[FG]
def Mb(l:List UInt8):Gk.Ch l=(rns l).map (Value.int .i32):=by
 simp only[Gk.Ch];rw[LH l _ 0 _ (by omega)];simp[rns]
def KJ(a b:Nat):(((chs l).drop a).take b).flatten.length≤l.length:=by
 have key:∀(n:Nat) (l:List UInt8) (a b:Nat),(((Ef n l).drop a).take b).flatten.length≤l.length:=by
  intro n;induction n with
  |zero=>intro l a b;simp[Ef]
  |succ n ih=>
   intro l a b
   by_cases h:l=[]
   ·simp[Ef,h]
   ·simp only[Ef,if_neg h]
    have hw:=decodeL_width l
    have h2:(l.take (decodeL l).2).length+(l.drop (decodeL l).2).length=l.length:=by rw[←Acd,List.take_append_drop]
    cases a with
    |zero=>
     cases b with
     |zero=>simp
     |succ b=>
      have:=ih (l.drop (decodeL l).2) 0 b
      simp only[Agr,Afh,List.flatten_cons,Acd] at this⊢
      omega
    |succ a=>
     have:=ih (l.drop (decodeL l).2) a b
     simp only[List.drop_succ_cons] at this⊢
     omega
 exact key _ _ _ _
def YU(hl:l≠[])(hv:validD l=true):(Dp l).2=((decodeL l).2:Int):=by
 rw[GO hl];by_cases h:decodeL l=(65533,1)
 ·rw[validD_step l hl,h] at hv;simp at hv
 ·rw[if_neg h]
def G6(hl:l≠[])(hv:validD l=true):validD (l.drop (decodeL l).2)=true:=by
 rw[validD_step l hl] at hv;split at hv
 ·cases hv
 ·exact hv
def M0(hne:l≠[])(hv:¬((decodeL l).1=65533∧(decodeL l).2=1))(t:List UInt8):decodeL (l.take (decodeL l).2++t)=decodeL l:=by
 have hl:0<l.length:=Adk.2 hne;have g:∀(w i:Nat),i<w→w≤l.length→(l.take w++t).getD i 0=l.getD i 0:=by
  intro w i h1 h2;simp only[Aez];rw[Aet (by simp;omega),List.getElem?_take_of_lt h1]
 have gl:∀w:Nat,w≤l.length→w≤(l.take w++t).length:=by intro w h;simp;omega
 rw[decodeL_N (l.take _++t)];rw[decodeL_N l] at hv⊢;rcases decodeN_shape l.length (l.getD 0 0).toNat (l.getD 1 0).toNat (l.getD 2 0).toNat (l.getD 3 0).toNat with ⟨c,e⟩|⟨c1,c2,c3,cv,e⟩|⟨c1,c2,c3,c4,cv,cs,e⟩|⟨c1,c2,c3,c4,c5,cv,cw,e⟩|e
 ·rw[e];dsimp only;rw[g 1 0 (by omega) (by omega),decodeN,if_pos c]
 ·rw[e];dsimp only;have:=gl 2 (by omega);rw[g 2 0 (by omega) (by omega),g 2 1 (by omega) (by omega),decodeN,if_neg (by omega),if_pos (by omega),if_pos (by omega)]
 ·rw[e];dsimp only;have:=gl 3 (by omega);rw[g 3 0 (by omega) (by omega),g 3 1 (by omega) (by omega),g 3 2 (by omega) (by omega),decodeN,if_neg (by omega),if_neg (by omega),if_pos (by omega),if_pos (by omega)]
 ·rw[e];dsimp only;have:=gl 4 (by omega);rw[g 4 0 (by omega) (by omega),g 4 1 (by omega) (by omega),g 4 2 (by omega) (by omega),g 4 3 (by omega) (by omega),decodeN,if_neg (by omega),if_neg (by omega),if_neg (by omega),if_pos (by omega),if_pos (by omega)]
 ·rw[e] at hv;simp at hv
def U5(hv:validD l=true)(a b:Nat):validD (((chs l).drop a).take b).flatten=true:=by
 have key:∀(n:Nat) (l:List UInt8) (a b:Nat),validD l=true→validD (((Ef n l).drop a).take b).flatten=true:=by
  intro n;induction n with
  |zero=>intro l a b _;simp[Ef,validD_nil]
  |succ n ih=>
   intro l a b hv
   by_cases h:l=[]
   ·simp[Ef,h,validD_nil]
   ·have hr:=G6 h hv
    simp only[Ef,if_neg h]
    have hw:=decodeL_width l
    have hwl:=decodeL_le l h
    have hl:0<l.length:=Adk.2 h
    cases a with
    |zero=>
     cases b with
     |zero=>simp[validD_nil]
     |succ b=>
      have hb:¬((decodeL l).1=65533∧(decodeL l).2=1):=fun hb=>by rw[validD_step l h,if_pos hb] at hv;cases hv
      have:=ih (l.drop (decodeL l).2) 0 b hr
      simp only[Agr,Afh,List.flatten_cons] at this⊢
      rw[validD_step _ (by intro e;have:=congrArg Afp e;rw[Acd,List.length_take] at this;simp only[List.length_nil] at this;omega),M0 h hb,if_neg hb]
      have hlen:(l.take (decodeL l).2).length=(decodeL l).2:=by simp;omega
      rw[List.drop_append,List.drop_of_length_le (by omega),hlen,Aeu,Agr,Aer]
      exact this
    |succ a=>exact ih _ a b hr
 exact key _ _ _ _ hv
end Go.Gk.Utf
end
section
namespace Go.Gk.Val
open Go Go.Gk
attribute [local irreducible] gwp gws
variable{P:Program}{f f1:FuncId}
section
def JM{α}{p:α→Bool}:∀(l:List α),(∀i j (hj:j<l.length) (hi:i<j),p l[j]=true→p (l[i]'(by omega))=true)→∀i (hi:i<l.length),p l[i]=true↔i<(l.takeWhile p).length
 |[],_,i,hi=>absurd hi (Aec i)
 |a::l,h,i,hi=>by
  have ih:=JM l (fun i j hj hi hp=>h (i+1) (j+1) (by simp;omega) (by omega) hp);by_cases ha:p a=true
  ·rw[List.takeWhile_cons_of_pos ha,Acg];cases i with
   |zero=>simp[ha]
   |succ i=>rw[Agu,ih i (by simpa using hi)];omega
  ·rw[List.takeWhile_cons_of_neg ha];cases i with
   |zero=>simp[ha]
   |succ i=>
    constructor
    ·intro hp;exact absurd (h 0 (i+1) hi (by omega) hp) ha
    ·intro hlt;simp at hlt
def AT(ks:List (List UInt8))(k:List UInt8):Nat:=(ks.takeWhile fun x=>Op.bytesLess x k).length
def Fi(ks:List (List UInt8))(k:List UInt8):AT ks k≤ks.length:=by
 have:=congrArg Afp (List.takeWhile_append_dropWhile (p:=fun x=>Op.bytesLess x k) (l:=ks));rw[Acd] at this;simp only[AT];omega
def PN{ks}(h:rising ks=true){i:Nat}(hi:i+1<ks.length):Op.bytesLess ks[i] ks[i+1]=true:=by
 by_cases hb:GJ ks (i+1)=true
 ·rw[J8 hi,Ace] at hb;exact hb.2
 ·rw[rising,GC (by simpa using hb) hi] at h;cases h
def Mh{ks}(h:rising ks=true):∀{j i:Nat}(hj:j<ks.length) (hi:i<j),Op.bytesLess (ks[i]'(by omega)) ks[j]=true:=by
 intro j;induction j with
 |zero=>intro i _ hi;omega
 |succ j ih=>
  intro i hj hi
  by_cases e:i=j
  ·subst e;exact PN h hj
  ·exact IQ (ih (by omega) (by omega)) (PN h hj)
def Hw{ks}(h:rising ks=true)(k:List UInt8)(i:Nat)(hi:i<ks.length):Op.bytesLess ks[i] k=true↔i<AT ks k:=
 JM (p:=fun x=>Op.bytesLess x k) ks (fun i j hj hi hp=>IQ (Mh h hj hi) hp) i hi
def O4{ks}(h:rising ks=true){k}{i:Nat}(hi:i<ks.length)(e:ks[i]=k):AT ks k=i:=by
 have h1:¬i<AT ks k:=by rw[←Hw h k i hi,e,Jk];simp
 by_cases h2:AT ks k<i
 ·have h3:=Mh h hi h2;rw[e] at h3;have:=(Hw h k (AT ks k) (by omega)).1 h3;omega
 ·omega
def mem_iff{ks}(h:rising ks=true){k}:k∈ks↔∃hi:AT ks k<ks.length,ks[AT ks k]=k:=by
 constructor
 ·intro hm;obtain⟨i,hi,e⟩:=Aea hm;have:=O4 h hi e;subst this;exact⟨hi,e⟩
 ·rintro⟨hi,e⟩;rw[←e];exact Acq hi
section
variable {P:Program}{pan:List PanicEntry→A0}{Qn:Env→A0}{Ls L:List Ad}{ρ:Env}{d:Ad}{s:GS}{t:Nat}{tk:Bool}
def Aaw{x y k'}{a:Int}(ex:ev ρ x=.int .u64 a)(ey:ev ρ y=.int k' 1)(h0:0≤a)(h1:a≤9223372036854775807)(h:gws P pan Qn s Ls (upd ρ t (.int .u64 (a / 2))) d L):
  gws P pan Qn (.op tk ⟨some t,none,.bin .shr x y⟩ s) Ls ρ d L:=by
 refine Dg ?_ h
 rw[ex,ey]
 simp[De,IntKind.bits,Int.fdiv_eq_ediv_of_nonneg]
end
end
structure St where
 kind:Int
 text:List UInt8
 src:Int
 dst:Int
 hf:Bool
 ht:Bool
def RSt(_:Ad)(cs:List Value)(s:St):Prop:=cs=[vZ s.kind,Ag s.text,vZ s.src,vZ s.dst,.bool s.hf,.bool s.ht]∧I64 s.kind∧s.text.length≤140737488355328∧I64 s.src∧I64 s.dst
def BL(n k:Int):Int:=if n<0 then n+k else n
def FM(n k:Int):Int:=max 0 (min k (BL n k))
def Bv(s:St)(k:Int):Int×Int:=
 let a:=if s.hf then FM s.src k else 0
 let b:=if s.ht then FM s.dst k else k
 (a,max a b)
def D9(s:St){k:Int}(hk:0≤k):0≤(Bv s k).1∧(Bv s k).1≤(Bv s k).2∧(Bv s k).2≤k:=by
 simp only[Bv,FM];split<;>split<;>omega
def IB(P:Program)(f:FuncId):Prop:=∀{d}{n k:Int},I64 n→0≤k→k≤140737488355328→AO P f [vZ n,vZ k] d (vZ (BL n k))
def Qh:Bo:=⟨11,[(.tmp 4)],(sR (o1 4 (.mv z0) .done) (.seq (sR (om 5 0<|ob 6 .lss 5 z0 .done) (.cond 6 (sR (om 7 0<|om 8 1<|ob 9 .add 7 8<|om 4 9 .done) .ret) .skip)) (sR (om 10 0<|om 4 10 .done) .ret)))⟩
def WL(hd:dec P f=some Qh):IB P f:=by
 intro d n k ⟨hn1,hn2⟩ hk1 hk2;refine AO.of' hd (Aca Z) ?_;show gwp P _ _ _ _ _;by_cases h:n<0
 ·(refine AD Z<|Bw<|Ab Z<|As Z Z<|AE Z<|AD Z<|Ab Z<|AY Z Z<|AM Z ?_);apply C7;rfl;rw[BL,if_pos h]
 ·(refine AD Z<|Bw<|Ab Z<|As Z Z<|AJ Z<|AD Z<|AM Z ?_);apply C7;rfl;rw[BL,if_neg h]
def Pf(P:Program)(f:FuncId):Prop:=∀{d}{n k:Int},I64 n→0≤k→k≤140737488355328→AO P f [vZ n,vZ k] d (vZ (FM n k))
def KP:Bo:=⟨17,[(.tmp 4)],(sR (o1 4 (.mv z0) .done) (.seq (sR (om 5 0<|ob 6 .lss 5 z0 .done) (.cond 6 (rG (om 7 0<|om 8 1<|ob 9 .add 7 8<|om 0 9 .done)) .skip)) (.seq (sR (om 10 0<|ob 11 .lss 10 z0 .done) (.cond 11 (sR (o1 4 (.mv z0) .done) .ret) .skip)) (.seq (sR (om 12 0<|om 13 1<|ob 14 .gtr 12 13 .done) (.cond 14 (sR (om 15 1<|om 4 15 .done) .ret) .skip)) (sR (om 16 0<|om 4 16 .done) .ret)))))⟩
def Xj(hd:dec P f=some KP):Pf P f:=by
 intro d n k ⟨hn1,hn2⟩ hk1 hk2;refine AO.of' hd (Aca Z) ?_;show gwp P _ _ _ _ _;by_cases h:n<0
 ·by_cases h2:n+k<0
  ·(refine AD Z<|Bw<|Ab Z<|As Z Z<|AE Z<|Ar<|Ab Z<|Ab Z<|AY Z Z<|A1 Z<|Ab Z<|As Z Z<|AE Z<|AD Z<|Bz ?_);apply C7;rfl;simp only[FM,BL];rw[if_pos h];omega
  ·by_cases h3:k<n+k
   ·omega
   ·(refine AD Z<|Bw<|Ab Z<|As Z Z<|AE Z<|Ar<|Ab Z<|Ab Z<|AY Z Z<|A1 Z<|Ab Z<|As Z Z<|AJ Z<|Ap<|Ab Z<|Ab Z<|AS Z Z<|AJ Z<|AD Z<|AM Z ?_);apply C7;rfl;simp only[FM,BL];rw[if_pos h];omega
 ·by_cases h3:k<n
  ·(refine AD Z<|Bw<|Ab Z<|As Z Z<|AJ Z<|Ap<|Ab Z<|As Z Z<|AJ Z<|Ap<|Ab Z<|Ab Z<|AS Z Z<|AE Z<|AD Z<|AM Z ?_);apply C7;rfl;simp only[FM,BL];rw[if_neg h];omega
  ·(refine AD Z<|Bw<|Ab Z<|As Z Z<|AJ Z<|Ap<|Ab Z<|As Z Z<|AJ Z<|Ap<|Ab Z<|Ab Z<|AS Z Z<|AJ Z<|AD Z<|AM Z ?_);apply C7;rfl;simp only[FM,BL];rw[if_neg h];omega
def GB(P:Program)(f:FuncId):Prop:=∀{d cs}{s:St}{k:Int},RSt d cs s→0≤k→k≤140737488355328→AO P f [.agg cs.toArray,vZ k] d (.tuple #[vZ (Bv s k).1,vZ (Bv s k).2])
def QK(a0:Nat):Bo:=⟨31,[(.tmp 4),(.tmp 5)],(sR (o1 2 (.box 0)<|o1 4 (.mv z0)<|o1 5 (.mv z0) .done) (sR (om 8 1<|o1 6 (.mv z0)<|om 7 8 .done) (.seq (sR (oj 9 4 2<|ol 10 9 .done) (.cond 10 (rG (om 11 1<|oj 12 2 2<|ol 13 12<|om 14 1<|oc 15 a0 [13,14]<|o1 16 (.mn2 11 15)<|o1 17 (.mx2 z0 16)<|om 6 17 .done)) .skip)) (.seq (sR (oj 18 5 2<|ol 19 18 .done) (.cond 19 (rG (om 20 1<|oj 21 3 2<|ol 22 21<|om 23 1<|oc 24 a0 [22,23]<|o1 25 (.mn2 20 24)<|o1 26 (.mx2 z0 25)<|om 7 26 .done)) .skip)) (sR (om 27 6<|om 28 6<|om 29 7<|o1 30 (.mx2 28 29)<|om 4 27<|om 5 30 .done) .ret)))))⟩
def ZT(hd:dec P f=some (QK f1))(h1:IB P f1):GB P f:=by
 intro d cs s k ⟨hcs,ik,it,is,id⟩ hk1 hk2;subst hcs;refine AO.of' hd (Aca Z) ?_;show gwp P _ _ _ _ _;apply Ax;apply Ar;refine Bg (l:=[vZ s.kind,Ag s.text,vZ s.src,vZ s.dst,.bool s.hf,.bool s.ht]) Z (fun b2 T2=>?_);cases hf:s.hf with
 |true=>
  cases ht:s.ht with
  |true=>
   (refine Ab Z<|Bt Z<|Ab Z<|Ab Z<|A1 Z<|AI Z Z Z<|BK Z<|Ar<|Ab Z<|AI Z Z Z<|Ab Z ?_)
   refine AG Z (h1 is hk1 hk2) ?_
   (refine N4 Z Z<|Ju Z Z<|A1 Z<|AI Z Z Z<|BK Z<|Ar<|Ab Z<|AI Z Z Z<|Ab Z ?_)
   refine AG Z (h1 id hk1 hk2) ?_
   (refine N4 Z Z<|Ju Z Z<|Bt Z<|Ab Z<|Ab Z<|Ab Z<|Ju Z Z<|Ab Z<|AM Z ?_)
   refine Dy (by simp[Bv,FM,hf];rfl) (by simp[Bv,FM,hf,ht];rfl)
  |false=>
   (refine Ab Z<|Bt Z<|Ab Z<|Ab Z<|A1 Z<|AI Z Z Z<|BK Z<|Ar<|Ab Z<|AI Z Z Z<|Ab Z ?_)
   refine AG Z (h1 is hk1 hk2) ?_
   (refine N4 Z Z<|Ju Z Z<|A1 Z<|AI Z Z Z<|Bh Z<|AD Z<|Ab Z<|Ab Z<|Ju Z Z<|Ab Z<|AM Z ?_)
   refine Dy (by simp[Bv,FM,hf];rfl) (by simp[Bv,FM,hf,ht];rfl)
 |false=>
  cases ht:s.ht with
  |true=>
   (refine Ab Z<|Bt Z<|Ab Z<|Ab Z<|A1 Z<|AI Z Z Z<|Bh Z<|Ap<|AI Z Z Z<|BK Z<|Ar<|Ab Z<|AI Z Z Z<|Ab Z ?_)
   refine AG Z (h1 id hk1 hk2) ?_
   (refine N4 Z Z<|Ju Z Z<|Bt Z<|Ab Z<|Ab Z<|Ab Z<|Ju Z Z<|Ab Z<|AM Z ?_)
   refine Dy (by simp[Bv,FM,hf];rfl) (by simp[Bv,FM,hf,ht];rfl)
  |false=>
   (refine Ab Z<|Bt Z<|Ab Z<|Ab Z<|A1 Z<|AI Z Z Z<|Bh Z<|Ap<|AI Z Z Z<|Bh Z<|AD Z<|Ab Z<|Ab Z<|Ju Z Z<|Ab Z<|AM Z ?_)
   refine Dy (by simp[Bv,FM,hf];rfl) (by simp[Bv,hf,ht];rfl)
def K0(a0:Nat):Bo:=⟨27,[(.tmp 4),(.tmp 5)],(sR (o1 2 (.box 0)<|o1 4 (.mv z0)<|o1 5 (.mv z0) .done) (sR (o1 6 (.mv z0) .done) (sR (om 8 1<|om 7 8 .done) (.seq (sR (oj 9 4 2<|ol 10 9 .done) (.cond 10 (rG (oj 11 2 2<|ol 12 11<|om 13 1<|oc 14 a0 [12,13]<|om 6 14 .done)) .skip)) (.seq (sR (oj 15 5 2<|ol 16 15 .done) (.cond 16 (rG (oj 17 3 2<|ol 18 17<|om 19 1<|oc 20 a0 [18,19]<|om 7 20 .done)) .skip)) (.seq (sR (om 21 7<|om 22 6<|ob 23 .lss 21 22 .done) (.cond 23 (rG (om 24 6<|om 7 24 .done)) .skip)) (sR (om 25 6<|om 26 7<|om 4 25<|om 5 26 .done) .ret)))))))⟩
def WO(hd:dec P f=some (K0 f1))(h1:Pf P f1):GB P f:=by
 intro d cs s k ⟨hcs,ik,it,is,id⟩ hk1 hk2;subst hcs;refine AO.of' hd (Aca Z) ?_;show gwp P _ _ _ _ _;apply Ax;apply Ar;refine Bg (l:=[vZ s.kind,Ag s.text,vZ s.src,vZ s.dst,.bool s.hf,.bool s.ht]) Z (fun b2 T2=>?_);have e1:∀a b:Int,b<a→max a b=a:=by omega
 have e2:∀a b:Int,¬b<a→max a b=b:=by omega
 cases hf:s.hf with
 |true=>
  cases ht:s.ht with
  |true=>
   (refine Ab Z<|Bt Z<|Bt Z<|Ab Z<|A1 Z<|AI Z Z Z<|BK Z<|Ar<|AI Z Z Z<|Ab Z ?_)
   refine AG Z (h1 is hk1 hk2) ?_
   (refine A1 Z<|AI Z Z Z<|BK Z<|Ar<|AI Z Z Z<|Ab Z ?_)
   refine AG Z (h1 id hk1 hk2) ?_
   by_cases hc:FM s.dst k<FM s.src k
   ·(refine A1 Z<|Ab Z<|Ab Z<|As Z Z<|AE Z<|Ar<|Ab Z<|Bt Z<|Ab Z<|Ab Z<|Ab Z<|AM Z ?_)
    refine Dy (by simp[Bv,hf];rfl) (by simp[Bv,hf,ht,e1 _ _ hc];rfl)
   ·(refine A1 Z<|Ab Z<|Ab Z<|As Z Z<|AJ Z<|AD Z<|Ab Z<|Ab Z<|AM Z ?_)
    refine Dy (by simp[Bv,hf];rfl) (by simp[Bv,hf,ht,e2 _ _ hc];rfl)
  |false=>
   (refine Ab Z<|Bt Z<|Bt Z<|Ab Z<|A1 Z<|AI Z Z Z<|BK Z<|Ar<|AI Z Z Z<|Ab Z ?_)
   refine AG Z (h1 is hk1 hk2) ?_
   by_cases hc:k<FM s.src k
   ·(refine A1 Z<|AI Z Z Z<|Bh Z<|Ap<|Ab Z<|Ab Z<|As Z Z<|AE Z<|Ar<|Ab Z<|Bt Z<|Ab Z<|Ab Z<|Ab Z<|AM Z ?_)
    refine Dy (by simp[Bv,hf];rfl) (by simp[Bv,hf,ht,e1 _ _ hc];rfl)
   ·(refine A1 Z<|AI Z Z Z<|Bh Z<|Ap<|Ab Z<|Ab Z<|As Z Z<|AJ Z<|AD Z<|Ab Z<|Ab Z<|AM Z ?_)
    refine Dy (by simp[Bv,hf];rfl) (by simp[Bv,hf,ht,e2 _ _ hc];rfl)
 |false=>
  cases ht:s.ht with
  |true=>
   (refine Ab Z<|Bt Z<|Bt Z<|Ab Z<|A1 Z<|AI Z Z Z<|Bh Z<|Ap<|AI Z Z Z<|BK Z<|Ar<|AI Z Z Z<|Ab Z ?_)
   refine AG Z (h1 id hk1 hk2) ?_
   by_cases hc:FM s.dst k<0
   ·(refine A1 Z<|Ab Z<|Ab Z<|As Z Z<|AE Z<|Ar<|Ab Z<|Bt Z<|Ab Z<|Ab Z<|Ab Z<|AM Z ?_)
    refine Dy (by simp[Bv,hf];rfl) (by simp[Bv,hf,ht,e1 _ _ hc];rfl)
   ·(refine A1 Z<|Ab Z<|Ab Z<|As Z Z<|AJ Z<|AD Z<|Ab Z<|Ab Z<|AM Z ?_)
    refine Dy (by simp[Bv,hf];rfl) (by simp[Bv,hf,ht,e2 _ _ hc];rfl)
  |false=>
   by_cases hc:k<0
   ·omega
   ·(refine Ab Z<|Bt Z<|Bt Z<|Ab Z<|A1 Z<|AI Z Z Z<|Bh Z<|Ap<|AI Z Z Z<|Bh Z<|Ap<|Ab Z<|Ab Z<|As Z Z<|AJ Z<|AD Z<|Ab Z<|Ab Z<|AM Z ?_)
    refine Dy (by simp[Bv,hf];rfl) (by simp[Bv,hf,ht,e2 _ _ hc];rfl)
def Mt(P:Program)(f:FuncId):Prop:=∀{d l},AO P f [Ag l] d (.bool false)
def JR:Bo:=⟨6,[(.tmp 2)],(sR (o1 2 (.mv (.const (.bool false))) .done) (sR (om 3 0<|om 4 0<|ob 5 .neq 3 4<|om 2 5 .done) .ret))⟩
def Jb(hd:dec P f=some JR):Mt P f:=by
 intro d l;refine AO.of' hd (Aca Z) ?_;show gwp P _ _ _ _ _;(refine Aj<|Ao Z<|Aj<|Ak Z<|Ak Z<|Ee Z Z<|Bk Z ?_);apply BF;rfl;simp
def Md:Bo:=⟨6,[(.tmp 2)],(sR (o1 2 (.mv (.const (.bool false))) .done) (sR (om 3 0<|om 4 0<|ob 5 .neq 3 4<|om 2 5 .done) .ret))⟩
def Kg(hd:dec P f=some Md):Mt P f:=by
 intro d l;refine AO.of' hd (Aca Z) ?_;show gwp P _ _ _ _ _;(refine Aj<|Ao Z<|Aj<|Ak Z<|Ak Z<|Ee Z Z<|Bk Z ?_);apply BF;rfl;simp
def Rc(P:Program)(f:FuncId):Prop:=∀{d l k},AO P f [Ag l,Ag k] d (.bool (Op.bytesLess l k))
def MW(a0:Nat):Bo:=⟨17,[(.tmp 4)],(sR (o1 4 (.mv (.const (.bool false))) .done) (sR (om 5 0<|oc 6 a0 [5]<|om 7 6<|gT 8 7 1<|oT 9 7 (.call a0 [8])<|oT 10 7 (.un .not 9)<|gP 11 7 10<|om 12 11<|gF 13 12 0<|gF 14 12 1<|oF 15 12 (.bin .lss 13 14)<|o1 16 (.pick 12 (.const (.bool true)) 15)<|om 4 16 .done) .ret))⟩
def Zc(hd:dec P f=some (MW f1))(h1:Mt P f1):Rc P f:=by
 intro d l k;refine AO.of' hd (Aca Z) ?_;show gwp P _ _ _ _ _;refine Aj<|Ao Z<|Aj<|Ak Z<|AG Z h1<|Ac Z<|Aq Z Z<|AF Z<|Af Z Z<|Ac Z<|Aa Z<|Ak Z<|Aa Z<|Ak Z<|Aa Z<|Ot Z Z<|Af Z Z<|Bk Z ?_;apply BF;rfl;rfl
def Ja(P:Program)(f:FuncId):Prop:=∀{d v ks k},B9 d v ks→rising ks=true→AO P f [v,Ag k] d (.tuple #[vZ (AT ks k),.bool (decide (k∈ks))])
def Gx(a0 a1:Nat):Bo:=⟨54,[(.tmp 4),(.tmp 5)],(sR (o1 4 (.mv z0)<|o1 5 (.mv (.const (.bool false))) .done) (sR (om 10 0<|oL 11 10<|om 6 11 .done) (sR (om 12 6<|o1 7 (.mv z0)<|om 8 12 .done) (.seq (.block 0 (.loop (.seq (sR (om 13 7<|om 14 8<|ob 15 .lss 13 14 .done) (.cond 15 .skip (.exit 0))) (.block 1 (sR (om 16 7<|om 17 8<|ob 18 .add 16 17<|o1 19 (.cvi .u64 18)<|ob 20 .shr 19 (.const (.int .u64 1))<|o1 21 (.cvi .i64 20)<|om 9 21 .done) (sR (om 22 0<|om 23 9<|oI 24 1 22 23<|ol 25 24<|om 26 1<|oc 27 a0 [25,26] .done) (.cond 27 (rG (om 28 9<|ob 29 .add 28 z1<|om 7 29 .done)) (rG (om 30 9<|om 8 30 .done))))))))) (sR (om 31 7<|om 32 7<|om 33 6<|ob 34 .lss 32 33<|om 35 34<|gT 36 35 0<|gT 37 35 7<|oT 38 35 (.idx 1 36 37)<|oT 39 35 (.ld none 38)<|gT 40 35 1<|oT 41 35 (.bin .eql 39 40)<|gT 42 35 41<|gF 43 42 0<|gF 44 42 7<|oF 45 42 (.idx 1 43 44)<|oF 46 42 (.ld none 45)<|oF 47 42 (.call a1 [46])<|gF 48 42 47<|gT 49 48 1<|oT 50 48 (.call a1 [49])<|oF 51 42 (.pick 48 50 (.const (.bool false)))<|oT 52 35 (.pick 42 (.const (.bool true)) 51)<|gP 53 35 52<|om 4 31<|om 5 53 .done) .ret)))))⟩
def Wq{f2}(hd:dec P f=some (Gx f1 f2))(h1:Rc P f1)(h2:Mt P f2):Ja P f:=by
 intro d v ks k hv hr;have n1:=RSl.BW hv;have hll:=Fi ks k;obtain⟨a,c,rfl⟩:=RSl.val hv;have hv':RSl 1 A9 d (.slice a ks.length c) ks:=hv;refine AO.of' hd (Aca Z) ?_;show gwp P _ _ _ _ _;refine AD Z<|Ao Z<|Es Z<|AK Z<|Bt Z<|Ab Z<|Ab Z<|AL Z<|Ax<|Am<|DJ (α:=Nat×Nat) (fun x=>[(0,.slice a ks.length c),(1,Ag k),(6,vZ ks.length),(7,vZ x.1),(8,vZ x.2)]) (fun _=>[]) (fun x=>x.1≤AT ks k∧AT ks k≤x.2∧x.2≤ks.length) (fun x=>x.2 - x.1) (0,ks.length)
  ⟨Z,Z,Z,Z,Z,trivial⟩ Z ⟨Acu _,hll,Ack _⟩ ?_
 rintro⟨lo,hi⟩ ρ ⟨k1,k2,k3⟩;simp only at k1 k2 k3;by_cases hc:lo<hi
 ·obtain⟨m,hm⟩:∃m,m=(lo+hi) / 2:=⟨_,Z⟩
  have hmv:((lo:Int)+hi) % 18446744073709551616 / 2=m:=by omega
  refine Ap<|Ab Z<|Ab Z<|As Z Z<|AE Z<|Ay<|Am<|AD Z<|Ab Z<|AY Z Z<|NX Z<|Aaw Z Z (by omega) (by omega)<|Gu Z (by omega) (by omega)<|Bt Z<|AR Z<|Ab Z<|A2 (sz:=1) (R:=A9) (m:=m) (by rfl) hv' (by rfl) hmv (by omega) ?_;rintro _ _ _ _ _ ⟨rfl,_⟩;refine Al Z (BQ (by assumption) Z)<|Ak Z<|AG Z h1 ?_;have hm':m<ks.length:=by omega
  have hsp:=Hw hr k m hm';cases hb:Op.bytesLess ks[m] k with
  |true=>
   have:=hsp.1 hb
   (refine BK Z<|Ar<|Ab Z<|AY Z Z<|AL Z ?_)
   exact⟨(m+1,hi),by simp only;omega,⟨Z,Z,Z,int_eq (by simp only;omega),Z,trivial⟩,Z,Z,by simp only;omega,k2,k3⟩
  |false=>
   have:¬m<AT ks k:=fun h=>by rw[hsp.2 h] at hb;cases hb
   (refine EX Z<|Ar<|Ab Z<|AL Z ?_)
   exact⟨(lo,m),by simp only;omega,⟨Z,Z,Z,Z,int_eq (by simp only;omega),trivial⟩,Z,Z,k1,by simp only;omega,by simp only;omega⟩
 obtain rfl:hi=lo:=by omega
 have hlo:hi=AT ks k:=by omega
 by_cases h6:hi<ks.length
 ·by_cases h7:ks[hi]=k
  ·have hmem:k∈ks:=by rw[←h7];exact Acq h6
   (refine Ap<|Ab Z<|Ab Z<|As Z Z<|BM Z<|A6<|AD Z<|Ab Z<|Ab Z<|As Z Z<|Ac Z<|AA Z<|Aa Z<|AR Z<|Aa Z<|Ab Z<|Aa Z<|A2 (sz:=1) (R:=A9) (by rfl) (by assumption) (by rfl) Z (by omega) ?_;rintro _ _ _ _ _ ⟨rfl,_⟩;refine Aa Z<|Al Z (BQ (by assumption) Z)<|Aa Z<|Ak Z<|Aa Z<|CS Z Z<|Aa Z<|Ac Z<|AA Z<|Aq Z Z<|Aq Z Z<|Aq Z Z<|AN Z<|AN Z<|AF Z<|Aa Z<|Ah Z Z<|Ah Z Z<|Ab Z<|Bk Z ?_);refine Dy (by rw[←hlo];rfl) (by rw[decide_eq_true hmem];rfl)
  ·have hmem:¬k∈ks:=fun h=>by
    obtain⟨_,e⟩:=(mem_iff hr).1 h;subst hlo;exact h7 e
   (refine Ap<|Ab Z<|Ab Z<|As Z Z<|BM Z<|A6<|AD Z<|Ab Z<|Ab Z<|As Z Z<|Ac Z<|AA Z<|Aa Z<|AR Z<|Aa Z<|Ab Z<|Aa Z<|A2 (sz:=1) (R:=A9) (by rfl) (by assumption) (by rfl) Z (by omega) ?_;rintro _ _ _ _ _ ⟨rfl,_⟩;refine Aa Z<|Al Z (BQ (by assumption) Z)<|Aa Z<|Ak Z<|Aa Z<|CS Z Z<|Aa Z<|Ac Z<|Aw Z<|Aa Z<|AR Z<|Aa Z<|Ab Z<|Aa Z<|A2 (sz:=1) (R:=A9) (by rfl) (by assumption) (by rfl) Z (by omega) ?_;rintro _ _ _ _ _ ⟨rfl,_⟩;refine Aa Z<|Al Z (BQ (by assumption) Z)<|Aa Z ?_);refine AG Z h2<|Aa Z<|Ac Z<|Aq Z Z<|Aa Z<|Af Z Z<|Aa Z<|Af Z Z<|Ah Z Z<|Ab Z<|Bk Z<|Dy (by rw[←hlo];rfl) (by rw[decide_eq_false hmem];rfl)
 ·have hmem:¬k∈ks:=fun h=>by
   obtain⟨h',e⟩:=(mem_iff hr).1 h;omega
  refine Ap<|Ab Z<|Ab Z<|As Z Z<|BM Z<|A6<|AD Z<|Ab Z<|Ab Z<|As Z Z<|Ac Z<|Aw Z<|Aq Z Z<|Aq Z Z<|Aq Z Z<|AF Z<|AN Z<|AN Z<|AN Z<|AN Z<|AN Z<|AN Z<|AN Z<|AN Z<|AN Z<|AF Z<|Af Z Z<|Ab Z<|Bk Z<|Dy (by rw[←hlo];rfl) (by rw[decide_eq_false hmem];rfl)
def Ou(P:Program)(f:FuncId):Prop:=∀{d cs}{v:V}{k},Az d cs v→rising v.keys=true→AO P f [.agg cs.toArray,Ag k] d (vZ (if k∈v.keys then(AT v.keys k:Int) else -1))
def Ll:Bo:=⟨21,[(.tmp 4)],(sR (o1 2 (.box 0)<|o1 4 (.mv z0) .done) (.seq (sR (o1 5 (.mv z0) .done) (.block 0 (.loop (.seq (sR (om 6 5<|oj 7 5 2<|ol 8 7<|oL 9 8<|ob 10 .lss 6 9 .done) (.cond 10 .skip (.exit 0))) (.seq (.block 1 (sR (oj 13 5 2<|ol 14 13<|om 15 5<|oI 16 1 14 15<|ol 17 16<|om 18 1<|ob 19 .eql 17 18 .done) (.cond 19 (sR (om 20 5<|om 4 20 .done) .ret) .skip))) (rG (om 11 5<|ob 12 .add 11 z1<|om 5 12 .done))))))) (sR (o1 4 (.mv (kZ (-1))) .done) .ret)))⟩
def Aas(hd:dec P f=some Ll):Ou P f:=by
 intro d cs v k hv hr;refine AO.of' hd (Aca Z) ?_;obtain⟨lv,kv,rfl,ik,im,ie,it,hl,hks⟩:=hv.open;obtain⟨ka,kc,rfl⟩:=RSl.val hks;have hks':RSl 1 A9 d (.slice ka v.keys.length kc) v.keys:=hks;have n2:=RSl.BW hks;show gwp P _ _ _ _ _;apply Ax;apply Ar;refine Bg (l:=[vZ v.kind,vZ v.m,vZ v.e,Ag v.text,lv,.slice ka v.keys.length kc]) Z (fun b2 T2=>?_);refine A1 Z<|AL Z<|Am<|DJ (α:=Nat) (fun i=>[(1,Ag k),(2,pZ b2),(5,vZ i)]) (fun _=>[bx b2 T2 [vZ v.kind,vZ v.m,vZ v.e,Ag v.text,lv,.slice ka v.keys.length kc]])
  (fun i=>i≤v.keys.length∧∀j (hj:j<v.keys.length),j<i→v.keys[j]≠k) (fun i=>v.keys.length - i) 0 ⟨Z,Z,Z,trivial⟩ Z ⟨Acu _,fun j _ h=>absurd h (Aec j)⟩ ?_
 rintro i ρ ⟨hi,hno⟩;by_cases hc:i<v.keys.length
 ·by_cases he:v.keys[i]=k
  ·(refine Ap<|Ab Z<|AI Z Z Z<|AK Z<|As Z Z<|AE Z<|Ay<|Ax<|Am<|Aj<|AI Z Z Z<|Ab Z<|A2 (sz:=1) (R:=A9) (by rfl) (by assumption) (by rfl) Z (by omega) ?_;rintro _ _ _ _ _ ⟨rfl,_⟩;refine Al Z (BQ (by assumption) Z)<|Ak Z<|CS Z Z<|AE Z<|AD Z<|AM Z ?_);apply C7;rfl;rw[if_pos (by rw[←he];exact Acq hc),O4 hr hc he]
  ·(refine Ap<|Ab Z<|AI Z Z Z<|AK Z<|As Z Z<|AE Z<|Ay<|Ax<|Am<|Aj<|AI Z Z Z<|Ab Z<|A2 (sz:=1) (R:=A9) (by rfl) (by assumption) (by rfl) Z (by omega) ?_;rintro _ _ _ _ _ ⟨rfl,_⟩;refine Al Z (BQ (by assumption) Z)<|Ak Z<|CS Z Z<|AJ Z<|Ar<|Ab Z<|AY Z Z<|AL Z ?_);refine⟨i+1,by omega,⟨Z,Z,int_eq (by omega),trivial⟩,Z,Z,hc,fun j hj hji=>?_⟩
   by_cases e:j=i
   ·subst e;exact he
   ·exact hno j hj (by omega)
 ·(refine Ap<|Ab Z<|AI Z Z Z<|AK Z<|As Z Z<|BM Z<|A6<|AD Z<|Bz ?_);apply C7;rfl;rw[if_neg (fun h=>?_)];obtain⟨j,hj,e⟩:=Aea h;exact hno j hj (by omega) e
end Go.Gk.Val
end
section
namespace Go.Gk.Val
open Go Go.Gk Go.Gk.Utf
variable{v:V}
def Li{ks}:∀{m:Nat},Ep ks m=true↔∀i,i<m→GJ ks i=true
 |0=>by simp[Ep]
 |m+1=>by
  rw[Ep,Ace,Li];constructor
  ·rintro⟨h1,h2⟩ i hi;rcases Nat.lt_succ_iff_lt_or_eq.1 hi with h|rfl
   ·exact h1 i h
   ·exact h2
  ·intro h;exact⟨fun i hi=>h i (by omega),h m (by omega)⟩
abbrev OQ(ks:List (List UInt8)):Prop:=ks.Pairwise fun a b=>Op.bytesLess a b=true
def DW{ks}:rising ks=true↔(∀k∈ks,u8 k=true)∧OQ ks:=by
 constructor
 ·intro h;refine⟨fun k hk=>?_,?_⟩
  ·obtain⟨i,hi,rfl⟩:=Aea hk;have:=Li.1 h i hi;rw[GJ,Ace] at this;simpa [Aez,hi] using this.1
  ·rw[OQ,Ahe];intro i j hi hj hij;exact Mh h hj hij
 ·rintro⟨h1,h2⟩;rw[OQ,Ahe] at h2;refine Li.2 fun i hi=>?_;rw[GJ,Ace];refine⟨by simpa [Aez,hi] using h1 _ (Acq hi),?_⟩
  cases i with
  |zero=>rfl
  |succ i=>
   have:=h2 i (i+1) (by omega) hi (by omega)
   have hi':i<ks.length:=by omega
   simpa [Aez,hi,hi'] using this
def Ua{ks ls}(h:rising ks=true)(hs:ls.Sublist ks):rising ls=true:=by
 rw[DW] at h⊢;exact⟨fun k hk=>h.1 k (hs.subset hk),h.2.sublist hs⟩
def Kp{ks}(h:OQ ks):ks.Nodup:=h.imp fun{a b} hab e=>by subst e;rw[Jk] at hab;cases hab
def R6:∀{ks k}{j:Nat}(_:j<AT ks k) (hj:j<ks.length),Op.bytesLess ks[j] k=true
 |[],_,_,_,hj=>absurd hj (Aec _)
 |a::ks,k,j,h,hj=>by
  unfold AT at h;rw[List.takeWhile_cons] at h;by_cases e:Op.bytesLess a k=true
  ·rw[if_pos e,Acg] at h;cases j with
   |zero=>exact e
   |succ j=>exact R6 (ks:=ks) (by unfold AT;omega) (by simpa using hj)
  ·rw[if_neg e] at h;exact absurd h (Aec _)
def N0:∀{ks k}(hj:AT ks k<ks.length),Op.bytesLess ks[AT ks k] k=false
 |[],_,hj=>absurd hj (Aec _)
 |a::ks,k,hj=>by
  by_cases e:Op.bytesLess a k=true
  ·have h0:AT (a::ks) k=AT ks k+1:=by unfold AT;rw[List.takeWhile_cons,if_pos e,Acg]
   have hj':AT ks k<ks.length:=by rw[h0] at hj;simpa using hj
   have:=N0 hj';simp only[h0,Agu];exact this
  ·have h0:AT (a::ks) k=0:=by unfold AT;rw[List.takeWhile_cons,if_neg e];rfl
   simp only[h0,List.getElem_cons_zero];simpa using e
def Dx(o:List (List UInt8)×List V)(k:List UInt8)(x:V):List (List UInt8)×List V:=
 if o.1[AT o.1 k]?=some k then(o.1,o.2.set (AT o.1 k) x)
 else(o.1.take (AT o.1 k)++[k]++o.1.drop (AT o.1 k),(o.2.take (AT o.1 k)++[x]++o.2.drop (AT o.1 k)).set (AT o.1 k) x)
def BO(ks:List (List UInt8))(l:List V):Nat→List (List UInt8)×List V
 |0=>([],[])
 |n+1=>Dx (BO ks l n) (ks.getD n []) (l.getD n V.zero)
def Tu{o:List (List UInt8)×List V}(h:o.1.length=o.2.length)(k:List UInt8)(x:V):(Dx o k x).1.length=(Dx o k x).2.length∧(Dx o k x).1.length≤o.1.length+1:=by
 have:=Fi o.1 k;unfold Dx;split
 ·simp[h]
 ·simp;omega
def FA(ks:List (List UInt8))(l:List V):∀n,(BO ks l n).1.length=(BO ks l n).2.length∧(BO ks l n).1.length≤n
 |0=>⟨Z,Ack _⟩
 |n+1=>by
  have ih:=FA ks l n;have:=Tu ih.1 (ks.getD n []) (l.getD n V.zero);exact⟨this.1,by have:=this.2;have:=ih.2;rw[BO];omega⟩
def Ta(h:Cf v=true):Cz v=true:=by rw[DZ,Ace] at h;exact h.1
def HA{x:V}(h:Cf v=true)(hx:x∈v.list):Cf x=true:=by rw[DZ,Ace,Acn] at h;exact h.2 x hx
def Nu{l:List V}(h:∀x∈l,Cf x=true):Cf (.mk 5 0 0 [] l [])=true:=by
 rw[DZ,Ace,Acn];exact⟨by simp[Cz,CI,V.kind,V.m,V.e,V.text,V.list,V.keys,B4,u8,Lib.validD_nil,rising,Ep],h⟩
def PH{l:List V}{ks}(hr:rising ks=true)(hl:ks.length=l.length)(h:∀x∈l,Cf x=true):Cf (.mk 6 0 0 [] l ks)=true:=by
 rw[DZ,Ace,Acn];refine⟨?_,h⟩
 simp[Cz,CI,V.kind,V.m,V.e,V.text,V.list,V.keys,B4,u8,Lib.validD_nil];exact⟨hr,hl⟩
def Gi{k m e:Int}{t}{l:List V}{ks}{n:Nat}(h:∀x∈l,Bj x≤n):Bj (.mk k m e t l ks)≤n+1:=EL.2 h
def EZ:Bf v=0↔Cf v=true∧Bj v≤48:=by
 unfold Bf;constructor
 ·intro h;by_cases h1:Bj v≤48
  ·rw[if_pos h1] at h;by_cases h2:Cf v=true
   ·exact⟨h2,h1⟩
   ·rw[if_neg h2] at h;cases h
  ·rw[if_neg h1] at h;cases h
 ·rintro⟨h1,h2⟩;rw[if_pos h2,if_pos h1]
def BY:I64 0:=⟨by decide,by decide⟩
def Yh:I64 4:=⟨by decide,by decide⟩
def FX:I64 5:=⟨by decide,by decide⟩
def HM:I64 6:=⟨by decide,by decide⟩
abbrev BJ:List Value:=[.int .i64 0,.int .i64 0,.int .i64 0,Ag [],.slice none 0 0,.slice none 0 0]
def By{ρ d L}{b t u:Nat}{T cs}{w:V}{e:Int}(i:Nat)(e4:ρ t=pZ b)(hi:L[i]?=some (bx b T cs))(e5:ρ u=vZ e)(hw:Az d cs w):
  Cb [.cell t (some 6),.tmp u] (Ret fun r d' L'=>L'=[]∧∃cs',r=.tuple #[.agg cs'.toArray,vZ e]∧Az d' cs' w) ρ d L:=
 Ba (L':=[]) [.agg cs.toArray,vZ e] ⟨Bc i e4 hi (Az.len hw),Ea e5,trivial⟩ (Acb _) ⟨Z,cs,Z,hw⟩
end Go.Gk.Val
end
section
namespace Go.Gk.Val
open Go Go.Gk Go.Gk.Utf
attribute [local irreducible] gwp gws
variable{v:V}
def Ih{α}(sz:Nat)(R:Ad→List Value→α→Prop)(P:Program)(f:FuncId):Prop:=∀{d v w}{xs ys:List α}{i j:Nat},RSl sz R d v xs→RSl sz R d w ys→i≤j→j≤xs.length→xs.length+ys.length≤1000000001→
 Be P f [v,vZ i,vZ j,w] d [] (Ret fun r d' L'=>L'=[]∧RSl sz R d' r (xs.take i++ys++xs.drop j))
def LX:Bo:=⟨31,[(.tmp 8)],(sR (o1 8 (.mv nS) .done) (sR (om 10 0<|oL 11 10<|om 12 2<|ob 13 .sub 11 12<|om 14 1<|ob 15 .add 13 14<|om 16 3<|oL 17 16<|ob 18 .add 15 17<|o1 19 (.mks 1 16 [(Ag [])] z0 18)<|om 9 19 .done) (.seq (.reg true (pm 20 9<|pm 21 0<|pm 22 1<|p1 23 (.sl 1 21 none (some 22) none)<|pm 25 3<|pm 27 0<|pm 28 2<|p1 29 (.sl 1 27 (some 28) none none)<|o1 24 (.app 1 16 [(Ag [])] 20 23)<|o1 26 (.app 1 16 [(Ag [])] 24 25)<|o1 30 (.app 1 16 [(Ag [])] 26 29) (.bar (pm 8 30 .done)))) .ret)))⟩
def Ub{P f}(hd:dec P f=some LX):Ih 1 A9 P f:=by
 intro d v w xs ys i j hv hw hij hj hb;have n1:=RSl.BW hv;have n2:=RSl.BW hw;have hv':=hv;obtain⟨a,c,rfl⟩:=RSl.val hv;obtain⟨a2,c2,rfl⟩:=RSl.val hw;refine EK hd<|Es Z<|Br<|AR Z<|AK Z<|Ab Z<|DQ Z Z<|Ab Z<|AY Z Z<|AR Z<|AK Z<|AY Z Z<|QG (n:=0) (c:=xs.length - j+i+ys.length) Z (int_eq (by omega)) (by omega) (by omega) (by omega) (fun b9 T9=>?_);have o0:AQ 1 A9 d (.slice (some ⟨b9,0,none⟩) 0 (xs.length - j+i+ys.length)) [] (bx b9 T9 (BZ [Ag []] ((xs.length - j+i+ys.length)*1))):=
  ⟨[],B5.mk Z (by simp) (Acu _) (by omega) (by simp[BZ]) Z,fun i hi=>absurd hi (Aec i)⟩
 refine AR Z<|Cr<|BS [] [_] Z<|AR Z<|AR Z<|Ab Z<|F8 (n:=i) Z hv' Z Z (by omega) (fun v23 hv23=>?_);refine AR Z<|AR Z<|Ab Z<|DN (n:=j) Z hv' Z Z (by omega) (fun v29 hv29=>?_);refine Dc (R:=A9) (xs:=[]) (ys:=xs.take i) 0 Z Z o0 Z (RSl.src (R:=A9) hv23 Dt (by omega) _) (by omega) (by simp;omega) (by simp;omega) (fun v5 h5 hrow5=>?_);refine Dc (R:=A9) (xs:=[]++xs.take i) (ys:=ys) 0 Z Z hrow5 Z (RSl.src (R:=A9) hw Dt (by omega) _) (by omega) (by simp;omega) (by simp;omega) (fun v6 h6 hrow6=>?_);refine Dc (R:=A9) (xs:=[]++xs.take i++ys) (ys:=xs.drop j) 0 Z Z hrow6 Z (RSl.src (R:=A9) hv29 Dt (by omega) _) (by omega) (by simp;omega) (by simp;omega) (fun v7 h7 hrow7=>?_);obtain⟨a7,c7,rfl⟩:=hrow7.val;refine B0<|AR Z<|Bz<|Oj Z (fun d' hl hk=>⟨Z,hrow7.rsl (R:=A9) CL (by omega) hl (hk _ (by simp))⟩)
def JO:Bo:=⟨31,[(.tmp 8)],(sR (o1 8 (.mv nS) .done) (sR (om 10 0<|oL 11 10<|om 12 2<|ob 13 .sub 11 12<|om 14 1<|ob 15 .add 13 14<|om 16 3<|oL 17 16<|ob 18 .add 15 17<|o1 19 (.mks 6 88 [(vZ 0),(vZ 0),(vZ 0),(Ag []),nV,nV] z0 18)<|om 9 19 .done) (.seq (.reg true (pm 20 9<|pm 21 0<|pm 22 1<|p1 23 (.sl 6 21 none (some 22) none)<|pm 25 3<|pm 27 0<|pm 28 2<|p1 29 (.sl 6 27 (some 28) none none)<|o1 24 (.app 6 88 [(vZ 0),(vZ 0),(vZ 0),(Ag []),nV,nV] 20 23)<|o1 26 (.app 6 88 [(vZ 0),(vZ 0),(vZ 0),(Ag []),nV,nV] 24 25)<|o1 30 (.app 6 88 [(vZ 0),(vZ 0),(vZ 0),(Ag []),nV,nV] 26 29) (.bar (pm 8 30 .done)))) .ret)))⟩
def Qj{P f}(hd:dec P f=some JO):Ih 6 Az P f:=by
 intro d v w xs ys i j hv hw hij hj hb;have n1:=RSl.BW hv;have n2:=RSl.BW hw;have hv':=hv;obtain⟨a,c,rfl⟩:=RSl.val hv;obtain⟨a2,c2,rfl⟩:=RSl.val hw;refine EK hd<|Es Z<|Br<|AR Z<|AK Z<|Ab Z<|DQ Z Z<|Ab Z<|AY Z Z<|AR Z<|AK Z<|AY Z Z<|QG (n:=0) (c:=xs.length - j+i+ys.length) Z (int_eq (by omega)) (by omega) (by omega) (by omega) (fun b9 T9=>?_);have o0:AQ 6 Az d (.slice (some ⟨b9,0,none⟩) 0 (xs.length - j+i+ys.length)) [] (bx b9 T9 (BZ [vZ 0,vZ 0,vZ 0,Ag [],nV,nV] ((xs.length - j+i+ys.length)*6))):=
  ⟨[],B5.mk Z (by simp) (Acu _) (by omega) (by simp[BZ]) Z,fun i hi=>absurd hi (Aec i)⟩
 refine AR Z<|Cr<|BS [] [_] Z<|AR Z<|AR Z<|Ab Z<|F8 (n:=i) Z hv' Z Z (by omega) (fun v23 hv23=>?_);refine AR Z<|AR Z<|Ab Z<|DN (n:=j) Z hv' Z Z (by omega) (fun v29 hv29=>?_);refine Dc (R:=Az) (xs:=[]) (ys:=xs.take i) 0 Z Z o0 Z (RSl.src (R:=Az) hv23 AW (by omega) _) (by omega) (by simp;omega) (by simp;omega) (fun v5 h5 hrow5=>?_);refine Dc (R:=Az) (xs:=[]++xs.take i) (ys:=ys) 0 Z Z hrow5 Z (RSl.src (R:=Az) hw AW (by omega) _) (by omega) (by simp;omega) (by simp;omega) (fun v6 h6 hrow6=>?_);refine Dc (R:=Az) (xs:=[]++xs.take i++ys) (ys:=xs.drop j) 0 Z Z hrow6 Z (RSl.src (R:=Az) hv29 AW (by omega) _) (by omega) (by simp;omega) (by simp;omega) (fun v7 h7 hrow7=>?_);obtain⟨a7,c7,rfl⟩:=hrow7.val;refine B0<|AR Z<|Bz<|Oj Z (fun d' hl hk=>⟨Z,hrow7.rsl (R:=Az) Cn (by omega) hl (hk _ (by simp))⟩)
def Ln(l:List V)(i:Int):V:=if 0≤i∧i<l.length then l.getD i.toNat V.zero else V.zero
def Ga{α}(l:List α)(ab:Int×Int):List α:=(l.drop ab.1.toNat).take (ab.2.toNat - ab.1.toNat)
def A8(v:V)(s:St):V×Int:=
 if v.kind=0 then(V.zero,0)
 else if s.kind=0∧v.kind=6 then(if s.text∈v.keys then v.list.getD (AT v.keys s.text) V.zero else V.zero,0)
 else if s.kind=1∧v.kind=5 then(Ln v.list (BL s.src v.list.length),0)
 else if s.kind=2∧v.kind=5 then(.mk 5 0 0 [] (Ga v.list (Bv s v.list.length)) [],0)
 else if s.kind=2∧v.kind=4 then(.mk 4 0 0 (Ga (chs v.text) (Bv s (chs v.text).length)).flatten [] [],0)
 else(V.zero,80)
def Ec(h:Cz v=true):rising v.keys=true:=by simp[Cz] at h;exact h.1.2
def RP(h:Cz v=true):u8 v.text=true:=by simp[Cz] at h;exact h.1.1.2
def GV(h:Cz v=true)(hk:v.kind=6):v.keys.length=v.list.length:=by
 simp[Cz] at h;rcases h.2 with h|h
 ·exact absurd hk h
 ·exact h
def DK{ρ d d0 L}{b t u:Nat}{T cs}{w:V}{e:Int}(i:Nat)(e4:ρ t=pZ b)(hi:L[i]?=some (bx b T cs))(e5:ρ u=vZ e)(hw:Az d0 cs w):
  Cb [.cell t (some 6),.tmp u] (Ret fun r _ L'=>L'=[]∧∃cs',r=.tuple #[.agg cs'.toArray,vZ e]∧Az d0 cs' w) ρ d L:=
 Ba (L':=[]) [.agg cs.toArray,vZ e] ⟨Bc i e4 hi (Az.len hw),Ea e5,trivial⟩ (Acb _) ⟨Z,cs,Z,hw⟩
def V5{d l}{b c:Nat}{T}(h1:(Ch l).length≤140737488355328)(h2:(Ch l).length≤c)(h3:c≤maxLen)(h4:Le (bx b T (Ch l++Adi (c - (Ch l).length) (.int .i32 0))) d):
  RSl 1 Yt d (.slice (some ⟨b,0,none⟩) (Ch l).length c) (rns l):=by
 have hl:(Ch l).length=(rns l).length:=by rw[Mb];simp
 have o:B5 1 (.slice (some ⟨b,0,none⟩) (Ch l).length c) (Ch l).length (Ch l) (bx b T (Ch l++Adi (c - (Ch l).length) (.int .i32 0))):=
  B5.mk (by omega) h1 h2 (by simp only[maxLen] at h3;omega) (by simp;omega) (by simp)
 refine o.Z8 h4 hl (fun i hi=>⟨.int .i32 (rns l)[i],?_,Z⟩)
 rw[Mb];simp[hi]
def H5(P:Program)(f:FuncId):Prop:=∀{d cs ds}{v:V}{s:St},Az d cs v→Cz v=true→v.text.length≤1000000000→RSt d ds s→
 Be P f [.agg cs.toArray,.agg ds.toArray] d [] (Ret fun r d' L'=>d'=d∧L'=[]∧∃cs',r=.tuple #[.agg cs'.toArray,vZ (A8 v s).2]∧Az d cs' (A8 v s).1)
def Rv(a0 a1 a2:Nat):Bo:=⟨122,[(.cell 4 (some 6)),(.tmp 5)],(sR (o1 2 (.box 0)<|o1 3 (.box 1)<|o1 4 (.alo (.agg #[(vZ 0),(vZ 0),(vZ 0),(Ag []),nV,nV]))<|o1 5 (.mv z0) .done) (.seq (.block 0 (sR (oj 15 0 2<|ol 16 15<|ob 17 .eql 16 z0<|om 14 17 .done) (.cond 14 (sR (o1 18 (.bld [(0,1),(1,2),(3,1),(4,1),(5,1)] [(vZ 0),(vZ 0),(vZ 0),(Ag []),nV,nV] [])<|o0 (.st 6 4 18)<|o1 5 (.mv z0) .done) .ret) (sR (oj 20 0 3<|ol 21 20<|ob 22 .eql 21 z0<|om 23 22<|oT 24 23 (.fld 0 2)<|oT 25 23 (.ld none 24)<|oT 26 23 (.bin .eql 25 (kZ 6))<|gP 27 23 26<|om 19 27 .done) (.cond 19 (.seq (sR (oj 29 5 2<|ol 30 29<|oj 31 1 3<|ol 32 31<|oc 33 a0 [30,32]<|om 28 33<|oe 34 28 0<|oe 35 28 1<|om 6 34<|om 7 35 .done) (sR (om 36 7 .done) (.cond 36 (sR (oj 37 4 2<|ol 38 37<|om 39 6<|oI 40 6 38 39<|o1 41 (.ld (some 6) 40)<|o0 (.st 6 4 41)<|o1 5 (.mv z0) .done) .ret) .skip))) (sR (o1 42 (.bld [(0,1),(1,2),(3,1),(4,1),(5,1)] [(vZ 0),(vZ 0),(vZ 0),(Ag []),nV,nV] [])<|o0 (.st 6 4 42)<|o1 5 (.mv z0) .done) .ret)) (sR (oj 44 0 3<|ol 45 44<|ob 46 .eql 45 z1<|om 47 46<|oT 48 47 (.fld 0 2)<|oT 49 47 (.ld none 48)<|oT 50 47 (.bin .eql 49 (kZ 5))<|gP 51 47 50<|om 43 51 .done) (.cond 43 (.seq (sR (oj 52 2 3<|ol 53 52<|oj 54 4 2<|ol 55 54<|oL 56 55<|oc 57 a1 [53,56]<|om 8 57 .done) (sR (om 58 8<|ob 59 .geq 58 z0<|om 60 59<|gT 61 60 8<|oT 62 60 (.fld 4 2)<|oT 63 60 (.ld none 62)<|oT 64 60 (.len 63)<|oT 65 60 (.bin .lss 61 64)<|gP 66 60 65 .done) (.cond 66 (sR (oj 67 4 2<|ol 68 67<|om 69 8<|oI 70 6 68 69<|o1 71 (.ld (some 6) 70)<|o0 (.st 6 4 71)<|o1 5 (.mv z0) .done) .ret) .skip))) (sR (o1 72 (.bld [(0,1),(1,2),(3,1),(4,1),(5,1)] [(vZ 0),(vZ 0),(vZ 0),(Ag []),nV,nV] [])<|o0 (.st 6 4 72)<|o1 5 (.mv z0) .done) .ret)) (sR (oj 74 0 3<|ol 75 74<|ob 76 .eql 75 z2<|om 77 76<|oT 78 77 (.fld 0 2)<|oT 79 77 (.ld none 78)<|oT 80 77 (.bin .eql 79 (kZ 5))<|gP 81 77 80<|om 73 81 .done) (.cond 73 (sR (o1 83 (.ld (some 6) 3)<|oj 84 4 2<|ol 85 84<|oL 86 85<|oc 87 a2 [83,86]<|om 82 87<|oe 88 82 0<|oe 89 82 1<|om 9 88<|om 10 89 .done) (sR (oj 90 4 2<|ol 91 90<|om 92 9<|om 93 10<|o1 94 (.sl 6 91 (some 92) (some 93) none)<|o1 95 (.bld [(0,1),(1,2),(3,1),(4,1),(5,1)] [(vZ 0),(vZ 0),(vZ 0),(Ag []),nV,nV] [(0,(kZ 5)),(3,94)])<|o0 (.st 6 4 95)<|o1 5 (.mv z0) .done) .ret)) (sR (oj 97 0 3<|ol 98 97<|ob 99 .eql 98 z2<|om 100 99<|oT 101 100 (.fld 0 2)<|oT 102 100 (.ld none 101)<|oT 103 100 (.bin .eql 102 (kZ 4))<|gP 104 100 103<|om 96 104 .done) (.cond 96 (sR (oj 105 3 2<|ol 106 105<|o1 107 (.s2r 106)<|om 11 107 .done) (sR (o1 109 (.ld (some 6) 3)<|om 110 11<|oL 111 110<|oc 112 a2 [109,111]<|om 108 112<|oe 113 108 0<|oe 114 108 1<|om 12 113<|om 13 114 .done) (sR (om 115 11<|om 116 12<|om 117 13<|o1 118 (.sl 1 115 (some 116) (some 117) none)<|o1 119 (.r2s 118)<|o1 120 (.bld [(0,1),(1,2),(3,1),(4,1),(5,1)] [(vZ 0),(vZ 0),(vZ 0),(Ag []),nV,nV] [(0,(kZ 4)),(2,119)])<|o0 (.st 6 4 120)<|o1 5 (.mv z0) .done) .ret))) .skip))))))))))) (sR (o1 121 (.bld [(0,1),(1,2),(3,1),(4,1),(5,1)] [(vZ 0),(vZ 0),(vZ 0),(Ag []),nV,nV] [])<|o0 (.st 6 4 121)<|o1 5 (.mv (kZ 80)) .done) .ret)))⟩
set_option maxHeartbeats 1000000 in
def Zl{P:Program}{f f1 f2 f3:FuncId}(hd:dec P f=some (Rv f1 f2 f3))(h1:Ja P f1)(h2:IB P f2)(h3:GB P f3):H5 P f:=by
 intro d cs ds v s hv hone hvt hs;have hr:=Ec hone;have hu:=RP hone;have hkl:=GV hone;refine Be.forget (Q:=fun r L'=>L'=[]∧∃cs',r=.tuple #[.agg cs'.toArray,vZ (A8 v s).2]∧Az d cs' (A8 v s).1) ?_;refine Cq hd (Aca Z) ?_;obtain⟨w,e,hF⟩:∃w e,A8 v s=(w,e):=⟨_,_,Z⟩
 rw[hF];have hs':=hs;obtain⟨hds,ik',it',is,id⟩:=hs';subst hds;obtain⟨lv,kv,rfl,ik,im,ie,it,hl,hks⟩:=hv.open;obtain⟨la,lc,rfl⟩:=RSl.val hl;obtain⟨ka,kc,rfl⟩:=RSl.val hks;have hl':RSl 6 Az d (.slice la v.list.length lc) v.list:=hl;have n1:=RSl.BW hl;have n2:=RSl.BW hks;show gwp P _ _ _ _ _;apply Ax;apply Ar;refine Bg (l:=[vZ v.kind,vZ v.m,vZ v.e,Ag v.text,.slice la v.list.length lc,.slice ka v.keys.length kc]) Z (fun b2 T2=>?_);refine Bg (l:=[vZ s.kind,Ag s.text,vZ s.src,vZ s.dst,.bool s.hf,.bool s.ht]) Z (fun b3 T3=>?_);(refine BV (fun _ _=>AL Z ?_));rename_i b4 T4;by_cases k0:v.kind=0
 ·rw[A8,if_pos k0] at hF;cases hF;(refine Ax<|Am<|Aj<|Ae Z<|Al Z (An 2 Z Z)<|Ai Z Z<|Ao Z<|Bn Z<|Aj<|Bs ?_);refine Au 0 [vZ 0,vZ 0,vZ 0,Ag [],nV,nV] Z Z Z Z (Aca Z) Z Z ?_;(refine AM Z ?_);exact DK 0 Z Z Z Az.zero
 by_cases s0:s.kind=0
 ·by_cases v6:v.kind=6
  ·rw[A8,if_neg k0,if_pos ⟨s0,v6⟩] at hF;(refine Ax<|Am<|Aj<|Ae Z<|Al Z (An 2 Z Z)<|Ai Z Z<|Ao Z<|AH Z<|Aj<|Ae Z<|Al Z (An 1 Z Z)<|Ai Z Z<|Ac Z<|AA Z<|Aa Z<|Ae Z<|Aa Z<|Al Z (An 2 Z Z)<|Aa Z<|Ai Z Z<|Ah Z Z<|Ao Z<|Bn Z<|Ap<|Ae Z<|Al Z (An 2 Z Z)<|Ae Z<|Al Z (An 1 Z Z) ?_);refine AG Z (h1 hks hr) ?_;by_cases hm:s.text∈v.keys
   ·rw[if_pos hm] at hF;cases hF;obtain⟨hlo,_⟩:=(mem_iff hr).1 hm;have hlo2:AT v.keys s.text<v.list.length:=by have:=hkl v6;omega
    (refine Bm Z<|Bx Z Z Z Z<|Ab Z<|Ao Z<|Aj<|Ao Z<|Bn Z<|Aj<|Ae Z<|Al Z (An 2 Z Z)<|Ab Z<|A2 (sz:=6) (R:=Az) (by rfl) (by assumption) (by rfl) Z (by omega) ?_;rintro _ _ _ _ _ _;apply CT;rfl;assumption;assumption);rename_i cs hcs hD hR;obtain⟨c0,c1,c2,c3,c4,c5,rfl⟩:=six hcs;refine Au 0 [c0,c1,c2,c3,c4,c5] Z Z Z Z (Aca Z) (AW _ _ _ hR) Z ?_;(refine AM Z ?_);exact DK 0 Z Z Z (by rw[show v.list.getD (AT v.keys s.text) V.zero=v.list[AT v.keys s.text] by simp[hlo2]];exact hR)
   ·rw[if_neg hm] at hF;cases hF;(refine Bm Z<|Bx Z Z Z Z<|Ab Z<|Ao Z<|Aj<|Ao Z<|AH Z<|Ay<|Aj<|Bs ?_);refine Au 0 [vZ 0,vZ 0,vZ 0,Ag [],nV,nV] Z Z Z Z (Aca Z) Z Z ?_;(refine AM Z ?_);exact DK 0 Z Z Z Az.zero
  ·rw[A8,if_neg k0,if_neg (fun h=>v6 h.2),if_neg (fun h=>by omega),if_neg (fun h=>by omega),if_neg (fun h=>by omega)] at hF;cases hF;(refine Ax<|Am<|Aj<|Ae Z<|Al Z (An 2 Z Z)<|Ai Z Z<|Ao Z<|AH Z<|Aj<|Ae Z<|Al Z (An 1 Z Z)<|Ai Z Z<|Ac Z<|AA Z<|Aa Z<|Ae Z<|Aa Z<|Al Z (An 2 Z Z)<|Aa Z<|Ai Z Z<|Ah Z Z<|Ao Z<|AH Z<|Aj<|Ae Z<|Al Z (An 1 Z Z)<|Ai Z Z<|Ac Z<|Aw Z<|Aq Z Z<|AF Z<|Af Z Z<|Ao Z<|A7 Z<|Aj<|Ae Z<|Al Z (An 1 Z Z)<|Ai Z Z<|Ac Z<|Aw Z<|Aq Z Z<|AF Z<|Af Z Z<|Ao Z<|A7 Z<|Aj<|Ae Z<|Al Z (An 1 Z Z)<|Ai Z Z<|Ac Z<|Aw Z<|Aq Z Z<|AF Z<|Af Z Z<|Ao Z<|A7 Z<|Ay<|Aj<|Bs ?_);refine Au 0 [vZ 0,vZ 0,vZ 0,Ag [],nV,nV] Z Z Z Z (Aca Z) Z Z ?_;(refine AM Z ?_);exact DK 0 Z Z Z Az.zero
 by_cases s1:s.kind=1
 ·by_cases v5:v.kind=5
  ·rw[A8,if_neg k0,if_neg (fun h=>s0 h.1),if_pos ⟨s1,v5⟩,Ln] at hF;(refine Ax<|Am<|Aj<|Ae Z<|Al Z (An 2 Z Z)<|Ai Z Z<|Ao Z<|AH Z<|Aj<|Ae Z<|Al Z (An 1 Z Z)<|Ai Z Z<|Ac Z<|Aw Z<|Aq Z Z<|AF Z<|Af Z Z<|Ao Z<|A7 Z<|Aj<|Ae Z<|Al Z (An 1 Z Z)<|Ai Z Z<|Ac Z<|AA Z<|Aa Z<|Ae Z<|Aa Z<|Al Z (An 2 Z Z)<|Aa Z<|Ai Z Z<|Ah Z Z<|Ao Z<|Bn Z<|Ap<|Ae Z<|Al Z (An 1 Z Z)<|Ae Z<|Al Z (An 2 Z Z)<|AK Z ?_);refine AG Z (h2 is (by omega) (by omega)) ?_;by_cases p0:0≤BL s.src v.list.length
   ·by_cases p1:BL s.src v.list.length<v.list.length
    ·rw[if_pos ⟨p0,p1⟩] at hF;cases hF;have hlo2:(BL s.src v.list.length).toNat<v.list.length:=by omega
     (refine Bt Z<|Ab Z<|A5 Z Z<|Ac Z<|AA Z<|Aa Z<|Ab Z<|Aa Z<|Ae Z<|Aa Z<|Al Z (An 2 Z Z)<|Aa Z<|AK Z<|Aa Z<|As Z Z<|Ah Z Z<|AE Z<|Aj<|Ae Z<|Al Z (An 2 Z Z)<|Ab Z ?_);refine A2 (sz:=6) (R:=Az) (m:=(BL s.src v.list.length).toNat) (by rfl) hl' (by rfl) (by omega) hlo2 ?_;rintro _ _ cs hcs hD hR;(apply CT;rfl;assumption;assumption);obtain⟨c0,c1,c2,c3,c4,c5,rfl⟩:=six hcs;refine Au 0 [c0,c1,c2,c3,c4,c5] Z Z Z Z (Aca Z) (AW _ _ _ hR) Z ?_;(refine AM Z ?_);exact DK 0 Z Z Z (by rw[show v.list.getD (BL s.src v.list.length).toNat V.zero=v.list[(BL s.src v.list.length).toNat] by simp[hlo2]];exact hR)
    ·rw[if_neg (fun h=>p1 h.2)] at hF;cases hF;(refine Bt Z<|Ab Z<|A5 Z Z<|Ac Z<|AA Z<|Aa Z<|Ab Z<|Aa Z<|Ae Z<|Aa Z<|Al Z (An 2 Z Z)<|Aa Z<|AK Z<|Aa Z<|As Z Z<|Ah Z Z<|AJ Z<|Aj<|Bs ?_);refine Au 0 [vZ 0,vZ 0,vZ 0,Ag [],nV,nV] Z Z Z Z (Aca Z) Z Z ?_;(refine AM Z ?_);exact DK 0 Z Z Z Az.zero
   ·rw[if_neg (fun h=>p0 h.1)] at hF;cases hF;(refine Bt Z<|Ab Z<|A5 Z Z<|Ac Z<|Aw Z<|Aq Z Z<|Aq Z Z<|AF Z<|Af Z Z<|Bh Z<|Aj<|Bs ?_);refine Au 0 [vZ 0,vZ 0,vZ 0,Ag [],nV,nV] Z Z Z Z (Aca Z) Z Z ?_;(refine AM Z ?_);exact DK 0 Z Z Z Az.zero
  ·rw[A8,if_neg k0,if_neg (fun h=>s0 h.1),if_neg (fun h=>v5 h.2),if_neg (fun h=>by omega),if_neg (fun h=>by omega)] at hF;cases hF;(refine Ax<|Am<|Aj<|Ae Z<|Al Z (An 2 Z Z)<|Ai Z Z<|Ao Z<|AH Z<|Aj<|Ae Z<|Al Z (An 1 Z Z)<|Ai Z Z<|Ac Z<|Aw Z<|Aq Z Z<|AF Z<|Af Z Z<|Ao Z<|A7 Z<|Aj<|Ae Z<|Al Z (An 1 Z Z)<|Ai Z Z<|Ac Z<|AA Z<|Aa Z<|Ae Z<|Aa Z<|Al Z (An 2 Z Z)<|Aa Z<|Ai Z Z<|Ah Z Z<|Ao Z<|AH Z<|Aj<|Ae Z<|Al Z (An 1 Z Z)<|Ai Z Z<|Ac Z<|Aw Z<|Aq Z Z<|AF Z<|Af Z Z<|Ao Z<|A7 Z<|Aj<|Ae Z<|Al Z (An 1 Z Z)<|Ai Z Z<|Ac Z<|Aw Z<|Aq Z Z<|AF Z<|Af Z Z<|Ao Z<|A7 Z<|Ay<|Aj<|Bs ?_);refine Au 0 [vZ 0,vZ 0,vZ 0,Ag [],nV,nV] Z Z Z Z (Aca Z) Z Z ?_;(refine AM Z ?_);exact DK 0 Z Z Z Az.zero
 by_cases s2:s.kind=2
 ·by_cases v5:v.kind=5
  ·rw[A8,if_neg k0,if_neg (fun h=>s0 h.1),if_neg (fun h=>s1 h.1),if_pos ⟨s2,v5⟩] at hF;cases hF;have hends:=D9 s (k:=v.list.length) (by omega);(refine Ax<|Am<|Aj<|Ae Z<|Al Z (An 2 Z Z)<|Ai Z Z<|Ao Z<|AH Z<|Aj<|Ae Z<|Al Z (An 1 Z Z)<|Ai Z Z<|Ac Z<|Aw Z<|Aq Z Z<|AF Z<|Af Z Z<|Ao Z<|A7 Z<|Aj<|Ae Z<|Al Z (An 1 Z Z)<|Ai Z Z<|Ac Z<|Aw Z<|Aq Z Z<|AF Z<|Af Z Z<|Ao Z<|A7 Z<|Aj<|Ae Z<|Al Z (An 1 Z Z)<|Ai Z Z<|Ac Z<|AA Z<|Aa Z<|Ae Z<|Aa Z<|Al Z (An 2 Z Z)<|Aa Z<|Ai Z Z<|Ah Z Z<|Ao Z<|Bn Z<|Aj<|AP 1 Z Z Z<|Ae Z<|Al Z (An 2 Z Z)<|AK Z ?_);refine AG Z (h3 hs (by omega) (by omega)) ?_;(refine Bm Z<|Bx Z Z Z Z<|Ab Z<|Bt Z<|Ae Z<|Al Z (An 2 Z Z)<|Ab Z<|Ab Z ?_);refine Pz (n:=(Bv s v.list.length).1.toNat) (m:=(Bv s v.list.length).2.toNat) Z hl' Z Z (by omega) (by omega) (by omega) (by omega) (fun v' hv'=>?_);obtain⟨sa,sc,rfl⟩:=RSl.val hv';(apply EI;rfl;rfl);refine Au 0 [vZ 5,vZ 0,vZ 0,Ag [],.slice sa _ sc,nV] Z Z Z Z (Aca Z) Z Z ?_;(refine AM Z ?_);exact DK 0 Z Z Z (Az.close (v:=.mk 5 0 0 [] (Ga v.list (Bv s v.list.length)) []) FX BY BY (by simp) hv' RSl.nil)
  by_cases v4:v.kind=4
  ·rw[A8,if_neg k0,if_neg (fun h=>s0 h.1),if_neg (fun h=>s1 h.1),if_neg (fun h=>v5 h.2),if_pos ⟨s2,v4⟩] at hF;cases hF;have hrl:(Ch v.text).length=(chs v.text).length:=by rw[Mb];simp[Po]
   have hcl:=MM v.text;have hends:=D9 s (k:=(chs v.text).length) (by omega);have hrn:=Po v.text;(refine Ax<|Am<|Aj<|Ae Z<|Al Z (An 2 Z Z)<|Ai Z Z<|Ao Z<|AH Z<|Aj<|Ae Z<|Al Z (An 1 Z Z)<|Ai Z Z<|Ac Z<|Aw Z<|Aq Z Z<|AF Z<|Af Z Z<|Ao Z<|A7 Z<|Aj<|Ae Z<|Al Z (An 1 Z Z)<|Ai Z Z<|Ac Z<|Aw Z<|Aq Z Z<|AF Z<|Af Z Z<|Ao Z<|A7 Z<|Aj<|Ae Z<|Al Z (An 1 Z Z)<|Ai Z Z<|Ac Z<|AA Z<|Aa Z<|Ae Z<|Aa Z<|Al Z (An 2 Z Z)<|Aa Z<|Ai Z Z<|Ah Z Z<|Ao Z<|AH Z<|Aj<|Ae Z<|Al Z (An 1 Z Z)<|Ai Z Z<|Ac Z<|AA Z<|Aa Z<|Ae Z<|Aa Z<|Al Z (An 2 Z Z)<|Aa Z<|Ai Z Z<|Ah Z Z<|Ao Z<|Bn Z<|Aj<|Ae Z<|Al Z (An 2 Z Z) ?_);refine Abt Z (by omega) (fun b11 T11 c11 hc1 hc2=>?_);refine DI (fun d5 hl5 hg5=>?_);have hrr:=V5 (by omega) hc1 hc2 hg5;rw[hrl] at hrr⊢;(refine AR Z<|Br<|AP 1 Z Z Z<|AR Z<|AK Z ?_);refine AG Z (h3 (d:=d5) hs (by omega) (by omega)) ?_;(refine Bm Z<|Bx Z Z Z Z<|Ab Z<|Bt Z<|AR Z<|Ab Z<|Ab Z ?_);refine Pz (n:=(Bv s (chs v.text).length).1.toNat) (m:=(Bv s (chs v.text).length).2.toNat) Z hrr Z Z (by omega) (by omega) (by omega) (by omega) (fun v' hv'=>?_);refine Abx Z hv' ?_;rw[XO hu];(apply Vz;rfl;rfl);refine Au 0 [vZ 4,vZ 0,vZ 0,Ag (Ga (chs v.text) (Bv s (chs v.text).length)).flatten,nV,nV] Z Z Z Z (Aca Z) Z Z ?_;(refine AM Z ?_);exact DK 0 Z Z Z (Az.close (v:=.mk 4 0 0 (Ga (chs v.text) (Bv s (chs v.text).length)).flatten [] []) Yh BY BY (Nat.le_trans (KJ _ _) it) RSl.nil RSl.nil)
  rw[A8,if_neg k0,if_neg (fun h=>s0 h.1),if_neg (fun h=>s1 h.1),if_neg (fun h=>v5 h.2),if_neg (fun h=>v4 h.2)] at hF;cases hF;(refine Ax<|Am<|Aj<|Ae Z<|Al Z (An 2 Z Z)<|Ai Z Z<|Ao Z<|AH Z<|Aj<|Ae Z<|Al Z (An 1 Z Z)<|Ai Z Z<|Ac Z<|Aw Z<|Aq Z Z<|AF Z<|Af Z Z<|Ao Z<|A7 Z<|Aj<|Ae Z<|Al Z (An 1 Z Z)<|Ai Z Z<|Ac Z<|Aw Z<|Aq Z Z<|AF Z<|Af Z Z<|Ao Z<|A7 Z<|Aj<|Ae Z<|Al Z (An 1 Z Z)<|Ai Z Z<|Ac Z<|AA Z<|Aa Z<|Ae Z<|Aa Z<|Al Z (An 2 Z Z)<|Aa Z<|Ai Z Z<|Ah Z Z<|Ao Z<|AH Z<|Aj<|Ae Z<|Al Z (An 1 Z Z)<|Ai Z Z<|Ac Z<|AA Z<|Aa Z<|Ae Z<|Aa Z<|Al Z (An 2 Z Z)<|Aa Z<|Ai Z Z<|Ah Z Z<|Ao Z<|AH Z<|Ay<|Aj<|Bs ?_);refine Au 0 [vZ 0,vZ 0,vZ 0,Ag [],nV,nV] Z Z Z Z (Aca Z) Z Z ?_;(refine AM Z ?_);exact DK 0 Z Z Z Az.zero
 rw[A8,if_neg k0,if_neg (fun h=>s0 h.1),if_neg (fun h=>s1 h.1),if_neg (fun h=>s2 h.1),if_neg (fun h=>s2 h.1)] at hF;cases hF;(refine Ax<|Am<|Aj<|Ae Z<|Al Z (An 2 Z Z)<|Ai Z Z<|Ao Z<|AH Z<|Aj<|Ae Z<|Al Z (An 1 Z Z)<|Ai Z Z<|Ac Z<|Aw Z<|Aq Z Z<|AF Z<|Af Z Z<|Ao Z<|A7 Z<|Aj<|Ae Z<|Al Z (An 1 Z Z)<|Ai Z Z<|Ac Z<|Aw Z<|Aq Z Z<|AF Z<|Af Z Z<|Ao Z<|A7 Z<|Aj<|Ae Z<|Al Z (An 1 Z Z)<|Ai Z Z<|Ac Z<|Aw Z<|Aq Z Z<|AF Z<|Af Z Z<|Ao Z<|A7 Z<|Aj<|Ae Z<|Al Z (An 1 Z Z)<|Ai Z Z<|Ac Z<|Aw Z<|Aq Z Z<|AF Z<|Af Z Z<|Ao Z<|A7 Z<|Ay<|Aj<|Bs ?_);refine Au 0 [vZ 0,vZ 0,vZ 0,Ag [],nV,nV] Z Z Z Z (Aca Z) Z Z ?_;(refine AM Z ?_);exact DK 0 Z Z Z Az.zero
end Go.Gk.Val
end
