/-
  Our own texts, one behind the other: GkV2 GkV3 GkV10 GkTabs Gk21 GkV4 GkU2 GkV5 GkV6 GkV7 GkV8 Gk17 GkV9 GkVArg0 GkU3 GkS0.
-/
import Derived.Shelf.Unicode.ValidAny
import Derived.Lib.RuneCountTail
import Derived.Lib.QuoteLoop
import Derived.Lib.MapLaws
import Derived.Lib.ValidLaws
import Derived.Test.YtoepkkjejljfbaaGreatDoorPzB
set_option linter.defProp false
set_option linter.unusedVariables false
set_option linter.unusedSimpArgs false
open Nat renaming le_of_ble_eq_true→No,le_refl→ZL,zero_le→ZN,not_lt_zero→Z3,zero_mul→Acf,sub_self→Acg,pow_succ→Ach,pow_le_pow_right→Acn
open List renaming take_succ_eq_append_getElem→ZA,nil_sublist→ZB,getElem_mem→ZC,eq_nil_of_length_eq_zero→ZD,mem_cons_of_mem→ZE,all_eq_true→ZF,mem_cons_self→ZG,length_append→ZH,getElem?_eq_getElem→ZJ,mem_append→ZK,mem_cons→ZR,length_cons→ZU,take_length→ZV,nil_append→Z5,cons_append→Z6,take_of_length_le→Z7,range→Z8,length_drop→Aab,length_singleton→Aak,length_pos_iff→Aan,getElem?_append_left→Aaq,mem_of_mem_take→Aar,getElem?_map→Aat,flatten_cons→Aaw,map_cons→Abc,length→Abu,take_succ_cons→Abx,getD→Acd,drop_zero→Acv,all_append→Adg
open Bool renaming and_eq_true→Zz,false_eq_true→ZX,or_eq_true→Aad,not_eq_true→Abk,eq_iff_iff→Abr,true_and→Adb
open List.Sublist renaming refl→ZS
open Option renaming bind_eq_some_iff→ZZ
open List.Perm renaming swap→Z0
section
namespace Go.Gk.Val
open Go Go.Gk
attribute [local irreducible] gwp gws
variable{ks:List (List UInt8)}{P:Program}{f f1:FuncId}{k m e:Int}{l:List V}
mutual
def Bc:V→Nat
 |.mk _ _ _ _ l _=>C6 l+1
def C6:List V→Nat
 |[]=>0
 |x::l=>max (Bc x) (C6 l)
end
def GL{n:Nat}:∀{l:List V},C6 l≤n↔∀x∈l,Bc x≤n
 |[]=>by simp[C6]
 |x::l=>by
  simp only[C6,ZR,forall_eq_or_imp];rw[←GL (l:=l)];omega
def DQ{v:V}{n:Nat}:Bc v≤n+1↔∀x∈v.list,Bc x≤n:=by
 obtain⟨k,m,e,t,l,ks⟩:=v;simp only[Bc,V.list];rw[←GL];omega
def EL(v:V):1≤Bc v:=by obtain⟨k,m,e,t,l,ks⟩:=v;simp only[Bc];omega
def u8(l:List UInt8):Bool:=Lib.validD l
def Br(m e:Int):Bool:=if m=0 then decide (e=0) else decide (-1000000000000000000<m∧m<1000000000000000000∧m % 10≠0∧ -64≤e∧e≤64)
def FJ(ks:List (List UInt8))(i:Nat):Bool:=u8 (ks.getD i [])&&(i==0||Op.bytesLess (ks.getD (i - 1) []) (ks.getD i []))
def D5(ks:List (List UInt8)):Nat→Bool
 |0=>true
 |k+1=>D5 ks k && FJ ks k
def rising(ks:List (List UInt8)):Bool:=D5 ks ks.length
def FA{k:Nat}(h:FJ ks k=false):∀{m:Nat},k<m→D5 ks m=false:=by
 intro m hm;induction hm with
 |refl=>simp[D5,h]
 |step _ ih=>simp[D5,ih]
def Cf(v:V):Bool:=decide (0≤v.kind∧v.kind≤6)&&(decide (v.kind=3)||decide (v.m=0∧v.e=0))&&(decide (v.kind=4)||decide (v.text=[]))&&(decide (5≤v.kind)||decide (v.list=[]))&&(decide (v.kind=6)||decide (v.keys=[]))
def BW(v:V):Bool:=Cf v && Br v.m v.e && u8 v.text && rising v.keys &&(decide (v.kind≠6)||decide (v.keys.length=v.list.length))
mutual
def BH:V→Bool
 |.mk k m e t l ks=>BW (.mk k m e t l ks)&& Tz l
def Tz:List V→Bool
 |[]=>true
 |x::l=>BH x && Tz l
end
def QV:∀l:List V,Tz l=l.all BH
 |[]=>rfl
 |x::l=>by simp[Tz,QV l]
def Ed(v:V):BH v=(BW v && v.list.all BH):=by obtain⟨k,m,e,t,l,ks⟩:=v;simp[BH,QV,V.list]
def AS(v:V):Int:=if Bc v≤48 then(if BH v then 0 else 30) else 31
def Lw(P:Program)(f:FuncId):Prop:=∀{d v}{l:List V}{g cap}{p:V→Bool},BL d v l→(∀x∈l,∀cs,Aw d cs x→AM P g (.agg cs.toArray::cap) d (.bool (p x)))→
 AM P f [v,.func (.func g) #[] cap.toArray] d (.bool (l.all p))
def HY:A6:=⟨18,[(.tmp 4)],(sR (o1 4 (.mv (.const (.bool false))) .done) (.seq (sR (om 7 0<|oL 8 7<|o1 9 (.mv z0) .done) (.block 0 (.loop (sR (ob 10 .lss 9 8 .done) (.seq (.cond 10 .skip (.exit 0)) (.seq (.block 1 (sR (oI 11 6 7 9<|o1 12 (.ld (some 6) 11)<|o1 6 (.alo (.agg #[(vZ 0),(vZ 0),(vZ 0),(Al []),(.slice none 0 0),(.slice none 0 0)]))<|o0 (.st 6 6 12) .done) (sR (om 13 1<|o1 14 (.ld (some 6) 6)<|o1 15 (.callv 13 [14])<|o1 16 (.un .not 15) .done) (.cond 16 (sR (o1 4 (.mv (.const (.bool false))) .done) .ret) .skip)))) (rG (ob 17 .add 9 z1<|om 9 17 .done)))))))) (sR (o1 4 (.mv (.const (.bool true))) .done) .ret)))⟩
def VZ(hd:dec P f=some HY):Lw P f:=by
 intro d v l g cap p hv hg;have hll:=RSl.Be hv;obtain⟨a,c,rfl⟩:=RSl.val hv;refine Bd hd (No rfl) ?_;show gwp P _ _ _ _ _;(refine Ac<|Ad rfl<|Aa<|Ai<|Ac<|As rfl<|AA rfl<|Ab rfl<|Aa<|Av ?_);refine Bg (α:=Nat) (fun i=>[(1,.func (.func g) #[] cap.toArray),(7,.slice a l.length c),(8,vZ l.length),(9,vZ i)])
  (fun i d' L'=>d'=d∧i≤l.length∧(l.take i).all p=true) (fun i=>l.length - i) 0 ⟨rfl,rfl,rfl,rfl,trivial⟩ ⟨rfl,ZN _,by simp⟩ ?_
 rintro i ρ d' L' ⟨hdd,hi,hp⟩;subst hdd;have hv':RSl 6 Aw d' (.slice a l.length c) l:=hv;(refine Ac<|Ax rfl rfl<|Aa<|Ai ?_);first|refine Y7 rfl (fun hc=>?_) (fun hc=>?_)|refine Zu rfl (fun hc=>?_) (fun hc=>?_)
 ·have hi1:i<l.length:=by omega
  (refine Am<|Ai<|Av<|Ac<|AJ (sz:=6) (R:=Aw) (by rfl) (by assumption) (by rfl) rfl (by omega) ?_;rintro _ _ _ _ _ _;refine BE rfl (by assumption) (by assumption)<|AX (fun _ _=>?_));rename_i cs hcs hD hR b6 T6;obtain⟨c0,c1,c2,c3,c4,c5,rfl⟩:∃c0 c1 c2 c3 c4 c5,cs=[c0,c1,c2,c3,c4,c5]:=by
   match cs,hcs with
   |[a,b,c,d,e,f],_=>exact⟨a,b,c,d,e,f,rfl⟩
  have h1c:=AH _ _ _ hR;refine Az 0 [c0,c1,c2,c3,c4,c5] rfl rfl rfl rfl (No rfl) h1c rfl ?_;(refine Aa<|Ac<|CV rfl<|AD 0 rfl rfl rfl ?_);refine Ea (vs:=.agg [c0,c1,c2,c3,c4,c5].toArray::cap) rfl (by simp;rfl) (hg _ (ZC hi1) _ hR) ?_;cases hpx:p l[i] with
  |false=>
   (refine Bi rfl<|Aa<|Bb rfl<|Ac<|Ad rfl<|Aa<|Ar ?_)
   apply W6;rfl
   rw[eq_comm,←Abk,ZF]
   intro h;rw[h _ (ZC hi1)] at hpx;cases hpx
  |true=>
   (refine Bi rfl<|Aa<|AK rfl<|Am<|Ay<|AI rfl rfl (by omega) (by omega)<|Ab rfl<|Aa ?_)
   exact⟨i+1,by omega,⟨rfl,rfl,rfl,int_eq (by omega),trivial⟩,rfl,hi1,by rw[ZA hi1,Adg,hp];simp[hpx]⟩
 ·obtain rfl:i=l.length:=by omega
  rw[ZV] at hp;(refine AV<|Ac<|Ad rfl<|Aa<|Ar ?_);apply W6;rfl;exact hp.symm
def K0(P:Program)(f:FuncId):Prop:=∀(v:V) {d cs}{k:Nat},Aw d cs v→k≤1000000→AM P f [.agg cs.toArray,vZ k] d (.bool (decide (Bc v≤k)))
def LH(a0:Nat):A6:=⟨8,[(.tmp 3)],(sR (o1 2 (.box 0)<|o1 3 (.mv (.const (.bool false))) .done) (sR (o1 4 (.ld (some 6) 2)<|ol 5 1<|ob 6 .sub 5 z1<|oc 7 a0 [4,6]<|om 3 7 .done) .ret))⟩
def Np(a0 a1:Nat):A6:=⟨13,[(.tmp 4)],(sR (o1 2 (.box 0)<|o1 3 (.box 1)<|o1 4 (.mv (.const (.bool false))) .done) (sR (ol 5 3<|ob 6 .gtr 5 z0<|om 7 6<|oT 8 7 (.fld 4 2)<|oT 9 7 (.ld none 8)<|oT 10 7 (.mkf (.func a0) [] [3])<|oT 11 7 (.call a1 [9,10])<|gP 12 7 11<|om 4 12 .done) .ret))⟩
def Tp{f2}(hd:dec P f=some (Np f1 f2))(h1:dec P f1=some (LH f))(h2:Lw P f2):K0 P f:=by
 intro v;induction v using V.ind with
 |h v ih=>
 intro d cs k hv hk;refine AM.of' hd (No rfl) ?_;obtain⟨lv,kv,rfl,ik,im,ie,it,hl,hks⟩:=hv.open;show gwp P _ _ _ _ _;apply Ai;apply Ay;refine AO (l:=[vZ v.kind,vZ v.m,vZ v.e,Al v.text,lv,kv]) rfl (fun b2 T2=>?_);refine Xd (v:=vZ k) rfl (fun b3 T3=>?_);refine BF (fun d3 hl3 hg3=>?_);have hc3:DCs d3 b3 0 [vZ k]:=HF hg3;by_cases hk0:k=0
 ·subst hk0;(refine Ad rfl<|Aa<|Ac<|Ah rfl (A1 (by assumption) rfl)<|AP rfl rfl<|Ad rfl<|AB rfl (by omega)<|Ak rfl<|Ak rfl<|Ak rfl<|Ak rfl<|An rfl rfl<|Ad rfl<|Aa<|Ar ?_);apply Bf;rfl;have:=EL v;simp;omega
 ·obtain⟨k,rfl⟩:∃j,k=j+1:=⟨k - 1,by omega⟩
  (refine Ad rfl<|Aa<|Ac<|Ah rfl (A1 (by assumption) rfl)<|AP rfl rfl<|Ad rfl<|AE rfl (by omega)<|Ae rfl<|Af rfl<|Ae rfl<|Ah rfl (Aj 0 rfl rfl)<|Ae rfl<|W8<|Ae rfl ?_);refine AF rfl (h2 (g:=f1) (cap:=[pZ b3]) (p:=fun x=>decide (Bc x≤k)) (BL.mono hl hl3) (fun x hx cs hcs=>?_)) ?_
  ·refine AM.of' h1 (No rfl) ?_;obtain⟨lv,kv,rfl,_⟩:=hcs.open;show gwp P _ _ _ _ _;apply Ai;apply Ay;refine AO (l:=[vZ x.kind,vZ x.m,vZ x.e,Al x.text,lv,kv]) rfl (fun b5 T5=>?_);(refine Ad rfl<|Aa<|Ac<|AD 0 rfl rfl rfl<|Ah rfl (A1 (by assumption) rfl)<|Bn rfl rfl (by omega) (by omega) ?_);have e:((k+1:Nat):Int) - 1=(k:Int):=by omega
   rw[e];refine AF rfl (ih x hx hcs (by omega)) ?_;(refine Ad rfl<|Aa<|Ar ?_);exact BI rfl
  ·(refine Ap rfl rfl<|Ad rfl<|Aa<|Ar ?_);apply Bf;rfl;rw[Abr];simp only[ZF,decide_eq_true_eq];exact DQ.symm
def QG{t}(h:k<0∨6<k):Cf (.mk k m e t l ks)=false:=by
 simp only[Cf,V.kind];rw[decide_eq_false (show¬(0≤k∧k≤6) by omega)];rfl
def Y3{t}(h:k≠3)(h':¬(m=0∧e=0)):Cf (.mk k m e t l ks)=false:=by
 simp only[Cf,V.kind,V.m,V.e];rw[decide_eq_false h,decide_eq_false h'];simp
def TW{t}(h:k≠4)(h':t≠[]):Cf (.mk k m e t l ks)=false:=by
 simp only[Cf,V.kind,V.text];rw[decide_eq_false h,decide_eq_false h'];simp
def P1{t}(h:k<5)(h':0<l.length):Cf (.mk k m e t l ks)=false:=by
 have h2:¬l=[]:=by intro h;subst h;simp at h'
 simp only[Cf,V.kind,V.list];rw[decide_eq_false (show¬5≤k by omega),decide_eq_false h2];simp
def Lq{t}(h:k≠6)(h':0<ks.length):Cf (.mk k m e t l ks)=false:=by
 have h2:¬ks=[]:=by intro h;subst h;simp at h'
 simp only[Cf,V.kind,V.keys];rw[decide_eq_false h,decide_eq_false h2];simp
def Qp(P:Program)(f:FuncId):Prop:=∀{d cs}{v:V},Aw d cs v→AM P f [.agg cs.toArray] d (.bool (Cf v))
def Qq:A6:=⟨49,[(.tmp 2)],(sR (o1 1 (.box 0)<|o1 2 (.mv (.const (.bool false))) .done) (.seq (.block 0 (sR (oj 4 0 1<|ol 5 4<|ob 6 .lss 5 z0<|om 7 6<|oF 8 7 (.fld 0 1)<|oF 9 7 (.ld none 8)<|oF 10 7 (.bin .gtr 9 (kZ 6))<|o1 11 (.pick 7 (.const (.bool true)) 10)<|om 3 11 .done) (.cond 3 (sR (o1 2 (.mv (.const (.bool false))) .done) .ret) (.seq (sR (oj 13 0 1<|ol 14 13<|ob 15 .neq 14 (kZ 3)<|om 16 15<|oT 17 16 (.fld 1 1)<|oT 18 16 (.ld (some 2) 17)<|oT 19 16 (.bld [(0,1),(1,1)] [(vZ 0),(vZ 0)] [])<|oT 20 16 (.eqc true [(0,0),(0,1)] 18 19)<|gP 21 16 20<|om 12 21 .done) (.cond 12 .skip (rG (oj 22 0 1<|ol 23 22<|ob 24 .neq 23 (kZ 4)<|om 25 24<|oT 26 25 (.fld 3 1)<|oT 27 25 (.ld none 26)<|oT 28 25 (.bin .neq 27 (.const (Al [])))<|gP 29 25 28<|om 12 29 .done)))) (.cond 12 (sR (o1 2 (.mv (.const (.bool false))) .done) .ret) (.seq (sR (oj 31 0 1<|ol 32 31<|ob 33 .lss 32 (kZ 5)<|om 34 33<|oT 35 34 (.fld 4 1)<|oT 36 34 (.ld none 35)<|oT 37 34 (.len 36)<|oT 38 34 (.bin .gtr 37 z0)<|gP 39 34 38<|om 30 39 .done) (.cond 30 .skip (rG (oj 40 0 1<|ol 41 40<|ob 42 .neq 41 (kZ 6)<|om 43 42<|oT 44 43 (.fld 5 1)<|oT 45 43 (.ld none 44)<|oT 46 43 (.len 45)<|oT 47 43 (.bin .gtr 46 z0)<|gP 48 43 47<|om 30 48 .done)))) (.cond 30 (sR (o1 2 (.mv (.const (.bool false))) .done) .ret) .skip))))))) (sR (o1 2 (.mv (.const (.bool true))) .done) .ret)))⟩
def Xo(hd:dec P f=some Qq):Qp P f:=by
 intro d cs v hv;refine AM.of' hd (No rfl) ?_;obtain⟨lv,kv,rfl,ik,im,ie,it,hl,hks⟩:=hv.open;obtain⟨la,lc,rfl⟩:=RSl.val hl;obtain⟨ka,kc,rfl⟩:=RSl.val hks;obtain⟨k,m,e,t,l,ks⟩:=v;simp only[V.kind,V.m,V.e,V.text,V.list,V.keys] at*;show gwp P _ _ _ _ _;by_cases h1:k<0
 ·(refine Ac<|AO rfl (fun _ _=>Ad rfl<|Aa<|Ai<|Av<|Ac<|Af rfl<|Ah rfl (Aj 0 rfl rfl)<|Ax rfl rfl<|Ad rfl<|AE rfl (by omega)<|Ak rfl<|Ak rfl<|Ak rfl<|Ap rfl rfl<|Ad rfl<|Aa<|Bb rfl<|Ac<|Ad rfl<|Aa<|Ar ?_));apply Bf;rfl;exact(QG (by omega)).symm
 by_cases h2:k>6
 ·(refine Ac<|AO rfl (fun _ _=>Ad rfl<|Aa<|Ai<|Av<|Ac<|Af rfl<|Ah rfl (Aj 0 rfl rfl)<|Ax rfl rfl<|Ad rfl<|AB rfl (by omega)<|Ae rfl<|Af rfl<|Ae rfl<|Ah rfl (Aj 0 rfl rfl)<|Ae rfl<|AP rfl rfl<|An rfl rfl<|Ad rfl<|Aa<|Au rfl (by omega)<|Ac<|Ad rfl<|Aa<|Ar ?_));apply Bf;rfl;exact(QG (by omega)).symm
 by_cases h3:k≠3∧(true ^^(decide (m=0)&& decide (e=0)))=true
 ·obtain⟨h3,h4⟩:=h3;have h5:¬(m=0∧e=0):=by intro ⟨h,h'⟩;simp[h,h'] at h4
  (refine Ac<|AO rfl (fun _ _=>Ad rfl<|Aa<|Ai<|Av<|Ac<|Af rfl<|Ah rfl (Aj 0 rfl rfl)<|Ax rfl rfl<|Ad rfl<|AB rfl (by omega)<|Ae rfl<|Af rfl<|Ae rfl<|Ah rfl (Aj 0 rfl rfl)<|Ae rfl<|AP rfl rfl<|An rfl rfl<|Ad rfl<|Aa<|Ao rfl (by omega)<|Ai<|Ac<|Af rfl<|Ah rfl (Aj 0 rfl rfl)<|AG rfl rfl<|Ad rfl<|AE rfl (by omega)<|Ae rfl<|Af rfl<|Ae rfl<|BJ 0 rfl rfl rfl<|Ae rfl<|BN rfl<|Ae rfl<|Cx rfl rfl<|Ap rfl rfl<|Ad rfl<|Aa ?_);apply E9;rfl;(with_reducible assumption);apply Am;apply E9;rfl;(with_reducible assumption);refine Ac<|Ad rfl<|Aa<|Ar ?_);apply Bf;rfl;exact(Y3 h3 h5).symm
 have h3':k=3∨(m=0∧e=0):=by
  by_cases hk:k=3
  ·exact .inl hk
  ·refine .inr ?_;have:¬(true ^^(decide (m=0)&& decide (e=0)))=true:=fun h=>h3 ⟨hk,h⟩;simpa using this
 by_cases hk3:k=3
 ·have hfin:k=3→t=[]→l=[]→ks=[]→true=Cf (.mk k m e t l ks):=by
   intro h1 h2 h3 h4;rw[h1,h2,h3,h4];simp[Cf,V.kind,V.m,V.e,V.text,V.list,V.keys]
  by_cases h6:t≠[]
  ·(refine Ac<|AO rfl (fun _ _=>Ad rfl<|Aa<|Ai<|Av<|Ac<|Af rfl<|Ah rfl (Aj 0 rfl rfl)<|Ax rfl rfl<|Ad rfl<|AB rfl (by omega)<|Ae rfl<|Af rfl<|Ae rfl<|Ah rfl (Aj 0 rfl rfl)<|Ae rfl<|AP rfl rfl<|An rfl rfl<|Ad rfl<|Aa<|Ao rfl (by omega)<|Ai<|Ac<|Af rfl<|Ah rfl (Aj 0 rfl rfl)<|AG rfl rfl<|Ad rfl<|AB rfl (by omega)<|Ak rfl<|Ak rfl<|Ak rfl<|Ak rfl<|An rfl rfl<|Ad rfl<|Aa<|AK rfl<|Ay<|Af rfl<|Ah rfl (Aj 0 rfl rfl)<|AG rfl rfl<|Ad rfl<|AE rfl (by omega)<|Ae rfl<|Af rfl<|Ae rfl<|Ah rfl (Aj 0 rfl rfl)<|Ae rfl<|C3 rfl rfl<|Ap rfl rfl<|Ad rfl<|Aa<|Au rfl (by omega)<|Ac<|Ad rfl<|Aa<|Ar ?_));apply Bf;rfl;exact(TW (by omega) h6).symm
  have h6':t=[]:=by simpa using h6
  by_cases h7:0<l.length
  ·(refine Ac<|AO rfl (fun _ _=>Ad rfl<|Aa<|Ai<|Av<|Ac<|Af rfl<|Ah rfl (Aj 0 rfl rfl)<|Ax rfl rfl<|Ad rfl<|AB rfl (by omega)<|Ae rfl<|Af rfl<|Ae rfl<|Ah rfl (Aj 0 rfl rfl)<|Ae rfl<|AP rfl rfl<|An rfl rfl<|Ad rfl<|Aa<|Ao rfl (by omega)<|Ai<|Ac<|Af rfl<|Ah rfl (Aj 0 rfl rfl)<|AG rfl rfl<|Ad rfl<|AB rfl (by omega)<|Ak rfl<|Ak rfl<|Ak rfl<|Ak rfl<|An rfl rfl<|Ad rfl<|Aa<|AK rfl<|Ay<|Af rfl<|Ah rfl (Aj 0 rfl rfl)<|AG rfl rfl<|Ad rfl<|AE rfl (by omega)<|Ae rfl<|Af rfl<|Ae rfl<|Ah rfl (Aj 0 rfl rfl)<|Ae rfl<|C3 rfl rfl<|Ap rfl rfl<|Ad rfl<|Aa<|Ao rfl (by omega)<|Ai<|Ac<|Af rfl<|Ah rfl (Aj 0 rfl rfl)<|Ax rfl rfl<|Ad rfl<|AE rfl (by omega)<|Ae rfl<|Af rfl<|Ae rfl<|Ah rfl (Aj 0 rfl rfl)<|Ae rfl<|AA rfl<|Ae rfl<|AP rfl rfl<|Ap rfl rfl<|Ad rfl<|Aa<|Au rfl (by omega)<|Am<|Au rfl (by omega)<|Ac<|Ad rfl<|Aa<|Ar ?_));apply Bf;rfl;exact(P1 (by omega) h7).symm
  by_cases h8:0<ks.length
  ·(refine Ac<|AO rfl (fun _ _=>Ad rfl<|Aa<|Ai<|Av<|Ac<|Af rfl<|Ah rfl (Aj 0 rfl rfl)<|Ax rfl rfl<|Ad rfl<|AB rfl (by omega)<|Ae rfl<|Af rfl<|Ae rfl<|Ah rfl (Aj 0 rfl rfl)<|Ae rfl<|AP rfl rfl<|An rfl rfl<|Ad rfl<|Aa<|Ao rfl (by omega)<|Ai<|Ac<|Af rfl<|Ah rfl (Aj 0 rfl rfl)<|AG rfl rfl<|Ad rfl<|AB rfl (by omega)<|Ak rfl<|Ak rfl<|Ak rfl<|Ak rfl<|An rfl rfl<|Ad rfl<|Aa<|AK rfl<|Ay<|Af rfl<|Ah rfl (Aj 0 rfl rfl)<|AG rfl rfl<|Ad rfl<|AE rfl (by omega)<|Ae rfl<|Af rfl<|Ae rfl<|Ah rfl (Aj 0 rfl rfl)<|Ae rfl<|C3 rfl rfl<|Ap rfl rfl<|Ad rfl<|Aa<|Ao rfl (by omega)<|Ai<|Ac<|Af rfl<|Ah rfl (Aj 0 rfl rfl)<|Ax rfl rfl<|Ad rfl<|AE rfl (by omega)<|Ae rfl<|Af rfl<|Ae rfl<|Ah rfl (Aj 0 rfl rfl)<|Ae rfl<|AA rfl<|Ae rfl<|AP rfl rfl<|Ap rfl rfl<|Ad rfl<|Aa<|Ao rfl (by omega)<|Ay<|Af rfl<|Ah rfl (Aj 0 rfl rfl)<|AG rfl rfl<|Ad rfl<|AE rfl (by omega)<|Ae rfl<|Af rfl<|Ae rfl<|Ah rfl (Aj 0 rfl rfl)<|Ae rfl<|AA rfl<|Ae rfl<|AP rfl rfl<|Ap rfl rfl<|Ad rfl<|Aa<|Au rfl (by omega)<|Ac<|Ad rfl<|Aa<|Ar ?_));apply Bf;rfl;exact(Lq (by omega) h8).symm
  (refine Ac<|AO rfl (fun _ _=>Ad rfl<|Aa<|Ai<|Av<|Ac<|Af rfl<|Ah rfl (Aj 0 rfl rfl)<|Ax rfl rfl<|Ad rfl<|AB rfl (by omega)<|Ae rfl<|Af rfl<|Ae rfl<|Ah rfl (Aj 0 rfl rfl)<|Ae rfl<|AP rfl rfl<|An rfl rfl<|Ad rfl<|Aa<|Ao rfl (by omega)<|Ai<|Ac<|Af rfl<|Ah rfl (Aj 0 rfl rfl)<|AG rfl rfl<|Ad rfl<|AB rfl (by omega)<|Ak rfl<|Ak rfl<|Ak rfl<|Ak rfl<|An rfl rfl<|Ad rfl<|Aa<|AK rfl<|Ay<|Af rfl<|Ah rfl (Aj 0 rfl rfl)<|AG rfl rfl<|Ad rfl<|AE rfl (by omega)<|Ae rfl<|Af rfl<|Ae rfl<|Ah rfl (Aj 0 rfl rfl)<|Ae rfl<|C3 rfl rfl<|Ap rfl rfl<|Ad rfl<|Aa<|Ao rfl (by omega)<|Ai<|Ac<|Af rfl<|Ah rfl (Aj 0 rfl rfl)<|Ax rfl rfl<|Ad rfl<|AE rfl (by omega)<|Ae rfl<|Af rfl<|Ae rfl<|Ah rfl (Aj 0 rfl rfl)<|Ae rfl<|AA rfl<|Ae rfl<|AP rfl rfl<|Ap rfl rfl<|Ad rfl<|Aa<|Ao rfl (by omega)<|Ay<|Af rfl<|Ah rfl (Aj 0 rfl rfl)<|AG rfl rfl<|Ad rfl<|AE rfl (by omega)<|Ae rfl<|Af rfl<|Ae rfl<|Ah rfl (Aj 0 rfl rfl)<|Ae rfl<|AA rfl<|Ae rfl<|AP rfl rfl<|Ap rfl rfl<|Ad rfl<|Aa<|Ao rfl (by omega)<|Am<|Ac<|Ad rfl<|Aa<|Ar ?_));apply Bf;rfl;have e1:l=[]:=ZD (by omega);have e2:ks=[]:=ZD (by omega);exact hfin hk3 h6' e1 e2
 ·have h5:(true ^^(decide (m=0)&& decide (e=0)))=false:=by
   rcases h3' with h|h
   ·exact absurd h hk3
   ·simp[h]
  have h5':m=0∧e=0:=by
   rcases h3' with h|h
   ·exact absurd h hk3
   ·exact h
  by_cases h6:k≠4∧t≠[]
  ·obtain⟨h6,h6'⟩:=h6;(refine Ac<|AO rfl (fun _ _=>Ad rfl<|Aa<|Ai<|Av<|Ac<|Af rfl<|Ah rfl (Aj 0 rfl rfl)<|Ax rfl rfl<|Ad rfl<|AB rfl (by omega)<|Ae rfl<|Af rfl<|Ae rfl<|Ah rfl (Aj 0 rfl rfl)<|Ae rfl<|AP rfl rfl<|An rfl rfl<|Ad rfl<|Aa<|Ao rfl (by omega)<|Ai<|Ac<|Af rfl<|Ah rfl (Aj 0 rfl rfl)<|AG rfl rfl<|Ad rfl<|AE rfl (by omega)<|Ae rfl<|Af rfl<|Ae rfl<|BJ 0 rfl rfl rfl<|Ae rfl<|BN rfl<|Ae rfl<|Cx rfl rfl<|Ap rfl rfl<|Ad rfl<|Aa ?_);apply CU;rfl;(with_reducible assumption);refine Ay<|Af rfl<|Ah rfl (Aj 0 rfl rfl)<|AG rfl rfl<|Ad rfl<|AE rfl (by omega)<|Ae rfl<|Af rfl<|Ae rfl<|Ah rfl (Aj 0 rfl rfl)<|Ae rfl<|C3 rfl rfl<|Ap rfl rfl<|Ad rfl<|Aa<|Au rfl (by omega)<|Ac<|Ad rfl<|Aa<|Ar ?_);apply Bf;rfl;exact(TW h6 h6').symm
  have h6b:k=4∨t=[]:=by
   by_cases hk:k=4
   ·exact .inl hk
   ·exact .inr (by by_cases ht:t=[]<;>simp_all)
  by_cases h7:k<5∧0<l.length
  ·obtain⟨h7,h7'⟩:=h7;have hl0:l≠[]:=by intro h;subst h;simp at h7'
   by_cases hk4:k=4
   ·(refine Ac<|AO rfl (fun _ _=>Ad rfl<|Aa<|Ai<|Av<|Ac<|Af rfl<|Ah rfl (Aj 0 rfl rfl)<|Ax rfl rfl<|Ad rfl<|AB rfl (by omega)<|Ae rfl<|Af rfl<|Ae rfl<|Ah rfl (Aj 0 rfl rfl)<|Ae rfl<|AP rfl rfl<|An rfl rfl<|Ad rfl<|Aa<|Ao rfl (by omega)<|Ai<|Ac<|Af rfl<|Ah rfl (Aj 0 rfl rfl)<|AG rfl rfl<|Ad rfl<|AE rfl (by omega)<|Ae rfl<|Af rfl<|Ae rfl<|BJ 0 rfl rfl rfl<|Ae rfl<|BN rfl<|Ae rfl<|Cx rfl rfl<|Ap rfl rfl<|Ad rfl<|Aa ?_);apply CU;rfl;(with_reducible assumption);refine Ay<|Af rfl<|Ah rfl (Aj 0 rfl rfl)<|AG rfl rfl<|Ad rfl<|AB rfl (by omega)<|Ak rfl<|Ak rfl<|Ak rfl<|An rfl rfl<|Ad rfl<|Aa<|AK rfl<|Ai<|Ac<|Af rfl<|Ah rfl (Aj 0 rfl rfl)<|Ax rfl rfl<|Ad rfl<|AE rfl (by omega)<|Ae rfl<|Af rfl<|Ae rfl<|Ah rfl (Aj 0 rfl rfl)<|Ae rfl<|AA rfl<|Ae rfl<|AP rfl rfl<|Ap rfl rfl<|Ad rfl<|Aa<|Au rfl (by omega)<|Am<|Au rfl (by omega)<|Ac<|Ad rfl<|Aa<|Ar ?_);apply Bf;rfl;exact(P1 h7 h7').symm
   ·have h6c:¬(t≠[]):=by
     rcases h6b with h|h
     ·exact absurd h hk4
     ·simp[h]
    (refine Ac<|AO rfl (fun _ _=>Ad rfl<|Aa<|Ai<|Av<|Ac<|Af rfl<|Ah rfl (Aj 0 rfl rfl)<|Ax rfl rfl<|Ad rfl<|AB rfl (by omega)<|Ae rfl<|Af rfl<|Ae rfl<|Ah rfl (Aj 0 rfl rfl)<|Ae rfl<|AP rfl rfl<|An rfl rfl<|Ad rfl<|Aa<|Ao rfl (by omega)<|Ai<|Ac<|Af rfl<|Ah rfl (Aj 0 rfl rfl)<|AG rfl rfl<|Ad rfl<|AE rfl (by omega)<|Ae rfl<|Af rfl<|Ae rfl<|BJ 0 rfl rfl rfl<|Ae rfl<|BN rfl<|Ae rfl<|Cx rfl rfl<|Ap rfl rfl<|Ad rfl<|Aa ?_);apply CU;rfl;(with_reducible assumption);refine Ay<|Af rfl<|Ah rfl (Aj 0 rfl rfl)<|AG rfl rfl<|Ad rfl<|AE rfl (by omega)<|Ae rfl<|Af rfl<|Ae rfl<|Ah rfl (Aj 0 rfl rfl)<|Ae rfl<|C3 rfl rfl<|Ap rfl rfl<|Ad rfl<|Aa<|Ao rfl (by omega)<|Ai<|Ac<|Af rfl<|Ah rfl (Aj 0 rfl rfl)<|Ax rfl rfl<|Ad rfl<|AE rfl (by omega)<|Ae rfl<|Af rfl<|Ae rfl<|Ah rfl (Aj 0 rfl rfl)<|Ae rfl<|AA rfl<|Ae rfl<|AP rfl rfl<|Ap rfl rfl<|Ad rfl<|Aa<|Au rfl (by omega)<|Am<|Au rfl (by omega)<|Ac<|Ad rfl<|Aa<|Ar ?_);apply Bf;rfl;exact(P1 h7 h7').symm
  by_cases h8:k≠6∧0<ks.length
  ·obtain⟨h8,h8'⟩:=h8;have hl0:ks≠[]:=by intro h;subst h;simp at h8'
   by_cases hk4:k=4
   ·have h7c:¬0<l.length:=fun h=>h7 ⟨by omega,h⟩;(refine Ac<|AO rfl (fun _ _=>Ad rfl<|Aa<|Ai<|Av<|Ac<|Af rfl<|Ah rfl (Aj 0 rfl rfl)<|Ax rfl rfl<|Ad rfl<|AB rfl (by omega)<|Ae rfl<|Af rfl<|Ae rfl<|Ah rfl (Aj 0 rfl rfl)<|Ae rfl<|AP rfl rfl<|An rfl rfl<|Ad rfl<|Aa<|Ao rfl (by omega)<|Ai<|Ac<|Af rfl<|Ah rfl (Aj 0 rfl rfl)<|AG rfl rfl<|Ad rfl<|AE rfl (by omega)<|Ae rfl<|Af rfl<|Ae rfl<|BJ 0 rfl rfl rfl<|Ae rfl<|BN rfl<|Ae rfl<|Cx rfl rfl<|Ap rfl rfl<|Ad rfl<|Aa ?_);apply CU;rfl;(with_reducible assumption);refine Ay<|Af rfl<|Ah rfl (Aj 0 rfl rfl)<|AG rfl rfl<|Ad rfl<|AB rfl (by omega)<|Ak rfl<|Ak rfl<|Ak rfl<|An rfl rfl<|Ad rfl<|Aa<|AK rfl<|Ai<|Ac<|Af rfl<|Ah rfl (Aj 0 rfl rfl)<|Ax rfl rfl<|Ad rfl<|AE rfl (by omega)<|Ae rfl<|Af rfl<|Ae rfl<|Ah rfl (Aj 0 rfl rfl)<|Ae rfl<|AA rfl<|Ae rfl<|AP rfl rfl<|Ap rfl rfl<|Ad rfl<|Aa<|Ao rfl (by omega)<|Ay<|Af rfl<|Ah rfl (Aj 0 rfl rfl)<|AG rfl rfl<|Ad rfl<|AE rfl (by omega)<|Ae rfl<|Af rfl<|Ae rfl<|Ah rfl (Aj 0 rfl rfl)<|Ae rfl<|AA rfl<|Ae rfl<|AP rfl rfl<|Ap rfl rfl<|Ad rfl<|Aa<|Au rfl (by omega)<|Ac<|Ad rfl<|Aa<|Ar ?_);apply Bf;rfl;exact(Lq h8 h8').symm
   ·have h6c:¬(t≠[]):=by
     rcases h6b with h|h
     ·exact absurd h hk4
     ·simp[h]
    by_cases h7c:k<5
    ·have h7d:¬0<l.length:=fun h=>h7 ⟨h7c,h⟩;(refine Ac<|AO rfl (fun _ _=>Ad rfl<|Aa<|Ai<|Av<|Ac<|Af rfl<|Ah rfl (Aj 0 rfl rfl)<|Ax rfl rfl<|Ad rfl<|AB rfl (by omega)<|Ae rfl<|Af rfl<|Ae rfl<|Ah rfl (Aj 0 rfl rfl)<|Ae rfl<|AP rfl rfl<|An rfl rfl<|Ad rfl<|Aa<|Ao rfl (by omega)<|Ai<|Ac<|Af rfl<|Ah rfl (Aj 0 rfl rfl)<|AG rfl rfl<|Ad rfl<|AE rfl (by omega)<|Ae rfl<|Af rfl<|Ae rfl<|BJ 0 rfl rfl rfl<|Ae rfl<|BN rfl<|Ae rfl<|Cx rfl rfl<|Ap rfl rfl<|Ad rfl<|Aa ?_);apply CU;rfl;(with_reducible assumption);refine Ay<|Af rfl<|Ah rfl (Aj 0 rfl rfl)<|AG rfl rfl<|Ad rfl<|AE rfl (by omega)<|Ae rfl<|Af rfl<|Ae rfl<|Ah rfl (Aj 0 rfl rfl)<|Ae rfl<|C3 rfl rfl<|Ap rfl rfl<|Ad rfl<|Aa<|Ao rfl (by omega)<|Ai<|Ac<|Af rfl<|Ah rfl (Aj 0 rfl rfl)<|Ax rfl rfl<|Ad rfl<|AE rfl (by omega)<|Ae rfl<|Af rfl<|Ae rfl<|Ah rfl (Aj 0 rfl rfl)<|Ae rfl<|AA rfl<|Ae rfl<|AP rfl rfl<|Ap rfl rfl<|Ad rfl<|Aa<|Ao rfl (by omega)<|Ay<|Af rfl<|Ah rfl (Aj 0 rfl rfl)<|AG rfl rfl<|Ad rfl<|AE rfl (by omega)<|Ae rfl<|Af rfl<|Ae rfl<|Ah rfl (Aj 0 rfl rfl)<|Ae rfl<|AA rfl<|Ae rfl<|AP rfl rfl<|Ap rfl rfl<|Ad rfl<|Aa<|Au rfl (by omega)<|Ac<|Ad rfl<|Aa<|Ar ?_);apply Bf;rfl;exact(Lq h8 h8').symm
    ·(refine Ac<|AO rfl (fun _ _=>Ad rfl<|Aa<|Ai<|Av<|Ac<|Af rfl<|Ah rfl (Aj 0 rfl rfl)<|Ax rfl rfl<|Ad rfl<|AB rfl (by omega)<|Ae rfl<|Af rfl<|Ae rfl<|Ah rfl (Aj 0 rfl rfl)<|Ae rfl<|AP rfl rfl<|An rfl rfl<|Ad rfl<|Aa<|Ao rfl (by omega)<|Ai<|Ac<|Af rfl<|Ah rfl (Aj 0 rfl rfl)<|AG rfl rfl<|Ad rfl<|AE rfl (by omega)<|Ae rfl<|Af rfl<|Ae rfl<|BJ 0 rfl rfl rfl<|Ae rfl<|BN rfl<|Ae rfl<|Cx rfl rfl<|Ap rfl rfl<|Ad rfl<|Aa ?_);apply CU;rfl;(with_reducible assumption);refine Ay<|Af rfl<|Ah rfl (Aj 0 rfl rfl)<|AG rfl rfl<|Ad rfl<|AE rfl (by omega)<|Ae rfl<|Af rfl<|Ae rfl<|Ah rfl (Aj 0 rfl rfl)<|Ae rfl<|C3 rfl rfl<|Ap rfl rfl<|Ad rfl<|Aa<|Ao rfl (by omega)<|Ai<|Ac<|Af rfl<|Ah rfl (Aj 0 rfl rfl)<|Ax rfl rfl<|Ad rfl<|AB rfl (by omega)<|Ak rfl<|Ak rfl<|Ak rfl<|Ak rfl<|An rfl rfl<|Ad rfl<|Aa<|AK rfl<|Ay<|Af rfl<|Ah rfl (Aj 0 rfl rfl)<|AG rfl rfl<|Ad rfl<|AE rfl (by omega)<|Ae rfl<|Af rfl<|Ae rfl<|Ah rfl (Aj 0 rfl rfl)<|Ae rfl<|AA rfl<|Ae rfl<|AP rfl rfl<|Ap rfl rfl<|Ad rfl<|Aa<|Au rfl (by omega)<|Ac<|Ad rfl<|Aa<|Ar ?_);apply Bf;rfl;exact(Lq h8 h8').symm
  have e2:k=6∨ks=[]:=by
   by_cases hk:k=6
   ·exact .inl hk
   ·exact .inr (ZD (by
     have:¬0<ks.length:=fun h=>h8 ⟨hk,h⟩;omega))
  have e1:5≤k∨l=[]:=by
   by_cases hk:5≤k
   ·exact .inl hk
   ·exact .inr (ZD (by
     have:¬0<l.length:=fun h=>h7 ⟨by omega,h⟩;omega))
  have fin:true=Cf (.mk k m e t l ks):=by
   simp only[Cf,V.kind,V.m,V.e,V.text,V.list,V.keys];rw[eq_comm];simp only[Zz,Aad,decide_eq_true_eq];exact⟨⟨⟨⟨by omega,.inr h5'⟩,h6b⟩,e1⟩,e2⟩
  by_cases hk4:k=4
  ·have h7c:¬0<l.length:=fun h=>h7 ⟨by omega,h⟩;have h8c:¬0<ks.length:=fun h=>h8 ⟨by omega,h⟩;(refine Ac<|AO rfl (fun _ _=>Ad rfl<|Aa<|Ai<|Av<|Ac<|Af rfl<|Ah rfl (Aj 0 rfl rfl)<|Ax rfl rfl<|Ad rfl<|AB rfl (by omega)<|Ae rfl<|Af rfl<|Ae rfl<|Ah rfl (Aj 0 rfl rfl)<|Ae rfl<|AP rfl rfl<|An rfl rfl<|Ad rfl<|Aa<|Ao rfl (by omega)<|Ai<|Ac<|Af rfl<|Ah rfl (Aj 0 rfl rfl)<|AG rfl rfl<|Ad rfl<|AE rfl (by omega)<|Ae rfl<|Af rfl<|Ae rfl<|BJ 0 rfl rfl rfl<|Ae rfl<|BN rfl<|Ae rfl<|Cx rfl rfl<|Ap rfl rfl<|Ad rfl<|Aa ?_);apply CU;rfl;(with_reducible assumption);refine Ay<|Af rfl<|Ah rfl (Aj 0 rfl rfl)<|AG rfl rfl<|Ad rfl<|AB rfl (by omega)<|Ak rfl<|Ak rfl<|Ak rfl<|An rfl rfl<|Ad rfl<|Aa<|AK rfl<|Ai<|Ac<|Af rfl<|Ah rfl (Aj 0 rfl rfl)<|Ax rfl rfl<|Ad rfl<|AE rfl (by omega)<|Ae rfl<|Af rfl<|Ae rfl<|Ah rfl (Aj 0 rfl rfl)<|Ae rfl<|AA rfl<|Ae rfl<|AP rfl rfl<|Ap rfl rfl<|Ad rfl<|Aa<|Ao rfl (by omega)<|Ay<|Af rfl<|Ah rfl (Aj 0 rfl rfl)<|AG rfl rfl<|Ad rfl<|AE rfl (by omega)<|Ae rfl<|Af rfl<|Ae rfl<|Ah rfl (Aj 0 rfl rfl)<|Ae rfl<|AA rfl<|Ae rfl<|AP rfl rfl<|Ap rfl rfl<|Ad rfl<|Aa<|Ao rfl (by omega)<|Am<|Ac<|Ad rfl<|Aa<|Ar ?_);apply Bf;rfl;exact fin
  ·have h6c:¬(t≠[]):=by
    rcases h6b with h|h
    ·exact absurd h hk4
    ·simp[h]
   by_cases h7c:k<5
   ·have h7d:¬0<l.length:=fun h=>h7 ⟨h7c,h⟩;have h8c:¬0<ks.length:=fun h=>h8 ⟨by omega,h⟩;(refine Ac<|AO rfl (fun _ _=>Ad rfl<|Aa<|Ai<|Av<|Ac<|Af rfl<|Ah rfl (Aj 0 rfl rfl)<|Ax rfl rfl<|Ad rfl<|AB rfl (by omega)<|Ae rfl<|Af rfl<|Ae rfl<|Ah rfl (Aj 0 rfl rfl)<|Ae rfl<|AP rfl rfl<|An rfl rfl<|Ad rfl<|Aa<|Ao rfl (by omega)<|Ai<|Ac<|Af rfl<|Ah rfl (Aj 0 rfl rfl)<|AG rfl rfl<|Ad rfl<|AE rfl (by omega)<|Ae rfl<|Af rfl<|Ae rfl<|BJ 0 rfl rfl rfl<|Ae rfl<|BN rfl<|Ae rfl<|Cx rfl rfl<|Ap rfl rfl<|Ad rfl<|Aa ?_);apply CU;rfl;(with_reducible assumption);refine Ay<|Af rfl<|Ah rfl (Aj 0 rfl rfl)<|AG rfl rfl<|Ad rfl<|AE rfl (by omega)<|Ae rfl<|Af rfl<|Ae rfl<|Ah rfl (Aj 0 rfl rfl)<|Ae rfl<|C3 rfl rfl<|Ap rfl rfl<|Ad rfl<|Aa<|Ao rfl (by omega)<|Ai<|Ac<|Af rfl<|Ah rfl (Aj 0 rfl rfl)<|Ax rfl rfl<|Ad rfl<|AE rfl (by omega)<|Ae rfl<|Af rfl<|Ae rfl<|Ah rfl (Aj 0 rfl rfl)<|Ae rfl<|AA rfl<|Ae rfl<|AP rfl rfl<|Ap rfl rfl<|Ad rfl<|Aa<|Ao rfl (by omega)<|Ay<|Af rfl<|Ah rfl (Aj 0 rfl rfl)<|AG rfl rfl<|Ad rfl<|AE rfl (by omega)<|Ae rfl<|Af rfl<|Ae rfl<|Ah rfl (Aj 0 rfl rfl)<|Ae rfl<|AA rfl<|Ae rfl<|AP rfl rfl<|Ap rfl rfl<|Ad rfl<|Aa<|Ao rfl (by omega)<|Am<|Ac<|Ad rfl<|Aa<|Ar ?_);apply Bf;rfl;exact fin
   ·by_cases h8c:k=6
    ·(refine Ac<|AO rfl (fun _ _=>Ad rfl<|Aa<|Ai<|Av<|Ac<|Af rfl<|Ah rfl (Aj 0 rfl rfl)<|Ax rfl rfl<|Ad rfl<|AB rfl (by omega)<|Ae rfl<|Af rfl<|Ae rfl<|Ah rfl (Aj 0 rfl rfl)<|Ae rfl<|AP rfl rfl<|An rfl rfl<|Ad rfl<|Aa<|Ao rfl (by omega)<|Ai<|Ac<|Af rfl<|Ah rfl (Aj 0 rfl rfl)<|AG rfl rfl<|Ad rfl<|AE rfl (by omega)<|Ae rfl<|Af rfl<|Ae rfl<|BJ 0 rfl rfl rfl<|Ae rfl<|BN rfl<|Ae rfl<|Cx rfl rfl<|Ap rfl rfl<|Ad rfl<|Aa ?_);apply CU;rfl;(with_reducible assumption);refine Ay<|Af rfl<|Ah rfl (Aj 0 rfl rfl)<|AG rfl rfl<|Ad rfl<|AE rfl (by omega)<|Ae rfl<|Af rfl<|Ae rfl<|Ah rfl (Aj 0 rfl rfl)<|Ae rfl<|C3 rfl rfl<|Ap rfl rfl<|Ad rfl<|Aa<|Ao rfl (by omega)<|Ai<|Ac<|Af rfl<|Ah rfl (Aj 0 rfl rfl)<|Ax rfl rfl<|Ad rfl<|AB rfl (by omega)<|Ak rfl<|Ak rfl<|Ak rfl<|Ak rfl<|An rfl rfl<|Ad rfl<|Aa<|AK rfl<|Ay<|Af rfl<|Ah rfl (Aj 0 rfl rfl)<|AG rfl rfl<|Ad rfl<|AB rfl (by omega)<|Ak rfl<|Ak rfl<|Ak rfl<|Ak rfl<|An rfl rfl<|Ad rfl<|Aa<|AK rfl<|Am<|Ac<|Ad rfl<|Aa<|Ar ?_);apply Bf;rfl;exact fin
    ·have h8d:¬0<ks.length:=fun h=>h8 ⟨h8c,h⟩;(refine Ac<|AO rfl (fun _ _=>Ad rfl<|Aa<|Ai<|Av<|Ac<|Af rfl<|Ah rfl (Aj 0 rfl rfl)<|Ax rfl rfl<|Ad rfl<|AB rfl (by omega)<|Ae rfl<|Af rfl<|Ae rfl<|Ah rfl (Aj 0 rfl rfl)<|Ae rfl<|AP rfl rfl<|An rfl rfl<|Ad rfl<|Aa<|Ao rfl (by omega)<|Ai<|Ac<|Af rfl<|Ah rfl (Aj 0 rfl rfl)<|AG rfl rfl<|Ad rfl<|AE rfl (by omega)<|Ae rfl<|Af rfl<|Ae rfl<|BJ 0 rfl rfl rfl<|Ae rfl<|BN rfl<|Ae rfl<|Cx rfl rfl<|Ap rfl rfl<|Ad rfl<|Aa ?_);apply CU;rfl;(with_reducible assumption);refine Ay<|Af rfl<|Ah rfl (Aj 0 rfl rfl)<|AG rfl rfl<|Ad rfl<|AE rfl (by omega)<|Ae rfl<|Af rfl<|Ae rfl<|Ah rfl (Aj 0 rfl rfl)<|Ae rfl<|C3 rfl rfl<|Ap rfl rfl<|Ad rfl<|Aa<|Ao rfl (by omega)<|Ai<|Ac<|Af rfl<|Ah rfl (Aj 0 rfl rfl)<|Ax rfl rfl<|Ad rfl<|AB rfl (by omega)<|Ak rfl<|Ak rfl<|Ak rfl<|Ak rfl<|An rfl rfl<|Ad rfl<|Aa<|AK rfl<|Ay<|Af rfl<|Ah rfl (Aj 0 rfl rfl)<|AG rfl rfl<|Ad rfl<|AE rfl (by omega)<|Ae rfl<|Af rfl<|Ae rfl<|Ah rfl (Aj 0 rfl rfl)<|Ae rfl<|AA rfl<|Ae rfl<|AP rfl rfl<|Ap rfl rfl<|Ad rfl<|Aa<|Ao rfl (by omega)<|Am<|Ac<|Ad rfl<|Aa<|Ar ?_);apply Bf;rfl;exact fin
def Y2:m.tmod 10=0↔m % 10=0:=by
 constructor
 ·intro h;exact Int.emod_eq_zero_of_dvd (Int.dvd_of_tmod_eq_zero h)
 ·intro h;exact Int.tmod_eq_zero_of_dvd (Int.dvd_of_emod_eq_zero h)
def H2:List Value:=(Z8 20).map fun i=>.int .u64 ((10 ^ i:Nat):Int)
def Nt(P:Program)(f:FuncId):Prop:=∀{d}{m e:Int},I64 m→AM P f [.agg [vZ m,vZ e].toArray] d (.int .u64 m.natAbs)
def Tf:A6:=⟨13,[(.tmp 2)],(sR (o1 1 (.box 0)<|o1 2 (.mv (.const (.int .u64 0))) .done) (.seq (sR (oj 3 0 1<|ol 4 3<|ob 5 .lss 4 z0 .done) (.cond 5 (sR (oj 6 0 1<|ol 7 6<|o1 8 (.cvi .u64 7)<|o1 9 (.un .neg 8)<|om 2 9 .done) .ret) .skip)) (sR (oj 10 0 1<|ol 11 10<|o1 12 (.cvi .u64 11)<|om 2 12 .done) .ret)))⟩
def X4(hd:dec P f=some Tf):Nt P f:=by
 intro d m e ⟨h1,h2⟩;refine AM.of' hd (No rfl) ?_;show gwp P _ _ _ _ _;by_cases h:m<0
 ·(refine Ac<|AO rfl (fun _ _=>Ab rfl<|Aa<|Ai<|Ac<|Af rfl<|Ah rfl (Aj 0 rfl rfl)<|Ax rfl rfl<|Aa<|Au rfl (by omega)<|Ac<|Af rfl<|Ah rfl (Aj 0 rfl rfl)<|Hz rfl<|Yx rfl<|Ab rfl<|Aa<|Ar ?_));apply CF;rfl;omega
 ·(refine Ac<|AO rfl (fun _ _=>Ab rfl<|Aa<|Ai<|Ac<|Af rfl<|Ah rfl (Aj 0 rfl rfl)<|Ax rfl rfl<|Aa<|Ao rfl (by omega)<|Am<|Ac<|Af rfl<|Ah rfl (Aj 0 rfl rfl)<|Hz rfl<|Ab rfl<|Aa<|Ar ?_));apply CF;rfl;omega
def Q0(P:Program)(f:FuncId):Prop:=∀{d},AM P f [] d (.agg [vZ 0,vZ 0].toArray)
def SU:A6:=⟨2,[(.cell 0 (some 2))],(sR (o1 0 (.alo (.agg #[(vZ 0),(vZ 0)])) .done) (sR (o1 1 (.bld [(0,1),(1,1)] [(vZ 0),(vZ 0)] [])<|o0 (.st 2 0 1) .done) .ret))⟩
def XM(hd:dec P f=some SU):Q0 P f:=by
 intro d;refine AM.of' hd (No rfl) ?_;show gwp P _ _ _ _ _;(refine Ac<|AX (fun _ _=>Aa<|Ac<|BN rfl ?_));rename_i b T;refine Az 0 [vZ 0,vZ 0] rfl rfl rfl rfl (No rfl) rfl rfl ?_;(refine Aa<|Ar ?_);exact BG [.agg [vZ 0,vZ 0].toArray] ⟨A3 0 rfl rfl rfl,trivial⟩ (ZB _) ⟨rfl,rfl⟩
def G7(T:Ag→Prop)(P:Program)(f:FuncId):Prop:=∀{d}{m e:Int},T d→I64 m→I64 e→AM P f [.agg [vZ m,vZ e].toArray] d (.bool (Br m e))
def VI(T:Ag→Prop)(P:Program)(f:FuncId):Prop:=∀{d l},T d→l.length≤140737488355328→AM P f [Al l] d (.bool (u8 l))
def RV(a0 a1 a2:Nat):A6:=⟨30,[(.tmp 2)],(sR (o1 1 (.box 0)<|o1 2 (.mv (.const (.bool false))) .done) (.seq (sR (oj 3 0 1<|ol 4 3<|ob 5 .eql 4 z0 .done) (.cond 5 (.seq (.reg true (p1 6 (.ld (some 2) 1)<|oc 7 a0 []<|p1 8 (.eqc false [(0,0),(0,1)] 6 7) (.bar (pm 2 8 .done)))) .ret) .skip)) (.seq (.reg true (p1 9 (.ld (some 2) 1)<|p1 11 (.idxa 20 1 (.global a1) (kZ 18))<|pl 12 11<|oc 10 a2 [9]<|p1 13 (.bin .lss 10 12)<|pm 14 13 (.op true ⟨(some 15),(some (14,true)),(.fld 0 1)⟩ (.op true ⟨(some 16),(some (14,true)),(.ld none 15)⟩ (.op true ⟨(some 17),(some (14,true)),(.bin .rem 16 (kZ 10))⟩ (.op true ⟨(some 18),(some (14,true)),(.bin .neq 17 z0)⟩ (p1 19 (.pick 14 18 (.const (.bool false))) (pm 20 19 (.op true ⟨(some 21),(some (20,true)),(.fld 1 1)⟩ (.op true ⟨(some 22),(some (20,true)),(.ld none 21)⟩ (.op true ⟨(some 23),(some (20,true)),(.bin .geq 22 (kZ (-64)))⟩ (p1 24 (.pick 20 23 (.const (.bool false))) (pm 25 24 (.op true ⟨(some 26),(some (25,true)),(.fld 1 1)⟩ (.op true ⟨(some 27),(some (25,true)),(.ld none 26)⟩ (.op true ⟨(some 28),(some (25,true)),(.bin .leq 27 (kZ 64))⟩ (p1 29 (.pick 25 28 (.const (.bool false))) (.bar (pm 2 29 .done))))))))))))))))))) .ret)))⟩
def Y4{T:Ag→Prop}{g2 f3}(hT:∀d,T d→DCs d g2 0 H2)(hd:dec P f=some (RV f1 g2 f3))(h1:Q0 P f1)(h3:Nt P f3):G7 T P f:=by
 intro d m e ht hm he;have htab:=hT d ht;have ht18:DC d g2 18 (.int .u64 1000000000000000000):=htab.at (i:=18) rfl;obtain⟨he1,he2⟩:=he;refine AM.of' hd (No rfl) ?_;show gwp P _ _ _ _ _;apply Ai;apply Ay;refine AO (l:=[vZ m,vZ e]) rfl (fun b1 T1=>?_);by_cases h:m=0
 ·subst h;(refine Ad rfl<|Aa<|Ai<|Ac<|Af rfl<|Ah rfl (Aj 0 rfl rfl)<|Aq rfl rfl<|Aa<|Au rfl (by omega)<|Ai<|AT<|AD 0 rfl rfl rfl ?_);refine AF rfl h1 ?_;(refine Cx rfl rfl<|Bt<|Ad rfl<|Aa<|Ar ?_);apply Bf;rfl;simp[Br]
 ·(refine Ad rfl<|Aa<|Ai<|Ac<|Af rfl<|Ah rfl (Aj 0 rfl rfl)<|Aq rfl rfl<|Aa<|Ao rfl (by omega)<|Am<|Ai ?_);refine AT ?_;(apply AD 0;rfl;rfl;rfl);refine Ds 18 rfl rfl rfl (by omega) ?_;refine Ah rfl (MA (by exact ht18)) ?_;refine AF rfl (h3 hm) ?_;have hmI:=hm;obtain⟨hm1,hm2⟩:=hm;have hmod:=Y2 (m:=m);by_cases h4:(m.natAbs:Int)<1000000000000000000
  ·by_cases h5:m.tmod 10≠0
   ·by_cases h6:e≥ -64
    ·by_cases h7:e≤64
     ·(refine Ax rfl rfl<|Ad rfl<|AE rfl (by omega)<|Ae rfl<|Af rfl<|Ae rfl<|Ah rfl (Aj 0 rfl rfl)<|Ae rfl<|FH rfl rfl (by omega)<|Ae rfl<|AG rfl rfl<|Ap rfl rfl<|Ad rfl<|AE rfl (by omega)<|Ae rfl<|Af rfl<|Ae rfl<|Ah rfl (Aj 0 rfl rfl)<|Ae rfl<|B5 rfl rfl<|Ap rfl rfl<|Ad rfl<|AE rfl (by omega)<|Ae rfl<|Af rfl<|Ae rfl<|Ah rfl (Aj 0 rfl rfl)<|Ae rfl<|CW rfl rfl<|Ap rfl rfl<|Bt<|Ad rfl<|Aa<|Ar ?_);apply Bf;rfl;(rw[Br,if_neg h,Abr];simp only[decide_eq_true_eq];omega)
     ·(refine Ax rfl rfl<|Ad rfl<|AE rfl (by omega)<|Ae rfl<|Af rfl<|Ae rfl<|Ah rfl (Aj 0 rfl rfl)<|Ae rfl<|FH rfl rfl (by omega)<|Ae rfl<|AG rfl rfl<|Ap rfl rfl<|Ad rfl<|AE rfl (by omega)<|Ae rfl<|Af rfl<|Ae rfl<|Ah rfl (Aj 0 rfl rfl)<|Ae rfl<|B5 rfl rfl<|Ap rfl rfl<|Ad rfl<|AE rfl (by omega)<|Ae rfl<|Af rfl<|Ae rfl<|Ah rfl (Aj 0 rfl rfl)<|Ae rfl<|CW rfl rfl<|Ap rfl rfl<|Bt<|Ad rfl<|Aa<|Ar ?_);apply Bf;rfl;(rw[Br,if_neg h,Abr];simp only[decide_eq_true_eq];omega)
    ·(refine Ax rfl rfl<|Ad rfl<|AE rfl (by omega)<|Ae rfl<|Af rfl<|Ae rfl<|Ah rfl (Aj 0 rfl rfl)<|Ae rfl<|FH rfl rfl (by omega)<|Ae rfl<|AG rfl rfl<|Ap rfl rfl<|Ad rfl<|AE rfl (by omega)<|Ae rfl<|Af rfl<|Ae rfl<|Ah rfl (Aj 0 rfl rfl)<|Ae rfl<|B5 rfl rfl<|Ap rfl rfl<|Ad rfl<|AB rfl (by omega)<|Ak rfl<|Ak rfl<|Ak rfl<|An rfl rfl<|Bt<|Ad rfl<|Aa<|Ar ?_);apply Bf;rfl;(rw[Br,if_neg h,Abr];simp only[ZX,decide_eq_true_eq,false_iff];omega)
   ·(refine Ax rfl rfl<|Ad rfl<|AE rfl (by omega)<|Ae rfl<|Af rfl<|Ae rfl<|Ah rfl (Aj 0 rfl rfl)<|Ae rfl<|FH rfl rfl (by omega)<|Ae rfl<|AG rfl rfl<|Ap rfl rfl<|Ad rfl<|AB rfl (by omega)<|Ak rfl<|Ak rfl<|Ak rfl<|An rfl rfl<|Ad rfl<|Ak rfl<|Ak rfl<|Ak rfl<|An rfl rfl<|Bt<|Ad rfl<|Aa<|Ar ?_);apply Bf;rfl;(rw[Br,if_neg h,Abr];simp only[ZX,decide_eq_true_eq,false_iff];omega)
  ·(refine Ax rfl rfl<|Ad rfl<|AB rfl (by omega)<|Ak rfl<|Ak rfl<|Ak rfl<|Ak rfl<|An rfl rfl<|Ad rfl<|Ak rfl<|Ak rfl<|Ak rfl<|An rfl rfl<|Ad rfl<|Ak rfl<|Ak rfl<|Ak rfl<|An rfl rfl<|Bt<|Ad rfl<|Aa<|Ar ?_);apply Bf;rfl;(rw[Br,if_neg h,Abr];simp only[ZX,decide_eq_true_eq,false_iff];omega)
def DP(T:Ag→Prop)(P:Program)(f:FuncId):Prop:=∀{d l},T d→l.length≤140737488355328→AM P f [Al l] d (.bool (u8 l))
def Pz(a0:Nat):A6:=⟨5,[(.tmp 2)],(sR (o1 2 (.mv (.const (.bool false))) .done) (sR (om 3 0<|oc 4 a0 [3]<|om 2 4 .done) .ret))⟩
def Wc{T:Ag→Prop}(hd:dec P f=some (Pz f1))(h1:VI T P f1):DP T P f:=by
 intro d l ht hl;refine AM.of' hd (No rfl) ?_;show gwp P _ _ _ _ _;(refine Ac<|Ad rfl<|Aa<|Ac<|Bk rfl ?_);refine AF rfl (h1 ht hl) ?_;(refine Ad rfl<|Aa<|Ar ?_);exact BI rfl
def getD_at{i:Nat}(h:i<ks.length):ks.getD i []=ks[i]:=by simp[h]
def Sk(h:0<ks.length):FJ ks 0=u8 ks[0]:=by
 rw[FJ,getD_at h];simp
def IV{j:Nat}(h:j+1<ks.length):FJ ks (j+1)=(u8 ks[j+1] && Op.bytesLess ks[j] ks[j+1]):=by
 rw[FJ,getD_at h,Nat.add_sub_cancel,getD_at (show j<ks.length by omega)];simp
def Sc{i:Nat}(h:i<ks.length)(hu:u8 ks[i]=false):FJ ks i=false:=by
 rw[FJ,getD_at h,hu];rfl
def Mw(T:Ag→Prop)(P:Program)(f:FuncId):Prop:=∀{d v ks},T d→BK d v ks→AM P f [v] d (.bool (rising ks))
def Oa(a0:Nat):A6:=⟨29,[(.tmp 2)],(sR (o1 2 (.mv (.const (.bool false))) .done) (.seq (sR (om 5 0<|oL 6 5<|o1 7 (.mv z0) .done) (.block 0 (.loop (sR (ob 8 .lss 7 6 .done) (.seq (.cond 8 .skip (.exit 0)) (.seq (.block 1 (sR (om 9 7<|oI 10 1 5 7<|ol 11 10<|om 3 9<|om 4 11 .done) (sR (om 12 4<|oc 13 a0 [12]<|o1 14 (.un .not 13)<|om 15 14<|gF 16 15 3<|oF 17 15 (.bin .gtr 16 z0)<|gF 18 15 17<|gT 19 18 0<|gT 20 18 3<|oT 21 18 (.bin .sub 20 z1)<|oT 22 18 (.idx 1 19 21)<|oT 23 18 (.ld none 22)<|gT 24 18 4<|oT 25 18 (.bin .geq 23 24)<|oF 26 15 (.pick 18 25 (.const (.bool false)))<|o1 27 (.pick 15 (.const (.bool true)) 26) .done) (.cond 27 (sR (o1 2 (.mv (.const (.bool false))) .done) .ret) .skip)))) (rG (ob 28 .add 7 z1<|om 7 28 .done)))))))) (sR (o1 2 (.mv (.const (.bool true))) .done) .ret)))⟩
def U9{T:Ag→Prop}(hd:dec P f=some (Oa f1))(h1:DP T P f1):Mw T P f:=by
 intro d v ks ht hv;have hll:=RSl.Be hv;have hsl:∀i (h:i<ks.length),ks[i].length≤140737488355328:=fun i h=>by
  obtain⟨_,_,_,_,_,_,_,_,_,_,_,h8⟩:=hv;obtain⟨cs,_,_,_,h9⟩:=h8 i h;exact h9
 have hv':RSl 1 A2 d v ks:=hv;obtain⟨a,c,rfl⟩:=RSl.val hv;refine AM.of' hd (No rfl) ?_;show gwp P _ _ _ _ _;(refine Ac<|Ad rfl<|Aa<|Ai<|Ac<|As rfl<|AA rfl<|Ab rfl<|Aa<|Av ?_);refine CD (α:=Nat) (fun i=>[(0,.slice a ks.length c),(5,.slice a ks.length c),(6,vZ ks.length),(7,vZ i)]) (fun _=>[]) (fun i=>i≤ks.length∧D5 ks i=true) (fun i=>ks.length - i) 0 ⟨rfl,rfl,rfl,rfl,trivial⟩ rfl ⟨ZN _,rfl⟩ ?_;rintro i ρ ⟨hi,hr⟩;by_cases hc:i<ks.length
 ·have e0:ks.getD i []=ks[i]:=by simp[hc]
  (refine Ac<|Ax rfl rfl<|Aa<|Ai<|Au rfl (by omega)<|Am<|Ai<|Av<|Ac<|Ab rfl<|AJ (sz:=1) (R:=A2) (by rfl) (by assumption) (by rfl) rfl (by omega) ?_;rintro _ _ _ _ _ ⟨rfl,_⟩;refine Ah rfl (A1 (by assumption) rfl)<|Ab rfl<|Bk rfl<|Aa<|Ac<|Bk rfl ?_);refine AF rfl (h1 ht (hsl i hc)) ?_;cases hu:u8 ks[i] with
  |false=>
   (refine Bi rfl<|Ad rfl<|Ak rfl<|Ak rfl<|Ak rfl<|AY rfl<|AY rfl<|AY rfl<|AY rfl<|AY rfl<|AY rfl<|AY rfl<|Ak rfl<|Ap rfl rfl<|Aa<|Bb rfl<|Ac<|Ad rfl<|Aa<|Ar ?_)
   apply Bf;rfl
   exact(FA (Sc hc hu) hc).symm
  |true=>
   by_cases hi0:i=0
   ·subst hi0
    (refine Bi rfl<|Ad rfl<|Ae rfl<|Ab rfl<|Ae rfl<|AP rfl rfl<|Ae rfl<|Ad rfl<|AB rfl (by omega)<|Ak rfl<|Ak rfl<|Ak rfl<|Ak rfl<|Ak rfl<|Ak rfl<|Ak rfl<|Ae rfl<|An rfl rfl<|An rfl rfl<|Aa<|AK rfl<|Am<|Ay<|AI rfl rfl (by omega) (by omega)<|Ab rfl<|Aa ?_)
    exact⟨1,by omega,⟨rfl,rfl,rfl,rfl,trivial⟩,rfl,rfl,by omega,by rw[D5,Sk hc,hu];rfl⟩
   ·obtain⟨j,rfl⟩:∃j,i=j+1:=⟨i - 1,by omega⟩
    have e1:ks.getD j []=ks[j]:=by simp[show j<ks.length by omega]
    (refine Bi rfl<|Ad rfl<|Ae rfl<|Ab rfl<|Ae rfl<|AP rfl rfl<|Ae rfl<|Ad rfl<|AE rfl (by omega)<|Ae rfl<|As rfl<|Ae rfl<|Ab rfl<|Ae rfl<|Bn rfl rfl (by omega) (by omega)<|Ae rfl ?_)
    refine AJ (sz:=1) (R:=A2) (m:=j) (by rfl) hv' (by rfl) (by omega) (by omega) ?_;rintro _ _ _ _ _ ⟨rfl,_⟩
    cases hb:Op.bytesLess ks[j] ks[j+1] with
    |false=>
     have hb':(!Op.bytesLess ks[j] ks[j+1])=true:=by rw[hb];rfl
     (refine Ae rfl<|Ah rfl (A1 (by assumption) rfl)<|Ae rfl<|Bk rfl<|Ae rfl<|PM rfl rfl<|Ae rfl<|Ap rfl rfl<|An rfl rfl<|Aa ?_;apply E9;rfl;(with_reducible assumption);refine Ac<|Ad rfl<|Aa<|Ar ?_)
     apply Bf;rfl
     exact(FA (by rw[IV hc,hb,Bool.and_false]) hc).symm
    |true=>
     have hb':(!Op.bytesLess ks[j] ks[j+1])=false:=by rw[hb];rfl
     (refine Ae rfl<|Ah rfl (A1 (by assumption) rfl)<|Ae rfl<|Bk rfl<|Ae rfl<|PM rfl rfl<|Ae rfl<|Ap rfl rfl<|An rfl rfl<|Aa ?_;apply CU;rfl;(with_reducible assumption);refine Am<|Ay<|AI rfl rfl (by omega) (by omega)<|Ab rfl<|Aa ?_)
     exact⟨j+2,by omega,⟨rfl,rfl,rfl,int_eq (by omega),trivial⟩,rfl,rfl,by omega,by rw[D5,hr,IV hc,hu,hb];rfl⟩
 ·obtain rfl:i=ks.length:=by omega
  (refine Ac<|Ax rfl rfl<|Aa<|Ai<|Ao rfl (by omega)<|AV<|Ac<|Ad rfl<|Aa<|Ar ?_);apply Bf;rfl;exact hr.symm
def TQ(T:Ag→Prop)(P:Program)(f:FuncId):Prop:=∀(v:V) {d cs},T d→Aw d cs v→AM P f [.agg cs.toArray] d (.bool (BH v))
def RF(a0 a1 a2 a3 a4 a5:Nat):A6:=⟨41,[(.tmp 2)],(sR (o1 1 (.box 0)<|o1 2 (.mv (.const (.bool false))) .done) (.seq (sR (o1 3 (.ld (some 6) 1)<|oc 4 a0 [3]<|o1 5 (.un .not 4)<|om 6 5<|oF 7 6 (.fld 1 1)<|oF 8 6 (.ld (some 2) 7)<|oF 9 6 (.call a1 [8])<|oF 10 6 (.un .not 9)<|o1 11 (.pick 6 (.const (.bool true)) 10)<|om 12 11<|oF 13 12 (.fld 3 1)<|oF 14 12 (.ld none 13)<|oF 15 12 (.call a2 [14])<|oF 16 12 (.un .not 15)<|o1 17 (.pick 12 (.const (.bool true)) 16)<|om 18 17<|oF 19 18 (.fld 5 1)<|oF 20 18 (.ld none 19)<|oF 21 18 (.call a3 [20])<|oF 22 18 (.un .not 21)<|o1 23 (.pick 18 (.const (.bool true)) 22) .done) (.cond 23 (sR (o1 2 (.mv (.const (.bool false))) .done) .ret) .skip)) (sR (oj 24 0 1<|ol 25 24<|ob 26 .neq 25 (kZ 6)<|om 27 26<|oF 28 27 (.fld 5 1)<|oF 29 27 (.ld none 28)<|oF 30 27 (.len 29)<|oF 31 27 (.fld 4 1)<|oF 32 27 (.ld none 31)<|oF 33 27 (.len 32)<|oF 34 27 (.bin .eql 30 33)<|o1 35 (.pick 27 (.const (.bool true)) 34)<|om 36 35<|oT 37 36 (.fld 4 1)<|oT 38 36 (.ld none 37)<|oT 39 36 (.call a4 [38,(.func a5)])<|gP 40 36 39<|om 2 40 .done) .ret)))⟩
def YU{T:Ag→Prop}{f2 f3 f4 f5}(hd:dec P f=some (RF f1 f2 f3 f4 f5 f))(h1:Qp P f1)(h2:G7 T P f2)(h3:DP T P f3)(h4:Mw T P f4)(h5:Lw P f5):TQ T P f:=by
 intro v;induction v using V.ind with
 |h v ih=>
 intro d cs ht hv;refine AM.of' hd (No rfl) ?_;have hv':=hv;obtain⟨lv,kv,rfl,ik,im,ie,it,hl,hks⟩:=hv'.open;obtain⟨la,lc,rfl⟩:=RSl.val hl;obtain⟨ka,kc,rfl⟩:=RSl.val hks;have e0:=Ed v;show gwp P _ _ _ _ _;apply Ai;apply Ay;refine AO (l:=[vZ v.kind,vZ v.m,vZ v.e,Al v.text,.slice la v.list.length lc,.slice ka v.keys.length kc]) rfl (fun b1 T1=>?_);(refine Ad rfl<|Aa<|Ai<|Ac<|AD 0 rfl rfl rfl ?_);refine AF rfl (h1 hv) ?_;cases hb:Cf v with
 |false=>
  (refine Bi rfl<|Ad rfl<|Ak rfl<|Ak rfl<|Ak rfl<|Ak rfl<|Ap rfl rfl<|Ad rfl<|Ak rfl<|Ak rfl<|Ak rfl<|Ak rfl<|Ap rfl rfl<|Ad rfl<|Ak rfl<|Ak rfl<|Ak rfl<|Ak rfl<|Ap rfl rfl<|Aa<|Bb rfl<|Ac<|Ad rfl<|Aa<|Ar ?_)
  apply Bf;rfl
  rw[e0];simp[BW,hb]
 |true=>
 (refine Bi rfl<|Ad rfl<|Ae rfl<|Af rfl<|Ae rfl<|BJ 0 rfl rfl rfl<|Ae rfl ?_);refine AF rfl (h2 ht im ie) ?_;cases hn:Br v.m v.e with
 |false=>
  (refine Ae rfl<|Bi rfl<|An rfl rfl<|Ad rfl<|Ak rfl<|Ak rfl<|Ak rfl<|Ak rfl<|Ap rfl rfl<|Ad rfl<|Ak rfl<|Ak rfl<|Ak rfl<|Ak rfl<|Ap rfl rfl<|Aa<|Bb rfl<|Ac<|Ad rfl<|Aa<|Ar ?_)
  apply Bf;rfl
  rw[e0];simp[BW,hn]
 |true=>
 (refine Ae rfl<|Bi rfl<|An rfl rfl<|Ad rfl<|Ae rfl<|Af rfl<|Ae rfl<|Ah rfl (Aj 0 rfl rfl)<|Ae rfl ?_);refine AF rfl (h3 ht it) ?_;cases hu:u8 v.text with
 |false=>
  (refine Ae rfl<|Bi rfl<|An rfl rfl<|Ad rfl<|Ak rfl<|Ak rfl<|Ak rfl<|Ak rfl<|Ap rfl rfl<|Aa<|Bb rfl<|Ac<|Ad rfl<|Aa<|Ar ?_)
  apply Bf;rfl
  rw[e0];simp[BW,hu]
 |true=>
 (refine Ae rfl<|Bi rfl<|An rfl rfl<|Ad rfl<|Ae rfl<|Af rfl<|Ae rfl<|Ah rfl (Aj 0 rfl rfl)<|Ae rfl ?_);refine AF rfl (h4 ht hks) ?_;cases hr:rising v.keys with
 |false=>
  (refine Ae rfl<|Bi rfl<|An rfl rfl<|Aa<|Bb rfl<|Ac<|Ad rfl<|Aa<|Ar ?_)
  apply Bf;rfl
  rw[e0];simp[BW,hr]
 |true=>
 by_cases h6:v.kind≠6∨v.keys.length=v.list.length
 ·have e1:BW v=true:=by
   simp only[BW,hb,hn,hu,hr,Adb,Aad,decide_eq_true_eq];exact h6
  by_cases h7:v.kind≠6
  ·(refine Ae rfl<|Bi rfl<|An rfl rfl<|Aa<|AK rfl<|Am<|Ac<|Af rfl<|Ah rfl (Aj 0 rfl rfl)<|AG rfl rfl<|Ad rfl<|AE rfl (by omega)<|Ak rfl<|Ak rfl<|Ak rfl<|Ak rfl<|Ak rfl<|Ak rfl<|Ak rfl<|Ap rfl rfl<|Ad rfl<|Ae rfl<|Af rfl<|Ae rfl<|Ah rfl (Aj 0 rfl rfl)<|Ae rfl ?_);refine AF rfl (h5 (g:=f) (cap:=[]) (p:=BH) hl (fun x hx cs hcs=>ih x hx ht hcs)) ?_;(refine Ap rfl rfl<|Ad rfl<|Aa<|Ar ?_);apply Bf;rfl;rw[e0,e1];rfl
  ·have h8:v.keys.length=v.list.length:=by
    rcases h6 with h|h
    ·exact absurd h h7
    ·exact h
   have h8':(v.keys.length:Int)=v.list.length:=by omega
   (refine Ae rfl<|Bi rfl<|An rfl rfl<|Aa<|AK rfl<|Am<|Ac<|Af rfl<|Ah rfl (Aj 0 rfl rfl)<|AG rfl rfl<|Ad rfl<|AB rfl (by omega)<|Ae rfl<|Af rfl<|Ae rfl<|Ah rfl (Aj 0 rfl rfl)<|Ae rfl<|AA rfl<|Ae rfl<|Af rfl<|Ae rfl<|Ah rfl (Aj 0 rfl rfl)<|Ae rfl<|AA rfl<|Ae rfl<|Aq rfl rfl<|An rfl rfl<|Ad rfl<|AE rfl (by omega)<|Ae rfl<|Af rfl<|Ae rfl<|Ah rfl (Aj 0 rfl rfl)<|Ae rfl ?_);refine AF rfl (h5 (g:=f) (cap:=[]) (p:=BH) hl (fun x hx cs hcs=>ih x hx ht hcs)) ?_;(refine Ap rfl rfl<|Ad rfl<|Aa<|Ar ?_);apply Bf;rfl;rw[e0,e1];rfl
 ·have h7:¬v.kind≠6:=fun h=>h6 (.inl h);have h8':¬(v.keys.length:Int)=v.list.length:=fun h=>h6 (.inr (by omega));(refine Ae rfl<|Bi rfl<|An rfl rfl<|Aa<|AK rfl<|Am<|Ac<|Af rfl<|Ah rfl (Aj 0 rfl rfl)<|AG rfl rfl<|Ad rfl<|AB rfl (by omega)<|Ae rfl<|Af rfl<|Ae rfl<|Ah rfl (Aj 0 rfl rfl)<|Ae rfl<|AA rfl<|Ae rfl<|Af rfl<|Ae rfl<|Ah rfl (Aj 0 rfl rfl)<|Ae rfl<|AA rfl<|Ae rfl<|Aq rfl rfl<|An rfl rfl<|Ad rfl<|AB rfl (by omega)<|Ak rfl<|Ak rfl<|Ak rfl<|An rfl rfl<|Ad rfl<|Aa<|Ar ?_);apply Bf;rfl;have h9:v.keys.length≠v.list.length:=fun h=>h6 (.inr h);have h10:v.kind=6:=by omega
  rw[e0];simp[BW,h9,h10]
def Fq(T:Ag→Prop)(P:Program)(f:FuncId):Prop:=∀{d cs}{v:V},T d→Aw d cs v→AM P f [.agg cs.toArray] d (vZ (AS v))
def PA(a0 a1:Nat):A6:=⟨11,[(.tmp 2)],(sR (o1 1 (.box 0)<|o1 2 (.mv z0) .done) (.seq (.block 0 (sR (o1 4 (.ld (some 6) 1)<|oc 5 a0 [4,(kZ 48)]<|o1 6 (.un .not 5)<|om 3 6 .done) (.cond 3 (sR (o1 2 (.mv (kZ 31)) .done) .ret) (sR (o1 8 (.ld (some 6) 1)<|oc 9 a1 [8]<|o1 10 (.un .not 9)<|om 7 10 .done) (.cond 7 (sR (o1 2 (.mv (kZ 30)) .done) .ret) .skip))))) (sR (o1 2 (.mv z0) .done) .ret)))⟩
def VF{T:Ag→Prop}{f2}(hd:dec P f=some (PA f1 f2))(h1:K0 P f1)(h2:TQ T P f2):Fq T P f:=by
 intro d cs v ht hv;refine AM.of' hd (No rfl) ?_;have hv':=hv;obtain⟨lv,kv,rfl,ik,im,ie,it,hl,hks⟩:=hv'.open;show gwp P _ _ _ _ _;apply Ai;apply Ay;refine AO (l:=[vZ v.kind,vZ v.m,vZ v.e,Al v.text,lv,kv]) rfl (fun b1 T1=>?_);(refine Ab rfl<|Aa<|Ai<|Av<|Ac<|AD 0 rfl rfl rfl ?_);refine AF rfl (h1 v (k:=48) hv (by omega)) ?_;by_cases h3:Bc v≤48
 ·rw[decide_eq_true h3];(refine Bi rfl<|Ad rfl<|Aa<|AK rfl<|Ac<|AD 0 rfl rfl rfl ?_);refine AF rfl (h2 v ht hv) ?_;cases h4:BH v with
  |true=>
   (refine Bi rfl<|Ad rfl<|Aa<|AK rfl<|Am<|Ac<|Ab rfl<|Aa<|Ar ?_)
   apply CF;rfl
   simp[AS,h3,h4]
  |false=>
   (refine Bi rfl<|Ad rfl<|Aa<|Bb rfl<|Ac<|Ab rfl<|Aa<|Ar ?_)
   apply CF;rfl
   simp[AS,h3,h4]
 ·rw[decide_eq_false h3];(refine Bi rfl<|Ad rfl<|Aa<|Bb rfl<|Ac<|Ab rfl<|Aa<|Ar ?_);apply CF;rfl;simp[AS,h3]
end Go.Gk.Val
end
section
namespace Go.Gk.Val
open Go Go.Gk Go.Proofs Go.RowKit Go.Shelf
def Zi{T:Ag→Prop}{P}{ρ:Ren}(L:Lays.n196 P ρ)(hc:Ey P (ρ.f 196))(hT:∀d,T d→Jk (ρ.g 3) (ρ.g 4) d):VI T P (ρ.f 196):=by
 intro d l ht hl;refine AM.V0 hc (fun W hs=>?_);have:=Any.utf8_ValidString L ⟨l.toArray⟩ W (by show l.toArray.size≤_;simp;omega) ((hT d ht).Zt hs);exact this
end Go.Gk.Val
end
section
namespace Go.Gk.Val
open Go Go.Gk Go.Proofs Go.RowKit Go.Shelf
def TF(g3 g4 g2:Nat)(d:Ag):Prop:=Jk g3 g4 d∧DCs d g2 0 H2
def TF.mono{g3 g4 g2:Nat}{d d'}(hl:Le d d')(h:TF g3 g4 g2 d):TF g3 g4 g2 d':=⟨h.1.mono hl,h.2.mono hl⟩
def Tt:List Int:=(Z8 20).map fun i=>((10 ^ i:Nat):Int)
def Q2:H2=Tt.map fun z=>Value.int .u64 z:=rfl
end Go.Gk.Val
namespace Go.Gk.Val
open Go Go.Gk Go.Proofs Go.RowKit Go.Shelf
def Tr(g3 g4 g2 g5:Nat)(d:Ag):Prop:=TF g3 g4 g2 d∧DCs d g5 0 H2
def Tr.mono{g3 g4 g2 g5:Nat}{d d'}(hl:Le d d')(h:Tr g3 g4 g2 g5 d):Tr g3 g4 g2 g5 d':=⟨h.1.mono hl,h.2.mono hl⟩
end Go.Gk.Val
end
section
namespace Go.Gk
open Go Go.ChangeShapes Go.WideShapes Go.ChangeAt Go.RowKit
section
section
variable {H:Type}{enc:TypeId×Value→H}{P:Program}{W:World}
def Q7(enc:TypeId×Value→H)(P:Program)(W:World)(held:Bool)(fuel:Nat)(t:TypeId){α}(R:Ag→List Value→α→Prop):Prop:=
 ∀(cs:List Value) (x:DataW H×List MemPlace),DataW.trod enc P W 0 (fun _=>true) held fuel t cs=some x→(∀n∈x.1.weights P t,n≤reachBytes)→∃a:α,R (hw W) cs a
def Rd.at{t:TypeId}{α:Type}{R:Ag→List Value→α→Prop}(h:Rd enc P W t R){held:Bool}{fuel:Nat}:Q7 enc P W held fuel t R:=fun cs x=>h held fuel cs x
def Nz{held:Bool}{fuel:Nat}{t e:TypeId}{sz:Nat}{α:Type}{R:Ag→List Value→α→Prop}(ht:P.underlying t=some (.slice e))(hc:P.cellsOf e=sz)(hsz:0<sz)(hb:1≤P.bytesOf e)(he:∀n,n<fuel→Q7 enc P W held n e R):
  Q7 enc P W held fuel t (fun d cs (xs:List α)=>∃v,cs=[v]∧RSl sz R d v xs):=by
 subst hc
 intro cs x h hw
 rcases DataW.trod_slice ht h with ⟨rfl,rfl⟩|⟨a,len,cap,elems,rest,n,rfl,rfl,rfl,_,hlc,hcm,hlen,hel,hsp,_⟩
 ·exact⟨[],_,rfl,RSl.nil⟩
 ·have hwt:(elems.length+rest.length)*P.bytesOf e≤reachBytes:=hw _ (by simp[DataW.weights,ht])
  obtain⟨hrl,hre⟩:=hsp rfl
  have hcap:cap≤140737488355328:=by
   have h1:(elems.length+rest.length)*1≤(elems.length+rest.length)*P.bytesOf e:=Nat.mul_le_mul_left _ hb;have h2:=LU (Nat.le_trans h1 hwt);omega
  have one:∀i (hi:i<len),∃u:α,∃cs,cs.length=P.cellsOf e∧a.spot=none∧DCs (Gk.hw W) a.block (a.off+i*P.cellsOf e) cs∧R (Gk.hw W) cs u:=by
   intro i hi;have h1:=hel i hi;have hi':i<elems.length:=by omega
   rw[ZJ hi',ZZ] at h1;obtain⟨cs,h2,h3⟩:=h1;obtain⟨k1,k2,k3⟩:=GA h2 hsz;have hmem:∀(l:List (DataW H)) (y:DataW H),y∈l→∀n∈y.weights P e,n∈DataW.weightsAll P e l:=by
    intro l;induction l with
    |nil=>intro y hy;cases hy
    |cons z l ih=>
     intro y hy n hn
     simp only[DataW.weightsAll,ZK]
     rcases ZR.1 hy with rfl|hy
     ·exact .inl hn
     ·exact .inr (ih y hy n hn)
   obtain⟨u,hu⟩:=he n (by omega) cs elems[i] h3 (fun m hm=>hw m (by
    simp only[DataW.weights,ht,ZR,ZK];exact .inr (.inl (hmem _ _ (List.mem_map.2 ⟨elems[i],ZC hi',rfl⟩) m hm))))
   have hs:a.spot=none:=by
    obtain⟨b,o,s⟩:=a;by_cases h0:i*P.cellsOf e=0
    ·rw[h0,add_zero] at k1;exact k1
    ·have:=hel 0 (by omega);rw[ZJ (by omega),ZZ] at this;obtain⟨cs',h2',_⟩:=this;rw[Acf,add_zero] at h2';exact(GA h2' hsz).1
   obtain⟨b,o,s⟩:=a;simp only at hs;subst hs;rw[Addr.add_lit] at k3;exact⟨u,cs,k2,rfl,k3,hu⟩
  have hspot:cap≠0→a.spot=none:=by
   intro h0;by_cases h1:0<len
   ·obtain⟨_,_,_,hs,_⟩:=one 0 h1;exact hs
   ·have:=hre 0 (by omega);have hl0:len=0:=by omega
    rw[ZJ (by omega),ZZ] at this;obtain⟨cs',h2',_⟩:=this;rw[hl0,Nat.zero_add,Acf,add_zero] at h2';exact(GA h2' hsz).1
  refine⟨List.ofFn (n:=len) fun i=>(one i i.isLt).choose,_,rfl,some a,cap,a.block,a.off,?_,?_,fun h0 a' ha=>?_,(fun h=>nomatch h),?_,by omega,?_,?_⟩
  ·simp
  ·intro h0
   have h0':len≠0:=by simpa using h0
   have:=hspot (by omega)
   obtain⟨b,o,s⟩:=a;simp only at this;subst this;rfl
  ·cases ha;exact hspot h0
  ·simpa using hlc
  ·simp;omega
  ·intro i hi
   have hi':i<len:=by simpa using hi
   obtain⟨cs,k1,_,k3,k4⟩:=(one i hi').choose_spec
   exact⟨cs,k1,k3,by simpa using k4⟩
def RP{t}{fs:Array Field}(ht:P.underlying t=some (.struct fs)){held:Bool}{fuel:Nat}{cs}{x:DataW H×List MemPlace}(h:DataW.trod enc P W 0 (fun _=>true) held fuel t cs=some x)
  (hw:∀n∈x.1.weights P t,n≤reachBytes):cs.length=P.cellsOf t∧∀(i o ty sz:Nat),(fs[i]?).map (fun f=>(f.offset,f.type))=some (o,ty)→P.cellsOf ty=sz→∀{α R},(∀n,n<fuel→Q7 enc P W held n ty R)→
   ∃a:α,R (Gk.hw W) ((cs.drop o).take sz) a:=by
 obtain⟨xs,n,rfl,rfl,hl,hxl,hf⟩:=DataW.trod_struct ht h
 refine⟨hl,fun i o ty sz hi hsz α R hr=>?_⟩
 subst hsz
 rw[Option.map_eq_some_iff] at hi
 obtain⟨f,hi,e⟩:=hi
 simp only[Prod.mk.injEq] at e
 obtain⟨rfl,rfl⟩:=e
 have h1:=hf i f hi
 have hi':i<fs.size:=(Array.getElem?_eq_some_iff.1 hi).1
 rw[ZJ (by omega)] at h1
 refine hr n (by omega) _ _ h1 (fun m hm=>hw m ?_)
 simp only[DataW.weights,ht]
 refine DataW.weights_mem_each (j:=i) (t:=f.type) ?_ ?_ m hm
 ·rw[Aat,Array.getElem?_toList,hi];rfl
 ·rw[Aat,ZJ (by omega)];rfl
end
end
end Go.Gk
end
section
namespace Go.Gk.Val
open Go Go.Gk Go.Gk.Utf
attribute [local irreducible] gwp gws
def MW(P:Program)(f:FuncId):Prop:=∀{d}{n:Int},I64 n→AM P f [vZ n] d (Al (Dn n))
def J2:A6:=⟨72,[(.tmp 2)],(sR (o1 2 (.mv (.const (Al []))) .done) (.seq (sR (om 3 0<|ob 4 .lss 3 z0<|om 5 4<|gF 6 5 0<|oF 7 5 (.bin .gtr 6 (kZ 1114111))<|o1 8 (.pick 5 (.const (.bool true)) 7)<|om 9 8<|gF 10 9 0<|oF 11 9 (.bin .geq 10 (kZ 55296))<|gF 12 9 11<|gT 13 12 0<|oT 14 12 (.bin .leq 13 (kZ 57343))<|oF 15 9 (.pick 12 14 (.const (.bool false)))<|o1 16 (.pick 9 (.const (.bool true)) 15) .done) (.cond 16 (sR (o1 2 (.mv (.const (Al []))) .done) .ret) .skip)) (.seq (sR (om 17 0<|ob 18 .lss 17 (kZ 128) .done) (.cond 18 (sR (om 19 0<|o1 20 (.cvi .u8 19)<|o1 21 (.bsl 1 1 [(.int .u8 0)] [(0,20)])<|o1 22 (.b2s 21)<|om 2 22 .done) .ret) .skip)) (.seq (sR (om 23 0<|ob 24 .lss 23 (kZ 2048) .done) (.cond 24 (sR (om 25 0<|ob 26 .quo 25 (kZ 64)<|ob 27 .add (kZ 192) 26<|o1 28 (.cvi .u8 27)<|om 29 0<|ob 30 .rem 29 (kZ 64)<|ob 31 .add (kZ 128) 30<|o1 32 (.cvi .u8 31)<|o1 33 (.bsl 2 1 [(.int .u8 0)] [(0,28),(1,32)])<|o1 34 (.b2s 33)<|om 2 34 .done) .ret) .skip)) (.seq (sR (om 35 0<|ob 36 .lss 35 (kZ 65536) .done) (.cond 36 (sR (om 37 0<|ob 38 .quo 37 (kZ 4096)<|ob 39 .add (kZ 224) 38<|o1 40 (.cvi .u8 39)<|om 41 0<|ob 42 .quo 41 (kZ 64)<|ob 43 .rem 42 (kZ 64)<|ob 44 .add (kZ 128) 43<|o1 45 (.cvi .u8 44)<|om 46 0<|ob 47 .rem 46 (kZ 64)<|ob 48 .add (kZ 128) 47<|o1 49 (.cvi .u8 48)<|o1 50 (.bsl 3 1 [(.int .u8 0)] [(0,40),(1,45),(2,49)])<|o1 51 (.b2s 50)<|om 2 51 .done) .ret) .skip)) (sR (om 52 0<|ob 53 .quo 52 (kZ 262144)<|ob 54 .add (kZ 240) 53<|o1 55 (.cvi .u8 54)<|om 56 0<|ob 57 .quo 56 (kZ 4096)<|ob 58 .rem 57 (kZ 64)<|ob 59 .add (kZ 128) 58<|o1 60 (.cvi .u8 59)<|om 61 0<|ob 62 .quo 61 (kZ 64)<|ob 63 .rem 62 (kZ 64)<|ob 64 .add (kZ 128) 63<|o1 65 (.cvi .u8 64)<|om 66 0<|ob 67 .rem 66 (kZ 64)<|ob 68 .add (kZ 128) 67<|o1 69 (.cvi .u8 68)<|o1 70 (.bsl 4 1 [(.int .u8 0)] [(0,55),(1,60),(2,65),(3,69)])<|o1 71 (.b2s 70)<|om 2 71 .done) .ret))))))⟩
def R8{P f}(hd:dec P f=some J2):MW P f:=by
 intro d n ⟨hn1,hn2⟩;refine AM.of' hd (No rfl) ?_;show gwp P _ _ _ _ _;by_cases h1:n<0
 ·have e:=On (.inl h1);(refine Ac<|Bk rfl<|Aa<|Ai<|Ac<|Ab rfl<|Ax rfl rfl<|Ad rfl<|AE rfl (by omega)<|Ak rfl<|Ak rfl<|Ap rfl rfl<|Ad rfl<|Ak rfl<|Ak rfl<|Ak rfl<|AY rfl<|AY rfl<|Ak rfl<|Ap rfl rfl<|Aa<|Bb rfl<|Ac<|Bk rfl<|Aa<|Ar ?_);exact Fu (v:=Al []) rfl ⟨by rw[e],rfl⟩
 by_cases h2:n>1114111
 ·have e:=On (.inr (.inl h2));(refine Ac<|Bk rfl<|Aa<|Ai<|Ac<|Ab rfl<|Ax rfl rfl<|Ad rfl<|AB rfl (by omega)<|Ae rfl<|Ab rfl<|Ae rfl<|AP rfl rfl<|An rfl rfl<|Ad rfl<|AE rfl (by omega)<|Ak rfl<|Ak rfl<|Ak rfl<|AY rfl<|AY rfl<|Ak rfl<|Ap rfl rfl<|Aa<|Bb rfl<|Ac<|Bk rfl<|Aa<|Ar ?_);exact Fu (v:=Al []) rfl ⟨by rw[e],rfl⟩
 by_cases h3:n≥55296∧n≤57343
 ·obtain⟨h3,h3'⟩:=h3;have e:=On (.inr (.inr ⟨h3,h3'⟩));(refine Ac<|Bk rfl<|Aa<|Ai<|Ac<|Ab rfl<|Ax rfl rfl<|Ad rfl<|AB rfl (by omega)<|Ae rfl<|Ab rfl<|Ae rfl<|AP rfl rfl<|An rfl rfl<|Ad rfl<|AB rfl (by omega)<|Ae rfl<|Ab rfl<|Ae rfl<|B5 rfl rfl<|Ae rfl<|Ad rfl<|AE rfl (by omega)<|Ae rfl<|Ab rfl<|Ae rfl<|CW rfl rfl<|Ae rfl<|Ap rfl rfl<|An rfl rfl<|Aa<|Au rfl (by omega)<|Ac<|Bk rfl<|Aa<|Ar ?_);exact Fu (v:=Al []) rfl ⟨by rw[e],rfl⟩
 have hsur:n<55296∨(n≥55296∧¬n≤57343):=by omega
 by_cases h4:n<128
 ·have e:=X5 (by omega) h4;(refine Ac<|Bk rfl<|Aa<|Ai<|Ac<|Ab rfl<|Ax rfl rfl<|Ad rfl<|AB rfl (by omega)<|Ae rfl<|Ab rfl<|Ae rfl<|AP rfl rfl<|An rfl rfl<|Ad rfl<|AB rfl (by omega)<|Ae rfl<|Ab rfl<|Ae rfl<|B5 rfl rfl<|Ae rfl<|Ad rfl<|AB rfl (by omega)<|Ak rfl<|Ak rfl<|Ae rfl<|An rfl rfl<|An rfl rfl<|Aa<|AK rfl<|Am<|Ai<|Ac<|Ab rfl<|Ax rfl rfl<|Aa<|Au rfl (by omega)<|Ac<|Ab rfl<|Fs rfl ?_);refine E5 (v0:=Bz (UInt8.ofNat (n % 256).toNat)) rfl rfl (fun b8 T8=>?_);have o:AN 1 GG d (.slice (some ⟨b8,0,none⟩) 1 1) (Dn n) (bx b8 T8 [Bz (UInt8.ofNat (n % 256).toNat)]):=AN.PX (by rw[e];rfl) (by rw[e];rfl) (by rw[e];simp);(refine Ko (by rfl) (by assumption) (by simp[lk])<|Bk rfl<|Aa<|Ar ?_);exact BI rfl
 by_cases h5:n<2048
 ·have e:=XY (by omega) h5;(refine Ac<|Bk rfl<|Aa<|Ai<|Ac<|Ab rfl<|Ax rfl rfl<|Ad rfl<|AB rfl (by omega)<|Ae rfl<|Ab rfl<|Ae rfl<|AP rfl rfl<|An rfl rfl<|Ad rfl<|AB rfl (by omega)<|Ae rfl<|Ab rfl<|Ae rfl<|B5 rfl rfl<|Ae rfl<|Ad rfl<|AB rfl (by omega)<|Ak rfl<|Ak rfl<|Ae rfl<|An rfl rfl<|An rfl rfl<|Aa<|AK rfl<|Am<|Ai<|Ac<|Ab rfl<|Ax rfl rfl<|Aa<|Ao rfl (by omega)<|Am<|Ai<|Ac<|Ab rfl<|Ax rfl rfl<|Aa<|Au rfl (by omega)<|Ac<|Ab rfl<|Ie rfl rfl (by omega) (by omega) (by omega)<|AI rfl rfl (by omega) (by omega)<|Fs rfl<|Ab rfl<|Im rfl rfl (by omega) (by omega)<|AI rfl rfl (by omega) (by omega)<|Fs rfl ?_);refine G5 (v0:=Bz (UInt8.ofNat ((192+n / 64) % 256).toNat)) (v1:=Bz (UInt8.ofNat ((128+n % 64) % 256).toNat)) rfl rfl rfl rfl (fun b8 T8=>?_);have o:AN 1 GG d (.slice (some ⟨b8,0,none⟩) 2 2) (Dn n) (bx b8 T8 [Bz (UInt8.ofNat ((192+n / 64) % 256).toNat),Bz (UInt8.ofNat ((128+n % 64) % 256).toNat)]):=AN.PX (by rw[e];rfl) (by rw[e];rfl) (by rw[e];simp);(refine Ko (by rfl) (by assumption) (by simp[lk])<|Bk rfl<|Aa<|Ar ?_);exact BI rfl
 rcases hsur with hs|⟨hs,hs'⟩
 ·have e:=Ss (n:=n) (by omega) (by omega) (by omega);(refine Ac<|Bk rfl<|Aa<|Ai<|Ac<|Ab rfl<|Ax rfl rfl<|Ad rfl<|AB rfl (by omega)<|Ae rfl<|Ab rfl<|Ae rfl<|AP rfl rfl<|An rfl rfl<|Ad rfl<|AB rfl (by omega)<|Ae rfl<|Ab rfl<|Ae rfl<|B5 rfl rfl<|Ae rfl<|Ad rfl<|AB rfl (by omega)<|Ak rfl<|Ak rfl<|Ae rfl<|An rfl rfl<|An rfl rfl<|Aa<|AK rfl<|Am<|Ai<|Ac<|Ab rfl<|Ax rfl rfl<|Aa<|Ao rfl (by omega)<|Am<|Ai<|Ac<|Ab rfl<|Ax rfl rfl<|Aa<|Ao rfl (by omega)<|Am<|Ai<|Ac<|Ab rfl<|Ax rfl rfl<|Aa<|Au rfl (by omega)<|Ac<|Ab rfl<|Ie rfl rfl (by omega) (by omega) (by omega)<|AI rfl rfl (by omega) (by omega)<|Fs rfl<|Ab rfl<|Ie rfl rfl (by omega) (by omega) (by omega)<|Im rfl rfl (by omega) (by omega)<|AI rfl rfl (by omega) (by omega)<|Fs rfl<|Ab rfl<|Im rfl rfl (by omega) (by omega)<|AI rfl rfl (by omega) (by omega)<|Fs rfl ?_);refine S9 (v0:=Bz (UInt8.ofNat ((224+n / 4096) % 256).toNat)) (v1:=Bz (UInt8.ofNat ((128+n / 64 % 64) % 256).toNat)) (v2:=Bz (UInt8.ofNat ((128+n % 64) % 256).toNat)) rfl rfl rfl rfl rfl rfl (fun b8 T8=>?_);have o:AN 1 GG d (.slice (some ⟨b8,0,none⟩) 3 3) (Dn n) (bx b8 T8 [Bz (UInt8.ofNat ((224+n / 4096) % 256).toNat),Bz (UInt8.ofNat ((128+n / 64 % 64) % 256).toNat),Bz (UInt8.ofNat ((128+n % 64) % 256).toNat)]):=AN.PX (by rw[e];rfl) (by rw[e];rfl) (by rw[e];simp);(refine Ko (by rfl) (by assumption) (by simp[lk])<|Bk rfl<|Aa<|Ar ?_);exact BI rfl
 ·by_cases h6:n<65536
  ·have e:=Ss (n:=n) (by omega) (by omega) (by omega);(refine Ac<|Bk rfl<|Aa<|Ai<|Ac<|Ab rfl<|Ax rfl rfl<|Ad rfl<|AB rfl (by omega)<|Ae rfl<|Ab rfl<|Ae rfl<|AP rfl rfl<|An rfl rfl<|Ad rfl<|AB rfl (by omega)<|Ae rfl<|Ab rfl<|Ae rfl<|B5 rfl rfl<|Ae rfl<|Ad rfl<|AE rfl (by omega)<|Ae rfl<|Ab rfl<|Ae rfl<|CW rfl rfl<|Ae rfl<|Ap rfl rfl<|An rfl rfl<|Aa<|Ao rfl (by omega)<|Am<|Ai<|Ac<|Ab rfl<|Ax rfl rfl<|Aa<|Ao rfl (by omega)<|Am<|Ai<|Ac<|Ab rfl<|Ax rfl rfl<|Aa<|Ao rfl (by omega)<|Am<|Ai<|Ac<|Ab rfl<|Ax rfl rfl<|Aa<|Au rfl (by omega)<|Ac<|Ab rfl<|Ie rfl rfl (by omega) (by omega) (by omega)<|AI rfl rfl (by omega) (by omega)<|Fs rfl<|Ab rfl<|Ie rfl rfl (by omega) (by omega) (by omega)<|Im rfl rfl (by omega) (by omega)<|AI rfl rfl (by omega) (by omega)<|Fs rfl<|Ab rfl<|Im rfl rfl (by omega) (by omega)<|AI rfl rfl (by omega) (by omega)<|Fs rfl ?_);refine S9 (v0:=Bz (UInt8.ofNat ((224+n / 4096) % 256).toNat)) (v1:=Bz (UInt8.ofNat ((128+n / 64 % 64) % 256).toNat)) (v2:=Bz (UInt8.ofNat ((128+n % 64) % 256).toNat)) rfl rfl rfl rfl rfl rfl (fun b8 T8=>?_);have o:AN 1 GG d (.slice (some ⟨b8,0,none⟩) 3 3) (Dn n) (bx b8 T8 [Bz (UInt8.ofNat ((224+n / 4096) % 256).toNat),Bz (UInt8.ofNat ((128+n / 64 % 64) % 256).toNat),Bz (UInt8.ofNat ((128+n % 64) % 256).toNat)]):=AN.PX (by rw[e];rfl) (by rw[e];rfl) (by rw[e];simp);(refine Ko (by rfl) (by assumption) (by simp[lk])<|Bk rfl<|Aa<|Ar ?_);exact BI rfl
  ·have e:=Yl (n:=n) (by omega) (by omega);(refine Ac<|Bk rfl<|Aa<|Ai<|Ac<|Ab rfl<|Ax rfl rfl<|Ad rfl<|AB rfl (by omega)<|Ae rfl<|Ab rfl<|Ae rfl<|AP rfl rfl<|An rfl rfl<|Ad rfl<|AB rfl (by omega)<|Ae rfl<|Ab rfl<|Ae rfl<|B5 rfl rfl<|Ae rfl<|Ad rfl<|AE rfl (by omega)<|Ae rfl<|Ab rfl<|Ae rfl<|CW rfl rfl<|Ae rfl<|Ap rfl rfl<|An rfl rfl<|Aa<|Ao rfl (by omega)<|Am<|Ai<|Ac<|Ab rfl<|Ax rfl rfl<|Aa<|Ao rfl (by omega)<|Am<|Ai<|Ac<|Ab rfl<|Ax rfl rfl<|Aa<|Ao rfl (by omega)<|Am<|Ai<|Ac<|Ab rfl<|Ax rfl rfl<|Aa<|Ao rfl (by omega)<|Am<|Ac<|Ab rfl<|Ie rfl rfl (by omega) (by omega) (by omega)<|AI rfl rfl (by omega) (by omega)<|Fs rfl<|Ab rfl<|Ie rfl rfl (by omega) (by omega) (by omega)<|Im rfl rfl (by omega) (by omega)<|AI rfl rfl (by omega) (by omega)<|Fs rfl<|Ab rfl<|Ie rfl rfl (by omega) (by omega) (by omega)<|Im rfl rfl (by omega) (by omega)<|AI rfl rfl (by omega) (by omega)<|Fs rfl<|Ab rfl<|Im rfl rfl (by omega) (by omega)<|AI rfl rfl (by omega) (by omega)<|Fs rfl ?_);refine Zp (v0:=Bz (UInt8.ofNat ((240+n / 262144) % 256).toNat)) (v1:=Bz (UInt8.ofNat ((128+n / 4096 % 64) % 256).toNat)) (v2:=Bz (UInt8.ofNat ((128+n / 64 % 64) % 256).toNat)) (v3:=Bz (UInt8.ofNat ((128+n % 64) % 256).toNat)) rfl rfl rfl rfl rfl rfl rfl rfl (fun b8 T8=>?_);have o:AN 1 GG d (.slice (some ⟨b8,0,none⟩) 4 4) (Dn n) (bx b8 T8 [Bz (UInt8.ofNat ((240+n / 262144) % 256).toNat),Bz (UInt8.ofNat ((128+n / 4096 % 64) % 256).toNat),Bz (UInt8.ofNat ((128+n / 64 % 64) % 256).toNat),Bz (UInt8.ofNat ((128+n % 64) % 256).toNat)]):=AN.PX (by rw[e];rfl) (by rw[e];rfl) (by rw[e];simp);(refine Ko (by rfl) (by assumption) (by simp[lk])<|Bk rfl<|Aa<|Ar ?_);exact BI rfl
def IN(P:Program)(f:FuncId):Prop:=∀{d l},l≠[]→l.length≤140737488355328→AM P f [Al l] d (.tuple #[vZ (Eo l).1,vZ (Eo l).2])
def Jm(a0:Nat):A6:=⟨47,[(.tmp 2),(.tmp 3)],(sR (o1 2 (.mv z0)<|o1 3 (.mv z0) .done) (sR (o1 8 (.bld [(0,1),(1,1),(2,1),(3,1),(4,1)] [(vZ 0),(vZ 0),(vZ 0),(vZ 0),(vZ 0)] [(0,z0),(1,z0),(2,(kZ 192)),(3,(kZ 224)),(4,(kZ 240))])<|o1 4 (.alo (.agg #[(vZ 0),(vZ 0),(vZ 0),(vZ 0),(vZ 0)]))<|o0 (.st 5 4 8) .done) (.seq (sR (o1 5 (.mv z1) .done) (.block 0 (.loop (.seq (sR (om 9 5<|ob 10 .leq 9 (kZ 4)<|om 11 10<|gT 12 11 5<|gT 13 11 0<|oT 14 11 (.lens 13)<|oT 15 11 (.bin .leq 12 14)<|gP 16 11 15 .done) (.cond 16 .skip (.exit 0))) (.seq (.block 1 (.seq (.reg true (pm 19 0<|p1 20 (.sidx 19 z0)<|p1 21 (.cvi .i64 20)<|pm 22 5<|p1 23 (.idxa 5 1 4 22)<|pl 24 23<|p1 25 (.bin .sub 21 24) (.bar (pm 6 25 .done)))) (.seq (sR (o1 7 (.mv z1) .done) (.block 2 (.loop (.seq (sR (om 26 7<|om 27 5<|ob 28 .lss 26 27 .done) (.cond 28 .skip (.exit 2))) (.seq (.block 3 (rG (om 31 6<|ob 32 .mul 31 (kZ 64)<|om 33 0<|om 34 7<|o1 35 (.sidx 33 34)<|o1 36 (.cvi .i64 35)<|ob 37 .add 32 36<|ob 38 .sub 37 (kZ 128)<|om 6 38 .done))) (rG (om 29 7<|ob 30 .add 29 z1<|om 7 30 .done))))))) (.seq (.reg true (pm 39 6<|pm 41 0<|pm 42 5<|p1 43 (.sls 41 none (some 42))<|oc 40 a0 [39]<|p1 44 (.bin .eql 40 43) .done)) (.cond 44 (sR (om 45 6<|om 46 5<|om 2 45<|om 3 46 .done) .ret) .skip))))) (rG (om 17 5<|ob 18 .add 17 z1<|om 5 18 .done))))))) (sR (o1 2 (.mv z0)<|o1 3 (.mv z0) .done) .ret))))⟩
set_option maxHeartbeats 1000000 in
def PN{P f f1}(hd:dec P f=some (Jm f1))(h1:MW P f1):IN P f:=by
 intro d l hne hl;have hl1:1≤l.length:=Aan.2 hne;refine AM.of' hd (No rfl) ?_;show gwp P _ _ _ _ _;(refine Ac<|Ab rfl<|Ab rfl<|Aa<|Ac<|BN rfl<|AX (fun _ _=>?_));rename_i b4 T4;refine Az 0 [vZ 0,vZ 0,vZ 192,vZ 224,vZ 240] rfl rfl rfl rfl (No rfl) rfl rfl ?_;(refine Aa<|Ai<|Ac<|Ab rfl<|Aa<|Av ?_);refine CD (α:=Nat) (fun n=>[(0,Al l),(4,pZ b4),(5,vZ n)]) (fun _=>[bx b4 T4 [vZ 0,vZ 0,vZ 192,vZ 224,vZ 240]])
  (fun n=>1≤n∧n≤5∧EZ l (5 - n) n=Eo l) (fun n=>5 - n) 1 ⟨rfl,rfl,rfl,trivial⟩ rfl ⟨by omega,by omega,rfl⟩ ?_
 rintro n ρ ⟨hn1,hn5,hgo⟩;by_cases hc:n≤4∧n≤l.length
 ·obtain⟨hc1,hc2⟩:=hc;obtain⟨g,hg⟩:∃g,5 - n=g+1:=⟨4 - n,by omega⟩
  rw[hg] at hgo;simp only[EZ,if_pos (show n≤4∧n≤l.length from⟨hc1,hc2⟩)] at hgo;have hb0:0≤((l.getD 0 0).toNat:Int)∧((l.getD 0 0).toNat:Int)≤255:=Lg l 0;have hl0:l[0]?=some (l.getD 0 0):=by simp[show 0<l.length by omega]
  have hhd:[Value.int .i64 0,vZ 0,vZ 192,vZ 224,vZ 240][n]?=some (vZ (Utf.hd n)):=by
   obtain rfl|rfl|rfl|rfl:n=1∨n=2∨n=3∨n=4:=by omega
   ·rfl
   ·rfl
   ·rfl
   ·rfl
  have hhl:0≤Utf.hd n∧Utf.hd n≤240:=by unfold Utf.hd;split<;>omega
  (refine Ai<|Ac<|Ab rfl<|CW rfl rfl<|Ad rfl<|AE rfl (by omega)<|Ae rfl<|Ab rfl<|Ae rfl<|Bk rfl<|Ae rfl<|ED rfl<|Ae rfl<|CW rfl rfl<|Ap rfl rfl<|Aa<|Au rfl (by omega)<|Am<|Ai<|Av<|Ai ?_);refine AT ?_;(apply Bk;rfl);refine Uu 0 rfl rfl rfl hl0 ?_;(refine FW rfl (by omega) (by omega)<|Ab rfl ?_);refine Ds n rfl rfl rfl (by omega) ?_;refine Ah rfl (Aj 0 rfl (by simpa using hhd)) ?_;(refine Bn rfl rfl (by omega) (by omega)<|Bt<|Ab rfl<|Aa<|Ai<|Ac<|Ab rfl<|Aa<|Av ?_);refine CD (α:=Nat) (fun i=>[(0,Al l),(4,pZ b4),(5,vZ n),(6,vZ (Fi l n i)),(7,vZ i)]) (fun _=>[bx b4 T4 [vZ 0,vZ 0,vZ 192,vZ 224,vZ 240]])
   (fun i=>1≤i∧i≤n) (fun i=>n - i) 1 ⟨rfl,rfl,rfl,int_eq rfl,rfl,trivial⟩ rfl ⟨by omega,hn1⟩ ?_
  rintro i ρ ⟨hi1,hi2⟩;have hnb:=Yj l (n:=n) (i:=i) (by omega);by_cases hc3:i<n
  ·have hbi:=Lg l i;have hli:l[i]?=some (l.getD i 0):=by simp[show i<l.length by omega]
   (refine Ai<|Ac<|Ab rfl<|Ab rfl<|Ax rfl rfl<|Aa<|Au rfl (by omega)<|Am<|Ai<|Av<|Ay<|Ab rfl<|Hb rfl rfl (by omega) (by omega)<|Bk rfl<|Ab rfl ?_);refine Uu i rfl rfl rfl hli ?_;have hbi':0≤((l.getD i 0).toNat:Int)∧((l.getD i 0).toNat:Int)≤255:=hbi;(refine FW rfl (by omega) (by omega)<|AI rfl rfl (by omega) (by omega)<|Bn rfl rfl (by omega) (by omega)<|Ab rfl<|Aa<|Ay<|Ab rfl<|AI rfl rfl (by omega) (by omega)<|Ab rfl<|Aa ?_);refine⟨i+1,by omega,⟨rfl,rfl,rfl,?_,int_eq (by omega),trivial⟩,rfl,rfl,by omega,by omega⟩
   obtain⟨j,rfl⟩:∃j,i=j+1:=⟨i - 1,by omega⟩
   rfl
  ·obtain rfl:i=n:=by omega
   (refine Ai<|Ac<|Ab rfl<|Ab rfl<|Ax rfl rfl<|Aa<|Ao rfl (by omega)<|AV<|Ai<|AT<|Ab rfl<|Bk rfl<|Ab rfl ?_);refine R1 (n:=i) rfl rfl rfl hc2 ?_;refine AF rfl (h1 ⟨by omega,by omega⟩) ?_;by_cases he:Dn (Fi l i i)=l.take i
   ·(refine Ek rfl rfl<|AW<|Au rfl (by omega)<|Ac<|Ab rfl<|Ab rfl<|Ab rfl<|Ab rfl<|Aa<|Ar ?_);rw[if_pos he] at hgo;rw[←hgo];exact BS rfl rfl
   ·(refine Ek rfl rfl<|AW<|Ao rfl (by omega)<|Am<|Ay<|Ab rfl<|AI rfl rfl (by omega) (by omega)<|Ab rfl<|Aa ?_);rw[if_neg he] at hgo;exact⟨i+1,by omega,⟨rfl,rfl,int_eq (by omega),trivial⟩,rfl,rfl,by omega,by omega,by rw[show 5 - (i+1)=g by omega];exact hgo⟩
 ·have hz:Eo l=(0,0):=by
   rw[←hgo];cases h:5 - n with
   |zero=>rfl
   |succ g=>simp only[EZ];rw[if_neg hc]
  rw[hz];by_cases hc4:n≤4
  ·have hc5:¬n≤l.length:=fun h=>hc ⟨hc4,h⟩;(refine Ai<|Ac<|Ab rfl<|CW rfl rfl<|Ad rfl<|AE rfl (by omega)<|Ae rfl<|Ab rfl<|Ae rfl<|Bk rfl<|Ae rfl<|ED rfl<|Ae rfl<|CW rfl rfl<|Ap rfl rfl<|Aa<|Ao rfl (by omega)<|AV<|Ac<|Ab rfl<|Ab rfl<|Aa<|Ar ?_);exact BS rfl rfl
  ·(refine Ai<|Ac<|Ab rfl<|CW rfl rfl<|Ad rfl<|AB rfl (by omega)<|Ak rfl<|Ak rfl<|Ak rfl<|Ak rfl<|An rfl rfl<|Aa<|AK rfl<|AV<|Ac<|Ab rfl<|Ab rfl<|Aa<|Ar ?_);exact BS rfl rfl
def JJ(a0:Nat):A6:=⟨18,[(.tmp 2)],(sR (o1 2 (.mv (.const (.bool false))) .done) (.seq (.block 0 (.loop (.seq (sR (om 5 0<|o1 6 (.lens 5)<|ob 7 .gtr 6 z0 .done) (.cond 7 .skip (.exit 0))) (.block 1 (sR (om 9 0<|oc 10 a0 [9]<|om 8 10<|oe 11 8 0<|oe 12 8 1<|om 3 11<|om 4 12 .done) (.seq (sR (om 13 4<|ob 14 .eql 13 z0 .done) (.cond 14 (sR (o1 2 (.mv (.const (.bool false))) .done) .ret) .skip)) (rG (om 15 0<|om 16 4<|o1 17 (.sls 15 (some 16) none)<|om 0 17 .done)))))))) (sR (o1 2 (.mv (.const (.bool true))) .done) .ret)))⟩
def Pd{T:Ag→Prop}{P f f1}(hd:dec P f=some (JJ f1))(h1:IN P f1):DP T P f:=by
 intro d l ht hl;refine AM.of' hd (No rfl) ?_;show gwp P _ _ _ _ _;(refine Ac<|Ad rfl<|Aa<|Ai<|Av ?_);refine CD (α:=List UInt8) (fun l'=>[(0,Al l')]) (fun _=>[]) (fun l'=>l'.length≤l.length∧u8 l'=u8 l) (fun l'=>l'.length) l ⟨rfl,trivial⟩ rfl ⟨ZL _,rfl⟩ ?_;rintro l' ρ ⟨hle,hu⟩;by_cases hc:l'=[]
 ·have h0:l'.length=0:=by rw[hc];rfl
  (refine Ai<|Ac<|Bk rfl<|ED rfl<|AP rfl rfl<|Aa<|Ao rfl (by omega)<|AV<|Ac<|Ad rfl<|Aa<|Ar ?_);apply Bf;rfl;rw[←hu,hc];rfl
 ·have hpos:1≤l'.length:=Aan.2 hc;have hs:=Yd hc;have hw:=M4 l' 4 1;have hw:0≤(Eo l').2∧(Eo l').2≤l'.length:=hw;(refine Ai<|Ac<|Bk rfl<|ED rfl<|AP rfl rfl<|Aa<|Au rfl (by omega)<|Am<|Av<|Ac<|Bk rfl ?_);refine AF rfl (h1 hc (by omega)) ?_;by_cases h0:(Eo l').2=0
  ·(refine Bj rfl<|AL rfl rfl<|AL rfl rfl<|Ab rfl<|Ab rfl<|Aa<|Ai<|Ac<|Ab rfl<|Aq rfl rfl<|Aa<|Au rfl (by omega)<|Ac<|Ad rfl<|Aa<|Ar ?_);apply Bf;rfl;rw[←hu,u8,hs,if_pos h0]
  ·(refine Bj rfl<|AL rfl rfl<|AL rfl rfl<|Ab rfl<|Ab rfl<|Aa<|Ai<|Ac<|Ab rfl<|Aq rfl rfl<|Aa<|Ao rfl (by omega)<|Am<|Ay<|Bk rfl<|Ab rfl ?_);refine Ph (n:=(Eo l').2.toNat) rfl rfl (by omega) (by omega) ?_;(refine Bk rfl<|Aa ?_);refine⟨l'.drop (Eo l').2.toNat,by simp;omega,⟨rfl,trivial⟩,rfl,rfl,by simp;omega,?_⟩
   rw[←hu,u8,u8,hs,if_neg h0]
end Go.Gk.Val
end
section
namespace Go.Gk.Num
open Go
def Bw(n:Nat):List Nat:=if _:n=0 then [] else Bw (n / 10)++[n % 10]
termination_by n
decreasing_by omega
def Fc:Bw 0=[]:=by rw[Bw];simp
def EP{n:Nat}(h:n≠0):Bw n=Bw (n / 10)++[n % 10]:=by rw[Bw];simp[h]
def val(l:List Nat):Nat:=l.foldl (fun m d=>m*10+d) 0
def MB(l:List Nat)(d:Nat):val (l++[d])=val l*10+d:=by simp[val]
def GC{p:Nat→Prop}(h0:p 0)(hs:∀n,n≠0→p (n / 10)→p n)(n:Nat):p n:=by
 induction n using Nat.strongRecOn with
 |_ n ih=>
  by_cases h:n=0
  ·subst h;exact h0
  ·exact hs n h (ih _ (by omega))
def FR(n:Nat):val (Bw n)=n:=by
 induction n using GC with
 |h0=>rw[Fc];rfl
 |hs n h ih=>rw[EP h,MB,ih];omega
def Gn(n:Nat):∀d∈Bw n,d<10:=by
 induction n using GC with
 |h0=>rw[Fc];simp
 |hs n h ih=>
  rw[EP h]
  intro d hd
  rcases ZK.1 hd with hd|hd
  ·exact ih d hd
  ·rw[List.mem_singleton.1 hd];omega
def FM(n:Nat):∀k,(Bw n).length≤k↔n<10 ^ k:=by
 induction n using GC with
 |h0=>intro k;rw[Fc];simp;exact Nat.pow_pos (by omega)
 |hs n h ih=>
  intro k
  rw[EP h,ZH,Aak]
  cases k with
  |zero=>simp;omega
  |succ k=>
   have:=ih k
   rw[Ach]
   constructor
   ·intro h1;have:=this.1 (by omega);omega
   ·intro h1;have:=this.2 (by omega);omega
def GQ{n:Nat}(h:n≠0):∃d l,Bw n=d::l∧d≠0:=by
 induction n using GC with
 |h0=>exact absurd rfl h
 |hs n hn ih=>
  by_cases h1:n / 10=0
  ·refine⟨n % 10,[],?_,by omega⟩
   rw[EP hn,h1,Fc];rfl
  ·obtain⟨d,l,e,hd⟩:=ih h1
   exact⟨d,l++[n % 10],by rw[EP hn,e];rfl,hd⟩
def lead:List Nat→List Nat
 |0::l=>lead l
 |l=>l
def Du:Nat→List Nat→Int→List Nat×Int
 |0,l,e=>(l,e)
 |f+1,l,e=>if l.getLast?=some 0 then Du f l.dropLast (e+1) else(l,e)
def EE(neg:Bool)(l:List Nat)(e:Int):Int×Int×Int:=
 let p:=Du (lead l).length (lead l) e
 if p.1=[] then(0,0,0) else
 if p.1.length>18∨p.2< -64∨p.2>64 then(0,0,11) else
 (if neg then -(val p.1:Int) else(val p.1:Int),p.2,0)
def Qg:∀f l (e:Int),e≤(Du f l e).2
 |0,l,e=>Int.le_refl e
 |f+1,l,e=>by
  simp only[Du];split
  ·have:=Qg f l.dropLast (e+1);omega
  ·exact Int.le_refl e
def Nh:∀f d l (e:Int),d≠0→∃l',(Du f (d::l) e).1=d::l'
 |0,d,l,e,_=>⟨l,rfl⟩
 |f+1,d,l,e,hd=>by
  simp only[Du];split
  ·rename_i h;cases l with
   |nil=>simp at h;exact absurd h hd
   |cons a l=>rw[List.dropLast_cons_cons];exact Nh f d _ _ hd
  ·exact⟨l,rfl⟩
def RC(m e:Int)(h1: -64≤e)(h2:e≤64):((EE (decide (m<0)) (Bw m.natAbs) e).2.2=0∧(EE (decide (m<0)) (Bw m.natAbs) e).1=m∧(EE (decide (m<0)) (Bw m.natAbs) e).2.1=e)↔
  (if m=0 then e=0 else(-1000000000000000000<m∧m<1000000000000000000∧m % 10≠0∧ -64≤e∧e≤64)):=by
 by_cases h0:m=0
 ·subst h0
  rw[show(0:Int).natAbs=0 from rfl,Fc]
  simp[EE,lead,Du,eq_comm]
 ·rw[if_neg h0]
  have hn:m.natAbs≠0:=by omega
  obtain⟨d,l,hdl,hd0⟩:=GQ hn
  have hlead:lead (Bw m.natAbs)=Bw m.natAbs:=by
   rw[hdl];cases d with
   |zero=>exact absurd rfl hd0
   |succ d=>rfl
  have hlast:(Bw m.natAbs).getLast?=some (m.natAbs % 10):=by rw[EP hn];simp
  have hlen:(Bw m.natAbs).length≠0:=by rw[hdl];simp
  obtain⟨f,hf⟩:∃f,(Bw m.natAbs).length=f+1:=⟨(Bw m.natAbs).length - 1,by omega⟩
  have h18:=FM m.natAbs 18
  have hv:=FR m.natAbs
  by_cases h10:m.natAbs % 10=0
  ·have hlast':(Bw m.natAbs).getLast?=some 0:=by rw[hlast,h10]
   have ht:Du (Bw m.natAbs).length (Bw m.natAbs) e=Du f (Bw m.natAbs).dropLast (e+1):=by rw[hf,Du,if_pos hlast']
   have hge:e+1≤(Du (lead (Bw m.natAbs)).length (lead (Bw m.natAbs)) e).2:=by rw[hlead,ht];exact Qg _ _ _
   obtain⟨l',hl'⟩:=Nh (Bw m.natAbs).length d l e hd0
   have hne:¬(Du (lead (Bw m.natAbs)).length (lead (Bw m.natAbs)) e).1=[]:=by rw[hlead];rw[←hdl] at hl';rw[hl'];simp
   constructor
   ·rintro⟨a,b,c⟩
    exfalso
    simp only[EE,if_neg hne] at a c
    split at a
    ·simp at a
    ·rename_i hc;rw[if_neg hc] at c;simp only at c;omega
   ·rintro⟨_,_,h,_⟩
    omega
  ·have hlast':¬(Bw m.natAbs).getLast?=some 0:=by rw[hlast];simpa using h10
   have ht:Du (lead (Bw m.natAbs)).length (lead (Bw m.natAbs)) e=(Bw m.natAbs,e):=by rw[hlead,hf,Du,if_neg hlast']
   have hne:¬Bw m.natAbs=[]:=by rw[hdl];simp
   have hp:(10:Nat)^ 18=1000000000000000000:=by decide
   simp only[EE,ht,if_neg hne]
   by_cases hb:(Bw m.natAbs).length>18
   ·rw[if_pos (.inl hb)]
    constructor
    ·rintro⟨a,_⟩;simp at a
    ·rintro⟨a,b,_⟩
     exfalso
     have:=h18.2 (by rw[hp];omega)
     omega
   ·rw[if_neg (by omega),hv]
    have h3:=h18.1 (by omega)
    rw[hp] at h3
    constructor
    ·intro _;omega
    ·intro _
     refine⟨rfl,?_,rfl⟩
     by_cases hm:m<0
     ·simp[hm];omega
     ·simp[hm];omega
end Go.Gk.Num
end
section
namespace Go.Gk.Val
open Go Go.Gk Go.Gk.Num
attribute [local irreducible] gwp gws
def ints(l:List Nat):List Int:=l.map Int.ofNat
def KM(P:Program)(f:FuncId):Prop:=∀{d}{m e:Int},I64 m→I64 e→A8 P f [.agg [vZ m,vZ e].toArray] d [] (Ret fun r d' L'=>L'=[]∧∃dv,r=.agg [.bool (decide (m<0)),dv,vZ e].toArray∧CL d' dv (ints (Bw m.natAbs)))
def JZ:A6:=⟨31,[(.cell 2 (some 3))],(sR (o1 1 (.box 0)<|o1 2 (.alo (.agg #[(.bool false),(.slice none 0 0),(vZ 0)])) .done) (sR (oj 6 0 1<|ol 7 6<|ob 8 .lss 7 z0<|oj 9 1 1<|ol 10 9<|o1 11 (.bld [(0,1),(1,1),(2,1)] [(.bool false),(.slice none 0 0),(vZ 0)] [(0,8),(2,10)])<|o1 3 (.alo (.agg #[(.bool false),(.slice none 0 0),(vZ 0)]))<|o0 (.st 3 3 11) .done) (sR (oj 12 0 1<|ol 13 12<|om 4 13 .done) (.seq (.block 0 (.loop (.seq (sR (om 14 4<|ob 15 .neq 14 z0 .done) (.cond 15 .skip (.exit 0))) (.block 1 (sR (om 16 4<|ob 17 .rem 16 (kZ 10)<|om 5 17 .done) (.seq (sR (om 18 5<|ob 19 .lss 18 z0 .done) (.cond 19 (rG (om 20 5<|o1 21 (.un .neg 20)<|om 5 21 .done)) .skip)) (sR (om 22 5<|o1 23 (.bsl 1 1 [(vZ 0)] [(0,22)])<|oj 24 1 3<|ol 25 24<|o1 26 (.app 1 8 [(vZ 0)] 23 25)<|oj 27 1 3<|o0 (.st 1 27 26) .done) (rG (om 28 4<|ob 29 .quo 28 (kZ 10)<|om 4 29 .done))))))))) (sR (o1 30 (.ld (some 3) 3)<|o0 (.st 3 2 30) .done) .ret)))))⟩
set_option maxHeartbeats 1000000 in
def Sg{P f}(hd:dec P f=some JZ):KM P f:=by
 intro d m e hm he;obtain⟨hm1,hm2⟩:=hm;refine Bd hd (No rfl) ?_;have h19:=(FM m.natAbs 19).2 (by
  have:(10:Nat)^ 19=10000000000000000000:=by decide
  omega)
 show gwp P _ _ _ _ _;(refine Ac<|AO rfl (fun _ _=>AX (fun _ _=>Aa<|Ac<|Af rfl<|Ah rfl (Aj 1 rfl rfl)<|Ax rfl rfl<|Af rfl<|Ah rfl (Aj 1 rfl rfl)<|BN rfl<|AX (fun _ _=>?_))));rename_i b1 T1 b2 T2 b3 T3;refine Az 0 [.bool (decide (m<0)),.slice none 0 0,vZ e] rfl rfl rfl rfl (No rfl) rfl rfl ?_;(refine Aa<|Ac<|Af rfl<|Ah rfl (Aj 2 rfl rfl)<|Ab rfl<|Aa<|Ai<|Av ?_);refine Bg (α:=Int) (fun k=>[(2,pZ b2),(3,pZ b3),(4,vZ k)])
  (fun k d' L'=>Le d d'∧ -9223372036854775808≤k∧k≤9223372036854775807∧∃(D:List Nat) (a:Option Addr) (c:Nat),Bw k.natAbs++D=Bw m.natAbs∧(∀n∈D,n<10)∧CL d' (.slice a D.length c) (ints D)∧L'=[bx b3 T3 [.bool (decide (m<0)),.slice a D.length c,vZ e],bx b2 T2 [.bool false,.slice none 0 0,vZ 0],bx b1 T1 [vZ m,vZ e]])
  (fun k=>k.natAbs) m ⟨rfl,rfl,rfl,trivial⟩ ⟨Le.refl d,hm1,hm2,[],none,0,by simp,by simp,(RSl.nil:RSl 1 By d (.slice none 0 0) []),rfl⟩ ?_
 rintro k ρ d' L' ⟨hl,hk1,hk2,D,a,c,hdig,hlt,hr,hL⟩;subst hL;by_cases hk0:k=0
 ·subst hk0;rw[show(0:Int).natAbs=0 from rfl,Fc,Z5] at hdig;(refine Ai<|Ac<|Ab rfl<|AG rfl rfl<|Aa<|Ao rfl (by omega)<|AV<|Ac<|AD 0 rfl rfl rfl ?_);refine Az 1 [.bool (decide (m<0)),.slice a D.length c,vZ e] rfl rfl rfl rfl (No rfl) rfl rfl ?_;(refine Aa<|Ar ?_);refine BG [.agg [.bool (decide (m<0)),.slice a D.length c,vZ e].toArray] ⟨A3 1 rfl rfl rfl,trivial⟩ (ZB _) ⟨rfl,_,rfl,by rw[←hdig];exact hr⟩
 ·have hpos:=EP (n:=k.natAbs) (by omega);have hmod:(k.tmod 10).natAbs=k.natAbs % 10:=by rw[Int.natAbs_tmod];rfl
  have hdiv:(k.tdiv 10).natAbs=k.natAbs / 10:=by rw[Int.natAbs_tdiv];rfl
  have hDl:D.length+1≤19:=by
   have:=congrArg Abu hdig;rw[ZH,hpos,ZH,Aak] at this;omega
  have hnext:∀(g:Nat),g=k.natAbs % 10→Bw (k.tdiv 10).natAbs++(g::D)=Bw m.natAbs:=by
   intro g hg;rw[←hdig,hpos,hdiv,hg,List.append_assoc];rfl
  have hmb:(k.tmod 10).natAbs<10:=by omega
  by_cases hneg:k.tmod 10<0
  ·(refine Ai<|Ac<|Ab rfl<|AG rfl rfl<|Aa<|Au rfl (by omega)<|Am<|Av<|Ac<|Ab rfl<|FH rfl rfl (by omega)<|Ab rfl<|Aa<|Ai<|Ac<|Ab rfl<|Ax rfl rfl<|Aa<|Au rfl (by omega)<|Ay<|Ab rfl<|Xb rfl (by omega) (by omega)<|Ab rfl<|Aa<|Ac<|Ab rfl ?_);refine E5 (v0:=vZ (-(k.tmod 10))) rfl rfl (fun b8 T8=>?_);have hge:(-(k.tmod 10))=((k.natAbs % 10:Nat):Int):=by omega
   (refine Af rfl<|Ah rfl (Aj 1 rfl rfl) ?_);refine CO (R:=By) (w:=.slice a D.length c) (xs:=[((k.natAbs % 10:Nat):Int)]) (ys:=ints D) 0 rfl rfl (AN.D8 (x:=((k.natAbs % 10:Nat):Int)) rfl ⟨congrArg (fun z=>[Value.int .i64 z]) hge,by omega,by omega⟩) rfl (RSl.src (R:=By) (xs:=ints D) hr GU (by omega) _) (by omega) (by simp[ints];omega) (by simp[ints];omega) (fun v9 h9 o9=>?_);refine BF (fun d9 hl9 hg9=>?_);have hr9:CL d9 v9 (ints (k.natAbs % 10::D)):=o9.rsl CM (by omega) hl9 hg9;obtain⟨a9,c9,rfl⟩:∃a9 c9,v9=.slice a9 (k.natAbs % 10::D).length c9:=by
    obtain⟨a9,c9,e9⟩:=o9.val;exact⟨a9,c9,by rw[e9];simp[ints]⟩
   (apply Af;rfl);refine Az 0 [.bool (decide (m<0)),.slice a9 (k.natAbs % 10::D).length c9,vZ e] rfl rfl rfl rfl (No rfl) rfl rfl ?_;(refine Aa<|Ay<|Ab rfl<|Nw rfl rfl (by omega) (by omega) (by omega)<|Ab rfl<|Aa ?_);refine⟨k.tdiv 10,by omega,⟨rfl,rfl,rfl,trivial⟩,hl.trans hl9,by omega,by omega,k.natAbs % 10::D,a9,c9,hnext _ rfl,?_,hr9,rfl⟩
   intro n hn;rcases ZR.1 hn with rfl|hn
   ·omega
   ·exact hlt n hn
  ·(refine Ai<|Ac<|Ab rfl<|AG rfl rfl<|Aa<|Au rfl (by omega)<|Am<|Av<|Ac<|Ab rfl<|FH rfl rfl (by omega)<|Ab rfl<|Aa<|Ai<|Ac<|Ab rfl<|Ax rfl rfl<|Aa<|Ao rfl (by omega)<|Am<|Ac<|Ab rfl ?_);refine E5 (v0:=vZ (k.tmod 10)) rfl rfl (fun b8 T8=>?_);have hge:(k.tmod 10)=((k.natAbs % 10:Nat):Int):=by omega
   (refine Af rfl<|Ah rfl (Aj 1 rfl rfl) ?_);refine CO (R:=By) (w:=.slice a D.length c) (xs:=[((k.natAbs % 10:Nat):Int)]) (ys:=ints D) 0 rfl rfl (AN.D8 (x:=((k.natAbs % 10:Nat):Int)) rfl ⟨congrArg (fun z=>[Value.int .i64 z]) hge,by omega,by omega⟩) rfl (RSl.src (R:=By) (xs:=ints D) hr GU (by omega) _) (by omega) (by simp[ints];omega) (by simp[ints];omega) (fun v9 h9 o9=>?_);refine BF (fun d9 hl9 hg9=>?_);have hr9:CL d9 v9 (ints (k.natAbs % 10::D)):=o9.rsl CM (by omega) hl9 hg9;obtain⟨a9,c9,rfl⟩:∃a9 c9,v9=.slice a9 (k.natAbs % 10::D).length c9:=by
    obtain⟨a9,c9,e9⟩:=o9.val;exact⟨a9,c9,by rw[e9];simp[ints]⟩
   (apply Af;rfl);refine Az 0 [.bool (decide (m<0)),.slice a9 (k.natAbs % 10::D).length c9,vZ e] rfl rfl rfl rfl (No rfl) rfl rfl ?_;(refine Aa<|Ay<|Ab rfl<|Nw rfl rfl (by omega) (by omega) (by omega)<|Ab rfl<|Aa ?_);refine⟨k.tdiv 10,by omega,⟨rfl,rfl,rfl,trivial⟩,hl.trans hl9,by omega,by omega,k.natAbs % 10::D,a9,c9,hnext _ rfl,?_,hr9,rfl⟩
   intro n hn;rcases ZR.1 hn with rfl|hn
   ·omega
   ·exact hlt n hn
def Bx(l:List Nat):(ints l).length=l.length:=by simp[ints]
def ints_at(l:List Nat){i:Nat}(h:i<(ints l).length):(ints l)[i]=((l[i]'(by rw[Bx] at h;exact h):Nat):Int):=by simp[ints]
def Q1:∀(n:Nat) (l:List Nat),l.length=n→(∀d∈l,d<10)→val l<10 ^ n:=by
 intro n;induction n with
 |zero=>intro l h _;rw[ZD h];decide
 |succ n ih=>
  intro l h hl
  have hne:l≠[]:=by intro h2;subst h2;simp at h
  rw[←List.dropLast_concat_getLast hne,MB,Ach]
  have h1:=ih l.dropLast (by simp[h]) (fun d hd=>hl d (List.dropLast_subset l hd))
  have h2:=hl _ (List.getLast_mem hne)
  omega
def K7(P:Program)(f:FuncId):Prop:=∀{d}{neg:Bool}{dv}{D:List Nat}{e:Int},CL d dv (ints D)→(∀n∈D,n<10)→D.length≤100→ -1000≤e→e≤1000→
 AM P f [.agg [.bool neg,dv,vZ e].toArray] d (.tuple #[.agg [vZ (EE neg D e).1,vZ (EE neg D e).2.1].toArray,vZ (EE neg D e).2.2])
def Jb:A6:=⟨91,[(.cell 2 (some 2)),(.tmp 3)],(sR (o1 1 (.box 0)<|o1 2 (.alo (.agg #[(vZ 0),(vZ 0)]))<|o1 3 (.mv z0) .done) (.seq (.block 0 (.loop (.seq (sR (oj 6 1 1<|ol 7 6<|oL 8 7<|ob 9 .gtr 8 z0<|om 10 9<|oT 11 10 (.fld 1 1)<|oT 12 10 (.ld none 11)<|oT 13 10 (.idx 1 12 z0)<|oT 14 10 (.ld none 13)<|oT 15 10 (.bin .eql 14 z0)<|gP 16 10 15 .done) (.cond 16 .skip (.exit 0))) (.block 1 (rG (oj 17 1 1<|ol 18 17<|o1 19 (.sl 1 18 (some z1) none none)<|oj 20 1 1<|o0 (.st 1 20 19) .done)))))) (.seq (.block 2 (.loop (.seq (sR (oj 21 1 1<|ol 22 21<|oL 23 22<|ob 24 .gtr 23 z0<|om 25 24<|oT 26 25 (.fld 1 1)<|oT 27 25 (.ld none 26)<|oT 28 25 (.fld 1 1)<|oT 29 25 (.ld none 28)<|oT 30 25 (.len 29)<|oT 31 25 (.bin .sub 30 z1)<|oT 32 25 (.idx 1 27 31)<|oT 33 25 (.ld none 32)<|oT 34 25 (.bin .eql 33 z0)<|gP 35 25 34 .done) (.cond 35 .skip (.exit 2))) (.block 3 (sR (oj 36 1 1<|ol 37 36<|oj 38 1 1<|ol 39 38<|oL 40 39<|ob 41 .sub 40 z1<|o1 42 (.sl 1 37 none (some 41) none)<|oj 43 1 1<|o0 (.st 1 43 42) .done) (rG (oj 44 2 1<|ol 45 44<|ob 46 .add 45 z1<|oj 47 2 1<|o0 (.st 1 47 46) .done))))))) (.seq (sR (oj 48 1 1<|ol 49 48<|oL 50 49<|ob 51 .eql 50 z0 .done) (.cond 51 (sR (o1 52 (.bld [(0,1),(1,1)] [(vZ 0),(vZ 0)] [])<|o0 (.st 2 2 52)<|o1 3 (.mv z0) .done) .ret) .skip)) (.seq (sR (oj 53 1 1<|ol 54 53<|oL 55 54<|ob 56 .gtr 55 (kZ 18)<|om 57 56<|oF 58 57 (.fld 2 1)<|oF 59 57 (.ld none 58)<|oF 60 57 (.bin .lss 59 (kZ (-64)))<|o1 61 (.pick 57 (.const (.bool true)) 60)<|om 62 61<|oF 63 62 (.fld 2 1)<|oF 64 62 (.ld none 63)<|oF 65 62 (.bin .gtr 64 (kZ 64))<|o1 66 (.pick 62 (.const (.bool true)) 65) .done) (.cond 66 (sR (o1 67 (.bld [(0,1),(1,1)] [(vZ 0),(vZ 0)] [])<|o0 (.st 2 2 67)<|o1 3 (.mv (kZ 11)) .done) .ret) .skip)) (sR (o1 4 (.mv z0) .done) (.seq (sR (o1 5 (.mv z0) .done) (.block 4 (.loop (.seq (sR (om 68 5<|oj 69 1 1<|ol 70 69<|oL 71 70<|ob 72 .lss 68 71 .done) (.cond 72 .skip (.exit 4))) (.seq (.block 5 (rG (om 75 4<|ob 76 .mul 75 (kZ 10)<|oj 77 1 1<|ol 78 77<|om 79 5<|oI 80 1 78 79<|ol 81 80<|ob 82 .add 76 81<|om 4 82 .done))) (rG (om 73 5<|ob 74 .add 73 z1<|om 5 74 .done))))))) (.seq (sR (oj 83 0 1<|ol 84 83 .done) (.cond 84 (rG (om 85 4<|o1 86 (.un .neg 85)<|om 4 86 .done)) .skip)) (sR (om 87 4<|oj 88 2 1<|ol 89 88<|o1 90 (.bld [(0,1),(1,1)] [(vZ 0),(vZ 0)] [(0,87),(1,89)])<|o0 (.st 2 2 90)<|o1 3 (.mv z0) .done) .ret)))))))))⟩
set_option maxHeartbeats 1000000 in
def P8{P f}(hd:dec P f=some Jb):K7 P f:=by
 intro d neg dv D e hv hlt hDl he1 he2;obtain⟨a0,c0,rfl⟩:=RSl.val hv;rw[Bx] at hv;refine AM.of' hd (No rfl) ?_;obtain⟨res,hres⟩:∃r,r=EE neg D e:=⟨_,rfl⟩
 rw[←hres,Bx];show gwp P _ _ _ _ _;apply Ai;apply Ay;refine AO (l:=[.bool neg,.slice a0 D.length c0,vZ e]) rfl (fun b1 T1=>?_);(refine AX (fun _ _=>Ab rfl<|Aa ?_));rename_i b2 T2;refine Ct (fun ρ d' L'=>d'=d∧A9 ρ [(1,pZ b1),(2,pZ b2)]∧∃(D':List Nat) (a:Option Addr) (c:Nat),D'=lead D∧(∀n∈D',n<10)∧D'.length≤D.length∧CL d (.slice a D'.length c) (ints D')∧L'=[bx b2 T2 [vZ 0,vZ 0],bx b1 T1 [.bool neg,.slice a D'.length c,vZ e]]) ?_ ?_;apply Av;refine Bg (α:=List Nat) (fun _=>[(1,pZ b1),(2,pZ b2)])
  (fun D' d' L'=>d'=d∧lead D'=lead D∧(∀n∈D',n<10)∧D'.length≤D.length∧∃a c,CL d (.slice a D'.length c) (ints D')∧L'=[bx b2 T2 [vZ 0,vZ 0],bx b1 T1 [.bool neg,.slice a D'.length c,vZ e]])
  (fun D'=>D'.length) D ⟨rfl,rfl,trivial⟩ ⟨rfl,rfl,hlt,ZL _,a0,c0,hv,rfl⟩ ?_
 clear hv hlt;rintro D1 ρ d' L' ⟨hdd,hlead,hlt,hl1,a,c,hr,hL⟩;subst hdd;subst hL;have hil:=Bx D1;have exit:lead D1=D1→∀(x0:List Nat×Int),x0=(D1,e)→True:=fun _ _ _=>trivial;by_cases hgo:∃l,D1=0::l
 ·obtain⟨l,rfl⟩:=hgo;have h0:(ints (0::l))[0]'(by simp[ints])=0:=rfl;have hp:0<(0::l).length:=by simp
  (refine Ai<|Ac<|Af rfl<|Ah rfl (Aj 1 rfl rfl)<|AA rfl<|AP rfl rfl<|Ad rfl<|AE rfl (by omega)<|Ae rfl<|Af rfl<|Ae rfl<|Ah rfl (Aj 1 rfl rfl)<|Ae rfl<|AJ (m:=0) (sz:=1) (R:=By) (by rfl) (by assumption) (by rfl) rfl (by omega) ?_;rintro _ _ _ _ _ ⟨rfl,_,_⟩;refine Ae rfl<|Ah rfl (A1 (by assumption) rfl)<|Ae rfl<|Aq rfl rfl<|Ap rfl rfl<|Aa<|Au rfl (by omega)<|Am<|Av<|Ay<|Af rfl<|Ah rfl (Aj 1 rfl rfl) ?_);refine DF (n:=1) rfl hr rfl rfl (by simp[ints]) (fun v1 hv1=>?_);obtain⟨a1,c1,rfl⟩:∃a1 c1,v1=.slice a1 l.length c1:=by
   obtain⟨a1,c1,e1⟩:=RSl.val hv1;exact⟨a1,c1,by rw[e1];simp[ints]⟩
  (apply Af;rfl);refine Az 1 [.bool neg,.slice a1 l.length c1,vZ e] rfl rfl rfl rfl (No rfl) rfl rfl ?_;(apply Aa);exact⟨l,by simp,⟨rfl,rfl,trivial⟩,rfl,hlead,fun n hn=>hlt n (ZE _ hn),by simp at hl1;omega,a1,c1,hv1,rfl⟩
 ·have hlead1:lead D1=D1:=by
   cases D1 with
   |nil=>rfl
   |cons x l=>
    cases x with
    |zero=>exact absurd ⟨l,rfl⟩ hgo
    |succ x=>rfl
  cases D1 with
  |nil=>
   have h00:([]:List Nat).length=0:=rfl
   (refine Ai<|Ac<|Af rfl<|Ah rfl (Aj 1 rfl rfl)<|AA rfl<|AP rfl rfl<|Ad rfl<|AB rfl (by omega)<|Ak rfl<|Ak rfl<|Ak rfl<|Ak rfl<|Ak rfl<|An rfl rfl<|Aa<|AK rfl<|AV ?_)
   exact⟨rfl,⟨rfl,rfl,trivial⟩,[],a,c,hlead,hlt,hl1,hr,rfl⟩
  |cons x l=>
   have h0:¬(ints (x::l))[0]'(by simp[ints])=0:=by
    rw[ints_at];intro h;have h:(x:Int)=0:=h;exact hgo ⟨l,by rw[show x=0 by omega]⟩
   have hp:0<(x::l).length:=by simp
   (refine Ai<|Ac<|Af rfl<|Ah rfl (Aj 1 rfl rfl)<|AA rfl<|AP rfl rfl<|Ad rfl<|AE rfl (by omega)<|Ae rfl<|Af rfl<|Ae rfl<|Ah rfl (Aj 1 rfl rfl)<|Ae rfl<|AJ (m:=0) (sz:=1) (R:=By) (by rfl) (by assumption) (by rfl) rfl (by omega) ?_;rintro _ _ _ _ _ ⟨rfl,_,_⟩;refine Ae rfl<|Ah rfl (A1 (by assumption) rfl)<|Ae rfl<|Aq rfl rfl<|Ap rfl rfl<|Aa<|Ao rfl (by omega)<|AV ?_)
   exact⟨rfl,⟨rfl,rfl,trivial⟩,x::l,a,c,by rw[←hlead,hlead1],hlt,hl1,hr,rfl⟩
 rintro ρ d' L' ⟨hdd,hsl,D1,a1,c1,hD1,hlt1,hl1,hr1,hL⟩;subst hdd;subst hL;refine Bo _ hsl ?_;clear hv hlt hsl;refine Ct (fun ρ d2 L'=>d2=d'∧A9 ρ [(1,pZ b1),(2,pZ b2)]∧∃(D':List Nat) (e':Int) (a:Option Addr) (c:Nat),(D',e')=Du (lead D).length (lead D) e∧(∀n∈D',n<10)∧D'.length≤D.length∧e≤e'∧e'≤e+D.length∧CL d' (.slice a D'.length c) (ints D')∧L'=[bx b2 T2 [vZ 0,vZ 0],bx b1 T1 [.bool neg,.slice a D'.length c,vZ e']]) ?_ ?_
 ·apply Av;refine Bg (α:=List Nat×Int) (fun _=>[(1,pZ b1),(2,pZ b2)])
   (fun x d2 L'=>d2=d'∧Du x.1.length x.1 x.2=Du (lead D).length (lead D) e∧(∀n∈x.1,n<10)∧x.1.length≤D.length∧e≤x.2∧x.2≤e+(D.length - x.1.length:Int)∧∃a c,CL d' (.slice a x.1.length c) (ints x.1)∧L'=[bx b2 T2 [vZ 0,vZ 0],bx b1 T1 [.bool neg,.slice a x.1.length c,vZ x.2]])
   (fun x=>x.1.length) (D1,e) ⟨rfl,rfl,trivial⟩ ⟨rfl,by rw[hD1],hlt1,hl1,Int.le_refl e,by simp only;omega,a1,c1,hr1,rfl⟩ ?_
  clear hr1 hlt1;rintro⟨D2,e2⟩ ρ d2 L' ⟨hdd,htr,hlt2,hl2,he3,he4,a,c,hr,hL⟩;simp only at htr hlt2 hl2 he3 he4 hr hL;subst hdd;subst hL;have hil:=Bx D2;by_cases hgo:D2.getLast?=some 0
  ·have hne:D2≠[]:=by intro h;subst h;simp at hgo
   have hpos:0<D2.length:=Aan.2 hne;have hlast:D2[D2.length - 1]'(by omega)=0:=by
    rw[List.getLast?_eq_getElem?,ZJ (by omega)] at hgo;simpa using hgo
   have h0:(ints D2)[D2.length - 1]'(by omega)=0:=by rw[ints_at,hlast];rfl
   (refine Ai<|Ac<|Af rfl<|Ah rfl (Aj 1 rfl rfl)<|AA rfl<|AP rfl rfl<|Ad rfl<|AE rfl (by omega)<|Ae rfl<|Af rfl<|Ae rfl<|Ah rfl (Aj 1 rfl rfl)<|Ae rfl<|Af rfl<|Ae rfl<|Ah rfl (Aj 1 rfl rfl)<|Ae rfl<|AA rfl<|Ae rfl<|Bn rfl rfl (by omega) (by omega)<|Ae rfl ?_);refine AJ (sz:=1) (R:=By) (m:=D2.length - 1) (by rfl) hr (by rfl) (by omega) (by omega) ?_;rintro _ _ _ _ _ ⟨rfl,_,_⟩;(refine Ae rfl<|Ah rfl (A1 (by assumption) rfl)<|Ae rfl<|Aq rfl rfl<|Ap rfl rfl<|Aa<|Au rfl (by omega)<|Am<|Av<|Ac<|Af rfl<|Ah rfl (Aj 1 rfl rfl)<|Af rfl<|Ah rfl (Aj 1 rfl rfl)<|AA rfl<|Bn rfl rfl (by omega) (by omega) ?_);refine GO (n:=D2.length - 1) rfl hr rfl (by omega) (by omega) (fun v1 hv1=>?_);have e1:(ints D2).take (D2.length - 1)=ints D2.dropLast:=by rw[ints,ints,←List.map_take,List.dropLast_eq_take]
   rw[e1] at hv1;obtain⟨a3,c3,rfl⟩:∃a3 c3,v1=.slice a3 D2.dropLast.length c3:=by
    obtain⟨a3,c3,e1⟩:=RSl.val hv1;exact⟨a3,c3,by rw[e1,Bx]⟩
   (apply Af;rfl);refine Az 1 [.bool neg,.slice a3 D2.dropLast.length c3,vZ e2] rfl rfl rfl rfl (No rfl) rfl rfl ?_;(refine Aa<|Ay<|Af rfl<|Ah rfl (Aj 1 rfl rfl)<|AI rfl rfl (by omega) (by omega)<|Af rfl ?_);refine Az 1 [.bool neg,.slice a3 D2.dropLast.length c3,vZ (e2+1)] rfl rfl rfl rfl (No rfl) rfl rfl ?_;(apply Aa);have hdl:D2.dropLast.length=D2.length - 1:=by simp
   refine⟨(D2.dropLast,e2+1),by simp only;omega,⟨rfl,rfl,trivial⟩,rfl,?_,fun n hn=>hlt2 n (List.dropLast_subset D2 hn),by simp only;omega,by simp only;omega,by simp only;omega,a3,c3,hv1,rfl⟩
   simp only;rw[←htr,hdl];obtain⟨f',hf⟩:∃f',D2.length=f'+1:=⟨D2.length - 1,by omega⟩
   rw[hf,Nat.add_sub_cancel,Du,if_pos hgo]
  ·have hend:(D2,e2)=Du (lead D).length (lead D) e:=by
    rw[←htr];cases hf:D2.length with
    |zero=>rfl
    |succ f'=>rw[Du,if_neg hgo]
   by_cases hne:D2.length=0
   ·(refine Ai<|Ac<|Af rfl<|Ah rfl (Aj 1 rfl rfl)<|AA rfl<|AP rfl rfl<|Ad rfl<|AB rfl (by omega)<|Ak rfl<|Ak rfl<|Ak rfl<|Ak rfl<|Ak rfl<|Ak rfl<|Ak rfl<|Ak rfl<|Ak rfl<|An rfl rfl<|Aa<|AK rfl<|AV ?_);exact⟨rfl,⟨rfl,rfl,trivial⟩,D2,e2,a,c,hend,hlt2,hl2,he3,by omega,hr,rfl⟩
   ·have h0:¬(ints D2)[D2.length - 1]'(by omega)=0:=by
     rw[ints_at];intro h;apply hgo;rw[List.getLast?_eq_getElem?,ZJ (by omega)];congr 1;omega
    (refine Ai<|Ac<|Af rfl<|Ah rfl (Aj 1 rfl rfl)<|AA rfl<|AP rfl rfl<|Ad rfl<|AE rfl (by omega)<|Ae rfl<|Af rfl<|Ae rfl<|Ah rfl (Aj 1 rfl rfl)<|Ae rfl<|Af rfl<|Ae rfl<|Ah rfl (Aj 1 rfl rfl)<|Ae rfl<|AA rfl<|Ae rfl<|Bn rfl rfl (by omega) (by omega)<|Ae rfl ?_);refine AJ (sz:=1) (R:=By) (m:=D2.length - 1) (by rfl) hr (by rfl) (by omega) (by omega) ?_;rintro _ _ _ _ _ ⟨rfl,_,_⟩;(refine Ae rfl<|Ah rfl (A1 (by assumption) rfl)<|Ae rfl<|Aq rfl rfl<|Ap rfl rfl<|Aa<|Ao rfl (by omega)<|AV ?_);exact⟨rfl,⟨rfl,rfl,trivial⟩,D2,e2,a,c,hend,hlt2,hl2,he3,by omega,hr,rfl⟩
 rintro ρ d2 L' ⟨hdd,hsl,D2,e2,a2,c2,hend,hlt2,hl2,he3,he4,hr2,hL⟩;subst hdd;subst hL;refine Bo _ hsl ?_;clear hr1 hlt1 hsl;have hil:=Bx D2;have hsf:EE neg D e=if D2=[] then(0,0,0) else if D2.length>18∨e2< -64∨e2>64 then(0,0,11) else(if neg then -(val D2:Int) else(val D2:Int),e2,0):=by
  simp only[EE,←hend]
 by_cases h0:D2.length=0
 ·have hnil:=ZD h0;rw[if_pos hnil] at hsf;rw[hres,hsf];(refine Ai<|Ac<|Af rfl<|Ah rfl (Aj 1 rfl rfl)<|AA rfl<|Aq rfl rfl<|Aa<|Au rfl (by omega)<|Ac<|BN rfl ?_);refine Az 0 [vZ 0,vZ 0] rfl rfl rfl rfl (No rfl) rfl rfl ?_;(refine Ab rfl<|Aa<|Ar ?_);exact BG [.agg [vZ 0,vZ 0].toArray,vZ 0] ⟨A3 0 rfl rfl rfl,A4 rfl,trivial⟩ (ZB _) ⟨rfl,rfl⟩
 have hnil:¬D2=[]:=by intro h;rw[h] at h0;exact h0 rfl
 rw[if_neg hnil] at hsf;by_cases hbad:D2.length>18∨e2< -64∨e2>64
 ·rw[if_pos hbad] at hsf;rw[hres,hsf];by_cases hb1:D2.length>18
  ·(refine Ai<|Ac<|Af rfl<|Ah rfl (Aj 1 rfl rfl)<|AA rfl<|Aq rfl rfl<|Aa<|Ao rfl (by omega)<|Am<|Ai<|Ac<|Af rfl<|Ah rfl (Aj 1 rfl rfl)<|AA rfl<|AP rfl rfl<|Ad rfl<|AE rfl (by omega)<|Ak rfl<|Ak rfl<|Ak rfl<|Ap rfl rfl<|Ad rfl<|Ak rfl<|Ak rfl<|Ak rfl<|Ap rfl rfl<|Aa<|Bb rfl<|Ac<|BN rfl ?_);refine Az 0 [vZ 0,vZ 0] rfl rfl rfl rfl (No rfl) rfl rfl ?_;(refine Ab rfl<|Aa<|Ar ?_);exact BG [.agg [vZ 0,vZ 0].toArray,vZ 11] ⟨A3 0 rfl rfl rfl,A4 rfl,trivial⟩ (ZB _) ⟨rfl,rfl⟩
  by_cases hb2:e2< -64
  ·(refine Ai<|Ac<|Af rfl<|Ah rfl (Aj 1 rfl rfl)<|AA rfl<|Aq rfl rfl<|Aa<|Ao rfl (by omega)<|Am<|Ai<|Ac<|Af rfl<|Ah rfl (Aj 1 rfl rfl)<|AA rfl<|AP rfl rfl<|Ad rfl<|AB rfl (by omega)<|Ae rfl<|Af rfl<|Ae rfl<|Ah rfl (Aj 1 rfl rfl)<|Ae rfl<|Ax rfl rfl<|An rfl rfl<|Ad rfl<|AE rfl (by omega)<|Ak rfl<|Ak rfl<|Ak rfl<|Ap rfl rfl<|Aa<|Bb rfl<|Ac<|BN rfl ?_);refine Az 0 [vZ 0,vZ 0] rfl rfl rfl rfl (No rfl) rfl rfl ?_;(refine Ab rfl<|Aa<|Ar ?_);exact BG [.agg [vZ 0,vZ 0].toArray,vZ 11] ⟨A3 0 rfl rfl rfl,A4 rfl,trivial⟩ (ZB _) ⟨rfl,rfl⟩
  ·have hb3:e2>64:=by omega
   (refine Ai<|Ac<|Af rfl<|Ah rfl (Aj 1 rfl rfl)<|AA rfl<|Aq rfl rfl<|Aa<|Ao rfl (by omega)<|Am<|Ai<|Ac<|Af rfl<|Ah rfl (Aj 1 rfl rfl)<|AA rfl<|AP rfl rfl<|Ad rfl<|AB rfl (by omega)<|Ae rfl<|Af rfl<|Ae rfl<|Ah rfl (Aj 1 rfl rfl)<|Ae rfl<|Ax rfl rfl<|An rfl rfl<|Ad rfl<|AB rfl (by omega)<|Ae rfl<|Af rfl<|Ae rfl<|Ah rfl (Aj 1 rfl rfl)<|Ae rfl<|AP rfl rfl<|An rfl rfl<|Aa<|Au rfl (by omega)<|Ac<|BN rfl ?_);refine Az 0 [vZ 0,vZ 0] rfl rfl rfl rfl (No rfl) rfl rfl ?_;(refine Ab rfl<|Aa<|Ar ?_);exact BG [.agg [vZ 0,vZ 0].toArray,vZ 11] ⟨A3 0 rfl rfl rfl,A4 rfl,trivial⟩ (ZB _) ⟨rfl,rfl⟩
 rw[if_neg hbad] at hsf;have hb1:¬D2.length>18:=fun h=>hbad (.inl h);have hb2:¬e2< -64:=fun h=>hbad (.inr (.inl h));have hb3:¬e2>64:=fun h=>hbad (.inr (.inr h));have hvl:=Q1 D2.length D2 rfl hlt2;have hvl2:∀i,i≤D2.length→val (D2.take i)<1000000000000000000:=fun i hi=>by
  have h1:=Q1 i (D2.take i) (by simp;omega) (fun n hn=>hlt2 n (Aar hn));have h2:10 ^ i≤10 ^ 18:=Acn (by omega) (by omega);have h3:(10:Nat)^ 18=1000000000000000000:=by decide
  omega
 (refine Ai<|Ac<|Af rfl<|Ah rfl (Aj 1 rfl rfl)<|AA rfl<|Aq rfl rfl<|Aa<|Ao rfl (by omega)<|Am<|Ai<|Ac<|Af rfl<|Ah rfl (Aj 1 rfl rfl)<|AA rfl<|AP rfl rfl<|Ad rfl<|AB rfl (by omega)<|Ae rfl<|Af rfl<|Ae rfl<|Ah rfl (Aj 1 rfl rfl)<|Ae rfl<|Ax rfl rfl<|An rfl rfl<|Ad rfl<|AB rfl (by omega)<|Ae rfl<|Af rfl<|Ae rfl<|Ah rfl (Aj 1 rfl rfl)<|Ae rfl<|AP rfl rfl<|An rfl rfl<|Aa<|Ao rfl (by omega)<|Am<|Ac<|Ab rfl<|Aa<|Ai<|Ac<|Ab rfl<|Aa<|Av ?_);refine CD (α:=Nat) (fun i=>[(1,pZ b1),(2,pZ b2),(4,vZ (val (D2.take i):Nat)),(5,vZ i)]) (fun _=>[bx b2 T2 [vZ 0,vZ 0],bx b1 T1 [.bool neg,.slice a2 D2.length c2,vZ e2]])
  (fun i=>i≤D2.length) (fun i=>D2.length - i) 0 ⟨rfl,rfl,rfl,rfl,trivial⟩ rfl (ZN _) ?_
 intro i ρ hi;have hvi:=hvl2 i hi;by_cases hc:i<D2.length
 ·have hvi3:val (D2.take i)<100000000000000000:=by
   have h1:=Q1 i (D2.take i) (by simp;omega) (fun n hn=>hlt2 n (Aar hn));have h2:10 ^ i≤10 ^ 17:=Acn (by omega) (by omega);have h3:(10:Nat)^ 17=100000000000000000:=by decide
   omega
  have hdig:(ints D2)[i]'(by omega)=((D2[i]:Nat):Int):=ints_at D2 (by omega);have hd10:=hlt2 _ (ZC hc);have hd10':0≤(ints D2)[i]'(by omega)∧(ints D2)[i]'(by omega)≤9:=by rw[hdig];omega
  (refine Ai<|Ac<|Ab rfl<|Af rfl<|Ah rfl (Aj 1 rfl rfl)<|AA rfl<|Ax rfl rfl<|Aa<|Au rfl (by omega)<|Am<|Ai<|Av<|Ay<|Ab rfl<|Hb rfl rfl (by omega) (by omega)<|Af rfl<|Ah rfl (Aj 1 rfl rfl)<|Ab rfl<|AJ (sz:=1) (R:=By) (by rfl) (by assumption) (by rfl) rfl (by omega) ?_;rintro _ _ _ _ _ ⟨rfl,_,_⟩;refine Ah rfl (A1 (by assumption) rfl)<|AI rfl rfl (by omega) (by omega)<|Ab rfl<|Aa<|Ay<|Ab rfl<|AI rfl rfl (by omega) (by omega)<|Ab rfl<|Aa ?_);refine⟨i+1,by omega,⟨rfl,rfl,int_eq ?_,int_eq (by omega),trivial⟩,rfl,rfl,hc⟩
  rw[ZA hc,MB,hdig];omega
 ·obtain rfl:i=D2.length:=by omega
  rw[ZV] at hvi⊢;cases neg with
  |true=>
   simp only[if_true] at hsf
   rw[hres,hsf]
   (refine Ai<|Ac<|Ab rfl<|Af rfl<|Ah rfl (Aj 1 rfl rfl)<|AA rfl<|Ax rfl rfl<|Aa<|Ao rfl (by omega)<|AV<|Ai<|Ac<|Af rfl<|Ah rfl (Aj 1 rfl rfl)<|Aa<|Bb rfl<|Ay<|Ab rfl<|Xb rfl (by omega) (by omega)<|Ab rfl<|Aa<|Ac<|Ab rfl<|Af rfl<|Ah rfl (Aj 1 rfl rfl)<|BN rfl ?_)
   refine Az 0 [vZ (-(val D2:Int)),vZ e2] rfl rfl rfl rfl (No rfl) rfl rfl ?_
   (refine Ab rfl<|Aa<|Ar ?_)
   exact BG [.agg [vZ (-(val D2:Int)),vZ e2].toArray,vZ 0] ⟨A3 0 rfl rfl rfl,A4 rfl,trivial⟩ (ZB _) ⟨rfl,rfl⟩
  |false=>
   simp only[ZX,if_false] at hsf
   rw[hres,hsf]
   (refine Ai<|Ac<|Ab rfl<|Af rfl<|Ah rfl (Aj 1 rfl rfl)<|AA rfl<|Ax rfl rfl<|Aa<|Ao rfl (by omega)<|AV<|Ai<|Ac<|Af rfl<|Ah rfl (Aj 1 rfl rfl)<|Aa<|AK rfl<|Am<|Ac<|Ab rfl<|Af rfl<|Ah rfl (Aj 1 rfl rfl)<|BN rfl ?_)
   refine Az 0 [vZ (val D2:Int),vZ e2] rfl rfl rfl rfl (No rfl) rfl rfl ?_
   (refine Ab rfl<|Aa<|Ar ?_)
   exact BG [.agg [vZ (val D2:Int),vZ e2].toArray,vZ 0] ⟨A3 0 rfl rfl rfl,A4 rfl,trivial⟩ (ZB _) ⟨rfl,rfl⟩
def JW(a0 a1:Nat):A6:=⟨26,[(.tmp 2)],(sR (o1 1 (.box 0)<|o1 2 (.mv (.const (.bool false))) .done) (.seq (sR (oj 5 1 1<|ol 6 5<|ob 7 .lss 6 (kZ (-64))<|om 8 7<|oF 9 8 (.fld 1 1)<|oF 10 8 (.ld none 9)<|oF 11 8 (.bin .gtr 10 (kZ 64))<|o1 12 (.pick 8 (.const (.bool true)) 11) .done) (.cond 12 (sR (o1 2 (.mv (.const (.bool false))) .done) .ret) .skip)) (sR (o1 14 (.ld (some 2) 1)<|oc 15 a0 [14]<|oc 16 a1 [15]<|om 13 16<|oe 17 13 0<|oe 18 13 1<|o1 3 (.alo (.agg #[(vZ 0),(vZ 0)]))<|o0 (.st 2 3 17)<|om 4 18 .done) (sR (om 19 4<|ob 20 .eql 19 z0<|om 21 20<|oT 22 21 (.ld (some 2) 3)<|oT 23 21 (.ld (some 2) 1)<|oT 24 21 (.eqc false [(0,0),(0,1)] 22 23)<|gP 25 21 24<|om 2 25 .done) .ret))))⟩
set_option maxHeartbeats 1000000 in
def SA{T:Ag→Prop}{P f f1 f2}(hd:dec P f=some (JW f1 f2))(h1:KM P f1)(h2:K7 P f2):G7 T P f:=by
 intro d m e ht hm he;refine AM.of' hd (No rfl) ?_;show gwp P _ _ _ _ _;apply Ai;apply Ay;refine AO (l:=[vZ m,vZ e]) rfl (fun b1 T1=>?_);have hlaw:=fun h1 h2=>RC m e h1 h2;by_cases h3:e< -64
 ·(refine Ad rfl<|Aa<|Ai<|Ac<|Af rfl<|Ah rfl (Aj 0 rfl rfl)<|Ax rfl rfl<|Ad rfl<|AE rfl (by omega)<|Ak rfl<|Ak rfl<|Ak rfl<|Ap rfl rfl<|Aa<|Bb rfl<|Ac<|Ad rfl<|Aa<|Ar ?_);apply Bf;rfl;rw[Br];split
  ·rw[eq_comm];exact decide_eq_false (by omega)
  ·rw[eq_comm];exact decide_eq_false (by omega)
 by_cases h4:e>64
 ·(refine Ad rfl<|Aa<|Ai<|Ac<|Af rfl<|Ah rfl (Aj 0 rfl rfl)<|Ax rfl rfl<|Ad rfl<|AB rfl (by omega)<|Ae rfl<|Af rfl<|Ae rfl<|Ah rfl (Aj 0 rfl rfl)<|Ae rfl<|AP rfl rfl<|An rfl rfl<|Aa<|Au rfl (by omega)<|Ac<|Ad rfl<|Aa<|Ar ?_);apply Bf;rfl;rw[Br];split
  ·rw[eq_comm];exact decide_eq_false (by omega)
  ·rw[eq_comm];exact decide_eq_false (by omega)
 have hlaw:=hlaw (by omega) (by omega);have hI:=hm;obtain⟨hm1,hm2⟩:=hm;have h19:=(FM m.natAbs 19).2 (by
  have:(10:Nat)^ 19=10000000000000000000:=by decide
  omega)
 (refine Ad rfl<|Aa<|Ai<|Ac<|Af rfl<|Ah rfl (Aj 0 rfl rfl)<|Ax rfl rfl<|Ad rfl<|AB rfl (by omega)<|Ae rfl<|Af rfl<|Ae rfl<|Ah rfl (Aj 0 rfl rfl)<|Ae rfl<|AP rfl rfl<|An rfl rfl<|Aa<|Ao rfl (by omega)<|Am<|Ac<|AD 0 rfl rfl rfl ?_);refine AR rfl (h1 hI he) (fun r d1 L1 hl1 ⟨hL,dv,hr,hdv⟩=>?_);subst hr;subst hL;refine AF rfl (h2 hdv (Gn _) (by omega) (by omega) (by omega)) ?_;generalize EE (decide (m<0)) (Bw m.natAbs) e=p at hlaw;obtain⟨m',e',er⟩:=p;simp only at hlaw;(refine Bj rfl<|AL rfl rfl<|AL rfl rfl<|AX (fun _ _=>?_));rename_i b3 T3;refine Az 0 [vZ m',vZ e'] rfl rfl rfl rfl (No rfl) rfl rfl ?_;by_cases h5:er=0
 ·subst h5;(refine Ab rfl<|Aa<|Ac<|Ab rfl<|Aq rfl rfl<|Ad rfl<|AE rfl (by with_reducible rfl)<|Ae rfl<|AD 0 rfl rfl rfl<|Ae rfl<|AD 1 rfl rfl rfl<|Ae rfl<|Cx rfl rfl<|Ap rfl rfl<|Ad rfl<|Aa<|Ar ?_);apply Bf;rfl;rw[Br,Abr];simp only[true_and] at hlaw;simp only[Bool.false_xor,Zz,decide_eq_true_eq];rw[hlaw];split<;>simp
 ·(refine Ab rfl<|Aa<|Ac<|Ab rfl<|Aq rfl rfl<|Ad rfl<|AB rfl (by omega)<|Ak rfl<|Ak rfl<|Ak rfl<|An rfl rfl<|Ad rfl<|Aa<|Ar ?_);apply Bf;rfl;rw[Br,Abr];simp only[h5,false_and,false_iff] at hlaw;split at hlaw<;>rename_i h6
  ·simp[h6];exact hlaw
  ·simp only[if_neg h6,ZX,false_iff,decide_eq_true_eq];exact hlaw
end Go.Gk.Val
end
section
namespace Go.Gk.Val
open Go Go.Gk
attribute [local irreducible] gwp gws
variable{P:Program}{f:FuncId}
def Ft:List (List UInt8)→Nat
 |[]=>0
 |k::l=>1+k.length+Ft l
def S5(l:List (List UInt8))(k:List UInt8):Ft (l++[k])=Ft l+1+k.length:=by
 induction l with
 |nil=>simp[Ft]
 |cons a l ih=>simp only[Z6,Ft,ih];omega
mutual
def Dd:V→Nat
 |.mk _ _ _ t l ks=>1+t.length+Ft ks+EC l
def EC:List V→Nat
 |[]=>0
 |x::l=>Dd x+EC l
end
def TH(l:List V)(x:V):EC (l++[x])=EC l+Dd x:=by
 induction l with
 |nil=>simp[EC]
 |cons a l ih=>simp only[Z6,EC,ih];omega
def JD(v:V):Dd v=1+v.text.length+Ft v.keys+EC v.list:=by obtain⟨k,m,e,t,l,ks⟩:=v;rfl
def O8{x:V}:∀{l:List V},x∈l→Dd x≤EC l
 |y::l,h=>by
  rcases ZR.1 h with rfl|h
  ·simp only[EC];omega
  ·have:=O8 h;simp only[EC];omega
def TP(v:V):Bc v≤Dd v:=by
 induction v using V.ind with
 |h v ih=>
  have h1:=JD v
  obtain⟨n,hn⟩:∃n,Dd v=n+1:=⟨Dd v - 1,by omega⟩
  rw[hn,DQ]
  intro x hx
  have:=O8 hx
  have:=ih x hx
  omega
def O7{v x:V}(h:x∈v.list):Bc x+1≤Bc v:=by
 obtain⟨n,hn⟩:∃n,Bc v=n+1:=⟨Bc v - 1,by have:=EL v;omega⟩
 have:=(DQ (v:=v) (n:=n)).1 (by omega) x h;omega
def Rc(P:Program)(f:FuncId):Prop:=∀(v:V) {d cs}{most:Nat},Aw d cs v→most≤1000000→
 A8 P f [.agg cs.toArray,vZ most] d [] (Ret fun r d' L'=>d'=d∧∃z:Int,r=vZ z∧0≤z∧z≤most+140737488355329∧(z≤most→z=Dd v)∧L'=[])
def J5(a0:Nat):A6:=⟨64,[(.tmp 4)],(sR (o1 2 (.box 0)<|o1 4 (.mv z0) .done) (sR (oj 8 3 2<|ol 9 8<|o1 10 (.lens 9)<|ob 11 .add z1 10<|om 5 11 .done) (.seq (sR (oj 12 5 2<|ol 13 12<|oL 14 13<|om 15 1<|ob 16 .gtr 14 15 .done) (.cond 16 (sR (om 17 1<|ob 18 .add 17 z1<|om 4 18 .done) .ret) .skip)) (.seq (sR (o1 6 (.mv z0) .done) (.block 0 (.loop (.seq (sR (om 19 6<|oj 20 5 2<|ol 21 20<|oL 22 21<|ob 23 .lss 19 22<|om 24 23<|gT 25 24 5<|gT 26 24 1<|oT 27 24 (.bin .leq 25 26)<|gP 28 24 27 .done) (.cond 28 .skip (.exit 0))) (.seq (.block 1 (rG (om 31 5<|ob 32 .add 31 z1<|oj 33 5 2<|ol 34 33<|om 35 6<|oI 36 1 34 35<|ol 37 36<|o1 38 (.lens 37)<|ob 39 .add 32 38<|om 5 39 .done))) (rG (om 29 6<|ob 30 .add 29 z1<|om 6 30 .done))))))) (.seq (sR (o1 7 (.mv z0) .done) (.block 2 (.loop (.seq (sR (om 40 7<|oj 41 4 2<|ol 42 41<|oL 43 42<|ob 44 .lss 40 43<|om 45 44<|gT 46 45 5<|gT 47 45 1<|oT 48 45 (.bin .leq 46 47)<|gP 49 45 48 .done) (.cond 49 .skip (.exit 2))) (.seq (.block 3 (rG (om 52 5<|oj 53 4 2<|ol 54 53<|om 55 7<|oI 56 6 54 55<|o1 57 (.ld (some 6) 56)<|om 58 1<|om 59 5<|ob 60 .sub 58 59<|oc 61 a0 [57,60]<|ob 62 .add 52 61<|om 5 62 .done))) (rG (om 50 7<|ob 51 .add 50 z1<|om 7 51 .done))))))) (sR (om 63 5<|om 4 63 .done) .ret))))))⟩
def Xx(hd:dec P f=some (J5 f)):Rc P f:=by
 intro v;induction v using V.ind with
 |h v ih=>
 intro d cs most hv hm;refine A8.forget (Q:=fun r L'=>∃z:Int,r=vZ z∧0≤z∧z≤most+140737488355329∧(z≤most→z=Dd v)∧L'=[]) ?_;refine Bd hd (No rfl) ?_;have hb:=JD v;obtain⟨lv,kv,rfl,ik,im,ie,it,hl,hks⟩:=hv.open;obtain⟨la,lc,rfl⟩:=RSl.val hl;obtain⟨ka,kc,rfl⟩:=RSl.val hks;have hll:=RSl.Be hl;have hkl:=RSl.Be hks;have hks':RSl 1 A2 d (.slice ka v.keys.length kc) v.keys:=hks;have hl':RSl 6 Aw d (.slice la v.list.length lc) v.list:=hl;show gwp P _ _ _ _ _;apply Ai;apply Ay;refine AO (l:=[vZ v.kind,vZ v.m,vZ v.e,Al v.text,.slice la v.list.length lc,.slice ka v.keys.length kc]) rfl (fun b2 T2=>?_);by_cases hk0:v.keys.length>most
 ·(refine Ab rfl<|Aa<|Ac<|Af rfl<|Ah rfl (Aj 0 rfl rfl)<|ED rfl<|AI rfl rfl (by omega) (by omega)<|Ab rfl<|Aa<|Ai<|Ac<|Af rfl<|Ah rfl (Aj 0 rfl rfl)<|AA rfl<|Ab rfl<|AP rfl rfl<|Aa<|Au rfl (by omega)<|Ac<|Ab rfl<|AI rfl rfl (by omega) (by omega)<|Ab rfl<|Aa<|Ar ?_);exact Fu rfl ⟨_,rfl,by omega,by omega,by omega,rfl⟩
 (refine Ab rfl<|Aa<|Ac<|Af rfl<|Ah rfl (Aj 0 rfl rfl)<|ED rfl<|AI rfl rfl (by omega) (by omega)<|Ab rfl<|Aa<|Ai<|Ac<|Af rfl<|Ah rfl (Aj 0 rfl rfl)<|AA rfl<|Ab rfl<|AP rfl rfl<|Aa<|Ao rfl (by omega) ?_);apply Am;refine Ct (fun ρ d' L'=>d'=d∧∃z:Int,A9 ρ [(1,vZ most),(2,pZ b2),(5,vZ z)]∧0≤z∧z≤most+140737488355329∧(z≤most→z=1+v.text.length+Ft v.keys)∧L'=[bx b2 T2 [vZ v.kind,vZ v.m,vZ v.e,Al v.text,.slice la v.list.length lc,.slice ka v.keys.length kc]]) ?_ ?_
 ·(refine Ac<|Ab rfl<|Aa<|Av ?_);refine Bg (α:=Nat×Int) (fun x=>[(1,vZ most),(2,pZ b2),(5,vZ x.2),(6,vZ x.1)])
   (fun x d' L'=>d'=d∧x.1≤v.keys.length∧0≤x.2∧x.2≤most+140737488355329∧x.2=1+v.text.length+Ft (v.keys.take x.1)∧L'=[bx b2 T2 [vZ v.kind,vZ v.m,vZ v.e,Al v.text,.slice la v.list.length lc,.slice ka v.keys.length kc]])
   (fun x=>v.keys.length - x.1) (0,1+v.text.length) ⟨rfl,rfl,int_eq (by simp),rfl,trivial⟩ ⟨rfl,ZN _,by simp only;omega,by simp only;omega,by simp[Ft],rfl⟩ ?_
  rintro⟨i,z⟩ ρ d' L' ⟨hdd,hi,hz1,hz2,hz3,hL⟩;simp only at hi hz1 hz2 hz3;subst hdd;subst hL;by_cases hc:i<v.keys.length
  ·have hki:v.keys[i].length≤140737488355328:=by
    obtain⟨_,_,_,_,_,_,_,_,_,_,_,h8⟩:=hks';obtain⟨cs,_,_,_,h9⟩:=h8 i hc;exact h9
   by_cases hc2:z≤most
   ·(refine Ai<|Ac<|Ab rfl<|Af rfl<|Ah rfl (Aj 0 rfl rfl)<|AA rfl<|Ax rfl rfl<|Ad rfl<|AE rfl (by omega)<|Ae rfl<|Ab rfl<|Ae rfl<|Ab rfl<|Ae rfl<|CW rfl rfl<|Ap rfl rfl<|Aa<|Au rfl (by omega)<|Am<|Ai<|Av<|Ay<|Ab rfl<|AI rfl rfl (by omega) (by omega)<|Af rfl<|Ah rfl (Aj 0 rfl rfl)<|Ab rfl<|AJ (sz:=1) (R:=A2) (by rfl) (by assumption) (by rfl) rfl (by omega) ?_;rintro _ _ _ _ _ ⟨rfl,_⟩;refine Ah rfl (A1 (by assumption) rfl)<|ED rfl<|AI rfl rfl (by omega) (by omega)<|Ab rfl<|Aa<|Ay<|Ab rfl<|AI rfl rfl (by omega) (by omega)<|Ab rfl<|Aa ?_);refine⟨(i+1,z+1+v.keys[i].length),by simp only;omega,⟨rfl,rfl,rfl,rfl,trivial⟩,rfl,hc,by simp only;omega,by simp only;omega,?_,rfl⟩
    simp only;rw[ZA hc,S5,hz3];omega
   ·(refine Ai<|Ac<|Ab rfl<|Af rfl<|Ah rfl (Aj 0 rfl rfl)<|AA rfl<|Ax rfl rfl<|Ad rfl<|AE rfl (by omega)<|Ae rfl<|Ab rfl<|Ae rfl<|Ab rfl<|Ae rfl<|CW rfl rfl<|Ap rfl rfl<|Aa<|Ao rfl (by omega)<|AV ?_);exact⟨rfl,z,⟨rfl,rfl,rfl,trivial⟩,hz1,hz2,fun h=>absurd h hc2,rfl⟩
  ·obtain rfl:i=v.keys.length:=by omega
   rw[ZV] at hz3;(refine Ai<|Ac<|Ab rfl<|Af rfl<|Ah rfl (Aj 0 rfl rfl)<|AA rfl<|Ax rfl rfl<|Ad rfl<|AB rfl (by omega)<|Ak rfl<|Ak rfl<|Ak rfl<|An rfl rfl<|Aa<|AK rfl<|AV ?_);exact⟨rfl,z,⟨rfl,rfl,rfl,trivial⟩,hz1,hz2,fun _=>hz3,rfl⟩
 rintro ρ d' L' ⟨hdd,z0,hsl,hz1,hz2,hz3,hL⟩;subst hdd;subst hL;refine Bo _ hsl ?_;(refine Ai<|Ac<|Ab rfl<|Aa<|Av ?_);refine Bg (α:=Nat×Int) (fun x=>[(1,vZ most),(2,pZ b2),(5,vZ x.2),(7,vZ x.1)])
  (fun x dd L'=>dd=d'∧x.1≤v.list.length∧0≤x.2∧x.2≤most+140737488355329∧(x.2≤most→x.2=1+v.text.length+Ft v.keys+EC (v.list.take x.1))∧L'=[bx b2 T2 [vZ v.kind,vZ v.m,vZ v.e,Al v.text,.slice la v.list.length lc,.slice ka v.keys.length kc]])
  (fun x=>v.list.length - x.1) (0,z0) ⟨rfl,rfl,rfl,rfl,trivial⟩ ⟨rfl,ZN _,hz1,hz2,fun h=>by have:=hz3 h;simp only at h⊢;simp[EC];omega,rfl⟩ ?_
 clear hz1 hz2 hz3 hsl;rintro⟨i,z⟩ ρ d2 L' ⟨hdd,hi,hz1,hz2,hz3,hL⟩;simp only at hi hz1 hz2 hz3;subst hdd;subst hL;by_cases hc:i<v.list.length
 ·by_cases hc2:z≤most
  ·have hz3:=hz3 hc2;(refine Ai<|Ac<|Ab rfl<|Af rfl<|Ah rfl (Aj 0 rfl rfl)<|AA rfl<|Ax rfl rfl<|Ad rfl<|AE rfl (by omega)<|Ae rfl<|Ab rfl<|Ae rfl<|Ab rfl<|Ae rfl<|CW rfl rfl<|Ap rfl rfl<|Aa<|Au rfl (by omega)<|Am<|Ai<|Av<|Ay<|Ab rfl<|Af rfl<|Ah rfl (Aj 0 rfl rfl)<|Ab rfl<|AJ (sz:=6) (R:=Aw) (by rfl) (by assumption) (by rfl) rfl (by omega) ?_;rintro _ _ _ _ _ _;refine BE rfl (by assumption) (by assumption)<|Ab rfl<|Ab rfl<|Bn rfl rfl (by omega) (by omega) ?_);rename_i cs hcs hD hR;have hmz:(most:Int) - z=((most - z.toNat:Nat):Int):=by omega
   rw[hmz];refine AR rfl (ih _ (ZC hc) hR (by omega)) (fun r d3 L3 _ ⟨hdd,y,hr,hy1,hy2,hy3,hL⟩=>?_);subst hdd;subst hr;subst hL;(refine AI rfl rfl (by omega) (by omega)<|Ab rfl<|Aa<|Ay<|Ab rfl<|AI rfl rfl (by omega) (by omega)<|Ab rfl<|Aa ?_);refine⟨(i+1,z+y),by simp only;omega,⟨rfl,rfl,rfl,rfl,trivial⟩,rfl,hc,by simp only;omega,by simp only;omega,?_,rfl⟩
   simp only;intro h;rw[ZA hc,TH];have:=hy3 (by omega);omega
  ·(refine Ai<|Ac<|Ab rfl<|Af rfl<|Ah rfl (Aj 0 rfl rfl)<|AA rfl<|Ax rfl rfl<|Ad rfl<|AE rfl (by omega)<|Ae rfl<|Ab rfl<|Ae rfl<|Ab rfl<|Ae rfl<|CW rfl rfl<|Ap rfl rfl<|Aa<|Ao rfl (by omega)<|AV<|Ac<|Ab rfl<|Ab rfl<|Aa<|Ar ?_);exact Fu rfl ⟨z,rfl,hz1,hz2,fun h=>absurd h hc2,rfl⟩
 ·obtain rfl:i=v.list.length:=by omega
  rw[ZV] at hz3;(refine Ai<|Ac<|Ab rfl<|Af rfl<|Ah rfl (Aj 0 rfl rfl)<|AA rfl<|Ax rfl rfl<|Ad rfl<|AB rfl (by omega)<|Ak rfl<|Ak rfl<|Ak rfl<|An rfl rfl<|Aa<|AK rfl<|AV<|Ac<|Ab rfl<|Ab rfl<|Aa<|Ar ?_);exact Fu rfl ⟨z,rfl,hz1,hz2,fun h=>by rw[hz3 h,hb];omega,rfl⟩
def Gt(P:Program)(f:FuncId):Prop:=∀(v:V) {d cs},Aw d cs v→Bc v≤1000000000→AM P f [.agg cs.toArray] d (vZ (Bc v))
def RG(l:List V)(x:V):C6 (l++[x])=max (C6 l) (Bc x):=by
 induction l with
 |nil=>simp[C6]
 |cons a l ih=>simp only[Z6,C6,ih];omega
def RS(l:List V)(i:Nat):C6 (l.take i)≤C6 l:=by
 rw[GL];intro x hx;exact(GL.1 (ZL _)) x (Aar hx)
def O4(v:V):Bc v=C6 v.list+1:=by obtain⟨k,m,e,t,l,ks⟩:=v;rfl
def Jp(a0:Nat):A6:=⟨25,[(.tmp 2)],(sR (o1 1 (.box 0)<|o1 2 (.mv z0) .done) (sR (o1 3 (.mv z0) .done) (.seq (sR (o1 4 (.mv z0) .done) (.block 0 (.loop (.seq (sR (om 6 4<|oj 7 4 1<|ol 8 7<|oL 9 8<|ob 10 .lss 6 9 .done) (.cond 10 .skip (.exit 0))) (.seq (.block 1 (sR (oj 13 4 1<|ol 14 13<|om 15 4<|oI 16 6 14 15<|o1 17 (.ld (some 6) 16)<|oc 18 a0 [17]<|om 5 18 .done) (sR (om 19 5<|om 20 3<|ob 21 .gtr 19 20 .done) (.cond 21 (rG (om 22 5<|om 3 22 .done)) .skip)))) (rG (om 11 4<|ob 12 .add 11 z1<|om 4 12 .done))))))) (sR (om 23 3<|ob 24 .add z1 23<|om 2 24 .done) .ret))))⟩
def O1(hd:dec P f=some (Jp f)):Gt P f:=by
 intro v;induction v using V.ind with
 |h v ih=>
 intro d cs hv hb;refine AM.of' hd (No rfl) ?_;have he:=O4 v;obtain⟨lv,kv,rfl,ik,im,ie,it,hl,hks⟩:=hv.open;obtain⟨la,lc,rfl⟩:=RSl.val hl;have hll:=RSl.Be hl;have hl':RSl 6 Aw d (.slice la v.list.length lc) v.list:=hl;show gwp P _ _ _ _ _;apply Ai;apply Ay;refine AO (l:=[vZ v.kind,vZ v.m,vZ v.e,Al v.text,.slice la v.list.length lc,kv]) rfl (fun b1 T1=>?_);(refine Ab rfl<|Aa<|Ac<|Ab rfl<|Aa<|Ai<|Ac<|Ab rfl<|Aa<|Av ?_);refine CD (α:=Nat) (fun i=>[(1,pZ b1),(3,vZ (C6 (v.list.take i))),(4,vZ i)]) (fun _=>[bx b1 T1 [vZ v.kind,vZ v.m,vZ v.e,Al v.text,.slice la v.list.length lc,kv]])
  (fun i=>i≤v.list.length) (fun i=>v.list.length - i) 0 ⟨rfl,int_eq (by simp[C6]),rfl,trivial⟩ rfl (ZN _) ?_
 intro i ρ hi;have hti:=RS v.list i;by_cases hc:i<v.list.length
 ·have hm:=O7 (ZC hc);(refine Ai<|Ac<|Ab rfl<|Af rfl<|Ah rfl (Aj 0 rfl rfl)<|AA rfl<|Ax rfl rfl<|Aa<|Au rfl (by omega)<|Am<|Ai<|Av<|Ac<|Af rfl<|Ah rfl (Aj 0 rfl rfl)<|Ab rfl<|AJ (sz:=6) (R:=Aw) (by rfl) (by assumption) (by rfl) rfl (by omega) ?_;rintro _ _ _ _ _ _;apply BE;rfl;assumption;assumption);rename_i cs hcs hD hR;refine AF rfl (ih _ (ZC hc) hR (by omega)) ?_;have hsn:C6 (v.list.take (i+1))=max (C6 (v.list.take i)) (Bc v.list[i]):=by rw[ZA hc,RG]
  by_cases hg:C6 (v.list.take i)<Bc v.list[i]
  ·(refine Ab rfl<|Aa<|Ac<|Ab rfl<|Ab rfl<|AP rfl rfl<|Aa<|Au rfl (by omega)<|Ay<|Ab rfl<|Ab rfl<|Aa<|Ay<|Ab rfl<|AI rfl rfl (by omega) (by omega)<|Ab rfl<|Aa ?_);exact⟨i+1,by omega,⟨rfl,int_eq (by omega),int_eq (by omega),trivial⟩,rfl,rfl,hc⟩
  ·(refine Ab rfl<|Aa<|Ac<|Ab rfl<|Ab rfl<|AP rfl rfl<|Aa<|Ao rfl (by omega)<|Am<|Ay<|Ab rfl<|AI rfl rfl (by omega) (by omega)<|Ab rfl<|Aa ?_);exact⟨i+1,by omega,⟨rfl,int_eq (by omega),int_eq (by omega),trivial⟩,rfl,rfl,hc⟩
 ·obtain rfl:i=v.list.length:=by omega
  rw[ZV] at hti⊢;(refine Ai<|Ac<|Ab rfl<|Af rfl<|Ah rfl (Aj 0 rfl rfl)<|AA rfl<|Ax rfl rfl<|Aa<|Ao rfl (by omega)<|AV<|Ac<|Ab rfl<|AI rfl rfl (by omega) (by omega)<|Ab rfl<|Aa<|Ar ?_);apply CF;rfl;omega
def Zn{v:V}(h:v.kind<0∨6<v.kind):BW v=false:=by
 obtain⟨k,m,e,t,l,ks⟩:=v;rw[BW,QG h];rfl
def M5(T:Ag→Prop)(P:Program)(f:FuncId):Prop:=∀{d cs}{v:V},T d→Aw d cs v→AM P f [.agg cs.toArray] d (.bool (BW v))
def Kj(a0 a1:Nat):A6:=⟨116,[(.tmp 2)],(sR (o1 1 (.box 0)<|o1 2 (.mv (.const (.bool false))) .done) (sR (oj 5 0 1<|ol 6 5<|o1 7 (.bld [(0,1),(1,2),(3,1),(4,1),(5,1)] [(vZ 0),(vZ 0),(vZ 0),(Al []),(.slice none 0 0),(.slice none 0 0)] [(0,6)])<|o1 3 (.alo (.agg #[(vZ 0),(vZ 0),(vZ 0),(Al []),(.slice none 0 0),(.slice none 0 0)]))<|o0 (.st 6 3 7) .done) (.seq (sR (oj 8 0 1<|ol 9 8 .done) (.block 0 (.seq (sR (ob 11 .eql 9 z0<|om 10 11 .done) (.cond 10 .skip (sR (ob 12 .eql 9 z1<|om 10 12 .done) (.cond 10 .skip (rG (ob 13 .eql 9 z2<|om 10 13 .done)))))) (.cond 10 .skip (sR (ob 15 .eql 9 (kZ 3)<|om 14 15 .done) (.cond 14 (rG (oj 16 1 1<|o1 17 (.ld (some 2) 16)<|oj 18 1 3<|o0 (.st 2 18 17) .done)) (sR (ob 20 .eql 9 (kZ 4)<|om 19 20 .done) (.cond 19 (rG (oj 21 3 1<|ol 22 21<|oj 23 3 3<|o0 (.st 1 23 22) .done)) (sR (ob 25 .eql 9 (kZ 5)<|om 24 25 .done) (.cond 24 (rG (oj 26 4 1<|ol 27 26<|oj 28 4 3<|o0 (.st 1 28 27) .done)) (sR (ob 30 .eql 9 (kZ 6)<|om 29 30 .done) (.cond 29 (sR (oj 31 4 1<|ol 32 31<|oj 33 4 3<|o0 (.st 1 33 32) .done) (sR (oj 34 5 1<|ol 35 34<|oj 36 5 3<|o0 (.st 1 36 35) .done) (sR (oj 37 5 1<|ol 38 37<|oL 39 38<|oj 40 4 1<|ol 41 40<|oL 42 41<|ob 43 .neq 39 42 .done) (.cond 43 (sR (o1 2 (.mv (.const (.bool false))) .done) .ret) .skip)))) (sR (o1 2 (.mv (.const (.bool false))) .done) .ret))))))))))))) (.seq (sR (o1 4 (.mv z0) .done) (.block 1 (.loop (.seq (sR (om 44 4<|oj 45 5 1<|ol 46 45<|oL 47 46<|ob 48 .lss 44 47 .done) (.cond 48 .skip (.exit 1))) (.seq (.block 2 (.seq (.reg true (p1 51 (.fld 5 1)<|pl 52 51<|pm 53 4<|p1 54 (.idx 1 52 53)<|pl 55 54<|oc 56 a0 [55]<|p1 57 (.un .not 56)<|pm 58 57 (.op true ⟨(some 59),(some (58,false)),(.mv 4)⟩ (.op true ⟨(some 60),(some (58,false)),(.bin .gtr 59 z0)⟩ (.op true ⟨(some 61),(some (58,false)),(.mv 60)⟩ (.op true ⟨(some 62),(some (61,true)),(.fld 5 1)⟩ (.op true ⟨(some 63),(some (61,true)),(.ld none 62)⟩ (.op true ⟨(some 64),(some (61,true)),(.mv 4)⟩ (.op true ⟨(some 65),(some (61,true)),(.bin .sub 64 z1)⟩ (.op true ⟨(some 66),(some (61,true)),(.idx 1 63 65)⟩ (.op true ⟨(some 67),(some (61,true)),(.ld none 66)⟩ (.op true ⟨(some 68),(some (61,true)),(.fld 5 1)⟩ (.op true ⟨(some 69),(some (61,true)),(.ld none 68)⟩ (.op true ⟨(some 70),(some (61,true)),(.mv 4)⟩ (.op true ⟨(some 71),(some (61,true)),(.idx 1 69 70)⟩ (.op true ⟨(some 72),(some (61,true)),(.ld none 71)⟩ (.op true ⟨(some 73),(some (61,true)),(.bin .geq 67 72)⟩ (.op true ⟨(some 74),(some (58,false)),(.pick 61 73 (.const (.bool false)))⟩ (p1 75 (.pick 58 (.const (.bool true)) 74) .done))))))))))))))))))) (.cond 75 (sR (o1 2 (.mv (.const (.bool false))) .done) .ret) .skip))) (rG (om 49 4<|ob 50 .add 49 z1<|om 4 50 .done))))))) (sR (oj 76 1 3<|o1 77 (.ld (some 2) 76)<|oj 78 1 1<|o1 79 (.ld (some 2) 78)<|o1 80 (.eqc false [(0,0),(0,1)] 77 79)<|om 81 80<|oT 82 81 (.fld 3 3)<|oT 83 81 (.ld none 82)<|oT 84 81 (.fld 3 1)<|oT 85 81 (.ld none 84)<|oT 86 81 (.bin .eql 83 85)<|gP 87 81 86<|om 88 87<|oT 89 88 (.fld 4 3)<|oT 90 88 (.ld none 89)<|oT 91 88 (.len 90)<|oT 92 88 (.fld 4 1)<|oT 93 88 (.ld none 92)<|oT 94 88 (.len 93)<|oT 95 88 (.bin .eql 91 94)<|gP 96 88 95<|om 97 96<|oT 98 97 (.fld 5 3)<|oT 99 97 (.ld none 98)<|oT 100 97 (.len 99)<|oT 101 97 (.fld 5 1)<|oT 102 97 (.ld none 101)<|oT 103 97 (.len 102)<|oT 104 97 (.bin .eql 100 103)<|gP 105 97 104<|om 106 105<|oT 107 106 (.fld 1 1)<|oT 108 106 (.ld (some 2) 107)<|oT 109 106 (.call a1 [108])<|gP 110 106 109<|om 111 110<|oT 112 111 (.fld 3 1)<|oT 113 111 (.ld none 112)<|oT 114 111 (.call a0 [113])<|gP 115 111 114<|om 2 115 .done) .ret)))))⟩
def Nf(T:Ag→Prop)(P:Program)(f:FuncId):Prop:=∀(v:V) {d cs},T d→Aw d cs v→AM P f [.agg cs.toArray] d (.bool (BH v))
def Kv(a0 a1:Nat):A6:=⟨20,[(.tmp 2)],(sR (o1 1 (.box 0)<|o1 2 (.mv (.const (.bool false))) .done) (.seq (sR (o1 3 (.mv z0) .done) (.block 0 (.loop (.seq (sR (om 4 3<|oj 5 4 1<|ol 6 5<|oL 7 6<|ob 8 .lss 4 7 .done) (.cond 8 .skip (.exit 0))) (.seq (.block 1 (sR (oj 11 4 1<|ol 12 11<|om 13 3<|oI 14 6 12 13<|o1 15 (.ld (some 6) 14)<|oc 16 a0 [15]<|o1 17 (.un .not 16) .done) (.cond 17 (sR (o1 2 (.mv (.const (.bool false))) .done) .ret) .skip))) (rG (om 9 3<|ob 10 .add 9 z1<|om 3 10 .done))))))) (sR (o1 18 (.ld (some 6) 1)<|oc 19 a1 [18]<|om 2 19 .done) .ret)))⟩
def Se{T:Ag→Prop}{f1}(hd:dec P f=some (Kv f f1))(h1:M5 T P f1):Nf T P f:=by
 intro v;induction v using V.ind with
 |h v ih=>
 intro d cs ht hv;refine AM.of' hd (No rfl) ?_;have he:=Ed v;have hv':=hv;obtain⟨lv,kv,rfl,ik,im,ie,it,hl,hks⟩:=hv'.open;obtain⟨la,lc,rfl⟩:=RSl.val hl;obtain⟨ka,kc,rfl⟩:=RSl.val hks;have hll:=RSl.Be hl;have hl':RSl 6 Aw d (.slice la v.list.length lc) v.list:=hl;show gwp P _ _ _ _ _;apply Ai;apply Ay;refine AO (l:=[vZ v.kind,vZ v.m,vZ v.e,Al v.text,.slice la v.list.length lc,.slice ka v.keys.length kc]) rfl (fun b1 T1=>?_);(refine Ad rfl<|Aa<|Ai<|Ac<|Ab rfl<|Aa<|Av ?_);refine CD (α:=Nat) (fun i=>[(1,pZ b1),(3,vZ i)]) (fun _=>[bx b1 T1 [vZ v.kind,vZ v.m,vZ v.e,Al v.text,.slice la v.list.length lc,.slice ka v.keys.length kc]])
  (fun i=>i≤v.list.length∧(v.list.take i).all BH=true) (fun i=>v.list.length - i) 0 ⟨rfl,rfl,trivial⟩ rfl ⟨ZN _,by simp⟩ ?_
 rintro i ρ ⟨hi,hall⟩;by_cases hc:i<v.list.length
 ·(refine Ai<|Ac<|Ab rfl<|Af rfl<|Ah rfl (Aj 0 rfl rfl)<|AA rfl<|Ax rfl rfl<|Aa<|Au rfl (by omega)<|Am<|Ai<|Av<|Ac<|Af rfl<|Ah rfl (Aj 0 rfl rfl)<|Ab rfl<|AJ (sz:=6) (R:=Aw) (by rfl) (by assumption) (by rfl) rfl (by omega) ?_;rintro _ _ _ _ _ _;apply BE;rfl;assumption;assumption);rename_i cs hcs hD hR;refine AF rfl (ih _ (ZC hc) ht hR) ?_;cases hm:BH v.list[i] with
  |true=>
   (refine Bi rfl<|Aa<|AK rfl<|Am<|Ay<|Ab rfl<|AI rfl rfl (by omega) (by omega)<|Ab rfl<|Aa ?_)
   exact⟨i+1,by omega,⟨rfl,int_eq (by omega),trivial⟩,rfl,rfl,hc,by rw[ZA hc,Adg,hall];simp[hm]⟩
  |false=>
   (refine Bi rfl<|Aa<|Bb rfl<|Ac<|Ad rfl<|Aa<|Ar ?_)
   apply Bf;rfl
   rw[he,eq_comm,Bool.and_eq_false_iff]
   refine .inr ?_
   rw[←Abk,ZF]
   intro h;rw[h _ (ZC hc)] at hm;cases hm
 ·obtain rfl:i=v.list.length:=by omega
  rw[ZV] at hall;(refine Ai<|Ac<|Ab rfl<|Af rfl<|Ah rfl (Aj 0 rfl rfl)<|AA rfl<|Ax rfl rfl<|Aa<|Ao rfl (by omega)<|AV<|Ac<|AD 0 rfl rfl rfl ?_);refine AF rfl (h1 ht hv) ?_;(refine Ad rfl<|Aa<|Ar ?_);apply Bf;rfl;rw[he,hall,Bool.and_true]
def EW(T:Ag→Prop)(P:Program)(f:FuncId):Prop:=∀{d cs}{v:V},T d→Aw d cs v→Bc v≤1000000000→AM P f [.agg cs.toArray] d (vZ (AS v))
def I8(a0 a1:Nat):A6:=⟨9,[(.tmp 2)],(sR (o1 1 (.box 0)<|o1 2 (.mv z0) .done) (.seq (sR (o1 3 (.ld (some 6) 1)<|oc 4 a0 [3]<|ob 5 .gtr 4 (kZ 48) .done) (.cond 5 (sR (o1 2 (.mv (kZ 31)) .done) .ret) .skip)) (.seq (sR (o1 6 (.ld (some 6) 1)<|oc 7 a1 [6]<|o1 8 (.un .not 7) .done) (.cond 8 (sR (o1 2 (.mv (kZ 30)) .done) .ret) .skip)) (sR (o1 2 (.mv z0) .done) .ret))))⟩
def Pq{T:Ag→Prop}{f1 f2}(hd:dec P f=some (I8 f1 f2))(h1:Gt P f1)(h2:Nf T P f2):EW T P f:=by
 intro d cs v ht hv hb;refine AM.of' hd (No rfl) ?_;have hv':=hv;obtain⟨lv,kv,rfl,ik,im,ie,it,hl,hks⟩:=hv'.open;show gwp P _ _ _ _ _;apply Ai;apply Ay;refine AO (l:=[vZ v.kind,vZ v.m,vZ v.e,Al v.text,lv,kv]) rfl (fun b1 T1=>?_);(refine Ab rfl<|Aa<|Ai<|Ac<|AD 0 rfl rfl rfl ?_);refine AF rfl (h1 v hv hb) ?_;by_cases h3:Bc v≤48
 ·(refine AP rfl rfl<|Aa<|Ao rfl (by omega)<|Am<|Ai<|Ac<|AD 0 rfl rfl rfl ?_);refine AF rfl (h2 v ht hv) ?_;cases h4:BH v with
  |true=>
   (refine Bi rfl<|Aa<|AK rfl<|Am<|Ac<|Ab rfl<|Aa<|Ar ?_)
   apply CF;rfl
   simp[AS,h3,h4]
  |false=>
   (refine Bi rfl<|Aa<|Bb rfl<|Ac<|Ab rfl<|Aa<|Ar ?_)
   apply CF;rfl
   simp[AS,h3,h4]
 ·(refine AP rfl rfl<|Aa<|Au rfl (by omega)<|Ac<|Ab rfl<|Aa<|Ar ?_);apply CF;rfl;simp[AS,h3]
mutual
def Ck:V→V→Bool
 |.mk k m e t l ks,b=>decide (k=b.kind)&& decide (m=b.m)&& decide (e=b.e)&& decide (t=b.text)&& decide (ks=b.keys)&& F9 l b.list
def F9:List V→List V→Bool
 |[],[]=>true
 |x::l,y::l'=>Ck x y && F9 l l'
 |_,_=>false
end
def Kw:∀{l l':List V},(∀x∈l,∀y,Ck x y=true↔x=y)→(F9 l l'=true↔l=l')
 |[],[],_=>by simp[F9]
 |[],_::_,_=>by simp[F9]
 |_::_,[],_=>by simp[F9]
 |x::l,y::l',h=>by
  simp only[F9,Zz,List.cons.injEq];rw[h x (ZG ..),Kw (fun z hz=>h z (ZE _ hz))]
def CP(a b:V):Ck a b=true↔a=b:=by
 induction a using V.ind generalizing b with
 |h a ih=>
 obtain⟨k,m,e,t,l,ks⟩:=a;obtain⟨k',m',e',t',l',ks'⟩:=b;simp only[Ck,Zz,decide_eq_true_eq,V.mk.injEq];rw[Kw (fun x hx y=>ih x hx y)];constructor
 ·rintro⟨⟨⟨⟨⟨a,b⟩,c⟩,d⟩,e⟩,f⟩;exact⟨a,b,c,d,f,e⟩
 ·rintro⟨a,b,c,d,e,f⟩;exact⟨⟨⟨⟨⟨a,b⟩,c⟩,d⟩,f⟩,e⟩
def Lc{a b:V}{r:Bool}(h:r=true↔a=b):r=Ck a b:=by rw[Abr,h,CP]
def Gi(P:Program)(f:FuncId):Prop:=∀(a b:V) {d cs ds},Aw d cs a→Aw d ds b→AM P f [.agg cs.toArray,.agg ds.toArray] d (.bool (Ck a b))
def J6(a0:Nat):A6:=⟨81,[(.tmp 4)],(sR (o1 2 (.box 0)<|o1 3 (.box 1)<|o1 4 (.mv (.const (.bool false))) .done) (.seq (sR (oj 7 0 2<|ol 8 7<|oj 9 0 3<|ol 10 9<|ob 11 .neq 8 10<|om 12 11<|oF 13 12 (.fld 1 2)<|oF 14 12 (.ld (some 2) 13)<|oF 15 12 (.fld 1 3)<|oF 16 12 (.ld (some 2) 15)<|oF 17 12 (.eqc true [(0,0),(0,1)] 14 16)<|o1 18 (.pick 12 (.const (.bool true)) 17)<|om 19 18<|oF 20 19 (.fld 3 2)<|oF 21 19 (.ld none 20)<|oF 22 19 (.fld 3 3)<|oF 23 19 (.ld none 22)<|oF 24 19 (.bin .neq 21 23)<|o1 25 (.pick 19 (.const (.bool true)) 24)<|om 26 25<|oF 27 26 (.fld 4 2)<|oF 28 26 (.ld none 27)<|oF 29 26 (.len 28)<|oF 30 26 (.fld 4 3)<|oF 31 26 (.ld none 30)<|oF 32 26 (.len 31)<|oF 33 26 (.bin .neq 29 32)<|o1 34 (.pick 26 (.const (.bool true)) 33)<|om 35 34<|oF 36 35 (.fld 5 2)<|oF 37 35 (.ld none 36)<|oF 38 35 (.len 37)<|oF 39 35 (.fld 5 3)<|oF 40 35 (.ld none 39)<|oF 41 35 (.len 40)<|oF 42 35 (.bin .neq 38 41)<|o1 43 (.pick 35 (.const (.bool true)) 42) .done) (.cond 43 (sR (o1 4 (.mv (.const (.bool false))) .done) .ret) .skip)) (.seq (sR (o1 5 (.mv z0) .done) (.block 0 (.loop (.seq (sR (om 44 5<|oj 45 5 2<|ol 46 45<|oL 47 46<|ob 48 .lss 44 47 .done) (.cond 48 .skip (.exit 0))) (.seq (.block 1 (.seq (.reg true (p1 51 (.fld 5 2)<|pl 52 51<|pm 53 5<|p1 54 (.idx 1 52 53)<|pl 55 54<|p1 56 (.fld 5 3)<|pl 57 56<|pm 58 5<|p1 59 (.idx 1 57 58)<|pl 60 59<|p1 61 (.bin .neq 55 60) .done)) (.cond 61 (sR (o1 4 (.mv (.const (.bool false))) .done) .ret) .skip))) (rG (om 49 5<|ob 50 .add 49 z1<|om 5 50 .done))))))) (.seq (sR (o1 6 (.mv z0) .done) (.block 2 (.loop (.seq (sR (om 62 6<|oj 63 4 2<|ol 64 63<|oL 65 64<|ob 66 .lss 62 65 .done) (.cond 66 .skip (.exit 2))) (.seq (.block 3 (.seq (.reg true (p1 69 (.fld 4 2)<|pl 70 69<|pm 71 6<|p1 72 (.idx 6 70 71)<|p1 73 (.ld (some 6) 72)<|p1 74 (.fld 4 3)<|pl 75 74<|pm 76 6<|p1 77 (.idx 6 75 76)<|p1 78 (.ld (some 6) 77)<|oc 79 a0 [73,78]<|p1 80 (.un .not 79) .done)) (.cond 80 (sR (o1 4 (.mv (.const (.bool false))) .done) .ret) .skip))) (rG (om 67 6<|ob 68 .add 67 z1<|om 6 68 .done))))))) (sR (o1 4 (.mv (.const (.bool true))) .done) .ret)))))⟩
set_option maxHeartbeats 1000000 in
def RY(hd:dec P f=some (J6 f)):Gi P f:=by
 intro a;induction a using V.ind with
 |h a ih=>
 intro b d cs ds ha hb;refine AM.of' hd (No rfl) ?_;have hbad:∀{p:Prop},¬p→(a=b→p)→false=Ck a b:=fun h1 h2=>Lc ⟨fun h=>(by cases h),fun h=>absurd (h2 h) h1⟩;obtain⟨lv,kv,rfl,ik,im,ie,it,hl,hks⟩:=ha.open;obtain⟨la,lc,rfl⟩:=RSl.val hl;obtain⟨ka,kc,rfl⟩:=RSl.val hks;obtain⟨lv',kv',rfl,ik',im',ie',it',hl',hks'⟩:=hb.open;obtain⟨la',lc',rfl⟩:=RSl.val hl';obtain⟨ka',kc',rfl⟩:=RSl.val hks';have q1:RSl 6 Aw d (.slice la a.list.length lc) a.list:=hl;have q2:RSl 6 Aw d (.slice la' b.list.length lc') b.list:=hl';have q3:RSl 1 A2 d (.slice ka a.keys.length kc) a.keys:=hks;have q4:RSl 1 A2 d (.slice ka' b.keys.length kc') b.keys:=hks';have n1:=RSl.Be hl;have n2:=RSl.Be hl';have n3:=RSl.Be hks;have n4:=RSl.Be hks';show gwp P _ _ _ _ _;apply Ai;apply Ay;refine AO (l:=[vZ a.kind,vZ a.m,vZ a.e,Al a.text,.slice la a.list.length lc,.slice ka a.keys.length kc]) rfl (fun b2 T2=>?_);refine AO (l:=[vZ b.kind,vZ b.m,vZ b.e,Al b.text,.slice la' b.list.length lc',.slice ka' b.keys.length kc']) rfl (fun b3 T3=>?_);by_cases h1:a.kind≠b.kind
 ·(refine Ad rfl<|Aa<|Ai<|Ac<|Af rfl<|Ah rfl (Aj 1 rfl rfl)<|Af rfl<|Ah rfl (Aj 0 rfl rfl)<|AG rfl rfl<|Ad rfl<|AE rfl (by omega)<|Ak rfl<|Ak rfl<|Ak rfl<|Ak rfl<|Ak rfl<|Ap rfl rfl<|Ad rfl<|Ak rfl<|Ak rfl<|Ak rfl<|Ak rfl<|Ak rfl<|Ap rfl rfl<|Ad rfl<|Ak rfl<|Ak rfl<|Ak rfl<|Ak rfl<|Ak rfl<|Ak rfl<|Ak rfl<|Ap rfl rfl<|Ad rfl<|Ak rfl<|Ak rfl<|Ak rfl<|Ak rfl<|Ak rfl<|Ak rfl<|Ak rfl<|Ap rfl rfl<|Aa<|Bb rfl<|Ac<|Ad rfl<|Aa<|Ar ?_);apply Bf;rfl;exact hbad (p:=a.kind=b.kind) h1 (fun h=>by rw[h])
 by_cases h2:(true ^^(decide (a.m=b.m)&& decide (a.e=b.e)))=true
 ·(refine Ad rfl<|Aa<|Ai<|Ac<|Af rfl<|Ah rfl (Aj 1 rfl rfl)<|Af rfl<|Ah rfl (Aj 0 rfl rfl)<|AG rfl rfl<|Ad rfl<|AB rfl (by omega)<|Ae rfl<|Af rfl<|Ae rfl<|BJ 1 rfl rfl rfl<|Ae rfl<|Af rfl<|Ae rfl<|BJ 0 rfl rfl rfl<|Ae rfl<|Cx rfl rfl<|An rfl rfl<|Ad rfl ?_;apply Jc;rfl;(with_reducible assumption);refine Ak rfl<|Ak rfl<|Ak rfl<|Ak rfl<|Ak rfl<|Ap rfl rfl<|Ad rfl<|Ak rfl<|Ak rfl<|Ak rfl<|Ak rfl<|Ak rfl<|Ak rfl<|Ak rfl<|Ap rfl rfl<|Ad rfl<|Ak rfl<|Ak rfl<|Ak rfl<|Ak rfl<|Ak rfl<|Ak rfl<|Ak rfl<|Ap rfl rfl<|Aa<|Bb rfl<|Ac<|Ad rfl<|Aa<|Ar ?_);apply Bf;rfl;refine hbad (p:=a.m=b.m∧a.e=b.e) (fun h=>?_) (fun h=>by rw[h];exact⟨rfl,rfl⟩);rw[h.1,h.2] at h2;simp at h2
 have h2':(true ^^(decide (a.m=b.m)&& decide (a.e=b.e)))=false:=by simpa using h2
 by_cases h3:a.text≠b.text
 ·(refine Ad rfl<|Aa<|Ai<|Ac<|Af rfl<|Ah rfl (Aj 1 rfl rfl)<|Af rfl<|Ah rfl (Aj 0 rfl rfl)<|AG rfl rfl<|Ad rfl<|AB rfl (by omega)<|Ae rfl<|Af rfl<|Ae rfl<|BJ 1 rfl rfl rfl<|Ae rfl<|Af rfl<|Ae rfl<|BJ 0 rfl rfl rfl<|Ae rfl<|Cx rfl rfl<|An rfl rfl<|Ad rfl ?_;apply Lj;rfl;(with_reducible assumption);refine Ae rfl<|Af rfl<|Ae rfl<|Ah rfl (Aj 1 rfl rfl)<|Ae rfl<|Af rfl<|Ae rfl<|Ah rfl (Aj 0 rfl rfl)<|Ae rfl<|C3 rfl rfl<|An rfl rfl<|Ad rfl<|AE rfl (by omega)<|Ak rfl<|Ak rfl<|Ak rfl<|Ak rfl<|Ak rfl<|Ak rfl<|Ak rfl<|Ap rfl rfl<|Ad rfl<|Ak rfl<|Ak rfl<|Ak rfl<|Ak rfl<|Ak rfl<|Ak rfl<|Ak rfl<|Ap rfl rfl<|Aa<|Bb rfl<|Ac<|Ad rfl<|Aa<|Ar ?_);apply Bf;rfl;exact hbad (p:=a.text=b.text) h3 (fun h=>by rw[h])
 by_cases h4:(a.list.length:Int)≠b.list.length
 ·(refine Ad rfl<|Aa<|Ai<|Ac<|Af rfl<|Ah rfl (Aj 1 rfl rfl)<|Af rfl<|Ah rfl (Aj 0 rfl rfl)<|AG rfl rfl<|Ad rfl<|AB rfl (by omega)<|Ae rfl<|Af rfl<|Ae rfl<|BJ 1 rfl rfl rfl<|Ae rfl<|Af rfl<|Ae rfl<|BJ 0 rfl rfl rfl<|Ae rfl<|Cx rfl rfl<|An rfl rfl<|Ad rfl ?_;apply Lj;rfl;(with_reducible assumption);refine Ae rfl<|Af rfl<|Ae rfl<|Ah rfl (Aj 1 rfl rfl)<|Ae rfl<|Af rfl<|Ae rfl<|Ah rfl (Aj 0 rfl rfl)<|Ae rfl<|C3 rfl rfl<|An rfl rfl<|Ad rfl<|AB rfl (by omega)<|Ae rfl<|Af rfl<|Ae rfl<|Ah rfl (Aj 1 rfl rfl)<|Ae rfl<|AA rfl<|Ae rfl<|Af rfl<|Ae rfl<|Ah rfl (Aj 0 rfl rfl)<|Ae rfl<|AA rfl<|Ae rfl<|AG rfl rfl<|An rfl rfl<|Ad rfl<|AE rfl (by omega)<|Ak rfl<|Ak rfl<|Ak rfl<|Ak rfl<|Ak rfl<|Ak rfl<|Ak rfl<|Ap rfl rfl<|Aa<|Bb rfl<|Ac<|Ad rfl<|Aa<|Ar ?_);apply Bf;rfl;exact hbad (p:=(a.list.length:Int)=b.list.length) h4 (fun h=>by rw[h])
 by_cases h5:(a.keys.length:Int)≠b.keys.length
 ·(refine Ad rfl<|Aa<|Ai<|Ac<|Af rfl<|Ah rfl (Aj 1 rfl rfl)<|Af rfl<|Ah rfl (Aj 0 rfl rfl)<|AG rfl rfl<|Ad rfl<|AB rfl (by omega)<|Ae rfl<|Af rfl<|Ae rfl<|BJ 1 rfl rfl rfl<|Ae rfl<|Af rfl<|Ae rfl<|BJ 0 rfl rfl rfl<|Ae rfl<|Cx rfl rfl<|An rfl rfl<|Ad rfl ?_;apply Lj;rfl;(with_reducible assumption);refine Ae rfl<|Af rfl<|Ae rfl<|Ah rfl (Aj 1 rfl rfl)<|Ae rfl<|Af rfl<|Ae rfl<|Ah rfl (Aj 0 rfl rfl)<|Ae rfl<|C3 rfl rfl<|An rfl rfl<|Ad rfl<|AB rfl (by omega)<|Ae rfl<|Af rfl<|Ae rfl<|Ah rfl (Aj 1 rfl rfl)<|Ae rfl<|AA rfl<|Ae rfl<|Af rfl<|Ae rfl<|Ah rfl (Aj 0 rfl rfl)<|Ae rfl<|AA rfl<|Ae rfl<|AG rfl rfl<|An rfl rfl<|Ad rfl<|AB rfl (by omega)<|Ae rfl<|Af rfl<|Ae rfl<|Ah rfl (Aj 1 rfl rfl)<|Ae rfl<|AA rfl<|Ae rfl<|Af rfl<|Ae rfl<|Ah rfl (Aj 0 rfl rfl)<|Ae rfl<|AA rfl<|Ae rfl<|AG rfl rfl<|An rfl rfl<|Aa<|Au rfl (by omega)<|Ac<|Ad rfl<|Aa<|Ar ?_);apply Bf;rfl;exact hbad (p:=(a.keys.length:Int)=b.keys.length) h5 (fun h=>by rw[h])
 (refine Ad rfl<|Aa<|Ai<|Ac<|Af rfl<|Ah rfl (Aj 1 rfl rfl)<|Af rfl<|Ah rfl (Aj 0 rfl rfl)<|AG rfl rfl<|Ad rfl<|AB rfl (by omega)<|Ae rfl<|Af rfl<|Ae rfl<|BJ 1 rfl rfl rfl<|Ae rfl<|Af rfl<|Ae rfl<|BJ 0 rfl rfl rfl<|Ae rfl<|Cx rfl rfl<|An rfl rfl<|Ad rfl ?_;apply Lj;rfl;(with_reducible assumption);refine Ae rfl<|Af rfl<|Ae rfl<|Ah rfl (Aj 1 rfl rfl)<|Ae rfl<|Af rfl<|Ae rfl<|Ah rfl (Aj 0 rfl rfl)<|Ae rfl<|C3 rfl rfl<|An rfl rfl<|Ad rfl<|AB rfl (by omega)<|Ae rfl<|Af rfl<|Ae rfl<|Ah rfl (Aj 1 rfl rfl)<|Ae rfl<|AA rfl<|Ae rfl<|Af rfl<|Ae rfl<|Ah rfl (Aj 0 rfl rfl)<|Ae rfl<|AA rfl<|Ae rfl<|AG rfl rfl<|An rfl rfl<|Ad rfl<|AB rfl (by omega)<|Ae rfl<|Af rfl<|Ae rfl<|Ah rfl (Aj 1 rfl rfl)<|Ae rfl<|AA rfl<|Ae rfl<|Af rfl<|Ae rfl<|Ah rfl (Aj 0 rfl rfl)<|Ae rfl<|AA rfl<|Ae rfl<|AG rfl rfl<|An rfl rfl<|Aa<|Ao rfl (by omega)<|Am<|Ai<|Ac<|Ab rfl<|Aa<|Av ?_);refine CD (α:=Nat) (fun i=>[(2,pZ b2),(3,pZ b3),(5,vZ i)]) (fun _=>[bx b3 T3 [vZ b.kind,vZ b.m,vZ b.e,Al b.text,.slice la' b.list.length lc',.slice ka' b.keys.length kc'],bx b2 T2 [vZ a.kind,vZ a.m,vZ a.e,Al a.text,.slice la a.list.length lc,.slice ka a.keys.length kc]])
  (fun i=>i≤a.keys.length∧a.keys.take i=b.keys.take i) (fun i=>a.keys.length - i) 0 ⟨rfl,rfl,rfl,trivial⟩ rfl ⟨ZN _,by simp⟩ ?_
 rintro i ρ ⟨hi,hki⟩;by_cases hc:i<a.keys.length
 ·have hc':i<b.keys.length:=by omega
  by_cases h6:a.keys[i]≠b.keys[i]
  ·(refine Ai<|Ac<|Ab rfl<|Af rfl<|Ah rfl (Aj 1 rfl rfl)<|AA rfl<|Ax rfl rfl<|Aa<|Au rfl (by omega)<|Am<|Ai<|Av<|Ai<|AT<|Af rfl<|Ah rfl (Aj 1 rfl rfl)<|Ab rfl<|AJ (sz:=1) (R:=A2) (by rfl) (by assumption) (by rfl) rfl (by omega) ?_;rintro _ _ _ _ _ ⟨rfl,_⟩;refine Ah rfl (A1 (by assumption) rfl)<|Af rfl<|Ah rfl (Aj 0 rfl rfl)<|Ab rfl<|AJ (sz:=1) (R:=A2) (by rfl) (by assumption) (by rfl) rfl (by omega) ?_;rintro _ _ _ _ _ ⟨rfl,_⟩;refine Ah rfl (A1 (by assumption) rfl)<|C3 rfl rfl<|AW<|Au rfl (by omega)<|Ac<|Ad rfl<|Aa<|Ar ?_);apply Bf;rfl;refine hbad (p:=a.keys[i]=b.keys[i]) h6 (fun h=>?_);have:=congrArg V.keys h;simp only[this]
  ·(refine Ai<|Ac<|Ab rfl<|Af rfl<|Ah rfl (Aj 1 rfl rfl)<|AA rfl<|Ax rfl rfl<|Aa<|Au rfl (by omega)<|Am<|Ai<|Av<|Ai<|AT<|Af rfl<|Ah rfl (Aj 1 rfl rfl)<|Ab rfl<|AJ (sz:=1) (R:=A2) (by rfl) (by assumption) (by rfl) rfl (by omega) ?_;rintro _ _ _ _ _ ⟨rfl,_⟩;refine Ah rfl (A1 (by assumption) rfl)<|Af rfl<|Ah rfl (Aj 0 rfl rfl)<|Ab rfl<|AJ (sz:=1) (R:=A2) (by rfl) (by assumption) (by rfl) rfl (by omega) ?_;rintro _ _ _ _ _ ⟨rfl,_⟩;refine Ah rfl (A1 (by assumption) rfl)<|C3 rfl rfl<|AW<|Ao rfl (by omega)<|Am<|Ay<|Ab rfl<|AI rfl rfl (by omega) (by omega)<|Ab rfl<|Aa ?_);refine⟨i+1,by omega,⟨rfl,rfl,int_eq (by omega),trivial⟩,rfl,rfl,hc,?_⟩
   have h7:a.keys[i]=b.keys[i]:=by simpa using h6
   rw[ZA hc,ZA hc',hki,h7]
 obtain rfl:i=a.keys.length:=by omega
 have hkeys:a.keys=b.keys:=by
  rw[ZV] at hki;rw[hki];exact Z7 (by omega)
 clear hki hi;(refine Ai<|Ac<|Ab rfl<|Af rfl<|Ah rfl (Aj 1 rfl rfl)<|AA rfl<|Ax rfl rfl<|Aa<|Ao rfl (by omega)<|AV<|Ai<|Ac<|Ab rfl<|Aa<|Av ?_);refine CD (α:=Nat) (fun i=>[(2,pZ b2),(3,pZ b3),(6,vZ i)]) (fun _=>[bx b3 T3 [vZ b.kind,vZ b.m,vZ b.e,Al b.text,.slice la' b.list.length lc',.slice ka' b.keys.length kc'],bx b2 T2 [vZ a.kind,vZ a.m,vZ a.e,Al a.text,.slice la a.list.length lc,.slice ka a.keys.length kc]])
  (fun i=>i≤a.list.length∧a.list.take i=b.list.take i) (fun i=>a.list.length - i) 0 ⟨rfl,rfl,rfl,trivial⟩ rfl ⟨ZN _,by simp⟩ ?_
 rintro i ρ ⟨hi,hki⟩;by_cases hc':i<a.list.length
 ·have hc2:i<b.list.length:=by omega
  (refine Ai<|Ac<|Ab rfl<|Af rfl<|Ah rfl (Aj 1 rfl rfl)<|AA rfl<|Ax rfl rfl<|Aa<|Au rfl (by omega)<|Am<|Ai<|Av<|Ai<|AT<|Af rfl<|Ah rfl (Aj 1 rfl rfl)<|Ab rfl<|AJ (sz:=6) (R:=Aw) (by rfl) (by assumption) (by rfl) rfl (by omega) ?_;rintro _ _ _ _ _ _;refine BE rfl (by assumption) (by assumption)<|Af rfl<|Ah rfl (Aj 0 rfl rfl)<|Ab rfl<|AJ (sz:=6) (R:=Aw) (by rfl) (by assumption) (by rfl) rfl (by omega) ?_;rintro _ _ _ _ _ _;apply BE;rfl;assumption;assumption);rename_i cs1 hcs1 hD1 hR1 _ _ cs2 hcs2 hD2 hR2;refine AF rfl (ih _ (ZC hc') b.list[i] hR1 hR2) ?_;cases h6:Ck a.list[i] b.list[i] with
  |false=>
   (refine Bi rfl<|AW<|Bb rfl<|Ac<|Ad rfl<|Aa<|Ar ?_)
   apply Bf;rfl
   refine hbad (p:=a.list[i]=b.list[i]) (fun h=>?_) (fun h=>?_)
   ·have:=(CP _ _).2 h;rw[h6] at this;cases this
   ·have:=congrArg V.list h
    simp only[this]
  |true=>
   (refine Bi rfl<|AW<|AK rfl<|Am<|Ay<|Ab rfl<|AI rfl rfl (by omega) (by omega)<|Ab rfl<|Aa ?_)
   refine⟨i+1,by omega,⟨rfl,rfl,int_eq (by omega),trivial⟩,rfl,rfl,hc',?_⟩
   rw[ZA hc',ZA hc2,hki,(CP _ _).1 h6]
 ·obtain rfl:i=a.list.length:=by omega
  have hlist:a.list=b.list:=by
   rw[ZV] at hki;rw[hki];exact Z7 (by omega)
  (refine Ai<|Ac<|Ab rfl<|Af rfl<|Ah rfl (Aj 1 rfl rfl)<|AA rfl<|Ax rfl rfl<|Aa<|Ao rfl (by omega)<|AV<|Ac<|Ad rfl<|Aa<|Ar ?_);apply Bf;rfl;refine Lc ⟨fun _=>V.ext (by omega) ?_ ?_ (by simpa using h3) hlist hkeys,fun _=>rfl⟩
  ·simp only[Bool.true_xor,Bool.not_eq_false',Zz,decide_eq_true_eq] at h2';exact h2'.1
  ·simp only[Bool.true_xor,Bool.not_eq_false',Zz,decide_eq_true_eq] at h2';exact h2'.2
set_option maxHeartbeats 1000000 in
def Sn{T:Ag→Prop}{f1 f2}(hd:dec P f=some (Kj f1 f2))(h1:DP T P f1)(h2:G7 T P f2):M5 T P f:=by
 intro d cs v ht hv;refine AM.of' hd (No rfl) ?_;obtain⟨lv,kv,rfl,ik,im,ie,it,hl,hks⟩:=hv.open;obtain⟨la,lc,rfl⟩:=RSl.val hl;obtain⟨ka,kc,rfl⟩:=RSl.val hks;obtain⟨k,m,e,t,l,ks⟩:=v;simp only[V.kind,V.m,V.e,V.text,V.list,V.keys] at*;have hks':RSl 1 A2 d (.slice ka ks.length kc) ks:=hks;have n1:=RSl.Be hl;have n2:=RSl.Be hks;have hsl:∀i (h:i<ks.length),ks[i].length≤140737488355328:=fun i h=>by
  obtain⟨_,_,_,_,_,_,_,_,_,_,_,h8⟩:=hks;obtain⟨cs,_,_,_,h9⟩:=h8 i h;exact h9
 show gwp P _ _ _ _ _;apply Ai;apply Ay;refine AO (l:=[vZ k,vZ m,vZ e,Al t,.slice la l.length lc,.slice ka ks.length kc]) rfl (fun b1 T1=>?_);(refine Ad rfl<|Aa ?_);apply Ai;apply Ay;(refine Af rfl<|Ah rfl (Aj 0 rfl rfl)<|BN rfl<|AX (fun _ _=>?_));rename_i b3 T3;refine Az 0 [vZ k,vZ 0,vZ 0,Al [],.slice none 0 0,.slice none 0 0] rfl rfl rfl rfl (No rfl) rfl rfl ?_;(apply Aa);refine Ct (fun ρ d' L'=>d'=d∧A9 ρ [(1,pZ b1),(3,pZ b3)]∧∃pm pe pt pla pln plc pka pkn pkc,L'=[bx b3 T3 [vZ k,vZ pm,vZ pe,Al pt,.slice pla pln plc,.slice pka pkn pkc],bx b1 T1 [vZ k,vZ m,vZ e,Al t,.slice la l.length lc,.slice ka ks.length kc]]∧
  Cf (.mk k m e t l ks)=(decide (m=pm∧e=pe)&& decide (t=pt)&& decide (l.length=pln)&& decide (ks.length=pkn))∧(k≠6∨ks.length=l.length)) ?_ ?_
 ·by_cases h0:k<0∨6<k
  ·have hz:=Zn (v:=.mk k m e t l ks) h0;(refine Ac<|Af rfl<|Ah rfl (Aj 1 rfl rfl)<|Aa<|Av<|Ai<|Ac<|Aq rfl rfl<|Ad rfl<|Aa<|Ao rfl (by omega)<|Ac<|Aq rfl rfl<|Ad rfl<|Aa<|Ao rfl (by omega)<|Ay<|Aq rfl rfl<|Ad rfl<|Aa<|Ao rfl (by omega)<|Ac<|Aq rfl rfl<|Ad rfl<|Aa<|Ao rfl (by omega)<|Ac<|Aq rfl rfl<|Ad rfl<|Aa<|Ao rfl (by omega)<|Ac<|Aq rfl rfl<|Ad rfl<|Aa<|Ao rfl (by omega)<|Ac<|Aq rfl rfl<|Ad rfl<|Aa<|Ao rfl (by omega)<|Ac<|Ad rfl<|Aa<|Ar ?_);apply Bf;rfl;exact hz.symm
  by_cases h_0:k=0
  ·subst h_0;(refine Ac<|Af rfl<|Ah rfl (Aj 1 rfl rfl)<|Aa<|Av<|Ai<|Ac<|Aq rfl rfl<|Ad rfl<|Aa<|Au rfl (by omega)<|Am<|Au rfl (by omega)<|Am ?_);exact⟨rfl,⟨rfl,rfl,trivial⟩,0,0,[],none,0,0,none,0,0,rfl,by simp[Cf,V.kind,V.m,V.e,V.text,V.list,V.keys],.inl (by decide)⟩
  by_cases h_1:k=1
  ·subst h_1;(refine Ac<|Af rfl<|Ah rfl (Aj 1 rfl rfl)<|Aa<|Av<|Ai<|Ac<|Aq rfl rfl<|Ad rfl<|Aa<|Ao rfl (by omega)<|Ac<|Aq rfl rfl<|Ad rfl<|Aa<|Au rfl (by omega)<|Am<|Au rfl (by omega)<|Am ?_);exact⟨rfl,⟨rfl,rfl,trivial⟩,0,0,[],none,0,0,none,0,0,rfl,by simp[Cf,V.kind,V.m,V.e,V.text,V.list,V.keys],.inl (by decide)⟩
  by_cases h_2:k=2
  ·subst h_2;(refine Ac<|Af rfl<|Ah rfl (Aj 1 rfl rfl)<|Aa<|Av<|Ai<|Ac<|Aq rfl rfl<|Ad rfl<|Aa<|Ao rfl (by omega)<|Ac<|Aq rfl rfl<|Ad rfl<|Aa<|Ao rfl (by omega)<|Ay<|Aq rfl rfl<|Ad rfl<|Aa<|Au rfl (by omega)<|Am ?_);exact⟨rfl,⟨rfl,rfl,trivial⟩,0,0,[],none,0,0,none,0,0,rfl,by simp[Cf,V.kind,V.m,V.e,V.text,V.list,V.keys],.inl (by decide)⟩
  by_cases h_3:k=3
  ·subst h_3;(refine Ac<|Af rfl<|Ah rfl (Aj 1 rfl rfl)<|Aa<|Av<|Ai<|Ac<|Aq rfl rfl<|Ad rfl<|Aa<|Ao rfl (by omega)<|Ac<|Aq rfl rfl<|Ad rfl<|Aa<|Ao rfl (by omega)<|Ay<|Aq rfl rfl<|Ad rfl<|Aa<|Ao rfl (by omega)<|Ac<|Aq rfl rfl<|Ad rfl<|Aa<|Au rfl (by omega)<|Ay<|Af rfl<|BJ 1 rfl rfl rfl<|Af rfl ?_);refine Az 0 [vZ 3,vZ m,vZ e,Al [],.slice none 0 0,.slice none 0 0] rfl rfl rfl rfl (No rfl) rfl rfl ?_;(apply Aa);exact⟨rfl,⟨rfl,rfl,trivial⟩,m,e,[],none,0,0,none,0,0,rfl,by simp[Cf,V.kind,V.m,V.e,V.text,V.list,V.keys],.inl (by decide)⟩
  by_cases h_4:k=4
  ·subst h_4;(refine Ac<|Af rfl<|Ah rfl (Aj 1 rfl rfl)<|Aa<|Av<|Ai<|Ac<|Aq rfl rfl<|Ad rfl<|Aa<|Ao rfl (by omega)<|Ac<|Aq rfl rfl<|Ad rfl<|Aa<|Ao rfl (by omega)<|Ay<|Aq rfl rfl<|Ad rfl<|Aa<|Ao rfl (by omega)<|Ac<|Aq rfl rfl<|Ad rfl<|Aa<|Ao rfl (by omega)<|Ac<|Aq rfl rfl<|Ad rfl<|Aa<|Au rfl (by omega)<|Ay<|Af rfl<|Ah rfl (Aj 1 rfl rfl)<|Af rfl ?_);refine Az 0 [vZ 4,vZ 0,vZ 0,Al t,.slice none 0 0,.slice none 0 0] rfl rfl rfl rfl (No rfl) rfl rfl ?_;(apply Aa);exact⟨rfl,⟨rfl,rfl,trivial⟩,0,0,t,none,0,0,none,0,0,rfl,by simp[Cf,V.kind,V.m,V.e,V.text,V.list,V.keys],.inl (by decide)⟩
  by_cases h_5:k=5
  ·subst h_5;(refine Ac<|Af rfl<|Ah rfl (Aj 1 rfl rfl)<|Aa<|Av<|Ai<|Ac<|Aq rfl rfl<|Ad rfl<|Aa<|Ao rfl (by omega)<|Ac<|Aq rfl rfl<|Ad rfl<|Aa<|Ao rfl (by omega)<|Ay<|Aq rfl rfl<|Ad rfl<|Aa<|Ao rfl (by omega)<|Ac<|Aq rfl rfl<|Ad rfl<|Aa<|Ao rfl (by omega)<|Ac<|Aq rfl rfl<|Ad rfl<|Aa<|Ao rfl (by omega)<|Ac<|Aq rfl rfl<|Ad rfl<|Aa<|Au rfl (by omega)<|Ay<|Af rfl<|Ah rfl (Aj 1 rfl rfl)<|Af rfl ?_);refine Az 0 [vZ 5,vZ 0,vZ 0,Al [],.slice la l.length lc,.slice none 0 0] rfl rfl rfl rfl (No rfl) rfl rfl ?_;(apply Aa);exact⟨rfl,⟨rfl,rfl,trivial⟩,0,0,[],la,l.length,lc,none,0,0,rfl,by simp[Cf,V.kind,V.m,V.e,V.text,V.list,V.keys],.inl (by decide)⟩
  obtain rfl:k=6:=by omega
  (refine Ac<|Af rfl<|Ah rfl (Aj 1 rfl rfl)<|Aa<|Av<|Ai<|Ac<|Aq rfl rfl<|Ad rfl<|Aa<|Ao rfl (by omega)<|Ac<|Aq rfl rfl<|Ad rfl<|Aa<|Ao rfl (by omega)<|Ay<|Aq rfl rfl<|Ad rfl<|Aa<|Ao rfl (by omega)<|Ac<|Aq rfl rfl<|Ad rfl<|Aa<|Ao rfl (by omega)<|Ac<|Aq rfl rfl<|Ad rfl<|Aa<|Ao rfl (by omega)<|Ac<|Aq rfl rfl<|Ad rfl<|Aa<|Ao rfl (by omega)<|Ac<|Aq rfl rfl<|Ad rfl<|Aa<|Au rfl (by omega)<|Ac<|Af rfl<|Ah rfl (Aj 1 rfl rfl)<|Af rfl ?_);refine Az 0 [vZ 6,vZ 0,vZ 0,Al [],.slice la l.length lc,.slice none 0 0] rfl rfl rfl rfl (No rfl) rfl rfl ?_;(refine Aa<|Ac<|Af rfl<|Ah rfl (Aj 1 rfl rfl)<|Af rfl ?_);refine Az 0 [vZ 6,vZ 0,vZ 0,Al [],.slice la l.length lc,.slice ka ks.length kc] rfl rfl rfl rfl (No rfl) rfl rfl ?_;by_cases h7:(ks.length:Int)≠l.length
  ·(refine Aa<|Ac<|Af rfl<|Ah rfl (Aj 1 rfl rfl)<|AA rfl<|Af rfl<|Ah rfl (Aj 1 rfl rfl)<|AA rfl<|AG rfl rfl<|Aa<|Au rfl (by omega)<|Ac<|Ad rfl<|Aa<|Ar ?_);apply Bf;rfl;have h8:ks.length≠l.length:=by omega
   simp[BW,h8]
  ·(refine Aa<|Ac<|Af rfl<|Ah rfl (Aj 1 rfl rfl)<|AA rfl<|Af rfl<|Ah rfl (Aj 1 rfl rfl)<|AA rfl<|AG rfl rfl<|Aa<|Ao rfl (by omega)<|Am ?_);exact⟨rfl,⟨rfl,rfl,trivial⟩,0,0,[],la,l.length,lc,ka,ks.length,kc,rfl,by simp[Cf,V.kind,V.m,V.e,V.text,V.list,V.keys],.inr (by omega)⟩
 rintro ρ d' L' ⟨hdd,hsl',pm,pe,pt,pla,pln,plc,pka,pkn,pkc,hL,hbare,h6⟩;subst hdd;subst hL;refine Bo _ hsl' ?_;clear hsl';have hrf:rising ks=false→false=BW (.mk k m e t l ks):=fun h=>by simp[BW,h]
 (refine Ai<|Ac<|Ab rfl<|Aa<|Av ?_);refine CD (α:=Nat) (fun i=>[(1,pZ b1),(3,pZ b3),(4,vZ i)])
  (fun _=>[bx b3 T3 [vZ k,vZ pm,vZ pe,Al pt,.slice pla pln plc,.slice pka pkn pkc],bx b1 T1 [vZ k,vZ m,vZ e,Al t,.slice la l.length lc,.slice ka ks.length kc]])
  (fun i=>i≤ks.length∧D5 ks i=true) (fun i=>ks.length - i) 0 ⟨rfl,rfl,rfl,trivial⟩ rfl ⟨ZN _,rfl⟩ ?_
 rintro i ρ ⟨hi,hr⟩;by_cases hc:i<ks.length
 ·(refine Ai<|Ac<|Ab rfl<|Af rfl<|Ah rfl (Aj 1 rfl rfl)<|AA rfl<|Ax rfl rfl<|Aa<|Au rfl (by omega)<|Am<|Ai<|Av<|Ai<|AT<|Af rfl<|Ah rfl (Aj 1 rfl rfl)<|Ab rfl<|AJ (sz:=1) (R:=A2) (by rfl) (by assumption) (by rfl) rfl (by omega) ?_;rintro _ _ _ _ _ ⟨rfl,_⟩;apply Ah;rfl;exact A1 (by assumption) rfl);refine AF rfl (h1 ht (hsl i hc)) ?_;cases hu:u8 ks[i] with
  |false=>
   (refine Bi rfl<|Ad rfl<|Ak rfl<|Ak rfl<|Ak rfl<|AY rfl<|AY rfl<|AY rfl<|AY rfl<|AY rfl<|AY rfl<|AY rfl<|AY rfl<|AY rfl<|AY rfl<|AY rfl<|AY rfl<|Ak rfl<|Ap rfl rfl<|AW<|Bb rfl<|Ac<|Ad rfl<|Aa<|Ar ?_)
   apply Bf;rfl
   exact hrf (FA (Sc hc hu) hc)
  |true=>
   by_cases hi0:i=0
   ·subst hi0
    (refine Bi rfl<|Ad rfl<|Ae rfl<|Ab rfl<|Ae rfl<|AP rfl rfl<|Ae rfl<|Ad rfl<|AB rfl (by omega)<|Ak rfl<|Ak rfl<|Ak rfl<|Ak rfl<|Ak rfl<|Ak rfl<|Ak rfl<|Ak rfl<|Ak rfl<|Ak rfl<|Ak rfl<|Ak rfl<|Ae rfl<|An rfl rfl<|An rfl rfl<|AW<|AK rfl<|Am<|Ay<|Ab rfl<|AI rfl rfl (by omega) (by omega)<|Ab rfl<|Aa ?_)
    exact⟨1,by omega,⟨rfl,rfl,rfl,trivial⟩,rfl,rfl,by omega,by rw[D5,Sk hc,hu];rfl⟩
   ·obtain⟨j,rfl⟩:∃j,i=j+1:=⟨i - 1,by omega⟩
    (refine Bi rfl<|Ad rfl<|Ae rfl<|Ab rfl<|Ae rfl<|AP rfl rfl<|Ae rfl<|Ad rfl<|AE rfl (by omega)<|Ae rfl<|Af rfl<|Ae rfl<|Ah rfl (Aj 1 rfl rfl)<|Ae rfl<|Ab rfl<|Ae rfl<|Bn rfl rfl (by omega) (by omega)<|Ae rfl ?_)
    refine AJ (sz:=1) (R:=A2) (m:=j) (by rfl) hks' (by rfl) (by omega) (by omega) ?_;rintro _ _ _ _ _ ⟨rfl,_⟩
    cases hb:Op.bytesLess ks[j] ks[j+1] with
    |false=>
     have hb':(!Op.bytesLess ks[j] ks[j+1])=true:=by rw[hb];rfl
     (refine Ae rfl<|Ah rfl (A1 (by assumption) rfl)<|Ae rfl<|Af rfl<|Ae rfl<|Ah rfl (Aj 1 rfl rfl)<|Ae rfl<|Ab rfl<|Ae rfl<|AJ (sz:=1) (R:=A2) (by rfl) (by assumption) (by rfl) rfl (by omega) ?_;rintro _ _ _ _ _ ⟨rfl,_⟩;refine Ae rfl<|Ah rfl (A1 (by assumption) rfl)<|Ae rfl<|PM rfl rfl<|Ae rfl<|Ap rfl rfl<|An rfl rfl<|AW ?_;apply E9;rfl;(with_reducible assumption);refine Ac<|Ad rfl<|Aa<|Ar ?_)
     apply Bf;rfl
     exact hrf (FA (by rw[IV hc,hb,Bool.and_false]) hc)
    |true=>
     have hb':(!Op.bytesLess ks[j] ks[j+1])=false:=by rw[hb];rfl
     (refine Ae rfl<|Ah rfl (A1 (by assumption) rfl)<|Ae rfl<|Af rfl<|Ae rfl<|Ah rfl (Aj 1 rfl rfl)<|Ae rfl<|Ab rfl<|Ae rfl<|AJ (sz:=1) (R:=A2) (by rfl) (by assumption) (by rfl) rfl (by omega) ?_;rintro _ _ _ _ _ ⟨rfl,_⟩;refine Ae rfl<|Ah rfl (A1 (by assumption) rfl)<|Ae rfl<|PM rfl rfl<|Ae rfl<|Ap rfl rfl<|An rfl rfl<|AW ?_;apply CU;rfl;(with_reducible assumption);refine Am<|Ay<|Ab rfl<|AI rfl rfl (by omega) (by omega)<|Ab rfl<|Aa ?_)
     exact⟨j+2,by omega,⟨rfl,rfl,int_eq (by omega),trivial⟩,rfl,rfl,by omega,by rw[D5,hr,IV hc,hu,hb];rfl⟩
 obtain rfl:i=ks.length:=by omega
 have hr':rising ks=true:=hr;have h6':(!decide (k=6)||decide (ks.length=l.length))=true:=by simpa using h6
 cases hA:(false ^^(decide (pm=m)&& decide (pe=e))) with
 |false=>
  (refine Ai<|Ac<|Ab rfl<|Af rfl<|Ah rfl (Aj 1 rfl rfl)<|AA rfl<|Ax rfl rfl<|Aa<|Ao rfl (by omega)<|AV<|Ac<|Af rfl<|BJ 0 rfl rfl rfl<|Af rfl<|BJ 1 rfl rfl rfl<|Cx rfl rfl<|Ad rfl ?_;apply Lj;rfl;(with_reducible assumption);refine Ak rfl<|Ak rfl<|Ak rfl<|Ak rfl<|Ak rfl<|An rfl rfl<|Ad rfl<|Ak rfl<|Ak rfl<|Ak rfl<|Ak rfl<|Ak rfl<|Ak rfl<|Ak rfl<|An rfl rfl<|Ad rfl<|Ak rfl<|Ak rfl<|Ak rfl<|Ak rfl<|Ak rfl<|Ak rfl<|Ak rfl<|An rfl rfl<|Ad rfl<|Ak rfl<|Ak rfl<|Ak rfl<|An rfl rfl<|Ad rfl<|Ak rfl<|Ak rfl<|Ak rfl<|An rfl rfl<|Ad rfl<|Aa<|Ar ?_)
  apply Bf;rfl
  have:¬(m=pm∧e=pe):=fun⟨h,h'⟩=>by rw[h,h'] at hA;simp at hA
  simp[BW,hbare,this]
 |true=>
 have hA':m=pm∧e=pe:=by simp at hA;exact⟨hA.1.symm,hA.2.symm⟩
 by_cases hB:pt=t
 ·by_cases hC:(pln:Int)=l.length
  ·by_cases hD:(pkn:Int)=ks.length
   ·(refine Ai<|Ac<|Ab rfl<|Af rfl<|Ah rfl (Aj 1 rfl rfl)<|AA rfl<|Ax rfl rfl<|Aa<|Ao rfl (by omega)<|AV<|Ac<|Af rfl<|BJ 0 rfl rfl rfl<|Af rfl<|BJ 1 rfl rfl rfl<|Cx rfl rfl<|Ad rfl ?_;apply Jc;rfl;(with_reducible assumption);refine Ae rfl<|Af rfl<|Ae rfl<|Ah rfl (Aj 0 rfl rfl)<|Ae rfl<|Af rfl<|Ae rfl<|Ah rfl (Aj 1 rfl rfl)<|Ae rfl<|Ek rfl rfl<|Ap rfl rfl<|Ad rfl<|AE rfl (by omega)<|Ae rfl<|Af rfl<|Ae rfl<|Ah rfl (Aj 0 rfl rfl)<|Ae rfl<|AA rfl<|Ae rfl<|Af rfl<|Ae rfl<|Ah rfl (Aj 1 rfl rfl)<|Ae rfl<|AA rfl<|Ae rfl<|Aq rfl rfl<|Ap rfl rfl<|Ad rfl<|AE rfl (by omega)<|Ae rfl<|Af rfl<|Ae rfl<|Ah rfl (Aj 0 rfl rfl)<|Ae rfl<|AA rfl<|Ae rfl<|Af rfl<|Ae rfl<|Ah rfl (Aj 1 rfl rfl)<|Ae rfl<|AA rfl<|Ae rfl<|Aq rfl rfl<|Ap rfl rfl<|Ad rfl<|AE rfl (by omega)<|Ae rfl<|Af rfl<|Ae rfl<|BJ 1 rfl rfl rfl<|Ae rfl ?_);refine AF rfl (h2 ht im ie) ?_;have hbt:Cf (.mk k m e t l ks)=true:=by rw[hbare];simp[hA',hB,show l.length=pln by omega,show ks.length=pkn by omega]
    cases hN:Br m e with
    |false=>
     (refine Ap rfl rfl<|Ad rfl<|Ak rfl<|Ak rfl<|Ak rfl<|An rfl rfl<|Ad rfl<|Aa<|Ar ?_)
     apply Bf;rfl
     simp[BW,hN]
    |true=>
     (refine Ap rfl rfl<|Ad rfl<|Ae rfl<|Af rfl<|Ae rfl<|Ah rfl (Aj 1 rfl rfl)<|Ae rfl ?_)
     refine AF rfl (h1 ht it) ?_
     cases hu:u8 t with
     |false=>
      (refine Ap rfl rfl<|Ad rfl<|Aa<|Ar ?_)
      apply Bf;rfl
      simp[BW,hu]
     |true=>
      (refine Ap rfl rfl<|Ad rfl<|Aa<|Ar ?_)
      apply Bf;rfl
      simp only[BW,V.kind,V.m,V.e,V.text,V.list,V.keys,hbt,hN,hu,hr',Bool.and_true,Adb]
      simpa using h6'
   ·(refine Ai<|Ac<|Ab rfl<|Af rfl<|Ah rfl (Aj 1 rfl rfl)<|AA rfl<|Ax rfl rfl<|Aa<|Ao rfl (by omega)<|AV<|Ac<|Af rfl<|BJ 0 rfl rfl rfl<|Af rfl<|BJ 1 rfl rfl rfl<|Cx rfl rfl<|Ad rfl ?_;apply Jc;rfl;(with_reducible assumption);refine Ae rfl<|Af rfl<|Ae rfl<|Ah rfl (Aj 0 rfl rfl)<|Ae rfl<|Af rfl<|Ae rfl<|Ah rfl (Aj 1 rfl rfl)<|Ae rfl<|Ek rfl rfl<|Ap rfl rfl<|Ad rfl<|AE rfl (by omega)<|Ae rfl<|Af rfl<|Ae rfl<|Ah rfl (Aj 0 rfl rfl)<|Ae rfl<|AA rfl<|Ae rfl<|Af rfl<|Ae rfl<|Ah rfl (Aj 1 rfl rfl)<|Ae rfl<|AA rfl<|Ae rfl<|Aq rfl rfl<|Ap rfl rfl<|Ad rfl<|AE rfl (by omega)<|Ae rfl<|Af rfl<|Ae rfl<|Ah rfl (Aj 0 rfl rfl)<|Ae rfl<|AA rfl<|Ae rfl<|Af rfl<|Ae rfl<|Ah rfl (Aj 1 rfl rfl)<|Ae rfl<|AA rfl<|Ae rfl<|Aq rfl rfl<|Ap rfl rfl<|Ad rfl<|AB rfl (by omega)<|Ak rfl<|Ak rfl<|Ak rfl<|An rfl rfl<|Ad rfl<|Ak rfl<|Ak rfl<|Ak rfl<|An rfl rfl<|Ad rfl<|Aa<|Ar ?_);apply Bf;rfl;have:¬ks.length=pkn:=by omega
    simp[BW,hbare,this]
  ·(refine Ai<|Ac<|Ab rfl<|Af rfl<|Ah rfl (Aj 1 rfl rfl)<|AA rfl<|Ax rfl rfl<|Aa<|Ao rfl (by omega)<|AV<|Ac<|Af rfl<|BJ 0 rfl rfl rfl<|Af rfl<|BJ 1 rfl rfl rfl<|Cx rfl rfl<|Ad rfl ?_;apply Jc;rfl;(with_reducible assumption);refine Ae rfl<|Af rfl<|Ae rfl<|Ah rfl (Aj 0 rfl rfl)<|Ae rfl<|Af rfl<|Ae rfl<|Ah rfl (Aj 1 rfl rfl)<|Ae rfl<|Ek rfl rfl<|Ap rfl rfl<|Ad rfl<|AE rfl (by omega)<|Ae rfl<|Af rfl<|Ae rfl<|Ah rfl (Aj 0 rfl rfl)<|Ae rfl<|AA rfl<|Ae rfl<|Af rfl<|Ae rfl<|Ah rfl (Aj 1 rfl rfl)<|Ae rfl<|AA rfl<|Ae rfl<|Aq rfl rfl<|Ap rfl rfl<|Ad rfl<|AB rfl (by omega)<|Ak rfl<|Ak rfl<|Ak rfl<|Ak rfl<|Ak rfl<|Ak rfl<|Ak rfl<|An rfl rfl<|Ad rfl<|Ak rfl<|Ak rfl<|Ak rfl<|An rfl rfl<|Ad rfl<|Ak rfl<|Ak rfl<|Ak rfl<|An rfl rfl<|Ad rfl<|Aa<|Ar ?_);apply Bf;rfl;have:¬l.length=pln:=by omega
   simp[BW,hbare,this]
 ·(refine Ai<|Ac<|Ab rfl<|Af rfl<|Ah rfl (Aj 1 rfl rfl)<|AA rfl<|Ax rfl rfl<|Aa<|Ao rfl (by omega)<|AV<|Ac<|Af rfl<|BJ 0 rfl rfl rfl<|Af rfl<|BJ 1 rfl rfl rfl<|Cx rfl rfl<|Ad rfl ?_;apply Jc;rfl;(with_reducible assumption);refine Ae rfl<|Af rfl<|Ae rfl<|Ah rfl (Aj 0 rfl rfl)<|Ae rfl<|Af rfl<|Ae rfl<|Ah rfl (Aj 1 rfl rfl)<|Ae rfl<|Ek rfl rfl<|Ap rfl rfl<|Ad rfl<|AB rfl (by omega)<|Ak rfl<|Ak rfl<|Ak rfl<|Ak rfl<|Ak rfl<|Ak rfl<|Ak rfl<|An rfl rfl<|Ad rfl<|Ak rfl<|Ak rfl<|Ak rfl<|Ak rfl<|Ak rfl<|Ak rfl<|Ak rfl<|An rfl rfl<|Ad rfl<|Ak rfl<|Ak rfl<|Ak rfl<|An rfl rfl<|Ad rfl<|Ak rfl<|Ak rfl<|Ak rfl<|An rfl rfl<|Ad rfl<|Aa<|Ar ?_);apply Bf;rfl;have:¬t=pt:=fun h=>hB h.symm;simp[BW,hbare,this]
end Go.Gk.Val
end
section
namespace Go.Gk
open Go
variable{a:Int}
section
section
variable {P:Program}{pan:List PanicEntry→A0}{Qn:Env→A0}{Ls L:List Ag}{ρ:Env}{d:Ag}{s:GS}{t:Nat}{tk:Bool}
def Bl(h:gws P pan Qn s Ls (upd ρ t (.agg [vZ 0,vZ 0,vZ 0,Al [],.slice none 0 0,.slice none 0 0].toArray)) d L):
  gws P pan Qn (.op tk ⟨some t,none,.bld [(0,1),(1,2),(3,1),(4,1),(5,1)] [vZ 0,vZ 0,vZ 0,Al [],.slice none 0 0,.slice none 0 0] []⟩ s) Ls ρ d L:=
 BN (cs:=[vZ 0,vZ 0,vZ 0,Al [],.slice none 0 0,.slice none 0 0]) rfl h
def NJ{x k}(ex:ev ρ x=.int k a)(h:gws P pan Qn s Ls (upd ρ t (.agg [.int k a,vZ 0,vZ 0,Al [],.slice none 0 0,.slice none 0 0].toArray)) d L):
  gws P pan Qn (.op tk ⟨some t,none,.bld [(0,1),(1,2),(3,1),(4,1),(5,1)] [vZ 0,vZ 0,vZ 0,Al [],.slice none 0 0,.slice none 0 0] [(0,x)]⟩ s) Ls ρ d L:=
 BN (cs:=[.int k a,vZ 0,vZ 0,Al [],.slice none 0 0,.slice none 0 0]) (by simp[Instr.fill,ex,Value.cells,Al]) h
def DR{x y k b}{n c:Nat}(ex:ev ρ x=.int k a)(ey:ev ρ y=.slice b n c)(h:gws P pan Qn s Ls (upd ρ t (.agg [.int k a,vZ 0,vZ 0,Al [],.slice b n c,.slice none 0 0].toArray)) d L):
  gws P pan Qn (.op tk ⟨some t,none,.bld [(0,1),(1,2),(3,1),(4,1),(5,1)] [vZ 0,vZ 0,vZ 0,Al [],.slice none 0 0,.slice none 0 0] [(0,x),(3,y)]⟩ s) Ls ρ d L:=
 BN (cs:=[.int k a,vZ 0,vZ 0,Al [],.slice b n c,.slice none 0 0]) (by simp[Instr.fill,ex,ey,Value.cells,Al]) h
def Zd{y b}{n c:Nat}(ey:ev ρ y=.slice b n c)(h:gws P pan Qn s Ls (upd ρ t (.agg [vZ 0,vZ 0,vZ 0,Al [],.slice b n c,.slice none 0 0].toArray)) d L):
  gws P pan Qn (.op tk ⟨some t,none,.bld [(0,1),(1,2),(3,1),(4,1),(5,1)] [vZ 0,vZ 0,vZ 0,Al [],.slice none 0 0,.slice none 0 0] [(3,y)]⟩ s) Ls ρ d L:=
 BN (cs:=[vZ 0,vZ 0,vZ 0,Al [],.slice b n c,.slice none 0 0]) (by simp[Instr.fill,ey,Value.cells,Al]) h
def QM{x y k l}(ex:ev ρ x=.int k a)(ey:ev ρ y=Al l)(h:gws P pan Qn s Ls (upd ρ t (.agg [.int k a,vZ 0,vZ 0,Al l,.slice none 0 0,.slice none 0 0].toArray)) d L):
  gws P pan Qn (.op tk ⟨some t,none,.bld [(0,1),(1,2),(3,1),(4,1),(5,1)] [vZ 0,vZ 0,vZ 0,Al [],.slice none 0 0,.slice none 0 0] [(0,x),(2,y)]⟩ s) Ls ρ d L:=
 BN (cs:=[.int k a,vZ 0,vZ 0,Al l,.slice none 0 0,.slice none 0 0]) (by simp[Instr.fill,ex,ey,Value.cells,Al]) h
def Gh{x y z k b b'}{n c n' c':Nat}(ex:ev ρ x=.int k a)(ey:ev ρ y=.slice b' n' c')(ez:ev ρ z=.slice b n c)
  (h:gws P pan Qn s Ls (upd ρ t (.agg [.int k a,vZ 0,vZ 0,Al [],.slice b n c,.slice b' n' c'].toArray)) d L):
  gws P pan Qn (.op tk ⟨some t,none,.bld [(0,1),(1,2),(3,1),(4,1),(5,1)] [vZ 0,vZ 0,vZ 0,Al [],.slice none 0 0,.slice none 0 0] [(0,x),(4,y),(3,z)]⟩ s) Ls ρ d L:=
 BN (cs:=[.int k a,vZ 0,vZ 0,Al [],.slice b n c,.slice b' n' c']) (by simp[Instr.fill,ex,ey,ez,Value.cells,Al]) h
def Nk{x y z u k k1 k2}{m e:Int}{l b}{n c:Nat}(ex:ev ρ x=.int k a)(ey:ev ρ y=.agg [.int k1 m,.int k2 e].toArray)(ez:ev ρ z=Al l)(eu:ev ρ u=.slice b n c)
  (h:gws P pan Qn s Ls (upd ρ t (.agg [.int k a,.int k1 m,.int k2 e,Al l,.slice none 0 0,.slice b n c].toArray)) d L):
  gws P pan Qn (.op tk ⟨some t,none,.bld [(0,1),(1,2),(3,1),(4,1),(5,1)] [vZ 0,vZ 0,vZ 0,Al [],.slice none 0 0,.slice none 0 0] [(0,x),(1,y),(2,z),(4,u)]⟩ s) Ls ρ d L:=
 BN (cs:=[.int k a,.int k1 m,.int k2 e,Al l,.slice none 0 0,.slice b n c]) (by simp[Instr.fill,ex,ey,ez,eu,Value.cells,Al]) h
end
end
end Go.Gk
end
section
namespace Go.Gk.Val
open Go Go.Gk
attribute [local irreducible] gwp gws
variable{x v:V}
section
mutual
def Cc:V→Nat
 |.mk _ _ _ _ l ks=>1+ks.length+Co l
def Co:List V→Nat
 |[]=>0
 |x::l=>Cc x+Co l
end
def CZ(v:V):Cc v=1+v.keys.length+Co v.list:=by obtain⟨k,m,e,t,l,ks⟩:=v;rfl
def QO:∀{l:List V},x∈l→Cc x≤Co l
 |y::l,h=>by
  rcases ZR.1 h with rfl|h
  ·simp only[Co];omega
  ·have:=QO h;simp only[Co];omega
def QF:∀l:List V,l.length≤Co l
 |[]=>ZL _
 |x::l=>by
  have h1:=CZ x;have h2:=QF l;simp only[Co,ZU];omega
def KB:∀l:List (List UInt8),l.length≤Ft l
 |[]=>ZL _
 |x::l=>by
  have:=KB l;simp only[Ft,ZU];omega
def Pb:∀{l:List V},(∀x∈l,Cc x≤Dd x)→Co l≤EC l
 |[],_=>ZL _
 |x::l,h=>by
  have h1:=h x (ZG ..);have h2:=Pb (l:=l) (fun y hy=>h y (ZE _ hy));simp only[Co,EC];omega
def Wg(v:V):Cc v≤Dd v:=by
 induction v using V.ind with
 |h v ih=>
  have h1:=JD v
  have h2:=CZ v
  have h3:=KB v.keys
  have h4:=Pb ih
  omega
def Ex:v.list.length≤Cc v:=by
 have h1:=CZ v;have h2:=QF v.list;omega
def Gm:v.keys.length≤Cc v:=by
 have h1:=CZ v;omega
def Sl(h:x∈v.list):Cc x≤Cc v:=by
 have h1:=CZ v;have h2:=QO h;omega
mutual
def Bq:V→Nat
 |.mk _ _ _ t l ks=>1+t.length+ks.length+BV l
def BV:List V→Nat
 |[]=>0
 |x::l=>Bq x+BV l
end
def B0(v:V):Bq v=1+v.text.length+v.keys.length+BV v.list:=by obtain⟨k,m,e,t,l,ks⟩:=v;rfl
def HW:∀{l:List V},x∈l→Bq x≤BV l
 |y::l,h=>by
  rcases ZR.1 h with rfl|h
  ·simp only[BV];omega
  ·have:=HW h;simp only[BV];omega
def Qm:∀{l:List V},(∀x∈l,Cc x≤Bq x)→Co l≤BV l
 |[],_=>ZL _
 |x::l,h=>by
  have h1:=h x (ZG ..);have h2:=Qm (l:=l) (fun y hy=>h y (ZE _ hy));simp only[Co,BV];omega
def Ec(v:V):Cc v≤Bq v:=by
 induction v using V.ind with
 |h v ih=>
  have h1:=B0 v
  have h2:=CZ v
  have h4:=Qm ih
  omega
def OJ:∀{l:List V},(∀x∈l,Bq x≤Dd x)→BV l≤EC l
 |[],_=>ZL _
 |x::l,h=>by
  have h1:=h x (ZG ..);have h2:=OJ (l:=l) (fun y hy=>h y (ZE _ hy));simp only[BV,EC];omega
def Mo(v:V):Bq v≤Dd v:=by
 induction v using V.ind with
 |h v ih=>
  have h1:=B0 v
  have h2:=JD v
  have h3:=KB v.keys
  have h4:=OJ ih
  omega
def FX(v:V):Bc v≤Bq v:=by
 induction v using V.ind with
 |h v ih=>
  have h1:=B0 v
  obtain⟨n,hn⟩:∃n,Bq v=n+1:=⟨Bq v - 1,by omega⟩
  rw[hn,DQ]
  intro x hx
  have:=HW hx
  have:=ih x hx
  omega
section
variable {P:Program}{pan:List PanicEntry→A0}{Qn:Env→A0}{Ls L:List Ag}{ρ:Env}{d:Ag}{s:GS}{t:Nat}{tk:Bool}
def z6:List Value:=[vZ 0,vZ 0,vZ 0,Al [],.slice none 0 0,.slice none 0 0]
def six{cs:List Value}(h:cs.length=6):∃a0 a1 a2 a3 a4 a5,cs=[a0,a1,a2,a3,a4,a5]:=by
 match cs,h with
 |[a,b,c,d,e,f],_=>exact⟨a,b,c,d,e,f,rfl⟩
def D4{x:Operand}{cs:List Value}(ex:ev ρ x=.agg cs.toArray)(hc:cs.length=6)(h:∀b T,gws P pan Qn s Ls (upd ρ t (.slice (some ⟨b,0,none⟩) 1 1)) d (bx b T cs::L)):
  gws P pan Qn (.op false ⟨some t,none,.bsl 1 6 [vZ 0,vZ 0,vZ 0,Al [],.slice none 0 0,.slice none 0 0] [(0,x)]⟩ s) Ls ρ d L:=by
 obtain⟨a0,a1,a2,a3,a4,a5,rfl⟩:=six hc
 refine DI (by omega) ?_ h
 simp[Instr.fill,BC,Z8,List.range.loop,ex,Value.cells]
end
def Oy(P:Program)(f:FuncId):Prop:=∀(v:V) {d cs},Aw d cs v→Cc v≤1000000000→A8 P f [.agg cs.toArray] d [] (Ret fun r d' L'=>L'=[]∧∃cs',r=.agg cs'.toArray∧Aw d' cs' v)
def Kb(a0:Nat):A6:=⟨35,[(.cell 2 (some 6))],(sR (o1 1 (.box 0)<|o1 2 (.alo (.agg #[(vZ 0),(vZ 0),(vZ 0),(Al []),(.slice none 0 0),(.slice none 0 0)])) .done) (.seq (.reg true (p1 5 (.fld 0 1)<|pl 6 5<|p1 7 (.fld 1 1)<|p1 8 (.ld (some 2) 7)<|p1 9 (.fld 3 1)<|pl 10 9<|p1 12 (.fld 5 1)<|pl 13 12 (.alt ⟨(some 11),none,(.bsl 0 1 [(Al [])] [])⟩ (.alt ⟨(some 14),none,(.app 1 16 [(Al [])] 11 13)⟩ (p1 15 (.bld [(0,1),(1,2),(3,1),(4,1),(5,1)] [(vZ 0),(vZ 0),(vZ 0),(Al []),(.slice none 0 0),(.slice none 0 0)] [(0,6),(1,8),(2,10),(4,14)]) (o1 3 (.alo (.agg #[(vZ 0),(vZ 0),(vZ 0),(Al []),(.slice none 0 0),(.slice none 0 0)])) (.bar (o0 (.st 6 3 15) .done)))) (o1 3 (.alo (.agg #[(vZ 0),(vZ 0),(vZ 0),(Al []),(.slice none 0 0),(.slice none 0 0)])) (o1 14 (.app 1 16 [(Al [])] 11 13) (p1 15 (.bld [(0,1),(1,2),(3,1),(4,1),(5,1)] [(vZ 0),(vZ 0),(vZ 0),(Al []),(.slice none 0 0),(.slice none 0 0)] [(0,6),(1,8),(2,10),(4,14)]) (.bar (o0 (.st 6 3 15) .done)))))) (o1 3 (.alo (.agg #[(vZ 0),(vZ 0),(vZ 0),(Al []),(.slice none 0 0),(.slice none 0 0)])) (o1 11 (.bsl 0 1 [(Al [])] []) (o1 14 (.app 1 16 [(Al [])] 11 13) (p1 15 (.bld [(0,1),(1,2),(3,1),(4,1),(5,1)] [(vZ 0),(vZ 0),(vZ 0),(Al []),(.slice none 0 0),(.slice none 0 0)] [(0,6),(1,8),(2,10),(4,14)]) (.bar (o0 (.st 6 3 15) .done))))))))) (.seq (sR (o1 4 (.mv z0) .done) (.block 0 (.loop (.seq (sR (om 16 4<|oj 17 4 1<|ol 18 17<|oL 19 18<|ob 20 .lss 16 19 .done) (.cond 20 .skip (.exit 0))) (.seq (.block 1 (.reg true (p1 23 (.fld 4 3)<|pl 24 23<|p1 25 (.fld 4 1)<|pl 26 25<|pm 27 4<|p1 28 (.idx 6 26 27)<|p1 29 (.ld (some 6) 28)<|oc 30 a0 [29]<|o1 31 (.bsl 1 6 [(vZ 0),(vZ 0),(vZ 0),(Al []),(.slice none 0 0),(.slice none 0 0)] [(0,30)])<|o1 32 (.app 6 88 [(vZ 0),(vZ 0),(vZ 0),(Al []),(.slice none 0 0),(.slice none 0 0)] 24 31)<|p1 33 (.fld 4 3) (.bar (o0 (.st 1 33 32) .done))))) (rG (om 21 4<|ob 22 .add 21 z1<|om 4 22 .done))))))) (sR (o1 34 (.ld (some 6) 3)<|o0 (.st 6 2 34) .done) .ret))))⟩
set_option maxHeartbeats 1000000 in
def WN{P f}(hd:dec P f=some (Kb f)):Oy P f:=by
 intro v;induction v using V.ind with
 |h v ih=>
 intro d cs hv hb;refine Bd hd (No rfl) ?_;have hb1:=Ex (v:=v);have hb2:=Gm (v:=v);obtain⟨lv,kv,rfl,ik,im,ie,it,hl,hks⟩:=hv.open;obtain⟨la,lc,rfl⟩:=RSl.val hl;obtain⟨ka,kc,rfl⟩:=RSl.val hks;show gwp P _ _ _ _ _;apply Ai;apply Ay;refine AO (l:=[vZ v.kind,vZ v.m,vZ v.e,Al v.text,.slice la v.list.length lc,.slice ka v.keys.length kc]) rfl (fun b1 T1=>?_);refine BF (fun d1 hl1 hg1=>?_);have hc1:DCs d1 b1 0 [vZ v.kind,vZ v.m,vZ v.e,Al v.text,.slice la v.list.length lc,.slice ka v.keys.length kc]:=HF hg1;have hl':RSl 6 Aw d1 (.slice la v.list.length lc) v.list:=BL.mono hl hl1;have hks':RSl 1 A2 d1 (.slice ka v.keys.length kc) v.keys:=BK.mono hks hl1;(refine AX (fun _ _=>Aa ?_));rename_i b2 T2;refine Ct (fun ρ d' L'=>Le d1 d'∧∃b3 T3 kv,A9 ρ [(1,pZ b1),(2,pZ b2),(3,pZ b3)]∧BK d' kv v.keys∧
  L'=[bx b2 T2 [vZ 0,vZ 0,vZ 0,Al [],.slice none 0 0,.slice none 0 0],bx b3 T3 [vZ v.kind,vZ v.m,vZ v.e,Al v.text,.slice none 0 0,kv]]) ?_ ?_
 ·refine AT ?_;(refine Af rfl<|Ah rfl (Ci (by assumption) rfl)<|Af rfl<|U8 rfl (by assumption) rfl<|Af rfl<|Ah rfl (Ci (by assumption) rfl)<|Af rfl<|Ah rfl (Ci (by assumption) rfl) ?_);refine Dx ?_ ?_
  ·refine DI (cs:=[]) (by omega) rfl (fun b11 T11=>?_);refine Dx ?_ ?_
   ·refine CO (R:=A2) 0 rfl rfl (AN.Iw (R:=A2) (sz:=1)) rfl (RSl.src (R:=A2) (xs:=v.keys) hks' CQ (by omega) _) (by omega) (by simp;omega) (by simp;omega) (fun v14 h14 o14=>?_);have o14:AN 1 A2 d1 v14 v.keys h14:=o14;obtain⟨ka',kc',rfl⟩:=o14.val;(refine Nk rfl rfl rfl rfl<|AX (fun _ _=>Bt ?_));rename_i b3 T3;refine Az 1 [vZ v.kind,vZ v.m,vZ v.e,Al v.text,.slice none 0 0,.slice ka' v.keys.length kc'] rfl rfl rfl rfl (No rfl) rfl rfl ?_;exact FV ⟨_,_,(Vs.pick [2,0,1] rfl).trans Vs.freeze,Le.BD _ _,b3,T3,_,⟨rfl,rfl,rfl,trivial⟩,o14.rsl Dl (by omega) (Le.BD _ _) (Le.BZ _ _),rfl⟩
   ·(apply AX;intro _ _);rename_i b3 T3;refine CO (R:=A2) 1 rfl rfl (AN.Iw (R:=A2) (sz:=1)) rfl (RSl.src (R:=A2) (xs:=v.keys) hks' CQ (by omega) _) (by omega) (by simp;omega) (by simp;omega) (fun v14 h14 o14=>?_);have o14:AN 1 A2 d1 v14 v.keys h14:=o14;obtain⟨ka',kc',rfl⟩:=o14.val;(refine Nk rfl rfl rfl rfl<|Bt ?_);refine Az 1 [vZ v.kind,vZ v.m,vZ v.e,Al v.text,.slice none 0 0,.slice ka' v.keys.length kc'] rfl rfl rfl rfl (No rfl) rfl rfl ?_;exact FV ⟨_,_,(Vs.pick [2,0,1] rfl).trans Vs.freeze,Le.BD _ _,b3,T3,_,⟨rfl,rfl,rfl,trivial⟩,o14.rsl Dl (by omega) (Le.BD _ _) (Le.BZ _ _),rfl⟩
  ·(apply AX;intro _ _);rename_i b3 T3;refine DI (cs:=[]) (by omega) rfl (fun b11 T11=>?_);refine CO (R:=A2) 0 rfl rfl (AN.Iw (R:=A2) (sz:=1)) rfl (RSl.src (R:=A2) (xs:=v.keys) hks' CQ (by omega) _) (by omega) (by simp;omega) (by simp;omega) (fun v14 h14 o14=>?_);have o14:AN 1 A2 d1 v14 v.keys h14:=o14;obtain⟨ka',kc',rfl⟩:=o14.val;(refine Nk rfl rfl rfl rfl<|Bt ?_);refine Az 2 [vZ v.kind,vZ v.m,vZ v.e,Al v.text,.slice none 0 0,.slice ka' v.keys.length kc'] rfl rfl rfl rfl (No rfl) rfl rfl ?_;exact FV ⟨_,_,(Vs.pick [1,0,2] rfl).trans Vs.freeze,Le.BD _ _,b3,T3,_,⟨rfl,rfl,rfl,trivial⟩,o14.rsl Dl (by omega) (Le.BD _ _) (Le.BZ _ _),rfl⟩
 rintro ρ d2 L' ⟨hl2,b3,T3,kv,hsl,hkv,hL⟩;subst hL;obtain⟨ka',kc',rfl⟩:=RSl.val hkv;refine Bo _ hsl ?_;clear hsl;apply Ai;apply Ai;apply Ay;refine B9 d2 [bx b2 T2 [vZ 0,vZ 0,vZ 0,Al [],.slice none 0 0,.slice none 0 0],bx b3 T3 [vZ v.kind,vZ v.m,vZ v.e,Al v.text,.slice none 0 0,.slice ka' v.keys.length kc'],emp] (Vs.emp.trans (Vs.pick [1,2,0] rfl)) ?_;(refine Ab rfl<|Aa<|Av ?_);refine Bg (α:=Nat) (fun i=>[(1,pZ b1),(2,pZ b2),(3,pZ b3),(4,vZ i)])
  (fun i d' L'=>Le d2 d'∧i≤v.list.length∧∃ra rc h,AN 6 Aw d' (.slice ra i rc) (v.list.take i) h∧L'=[bx b2 T2 [vZ 0,vZ 0,vZ 0,Al [],.slice none 0 0,.slice none 0 0],bx b3 T3 [vZ v.kind,vZ v.m,vZ v.e,Al v.text,.slice ra i rc,.slice ka' v.keys.length kc'],h])
  (fun i=>v.list.length - i) 0 ⟨rfl,rfl,rfl,rfl,trivial⟩ ⟨Le.refl _,ZN _,none,0,emp,AN.nil,rfl⟩ ?_
 rintro i ρ d3 L' ⟨hl3,hi,ra,rc,h,hrow,hL⟩;subst hL;have hc3:=hc1.mono (hl2.trans hl3);have hl3':RSl 6 Aw d3 (.slice la v.list.length lc) v.list:=BL.mono hl' (hl2.trans hl3);by_cases hc:i<v.list.length
 ·(refine Ai<|Ac<|Ab rfl<|Af rfl<|Ah rfl (Ci (by assumption) rfl)<|AA rfl<|Ax rfl rfl<|Aa<|Au rfl (by omega)<|Am<|Ai<|Av ?_);refine Dh [bx b2 T2 [vZ 0,vZ 0,vZ 0,Al [],.slice none 0 0,.slice none 0 0],bx b3 T3 [vZ v.kind,vZ v.m,vZ v.e,Al v.text,.slice ra i rc,.slice ka' v.keys.length kc']] [h] rfl ?_;(refine Af rfl<|Ah rfl (Aj 1 rfl rfl)<|Af rfl<|Ah rfl (Ci (by assumption) rfl)<|Ab rfl<|AJ (sz:=6) (R:=Aw) (by rfl) (by assumption) (by rfl) rfl (by omega) ?_;rintro _ _ _ _ _ _;apply BE;rfl;assumption;assumption);rename_i cs hcs hD hR;refine AR rfl (ih _ (ZC hc) hR (by have:=Sl (ZC hc);omega)) (fun r d4 L4 hl4 ⟨hL,cs',hr,hR'⟩=>?_);subst hL;subst hr;refine D4 rfl hR'.len (fun b31 T31=>?_);have hrow4:AN 6 Aw d4 (.slice ra i rc) (v.list.take i) h:=AN.mono (R:=Aw) B8 hrow hl4;have htl:(v.list.take i).length=i:=by simp;omega
  refine DH (R:=Aw) 0 rfl rfl hrow4 rfl (AN.D8 hR'.len hR') AH (by omega) (by simp;omega) (by simp;omega) (fun v5 h5 o5=>?_);rw[←ZA hc] at o5;obtain⟨a5,c5,rfl⟩:=o5.val;have hlt:(v.list.take (i+1)).length=i+1:=by simp;omega
  rw[hlt] at o5⊢;(refine Af rfl<|Bt ?_);refine Az 1 [vZ v.kind,vZ v.m,vZ v.e,Al v.text,.slice a5 (i+1) c5,.slice ka' v.keys.length kc'] rfl rfl rfl rfl (No rfl) rfl rfl ?_;(refine Aa<|Ay<|Ab rfl<|AI rfl rfl (by omega) (by omega)<|Ab rfl<|Aa ?_);exact⟨i+1,by omega,⟨rfl,rfl,rfl,rfl,trivial⟩,hl3.trans hl4,hc,a5,c5,h5,o5,rfl⟩
 ·obtain rfl:i=v.list.length:=by omega
  (refine Ai<|Ac<|Ab rfl<|Af rfl<|Ah rfl (Ci (by assumption) rfl)<|AA rfl<|Ax rfl rfl<|Aa<|Ao rfl (by omega)<|AV<|Ac<|AD 1 rfl rfl rfl ?_);refine Az 0 [vZ v.kind,vZ v.m,vZ v.e,Al v.text,.slice ra v.list.length rc,.slice ka' v.keys.length kc'] rfl rfl rfl rfl (No rfl) rfl rfl ?_;(refine Aa<|Ar ?_);refine Iv [.agg [vZ v.kind,vZ v.m,vZ v.e,Al v.text,.slice ra v.list.length rc,.slice ka' v.keys.length kc'].toArray] ⟨A3 0 rfl rfl rfl,trivial⟩ (fun d' hld hk=>?_);refine⟨rfl,_,rfl,Aw.close ik im ie it ?_ (BK.mono hkv (hl3.trans hld))⟩
  have:=hrow.rsl (R:=Aw) B8 (by omega) hld (hk h (by simp));rwa [ZV] at this
def N7{α}(R:Ag→List Value→α→Prop)(by_:Nat)(P:Program)(f:FuncId):Prop:=∀{d v}{xs:List α},RSl 1 R d v xs→xs.length*by_≤140737488355328→
 A8 P f [v] d [] (Ret fun r d' L'=>d'=d∧∃h,L'=[h]∧AN 1 R d r xs h)
def Gy:A6:=⟨8,[(.tmp 2)],(sR (o1 2 (.mv nS) .done) (.seq (sR (om 3 0<|o1 4 (.eqs false 3 nS) .done) (.cond 4 (sR (o1 2 (.mv nS) .done) .ret) .skip)) (sR (o1 5 (.bsl 0 1 [(Al [])] [])<|om 6 0<|o1 7 (.app 1 16 [(Al [])] 5 6)<|om 2 7 .done) .ret)))⟩
def Ue{P f}(hd:dec P f=some Gy):N7 A2 16 P f:=by
 intro d v xs hv hb;have hv':=hv;have hxl:=RSl.Be hv;obtain⟨a,c,b,o,rfl,h2,h3,h4,h5,_⟩:=hv;refine Bd hd (No rfl) ?_;show gwp P _ _ _ _ _;cases a with
 |none=>
  have:xs=[]:=ZD (by have:=h4 rfl;omega)
  subst this
  apply Ai;apply Ay
  refine B9 d [emp] Vs.emp ?_
  (refine As rfl<|Aa<|Ai<|Ac<|As rfl<|UX rfl rfl<|Aa<|Bb rfl<|Ac<|As rfl<|Aa<|Ar ?_)
  exact PT (L':=[emp]) rfl (ZS _) ⟨rfl,emp,rfl,AN.nil⟩
 |some a=>
  (refine Ac<|As rfl<|Aa<|Ai<|Ac<|As rfl<|UY rfl rfl<|Aa<|AK rfl<|Am<|Ac ?_)
  refine DI (cs:=[]) (by omega) rfl (fun b8 T8=>?_)
  (apply As;rfl)
  refine CO 0 rfl rfl (AN.Iw (R:=A2) (sz:=1)) rfl (RSl.src (R:=A2) (xs:=xs) hv' CQ (by omega) _) (by omega) (by simp;omega) (by simp;omega) (fun v5 h5 hrow5=>?_)
  (refine Ew<|Aa<|Ar ?_)
  exact PT (L':=[h5]) rfl (ZS _) ⟨rfl,h5,rfl,hrow5⟩
def Cv.cells{cs h}(o:Cv cs v h):cs.length=6∧(cs.all (·.oneCell'))=true:=
 ⟨(o.Mj (Le.refl h)).len,AH _ _ _ (o.Mj (Le.refl h))⟩
def Vi(v:V)(cs:List Value)(L:List Ag):Prop:=∃lv kv hk hl ccs hs,cs=[vZ v.kind,vZ v.m,vZ v.e,Al v.text,lv,kv]∧AN 1 A2 emp kv v.keys hk∧BO 6 lv v.list.length ccs hl∧hs.length=v.list.length∧
 (∀i (h:i<v.list.length),Cv (chunk ccs i 6) v.list[i] (hs.getD i emp))∧L=hk::hl::hs
def Hm(P:Program)(f:FuncId):Prop:=∀(v:V) {d cs},Aw d cs v→Cc v≤1000000000→A8 P f [.agg cs.toArray] d [] (Ret fun r d' L'=>d'=d∧∃cs' h,r=.agg cs'.toArray∧L'=[h]∧Cv cs' v h)
def TB{P f d cs}(hv:Aw d cs v)(h:A8 P f [.agg cs.toArray] d [] (Ret fun r d' L'=>d'=d∧∃cs',r=.agg cs'.toArray∧Vi v cs' L')):
  A8 P f [.agg cs.toArray] d [] (Ret fun r d' L'=>d'=d∧∃cs' h,r=.agg cs'.toArray∧L'=[h]∧Cv cs' v h):=by
 refine(Ok.Zx h).Zo (fun e d' L' _ r=>?_)
 cases e with
 |panicked c=>exact r.elim
 |outgrown=>exact r.elim
 |returned u=>
  obtain⟨⟨hdd,cs',hr,lv,kv,hk,hl,ccs,hs,hcs,gk,gl,hsl,el,hL⟩,hp⟩:=r
  subst hL
  obtain⟨k,m,e,t,l,ks⟩:=v
  obtain⟨_,_,_,ik,im,ie,it,_,_⟩:=hv.open
  exact⟨d',_,Vs.pack _,hdd,cs',_,hr,rfl,by rw[hcs];exact Cv.mk ik im ie it gk gl hsl el (List.pairwise_cons.1 hp).2⟩
def Q9(a0 a1:Nat):A6:=⟨32,[(.cell 2 (some 6))],(sR (o1 1 (.box 0)<|o1 2 (.alo (.agg #[(vZ 0),(vZ 0),(vZ 0),(Al []),(.slice none 0 0),(.slice none 0 0)])) .done) (.seq (.reg true (p1 6 (.fld 0 1)<|pl 7 6<|p1 8 (.fld 1 1)<|p1 9 (.ld (some 2) 8)<|p1 10 (.fld 3 1)<|pl 11 10<|p1 12 (.fld 5 1)<|pl 13 12 (.alt ⟨(some 14),none,(.call a0 [13])⟩ (p1 15 (.bld [(0,1),(1,2),(3,1),(4,1),(5,1)] [(vZ 0),(vZ 0),(vZ 0),(Al []),(.slice none 0 0),(.slice none 0 0)] [(0,7),(1,9),(2,11),(4,14)]) (o1 3 (.alo (.agg #[(vZ 0),(vZ 0),(vZ 0),(Al []),(.slice none 0 0),(.slice none 0 0)])) (.bar (o0 (.st 6 3 15) .done)))) (o1 3 (.alo (.agg #[(vZ 0),(vZ 0),(vZ 0),(Al []),(.slice none 0 0),(.slice none 0 0)])) (oc 14 a0 [13] (p1 15 (.bld [(0,1),(1,2),(3,1),(4,1),(5,1)] [(vZ 0),(vZ 0),(vZ 0),(Al []),(.slice none 0 0),(.slice none 0 0)] [(0,7),(1,9),(2,11),(4,14)]) (.bar (o0 (.st 6 3 15) .done)))))))) (.seq (sR (oj 16 4 1<|ol 17 16<|oL 18 17<|o1 19 (.mv z0) .done) (.block 0 (.loop (sR (ob 20 .lss 19 18 .done) (.seq (.cond 20 .skip (.exit 0)) (.seq (.block 1 (sR (oI 21 6 17 19<|o1 22 (.ld (some 6) 21)<|o1 5 (.alo (.agg #[(vZ 0),(vZ 0),(vZ 0),(Al []),(.slice none 0 0),(.slice none 0 0)]))<|o0 (.st 6 5 22) .done) (.reg true (p1 23 (.fld 4 3)<|pl 24 23<|p1 25 (.ld (some 6) 5)<|oc 26 a1 [25]<|o1 27 (.bsl 1 6 [(vZ 0),(vZ 0),(vZ 0),(Al []),(.slice none 0 0),(.slice none 0 0)] [(0,26)])<|o1 28 (.app 6 88 [(vZ 0),(vZ 0),(vZ 0),(Al []),(.slice none 0 0),(.slice none 0 0)] 24 27)<|p1 29 (.fld 4 3) (.bar (o0 (.st 1 29 28) .done)))))) (rG (ob 30 .add 19 z1<|om 19 30 .done)))))))) (sR (o1 31 (.ld (some 6) 3)<|o0 (.st 6 2 31) .done) .ret))))⟩
set_option maxHeartbeats 1000000 in
def WU{P:Program}{f f1:FuncId}(hd:dec P f=some (Q9 f1 f))(h1:N7 A2 16 P f1):Hm P f:=by
 intro v;induction v using V.ind with
 |h v ih=>
 intro d cs hv hb;refine TB hv (A8.forget (Q:=fun r L'=>∃cs',r=.agg cs'.toArray∧Vi v cs' L') (Bd hd (No rfl) ?_));have hb1:=Ex (v:=v);have hb2:=Gm (v:=v);obtain⟨lv,kv,rfl,ik,im,ie,it,hl,hks⟩:=hv.open;obtain⟨la,lc,rfl⟩:=RSl.val hl;obtain⟨ka,kc,rfl⟩:=RSl.val hks;show gwp P _ _ _ _ _;apply Ai;apply Ay;refine AO (l:=[vZ v.kind,vZ v.m,vZ v.e,Al v.text,.slice la v.list.length lc,.slice ka v.keys.length kc]) rfl (fun b1 T1=>?_);refine BF (fun d1 hl1 hg1=>?_);have hc1:DCs d1 b1 0 [vZ v.kind,vZ v.m,vZ v.e,Al v.text,.slice la v.list.length lc,.slice ka v.keys.length kc]:=HF hg1;have hl':RSl 6 Aw d1 (.slice la v.list.length lc) v.list:=BL.mono hl hl1;have hks':RSl 1 A2 d1 (.slice ka v.keys.length kc) v.keys:=BK.mono hks hl1;have n1:=RSl.Be hl';(refine AX (fun _ _=>Aa ?_));rename_i b2 T2;refine Ct (fun ρ d' L'=>Le d1 d'∧∃b3 T3 ka' kc' hk,A9 ρ [(1,pZ b1),(2,pZ b2),(3,pZ b3)]∧AN 1 A2 emp (.slice ka' v.keys.length kc') v.keys hk∧
  L'=[bx b2 T2 [vZ 0,vZ 0,vZ 0,Al [],.slice none 0 0,.slice none 0 0],bx b3 T3 [vZ v.kind,vZ v.m,vZ v.e,Al v.text,.slice none 0 0,.slice ka' v.keys.length kc'],hk,emp]) ?_ ?_
 ·refine AT ?_;(refine Af rfl<|Ah rfl (Ci (by assumption) rfl)<|Af rfl<|U8 rfl (by assumption) rfl<|Af rfl<|Ah rfl (Ci (by assumption) rfl)<|Af rfl<|Ah rfl (Ci (by assumption) rfl) ?_);refine Dx ?_ ?_
  ·refine AR rfl (h1 hks' (by omega)) (fun r d4 L4 hl4 ⟨hdd,hk,hL,⟨ccs,g1,g2⟩⟩=>?_);subst hdd;subst hL;have g:AN 1 A2 emp r v.keys hk:=⟨ccs,g1,g2⟩
   obtain⟨ka',kc',rfl⟩:=g.val;(refine Nk rfl rfl rfl rfl<|AX (fun _ _=>Bt ?_));rename_i b3 T3;refine Az 1 [vZ v.kind,vZ v.m,vZ v.e,Al v.text,.slice none 0 0,.slice ka' v.keys.length kc'] rfl rfl rfl rfl (No rfl) rfl rfl ?_;exact FV ⟨_,_,Vs.emp.trans (Vs.pick [1,2,3,0] rfl),Le.refl _,b3,T3,_,_,hk,⟨rfl,rfl,rfl,trivial⟩,g,rfl⟩
  ·(apply AX;intro _ _);rename_i b3 T3;refine AR rfl (h1 hks' (by omega)) (fun r d4 L4 hl4 ⟨hdd,hk,hL,⟨ccs,g1,g2⟩⟩=>?_);subst hdd;subst hL;have g:AN 1 A2 emp r v.keys hk:=⟨ccs,g1,g2⟩
   obtain⟨ka',kc',rfl⟩:=g.val;(refine Nk rfl rfl rfl rfl<|Bt ?_);refine Az 2 [vZ v.kind,vZ v.m,vZ v.e,Al v.text,.slice none 0 0,.slice ka' v.keys.length kc'] rfl rfl rfl rfl (No rfl) rfl rfl ?_;exact FV ⟨_,_,Vs.emp.trans (Vs.pick [1,3,2,0] rfl),Le.refl _,b3,T3,_,_,hk,⟨rfl,rfl,rfl,trivial⟩,g,rfl⟩
 rintro ρ d2 L' ⟨hl2,b3,T3,ka',kc',hk,hsl,hg,hL⟩;subst hL;refine Bo _ hsl ?_;clear hsl;have hc2:=hc1.mono hl2;have hl2':RSl 6 Aw d2 (.slice la v.list.length lc) v.list:=BL.mono hl' hl2;(refine Ai<|Ac<|Af rfl<|Ah rfl (Ci (by assumption) rfl)<|AA rfl<|Ab rfl<|Aa<|Av ?_);refine Bg (α:=Nat) (fun i=>[(2,pZ b2),(3,pZ b3),(17,.slice la v.list.length lc),(18,vZ v.list.length),(19,vZ i)])
  (fun i d' L'=>d'=d2∧i≤v.list.length∧∃ra rc hl ccs hs,BO 6 (.slice ra i rc) i ccs hl∧hs.length=i∧(∀j (hj:j<v.list.length),j<i→Cv (chunk ccs j 6) v.list[j] (hs.getD j emp))∧
   L'=bx b2 T2 [vZ 0,vZ 0,vZ 0,Al [],.slice none 0 0,.slice none 0 0]::bx b3 T3 [vZ v.kind,vZ v.m,vZ v.e,Al v.text,.slice ra i rc,.slice ka' v.keys.length kc']::hk::hl::hs)
  (fun i=>v.list.length - i) 0 ⟨rfl,rfl,rfl,rfl,rfl,trivial⟩ ⟨rfl,ZN _,none,0,emp,[],[],BO.nil 6,rfl,fun j _ h=>absurd h (Z3 j),rfl⟩ ?_
 rintro i ρ d3 L' ⟨hdd,hi,ra,rc,hl0,ccs,hs,hrow,hhs,hel,hL⟩;subst hdd;subst hL;have hl3':RSl 6 Aw d3 (.slice la v.list.length lc) v.list:=hl2';by_cases hc:i<v.list.length
 ·(refine Ac<|Ax rfl rfl<|Aa<|Ai<|Au rfl (by omega)<|Am<|Ai<|Av<|Ac<|AJ (sz:=6) (R:=Aw) (by rfl) (by assumption) (by rfl) rfl (by omega) ?_;rintro _ _ _ _ _ _;refine BE rfl (by assumption) (by assumption)<|AX (fun _ _=>?_));rename_i cs hcs hD hR b5 T5;obtain⟨c0,c1,c2,c3,c4,c5,rfl⟩:=six hcs;refine Az 0 [c0,c1,c2,c3,c4,c5] rfl rfl rfl rfl (No rfl) (AH _ _ _ hR) rfl ?_;(apply Aa);refine Dh [bx b5 T5 [c0,c1,c2,c3,c4,c5],bx b2 T2 [vZ 0,vZ 0,vZ 0,Al [],.slice none 0 0,.slice none 0 0],bx b3 T3 [vZ v.kind,vZ v.m,vZ v.e,Al v.text,.slice ra i rc,.slice ka' v.keys.length kc'],hk] (hl0::hs) rfl ?_;(refine Af rfl<|Ah rfl (Aj 2 rfl rfl)<|AD 0 rfl rfl rfl ?_);refine AR rfl (ih _ (ZC hc) hR (by have:=Sl (ZC hc);omega)) (fun r d4 L4 _ ⟨hdd,cs',g,hr,hL,ho⟩=>?_);subst hdd;subst hr;subst hL;obtain⟨hc6,hc1'⟩:=ho.cells;refine D4 rfl hc6 (fun b27 T27=>?_);refine LB 1 rfl rfl hrow rfl (by rw[hc6]) hc1' (by omega) (by omega) (by omega) (fun v5 h5 o5=>?_);obtain⟨a5,_,c5',rfl,_⟩:=o5.slice;(refine Af rfl<|Bt ?_);refine B9 _ (bx b2 T2 [vZ 0,vZ 0,vZ 0,Al [],.slice none 0 0,.slice none 0 0]::bx b3 T3 [vZ v.kind,vZ v.m,vZ v.e,Al v.text,.slice ra i rc,.slice ka' v.keys.length kc']::hk::h5::(hs++[g]))
   ((Vs.perm (List.Perm.append_left [bx b5 T5 [c0,c1,c2,c3,c4,c5],bx b2 T2 [vZ 0,vZ 0,vZ 0,Al [],.slice none 0 0,.slice none 0 0],bx b3 T3 [vZ v.kind,vZ v.m,vZ v.e,Al v.text,.slice ra i rc,.slice ka' v.keys.length kc'],hk] ((Z0 _ _ _).trans ((List.perm_append_singleton g hs).symm.cons _)))).trans (Vs.drop (List.sublist_cons_self _ _))) ?_
  refine Az 1 [vZ v.kind,vZ v.m,vZ v.e,Al v.text,.slice a5 (i+1) c5',.slice ka' v.keys.length kc'] rfl rfl rfl rfl (No rfl) rfl rfl ?_;(refine Aa<|Ay<|AI rfl rfl (by omega) (by omega)<|Ab rfl<|Aa ?_);refine⟨i+1,by omega,⟨rfl,rfl,rfl,rfl,int_eq (by omega),trivial⟩,rfl,hc,a5,c5',h5,_,hs++[g],o5,by simp[hhs],fun j hj hji=>?_,rfl⟩
  have h6:ccs.length=i*6:=hrow.1;by_cases e:j<i
  ·rw[DO h6 e,show(hs++[g]).getD j emp=hs.getD j emp by simp[Acd,Aaq (show j<hs.length by omega)]];exact hel j hj e
  ·obtain rfl:j=i:=by omega
   rw[Eu h6 (ZL _),Acg,show chunk cs' 0 6=cs' by simp only[chunk,Acf,Acv];exact Z7 (by omega),show(hs++[g]).getD j emp=g by simp[Acd,hhs]];exact ho
 ·obtain rfl:i=v.list.length:=by omega
  (refine Ac<|Ax rfl rfl<|Aa<|Ai<|Ao rfl (by omega)<|AV<|Ac<|AD 1 rfl rfl rfl ?_);refine Az 0 [vZ v.kind,vZ v.m,vZ v.e,Al v.text,.slice ra v.list.length rc,.slice ka' v.keys.length kc'] rfl rfl rfl rfl (No rfl) rfl rfl ?_;(refine Aa<|Ar ?_);exact G0 [.agg [vZ v.kind,vZ v.m,vZ v.e,Al v.text,.slice ra v.list.length rc,.slice ka' v.keys.length kc'].toArray] ⟨A3 0 rfl rfl rfl,trivial⟩ (Vs.drop (((ZS _).cons _).cons _)) ⟨_,rfl,_,_,hk,hl0,ccs,hs,rfl,hg,hrow,hhs,fun j hj=>hel j hj hj,rfl⟩
end
end Go.Gk.Val
end
section
namespace Go.Gk.Val
open Go Go.Gk
section
section
variable {H:Type}{enc:TypeId×Value→H}{P:Program}{W:World}
structure VTy (P:Program) (t tn t6 ti ts tl tk:TypeId):Prop where
 fs:∃fs:Array Field,P.underlying t=some (.struct fs)∧(fs[0]?).map (fun f=>(f.offset,f.type))=some (0,ti)∧(fs[1]?).map (fun f=>(f.offset,f.type))=some (1,tn)∧(fs[2]?).map (fun f=>(f.offset,f.type))=some (3,ts)∧
  (fs[3]?).map (fun f=>(f.offset,f.type))=some (4,tl)∧(fs[4]?).map (fun f=>(f.offset,f.type))=some (5,tk)
 ns:∃fs:Array Field,P.underlying tn=some (.struct fs)∧(fs[0]?).map (fun f=>(f.offset,f.type))=some (0,t6)∧(fs[1]?).map (fun f=>(f.offset,f.type))=some (1,ti)
 c:P.cellsOf t=6
 cn:P.cellsOf tn=2
 c6:P.cellsOf t6=1
 ci:P.cellsOf ti=1
 cs:P.cellsOf ts=1
 cl:P.cellsOf tl=1
 ck:P.cellsOf tk=1
 u6:P.underlying t6=some (.int .i64)
 ui:P.underlying ti=some (.int .i64)
 us:P.underlying ts=some .string
 ul:P.underlying tl=some (.slice t)
 uk:P.underlying tk=some (.slice ts)
 b:1≤P.bytesOf t
 bs:1≤P.bytesOf ts
def YW{t t6 ti}(hf:∃fs:Array Field,P.underlying t=some (.struct fs)∧(fs[0]?).map (fun f=>(f.offset,f.type))=some (0,t6)∧(fs[1]?).map (fun f=>(f.offset,f.type))=some (1,ti))
  (c:P.cellsOf t=2) (c6:P.cellsOf t6=1) (ci:P.cellsOf ti=1) (u6:P.underlying t6=some (.int .i64)) (ui:P.underlying ti=some (.int .i64)):
  Rd enc P W t (fun _ cs (x:Int×Int)=>cs=[vZ x.1,vZ x.2]∧I64 x.1∧I64 x.2):=by
 intro held fuel cs x h hw
 obtain⟨fs,hu,f0,f1⟩:=hf
 obtain⟨hl,hfs⟩:=OR hu h hw
 obtain⟨m,e0,hm⟩:=hfs 0 0 t6 1 f0 c6 (IY u6)
 obtain⟨e,e1,he⟩:=hfs 1 1 ti 1 f1 ci (IY ui)
 obtain⟨a0,a1,rfl⟩:=Zk (hl.trans c)
 simp only[List.drop,List.take,List.cons.injEq,and_true] at e0 e1
 subst e0;subst e1
 exact⟨(m,e),rfl,hm,he⟩
def rd_val{t tn t6 ti ts tl tk:TypeId}(T:VTy P t tn t6 ti ts tl tk):Rd enc P W t Aw:=by
 intro held fuel;show Q7 enc P W held fuel t Aw;induction fuel using Nat.strongRecOn with
 |ind fuel ih=>
 intro cs x h hw;obtain⟨fs,hu,f0,f1,f2,f3,f4⟩:=T.fs;obtain⟨hl,hfs⟩:=RP hu h hw;obtain⟨k,e0,hk⟩:=hfs 0 0 ti 1 f0 T.ci (fun n _=>(IY T.ui).at);obtain⟨⟨m,e⟩,e1,hm,he⟩:=hfs 1 1 tn 2 f1 T.cn (fun n _=>(YW T.ns T.cn T.c6 T.ci T.u6 T.ui).at);obtain⟨s,e2,hs⟩:=hfs 2 3 ts 1 f2 T.cs (fun n _=>(P9 T.us).at);obtain⟨l,lv,e3,hll⟩:=hfs 3 4 tl 1 f3 T.cl (fun n hn=>Nz T.ul T.c (by omega) T.b (fun k hk=>ih k (by omega)));obtain⟨ks,kv,e4,hks⟩:=hfs 4 5 tk 1 f4 T.ck (fun n hn=>Nz T.uk T.cs (by omega) T.bs (fun k hk=>(P9 T.us).at));obtain⟨a0,a1,a2,a3,a4,a5,rfl⟩:=six (hl.trans T.c);simp only[List.drop,List.take,List.cons.injEq,and_true] at e0 e1 e2 e3 e4;obtain⟨e1,e1'⟩:=e1;subst e0;subst e1;subst e1';subst e2;subst e3;subst e4;exact⟨.mk k m e s l ks,Aw.close (v:=.mk k m e s l ks) hk hm he hs hll hks⟩
end
end
end Go.Gk.Val
end
section
namespace Go.Gk.Utf
open Go Go.Lib
variable{l:List UInt8}
def Dt:Nat→List UInt8→List (List UInt8)
 |0,_=>[]
 |n+1,l=>if l=[] then [] else l.take (decodeL l).2::Dt n (l.drop (decodeL l).2)
def chs(l:List UInt8):List (List UInt8):=Dt l.length l
def G2:Nat→List UInt8→List Int
 |0,_=>[]
 |n+1,l=>if l=[] then [] else((decodeL l).1:Int)::G2 n (l.drop (decodeL l).2)
def rns(l:List UInt8):List Int:=G2 l.length l
def OL:∀(n m:Nat) (l:List UInt8),l.length≤n→l.length≤m→Dt n l=Dt m l
 |0,0,_,_,_=>rfl
 |0,m+1,l,h,_=>by
  have:l=[]:=ZD (by omega);simp[Dt,this]
 |n+1,0,l,_,h=>by
  have:l=[]:=ZD (by omega);simp[Dt,this]
 |n+1,m+1,l,h1,h2=>by
  by_cases h:l=[]
  ·simp[Dt,h]
  ·have hw:=decodeL_width l;have hl:0<l.length:=Aan.2 h;simp only[Dt,if_neg h];rw[OL n m _ (by rw[Aab];omega) (by rw[Aab];omega)]
def XC:chs []=[]:=rfl
def WE(h:l≠[]):chs l=l.take (decodeL l).2::chs (l.drop (decodeL l).2):=by
 have hw:=decodeL_width l;have hl:0<l.length:=Aan.2 h;obtain⟨n,hn⟩:∃n,l.length=n+1:=⟨l.length - 1,by omega⟩
 unfold chs;rw[hn];simp only[Dt,if_neg h];rw[OL n (l.drop (decodeL l).2).length _ (by rw[Aab];omega) (ZL _)]
def Qe:∀(n:Nat) (l:List UInt8),(Dt n l).length≤l.length
 |0,_=>ZN _
 |n+1,l=>by
  by_cases h:l=[]
  ·simp[Dt,h]
  ·have hw:=decodeL_width l;have hl:0<l.length:=Aan.2 h;have:=Qe n (l.drop (decodeL l).2);rw[Aab] at this;simp only[Dt,if_neg h,ZU];omega
def Oq(l:List UInt8):(chs l).length≤l.length:=Qe _ _
def Rn:∀(n:Nat) (l:List UInt8),(G2 n l).length=(Dt n l).length
 |0,_=>rfl
 |n+1,l=>by
  by_cases h:l=[]
  ·simp[Dt,G2,h]
  ·simp only[Dt,G2,if_neg h,ZU,Rn n]
def SD(l:List UInt8):(rns l).length=(chs l).length:=Rn _ _
def RN(l:List UInt8)(i:Nat):Utf8.decode ⟨l.toArray⟩ i=decodeL (l.drop i):=by
 have h:=tail_decode ⟨l.toArray⟩ i 0;rw[Nat.add_zero] at h;rw[←h,decodeL];congr 1;simp[ByteArray.extract,ByteArray.copySlice,ByteArray.size];exact Z7 (by simp)
def YV{r:Int}(h0:0≤r)(h:r<55296∨(57343<r∧r≤1114111)):JP r=encodeRune r:=by
 have hv:Utf8.valid r=true:=by simp[Utf8.valid];omega
 simp only[JP,Utf8.encode,hv,if_true,encodeRune];by_cases h1:r≤127
 ·rw[if_pos (by omega),encodeRuneZ_one h0 h1];rfl
 rw[if_neg (by omega)];by_cases h2:r≤2047
 ·rw[if_pos (by omega),encodeRuneZ_two (by omega) h2];simp only[Abc,List.map_nil];rw[show(192+r / 64).toNat=0xC0+r.toNat / 64 by omega,show(128+r % 64).toNat=0x80+r.toNat % 64 by omega]
 rw[if_neg (by omega)];by_cases h3:r≤65535
 ·rw[if_pos (by omega),encodeRuneZ_three (by omega)];simp only[Abc,List.map_nil];rw[show(224+r / 4096).toNat=0xE0+r.toNat / 4096 by omega,show(128+r / 64 % 64).toNat=0x80+r.toNat / 64 % 64 by omega,show(128+r % 64).toNat=0x80+r.toNat % 64 by omega]
 rw[if_neg (by omega),encodeRuneZ_four (by omega) (by omega)];simp only[Abc,List.map_nil];rw[show(240+r / 262144).toNat=0xF0+r.toNat / 262144 by omega,show(128+r / 4096 % 64).toNat=0x80+r.toNat / 4096 % 64 by omega,show(128+r / 64 % 64).toNat=0x80+r.toNat / 64 % 64 by omega,show(128+r % 64).toNat=0x80+r.toNat % 64 by omega]
def Sw:∀(n:Nat) (l:List UInt8),validD l=true→(G2 n l).map JP=Dt n l
 |0,_,_=>rfl
 |n+1,l,hv=>by
  by_cases h:l=[]
  ·simp[Dt,G2,h]
  ·rw[validD_step l h] at hv;by_cases hb:(decodeL l).1=65533∧(decodeL l).2=1
   ·rw[if_pos hb] at hv;cases hv
   ·rw[if_neg hb] at hv;have hd:(decodeL l).1<55296∨(57343<(decodeL l).1∧(decodeL l).1≤1114111):=by
     rw[decodeL_N];exact decodeN_valid _ _ _ _ _ (UInt8.toNat_lt _)
    simp only[Dt,G2,if_neg h,Abc];rw[YV (by omega) (by omega),encode_decode l h hb,Sw n _ hv]
def Vy(hv:validD l=true)(a b:Nat):(((rns l).drop a).take b).flatMap JP=(((chs l).drop a).take b).flatten:=by
 rw[List.flatMap_def,List.map_take,List.map_drop,rns,Sw _ _ hv];rfl
def KK(l:List UInt8):∀(n i:Nat) (acc:Array Value),l.length≤n+i→(Conv.runesFrom ⟨l.toArray⟩ n i acc).toList=acc.toList++(G2 n (l.drop i)).map (Value.int .i32)
 |0,i,acc,h=>by simp[Conv.runesFrom,G2]
 |n+1,i,acc,h=>by
  have hs:(⟨l.toArray⟩:ByteArray).size=l.length:=by simp[ByteArray.size]
  simp only[Conv.runesFrom,hs];by_cases hi:i<l.length
  ·have hne:l.drop i≠[]:=by simp;omega
   have hw:=decodeL_width (l.drop i);rw[if_pos hi,RN,KK l n _ _ (by omega)];simp only[G2,if_neg hne];simp[List.drop_drop]
  ·have hne:l.drop i=[]:=by simp;omega
   rw[if_neg hi,hne];simp[G2]
def K3(l:List UInt8):Gk.BR l=(rns l).map (Value.int .i32):=by
 simp only[Gk.BR];rw[KK l _ 0 _ (by omega)];simp[rns]
def JF(a b:Nat):(((chs l).drop a).take b).flatten.length≤l.length:=by
 have key:∀(n:Nat) (l:List UInt8) (a b:Nat),(((Dt n l).drop a).take b).flatten.length≤l.length:=by
  intro n;induction n with
  |zero=>intro l a b;simp[Dt]
  |succ n ih=>
   intro l a b
   by_cases h:l=[]
   ·simp[Dt,h]
   ·simp only[Dt,if_neg h]
    have hw:=decodeL_width l
    have h2:(l.take (decodeL l).2).length+(l.drop (decodeL l).2).length=l.length:=by rw[←ZH,List.take_append_drop]
    cases a with
    |zero=>
     cases b with
     |zero=>simp
     |succ b=>
      have:=ih (l.drop (decodeL l).2) 0 b
      simp only[Acv,Abx,Aaw,ZH] at this⊢
      omega
    |succ a=>
     have:=ih (l.drop (decodeL l).2) a b
     simp only[List.drop_succ_cons] at this⊢
     omega
 exact key _ _ _ _
def XG(hl:l≠[])(hv:validD l=true):(Eo l).2=((decodeL l).2:Int):=by
 rw[I3 hl];by_cases h:decodeL l=(65533,1)
 ·rw[validD_step l hl,h] at hv;simp at hv
 ·rw[if_neg h]
def NF(hl:l≠[])(hv:validD l=true):validD (l.drop (decodeL l).2)=true:=by
 rw[validD_step l hl] at hv;split at hv
 ·cases hv
 ·exact hv
def Rv(hne:l≠[])(hv:¬((decodeL l).1=65533∧(decodeL l).2=1))(t:List UInt8):decodeL (l.take (decodeL l).2++t)=decodeL l:=by
 have hl:0<l.length:=Aan.2 hne;have g:∀(w i:Nat),i<w→w≤l.length→(l.take w++t).getD i 0=l.getD i 0:=by
  intro w i h1 h2;simp only[Acd];rw[Aaq (by simp;omega),List.getElem?_take_of_lt h1]
 have gl:∀w:Nat,w≤l.length→w≤(l.take w++t).length:=by intro w h;simp;omega
 rw[decodeL_N (l.take _++t)];rw[decodeL_N l] at hv⊢;rcases decodeN_shape l.length (l.getD 0 0).toNat (l.getD 1 0).toNat (l.getD 2 0).toNat (l.getD 3 0).toNat with ⟨c,e⟩|⟨c1,c2,c3,cv,e⟩|⟨c1,c2,c3,c4,cv,cs,e⟩|⟨c1,c2,c3,c4,c5,cv,cw,e⟩|e
 ·rw[e];dsimp only;rw[g 1 0 (by omega) (by omega),decodeN,if_pos c]
 ·rw[e];dsimp only;have:=gl 2 (by omega);rw[g 2 0 (by omega) (by omega),g 2 1 (by omega) (by omega),decodeN,if_neg (by omega),if_pos (by omega),if_pos (by omega)]
 ·rw[e];dsimp only;have:=gl 3 (by omega);rw[g 3 0 (by omega) (by omega),g 3 1 (by omega) (by omega),g 3 2 (by omega) (by omega),decodeN,if_neg (by omega),if_neg (by omega),if_pos (by omega),if_pos (by omega)]
 ·rw[e];dsimp only;have:=gl 4 (by omega);rw[g 4 0 (by omega) (by omega),g 4 1 (by omega) (by omega),g 4 2 (by omega) (by omega),g 4 3 (by omega) (by omega),decodeN,if_neg (by omega),if_neg (by omega),if_neg (by omega),if_pos (by omega),if_pos (by omega)]
 ·rw[e] at hv;simp at hv
def S8(hv:validD l=true)(a b:Nat):validD (((chs l).drop a).take b).flatten=true:=by
 have key:∀(n:Nat) (l:List UInt8) (a b:Nat),validD l=true→validD (((Dt n l).drop a).take b).flatten=true:=by
  intro n;induction n with
  |zero=>intro l a b _;simp[Dt,validD_nil]
  |succ n ih=>
   intro l a b hv
   by_cases h:l=[]
   ·simp[Dt,h,validD_nil]
   ·have hr:=NF h hv
    simp only[Dt,if_neg h]
    have hw:=decodeL_width l
    have hwl:=decodeL_le l h
    have hl:0<l.length:=Aan.2 h
    cases a with
    |zero=>
     cases b with
     |zero=>simp[validD_nil]
     |succ b=>
      have hb:¬((decodeL l).1=65533∧(decodeL l).2=1):=fun hb=>by rw[validD_step l h,if_pos hb] at hv;cases hv
      have:=ih (l.drop (decodeL l).2) 0 b hr
      simp only[Acv,Abx,Aaw] at this⊢
      rw[validD_step _ (by intro e;have:=congrArg Abu e;rw[ZH,List.length_take] at this;simp only[List.length_nil] at this;omega),Rv h hb,if_neg hb]
      have hlen:(l.take (decodeL l).2).length=(decodeL l).2:=by simp;omega
      rw[List.drop_append,List.drop_of_length_le (by omega),hlen,Acg,Acv,Z5]
      exact this
    |succ a=>exact ih _ a b hr
 exact key _ _ _ _ hv
end Go.Gk.Utf
end
section
namespace Go.Gk.Val
open Go Go.Gk
attribute [local irreducible] gwp gws
section
def IS{α}{p:α→Bool}:∀(l:List α),(∀i j (hj:j<l.length) (hi:i<j),p l[j]=true→p (l[i]'(by omega))=true)→∀i (hi:i<l.length),p l[i]=true↔i<(l.takeWhile p).length
 |[],_,i,hi=>absurd hi (Z3 i)
 |a::l,h,i,hi=>by
  have ih:=IS l (fun i j hj hi hp=>h (i+1) (j+1) (by simp;omega) (by omega) hp);by_cases ha:p a=true
  ·rw[List.takeWhile_cons_of_pos ha,ZU];cases i with
   |zero=>simp[ha]
   |succ i=>rw[List.getElem_cons_succ,ih i (by simpa using hi)];omega
  ·rw[List.takeWhile_cons_of_neg ha];cases i with
   |zero=>simp[ha]
   |succ i=>
    constructor
    ·intro hp;exact absurd (h 0 (i+1) hi (by omega) hp) ha
    ·intro hlt;simp at hlt
def AZ(ks:List (List UInt8))(k:List UInt8):Nat:=(ks.takeWhile fun x=>Op.bytesLess x k).length
def Fp(ks:List (List UInt8))(k:List UInt8):AZ ks k≤ks.length:=by
 have:=congrArg Abu (List.takeWhile_append_dropWhile (p:=fun x=>Op.bytesLess x k) (l:=ks));rw[ZH] at this;simp only[AZ];omega
def Pa{ks}(h:rising ks=true){i:Nat}(hi:i+1<ks.length):Op.bytesLess ks[i] ks[i+1]=true:=by
 by_cases hb:FJ ks (i+1)=true
 ·rw[IV hi,Zz] at hb;exact hb.2
 ·rw[rising,FA (by simpa using hb) hi] at h;cases h
def Ly{ks}(h:rising ks=true):∀{j i:Nat}(hj:j<ks.length) (hi:i<j),Op.bytesLess (ks[i]'(by omega)) ks[j]=true:=by
 intro j;induction j with
 |zero=>intro i _ hi;omega
 |succ j ih=>
  intro i hj hi
  by_cases e:i=j
  ·subst e;exact Pa h hj
  ·exact JU (ih (by omega) (by omega)) (Pa h hj)
def I4{ks}(h:rising ks=true)(k:List UInt8)(i:Nat)(hi:i<ks.length):Op.bytesLess ks[i] k=true↔i<AZ ks k:=
 IS (p:=fun x=>Op.bytesLess x k) ks (fun i j hj hi hp=>JU (Ly h hj hi) hp) i hi
def NY{ks}(h:rising ks=true){k}{i:Nat}(hi:i<ks.length)(e:ks[i]=k):AZ ks k=i:=by
 have h1:¬i<AZ ks k:=by rw[←I4 h k i hi,e,F2];simp
 by_cases h2:AZ ks k<i
 ·have h3:=Ly h hi h2;rw[e] at h3;have:=(I4 h k (AZ ks k) (by omega)).1 h3;omega
 ·omega
def mem_iff{ks}(h:rising ks=true){k}:k∈ks↔∃hi:AZ ks k<ks.length,ks[AZ ks k]=k:=by
 constructor
 ·intro hm;obtain⟨i,hi,e⟩:=List.getElem_of_mem hm;have:=NY h hi e;subst this;exact⟨hi,e⟩
 ·rintro⟨hi,e⟩;rw[←e];exact ZC hi
section
variable {P:Program}{pan:List PanicEntry→A0}{Qn:Env→A0}{Ls L:List Ag}{ρ:Env}{d:Ag}{s:GS}{t:Nat}{tk:Bool}
def Ku{x y k'}{a:Int}(ex:ev ρ x=.int .u64 a)(ey:ev ρ y=.int k' 1)(h0:0≤a)(h1:a≤9223372036854775807)(h:gws P pan Qn s Ls (upd ρ t (.int .u64 (a / 2))) d L):
  gws P pan Qn (.op tk ⟨some t,none,.bin .shr x y⟩ s) Ls ρ d L:=by
 refine Db ?_ h
 rw[ex,ey]
 simp[C2,IntKind.bits,Int.fdiv_eq_ediv_of_nonneg]
end
end
end Go.Gk.Val
end
