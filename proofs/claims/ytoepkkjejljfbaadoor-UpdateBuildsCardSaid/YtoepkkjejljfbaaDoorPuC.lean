/-
  Our own texts, one behind the other: GkV2 GkV3 GkV10 GkTabs Gk21 GkV4 GkU2 GkV5 GkV6 GkV7 GkV8 Gk17 GkV9 GkVArg0 GkU3 GkS0 GkS1 GkP0.
-/
import Derived.Shelf.Unicode.ValidAny
import Derived.Lib.RuneCountTail
import Derived.Lib.QuoteLoop
import Derived.Lib.MapLaws
import Derived.Lib.ValidLaws
import Derived.Test.YtoepkkjejljfbaaDoorPuB
set_option linter.defProp false
set_option linter.unusedVariables false
set_option linter.unusedSimpArgs false
open Nat renaming le_of_ble_eq_true→No,le_refl→Xq,zero_le→Xw,not_lt_zero→XP,zero_mul→YS,sub_self→YT,pow_le_pow_right→YW,pow_succ→Y0
open List renaming getElem_mem→Xh,take_succ_eq_append_getElem→Xi,all_eq_true→Xj,mem_cons_of_mem→Xk,length_append→Xl,nil_sublist→Xm,eq_nil_of_length_eq_zero→Xo,mem_cons_self→Xp,mem_append→Xs,getElem?_eq_getElem→Xt,mem_cons→Xu,length_cons→Xv,take_length→Xz,cons_append→XF,length_singleton→XI,range→XK,nil_append→XL,take_of_length_le→XQ,length_pos_iff→XV,getElem_of_mem→X7,getElem?_map→X8,flatten_cons→Ya,map_cons→Yd,getElem?_append_left→Yj,mem_of_mem_take→Yp,take_succ_cons→Ys,length→Yw,pairwise_iff_getElem→YF,drop_zero→YN,getD→Y1
open Bool renaming and_eq_true→Xg,false_eq_true→XG,or_eq_true→XN,eq_iff_iff→Yo,not_eq_true→Yq,true_and→Y3
open List.Sublist renaming refl→Xy
open Option renaming bind_eq_some_iff→XC
open List.Perm renaming swap→XM,append_left→Yl
section
namespace Go.Gk.Val
open Go Go.Gk
attribute [local irreducible] gwp gws
variable{ks:List (List UInt8)}{P:Program}{f f1:FuncId}{k m e:Int}{l:List V}
mutual
def Bh:V→Nat
 |.mk _ _ _ _ l _=>C6 l+1
def C6:List V→Nat
 |[]=>0
 |x::l=>max (Bh x) (C6 l)
end
def Hg{n:Nat}:∀{l:List V},C6 l≤n↔∀x∈l,Bh x≤n
 |[]=>by simp[C6]
 |x::l=>by
  simp only[C6,Xu,forall_eq_or_imp];rw[←Hg (l:=l)];omega
def D5{v:V}{n:Nat}:Bh v≤n+1↔∀x∈v.list,Bh x≤n:=by
 obtain⟨k,m,e,t,l,ks⟩:=v;simp only[Bh,V.list];rw[←Hg];omega
def Ex(v:V):1≤Bh v:=by obtain⟨k,m,e,t,l,ks⟩:=v;simp only[Bh];omega
def u8(l:List UInt8):Bool:=Lib.validD l
def Bg(m e:Int):Bool:=if m=0 then decide (e=0) else decide (-1000000000000000000<m∧m<1000000000000000000∧m % 10≠0∧ -64≤e∧e≤64)
def E2(ks:List (List UInt8))(i:Nat):Bool:=u8 (ks.getD i [])&&(i==0||Op.bytesLess (ks.getD (i - 1) []) (ks.getD i []))
def Dv(ks:List (List UInt8)):Nat→Bool
 |0=>true
 |k+1=>Dv ks k && E2 ks k
def rising(ks:List (List UInt8)):Bool:=Dv ks ks.length
def EW{k:Nat}(h:E2 ks k=false):∀{m:Nat},k<m→Dv ks m=false:=by
 intro m hm;induction hm with
 |refl=>simp[Dv,h]
 |step _ ih=>simp[Dv,ih]
def BL(v:V):Bool:=decide (0≤v.kind∧v.kind≤6)&&(decide (v.kind=3)||decide (v.m=0∧v.e=0))&&(decide (v.kind=4)||decide (v.text=[]))&&(decide (5≤v.kind)||decide (v.list=[]))&&(decide (v.kind=6)||decide (v.keys=[]))
def BK(v:V):Bool:=BL v && Bg v.m v.e && u8 v.text && rising v.keys &&(decide (v.kind≠6)||decide (v.keys.length=v.list.length))
mutual
def Bc:V→Bool
 |.mk k m e t l ks=>BK (.mk k m e t l ks)&& QG l
def QG:List V→Bool
 |[]=>true
 |x::l=>Bc x && QG l
end
def OG:∀l:List V,QG l=l.all Bc
 |[]=>rfl
 |x::l=>by simp[QG,OG l]
def DS(v:V):Bc v=(BK v && v.list.all Bc):=by obtain⟨k,m,e,t,l,ks⟩:=v;simp[Bc,OG,V.list]
def AP(v:V):Int:=if Bh v≤48 then(if Bc v then 0 else 30) else 31
def J7(P:Program)(f:FuncId):Prop:=∀{d v}{l:List V}{g cap}{p:V→Bool},BY d v l→(∀x∈l,∀cs,Aw d cs x→AG P g (.agg cs.toArray::cap) d (.bool (p x)))→
 AG P f [v,.func (.func g) #[] cap.toArray] d (.bool (l.all p))
def G7:A0:=⟨18,[(.tmp 4)],(sR (o1 4 (.mv (.const (.bool false))) .done) (.seq (sR (om 7 0<|oL 8 7<|o1 9 (.mv z0) .done) (.block 0 (.loop (sR (ob 10 .lss 9 8 .done) (.seq (.cond 10 .skip (.exit 0)) (.seq (.block 1 (sR (oI 11 6 7 9<|o1 12 (.ld (some 6) 11)<|o1 6 (.alo (.agg #[(vZ 0),(vZ 0),(vZ 0),(Al []),(.slice none 0 0),(.slice none 0 0)]))<|o0 (.st 6 6 12) .done) (sR (om 13 1<|o1 14 (.ld (some 6) 6)<|o1 15 (.callv 13 [14])<|o1 16 (.un .not 15) .done) (.cond 16 (sR (o1 4 (.mv (.const (.bool false))) .done) .ret) .skip)))) (rG (ob 17 .add 9 z1<|om 9 17 .done)))))))) (sR (o1 4 (.mv (.const (.bool true))) .done) .ret)))⟩
def Tp(hd:dec P f=some G7):J7 P f:=by
 intro d v l g cap p hv hg;have hll:=RSl.A2 hv;obtain⟨a,c,rfl⟩:=RSl.val hv;refine Bf hd (No rfl) ?_;show gwp P _ _ _ _ _;(refine Ac<|Ad rfl<|Aa<|Ah<|Ac<|Ar rfl<|Ay rfl<|Ab rfl<|Aa<|As ?_);refine A6 (α:=Nat) (fun i=>[(1,.func (.func g) #[] cap.toArray),(7,.slice a l.length c),(8,vZ l.length),(9,vZ i)])
  (fun i d' L'=>d'=d∧i≤l.length∧(l.take i).all p=true) (fun i=>l.length - i) 0 ⟨rfl,rfl,rfl,rfl,trivial⟩ ⟨rfl,Xw _,by simp⟩ ?_
 rintro i ρ d' L' ⟨hdd,hi,hp⟩;subst hdd;have hv':RSl 6 Aw d' (.slice a l.length c) l:=hv;(refine Ac<|Av rfl rfl<|Aa<|Ah ?_);first|refine W5 rfl (fun hc=>?_) (fun hc=>?_)|refine Xa rfl (fun hc=>?_) (fun hc=>?_)
 ·have hi1:i<l.length:=by omega
  (refine Ao<|Ah<|As<|Ac<|AN (sz:=6) (R:=Aw) (by rfl) (by assumption) (by rfl) rfl (by omega) ?_;rintro _ _ _ _ _ _;refine B5 rfl (by assumption) (by assumption)<|AV (fun _ _=>?_));rename_i cs hcs hD hR b6 T6;obtain⟨c0,c1,c2,c3,c4,c5,rfl⟩:∃c0 c1 c2 c3 c4 c5,cs=[c0,c1,c2,c3,c4,c5]:=by
   match cs,hcs with
   |[a,b,c,d,e,f],_=>exact⟨a,b,c,d,e,f,rfl⟩
  have h1c:=AK _ _ _ hR;refine AA 0 [c0,c1,c2,c3,c4,c5] rfl rfl rfl rfl (No rfl) h1c rfl ?_;(refine Aa<|Ac<|Cz rfl<|AE 0 rfl rfl rfl ?_);refine DD (vs:=.agg [c0,c1,c2,c3,c4,c5].toArray::cap) rfl (by simp;rfl) (hg _ (Xh hi1) _ hR) ?_;cases hpx:p l[i] with
  |false=>
   (refine Be rfl<|Aa<|Bd rfl<|Ac<|Ad rfl<|Aa<|Aq ?_)
   apply UG;rfl
   rw[eq_comm,←Yq,Xj]
   intro h;rw[h _ (Xh hi1)] at hpx;cases hpx
  |true=>
   (refine Be rfl<|Aa<|AJ rfl<|Ao<|Ax<|AI rfl rfl (by omega) (by omega)<|Ab rfl<|Aa ?_)
   exact⟨i+1,by omega,⟨rfl,rfl,rfl,int_eq (by omega),trivial⟩,rfl,hi1,by rw[Xi hi1,List.all_append,hp];simp[hpx]⟩
 ·obtain rfl:i=l.length:=by omega
  rw[Xz] at hp;(refine AU<|Ac<|Ad rfl<|Aa<|Aq ?_);apply UG;rfl;exact hp.symm
def Jb(P:Program)(f:FuncId):Prop:=∀(v:V) {d cs}{k:Nat},Aw d cs v→k≤1000000→AG P f [.agg cs.toArray,vZ k] d (.bool (decide (Bh v≤k)))
def Kd(a0:Nat):A0:=⟨8,[(.tmp 3)],(sR (o1 2 (.box 0)<|o1 3 (.mv (.const (.bool false))) .done) (sR (o1 4 (.ld (some 6) 2)<|ol 5 1<|ob 6 .sub 5 z1<|oc 7 a0 [4,6]<|om 3 7 .done) .ret))⟩
def LM(a0 a1:Nat):A0:=⟨13,[(.tmp 4)],(sR (o1 2 (.box 0)<|o1 3 (.box 1)<|o1 4 (.mv (.const (.bool false))) .done) (sR (ol 5 3<|ob 6 .gtr 5 z0<|om 7 6<|oT 8 7 (.fld 4 2)<|oT 9 7 (.ld none 8)<|oT 10 7 (.mkf (.func a0) [] [3])<|oT 11 7 (.call a1 [9,10])<|gP 12 7 11<|om 4 12 .done) .ret))⟩
def Rq{f2}(hd:dec P f=some (LM f1 f2))(h1:dec P f1=some (Kd f))(h2:J7 P f2):Jb P f:=by
 intro v;induction v using V.ind with
 |h v ih=>
 intro d cs k hv hk;refine AG.of' hd (No rfl) ?_;obtain⟨lv,kv,rfl,ik,im,ie,it,hl,hks⟩:=hv.open;show gwp P _ _ _ _ _;apply Ah;apply Ax;refine AR (l:=[vZ v.kind,vZ v.m,vZ v.e,Al v.text,lv,kv]) rfl (fun b2 T2=>?_);refine Uw (v:=vZ k) rfl (fun b3 T3=>?_);refine Bt (fun d3 hl3 hg3=>?_);have hc3:DCs d3 b3 0 [vZ k]:=Ib hg3;by_cases hk0:k=0
 ·subst hk0;(refine Ad rfl<|Aa<|Ac<|Ai rfl (Bb (by assumption) rfl)<|AM rfl rfl<|Ad rfl<|Az rfl (by omega)<|Aj rfl<|Aj rfl<|Aj rfl<|Aj rfl<|Am rfl rfl<|Ad rfl<|Aa<|Aq ?_);apply A1;rfl;have:=Ex v;simp;omega
 ·obtain⟨k,rfl⟩:∃j,k=j+1:=⟨k - 1,by omega⟩
  (refine Ad rfl<|Aa<|Ac<|Ai rfl (Bb (by assumption) rfl)<|AM rfl rfl<|Ad rfl<|AF rfl (by omega)<|Af rfl<|Ag rfl<|Af rfl<|Ai rfl (Ak 0 rfl rfl)<|Af rfl<|UH<|Af rfl ?_);refine AD rfl (h2 (g:=f1) (cap:=[pZ b3]) (p:=fun x=>decide (Bh x≤k)) (BY.mono hl hl3) (fun x hx cs hcs=>?_)) ?_
  ·refine AG.of' h1 (No rfl) ?_;obtain⟨lv,kv,rfl,_⟩:=hcs.open;show gwp P _ _ _ _ _;apply Ah;apply Ax;refine AR (l:=[vZ x.kind,vZ x.m,vZ x.e,Al x.text,lv,kv]) rfl (fun b5 T5=>?_);(refine Ad rfl<|Aa<|Ac<|AE 0 rfl rfl rfl<|Ai rfl (Bb (by assumption) rfl)<|Bw rfl rfl (by omega) (by omega) ?_);have e:((k+1:Nat):Int) - 1=(k:Int):=by omega
   rw[e];refine AD rfl (ih x hx hcs (by omega)) ?_;(refine Ad rfl<|Aa<|Aq ?_);exact Bs rfl
  ·(refine Ap rfl rfl<|Ad rfl<|Aa<|Aq ?_);apply A1;rfl;rw[Yo];simp only[Xj,decide_eq_true_eq];exact D5.symm
def PB{t}(h:k<0∨6<k):BL (.mk k m e t l ks)=false:=by
 simp only[BL,V.kind];rw[decide_eq_false (show¬(0≤k∧k≤6) by omega)];rfl
def Wz{t}(h:k≠3)(h':¬(m=0∧e=0)):BL (.mk k m e t l ks)=false:=by
 simp only[BL,V.kind,V.m,V.e];rw[decide_eq_false h,decide_eq_false h'];simp
def RT{t}(h:k≠4)(h':t≠[]):BL (.mk k m e t l ks)=false:=by
 simp only[BL,V.kind,V.text];rw[decide_eq_false h,decide_eq_false h'];simp
def OQ{t}(h:k<5)(h':0<l.length):BL (.mk k m e t l ks)=false:=by
 have h2:¬l=[]:=by intro h;subst h;simp at h'
 simp only[BL,V.kind,V.list];rw[decide_eq_false (show¬5≤k by omega),decide_eq_false h2];simp
def JU{t}(h:k≠6)(h':0<ks.length):BL (.mk k m e t l ks)=false:=by
 have h2:¬ks=[]:=by intro h;subst h;simp at h'
 simp only[BL,V.kind,V.keys];rw[decide_eq_false h,decide_eq_false h2];simp
def NW(P:Program)(f:FuncId):Prop:=∀{d cs}{v:V},Aw d cs v→AG P f [.agg cs.toArray] d (.bool (BL v))
def O3:A0:=⟨49,[(.tmp 2)],(sR (o1 1 (.box 0)<|o1 2 (.mv (.const (.bool false))) .done) (.seq (.block 0 (sR (oj 4 0 1<|ol 5 4<|ob 6 .lss 5 z0<|om 7 6<|oF 8 7 (.fld 0 1)<|oF 9 7 (.ld none 8)<|oF 10 7 (.bin .gtr 9 (kZ 6))<|o1 11 (.pick 7 (.const (.bool true)) 10)<|om 3 11 .done) (.cond 3 (sR (o1 2 (.mv (.const (.bool false))) .done) .ret) (.seq (sR (oj 13 0 1<|ol 14 13<|ob 15 .neq 14 (kZ 3)<|om 16 15<|oT 17 16 (.fld 1 1)<|oT 18 16 (.ld (some 2) 17)<|oT 19 16 (.bld [(0,1),(1,1)] [(vZ 0),(vZ 0)] [])<|oT 20 16 (.eqc true [(0,0),(0,1)] 18 19)<|gP 21 16 20<|om 12 21 .done) (.cond 12 .skip (rG (oj 22 0 1<|ol 23 22<|ob 24 .neq 23 (kZ 4)<|om 25 24<|oT 26 25 (.fld 3 1)<|oT 27 25 (.ld none 26)<|oT 28 25 (.bin .neq 27 (.const (Al [])))<|gP 29 25 28<|om 12 29 .done)))) (.cond 12 (sR (o1 2 (.mv (.const (.bool false))) .done) .ret) (.seq (sR (oj 31 0 1<|ol 32 31<|ob 33 .lss 32 (kZ 5)<|om 34 33<|oT 35 34 (.fld 4 1)<|oT 36 34 (.ld none 35)<|oT 37 34 (.len 36)<|oT 38 34 (.bin .gtr 37 z0)<|gP 39 34 38<|om 30 39 .done) (.cond 30 .skip (rG (oj 40 0 1<|ol 41 40<|ob 42 .neq 41 (kZ 6)<|om 43 42<|oT 44 43 (.fld 5 1)<|oT 45 43 (.ld none 44)<|oT 46 43 (.len 45)<|oT 47 43 (.bin .gtr 46 z0)<|gP 48 43 47<|om 30 48 .done)))) (.cond 30 (sR (o1 2 (.mv (.const (.bool false))) .done) .ret) .skip))))))) (sR (o1 2 (.mv (.const (.bool true))) .done) .ret)))⟩
def VM(hd:dec P f=some O3):NW P f:=by
 intro d cs v hv;refine AG.of' hd (No rfl) ?_;obtain⟨lv,kv,rfl,ik,im,ie,it,hl,hks⟩:=hv.open;obtain⟨la,lc,rfl⟩:=RSl.val hl;obtain⟨ka,kc,rfl⟩:=RSl.val hks;obtain⟨k,m,e,t,l,ks⟩:=v;simp only[V.kind,V.m,V.e,V.text,V.list,V.keys] at*;show gwp P _ _ _ _ _;by_cases h1:k<0
 ·(refine Ac<|AR rfl (fun _ _=>Ad rfl<|Aa<|Ah<|As<|Ac<|Ag rfl<|Ai rfl (Ak 0 rfl rfl)<|Av rfl rfl<|Ad rfl<|AF rfl (by omega)<|Aj rfl<|Aj rfl<|Aj rfl<|Ap rfl rfl<|Ad rfl<|Aa<|Bd rfl<|Ac<|Ad rfl<|Aa<|Aq ?_));apply A1;rfl;exact(PB (by omega)).symm
 by_cases h2:k>6
 ·(refine Ac<|AR rfl (fun _ _=>Ad rfl<|Aa<|Ah<|As<|Ac<|Ag rfl<|Ai rfl (Ak 0 rfl rfl)<|Av rfl rfl<|Ad rfl<|Az rfl (by omega)<|Af rfl<|Ag rfl<|Af rfl<|Ai rfl (Ak 0 rfl rfl)<|Af rfl<|AM rfl rfl<|Am rfl rfl<|Ad rfl<|Aa<|Au rfl (by omega)<|Ac<|Ad rfl<|Aa<|Aq ?_));apply A1;rfl;exact(PB (by omega)).symm
 by_cases h3:k≠3∧(true ^^(decide (m=0)&& decide (e=0)))=true
 ·obtain⟨h3,h4⟩:=h3;have h5:¬(m=0∧e=0):=by intro ⟨h,h'⟩;simp[h,h'] at h4
  (refine Ac<|AR rfl (fun _ _=>Ad rfl<|Aa<|Ah<|As<|Ac<|Ag rfl<|Ai rfl (Ak 0 rfl rfl)<|Av rfl rfl<|Ad rfl<|Az rfl (by omega)<|Af rfl<|Ag rfl<|Af rfl<|Ai rfl (Ak 0 rfl rfl)<|Af rfl<|AM rfl rfl<|Am rfl rfl<|Ad rfl<|Aa<|An rfl (by omega)<|Ah<|Ac<|Ag rfl<|Ai rfl (Ak 0 rfl rfl)<|AB rfl rfl<|Ad rfl<|AF rfl (by omega)<|Af rfl<|Ag rfl<|Af rfl<|Bv 0 rfl rfl rfl<|Af rfl<|BF rfl<|Af rfl<|Cc rfl rfl<|Ap rfl rfl<|Ad rfl<|Aa ?_);apply GQ;rfl;(with_reducible assumption);apply Ao;apply GQ;rfl;(with_reducible assumption);refine Ac<|Ad rfl<|Aa<|Aq ?_);apply A1;rfl;exact(Wz h3 h5).symm
 have h3':k=3∨(m=0∧e=0):=by
  by_cases hk:k=3
  ·exact .inl hk
  ·refine .inr ?_;have:¬(true ^^(decide (m=0)&& decide (e=0)))=true:=fun h=>h3 ⟨hk,h⟩;simpa using this
 by_cases hk3:k=3
 ·have hfin:k=3→t=[]→l=[]→ks=[]→true=BL (.mk k m e t l ks):=by
   intro h1 h2 h3 h4;rw[h1,h2,h3,h4];simp[BL,V.kind,V.m,V.e,V.text,V.list,V.keys]
  by_cases h6:t≠[]
  ·(refine Ac<|AR rfl (fun _ _=>Ad rfl<|Aa<|Ah<|As<|Ac<|Ag rfl<|Ai rfl (Ak 0 rfl rfl)<|Av rfl rfl<|Ad rfl<|Az rfl (by omega)<|Af rfl<|Ag rfl<|Af rfl<|Ai rfl (Ak 0 rfl rfl)<|Af rfl<|AM rfl rfl<|Am rfl rfl<|Ad rfl<|Aa<|An rfl (by omega)<|Ah<|Ac<|Ag rfl<|Ai rfl (Ak 0 rfl rfl)<|AB rfl rfl<|Ad rfl<|Az rfl (by omega)<|Aj rfl<|Aj rfl<|Aj rfl<|Aj rfl<|Am rfl rfl<|Ad rfl<|Aa<|AJ rfl<|Ax<|Ag rfl<|Ai rfl (Ak 0 rfl rfl)<|AB rfl rfl<|Ad rfl<|AF rfl (by omega)<|Af rfl<|Ag rfl<|Af rfl<|Ai rfl (Ak 0 rfl rfl)<|Af rfl<|CO rfl rfl<|Ap rfl rfl<|Ad rfl<|Aa<|Au rfl (by omega)<|Ac<|Ad rfl<|Aa<|Aq ?_));apply A1;rfl;exact(RT (by omega) h6).symm
  have h6':t=[]:=by simpa using h6
  by_cases h7:0<l.length
  ·(refine Ac<|AR rfl (fun _ _=>Ad rfl<|Aa<|Ah<|As<|Ac<|Ag rfl<|Ai rfl (Ak 0 rfl rfl)<|Av rfl rfl<|Ad rfl<|Az rfl (by omega)<|Af rfl<|Ag rfl<|Af rfl<|Ai rfl (Ak 0 rfl rfl)<|Af rfl<|AM rfl rfl<|Am rfl rfl<|Ad rfl<|Aa<|An rfl (by omega)<|Ah<|Ac<|Ag rfl<|Ai rfl (Ak 0 rfl rfl)<|AB rfl rfl<|Ad rfl<|Az rfl (by omega)<|Aj rfl<|Aj rfl<|Aj rfl<|Aj rfl<|Am rfl rfl<|Ad rfl<|Aa<|AJ rfl<|Ax<|Ag rfl<|Ai rfl (Ak 0 rfl rfl)<|AB rfl rfl<|Ad rfl<|AF rfl (by omega)<|Af rfl<|Ag rfl<|Af rfl<|Ai rfl (Ak 0 rfl rfl)<|Af rfl<|CO rfl rfl<|Ap rfl rfl<|Ad rfl<|Aa<|An rfl (by omega)<|Ah<|Ac<|Ag rfl<|Ai rfl (Ak 0 rfl rfl)<|Av rfl rfl<|Ad rfl<|AF rfl (by omega)<|Af rfl<|Ag rfl<|Af rfl<|Ai rfl (Ak 0 rfl rfl)<|Af rfl<|Ay rfl<|Af rfl<|AM rfl rfl<|Ap rfl rfl<|Ad rfl<|Aa<|Au rfl (by omega)<|Ao<|Au rfl (by omega)<|Ac<|Ad rfl<|Aa<|Aq ?_));apply A1;rfl;exact(OQ (by omega) h7).symm
  by_cases h8:0<ks.length
  ·(refine Ac<|AR rfl (fun _ _=>Ad rfl<|Aa<|Ah<|As<|Ac<|Ag rfl<|Ai rfl (Ak 0 rfl rfl)<|Av rfl rfl<|Ad rfl<|Az rfl (by omega)<|Af rfl<|Ag rfl<|Af rfl<|Ai rfl (Ak 0 rfl rfl)<|Af rfl<|AM rfl rfl<|Am rfl rfl<|Ad rfl<|Aa<|An rfl (by omega)<|Ah<|Ac<|Ag rfl<|Ai rfl (Ak 0 rfl rfl)<|AB rfl rfl<|Ad rfl<|Az rfl (by omega)<|Aj rfl<|Aj rfl<|Aj rfl<|Aj rfl<|Am rfl rfl<|Ad rfl<|Aa<|AJ rfl<|Ax<|Ag rfl<|Ai rfl (Ak 0 rfl rfl)<|AB rfl rfl<|Ad rfl<|AF rfl (by omega)<|Af rfl<|Ag rfl<|Af rfl<|Ai rfl (Ak 0 rfl rfl)<|Af rfl<|CO rfl rfl<|Ap rfl rfl<|Ad rfl<|Aa<|An rfl (by omega)<|Ah<|Ac<|Ag rfl<|Ai rfl (Ak 0 rfl rfl)<|Av rfl rfl<|Ad rfl<|AF rfl (by omega)<|Af rfl<|Ag rfl<|Af rfl<|Ai rfl (Ak 0 rfl rfl)<|Af rfl<|Ay rfl<|Af rfl<|AM rfl rfl<|Ap rfl rfl<|Ad rfl<|Aa<|An rfl (by omega)<|Ax<|Ag rfl<|Ai rfl (Ak 0 rfl rfl)<|AB rfl rfl<|Ad rfl<|AF rfl (by omega)<|Af rfl<|Ag rfl<|Af rfl<|Ai rfl (Ak 0 rfl rfl)<|Af rfl<|Ay rfl<|Af rfl<|AM rfl rfl<|Ap rfl rfl<|Ad rfl<|Aa<|Au rfl (by omega)<|Ac<|Ad rfl<|Aa<|Aq ?_));apply A1;rfl;exact(JU (by omega) h8).symm
  (refine Ac<|AR rfl (fun _ _=>Ad rfl<|Aa<|Ah<|As<|Ac<|Ag rfl<|Ai rfl (Ak 0 rfl rfl)<|Av rfl rfl<|Ad rfl<|Az rfl (by omega)<|Af rfl<|Ag rfl<|Af rfl<|Ai rfl (Ak 0 rfl rfl)<|Af rfl<|AM rfl rfl<|Am rfl rfl<|Ad rfl<|Aa<|An rfl (by omega)<|Ah<|Ac<|Ag rfl<|Ai rfl (Ak 0 rfl rfl)<|AB rfl rfl<|Ad rfl<|Az rfl (by omega)<|Aj rfl<|Aj rfl<|Aj rfl<|Aj rfl<|Am rfl rfl<|Ad rfl<|Aa<|AJ rfl<|Ax<|Ag rfl<|Ai rfl (Ak 0 rfl rfl)<|AB rfl rfl<|Ad rfl<|AF rfl (by omega)<|Af rfl<|Ag rfl<|Af rfl<|Ai rfl (Ak 0 rfl rfl)<|Af rfl<|CO rfl rfl<|Ap rfl rfl<|Ad rfl<|Aa<|An rfl (by omega)<|Ah<|Ac<|Ag rfl<|Ai rfl (Ak 0 rfl rfl)<|Av rfl rfl<|Ad rfl<|AF rfl (by omega)<|Af rfl<|Ag rfl<|Af rfl<|Ai rfl (Ak 0 rfl rfl)<|Af rfl<|Ay rfl<|Af rfl<|AM rfl rfl<|Ap rfl rfl<|Ad rfl<|Aa<|An rfl (by omega)<|Ax<|Ag rfl<|Ai rfl (Ak 0 rfl rfl)<|AB rfl rfl<|Ad rfl<|AF rfl (by omega)<|Af rfl<|Ag rfl<|Af rfl<|Ai rfl (Ak 0 rfl rfl)<|Af rfl<|Ay rfl<|Af rfl<|AM rfl rfl<|Ap rfl rfl<|Ad rfl<|Aa<|An rfl (by omega)<|Ao<|Ac<|Ad rfl<|Aa<|Aq ?_));apply A1;rfl;have e1:l=[]:=Xo (by omega);have e2:ks=[]:=Xo (by omega);exact hfin hk3 h6' e1 e2
 ·have h5:(true ^^(decide (m=0)&& decide (e=0)))=false:=by
   rcases h3' with h|h
   ·exact absurd h hk3
   ·simp[h]
  have h5':m=0∧e=0:=by
   rcases h3' with h|h
   ·exact absurd h hk3
   ·exact h
  by_cases h6:k≠4∧t≠[]
  ·obtain⟨h6,h6'⟩:=h6;(refine Ac<|AR rfl (fun _ _=>Ad rfl<|Aa<|Ah<|As<|Ac<|Ag rfl<|Ai rfl (Ak 0 rfl rfl)<|Av rfl rfl<|Ad rfl<|Az rfl (by omega)<|Af rfl<|Ag rfl<|Af rfl<|Ai rfl (Ak 0 rfl rfl)<|Af rfl<|AM rfl rfl<|Am rfl rfl<|Ad rfl<|Aa<|An rfl (by omega)<|Ah<|Ac<|Ag rfl<|Ai rfl (Ak 0 rfl rfl)<|AB rfl rfl<|Ad rfl<|AF rfl (by omega)<|Af rfl<|Ag rfl<|Af rfl<|Bv 0 rfl rfl rfl<|Af rfl<|BF rfl<|Af rfl<|Cc rfl rfl<|Ap rfl rfl<|Ad rfl<|Aa ?_);apply Dq;rfl;(with_reducible assumption);refine Ax<|Ag rfl<|Ai rfl (Ak 0 rfl rfl)<|AB rfl rfl<|Ad rfl<|AF rfl (by omega)<|Af rfl<|Ag rfl<|Af rfl<|Ai rfl (Ak 0 rfl rfl)<|Af rfl<|CO rfl rfl<|Ap rfl rfl<|Ad rfl<|Aa<|Au rfl (by omega)<|Ac<|Ad rfl<|Aa<|Aq ?_);apply A1;rfl;exact(RT h6 h6').symm
  have h6b:k=4∨t=[]:=by
   by_cases hk:k=4
   ·exact .inl hk
   ·exact .inr (by by_cases ht:t=[]<;>simp_all)
  by_cases h7:k<5∧0<l.length
  ·obtain⟨h7,h7'⟩:=h7;have hl0:l≠[]:=by intro h;subst h;simp at h7'
   by_cases hk4:k=4
   ·(refine Ac<|AR rfl (fun _ _=>Ad rfl<|Aa<|Ah<|As<|Ac<|Ag rfl<|Ai rfl (Ak 0 rfl rfl)<|Av rfl rfl<|Ad rfl<|Az rfl (by omega)<|Af rfl<|Ag rfl<|Af rfl<|Ai rfl (Ak 0 rfl rfl)<|Af rfl<|AM rfl rfl<|Am rfl rfl<|Ad rfl<|Aa<|An rfl (by omega)<|Ah<|Ac<|Ag rfl<|Ai rfl (Ak 0 rfl rfl)<|AB rfl rfl<|Ad rfl<|AF rfl (by omega)<|Af rfl<|Ag rfl<|Af rfl<|Bv 0 rfl rfl rfl<|Af rfl<|BF rfl<|Af rfl<|Cc rfl rfl<|Ap rfl rfl<|Ad rfl<|Aa ?_);apply Dq;rfl;(with_reducible assumption);refine Ax<|Ag rfl<|Ai rfl (Ak 0 rfl rfl)<|AB rfl rfl<|Ad rfl<|Az rfl (by omega)<|Aj rfl<|Aj rfl<|Aj rfl<|Am rfl rfl<|Ad rfl<|Aa<|AJ rfl<|Ah<|Ac<|Ag rfl<|Ai rfl (Ak 0 rfl rfl)<|Av rfl rfl<|Ad rfl<|AF rfl (by omega)<|Af rfl<|Ag rfl<|Af rfl<|Ai rfl (Ak 0 rfl rfl)<|Af rfl<|Ay rfl<|Af rfl<|AM rfl rfl<|Ap rfl rfl<|Ad rfl<|Aa<|Au rfl (by omega)<|Ao<|Au rfl (by omega)<|Ac<|Ad rfl<|Aa<|Aq ?_);apply A1;rfl;exact(OQ h7 h7').symm
   ·have h6c:¬(t≠[]):=by
     rcases h6b with h|h
     ·exact absurd h hk4
     ·simp[h]
    (refine Ac<|AR rfl (fun _ _=>Ad rfl<|Aa<|Ah<|As<|Ac<|Ag rfl<|Ai rfl (Ak 0 rfl rfl)<|Av rfl rfl<|Ad rfl<|Az rfl (by omega)<|Af rfl<|Ag rfl<|Af rfl<|Ai rfl (Ak 0 rfl rfl)<|Af rfl<|AM rfl rfl<|Am rfl rfl<|Ad rfl<|Aa<|An rfl (by omega)<|Ah<|Ac<|Ag rfl<|Ai rfl (Ak 0 rfl rfl)<|AB rfl rfl<|Ad rfl<|AF rfl (by omega)<|Af rfl<|Ag rfl<|Af rfl<|Bv 0 rfl rfl rfl<|Af rfl<|BF rfl<|Af rfl<|Cc rfl rfl<|Ap rfl rfl<|Ad rfl<|Aa ?_);apply Dq;rfl;(with_reducible assumption);refine Ax<|Ag rfl<|Ai rfl (Ak 0 rfl rfl)<|AB rfl rfl<|Ad rfl<|AF rfl (by omega)<|Af rfl<|Ag rfl<|Af rfl<|Ai rfl (Ak 0 rfl rfl)<|Af rfl<|CO rfl rfl<|Ap rfl rfl<|Ad rfl<|Aa<|An rfl (by omega)<|Ah<|Ac<|Ag rfl<|Ai rfl (Ak 0 rfl rfl)<|Av rfl rfl<|Ad rfl<|AF rfl (by omega)<|Af rfl<|Ag rfl<|Af rfl<|Ai rfl (Ak 0 rfl rfl)<|Af rfl<|Ay rfl<|Af rfl<|AM rfl rfl<|Ap rfl rfl<|Ad rfl<|Aa<|Au rfl (by omega)<|Ao<|Au rfl (by omega)<|Ac<|Ad rfl<|Aa<|Aq ?_);apply A1;rfl;exact(OQ h7 h7').symm
  by_cases h8:k≠6∧0<ks.length
  ·obtain⟨h8,h8'⟩:=h8;have hl0:ks≠[]:=by intro h;subst h;simp at h8'
   by_cases hk4:k=4
   ·have h7c:¬0<l.length:=fun h=>h7 ⟨by omega,h⟩;(refine Ac<|AR rfl (fun _ _=>Ad rfl<|Aa<|Ah<|As<|Ac<|Ag rfl<|Ai rfl (Ak 0 rfl rfl)<|Av rfl rfl<|Ad rfl<|Az rfl (by omega)<|Af rfl<|Ag rfl<|Af rfl<|Ai rfl (Ak 0 rfl rfl)<|Af rfl<|AM rfl rfl<|Am rfl rfl<|Ad rfl<|Aa<|An rfl (by omega)<|Ah<|Ac<|Ag rfl<|Ai rfl (Ak 0 rfl rfl)<|AB rfl rfl<|Ad rfl<|AF rfl (by omega)<|Af rfl<|Ag rfl<|Af rfl<|Bv 0 rfl rfl rfl<|Af rfl<|BF rfl<|Af rfl<|Cc rfl rfl<|Ap rfl rfl<|Ad rfl<|Aa ?_);apply Dq;rfl;(with_reducible assumption);refine Ax<|Ag rfl<|Ai rfl (Ak 0 rfl rfl)<|AB rfl rfl<|Ad rfl<|Az rfl (by omega)<|Aj rfl<|Aj rfl<|Aj rfl<|Am rfl rfl<|Ad rfl<|Aa<|AJ rfl<|Ah<|Ac<|Ag rfl<|Ai rfl (Ak 0 rfl rfl)<|Av rfl rfl<|Ad rfl<|AF rfl (by omega)<|Af rfl<|Ag rfl<|Af rfl<|Ai rfl (Ak 0 rfl rfl)<|Af rfl<|Ay rfl<|Af rfl<|AM rfl rfl<|Ap rfl rfl<|Ad rfl<|Aa<|An rfl (by omega)<|Ax<|Ag rfl<|Ai rfl (Ak 0 rfl rfl)<|AB rfl rfl<|Ad rfl<|AF rfl (by omega)<|Af rfl<|Ag rfl<|Af rfl<|Ai rfl (Ak 0 rfl rfl)<|Af rfl<|Ay rfl<|Af rfl<|AM rfl rfl<|Ap rfl rfl<|Ad rfl<|Aa<|Au rfl (by omega)<|Ac<|Ad rfl<|Aa<|Aq ?_);apply A1;rfl;exact(JU h8 h8').symm
   ·have h6c:¬(t≠[]):=by
     rcases h6b with h|h
     ·exact absurd h hk4
     ·simp[h]
    by_cases h7c:k<5
    ·have h7d:¬0<l.length:=fun h=>h7 ⟨h7c,h⟩;(refine Ac<|AR rfl (fun _ _=>Ad rfl<|Aa<|Ah<|As<|Ac<|Ag rfl<|Ai rfl (Ak 0 rfl rfl)<|Av rfl rfl<|Ad rfl<|Az rfl (by omega)<|Af rfl<|Ag rfl<|Af rfl<|Ai rfl (Ak 0 rfl rfl)<|Af rfl<|AM rfl rfl<|Am rfl rfl<|Ad rfl<|Aa<|An rfl (by omega)<|Ah<|Ac<|Ag rfl<|Ai rfl (Ak 0 rfl rfl)<|AB rfl rfl<|Ad rfl<|AF rfl (by omega)<|Af rfl<|Ag rfl<|Af rfl<|Bv 0 rfl rfl rfl<|Af rfl<|BF rfl<|Af rfl<|Cc rfl rfl<|Ap rfl rfl<|Ad rfl<|Aa ?_);apply Dq;rfl;(with_reducible assumption);refine Ax<|Ag rfl<|Ai rfl (Ak 0 rfl rfl)<|AB rfl rfl<|Ad rfl<|AF rfl (by omega)<|Af rfl<|Ag rfl<|Af rfl<|Ai rfl (Ak 0 rfl rfl)<|Af rfl<|CO rfl rfl<|Ap rfl rfl<|Ad rfl<|Aa<|An rfl (by omega)<|Ah<|Ac<|Ag rfl<|Ai rfl (Ak 0 rfl rfl)<|Av rfl rfl<|Ad rfl<|AF rfl (by omega)<|Af rfl<|Ag rfl<|Af rfl<|Ai rfl (Ak 0 rfl rfl)<|Af rfl<|Ay rfl<|Af rfl<|AM rfl rfl<|Ap rfl rfl<|Ad rfl<|Aa<|An rfl (by omega)<|Ax<|Ag rfl<|Ai rfl (Ak 0 rfl rfl)<|AB rfl rfl<|Ad rfl<|AF rfl (by omega)<|Af rfl<|Ag rfl<|Af rfl<|Ai rfl (Ak 0 rfl rfl)<|Af rfl<|Ay rfl<|Af rfl<|AM rfl rfl<|Ap rfl rfl<|Ad rfl<|Aa<|Au rfl (by omega)<|Ac<|Ad rfl<|Aa<|Aq ?_);apply A1;rfl;exact(JU h8 h8').symm
    ·(refine Ac<|AR rfl (fun _ _=>Ad rfl<|Aa<|Ah<|As<|Ac<|Ag rfl<|Ai rfl (Ak 0 rfl rfl)<|Av rfl rfl<|Ad rfl<|Az rfl (by omega)<|Af rfl<|Ag rfl<|Af rfl<|Ai rfl (Ak 0 rfl rfl)<|Af rfl<|AM rfl rfl<|Am rfl rfl<|Ad rfl<|Aa<|An rfl (by omega)<|Ah<|Ac<|Ag rfl<|Ai rfl (Ak 0 rfl rfl)<|AB rfl rfl<|Ad rfl<|AF rfl (by omega)<|Af rfl<|Ag rfl<|Af rfl<|Bv 0 rfl rfl rfl<|Af rfl<|BF rfl<|Af rfl<|Cc rfl rfl<|Ap rfl rfl<|Ad rfl<|Aa ?_);apply Dq;rfl;(with_reducible assumption);refine Ax<|Ag rfl<|Ai rfl (Ak 0 rfl rfl)<|AB rfl rfl<|Ad rfl<|AF rfl (by omega)<|Af rfl<|Ag rfl<|Af rfl<|Ai rfl (Ak 0 rfl rfl)<|Af rfl<|CO rfl rfl<|Ap rfl rfl<|Ad rfl<|Aa<|An rfl (by omega)<|Ah<|Ac<|Ag rfl<|Ai rfl (Ak 0 rfl rfl)<|Av rfl rfl<|Ad rfl<|Az rfl (by omega)<|Aj rfl<|Aj rfl<|Aj rfl<|Aj rfl<|Am rfl rfl<|Ad rfl<|Aa<|AJ rfl<|Ax<|Ag rfl<|Ai rfl (Ak 0 rfl rfl)<|AB rfl rfl<|Ad rfl<|AF rfl (by omega)<|Af rfl<|Ag rfl<|Af rfl<|Ai rfl (Ak 0 rfl rfl)<|Af rfl<|Ay rfl<|Af rfl<|AM rfl rfl<|Ap rfl rfl<|Ad rfl<|Aa<|Au rfl (by omega)<|Ac<|Ad rfl<|Aa<|Aq ?_);apply A1;rfl;exact(JU h8 h8').symm
  have e2:k=6∨ks=[]:=by
   by_cases hk:k=6
   ·exact .inl hk
   ·exact .inr (Xo (by
     have:¬0<ks.length:=fun h=>h8 ⟨hk,h⟩;omega))
  have e1:5≤k∨l=[]:=by
   by_cases hk:5≤k
   ·exact .inl hk
   ·exact .inr (Xo (by
     have:¬0<l.length:=fun h=>h7 ⟨by omega,h⟩;omega))
  have fin:true=BL (.mk k m e t l ks):=by
   simp only[BL,V.kind,V.m,V.e,V.text,V.list,V.keys];rw[eq_comm];simp only[Xg,XN,decide_eq_true_eq];exact⟨⟨⟨⟨by omega,.inr h5'⟩,h6b⟩,e1⟩,e2⟩
  by_cases hk4:k=4
  ·have h7c:¬0<l.length:=fun h=>h7 ⟨by omega,h⟩;have h8c:¬0<ks.length:=fun h=>h8 ⟨by omega,h⟩;(refine Ac<|AR rfl (fun _ _=>Ad rfl<|Aa<|Ah<|As<|Ac<|Ag rfl<|Ai rfl (Ak 0 rfl rfl)<|Av rfl rfl<|Ad rfl<|Az rfl (by omega)<|Af rfl<|Ag rfl<|Af rfl<|Ai rfl (Ak 0 rfl rfl)<|Af rfl<|AM rfl rfl<|Am rfl rfl<|Ad rfl<|Aa<|An rfl (by omega)<|Ah<|Ac<|Ag rfl<|Ai rfl (Ak 0 rfl rfl)<|AB rfl rfl<|Ad rfl<|AF rfl (by omega)<|Af rfl<|Ag rfl<|Af rfl<|Bv 0 rfl rfl rfl<|Af rfl<|BF rfl<|Af rfl<|Cc rfl rfl<|Ap rfl rfl<|Ad rfl<|Aa ?_);apply Dq;rfl;(with_reducible assumption);refine Ax<|Ag rfl<|Ai rfl (Ak 0 rfl rfl)<|AB rfl rfl<|Ad rfl<|Az rfl (by omega)<|Aj rfl<|Aj rfl<|Aj rfl<|Am rfl rfl<|Ad rfl<|Aa<|AJ rfl<|Ah<|Ac<|Ag rfl<|Ai rfl (Ak 0 rfl rfl)<|Av rfl rfl<|Ad rfl<|AF rfl (by omega)<|Af rfl<|Ag rfl<|Af rfl<|Ai rfl (Ak 0 rfl rfl)<|Af rfl<|Ay rfl<|Af rfl<|AM rfl rfl<|Ap rfl rfl<|Ad rfl<|Aa<|An rfl (by omega)<|Ax<|Ag rfl<|Ai rfl (Ak 0 rfl rfl)<|AB rfl rfl<|Ad rfl<|AF rfl (by omega)<|Af rfl<|Ag rfl<|Af rfl<|Ai rfl (Ak 0 rfl rfl)<|Af rfl<|Ay rfl<|Af rfl<|AM rfl rfl<|Ap rfl rfl<|Ad rfl<|Aa<|An rfl (by omega)<|Ao<|Ac<|Ad rfl<|Aa<|Aq ?_);apply A1;rfl;exact fin
  ·have h6c:¬(t≠[]):=by
    rcases h6b with h|h
    ·exact absurd h hk4
    ·simp[h]
   by_cases h7c:k<5
   ·have h7d:¬0<l.length:=fun h=>h7 ⟨h7c,h⟩;have h8c:¬0<ks.length:=fun h=>h8 ⟨by omega,h⟩;(refine Ac<|AR rfl (fun _ _=>Ad rfl<|Aa<|Ah<|As<|Ac<|Ag rfl<|Ai rfl (Ak 0 rfl rfl)<|Av rfl rfl<|Ad rfl<|Az rfl (by omega)<|Af rfl<|Ag rfl<|Af rfl<|Ai rfl (Ak 0 rfl rfl)<|Af rfl<|AM rfl rfl<|Am rfl rfl<|Ad rfl<|Aa<|An rfl (by omega)<|Ah<|Ac<|Ag rfl<|Ai rfl (Ak 0 rfl rfl)<|AB rfl rfl<|Ad rfl<|AF rfl (by omega)<|Af rfl<|Ag rfl<|Af rfl<|Bv 0 rfl rfl rfl<|Af rfl<|BF rfl<|Af rfl<|Cc rfl rfl<|Ap rfl rfl<|Ad rfl<|Aa ?_);apply Dq;rfl;(with_reducible assumption);refine Ax<|Ag rfl<|Ai rfl (Ak 0 rfl rfl)<|AB rfl rfl<|Ad rfl<|AF rfl (by omega)<|Af rfl<|Ag rfl<|Af rfl<|Ai rfl (Ak 0 rfl rfl)<|Af rfl<|CO rfl rfl<|Ap rfl rfl<|Ad rfl<|Aa<|An rfl (by omega)<|Ah<|Ac<|Ag rfl<|Ai rfl (Ak 0 rfl rfl)<|Av rfl rfl<|Ad rfl<|AF rfl (by omega)<|Af rfl<|Ag rfl<|Af rfl<|Ai rfl (Ak 0 rfl rfl)<|Af rfl<|Ay rfl<|Af rfl<|AM rfl rfl<|Ap rfl rfl<|Ad rfl<|Aa<|An rfl (by omega)<|Ax<|Ag rfl<|Ai rfl (Ak 0 rfl rfl)<|AB rfl rfl<|Ad rfl<|AF rfl (by omega)<|Af rfl<|Ag rfl<|Af rfl<|Ai rfl (Ak 0 rfl rfl)<|Af rfl<|Ay rfl<|Af rfl<|AM rfl rfl<|Ap rfl rfl<|Ad rfl<|Aa<|An rfl (by omega)<|Ao<|Ac<|Ad rfl<|Aa<|Aq ?_);apply A1;rfl;exact fin
   ·by_cases h8c:k=6
    ·(refine Ac<|AR rfl (fun _ _=>Ad rfl<|Aa<|Ah<|As<|Ac<|Ag rfl<|Ai rfl (Ak 0 rfl rfl)<|Av rfl rfl<|Ad rfl<|Az rfl (by omega)<|Af rfl<|Ag rfl<|Af rfl<|Ai rfl (Ak 0 rfl rfl)<|Af rfl<|AM rfl rfl<|Am rfl rfl<|Ad rfl<|Aa<|An rfl (by omega)<|Ah<|Ac<|Ag rfl<|Ai rfl (Ak 0 rfl rfl)<|AB rfl rfl<|Ad rfl<|AF rfl (by omega)<|Af rfl<|Ag rfl<|Af rfl<|Bv 0 rfl rfl rfl<|Af rfl<|BF rfl<|Af rfl<|Cc rfl rfl<|Ap rfl rfl<|Ad rfl<|Aa ?_);apply Dq;rfl;(with_reducible assumption);refine Ax<|Ag rfl<|Ai rfl (Ak 0 rfl rfl)<|AB rfl rfl<|Ad rfl<|AF rfl (by omega)<|Af rfl<|Ag rfl<|Af rfl<|Ai rfl (Ak 0 rfl rfl)<|Af rfl<|CO rfl rfl<|Ap rfl rfl<|Ad rfl<|Aa<|An rfl (by omega)<|Ah<|Ac<|Ag rfl<|Ai rfl (Ak 0 rfl rfl)<|Av rfl rfl<|Ad rfl<|Az rfl (by omega)<|Aj rfl<|Aj rfl<|Aj rfl<|Aj rfl<|Am rfl rfl<|Ad rfl<|Aa<|AJ rfl<|Ax<|Ag rfl<|Ai rfl (Ak 0 rfl rfl)<|AB rfl rfl<|Ad rfl<|Az rfl (by omega)<|Aj rfl<|Aj rfl<|Aj rfl<|Aj rfl<|Am rfl rfl<|Ad rfl<|Aa<|AJ rfl<|Ao<|Ac<|Ad rfl<|Aa<|Aq ?_);apply A1;rfl;exact fin
    ·have h8d:¬0<ks.length:=fun h=>h8 ⟨h8c,h⟩;(refine Ac<|AR rfl (fun _ _=>Ad rfl<|Aa<|Ah<|As<|Ac<|Ag rfl<|Ai rfl (Ak 0 rfl rfl)<|Av rfl rfl<|Ad rfl<|Az rfl (by omega)<|Af rfl<|Ag rfl<|Af rfl<|Ai rfl (Ak 0 rfl rfl)<|Af rfl<|AM rfl rfl<|Am rfl rfl<|Ad rfl<|Aa<|An rfl (by omega)<|Ah<|Ac<|Ag rfl<|Ai rfl (Ak 0 rfl rfl)<|AB rfl rfl<|Ad rfl<|AF rfl (by omega)<|Af rfl<|Ag rfl<|Af rfl<|Bv 0 rfl rfl rfl<|Af rfl<|BF rfl<|Af rfl<|Cc rfl rfl<|Ap rfl rfl<|Ad rfl<|Aa ?_);apply Dq;rfl;(with_reducible assumption);refine Ax<|Ag rfl<|Ai rfl (Ak 0 rfl rfl)<|AB rfl rfl<|Ad rfl<|AF rfl (by omega)<|Af rfl<|Ag rfl<|Af rfl<|Ai rfl (Ak 0 rfl rfl)<|Af rfl<|CO rfl rfl<|Ap rfl rfl<|Ad rfl<|Aa<|An rfl (by omega)<|Ah<|Ac<|Ag rfl<|Ai rfl (Ak 0 rfl rfl)<|Av rfl rfl<|Ad rfl<|Az rfl (by omega)<|Aj rfl<|Aj rfl<|Aj rfl<|Aj rfl<|Am rfl rfl<|Ad rfl<|Aa<|AJ rfl<|Ax<|Ag rfl<|Ai rfl (Ak 0 rfl rfl)<|AB rfl rfl<|Ad rfl<|AF rfl (by omega)<|Af rfl<|Ag rfl<|Af rfl<|Ai rfl (Ak 0 rfl rfl)<|Af rfl<|Ay rfl<|Af rfl<|AM rfl rfl<|Ap rfl rfl<|Ad rfl<|Aa<|An rfl (by omega)<|Ao<|Ac<|Ad rfl<|Aa<|Aq ?_);apply A1;rfl;exact fin
def Wa:m.tmod 10=0↔m % 10=0:=by
 constructor
 ·intro h;exact Int.emod_eq_zero_of_dvd (Int.dvd_of_tmod_eq_zero h)
 ·intro h;exact Int.tmod_eq_zero_of_dvd (Int.dvd_of_emod_eq_zero h)
def Hj:List Value:=(XK 20).map fun i=>.int .u64 ((10 ^ i:Nat):Int)
def Lm(P:Program)(f:FuncId):Prop:=∀{d}{m e:Int},I64 m→AG P f [.agg [vZ m,vZ e].toArray] d (.int .u64 m.natAbs)
def Qz:A0:=⟨13,[(.tmp 2)],(sR (o1 1 (.box 0)<|o1 2 (.mv (.const (.int .u64 0))) .done) (.seq (sR (oj 3 0 1<|ol 4 3<|ob 5 .lss 4 z0 .done) (.cond 5 (sR (oj 6 0 1<|ol 7 6<|o1 8 (.cvi .u64 7)<|o1 9 (.un .neg 8)<|om 2 9 .done) .ret) .skip)) (sR (oj 10 0 1<|ol 11 10<|o1 12 (.cvi .u64 11)<|om 2 12 .done) .ret)))⟩
def VE(hd:dec P f=some Qz):Lm P f:=by
 intro d m e ⟨h1,h2⟩;refine AG.of' hd (No rfl) ?_;show gwp P _ _ _ _ _;by_cases h:m<0
 ·(refine Ac<|AR rfl (fun _ _=>Ab rfl<|Aa<|Ah<|Ac<|Ag rfl<|Ai rfl (Ak 0 rfl rfl)<|Av rfl rfl<|Aa<|Au rfl (by omega)<|Ac<|Ag rfl<|Ai rfl (Ak 0 rfl rfl)<|Fg rfl<|V9 rfl<|Ab rfl<|Aa<|Aq ?_));apply Dt;rfl;omega
 ·(refine Ac<|AR rfl (fun _ _=>Ab rfl<|Aa<|Ah<|Ac<|Ag rfl<|Ai rfl (Ak 0 rfl rfl)<|Av rfl rfl<|Aa<|An rfl (by omega)<|Ao<|Ac<|Ag rfl<|Ai rfl (Ak 0 rfl rfl)<|Fg rfl<|Ab rfl<|Aa<|Aq ?_));apply Dt;rfl;omega
def Py(P:Program)(f:FuncId):Prop:=∀{d},AG P f [] d (.agg [vZ 0,vZ 0].toArray)
def QT:A0:=⟨2,[(.cell 0 (some 2))],(sR (o1 0 (.alo (.agg #[(vZ 0),(vZ 0)])) .done) (sR (o1 1 (.bld [(0,1),(1,1)] [(vZ 0),(vZ 0)] [])<|o0 (.st 2 0 1) .done) .ret))⟩
def VH(hd:dec P f=some QT):Py P f:=by
 intro d;refine AG.of' hd (No rfl) ?_;show gwp P _ _ _ _ _;(refine Ac<|AV (fun _ _=>Aa<|Ac<|BF rfl ?_));rename_i b T;refine AA 0 [vZ 0,vZ 0] rfl rfl rfl rfl (No rfl) rfl rfl ?_;(refine Aa<|Aq ?_);exact B8 [.agg [vZ 0,vZ 0].toArray] ⟨A4 0 rfl rfl rfl,trivial⟩ (Xm _) ⟨rfl,rfl⟩
def Io(T:Ae→Prop)(P:Program)(f:FuncId):Prop:=∀{d}{m e:Int},T d→I64 m→I64 e→AG P f [.agg [vZ m,vZ e].toArray] d (.bool (Bg m e))
def Tk(T:Ae→Prop)(P:Program)(f:FuncId):Prop:=∀{d l},T d→l.length≤140737488355328→AG P f [Al l] d (.bool (u8 l))
def P2(a0 a1 a2:Nat):A0:=⟨30,[(.tmp 2)],(sR (o1 1 (.box 0)<|o1 2 (.mv (.const (.bool false))) .done) (.seq (sR (oj 3 0 1<|ol 4 3<|ob 5 .eql 4 z0 .done) (.cond 5 (.seq (.reg true (p1 6 (.ld (some 2) 1)<|oc 7 a0 []<|p1 8 (.eqc false [(0,0),(0,1)] 6 7) (.bar (pm 2 8 .done)))) .ret) .skip)) (.seq (.reg true (p1 9 (.ld (some 2) 1)<|p1 11 (.idxa 20 1 (.global a1) (kZ 18))<|pl 12 11<|oc 10 a2 [9]<|p1 13 (.bin .lss 10 12)<|pm 14 13 (.op true ⟨(some 15),(some (14,true)),(.fld 0 1)⟩ (.op true ⟨(some 16),(some (14,true)),(.ld none 15)⟩ (.op true ⟨(some 17),(some (14,true)),(.bin .rem 16 (kZ 10))⟩ (.op true ⟨(some 18),(some (14,true)),(.bin .neq 17 z0)⟩ (p1 19 (.pick 14 18 (.const (.bool false))) (pm 20 19 (.op true ⟨(some 21),(some (20,true)),(.fld 1 1)⟩ (.op true ⟨(some 22),(some (20,true)),(.ld none 21)⟩ (.op true ⟨(some 23),(some (20,true)),(.bin .geq 22 (kZ (-64)))⟩ (p1 24 (.pick 20 23 (.const (.bool false))) (pm 25 24 (.op true ⟨(some 26),(some (25,true)),(.fld 1 1)⟩ (.op true ⟨(some 27),(some (25,true)),(.ld none 26)⟩ (.op true ⟨(some 28),(some (25,true)),(.bin .leq 27 (kZ 64))⟩ (p1 29 (.pick 25 28 (.const (.bool false))) (.bar (pm 2 29 .done))))))))))))))))))) .ret)))⟩
def We{T:Ae→Prop}{g2 f3}(hT:∀d,T d→DCs d g2 0 Hj)(hd:dec P f=some (P2 f1 g2 f3))(h1:Py P f1)(h3:Lm P f3):Io T P f:=by
 intro d m e ht hm he;have htab:=hT d ht;have ht18:DC d g2 18 (.int .u64 1000000000000000000):=htab.at (i:=18) rfl;obtain⟨he1,he2⟩:=he;refine AG.of' hd (No rfl) ?_;show gwp P _ _ _ _ _;apply Ah;apply Ax;refine AR (l:=[vZ m,vZ e]) rfl (fun b1 T1=>?_);by_cases h:m=0
 ·subst h;(refine Ad rfl<|Aa<|Ah<|Ac<|Ag rfl<|Ai rfl (Ak 0 rfl rfl)<|At rfl rfl<|Aa<|Au rfl (by omega)<|Ah<|Bp<|AE 0 rfl rfl rfl ?_);refine AD rfl h1 ?_;(refine Cc rfl rfl<|Cr<|Ad rfl<|Aa<|Aq ?_);apply A1;rfl;simp[Bg]
 ·(refine Ad rfl<|Aa<|Ah<|Ac<|Ag rfl<|Ai rfl (Ak 0 rfl rfl)<|At rfl rfl<|Aa<|An rfl (by omega)<|Ao<|Ah ?_);refine Bp ?_;(apply AE 0;rfl;rfl;rfl);refine Pc 18 rfl rfl rfl (by omega) ?_;refine Ai rfl (KH (by exact ht18)) ?_;refine AD rfl (h3 hm) ?_;have hmI:=hm;obtain⟨hm1,hm2⟩:=hm;have hmod:=Wa (m:=m);by_cases h4:(m.natAbs:Int)<1000000000000000000
  ·by_cases h5:m.tmod 10≠0
   ·by_cases h6:e≥ -64
    ·by_cases h7:e≤64
     ·(refine Av rfl rfl<|Ad rfl<|AF rfl (by omega)<|Af rfl<|Ag rfl<|Af rfl<|Ai rfl (Ak 0 rfl rfl)<|Af rfl<|FT rfl rfl (by omega)<|Af rfl<|AB rfl rfl<|Ap rfl rfl<|Ad rfl<|AF rfl (by omega)<|Af rfl<|Ag rfl<|Af rfl<|Ai rfl (Ak 0 rfl rfl)<|Af rfl<|CY rfl rfl<|Ap rfl rfl<|Ad rfl<|AF rfl (by omega)<|Af rfl<|Ag rfl<|Af rfl<|Ai rfl (Ak 0 rfl rfl)<|Af rfl<|C1 rfl rfl<|Ap rfl rfl<|Cr<|Ad rfl<|Aa<|Aq ?_);apply A1;rfl;(rw[Bg,if_neg h,Yo];simp only[decide_eq_true_eq];omega)
     ·(refine Av rfl rfl<|Ad rfl<|AF rfl (by omega)<|Af rfl<|Ag rfl<|Af rfl<|Ai rfl (Ak 0 rfl rfl)<|Af rfl<|FT rfl rfl (by omega)<|Af rfl<|AB rfl rfl<|Ap rfl rfl<|Ad rfl<|AF rfl (by omega)<|Af rfl<|Ag rfl<|Af rfl<|Ai rfl (Ak 0 rfl rfl)<|Af rfl<|CY rfl rfl<|Ap rfl rfl<|Ad rfl<|AF rfl (by omega)<|Af rfl<|Ag rfl<|Af rfl<|Ai rfl (Ak 0 rfl rfl)<|Af rfl<|C1 rfl rfl<|Ap rfl rfl<|Cr<|Ad rfl<|Aa<|Aq ?_);apply A1;rfl;(rw[Bg,if_neg h,Yo];simp only[decide_eq_true_eq];omega)
    ·(refine Av rfl rfl<|Ad rfl<|AF rfl (by omega)<|Af rfl<|Ag rfl<|Af rfl<|Ai rfl (Ak 0 rfl rfl)<|Af rfl<|FT rfl rfl (by omega)<|Af rfl<|AB rfl rfl<|Ap rfl rfl<|Ad rfl<|AF rfl (by omega)<|Af rfl<|Ag rfl<|Af rfl<|Ai rfl (Ak 0 rfl rfl)<|Af rfl<|CY rfl rfl<|Ap rfl rfl<|Ad rfl<|Az rfl (by omega)<|Aj rfl<|Aj rfl<|Aj rfl<|Am rfl rfl<|Cr<|Ad rfl<|Aa<|Aq ?_);apply A1;rfl;(rw[Bg,if_neg h,Yo];simp only[XG,decide_eq_true_eq,false_iff];omega)
   ·(refine Av rfl rfl<|Ad rfl<|AF rfl (by omega)<|Af rfl<|Ag rfl<|Af rfl<|Ai rfl (Ak 0 rfl rfl)<|Af rfl<|FT rfl rfl (by omega)<|Af rfl<|AB rfl rfl<|Ap rfl rfl<|Ad rfl<|Az rfl (by omega)<|Aj rfl<|Aj rfl<|Aj rfl<|Am rfl rfl<|Ad rfl<|Aj rfl<|Aj rfl<|Aj rfl<|Am rfl rfl<|Cr<|Ad rfl<|Aa<|Aq ?_);apply A1;rfl;(rw[Bg,if_neg h,Yo];simp only[XG,decide_eq_true_eq,false_iff];omega)
  ·(refine Av rfl rfl<|Ad rfl<|Az rfl (by omega)<|Aj rfl<|Aj rfl<|Aj rfl<|Aj rfl<|Am rfl rfl<|Ad rfl<|Aj rfl<|Aj rfl<|Aj rfl<|Am rfl rfl<|Ad rfl<|Aj rfl<|Aj rfl<|Aj rfl<|Am rfl rfl<|Cr<|Ad rfl<|Aa<|Aq ?_);apply A1;rfl;(rw[Bg,if_neg h,Yo];simp only[XG,decide_eq_true_eq,false_iff];omega)
def EO(T:Ae→Prop)(P:Program)(f:FuncId):Prop:=∀{d l},T d→l.length≤140737488355328→AG P f [Al l] d (.bool (u8 l))
def Nz(a0:Nat):A0:=⟨5,[(.tmp 2)],(sR (o1 2 (.mv (.const (.bool false))) .done) (sR (om 3 0<|oc 4 a0 [3]<|om 2 4 .done) .ret))⟩
def TA{T:Ae→Prop}(hd:dec P f=some (Nz f1))(h1:Tk T P f1):EO T P f:=by
 intro d l ht hl;refine AG.of' hd (No rfl) ?_;show gwp P _ _ _ _ _;(refine Ac<|Ad rfl<|Aa<|Ac<|Bj rfl ?_);refine AD rfl (h1 ht hl) ?_;(refine Ad rfl<|Aa<|Aq ?_);exact Bs rfl
def getD_at{i:Nat}(h:i<ks.length):ks.getD i []=ks[i]:=by simp[h]
def Qs(h:0<ks.length):E2 ks 0=u8 ks[0]:=by
 rw[E2,getD_at h];simp
def HM{j:Nat}(h:j+1<ks.length):E2 ks (j+1)=(u8 ks[j+1] && Op.bytesLess ks[j] ks[j+1]):=by
 rw[E2,getD_at h,Nat.add_sub_cancel,getD_at (show j<ks.length by omega)];simp
def P9{i:Nat}(h:i<ks.length)(hu:u8 ks[i]=false):E2 ks i=false:=by
 rw[E2,getD_at h,hu];rfl
def K2(T:Ae→Prop)(P:Program)(f:FuncId):Prop:=∀{d v ks},T d→B9 d v ks→AG P f [v] d (.bool (rising ks))
def Mw(a0:Nat):A0:=⟨29,[(.tmp 2)],(sR (o1 2 (.mv (.const (.bool false))) .done) (.seq (sR (om 5 0<|oL 6 5<|o1 7 (.mv z0) .done) (.block 0 (.loop (sR (ob 8 .lss 7 6 .done) (.seq (.cond 8 .skip (.exit 0)) (.seq (.block 1 (sR (om 9 7<|oI 10 1 5 7<|ol 11 10<|om 3 9<|om 4 11 .done) (sR (om 12 4<|oc 13 a0 [12]<|o1 14 (.un .not 13)<|om 15 14<|gF 16 15 3<|oF 17 15 (.bin .gtr 16 z0)<|gF 18 15 17<|gT 19 18 0<|gT 20 18 3<|oT 21 18 (.bin .sub 20 z1)<|oT 22 18 (.idx 1 19 21)<|oT 23 18 (.ld none 22)<|gT 24 18 4<|oT 25 18 (.bin .geq 23 24)<|oF 26 15 (.pick 18 25 (.const (.bool false)))<|o1 27 (.pick 15 (.const (.bool true)) 26) .done) (.cond 27 (sR (o1 2 (.mv (.const (.bool false))) .done) .ret) .skip)))) (rG (ob 28 .add 7 z1<|om 7 28 .done)))))))) (sR (o1 2 (.mv (.const (.bool true))) .done) .ret)))⟩
def Sk{T:Ae→Prop}(hd:dec P f=some (Mw f1))(h1:EO T P f1):K2 T P f:=by
 intro d v ks ht hv;have hll:=RSl.A2 hv;have hsl:∀i (h:i<ks.length),ks[i].length≤140737488355328:=fun i h=>by
  obtain⟨_,_,_,_,_,_,_,_,_,_,_,h8⟩:=hv;obtain⟨cs,_,_,_,h9⟩:=h8 i h;exact h9
 have hv':RSl 1 Bk d v ks:=hv;obtain⟨a,c,rfl⟩:=RSl.val hv;refine AG.of' hd (No rfl) ?_;show gwp P _ _ _ _ _;(refine Ac<|Ad rfl<|Aa<|Ah<|Ac<|Ar rfl<|Ay rfl<|Ab rfl<|Aa<|As ?_);refine Dy (α:=Nat) (fun i=>[(0,.slice a ks.length c),(5,.slice a ks.length c),(6,vZ ks.length),(7,vZ i)]) (fun _=>[]) (fun i=>i≤ks.length∧Dv ks i=true) (fun i=>ks.length - i) 0 ⟨rfl,rfl,rfl,rfl,trivial⟩ rfl ⟨Xw _,rfl⟩ ?_;rintro i ρ ⟨hi,hr⟩;by_cases hc:i<ks.length
 ·have e0:ks.getD i []=ks[i]:=by simp[hc]
  (refine Ac<|Av rfl rfl<|Aa<|Ah<|Au rfl (by omega)<|Ao<|Ah<|As<|Ac<|Ab rfl<|AN (sz:=1) (R:=Bk) (by rfl) (by assumption) (by rfl) rfl (by omega) ?_;rintro _ _ _ _ _ ⟨rfl,_⟩;refine Ai rfl (Bb (by assumption) rfl)<|Ab rfl<|Bj rfl<|Aa<|Ac<|Bj rfl ?_);refine AD rfl (h1 ht (hsl i hc)) ?_;cases hu:u8 ks[i] with
  |false=>
   (refine Be rfl<|Ad rfl<|Aj rfl<|Aj rfl<|Aj rfl<|AX rfl<|AX rfl<|AX rfl<|AX rfl<|AX rfl<|AX rfl<|AX rfl<|Aj rfl<|Ap rfl rfl<|Aa<|Bd rfl<|Ac<|Ad rfl<|Aa<|Aq ?_)
   apply A1;rfl
   exact(EW (P9 hc hu) hc).symm
  |true=>
   by_cases hi0:i=0
   ·subst hi0
    (refine Be rfl<|Ad rfl<|Af rfl<|Ab rfl<|Af rfl<|AM rfl rfl<|Af rfl<|Ad rfl<|Az rfl (by omega)<|Aj rfl<|Aj rfl<|Aj rfl<|Aj rfl<|Aj rfl<|Aj rfl<|Aj rfl<|Af rfl<|Am rfl rfl<|Am rfl rfl<|Aa<|AJ rfl<|Ao<|Ax<|AI rfl rfl (by omega) (by omega)<|Ab rfl<|Aa ?_)
    exact⟨1,by omega,⟨rfl,rfl,rfl,rfl,trivial⟩,rfl,rfl,by omega,by rw[Dv,Qs hc,hu];rfl⟩
   ·obtain⟨j,rfl⟩:∃j,i=j+1:=⟨i - 1,by omega⟩
    have e1:ks.getD j []=ks[j]:=by simp[show j<ks.length by omega]
    (refine Be rfl<|Ad rfl<|Af rfl<|Ab rfl<|Af rfl<|AM rfl rfl<|Af rfl<|Ad rfl<|AF rfl (by omega)<|Af rfl<|Ar rfl<|Af rfl<|Ab rfl<|Af rfl<|Bw rfl rfl (by omega) (by omega)<|Af rfl ?_)
    refine AN (sz:=1) (R:=Bk) (m:=j) (by rfl) hv' (by rfl) (by omega) (by omega) ?_;rintro _ _ _ _ _ ⟨rfl,_⟩
    cases hb:Op.bytesLess ks[j] ks[j+1] with
    |false=>
     have hb':(!Op.bytesLess ks[j] ks[j+1])=true:=by rw[hb];rfl
     (refine Af rfl<|Ai rfl (Bb (by assumption) rfl)<|Af rfl<|Bj rfl<|Af rfl<|NV rfl rfl<|Af rfl<|Ap rfl rfl<|Am rfl rfl<|Aa ?_;apply GQ;rfl;(with_reducible assumption);refine Ac<|Ad rfl<|Aa<|Aq ?_)
     apply A1;rfl
     exact(EW (by rw[HM hc,hb,Bool.and_false]) hc).symm
    |true=>
     have hb':(!Op.bytesLess ks[j] ks[j+1])=false:=by rw[hb];rfl
     (refine Af rfl<|Ai rfl (Bb (by assumption) rfl)<|Af rfl<|Bj rfl<|Af rfl<|NV rfl rfl<|Af rfl<|Ap rfl rfl<|Am rfl rfl<|Aa ?_;apply Dq;rfl;(with_reducible assumption);refine Ao<|Ax<|AI rfl rfl (by omega) (by omega)<|Ab rfl<|Aa ?_)
     exact⟨j+2,by omega,⟨rfl,rfl,rfl,int_eq (by omega),trivial⟩,rfl,rfl,by omega,by rw[Dv,hr,HM hc,hu,hb];rfl⟩
 ·obtain rfl:i=ks.length:=by omega
  (refine Ac<|Av rfl rfl<|Aa<|Ah<|An rfl (by omega)<|AU<|Ac<|Ad rfl<|Aa<|Aq ?_);apply A1;rfl;exact hr.symm
def QF(T:Ae→Prop)(P:Program)(f:FuncId):Prop:=∀(v:V) {d cs},T d→Aw d cs v→AG P f [.agg cs.toArray] d (.bool (Bc v))
def PF(a0 a1 a2 a3 a4 a5:Nat):A0:=⟨41,[(.tmp 2)],(sR (o1 1 (.box 0)<|o1 2 (.mv (.const (.bool false))) .done) (.seq (sR (o1 3 (.ld (some 6) 1)<|oc 4 a0 [3]<|o1 5 (.un .not 4)<|om 6 5<|oF 7 6 (.fld 1 1)<|oF 8 6 (.ld (some 2) 7)<|oF 9 6 (.call a1 [8])<|oF 10 6 (.un .not 9)<|o1 11 (.pick 6 (.const (.bool true)) 10)<|om 12 11<|oF 13 12 (.fld 3 1)<|oF 14 12 (.ld none 13)<|oF 15 12 (.call a2 [14])<|oF 16 12 (.un .not 15)<|o1 17 (.pick 12 (.const (.bool true)) 16)<|om 18 17<|oF 19 18 (.fld 5 1)<|oF 20 18 (.ld none 19)<|oF 21 18 (.call a3 [20])<|oF 22 18 (.un .not 21)<|o1 23 (.pick 18 (.const (.bool true)) 22) .done) (.cond 23 (sR (o1 2 (.mv (.const (.bool false))) .done) .ret) .skip)) (sR (oj 24 0 1<|ol 25 24<|ob 26 .neq 25 (kZ 6)<|om 27 26<|oF 28 27 (.fld 5 1)<|oF 29 27 (.ld none 28)<|oF 30 27 (.len 29)<|oF 31 27 (.fld 4 1)<|oF 32 27 (.ld none 31)<|oF 33 27 (.len 32)<|oF 34 27 (.bin .eql 30 33)<|o1 35 (.pick 27 (.const (.bool true)) 34)<|om 36 35<|oT 37 36 (.fld 4 1)<|oT 38 36 (.ld none 37)<|oT 39 36 (.call a4 [38,(.func a5)])<|gP 40 36 39<|om 2 40 .done) .ret)))⟩
def Wy{T:Ae→Prop}{f2 f3 f4 f5}(hd:dec P f=some (PF f1 f2 f3 f4 f5 f))(h1:NW P f1)(h2:Io T P f2)(h3:EO T P f3)(h4:K2 T P f4)(h5:J7 P f5):QF T P f:=by
 intro v;induction v using V.ind with
 |h v ih=>
 intro d cs ht hv;refine AG.of' hd (No rfl) ?_;have hv':=hv;obtain⟨lv,kv,rfl,ik,im,ie,it,hl,hks⟩:=hv'.open;obtain⟨la,lc,rfl⟩:=RSl.val hl;obtain⟨ka,kc,rfl⟩:=RSl.val hks;have e0:=DS v;show gwp P _ _ _ _ _;apply Ah;apply Ax;refine AR (l:=[vZ v.kind,vZ v.m,vZ v.e,Al v.text,.slice la v.list.length lc,.slice ka v.keys.length kc]) rfl (fun b1 T1=>?_);(refine Ad rfl<|Aa<|Ah<|Ac<|AE 0 rfl rfl rfl ?_);refine AD rfl (h1 hv) ?_;cases hb:BL v with
 |false=>
  (refine Be rfl<|Ad rfl<|Aj rfl<|Aj rfl<|Aj rfl<|Aj rfl<|Ap rfl rfl<|Ad rfl<|Aj rfl<|Aj rfl<|Aj rfl<|Aj rfl<|Ap rfl rfl<|Ad rfl<|Aj rfl<|Aj rfl<|Aj rfl<|Aj rfl<|Ap rfl rfl<|Aa<|Bd rfl<|Ac<|Ad rfl<|Aa<|Aq ?_)
  apply A1;rfl
  rw[e0];simp[BK,hb]
 |true=>
 (refine Be rfl<|Ad rfl<|Af rfl<|Ag rfl<|Af rfl<|Bv 0 rfl rfl rfl<|Af rfl ?_);refine AD rfl (h2 ht im ie) ?_;cases hn:Bg v.m v.e with
 |false=>
  (refine Af rfl<|Be rfl<|Am rfl rfl<|Ad rfl<|Aj rfl<|Aj rfl<|Aj rfl<|Aj rfl<|Ap rfl rfl<|Ad rfl<|Aj rfl<|Aj rfl<|Aj rfl<|Aj rfl<|Ap rfl rfl<|Aa<|Bd rfl<|Ac<|Ad rfl<|Aa<|Aq ?_)
  apply A1;rfl
  rw[e0];simp[BK,hn]
 |true=>
 (refine Af rfl<|Be rfl<|Am rfl rfl<|Ad rfl<|Af rfl<|Ag rfl<|Af rfl<|Ai rfl (Ak 0 rfl rfl)<|Af rfl ?_);refine AD rfl (h3 ht it) ?_;cases hu:u8 v.text with
 |false=>
  (refine Af rfl<|Be rfl<|Am rfl rfl<|Ad rfl<|Aj rfl<|Aj rfl<|Aj rfl<|Aj rfl<|Ap rfl rfl<|Aa<|Bd rfl<|Ac<|Ad rfl<|Aa<|Aq ?_)
  apply A1;rfl
  rw[e0];simp[BK,hu]
 |true=>
 (refine Af rfl<|Be rfl<|Am rfl rfl<|Ad rfl<|Af rfl<|Ag rfl<|Af rfl<|Ai rfl (Ak 0 rfl rfl)<|Af rfl ?_);refine AD rfl (h4 ht hks) ?_;cases hr:rising v.keys with
 |false=>
  (refine Af rfl<|Be rfl<|Am rfl rfl<|Aa<|Bd rfl<|Ac<|Ad rfl<|Aa<|Aq ?_)
  apply A1;rfl
  rw[e0];simp[BK,hr]
 |true=>
 by_cases h6:v.kind≠6∨v.keys.length=v.list.length
 ·have e1:BK v=true:=by
   simp only[BK,hb,hn,hu,hr,Y3,XN,decide_eq_true_eq];exact h6
  by_cases h7:v.kind≠6
  ·(refine Af rfl<|Be rfl<|Am rfl rfl<|Aa<|AJ rfl<|Ao<|Ac<|Ag rfl<|Ai rfl (Ak 0 rfl rfl)<|AB rfl rfl<|Ad rfl<|AF rfl (by omega)<|Aj rfl<|Aj rfl<|Aj rfl<|Aj rfl<|Aj rfl<|Aj rfl<|Aj rfl<|Ap rfl rfl<|Ad rfl<|Af rfl<|Ag rfl<|Af rfl<|Ai rfl (Ak 0 rfl rfl)<|Af rfl ?_);refine AD rfl (h5 (g:=f) (cap:=[]) (p:=Bc) hl (fun x hx cs hcs=>ih x hx ht hcs)) ?_;(refine Ap rfl rfl<|Ad rfl<|Aa<|Aq ?_);apply A1;rfl;rw[e0,e1];rfl
  ·have h8:v.keys.length=v.list.length:=by
    rcases h6 with h|h
    ·exact absurd h h7
    ·exact h
   have h8':(v.keys.length:Int)=v.list.length:=by omega
   (refine Af rfl<|Be rfl<|Am rfl rfl<|Aa<|AJ rfl<|Ao<|Ac<|Ag rfl<|Ai rfl (Ak 0 rfl rfl)<|AB rfl rfl<|Ad rfl<|Az rfl (by omega)<|Af rfl<|Ag rfl<|Af rfl<|Ai rfl (Ak 0 rfl rfl)<|Af rfl<|Ay rfl<|Af rfl<|Ag rfl<|Af rfl<|Ai rfl (Ak 0 rfl rfl)<|Af rfl<|Ay rfl<|Af rfl<|At rfl rfl<|Am rfl rfl<|Ad rfl<|AF rfl (by omega)<|Af rfl<|Ag rfl<|Af rfl<|Ai rfl (Ak 0 rfl rfl)<|Af rfl ?_);refine AD rfl (h5 (g:=f) (cap:=[]) (p:=Bc) hl (fun x hx cs hcs=>ih x hx ht hcs)) ?_;(refine Ap rfl rfl<|Ad rfl<|Aa<|Aq ?_);apply A1;rfl;rw[e0,e1];rfl
 ·have h7:¬v.kind≠6:=fun h=>h6 (.inl h);have h8':¬(v.keys.length:Int)=v.list.length:=fun h=>h6 (.inr (by omega));(refine Af rfl<|Be rfl<|Am rfl rfl<|Aa<|AJ rfl<|Ao<|Ac<|Ag rfl<|Ai rfl (Ak 0 rfl rfl)<|AB rfl rfl<|Ad rfl<|Az rfl (by omega)<|Af rfl<|Ag rfl<|Af rfl<|Ai rfl (Ak 0 rfl rfl)<|Af rfl<|Ay rfl<|Af rfl<|Ag rfl<|Af rfl<|Ai rfl (Ak 0 rfl rfl)<|Af rfl<|Ay rfl<|Af rfl<|At rfl rfl<|Am rfl rfl<|Ad rfl<|Az rfl (by omega)<|Aj rfl<|Aj rfl<|Aj rfl<|Am rfl rfl<|Ad rfl<|Aa<|Aq ?_);apply A1;rfl;have h9:v.keys.length≠v.list.length:=fun h=>h6 (.inr h);have h10:v.kind=6:=by omega
  rw[e0];simp[BK,h9,h10]
def Ez(T:Ae→Prop)(P:Program)(f:FuncId):Prop:=∀{d cs}{v:V},T d→Aw d cs v→AG P f [.agg cs.toArray] d (vZ (AP v))
def NN(a0 a1:Nat):A0:=⟨11,[(.tmp 2)],(sR (o1 1 (.box 0)<|o1 2 (.mv z0) .done) (.seq (.block 0 (sR (o1 4 (.ld (some 6) 1)<|oc 5 a0 [4,(kZ 48)]<|o1 6 (.un .not 5)<|om 3 6 .done) (.cond 3 (sR (o1 2 (.mv (kZ 31)) .done) .ret) (sR (o1 8 (.ld (some 6) 1)<|oc 9 a1 [8]<|o1 10 (.un .not 9)<|om 7 10 .done) (.cond 7 (sR (o1 2 (.mv (kZ 30)) .done) .ret) .skip))))) (sR (o1 2 (.mv z0) .done) .ret)))⟩
def Tu{T:Ae→Prop}{f2}(hd:dec P f=some (NN f1 f2))(h1:Jb P f1)(h2:QF T P f2):Ez T P f:=by
 intro d cs v ht hv;refine AG.of' hd (No rfl) ?_;have hv':=hv;obtain⟨lv,kv,rfl,ik,im,ie,it,hl,hks⟩:=hv'.open;show gwp P _ _ _ _ _;apply Ah;apply Ax;refine AR (l:=[vZ v.kind,vZ v.m,vZ v.e,Al v.text,lv,kv]) rfl (fun b1 T1=>?_);(refine Ab rfl<|Aa<|Ah<|As<|Ac<|AE 0 rfl rfl rfl ?_);refine AD rfl (h1 v (k:=48) hv (by omega)) ?_;by_cases h3:Bh v≤48
 ·rw[decide_eq_true h3];(refine Be rfl<|Ad rfl<|Aa<|AJ rfl<|Ac<|AE 0 rfl rfl rfl ?_);refine AD rfl (h2 v ht hv) ?_;cases h4:Bc v with
  |true=>
   (refine Be rfl<|Ad rfl<|Aa<|AJ rfl<|Ao<|Ac<|Ab rfl<|Aa<|Aq ?_)
   apply Dt;rfl
   simp[AP,h3,h4]
  |false=>
   (refine Be rfl<|Ad rfl<|Aa<|Bd rfl<|Ac<|Ab rfl<|Aa<|Aq ?_)
   apply Dt;rfl
   simp[AP,h3,h4]
 ·rw[decide_eq_false h3];(refine Be rfl<|Ad rfl<|Aa<|Bd rfl<|Ac<|Ab rfl<|Aa<|Aq ?_);apply Dt;rfl;simp[AP,h3]
end Go.Gk.Val
end
section
namespace Go.Gk.Val
open Go Go.Gk Go.Proofs Go.RowKit Go.Shelf
def WV{T:Ae→Prop}{P}{ρ:Ren}(L:Lays.n196 P ρ)(hc:DM P (ρ.f 196))(hT:∀d,T d→Iv (ρ.g 3) (ρ.g 4) d):Tk T P (ρ.f 196):=by
 intro d l ht hl;refine AG.Tm hc (fun W hs=>?_);have:=Any.utf8_ValidString L ⟨l.toArray⟩ W (by show l.toArray.size≤_;simp;omega) ((hT d ht).Xb hs);exact this
end Go.Gk.Val
end
section
namespace Go.Gk.Val
open Go Go.Gk Go.Proofs Go.RowKit Go.Shelf
def Q0(g3 g4 g2:Nat)(d:Ae):Prop:=Iv g3 g4 d∧DCs d g2 0 Hj
def Q0.mono{g3 g4 g2:Nat}{d d'}(hl:Le d d')(h:Q0 g3 g4 g2 d):Q0 g3 g4 g2 d':=⟨h.1.mono hl,h.2.mono hl⟩
def Ri:List Int:=(XK 20).map fun i=>((10 ^ i:Nat):Int)
def O0:Hj=Ri.map fun z=>Value.int .u64 z:=rfl
end Go.Gk.Val
namespace Go.Gk.Val
open Go Go.Gk Go.Proofs Go.RowKit Go.Shelf
def Rw(g3 g4 g2 g5:Nat)(d:Ae):Prop:=Q0 g3 g4 g2 d∧DCs d g5 0 Hj
def Rw.mono{g3 g4 g2 g5:Nat}{d d'}(hl:Le d d')(h:Rw g3 g4 g2 g5 d):Rw g3 g4 g2 g5 d':=⟨h.1.mono hl,h.2.mono hl⟩
end Go.Gk.Val
end
section
namespace Go.Gk
open Go Go.ChangeShapes Go.WideShapes Go.ChangeAt Go.RowKit
section
section
variable {H:Type}{enc:TypeId×Value→H}{P:Program}{W:World}
def NX(enc:TypeId×Value→H)(P:Program)(W:World)(held:Bool)(fuel:Nat)(t:TypeId){α}(R:Ae→List Value→α→Prop):Prop:=
 ∀(cs:List Value) (x:DataW H×List MemPlace),DataW.trod enc P W 0 (fun _=>true) held fuel t cs=some x→(∀n∈x.1.weights P t,n≤reachBytes)→∃a:α,R (hw W) cs a
def Rd.at{t:TypeId}{α:Type}{R:Ae→List Value→α→Prop}(h:Rd enc P W t R){held:Bool}{fuel:Nat}:NX enc P W held fuel t R:=fun cs x=>h held fuel cs x
def Lr{held:Bool}{fuel:Nat}{t e:TypeId}{sz:Nat}{α:Type}{R:Ae→List Value→α→Prop}(ht:P.underlying t=some (.slice e))(hc:P.cellsOf e=sz)(hsz:0<sz)(hb:1≤P.bytesOf e)(he:∀n,n<fuel→NX enc P W held n e R):
  NX enc P W held fuel t (fun d cs (xs:List α)=>∃v,cs=[v]∧RSl sz R d v xs):=by
 subst hc
 intro cs x h hw
 rcases DataW.trod_slice ht h with ⟨rfl,rfl⟩|⟨a,len,cap,elems,rest,n,rfl,rfl,rfl,_,hlc,hcm,hlen,hel,hsp,_⟩
 ·exact⟨[],_,rfl,RSl.nil⟩
 ·have hwt:(elems.length+rest.length)*P.bytesOf e≤reachBytes:=hw _ (by simp[DataW.weights,ht])
  obtain⟨hrl,hre⟩:=hsp rfl
  have hcap:cap≤140737488355328:=by
   have h1:(elems.length+rest.length)*1≤(elems.length+rest.length)*P.bytesOf e:=Nat.mul_le_mul_left _ hb;have h2:=KT (Nat.le_trans h1 hwt);omega
  have one:∀i (hi:i<len),∃u:α,∃cs,cs.length=P.cellsOf e∧a.spot=none∧DCs (Gk.hw W) a.block (a.off+i*P.cellsOf e) cs∧R (Gk.hw W) cs u:=by
   intro i hi;have h1:=hel i hi;have hi':i<elems.length:=by omega
   rw[Xt hi',XC] at h1;obtain⟨cs,h2,h3⟩:=h1;obtain⟨k1,k2,k3⟩:=FA h2 hsz;have hmem:∀(l:List (DataW H)) (y:DataW H),y∈l→∀n∈y.weights P e,n∈DataW.weightsAll P e l:=by
    intro l;induction l with
    |nil=>intro y hy;cases hy
    |cons z l ih=>
     intro y hy n hn
     simp only[DataW.weightsAll,Xs]
     rcases Xu.1 hy with rfl|hy
     ·exact .inl hn
     ·exact .inr (ih y hy n hn)
   obtain⟨u,hu⟩:=he n (by omega) cs elems[i] h3 (fun m hm=>hw m (by
    simp only[DataW.weights,ht,Xu,Xs];exact .inr (.inl (hmem _ _ (List.mem_map.2 ⟨elems[i],Xh hi',rfl⟩) m hm))))
   have hs:a.spot=none:=by
    obtain⟨b,o,s⟩:=a;by_cases h0:i*P.cellsOf e=0
    ·rw[h0,add_zero] at k1;exact k1
    ·have:=hel 0 (by omega);rw[Xt (by omega),XC] at this;obtain⟨cs',h2',_⟩:=this;rw[YS,add_zero] at h2';exact(FA h2' hsz).1
   obtain⟨b,o,s⟩:=a;simp only at hs;subst hs;rw[Addr.add_lit] at k3;exact⟨u,cs,k2,rfl,k3,hu⟩
  have hspot:cap≠0→a.spot=none:=by
   intro h0;by_cases h1:0<len
   ·obtain⟨_,_,_,hs,_⟩:=one 0 h1;exact hs
   ·have:=hre 0 (by omega);have hl0:len=0:=by omega
    rw[Xt (by omega),XC] at this;obtain⟨cs',h2',_⟩:=this;rw[hl0,Nat.zero_add,YS,add_zero] at h2';exact(FA h2' hsz).1
  refine⟨List.ofFn (n:=len) fun i=>(one i i.isLt).choose,_,rfl,some a,cap,a.block,a.off,?_,?_,fun h0 a' ha=>?_,(fun h=>nomatch h),?_,by omega,?_,?_⟩
  ·simp
  ·intro h0
   have h0':len≠0:=by simpa using h0
   have:=hspot (by omega)
   obtain⟨b,o,s⟩:=a;simp only at this;subst this;rfl
  ·cases ha;exact hspot h0
  ·simpa using hlc
  ·simp;omega
  ·intro i hi
   have hi':i<len:=by simpa using hi
   obtain⟨cs,k1,_,k3,k4⟩:=(one i hi').choose_spec
   exact⟨cs,k1,k3,by simpa using k4⟩
def P5{t}{fs:Array Field}(ht:P.underlying t=some (.struct fs)){held:Bool}{fuel:Nat}{cs}{x:DataW H×List MemPlace}(h:DataW.trod enc P W 0 (fun _=>true) held fuel t cs=some x)
  (hw:∀n∈x.1.weights P t,n≤reachBytes):cs.length=P.cellsOf t∧∀(i o ty sz:Nat),(fs[i]?).map (fun f=>(f.offset,f.type))=some (o,ty)→P.cellsOf ty=sz→∀{α R},(∀n,n<fuel→NX enc P W held n ty R)→
   ∃a:α,R (Gk.hw W) ((cs.drop o).take sz) a:=by
 obtain⟨xs,n,rfl,rfl,hl,hxl,hf⟩:=DataW.trod_struct ht h
 refine⟨hl,fun i o ty sz hi hsz α R hr=>?_⟩
 subst hsz
 rw[Option.map_eq_some_iff] at hi
 obtain⟨f,hi,e⟩:=hi
 simp only[Prod.mk.injEq] at e
 obtain⟨rfl,rfl⟩:=e
 have h1:=hf i f hi
 have hi':i<fs.size:=(Array.getElem?_eq_some_iff.1 hi).1
 rw[Xt (by omega)] at h1
 refine hr n (by omega) _ _ h1 (fun m hm=>hw m ?_)
 simp only[DataW.weights,ht]
 refine DataW.weights_mem_each (j:=i) (t:=f.type) ?_ ?_ m hm
 ·rw[X8,Array.getElem?_toList,hi];rfl
 ·rw[X8,Xt (by omega)];rfl
end
end
end Go.Gk
end
section
namespace Go.Gk.Val
open Go Go.Gk Go.Gk.Utf
attribute [local irreducible] gwp gws
def Od(P:Program)(f:FuncId):Prop:=∀{d}{n:Int},I64 n→AG P f [vZ n] d (Al (CW n))
def I1:A0:=⟨72,[(.tmp 2)],(sR (o1 2 (.mv (.const (Al []))) .done) (.seq (sR (om 3 0<|ob 4 .lss 3 z0<|om 5 4<|gF 6 5 0<|oF 7 5 (.bin .gtr 6 (kZ 1114111))<|o1 8 (.pick 5 (.const (.bool true)) 7)<|om 9 8<|gF 10 9 0<|oF 11 9 (.bin .geq 10 (kZ 55296))<|gF 12 9 11<|gT 13 12 0<|oT 14 12 (.bin .leq 13 (kZ 57343))<|oF 15 9 (.pick 12 14 (.const (.bool false)))<|o1 16 (.pick 9 (.const (.bool true)) 15) .done) (.cond 16 (sR (o1 2 (.mv (.const (Al []))) .done) .ret) .skip)) (.seq (sR (om 17 0<|ob 18 .lss 17 (kZ 128) .done) (.cond 18 (sR (om 19 0<|o1 20 (.cvi .u8 19)<|o1 21 (.bsl 1 1 [(.int .u8 0)] [(0,20)])<|o1 22 (.b2s 21)<|om 2 22 .done) .ret) .skip)) (.seq (sR (om 23 0<|ob 24 .lss 23 (kZ 2048) .done) (.cond 24 (sR (om 25 0<|ob 26 .quo 25 (kZ 64)<|ob 27 .add (kZ 192) 26<|o1 28 (.cvi .u8 27)<|om 29 0<|ob 30 .rem 29 (kZ 64)<|ob 31 .add (kZ 128) 30<|o1 32 (.cvi .u8 31)<|o1 33 (.bsl 2 1 [(.int .u8 0)] [(0,28),(1,32)])<|o1 34 (.b2s 33)<|om 2 34 .done) .ret) .skip)) (.seq (sR (om 35 0<|ob 36 .lss 35 (kZ 65536) .done) (.cond 36 (sR (om 37 0<|ob 38 .quo 37 (kZ 4096)<|ob 39 .add (kZ 224) 38<|o1 40 (.cvi .u8 39)<|om 41 0<|ob 42 .quo 41 (kZ 64)<|ob 43 .rem 42 (kZ 64)<|ob 44 .add (kZ 128) 43<|o1 45 (.cvi .u8 44)<|om 46 0<|ob 47 .rem 46 (kZ 64)<|ob 48 .add (kZ 128) 47<|o1 49 (.cvi .u8 48)<|o1 50 (.bsl 3 1 [(.int .u8 0)] [(0,40),(1,45),(2,49)])<|o1 51 (.b2s 50)<|om 2 51 .done) .ret) .skip)) (sR (om 52 0<|ob 53 .quo 52 (kZ 262144)<|ob 54 .add (kZ 240) 53<|o1 55 (.cvi .u8 54)<|om 56 0<|ob 57 .quo 56 (kZ 4096)<|ob 58 .rem 57 (kZ 64)<|ob 59 .add (kZ 128) 58<|o1 60 (.cvi .u8 59)<|om 61 0<|ob 62 .quo 61 (kZ 64)<|ob 63 .rem 62 (kZ 64)<|ob 64 .add (kZ 128) 63<|o1 65 (.cvi .u8 64)<|om 66 0<|ob 67 .rem 66 (kZ 64)<|ob 68 .add (kZ 128) 67<|o1 69 (.cvi .u8 68)<|o1 70 (.bsl 4 1 [(.int .u8 0)] [(0,55),(1,60),(2,65),(3,69)])<|o1 71 (.b2s 70)<|om 2 71 .done) .ret))))))⟩
def Vu{P f}(hd:dec P f=some I1):Od P f:=by
 intro d n ⟨hn1,hn2⟩;refine AG.of' hd (No rfl) ?_;show gwp P _ _ _ _ _;by_cases h1:n<0
 ·have e:=Mu (.inl h1);(refine Ac<|Bj rfl<|Aa<|Ah<|Ac<|Ab rfl<|Av rfl rfl<|Ad rfl<|AF rfl (by omega)<|Aj rfl<|Aj rfl<|Ap rfl rfl<|Ad rfl<|Aj rfl<|Aj rfl<|Aj rfl<|AX rfl<|AX rfl<|Aj rfl<|Ap rfl rfl<|Aa<|Bd rfl<|Ac<|Bj rfl<|Aa<|Aq ?_);exact EN (v:=Al []) rfl ⟨by rw[e],rfl⟩
 by_cases h2:n>1114111
 ·have e:=Mu (.inr (.inl h2));(refine Ac<|Bj rfl<|Aa<|Ah<|Ac<|Ab rfl<|Av rfl rfl<|Ad rfl<|Az rfl (by omega)<|Af rfl<|Ab rfl<|Af rfl<|AM rfl rfl<|Am rfl rfl<|Ad rfl<|AF rfl (by omega)<|Aj rfl<|Aj rfl<|Aj rfl<|AX rfl<|AX rfl<|Aj rfl<|Ap rfl rfl<|Aa<|Bd rfl<|Ac<|Bj rfl<|Aa<|Aq ?_);exact EN (v:=Al []) rfl ⟨by rw[e],rfl⟩
 by_cases h3:n≥55296∧n≤57343
 ·obtain⟨h3,h3'⟩:=h3;have e:=Mu (.inr (.inr ⟨h3,h3'⟩));(refine Ac<|Bj rfl<|Aa<|Ah<|Ac<|Ab rfl<|Av rfl rfl<|Ad rfl<|Az rfl (by omega)<|Af rfl<|Ab rfl<|Af rfl<|AM rfl rfl<|Am rfl rfl<|Ad rfl<|Az rfl (by omega)<|Af rfl<|Ab rfl<|Af rfl<|CY rfl rfl<|Af rfl<|Ad rfl<|AF rfl (by omega)<|Af rfl<|Ab rfl<|Af rfl<|C1 rfl rfl<|Af rfl<|Ap rfl rfl<|Am rfl rfl<|Aa<|Au rfl (by omega)<|Ac<|Bj rfl<|Aa<|Aq ?_);exact EN (v:=Al []) rfl ⟨by rw[e],rfl⟩
 have hsur:n<55296∨(n≥55296∧¬n≤57343):=by omega
 by_cases h4:n<128
 ·have e:=UY (by omega) h4;(refine Ac<|Bj rfl<|Aa<|Ah<|Ac<|Ab rfl<|Av rfl rfl<|Ad rfl<|Az rfl (by omega)<|Af rfl<|Ab rfl<|Af rfl<|AM rfl rfl<|Am rfl rfl<|Ad rfl<|Az rfl (by omega)<|Af rfl<|Ab rfl<|Af rfl<|CY rfl rfl<|Af rfl<|Ad rfl<|Az rfl (by omega)<|Aj rfl<|Aj rfl<|Af rfl<|Am rfl rfl<|Am rfl rfl<|Aa<|AJ rfl<|Ao<|Ah<|Ac<|Ab rfl<|Av rfl rfl<|Aa<|Au rfl (by omega)<|Ac<|Ab rfl<|EA rfl ?_);refine Ef (v0:=Bl (UInt8.ofNat (n % 256).toNat)) rfl rfl (fun b8 T8=>?_);have o:AO 1 FJ d (.slice (some ⟨b8,0,none⟩) 1 1) (CW n) (bx b8 T8 [Bl (UInt8.ofNat (n % 256).toNat)]):=AO.Oz (by rw[e];rfl) (by rw[e];rfl) (by rw[e];simp);(refine JE (by rfl) (by assumption) (by simp[lk])<|Bj rfl<|Aa<|Aq ?_);exact Bs rfl
 by_cases h5:n<2048
 ·have e:=VN (by omega) h5;(refine Ac<|Bj rfl<|Aa<|Ah<|Ac<|Ab rfl<|Av rfl rfl<|Ad rfl<|Az rfl (by omega)<|Af rfl<|Ab rfl<|Af rfl<|AM rfl rfl<|Am rfl rfl<|Ad rfl<|Az rfl (by omega)<|Af rfl<|Ab rfl<|Af rfl<|CY rfl rfl<|Af rfl<|Ad rfl<|Az rfl (by omega)<|Aj rfl<|Aj rfl<|Af rfl<|Am rfl rfl<|Am rfl rfl<|Aa<|AJ rfl<|Ao<|Ah<|Ac<|Ab rfl<|Av rfl rfl<|Aa<|An rfl (by omega)<|Ao<|Ah<|Ac<|Ab rfl<|Av rfl rfl<|Aa<|Au rfl (by omega)<|Ac<|Ab rfl<|Hq rfl rfl (by omega) (by omega) (by omega)<|AI rfl rfl (by omega) (by omega)<|EA rfl<|Ab rfl<|Gi rfl rfl (by omega) (by omega)<|AI rfl rfl (by omega) (by omega)<|EA rfl ?_);refine Lq (v0:=Bl (UInt8.ofNat ((192+n / 64) % 256).toNat)) (v1:=Bl (UInt8.ofNat ((128+n % 64) % 256).toNat)) rfl rfl rfl rfl (fun b8 T8=>?_);have o:AO 1 FJ d (.slice (some ⟨b8,0,none⟩) 2 2) (CW n) (bx b8 T8 [Bl (UInt8.ofNat ((192+n / 64) % 256).toNat),Bl (UInt8.ofNat ((128+n % 64) % 256).toNat)]):=AO.Oz (by rw[e];rfl) (by rw[e];rfl) (by rw[e];simp);(refine JE (by rfl) (by assumption) (by simp[lk])<|Bj rfl<|Aa<|Aq ?_);exact Bs rfl
 rcases hsur with hs|⟨hs,hs'⟩
 ·have e:=Qx (n:=n) (by omega) (by omega) (by omega);(refine Ac<|Bj rfl<|Aa<|Ah<|Ac<|Ab rfl<|Av rfl rfl<|Ad rfl<|Az rfl (by omega)<|Af rfl<|Ab rfl<|Af rfl<|AM rfl rfl<|Am rfl rfl<|Ad rfl<|Az rfl (by omega)<|Af rfl<|Ab rfl<|Af rfl<|CY rfl rfl<|Af rfl<|Ad rfl<|Az rfl (by omega)<|Aj rfl<|Aj rfl<|Af rfl<|Am rfl rfl<|Am rfl rfl<|Aa<|AJ rfl<|Ao<|Ah<|Ac<|Ab rfl<|Av rfl rfl<|Aa<|An rfl (by omega)<|Ao<|Ah<|Ac<|Ab rfl<|Av rfl rfl<|Aa<|An rfl (by omega)<|Ao<|Ah<|Ac<|Ab rfl<|Av rfl rfl<|Aa<|Au rfl (by omega)<|Ac<|Ab rfl<|Hq rfl rfl (by omega) (by omega) (by omega)<|AI rfl rfl (by omega) (by omega)<|EA rfl<|Ab rfl<|Hq rfl rfl (by omega) (by omega) (by omega)<|Gi rfl rfl (by omega) (by omega)<|AI rfl rfl (by omega) (by omega)<|EA rfl<|Ab rfl<|Gi rfl rfl (by omega) (by omega)<|AI rfl rfl (by omega) (by omega)<|EA rfl ?_);refine QS (v0:=Bl (UInt8.ofNat ((224+n / 4096) % 256).toNat)) (v1:=Bl (UInt8.ofNat ((128+n / 64 % 64) % 256).toNat)) (v2:=Bl (UInt8.ofNat ((128+n % 64) % 256).toNat)) rfl rfl rfl rfl rfl rfl (fun b8 T8=>?_);have o:AO 1 FJ d (.slice (some ⟨b8,0,none⟩) 3 3) (CW n) (bx b8 T8 [Bl (UInt8.ofNat ((224+n / 4096) % 256).toNat),Bl (UInt8.ofNat ((128+n / 64 % 64) % 256).toNat),Bl (UInt8.ofNat ((128+n % 64) % 256).toNat)]):=AO.Oz (by rw[e];rfl) (by rw[e];rfl) (by rw[e];simp);(refine JE (by rfl) (by assumption) (by simp[lk])<|Bj rfl<|Aa<|Aq ?_);exact Bs rfl
 ·by_cases h6:n<65536
  ·have e:=Qx (n:=n) (by omega) (by omega) (by omega);(refine Ac<|Bj rfl<|Aa<|Ah<|Ac<|Ab rfl<|Av rfl rfl<|Ad rfl<|Az rfl (by omega)<|Af rfl<|Ab rfl<|Af rfl<|AM rfl rfl<|Am rfl rfl<|Ad rfl<|Az rfl (by omega)<|Af rfl<|Ab rfl<|Af rfl<|CY rfl rfl<|Af rfl<|Ad rfl<|AF rfl (by omega)<|Af rfl<|Ab rfl<|Af rfl<|C1 rfl rfl<|Af rfl<|Ap rfl rfl<|Am rfl rfl<|Aa<|An rfl (by omega)<|Ao<|Ah<|Ac<|Ab rfl<|Av rfl rfl<|Aa<|An rfl (by omega)<|Ao<|Ah<|Ac<|Ab rfl<|Av rfl rfl<|Aa<|An rfl (by omega)<|Ao<|Ah<|Ac<|Ab rfl<|Av rfl rfl<|Aa<|Au rfl (by omega)<|Ac<|Ab rfl<|Hq rfl rfl (by omega) (by omega) (by omega)<|AI rfl rfl (by omega) (by omega)<|EA rfl<|Ab rfl<|Hq rfl rfl (by omega) (by omega) (by omega)<|Gi rfl rfl (by omega) (by omega)<|AI rfl rfl (by omega) (by omega)<|EA rfl<|Ab rfl<|Gi rfl rfl (by omega) (by omega)<|AI rfl rfl (by omega) (by omega)<|EA rfl ?_);refine QS (v0:=Bl (UInt8.ofNat ((224+n / 4096) % 256).toNat)) (v1:=Bl (UInt8.ofNat ((128+n / 64 % 64) % 256).toNat)) (v2:=Bl (UInt8.ofNat ((128+n % 64) % 256).toNat)) rfl rfl rfl rfl rfl rfl (fun b8 T8=>?_);have o:AO 1 FJ d (.slice (some ⟨b8,0,none⟩) 3 3) (CW n) (bx b8 T8 [Bl (UInt8.ofNat ((224+n / 4096) % 256).toNat),Bl (UInt8.ofNat ((128+n / 64 % 64) % 256).toNat),Bl (UInt8.ofNat ((128+n % 64) % 256).toNat)]):=AO.Oz (by rw[e];rfl) (by rw[e];rfl) (by rw[e];simp);(refine JE (by rfl) (by assumption) (by simp[lk])<|Bj rfl<|Aa<|Aq ?_);exact Bs rfl
  ·have e:=U9 (n:=n) (by omega) (by omega);(refine Ac<|Bj rfl<|Aa<|Ah<|Ac<|Ab rfl<|Av rfl rfl<|Ad rfl<|Az rfl (by omega)<|Af rfl<|Ab rfl<|Af rfl<|AM rfl rfl<|Am rfl rfl<|Ad rfl<|Az rfl (by omega)<|Af rfl<|Ab rfl<|Af rfl<|CY rfl rfl<|Af rfl<|Ad rfl<|AF rfl (by omega)<|Af rfl<|Ab rfl<|Af rfl<|C1 rfl rfl<|Af rfl<|Ap rfl rfl<|Am rfl rfl<|Aa<|An rfl (by omega)<|Ao<|Ah<|Ac<|Ab rfl<|Av rfl rfl<|Aa<|An rfl (by omega)<|Ao<|Ah<|Ac<|Ab rfl<|Av rfl rfl<|Aa<|An rfl (by omega)<|Ao<|Ah<|Ac<|Ab rfl<|Av rfl rfl<|Aa<|An rfl (by omega)<|Ao<|Ac<|Ab rfl<|Hq rfl rfl (by omega) (by omega) (by omega)<|AI rfl rfl (by omega) (by omega)<|EA rfl<|Ab rfl<|Hq rfl rfl (by omega) (by omega) (by omega)<|Gi rfl rfl (by omega) (by omega)<|AI rfl rfl (by omega) (by omega)<|EA rfl<|Ab rfl<|Hq rfl rfl (by omega) (by omega) (by omega)<|Gi rfl rfl (by omega) (by omega)<|AI rfl rfl (by omega) (by omega)<|EA rfl<|Ab rfl<|Gi rfl rfl (by omega) (by omega)<|AI rfl rfl (by omega) (by omega)<|EA rfl ?_);refine W2 (v0:=Bl (UInt8.ofNat ((240+n / 262144) % 256).toNat)) (v1:=Bl (UInt8.ofNat ((128+n / 4096 % 64) % 256).toNat)) (v2:=Bl (UInt8.ofNat ((128+n / 64 % 64) % 256).toNat)) (v3:=Bl (UInt8.ofNat ((128+n % 64) % 256).toNat)) rfl rfl rfl rfl rfl rfl rfl rfl (fun b8 T8=>?_);have o:AO 1 FJ d (.slice (some ⟨b8,0,none⟩) 4 4) (CW n) (bx b8 T8 [Bl (UInt8.ofNat ((240+n / 262144) % 256).toNat),Bl (UInt8.ofNat ((128+n / 4096 % 64) % 256).toNat),Bl (UInt8.ofNat ((128+n / 64 % 64) % 256).toNat),Bl (UInt8.ofNat ((128+n % 64) % 256).toNat)]):=AO.Oz (by rw[e];rfl) (by rw[e];rfl) (by rw[e];simp);(refine JE (by rfl) (by assumption) (by simp[lk])<|Bj rfl<|Aa<|Aq ?_);exact Bs rfl
def MF(P:Program)(f:FuncId):Prop:=∀{d l},l≠[]→l.length≤140737488355328→AG P f [Al l] d (.tuple #[vZ (DQ l).1,vZ (DQ l).2])
def IL(a0:Nat):A0:=⟨47,[(.tmp 2),(.tmp 3)],(sR (o1 2 (.mv z0)<|o1 3 (.mv z0) .done) (sR (o1 8 (.bld [(0,1),(1,1),(2,1),(3,1),(4,1)] [(vZ 0),(vZ 0),(vZ 0),(vZ 0),(vZ 0)] [(0,z0),(1,z0),(2,(kZ 192)),(3,(kZ 224)),(4,(kZ 240))])<|o1 4 (.alo (.agg #[(vZ 0),(vZ 0),(vZ 0),(vZ 0),(vZ 0)]))<|o0 (.st 5 4 8) .done) (.seq (sR (o1 5 (.mv z1) .done) (.block 0 (.loop (.seq (sR (om 9 5<|ob 10 .leq 9 (kZ 4)<|om 11 10<|gT 12 11 5<|gT 13 11 0<|oT 14 11 (.lens 13)<|oT 15 11 (.bin .leq 12 14)<|gP 16 11 15 .done) (.cond 16 .skip (.exit 0))) (.seq (.block 1 (.seq (.reg true (pm 19 0<|p1 20 (.sidx 19 z0)<|p1 21 (.cvi .i64 20)<|pm 22 5<|p1 23 (.idxa 5 1 4 22)<|pl 24 23<|p1 25 (.bin .sub 21 24) (.bar (pm 6 25 .done)))) (.seq (sR (o1 7 (.mv z1) .done) (.block 2 (.loop (.seq (sR (om 26 7<|om 27 5<|ob 28 .lss 26 27 .done) (.cond 28 .skip (.exit 2))) (.seq (.block 3 (rG (om 31 6<|ob 32 .mul 31 (kZ 64)<|om 33 0<|om 34 7<|o1 35 (.sidx 33 34)<|o1 36 (.cvi .i64 35)<|ob 37 .add 32 36<|ob 38 .sub 37 (kZ 128)<|om 6 38 .done))) (rG (om 29 7<|ob 30 .add 29 z1<|om 7 30 .done))))))) (.seq (.reg true (pm 39 6<|pm 41 0<|pm 42 5<|p1 43 (.sls 41 none (some 42))<|oc 40 a0 [39]<|p1 44 (.bin .eql 40 43) .done)) (.cond 44 (sR (om 45 6<|om 46 5<|om 2 45<|om 3 46 .done) .ret) .skip))))) (rG (om 17 5<|ob 18 .add 17 z1<|om 5 18 .done))))))) (sR (o1 2 (.mv z0)<|o1 3 (.mv z0) .done) .ret))))⟩
set_option maxHeartbeats 1000000 in
def TD{P f f1}(hd:dec P f=some (IL f1))(h1:Od P f1):MF P f:=by
 intro d l hne hl;have hl1:1≤l.length:=XV.2 hne;refine AG.of' hd (No rfl) ?_;show gwp P _ _ _ _ _;(refine Ac<|Ab rfl<|Ab rfl<|Aa<|Ac<|BF rfl<|AV (fun _ _=>?_));rename_i b4 T4;refine AA 0 [vZ 0,vZ 0,vZ 192,vZ 224,vZ 240] rfl rfl rfl rfl (No rfl) rfl rfl ?_;(refine Aa<|Ah<|Ac<|Ab rfl<|Aa<|As ?_);refine Dy (α:=Nat) (fun n=>[(0,Al l),(4,pZ b4),(5,vZ n)]) (fun _=>[bx b4 T4 [vZ 0,vZ 0,vZ 192,vZ 224,vZ 240]])
  (fun n=>1≤n∧n≤5∧D8 l (5 - n) n=DQ l) (fun n=>5 - n) 1 ⟨rfl,rfl,rfl,trivial⟩ rfl ⟨by omega,by omega,rfl⟩ ?_
 rintro n ρ ⟨hn1,hn5,hgo⟩;by_cases hc:n≤4∧n≤l.length
 ·obtain⟨hc1,hc2⟩:=hc;obtain⟨g,hg⟩:∃g,5 - n=g+1:=⟨4 - n,by omega⟩
  rw[hg] at hgo;simp only[D8,if_pos (show n≤4∧n≤l.length from⟨hc1,hc2⟩)] at hgo;have hb0:0≤((l.getD 0 0).toNat:Int)∧((l.getD 0 0).toNat:Int)≤255:=J9 l 0;have hl0:l[0]?=some (l.getD 0 0):=by simp[show 0<l.length by omega]
  have hhd:[Value.int .i64 0,vZ 0,vZ 192,vZ 224,vZ 240][n]?=some (vZ (Utf.hd n)):=by
   obtain rfl|rfl|rfl|rfl:n=1∨n=2∨n=3∨n=4:=by omega
   ·rfl
   ·rfl
   ·rfl
   ·rfl
  have hhl:0≤Utf.hd n∧Utf.hd n≤240:=by unfold Utf.hd;split<;>omega
  (refine Ah<|Ac<|Ab rfl<|C1 rfl rfl<|Ad rfl<|AF rfl (by omega)<|Af rfl<|Ab rfl<|Af rfl<|Bj rfl<|Af rfl<|Ev rfl<|Af rfl<|C1 rfl rfl<|Ap rfl rfl<|Aa<|Au rfl (by omega)<|Ao<|Ah<|As<|Ah ?_);refine Bp ?_;(apply Bj;rfl);refine RA 0 rfl rfl rfl hl0 ?_;(refine EI rfl (by omega) (by omega)<|Ab rfl ?_);refine Pc n rfl rfl rfl (by omega) ?_;refine Ai rfl (Ak 0 rfl (by simpa using hhd)) ?_;(refine Bw rfl rfl (by omega) (by omega)<|Cr<|Ab rfl<|Aa<|Ah<|Ac<|Ab rfl<|Aa<|As ?_);refine Dy (α:=Nat) (fun i=>[(0,Al l),(4,pZ b4),(5,vZ n),(6,vZ (Eo l n i)),(7,vZ i)]) (fun _=>[bx b4 T4 [vZ 0,vZ 0,vZ 192,vZ 224,vZ 240]])
   (fun i=>1≤i∧i≤n) (fun i=>n - i) 1 ⟨rfl,rfl,rfl,int_eq rfl,rfl,trivial⟩ rfl ⟨by omega,hn1⟩ ?_
  rintro i ρ ⟨hi1,hi2⟩;have hnb:=U3 l (n:=n) (i:=i) (by omega);by_cases hc3:i<n
  ·have hbi:=J9 l i;have hli:l[i]?=some (l.getD i 0):=by simp[show i<l.length by omega]
   (refine Ah<|Ac<|Ab rfl<|Ab rfl<|Av rfl rfl<|Aa<|Au rfl (by omega)<|Ao<|Ah<|As<|Ax<|Ab rfl<|Hp rfl rfl (by omega) (by omega)<|Bj rfl<|Ab rfl ?_);refine RA i rfl rfl rfl hli ?_;have hbi':0≤((l.getD i 0).toNat:Int)∧((l.getD i 0).toNat:Int)≤255:=hbi;(refine EI rfl (by omega) (by omega)<|AI rfl rfl (by omega) (by omega)<|Bw rfl rfl (by omega) (by omega)<|Ab rfl<|Aa<|Ax<|Ab rfl<|AI rfl rfl (by omega) (by omega)<|Ab rfl<|Aa ?_);refine⟨i+1,by omega,⟨rfl,rfl,rfl,?_,int_eq (by omega),trivial⟩,rfl,rfl,by omega,by omega⟩
   obtain⟨j,rfl⟩:∃j,i=j+1:=⟨i - 1,by omega⟩
   rfl
  ·obtain rfl:i=n:=by omega
   (refine Ah<|Ac<|Ab rfl<|Ab rfl<|Av rfl rfl<|Aa<|An rfl (by omega)<|AU<|Ah<|Bp<|Ab rfl<|Bj rfl<|Ab rfl ?_);refine V1 (n:=i) rfl rfl rfl hc2 ?_;refine AD rfl (h1 ⟨by omega,by omega⟩) ?_;by_cases he:CW (Eo l i i)=l.take i
   ·(refine FE rfl rfl<|Bo<|Au rfl (by omega)<|Ac<|Ab rfl<|Ab rfl<|Ab rfl<|Ab rfl<|Aa<|Aq ?_);rw[if_pos he] at hgo;rw[←hgo];exact Cu rfl rfl
   ·(refine FE rfl rfl<|Bo<|An rfl (by omega)<|Ao<|Ax<|Ab rfl<|AI rfl rfl (by omega) (by omega)<|Ab rfl<|Aa ?_);rw[if_neg he] at hgo;exact⟨i+1,by omega,⟨rfl,rfl,int_eq (by omega),trivial⟩,rfl,rfl,by omega,by omega,by rw[show 5 - (i+1)=g by omega];exact hgo⟩
 ·have hz:DQ l=(0,0):=by
   rw[←hgo];cases h:5 - n with
   |zero=>rfl
   |succ g=>simp only[D8];rw[if_neg hc]
  rw[hz];by_cases hc4:n≤4
  ·have hc5:¬n≤l.length:=fun h=>hc ⟨hc4,h⟩;(refine Ah<|Ac<|Ab rfl<|C1 rfl rfl<|Ad rfl<|AF rfl (by omega)<|Af rfl<|Ab rfl<|Af rfl<|Bj rfl<|Af rfl<|Ev rfl<|Af rfl<|C1 rfl rfl<|Ap rfl rfl<|Aa<|An rfl (by omega)<|AU<|Ac<|Ab rfl<|Ab rfl<|Aa<|Aq ?_);exact Cu rfl rfl
  ·(refine Ah<|Ac<|Ab rfl<|C1 rfl rfl<|Ad rfl<|Az rfl (by omega)<|Aj rfl<|Aj rfl<|Aj rfl<|Aj rfl<|Am rfl rfl<|Aa<|AJ rfl<|AU<|Ac<|Ab rfl<|Ab rfl<|Aa<|Aq ?_);exact Cu rfl rfl
def Ir(a0:Nat):A0:=⟨18,[(.tmp 2)],(sR (o1 2 (.mv (.const (.bool false))) .done) (.seq (.block 0 (.loop (.seq (sR (om 5 0<|o1 6 (.lens 5)<|ob 7 .gtr 6 z0 .done) (.cond 7 .skip (.exit 0))) (.block 1 (sR (om 9 0<|oc 10 a0 [9]<|om 8 10<|oe 11 8 0<|oe 12 8 1<|om 3 11<|om 4 12 .done) (.seq (sR (om 13 4<|ob 14 .eql 13 z0 .done) (.cond 14 (sR (o1 2 (.mv (.const (.bool false))) .done) .ret) .skip)) (rG (om 15 0<|om 16 4<|o1 17 (.sls 15 (some 16) none)<|om 0 17 .done)))))))) (sR (o1 2 (.mv (.const (.bool true))) .done) .ret)))⟩
def Ry{T:Ae→Prop}{P f f1}(hd:dec P f=some (Ir f1))(h1:MF P f1):EO T P f:=by
 intro d l ht hl;refine AG.of' hd (No rfl) ?_;show gwp P _ _ _ _ _;(refine Ac<|Ad rfl<|Aa<|Ah<|As ?_);refine Dy (α:=List UInt8) (fun l'=>[(0,Al l')]) (fun _=>[]) (fun l'=>l'.length≤l.length∧u8 l'=u8 l) (fun l'=>l'.length) l ⟨rfl,trivial⟩ rfl ⟨Xq _,rfl⟩ ?_;rintro l' ρ ⟨hle,hu⟩;by_cases hc:l'=[]
 ·have h0:l'.length=0:=by rw[hc];rfl
  (refine Ah<|Ac<|Bj rfl<|Ev rfl<|AM rfl rfl<|Aa<|An rfl (by omega)<|AU<|Ac<|Ad rfl<|Aa<|Aq ?_);apply A1;rfl;rw[←hu,hc];rfl
 ·have hpos:1≤l'.length:=XV.2 hc;have hs:=V0 hc;have hw:=LQ l' 4 1;have hw:0≤(DQ l').2∧(DQ l').2≤l'.length:=hw;(refine Ah<|Ac<|Bj rfl<|Ev rfl<|AM rfl rfl<|Aa<|Au rfl (by omega)<|Ao<|As<|Ac<|Bj rfl ?_);refine AD rfl (h1 hc (by omega)) ?_;by_cases h0:(DQ l').2=0
  ·(refine A9 rfl<|AH rfl rfl<|AH rfl rfl<|Ab rfl<|Ab rfl<|Aa<|Ah<|Ac<|Ab rfl<|At rfl rfl<|Aa<|Au rfl (by omega)<|Ac<|Ad rfl<|Aa<|Aq ?_);apply A1;rfl;rw[←hu,u8,hs,if_pos h0]
  ·(refine A9 rfl<|AH rfl rfl<|AH rfl rfl<|Ab rfl<|Ab rfl<|Aa<|Ah<|Ac<|Ab rfl<|At rfl rfl<|Aa<|An rfl (by omega)<|Ao<|Ax<|Bj rfl<|Ab rfl ?_);refine RO (n:=(DQ l').2.toNat) rfl rfl (by omega) (by omega) ?_;(refine Bj rfl<|Aa ?_);refine⟨l'.drop (DQ l').2.toNat,by simp;omega,⟨rfl,trivial⟩,rfl,rfl,by simp;omega,?_⟩
   rw[←hu,u8,u8,hs,if_neg h0]
end Go.Gk.Val
end
section
namespace Go.Gk.Num
open Go
def Br(n:Nat):List Nat:=if _:n=0 then [] else Br (n / 10)++[n % 10]
termination_by n
decreasing_by omega
def Et:Br 0=[]:=by rw[Br];simp
def D4{n:Nat}(h:n≠0):Br n=Br (n / 10)++[n % 10]:=by rw[Br];simp[h]
def val(l:List Nat):Nat:=l.foldl (fun m d=>m*10+d) 0
def K3(l:List Nat)(d:Nat):val (l++[d])=val l*10+d:=by simp[val]
def FF{p:Nat→Prop}(h0:p 0)(hs:∀n,n≠0→p (n / 10)→p n)(n:Nat):p n:=by
 induction n using Nat.strongRecOn with
 |_ n ih=>
  by_cases h:n=0
  ·subst h;exact h0
  ·exact hs n h (ih _ (by omega))
def GX(n:Nat):val (Br n)=n:=by
 induction n using FF with
 |h0=>rw[Et];rfl
 |hs n h ih=>rw[D4 h,K3,ih];omega
def H2(n:Nat):∀d∈Br n,d<10:=by
 induction n using FF with
 |h0=>rw[Et];simp
 |hs n h ih=>
  rw[D4 h]
  intro d hd
  rcases Xs.1 hd with hd|hd
  ·exact ih d hd
  ·rw[List.mem_singleton.1 hd];omega
def GZ(n:Nat):∀k,(Br n).length≤k↔n<10 ^ k:=by
 induction n using FF with
 |h0=>intro k;rw[Et];simp;exact Nat.pow_pos (by omega)
 |hs n h ih=>
  intro k
  rw[D4 h,Xl,XI]
  cases k with
  |zero=>simp;omega
  |succ k=>
   have:=ih k
   rw[Y0]
   constructor
   ·intro h1;have:=this.1 (by omega);omega
   ·intro h1;have:=this.2 (by omega);omega
def FV{n:Nat}(h:n≠0):∃d l,Br n=d::l∧d≠0:=by
 induction n using FF with
 |h0=>exact absurd rfl h
 |hs n hn ih=>
  by_cases h1:n / 10=0
  ·refine⟨n % 10,[],?_,by omega⟩
   rw[D4 hn,h1,Et];rfl
  ·obtain⟨d,l,e,hd⟩:=ih h1
   exact⟨d,l++[n % 10],by rw[D4 hn,e];rfl,hd⟩
def lead:List Nat→List Nat
 |0::l=>lead l
 |l=>l
def C8:Nat→List Nat→Int→List Nat×Int
 |0,l,e=>(l,e)
 |f+1,l,e=>if l.getLast?=some 0 then C8 f l.dropLast (e+1) else(l,e)
def DT(neg:Bool)(l:List Nat)(e:Int):Int×Int×Int:=
 let p:=C8 (lead l).length (lead l) e
 if p.1=[] then(0,0,0) else
 if p.1.length>18∨p.2< -64∨p.2>64 then(0,0,11) else
 (if neg then -(val p.1:Int) else(val p.1:Int),p.2,0)
def Om:∀f l (e:Int),e≤(C8 f l e).2
 |0,l,e=>Int.le_refl e
 |f+1,l,e=>by
  simp only[C8];split
  ·have:=Om f l.dropLast (e+1);omega
  ·exact Int.le_refl e
def LJ:∀f d l (e:Int),d≠0→∃l',(C8 f (d::l) e).1=d::l'
 |0,d,l,e,_=>⟨l,rfl⟩
 |f+1,d,l,e,hd=>by
  simp only[C8];split
  ·rename_i h;cases l with
   |nil=>simp at h;exact absurd h hd
   |cons a l=>rw[List.dropLast_cons_cons];exact LJ f d _ _ hd
  ·exact⟨l,rfl⟩
def PG(m e:Int)(h1: -64≤e)(h2:e≤64):((DT (decide (m<0)) (Br m.natAbs) e).2.2=0∧(DT (decide (m<0)) (Br m.natAbs) e).1=m∧(DT (decide (m<0)) (Br m.natAbs) e).2.1=e)↔
  (if m=0 then e=0 else(-1000000000000000000<m∧m<1000000000000000000∧m % 10≠0∧ -64≤e∧e≤64)):=by
 by_cases h0:m=0
 ·subst h0
  rw[show(0:Int).natAbs=0 from rfl,Et]
  simp[DT,lead,C8,eq_comm]
 ·rw[if_neg h0]
  have hn:m.natAbs≠0:=by omega
  obtain⟨d,l,hdl,hd0⟩:=FV hn
  have hlead:lead (Br m.natAbs)=Br m.natAbs:=by
   rw[hdl];cases d with
   |zero=>exact absurd rfl hd0
   |succ d=>rfl
  have hlast:(Br m.natAbs).getLast?=some (m.natAbs % 10):=by rw[D4 hn];simp
  have hlen:(Br m.natAbs).length≠0:=by rw[hdl];simp
  obtain⟨f,hf⟩:∃f,(Br m.natAbs).length=f+1:=⟨(Br m.natAbs).length - 1,by omega⟩
  have h18:=GZ m.natAbs 18
  have hv:=GX m.natAbs
  by_cases h10:m.natAbs % 10=0
  ·have hlast':(Br m.natAbs).getLast?=some 0:=by rw[hlast,h10]
   have ht:C8 (Br m.natAbs).length (Br m.natAbs) e=C8 f (Br m.natAbs).dropLast (e+1):=by rw[hf,C8,if_pos hlast']
   have hge:e+1≤(C8 (lead (Br m.natAbs)).length (lead (Br m.natAbs)) e).2:=by rw[hlead,ht];exact Om _ _ _
   obtain⟨l',hl'⟩:=LJ (Br m.natAbs).length d l e hd0
   have hne:¬(C8 (lead (Br m.natAbs)).length (lead (Br m.natAbs)) e).1=[]:=by rw[hlead];rw[←hdl] at hl';rw[hl'];simp
   constructor
   ·rintro⟨a,b,c⟩
    exfalso
    simp only[DT,if_neg hne] at a c
    split at a
    ·simp at a
    ·rename_i hc;rw[if_neg hc] at c;simp only at c;omega
   ·rintro⟨_,_,h,_⟩
    omega
  ·have hlast':¬(Br m.natAbs).getLast?=some 0:=by rw[hlast];simpa using h10
   have ht:C8 (lead (Br m.natAbs)).length (lead (Br m.natAbs)) e=(Br m.natAbs,e):=by rw[hlead,hf,C8,if_neg hlast']
   have hne:¬Br m.natAbs=[]:=by rw[hdl];simp
   have hp:(10:Nat)^ 18=1000000000000000000:=by decide
   simp only[DT,ht,if_neg hne]
   by_cases hb:(Br m.natAbs).length>18
   ·rw[if_pos (.inl hb)]
    constructor
    ·rintro⟨a,_⟩;simp at a
    ·rintro⟨a,b,_⟩
     exfalso
     have:=h18.2 (by rw[hp];omega)
     omega
   ·rw[if_neg (by omega),hv]
    have h3:=h18.1 (by omega)
    rw[hp] at h3
    constructor
    ·intro _;omega
    ·intro _
     refine⟨rfl,?_,rfl⟩
     by_cases hm:m<0
     ·simp[hm];omega
     ·simp[hm];omega
end Go.Gk.Num
end
section
namespace Go.Gk.Val
open Go Go.Gk Go.Gk.Num
attribute [local irreducible] gwp gws
def ints(l:List Nat):List Int:=l.map Int.ofNat
def O5(P:Program)(f:FuncId):Prop:=∀{d}{m e:Int},I64 m→I64 e→AY P f [.agg [vZ m,vZ e].toArray] d [] (Ret fun r d' L'=>L'=[]∧∃dv,r=.agg [.bool (decide (m<0)),dv,vZ e].toArray∧Eb d' dv (ints (Br m.natAbs)))
def I0:A0:=⟨31,[(.cell 2 (some 3))],(sR (o1 1 (.box 0)<|o1 2 (.alo (.agg #[(.bool false),(.slice none 0 0),(vZ 0)])) .done) (sR (oj 6 0 1<|ol 7 6<|ob 8 .lss 7 z0<|oj 9 1 1<|ol 10 9<|o1 11 (.bld [(0,1),(1,1),(2,1)] [(.bool false),(.slice none 0 0),(vZ 0)] [(0,8),(2,10)])<|o1 3 (.alo (.agg #[(.bool false),(.slice none 0 0),(vZ 0)]))<|o0 (.st 3 3 11) .done) (sR (oj 12 0 1<|ol 13 12<|om 4 13 .done) (.seq (.block 0 (.loop (.seq (sR (om 14 4<|ob 15 .neq 14 z0 .done) (.cond 15 .skip (.exit 0))) (.block 1 (sR (om 16 4<|ob 17 .rem 16 (kZ 10)<|om 5 17 .done) (.seq (sR (om 18 5<|ob 19 .lss 18 z0 .done) (.cond 19 (rG (om 20 5<|o1 21 (.un .neg 20)<|om 5 21 .done)) .skip)) (sR (om 22 5<|o1 23 (.bsl 1 1 [(vZ 0)] [(0,22)])<|oj 24 1 3<|ol 25 24<|o1 26 (.app 1 8 [(vZ 0)] 23 25)<|oj 27 1 3<|o0 (.st 1 27 26) .done) (rG (om 28 4<|ob 29 .quo 28 (kZ 10)<|om 4 29 .done))))))))) (sR (o1 30 (.ld (some 3) 3)<|o0 (.st 3 2 30) .done) .ret)))))⟩
set_option maxHeartbeats 1000000 in
def Vi{P f}(hd:dec P f=some I0):O5 P f:=by
 intro d m e hm he;obtain⟨hm1,hm2⟩:=hm;refine Bf hd (No rfl) ?_;have h19:=(GZ m.natAbs 19).2 (by
  have:(10:Nat)^ 19=10000000000000000000:=by decide
  omega)
 show gwp P _ _ _ _ _;(refine Ac<|AR rfl (fun _ _=>AV (fun _ _=>Aa<|Ac<|Ag rfl<|Ai rfl (Ak 1 rfl rfl)<|Av rfl rfl<|Ag rfl<|Ai rfl (Ak 1 rfl rfl)<|BF rfl<|AV (fun _ _=>?_))));rename_i b1 T1 b2 T2 b3 T3;refine AA 0 [.bool (decide (m<0)),.slice none 0 0,vZ e] rfl rfl rfl rfl (No rfl) rfl rfl ?_;(refine Aa<|Ac<|Ag rfl<|Ai rfl (Ak 2 rfl rfl)<|Ab rfl<|Aa<|Ah<|As ?_);refine A6 (α:=Int) (fun k=>[(2,pZ b2),(3,pZ b3),(4,vZ k)])
  (fun k d' L'=>Le d d'∧ -9223372036854775808≤k∧k≤9223372036854775807∧∃(D:List Nat) (a:Option Addr) (c:Nat),Br k.natAbs++D=Br m.natAbs∧(∀n∈D,n<10)∧Eb d' (.slice a D.length c) (ints D)∧L'=[bx b3 T3 [.bool (decide (m<0)),.slice a D.length c,vZ e],bx b2 T2 [.bool false,.slice none 0 0,vZ 0],bx b1 T1 [vZ m,vZ e]])
  (fun k=>k.natAbs) m ⟨rfl,rfl,rfl,trivial⟩ ⟨Le.refl d,hm1,hm2,[],none,0,by simp,by simp,(RSl.nil:RSl 1 Fl d (.slice none 0 0) []),rfl⟩ ?_
 rintro k ρ d' L' ⟨hl,hk1,hk2,D,a,c,hdig,hlt,hr,hL⟩;subst hL;by_cases hk0:k=0
 ·subst hk0;rw[show(0:Int).natAbs=0 from rfl,Et,XL] at hdig;(refine Ah<|Ac<|Ab rfl<|AB rfl rfl<|Aa<|An rfl (by omega)<|AU<|Ac<|AE 0 rfl rfl rfl ?_);refine AA 1 [.bool (decide (m<0)),.slice a D.length c,vZ e] rfl rfl rfl rfl (No rfl) rfl rfl ?_;(refine Aa<|Aq ?_);refine B8 [.agg [.bool (decide (m<0)),.slice a D.length c,vZ e].toArray] ⟨A4 1 rfl rfl rfl,trivial⟩ (Xm _) ⟨rfl,_,rfl,by rw[←hdig];exact hr⟩
 ·have hpos:=D4 (n:=k.natAbs) (by omega);have hmod:(k.tmod 10).natAbs=k.natAbs % 10:=by rw[Int.natAbs_tmod];rfl
  have hdiv:(k.tdiv 10).natAbs=k.natAbs / 10:=by rw[Int.natAbs_tdiv];rfl
  have hDl:D.length+1≤19:=by
   have:=congrArg Yw hdig;rw[Xl,hpos,Xl,XI] at this;omega
  have hnext:∀(g:Nat),g=k.natAbs % 10→Br (k.tdiv 10).natAbs++(g::D)=Br m.natAbs:=by
   intro g hg;rw[←hdig,hpos,hdiv,hg,List.append_assoc];rfl
  have hmb:(k.tmod 10).natAbs<10:=by omega
  by_cases hneg:k.tmod 10<0
  ·(refine Ah<|Ac<|Ab rfl<|AB rfl rfl<|Aa<|Au rfl (by omega)<|Ao<|As<|Ac<|Ab rfl<|FT rfl rfl (by omega)<|Ab rfl<|Aa<|Ah<|Ac<|Ab rfl<|Av rfl rfl<|Aa<|Au rfl (by omega)<|Ax<|Ab rfl<|UB rfl (by omega) (by omega)<|Ab rfl<|Aa<|Ac<|Ab rfl ?_);refine Ef (v0:=vZ (-(k.tmod 10))) rfl rfl (fun b8 T8=>?_);have hge:(-(k.tmod 10))=((k.natAbs % 10:Nat):Int):=by omega
   (refine Ag rfl<|Ai rfl (Ak 1 rfl rfl) ?_);refine ES (R:=Fl) (w:=.slice a D.length c) (xs:=[((k.natAbs % 10:Nat):Int)]) (ys:=ints D) 0 rfl rfl (AO.Fx (x:=((k.natAbs % 10:Nat):Int)) rfl ⟨congrArg (fun z=>[Value.int .i64 z]) hge,by omega,by omega⟩) rfl (RSl.src (R:=Fl) (xs:=ints D) hr MX (by omega) _) (by omega) (by simp[ints];omega) (by simp[ints];omega) (fun v9 h9 o9=>?_);refine Bt (fun d9 hl9 hg9=>?_);have hr9:Eb d9 v9 (ints (k.natAbs % 10::D)):=o9.rsl Pu (by omega) hl9 hg9;obtain⟨a9,c9,rfl⟩:∃a9 c9,v9=.slice a9 (k.natAbs % 10::D).length c9:=by
    obtain⟨a9,c9,e9⟩:=o9.val;exact⟨a9,c9,by rw[e9];simp[ints]⟩
   (apply Ag;rfl);refine AA 0 [.bool (decide (m<0)),.slice a9 (k.natAbs % 10::D).length c9,vZ e] rfl rfl rfl rfl (No rfl) rfl rfl ?_;(refine Aa<|Ax<|Ab rfl<|OV rfl rfl (by omega) (by omega) (by omega)<|Ab rfl<|Aa ?_);refine⟨k.tdiv 10,by omega,⟨rfl,rfl,rfl,trivial⟩,hl.trans hl9,by omega,by omega,k.natAbs % 10::D,a9,c9,hnext _ rfl,?_,hr9,rfl⟩
   intro n hn;rcases Xu.1 hn with rfl|hn
   ·omega
   ·exact hlt n hn
  ·(refine Ah<|Ac<|Ab rfl<|AB rfl rfl<|Aa<|Au rfl (by omega)<|Ao<|As<|Ac<|Ab rfl<|FT rfl rfl (by omega)<|Ab rfl<|Aa<|Ah<|Ac<|Ab rfl<|Av rfl rfl<|Aa<|An rfl (by omega)<|Ao<|Ac<|Ab rfl ?_);refine Ef (v0:=vZ (k.tmod 10)) rfl rfl (fun b8 T8=>?_);have hge:(k.tmod 10)=((k.natAbs % 10:Nat):Int):=by omega
   (refine Ag rfl<|Ai rfl (Ak 1 rfl rfl) ?_);refine ES (R:=Fl) (w:=.slice a D.length c) (xs:=[((k.natAbs % 10:Nat):Int)]) (ys:=ints D) 0 rfl rfl (AO.Fx (x:=((k.natAbs % 10:Nat):Int)) rfl ⟨congrArg (fun z=>[Value.int .i64 z]) hge,by omega,by omega⟩) rfl (RSl.src (R:=Fl) (xs:=ints D) hr MX (by omega) _) (by omega) (by simp[ints];omega) (by simp[ints];omega) (fun v9 h9 o9=>?_);refine Bt (fun d9 hl9 hg9=>?_);have hr9:Eb d9 v9 (ints (k.natAbs % 10::D)):=o9.rsl Pu (by omega) hl9 hg9;obtain⟨a9,c9,rfl⟩:∃a9 c9,v9=.slice a9 (k.natAbs % 10::D).length c9:=by
    obtain⟨a9,c9,e9⟩:=o9.val;exact⟨a9,c9,by rw[e9];simp[ints]⟩
   (apply Ag;rfl);refine AA 0 [.bool (decide (m<0)),.slice a9 (k.natAbs % 10::D).length c9,vZ e] rfl rfl rfl rfl (No rfl) rfl rfl ?_;(refine Aa<|Ax<|Ab rfl<|OV rfl rfl (by omega) (by omega) (by omega)<|Ab rfl<|Aa ?_);refine⟨k.tdiv 10,by omega,⟨rfl,rfl,rfl,trivial⟩,hl.trans hl9,by omega,by omega,k.natAbs % 10::D,a9,c9,hnext _ rfl,?_,hr9,rfl⟩
   intro n hn;rcases Xu.1 hn with rfl|hn
   ·omega
   ·exact hlt n hn
def E5(l:List Nat):(ints l).length=l.length:=by simp[ints]
def ints_at(l:List Nat){i:Nat}(h:i<(ints l).length):(ints l)[i]=((l[i]'(by rw[E5] at h;exact h):Nat):Int):=by simp[ints]
def Ob:∀(n:Nat) (l:List Nat),l.length=n→(∀d∈l,d<10)→val l<10 ^ n:=by
 intro n;induction n with
 |zero=>intro l h _;rw[Xo h];decide
 |succ n ih=>
  intro l h hl
  have hne:l≠[]:=by intro h2;subst h2;simp at h
  rw[←List.dropLast_concat_getLast hne,K3,Y0]
  have h1:=ih l.dropLast (by simp[h]) (fun d hd=>hl d (List.dropLast_subset l hd))
  have h2:=hl _ (List.getLast_mem hne)
  omega
def Mo(P:Program)(f:FuncId):Prop:=∀{d}{neg:Bool}{dv}{D:List Nat}{e:Int},Eb d dv (ints D)→(∀n∈D,n<10)→D.length≤100→ -1000≤e→e≤1000→
 AG P f [.agg [.bool neg,dv,vZ e].toArray] d (.tuple #[.agg [vZ (DT neg D e).1,vZ (DT neg D e).2.1].toArray,vZ (DT neg D e).2.2])
def IA:A0:=⟨91,[(.cell 2 (some 2)),(.tmp 3)],(sR (o1 1 (.box 0)<|o1 2 (.alo (.agg #[(vZ 0),(vZ 0)]))<|o1 3 (.mv z0) .done) (.seq (.block 0 (.loop (.seq (sR (oj 6 1 1<|ol 7 6<|oL 8 7<|ob 9 .gtr 8 z0<|om 10 9<|oT 11 10 (.fld 1 1)<|oT 12 10 (.ld none 11)<|oT 13 10 (.idx 1 12 z0)<|oT 14 10 (.ld none 13)<|oT 15 10 (.bin .eql 14 z0)<|gP 16 10 15 .done) (.cond 16 .skip (.exit 0))) (.block 1 (rG (oj 17 1 1<|ol 18 17<|o1 19 (.sl 1 18 (some z1) none none)<|oj 20 1 1<|o0 (.st 1 20 19) .done)))))) (.seq (.block 2 (.loop (.seq (sR (oj 21 1 1<|ol 22 21<|oL 23 22<|ob 24 .gtr 23 z0<|om 25 24<|oT 26 25 (.fld 1 1)<|oT 27 25 (.ld none 26)<|oT 28 25 (.fld 1 1)<|oT 29 25 (.ld none 28)<|oT 30 25 (.len 29)<|oT 31 25 (.bin .sub 30 z1)<|oT 32 25 (.idx 1 27 31)<|oT 33 25 (.ld none 32)<|oT 34 25 (.bin .eql 33 z0)<|gP 35 25 34 .done) (.cond 35 .skip (.exit 2))) (.block 3 (sR (oj 36 1 1<|ol 37 36<|oj 38 1 1<|ol 39 38<|oL 40 39<|ob 41 .sub 40 z1<|o1 42 (.sl 1 37 none (some 41) none)<|oj 43 1 1<|o0 (.st 1 43 42) .done) (rG (oj 44 2 1<|ol 45 44<|ob 46 .add 45 z1<|oj 47 2 1<|o0 (.st 1 47 46) .done))))))) (.seq (sR (oj 48 1 1<|ol 49 48<|oL 50 49<|ob 51 .eql 50 z0 .done) (.cond 51 (sR (o1 52 (.bld [(0,1),(1,1)] [(vZ 0),(vZ 0)] [])<|o0 (.st 2 2 52)<|o1 3 (.mv z0) .done) .ret) .skip)) (.seq (sR (oj 53 1 1<|ol 54 53<|oL 55 54<|ob 56 .gtr 55 (kZ 18)<|om 57 56<|oF 58 57 (.fld 2 1)<|oF 59 57 (.ld none 58)<|oF 60 57 (.bin .lss 59 (kZ (-64)))<|o1 61 (.pick 57 (.const (.bool true)) 60)<|om 62 61<|oF 63 62 (.fld 2 1)<|oF 64 62 (.ld none 63)<|oF 65 62 (.bin .gtr 64 (kZ 64))<|o1 66 (.pick 62 (.const (.bool true)) 65) .done) (.cond 66 (sR (o1 67 (.bld [(0,1),(1,1)] [(vZ 0),(vZ 0)] [])<|o0 (.st 2 2 67)<|o1 3 (.mv (kZ 11)) .done) .ret) .skip)) (sR (o1 4 (.mv z0) .done) (.seq (sR (o1 5 (.mv z0) .done) (.block 4 (.loop (.seq (sR (om 68 5<|oj 69 1 1<|ol 70 69<|oL 71 70<|ob 72 .lss 68 71 .done) (.cond 72 .skip (.exit 4))) (.seq (.block 5 (rG (om 75 4<|ob 76 .mul 75 (kZ 10)<|oj 77 1 1<|ol 78 77<|om 79 5<|oI 80 1 78 79<|ol 81 80<|ob 82 .add 76 81<|om 4 82 .done))) (rG (om 73 5<|ob 74 .add 73 z1<|om 5 74 .done))))))) (.seq (sR (oj 83 0 1<|ol 84 83 .done) (.cond 84 (rG (om 85 4<|o1 86 (.un .neg 85)<|om 4 86 .done)) .skip)) (sR (om 87 4<|oj 88 2 1<|ol 89 88<|o1 90 (.bld [(0,1),(1,1)] [(vZ 0),(vZ 0)] [(0,87),(1,89)])<|o0 (.st 2 2 90)<|o1 3 (.mv z0) .done) .ret)))))))))⟩
set_option maxHeartbeats 1000000 in
def Tg{P f}(hd:dec P f=some IA):Mo P f:=by
 intro d neg dv D e hv hlt hDl he1 he2;obtain⟨a0,c0,rfl⟩:=RSl.val hv;rw[E5] at hv;refine AG.of' hd (No rfl) ?_;obtain⟨res,hres⟩:∃r,r=DT neg D e:=⟨_,rfl⟩
 rw[←hres,E5];show gwp P _ _ _ _ _;apply Ah;apply Ax;refine AR (l:=[.bool neg,.slice a0 D.length c0,vZ e]) rfl (fun b1 T1=>?_);(refine AV (fun _ _=>Ab rfl<|Aa ?_));rename_i b2 T2;refine DY (fun ρ d' L'=>d'=d∧Bi ρ [(1,pZ b1),(2,pZ b2)]∧∃(D':List Nat) (a:Option Addr) (c:Nat),D'=lead D∧(∀n∈D',n<10)∧D'.length≤D.length∧Eb d (.slice a D'.length c) (ints D')∧L'=[bx b2 T2 [vZ 0,vZ 0],bx b1 T1 [.bool neg,.slice a D'.length c,vZ e]]) ?_ ?_;apply As;refine A6 (α:=List Nat) (fun _=>[(1,pZ b1),(2,pZ b2)])
  (fun D' d' L'=>d'=d∧lead D'=lead D∧(∀n∈D',n<10)∧D'.length≤D.length∧∃a c,Eb d (.slice a D'.length c) (ints D')∧L'=[bx b2 T2 [vZ 0,vZ 0],bx b1 T1 [.bool neg,.slice a D'.length c,vZ e]])
  (fun D'=>D'.length) D ⟨rfl,rfl,trivial⟩ ⟨rfl,rfl,hlt,Xq _,a0,c0,hv,rfl⟩ ?_
 clear hv hlt;rintro D1 ρ d' L' ⟨hdd,hlead,hlt,hl1,a,c,hr,hL⟩;subst hdd;subst hL;have hil:=E5 D1;have exit:lead D1=D1→∀(x0:List Nat×Int),x0=(D1,e)→True:=fun _ _ _=>trivial;by_cases hgo:∃l,D1=0::l
 ·obtain⟨l,rfl⟩:=hgo;have h0:(ints (0::l))[0]'(by simp[ints])=0:=rfl;have hp:0<(0::l).length:=by simp
  (refine Ah<|Ac<|Ag rfl<|Ai rfl (Ak 1 rfl rfl)<|Ay rfl<|AM rfl rfl<|Ad rfl<|AF rfl (by omega)<|Af rfl<|Ag rfl<|Af rfl<|Ai rfl (Ak 1 rfl rfl)<|Af rfl<|AN (m:=0) (sz:=1) (R:=Fl) (by rfl) (by assumption) (by rfl) rfl (by omega) ?_;rintro _ _ _ _ _ ⟨rfl,_,_⟩;refine Af rfl<|Ai rfl (Bb (by assumption) rfl)<|Af rfl<|At rfl rfl<|Ap rfl rfl<|Aa<|Au rfl (by omega)<|Ao<|As<|Ax<|Ag rfl<|Ai rfl (Ak 1 rfl rfl) ?_);refine GF (n:=1) rfl hr rfl rfl (by simp[ints]) (fun v1 hv1=>?_);obtain⟨a1,c1,rfl⟩:∃a1 c1,v1=.slice a1 l.length c1:=by
   obtain⟨a1,c1,e1⟩:=RSl.val hv1;exact⟨a1,c1,by rw[e1];simp[ints]⟩
  (apply Ag;rfl);refine AA 1 [.bool neg,.slice a1 l.length c1,vZ e] rfl rfl rfl rfl (No rfl) rfl rfl ?_;(apply Aa);exact⟨l,by simp,⟨rfl,rfl,trivial⟩,rfl,hlead,fun n hn=>hlt n (Xk _ hn),by simp at hl1;omega,a1,c1,hv1,rfl⟩
 ·have hlead1:lead D1=D1:=by
   cases D1 with
   |nil=>rfl
   |cons x l=>
    cases x with
    |zero=>exact absurd ⟨l,rfl⟩ hgo
    |succ x=>rfl
  cases D1 with
  |nil=>
   have h00:([]:List Nat).length=0:=rfl
   (refine Ah<|Ac<|Ag rfl<|Ai rfl (Ak 1 rfl rfl)<|Ay rfl<|AM rfl rfl<|Ad rfl<|Az rfl (by omega)<|Aj rfl<|Aj rfl<|Aj rfl<|Aj rfl<|Aj rfl<|Am rfl rfl<|Aa<|AJ rfl<|AU ?_)
   exact⟨rfl,⟨rfl,rfl,trivial⟩,[],a,c,hlead,hlt,hl1,hr,rfl⟩
  |cons x l=>
   have h0:¬(ints (x::l))[0]'(by simp[ints])=0:=by
    rw[ints_at];intro h;have h:(x:Int)=0:=h;exact hgo ⟨l,by rw[show x=0 by omega]⟩
   have hp:0<(x::l).length:=by simp
   (refine Ah<|Ac<|Ag rfl<|Ai rfl (Ak 1 rfl rfl)<|Ay rfl<|AM rfl rfl<|Ad rfl<|AF rfl (by omega)<|Af rfl<|Ag rfl<|Af rfl<|Ai rfl (Ak 1 rfl rfl)<|Af rfl<|AN (m:=0) (sz:=1) (R:=Fl) (by rfl) (by assumption) (by rfl) rfl (by omega) ?_;rintro _ _ _ _ _ ⟨rfl,_,_⟩;refine Af rfl<|Ai rfl (Bb (by assumption) rfl)<|Af rfl<|At rfl rfl<|Ap rfl rfl<|Aa<|An rfl (by omega)<|AU ?_)
   exact⟨rfl,⟨rfl,rfl,trivial⟩,x::l,a,c,by rw[←hlead,hlead1],hlt,hl1,hr,rfl⟩
 rintro ρ d' L' ⟨hdd,hsl,D1,a1,c1,hD1,hlt1,hl1,hr1,hL⟩;subst hdd;subst hL;refine BQ _ hsl ?_;clear hv hlt hsl;refine DY (fun ρ d2 L'=>d2=d'∧Bi ρ [(1,pZ b1),(2,pZ b2)]∧∃(D':List Nat) (e':Int) (a:Option Addr) (c:Nat),(D',e')=C8 (lead D).length (lead D) e∧(∀n∈D',n<10)∧D'.length≤D.length∧e≤e'∧e'≤e+D.length∧Eb d' (.slice a D'.length c) (ints D')∧L'=[bx b2 T2 [vZ 0,vZ 0],bx b1 T1 [.bool neg,.slice a D'.length c,vZ e']]) ?_ ?_
 ·apply As;refine A6 (α:=List Nat×Int) (fun _=>[(1,pZ b1),(2,pZ b2)])
   (fun x d2 L'=>d2=d'∧C8 x.1.length x.1 x.2=C8 (lead D).length (lead D) e∧(∀n∈x.1,n<10)∧x.1.length≤D.length∧e≤x.2∧x.2≤e+(D.length - x.1.length:Int)∧∃a c,Eb d' (.slice a x.1.length c) (ints x.1)∧L'=[bx b2 T2 [vZ 0,vZ 0],bx b1 T1 [.bool neg,.slice a x.1.length c,vZ x.2]])
   (fun x=>x.1.length) (D1,e) ⟨rfl,rfl,trivial⟩ ⟨rfl,by rw[hD1],hlt1,hl1,Int.le_refl e,by simp only;omega,a1,c1,hr1,rfl⟩ ?_
  clear hr1 hlt1;rintro⟨D2,e2⟩ ρ d2 L' ⟨hdd,htr,hlt2,hl2,he3,he4,a,c,hr,hL⟩;simp only at htr hlt2 hl2 he3 he4 hr hL;subst hdd;subst hL;have hil:=E5 D2;by_cases hgo:D2.getLast?=some 0
  ·have hne:D2≠[]:=by intro h;subst h;simp at hgo
   have hpos:0<D2.length:=XV.2 hne;have hlast:D2[D2.length - 1]'(by omega)=0:=by
    rw[List.getLast?_eq_getElem?,Xt (by omega)] at hgo;simpa using hgo
   have h0:(ints D2)[D2.length - 1]'(by omega)=0:=by rw[ints_at,hlast];rfl
   (refine Ah<|Ac<|Ag rfl<|Ai rfl (Ak 1 rfl rfl)<|Ay rfl<|AM rfl rfl<|Ad rfl<|AF rfl (by omega)<|Af rfl<|Ag rfl<|Af rfl<|Ai rfl (Ak 1 rfl rfl)<|Af rfl<|Ag rfl<|Af rfl<|Ai rfl (Ak 1 rfl rfl)<|Af rfl<|Ay rfl<|Af rfl<|Bw rfl rfl (by omega) (by omega)<|Af rfl ?_);refine AN (sz:=1) (R:=Fl) (m:=D2.length - 1) (by rfl) hr (by rfl) (by omega) (by omega) ?_;rintro _ _ _ _ _ ⟨rfl,_,_⟩;(refine Af rfl<|Ai rfl (Bb (by assumption) rfl)<|Af rfl<|At rfl rfl<|Ap rfl rfl<|Aa<|Au rfl (by omega)<|Ao<|As<|Ac<|Ag rfl<|Ai rfl (Ak 1 rfl rfl)<|Ag rfl<|Ai rfl (Ak 1 rfl rfl)<|Ay rfl<|Bw rfl rfl (by omega) (by omega) ?_);refine LR (n:=D2.length - 1) rfl hr rfl (by omega) (by omega) (fun v1 hv1=>?_);have e1:(ints D2).take (D2.length - 1)=ints D2.dropLast:=by rw[ints,ints,←List.map_take,List.dropLast_eq_take]
   rw[e1] at hv1;obtain⟨a3,c3,rfl⟩:∃a3 c3,v1=.slice a3 D2.dropLast.length c3:=by
    obtain⟨a3,c3,e1⟩:=RSl.val hv1;exact⟨a3,c3,by rw[e1,E5]⟩
   (apply Ag;rfl);refine AA 1 [.bool neg,.slice a3 D2.dropLast.length c3,vZ e2] rfl rfl rfl rfl (No rfl) rfl rfl ?_;(refine Aa<|Ax<|Ag rfl<|Ai rfl (Ak 1 rfl rfl)<|AI rfl rfl (by omega) (by omega)<|Ag rfl ?_);refine AA 1 [.bool neg,.slice a3 D2.dropLast.length c3,vZ (e2+1)] rfl rfl rfl rfl (No rfl) rfl rfl ?_;(apply Aa);have hdl:D2.dropLast.length=D2.length - 1:=by simp
   refine⟨(D2.dropLast,e2+1),by simp only;omega,⟨rfl,rfl,trivial⟩,rfl,?_,fun n hn=>hlt2 n (List.dropLast_subset D2 hn),by simp only;omega,by simp only;omega,by simp only;omega,a3,c3,hv1,rfl⟩
   simp only;rw[←htr,hdl];obtain⟨f',hf⟩:∃f',D2.length=f'+1:=⟨D2.length - 1,by omega⟩
   rw[hf,Nat.add_sub_cancel,C8,if_pos hgo]
  ·have hend:(D2,e2)=C8 (lead D).length (lead D) e:=by
    rw[←htr];cases hf:D2.length with
    |zero=>rfl
    |succ f'=>rw[C8,if_neg hgo]
   by_cases hne:D2.length=0
   ·(refine Ah<|Ac<|Ag rfl<|Ai rfl (Ak 1 rfl rfl)<|Ay rfl<|AM rfl rfl<|Ad rfl<|Az rfl (by omega)<|Aj rfl<|Aj rfl<|Aj rfl<|Aj rfl<|Aj rfl<|Aj rfl<|Aj rfl<|Aj rfl<|Aj rfl<|Am rfl rfl<|Aa<|AJ rfl<|AU ?_);exact⟨rfl,⟨rfl,rfl,trivial⟩,D2,e2,a,c,hend,hlt2,hl2,he3,by omega,hr,rfl⟩
   ·have h0:¬(ints D2)[D2.length - 1]'(by omega)=0:=by
     rw[ints_at];intro h;apply hgo;rw[List.getLast?_eq_getElem?,Xt (by omega)];congr 1;omega
    (refine Ah<|Ac<|Ag rfl<|Ai rfl (Ak 1 rfl rfl)<|Ay rfl<|AM rfl rfl<|Ad rfl<|AF rfl (by omega)<|Af rfl<|Ag rfl<|Af rfl<|Ai rfl (Ak 1 rfl rfl)<|Af rfl<|Ag rfl<|Af rfl<|Ai rfl (Ak 1 rfl rfl)<|Af rfl<|Ay rfl<|Af rfl<|Bw rfl rfl (by omega) (by omega)<|Af rfl ?_);refine AN (sz:=1) (R:=Fl) (m:=D2.length - 1) (by rfl) hr (by rfl) (by omega) (by omega) ?_;rintro _ _ _ _ _ ⟨rfl,_,_⟩;(refine Af rfl<|Ai rfl (Bb (by assumption) rfl)<|Af rfl<|At rfl rfl<|Ap rfl rfl<|Aa<|An rfl (by omega)<|AU ?_);exact⟨rfl,⟨rfl,rfl,trivial⟩,D2,e2,a,c,hend,hlt2,hl2,he3,by omega,hr,rfl⟩
 rintro ρ d2 L' ⟨hdd,hsl,D2,e2,a2,c2,hend,hlt2,hl2,he3,he4,hr2,hL⟩;subst hdd;subst hL;refine BQ _ hsl ?_;clear hr1 hlt1 hsl;have hil:=E5 D2;have hsf:DT neg D e=if D2=[] then(0,0,0) else if D2.length>18∨e2< -64∨e2>64 then(0,0,11) else(if neg then -(val D2:Int) else(val D2:Int),e2,0):=by
  simp only[DT,←hend]
 by_cases h0:D2.length=0
 ·have hnil:=Xo h0;rw[if_pos hnil] at hsf;rw[hres,hsf];(refine Ah<|Ac<|Ag rfl<|Ai rfl (Ak 1 rfl rfl)<|Ay rfl<|At rfl rfl<|Aa<|Au rfl (by omega)<|Ac<|BF rfl ?_);refine AA 0 [vZ 0,vZ 0] rfl rfl rfl rfl (No rfl) rfl rfl ?_;(refine Ab rfl<|Aa<|Aq ?_);exact B8 [.agg [vZ 0,vZ 0].toArray,vZ 0] ⟨A4 0 rfl rfl rfl,AZ rfl,trivial⟩ (Xm _) ⟨rfl,rfl⟩
 have hnil:¬D2=[]:=by intro h;rw[h] at h0;exact h0 rfl
 rw[if_neg hnil] at hsf;by_cases hbad:D2.length>18∨e2< -64∨e2>64
 ·rw[if_pos hbad] at hsf;rw[hres,hsf];by_cases hb1:D2.length>18
  ·(refine Ah<|Ac<|Ag rfl<|Ai rfl (Ak 1 rfl rfl)<|Ay rfl<|At rfl rfl<|Aa<|An rfl (by omega)<|Ao<|Ah<|Ac<|Ag rfl<|Ai rfl (Ak 1 rfl rfl)<|Ay rfl<|AM rfl rfl<|Ad rfl<|AF rfl (by omega)<|Aj rfl<|Aj rfl<|Aj rfl<|Ap rfl rfl<|Ad rfl<|Aj rfl<|Aj rfl<|Aj rfl<|Ap rfl rfl<|Aa<|Bd rfl<|Ac<|BF rfl ?_);refine AA 0 [vZ 0,vZ 0] rfl rfl rfl rfl (No rfl) rfl rfl ?_;(refine Ab rfl<|Aa<|Aq ?_);exact B8 [.agg [vZ 0,vZ 0].toArray,vZ 11] ⟨A4 0 rfl rfl rfl,AZ rfl,trivial⟩ (Xm _) ⟨rfl,rfl⟩
  by_cases hb2:e2< -64
  ·(refine Ah<|Ac<|Ag rfl<|Ai rfl (Ak 1 rfl rfl)<|Ay rfl<|At rfl rfl<|Aa<|An rfl (by omega)<|Ao<|Ah<|Ac<|Ag rfl<|Ai rfl (Ak 1 rfl rfl)<|Ay rfl<|AM rfl rfl<|Ad rfl<|Az rfl (by omega)<|Af rfl<|Ag rfl<|Af rfl<|Ai rfl (Ak 1 rfl rfl)<|Af rfl<|Av rfl rfl<|Am rfl rfl<|Ad rfl<|AF rfl (by omega)<|Aj rfl<|Aj rfl<|Aj rfl<|Ap rfl rfl<|Aa<|Bd rfl<|Ac<|BF rfl ?_);refine AA 0 [vZ 0,vZ 0] rfl rfl rfl rfl (No rfl) rfl rfl ?_;(refine Ab rfl<|Aa<|Aq ?_);exact B8 [.agg [vZ 0,vZ 0].toArray,vZ 11] ⟨A4 0 rfl rfl rfl,AZ rfl,trivial⟩ (Xm _) ⟨rfl,rfl⟩
  ·have hb3:e2>64:=by omega
   (refine Ah<|Ac<|Ag rfl<|Ai rfl (Ak 1 rfl rfl)<|Ay rfl<|At rfl rfl<|Aa<|An rfl (by omega)<|Ao<|Ah<|Ac<|Ag rfl<|Ai rfl (Ak 1 rfl rfl)<|Ay rfl<|AM rfl rfl<|Ad rfl<|Az rfl (by omega)<|Af rfl<|Ag rfl<|Af rfl<|Ai rfl (Ak 1 rfl rfl)<|Af rfl<|Av rfl rfl<|Am rfl rfl<|Ad rfl<|Az rfl (by omega)<|Af rfl<|Ag rfl<|Af rfl<|Ai rfl (Ak 1 rfl rfl)<|Af rfl<|AM rfl rfl<|Am rfl rfl<|Aa<|Au rfl (by omega)<|Ac<|BF rfl ?_);refine AA 0 [vZ 0,vZ 0] rfl rfl rfl rfl (No rfl) rfl rfl ?_;(refine Ab rfl<|Aa<|Aq ?_);exact B8 [.agg [vZ 0,vZ 0].toArray,vZ 11] ⟨A4 0 rfl rfl rfl,AZ rfl,trivial⟩ (Xm _) ⟨rfl,rfl⟩
 rw[if_neg hbad] at hsf;have hb1:¬D2.length>18:=fun h=>hbad (.inl h);have hb2:¬e2< -64:=fun h=>hbad (.inr (.inl h));have hb3:¬e2>64:=fun h=>hbad (.inr (.inr h));have hvl:=Ob D2.length D2 rfl hlt2;have hvl2:∀i,i≤D2.length→val (D2.take i)<1000000000000000000:=fun i hi=>by
  have h1:=Ob i (D2.take i) (by simp;omega) (fun n hn=>hlt2 n (Yp hn));have h2:10 ^ i≤10 ^ 18:=YW (by omega) (by omega);have h3:(10:Nat)^ 18=1000000000000000000:=by decide
  omega
 (refine Ah<|Ac<|Ag rfl<|Ai rfl (Ak 1 rfl rfl)<|Ay rfl<|At rfl rfl<|Aa<|An rfl (by omega)<|Ao<|Ah<|Ac<|Ag rfl<|Ai rfl (Ak 1 rfl rfl)<|Ay rfl<|AM rfl rfl<|Ad rfl<|Az rfl (by omega)<|Af rfl<|Ag rfl<|Af rfl<|Ai rfl (Ak 1 rfl rfl)<|Af rfl<|Av rfl rfl<|Am rfl rfl<|Ad rfl<|Az rfl (by omega)<|Af rfl<|Ag rfl<|Af rfl<|Ai rfl (Ak 1 rfl rfl)<|Af rfl<|AM rfl rfl<|Am rfl rfl<|Aa<|An rfl (by omega)<|Ao<|Ac<|Ab rfl<|Aa<|Ah<|Ac<|Ab rfl<|Aa<|As ?_);refine Dy (α:=Nat) (fun i=>[(1,pZ b1),(2,pZ b2),(4,vZ (val (D2.take i):Nat)),(5,vZ i)]) (fun _=>[bx b2 T2 [vZ 0,vZ 0],bx b1 T1 [.bool neg,.slice a2 D2.length c2,vZ e2]])
  (fun i=>i≤D2.length) (fun i=>D2.length - i) 0 ⟨rfl,rfl,rfl,rfl,trivial⟩ rfl (Xw _) ?_
 intro i ρ hi;have hvi:=hvl2 i hi;by_cases hc:i<D2.length
 ·have hvi3:val (D2.take i)<100000000000000000:=by
   have h1:=Ob i (D2.take i) (by simp;omega) (fun n hn=>hlt2 n (Yp hn));have h2:10 ^ i≤10 ^ 17:=YW (by omega) (by omega);have h3:(10:Nat)^ 17=100000000000000000:=by decide
   omega
  have hdig:(ints D2)[i]'(by omega)=((D2[i]:Nat):Int):=ints_at D2 (by omega);have hd10:=hlt2 _ (Xh hc);have hd10':0≤(ints D2)[i]'(by omega)∧(ints D2)[i]'(by omega)≤9:=by rw[hdig];omega
  (refine Ah<|Ac<|Ab rfl<|Ag rfl<|Ai rfl (Ak 1 rfl rfl)<|Ay rfl<|Av rfl rfl<|Aa<|Au rfl (by omega)<|Ao<|Ah<|As<|Ax<|Ab rfl<|Hp rfl rfl (by omega) (by omega)<|Ag rfl<|Ai rfl (Ak 1 rfl rfl)<|Ab rfl<|AN (sz:=1) (R:=Fl) (by rfl) (by assumption) (by rfl) rfl (by omega) ?_;rintro _ _ _ _ _ ⟨rfl,_,_⟩;refine Ai rfl (Bb (by assumption) rfl)<|AI rfl rfl (by omega) (by omega)<|Ab rfl<|Aa<|Ax<|Ab rfl<|AI rfl rfl (by omega) (by omega)<|Ab rfl<|Aa ?_);refine⟨i+1,by omega,⟨rfl,rfl,int_eq ?_,int_eq (by omega),trivial⟩,rfl,rfl,hc⟩
  rw[Xi hc,K3,hdig];omega
 ·obtain rfl:i=D2.length:=by omega
  rw[Xz] at hvi⊢;cases neg with
  |true=>
   simp only[if_true] at hsf
   rw[hres,hsf]
   (refine Ah<|Ac<|Ab rfl<|Ag rfl<|Ai rfl (Ak 1 rfl rfl)<|Ay rfl<|Av rfl rfl<|Aa<|An rfl (by omega)<|AU<|Ah<|Ac<|Ag rfl<|Ai rfl (Ak 1 rfl rfl)<|Aa<|Bd rfl<|Ax<|Ab rfl<|UB rfl (by omega) (by omega)<|Ab rfl<|Aa<|Ac<|Ab rfl<|Ag rfl<|Ai rfl (Ak 1 rfl rfl)<|BF rfl ?_)
   refine AA 0 [vZ (-(val D2:Int)),vZ e2] rfl rfl rfl rfl (No rfl) rfl rfl ?_
   (refine Ab rfl<|Aa<|Aq ?_)
   exact B8 [.agg [vZ (-(val D2:Int)),vZ e2].toArray,vZ 0] ⟨A4 0 rfl rfl rfl,AZ rfl,trivial⟩ (Xm _) ⟨rfl,rfl⟩
  |false=>
   simp only[XG,if_false] at hsf
   rw[hres,hsf]
   (refine Ah<|Ac<|Ab rfl<|Ag rfl<|Ai rfl (Ak 1 rfl rfl)<|Ay rfl<|Av rfl rfl<|Aa<|An rfl (by omega)<|AU<|Ah<|Ac<|Ag rfl<|Ai rfl (Ak 1 rfl rfl)<|Aa<|AJ rfl<|Ao<|Ac<|Ab rfl<|Ag rfl<|Ai rfl (Ak 1 rfl rfl)<|BF rfl ?_)
   refine AA 0 [vZ (val D2:Int),vZ e2] rfl rfl rfl rfl (No rfl) rfl rfl ?_
   (refine Ab rfl<|Aa<|Aq ?_)
   exact B8 [.agg [vZ (val D2:Int),vZ e2].toArray,vZ 0] ⟨A4 0 rfl rfl rfl,AZ rfl,trivial⟩ (Xm _) ⟨rfl,rfl⟩
def IS(a0 a1:Nat):A0:=⟨26,[(.tmp 2)],(sR (o1 1 (.box 0)<|o1 2 (.mv (.const (.bool false))) .done) (.seq (sR (oj 5 1 1<|ol 6 5<|ob 7 .lss 6 (kZ (-64))<|om 8 7<|oF 9 8 (.fld 1 1)<|oF 10 8 (.ld none 9)<|oF 11 8 (.bin .gtr 10 (kZ 64))<|o1 12 (.pick 8 (.const (.bool true)) 11) .done) (.cond 12 (sR (o1 2 (.mv (.const (.bool false))) .done) .ret) .skip)) (sR (o1 14 (.ld (some 2) 1)<|oc 15 a0 [14]<|oc 16 a1 [15]<|om 13 16<|oe 17 13 0<|oe 18 13 1<|o1 3 (.alo (.agg #[(vZ 0),(vZ 0)]))<|o0 (.st 2 3 17)<|om 4 18 .done) (sR (om 19 4<|ob 20 .eql 19 z0<|om 21 20<|oT 22 21 (.ld (some 2) 3)<|oT 23 21 (.ld (some 2) 1)<|oT 24 21 (.eqc false [(0,0),(0,1)] 22 23)<|gP 25 21 24<|om 2 25 .done) .ret))))⟩
set_option maxHeartbeats 1000000 in
def Vz{T:Ae→Prop}{P f f1 f2}(hd:dec P f=some (IS f1 f2))(h1:O5 P f1)(h2:Mo P f2):Io T P f:=by
 intro d m e ht hm he;refine AG.of' hd (No rfl) ?_;show gwp P _ _ _ _ _;apply Ah;apply Ax;refine AR (l:=[vZ m,vZ e]) rfl (fun b1 T1=>?_);have hlaw:=fun h1 h2=>PG m e h1 h2;by_cases h3:e< -64
 ·(refine Ad rfl<|Aa<|Ah<|Ac<|Ag rfl<|Ai rfl (Ak 0 rfl rfl)<|Av rfl rfl<|Ad rfl<|AF rfl (by omega)<|Aj rfl<|Aj rfl<|Aj rfl<|Ap rfl rfl<|Aa<|Bd rfl<|Ac<|Ad rfl<|Aa<|Aq ?_);apply A1;rfl;rw[Bg];split
  ·rw[eq_comm];exact decide_eq_false (by omega)
  ·rw[eq_comm];exact decide_eq_false (by omega)
 by_cases h4:e>64
 ·(refine Ad rfl<|Aa<|Ah<|Ac<|Ag rfl<|Ai rfl (Ak 0 rfl rfl)<|Av rfl rfl<|Ad rfl<|Az rfl (by omega)<|Af rfl<|Ag rfl<|Af rfl<|Ai rfl (Ak 0 rfl rfl)<|Af rfl<|AM rfl rfl<|Am rfl rfl<|Aa<|Au rfl (by omega)<|Ac<|Ad rfl<|Aa<|Aq ?_);apply A1;rfl;rw[Bg];split
  ·rw[eq_comm];exact decide_eq_false (by omega)
  ·rw[eq_comm];exact decide_eq_false (by omega)
 have hlaw:=hlaw (by omega) (by omega);have hI:=hm;obtain⟨hm1,hm2⟩:=hm;have h19:=(GZ m.natAbs 19).2 (by
  have:(10:Nat)^ 19=10000000000000000000:=by decide
  omega)
 (refine Ad rfl<|Aa<|Ah<|Ac<|Ag rfl<|Ai rfl (Ak 0 rfl rfl)<|Av rfl rfl<|Ad rfl<|Az rfl (by omega)<|Af rfl<|Ag rfl<|Af rfl<|Ai rfl (Ak 0 rfl rfl)<|Af rfl<|AM rfl rfl<|Am rfl rfl<|Aa<|An rfl (by omega)<|Ao<|Ac<|AE 0 rfl rfl rfl ?_);refine AQ rfl (h1 hI he) (fun r d1 L1 hl1 ⟨hL,dv,hr,hdv⟩=>?_);subst hr;subst hL;refine AD rfl (h2 hdv (H2 _) (by omega) (by omega) (by omega)) ?_;generalize DT (decide (m<0)) (Br m.natAbs) e=p at hlaw;obtain⟨m',e',er⟩:=p;simp only at hlaw;(refine A9 rfl<|AH rfl rfl<|AH rfl rfl<|AV (fun _ _=>?_));rename_i b3 T3;refine AA 0 [vZ m',vZ e'] rfl rfl rfl rfl (No rfl) rfl rfl ?_;by_cases h5:er=0
 ·subst h5;(refine Ab rfl<|Aa<|Ac<|Ab rfl<|At rfl rfl<|Ad rfl<|AF rfl (by with_reducible rfl)<|Af rfl<|AE 0 rfl rfl rfl<|Af rfl<|AE 1 rfl rfl rfl<|Af rfl<|Cc rfl rfl<|Ap rfl rfl<|Ad rfl<|Aa<|Aq ?_);apply A1;rfl;rw[Bg,Yo];simp only[true_and] at hlaw;simp only[Bool.false_xor,Xg,decide_eq_true_eq];rw[hlaw];split<;>simp
 ·(refine Ab rfl<|Aa<|Ac<|Ab rfl<|At rfl rfl<|Ad rfl<|Az rfl (by omega)<|Aj rfl<|Aj rfl<|Aj rfl<|Am rfl rfl<|Ad rfl<|Aa<|Aq ?_);apply A1;rfl;rw[Bg,Yo];simp only[h5,false_and,false_iff] at hlaw;split at hlaw<;>rename_i h6
  ·simp[h6];exact hlaw
  ·simp only[if_neg h6,XG,false_iff,decide_eq_true_eq];exact hlaw
end Go.Gk.Val
end
section
namespace Go.Gk.Val
open Go Go.Gk
attribute [local irreducible] gwp gws
variable{P:Program}{f:FuncId}
def EK:List (List UInt8)→Nat
 |[]=>0
 |k::l=>1+k.length+EK l
def QB(l:List (List UInt8))(k:List UInt8):EK (l++[k])=EK l+1+k.length:=by
 induction l with
 |nil=>simp[EK]
 |cons a l ih=>simp only[XF,EK,ih];omega
mutual
def CV:V→Nat
 |.mk _ _ _ t l ks=>1+t.length+EK ks+Dg l
def Dg:List V→Nat
 |[]=>0
 |x::l=>CV x+Dg l
end
def Re(l:List V)(x:V):Dg (l++[x])=Dg l+CV x:=by
 induction l with
 |nil=>simp[Dg]
 |cons a l ih=>simp only[XF,Dg,ih];omega
def G5(v:V):CV v=1+v.text.length+EK v.keys+Dg v.list:=by obtain⟨k,m,e,t,l,ks⟩:=v;rfl
def M7{x:V}:∀{l:List V},x∈l→CV x≤Dg l
 |y::l,h=>by
  rcases Xu.1 h with rfl|h
  ·simp only[Dg];omega
  ·have:=M7 h;simp only[Dg];omega
def Rn(v:V):Bh v≤CV v:=by
 induction v using V.ind with
 |h v ih=>
  have h1:=G5 v
  obtain⟨n,hn⟩:∃n,CV v=n+1:=⟨CV v - 1,by omega⟩
  rw[hn,D5]
  intro x hx
  have:=M7 hx
  have:=ih x hx
  omega
def RK{v x:V}(h:x∈v.list):Bh x+1≤Bh v:=by
 obtain⟨n,hn⟩:∃n,Bh v=n+1:=⟨Bh v - 1,by have:=Ex v;omega⟩
 have:=(D5 (v:=v) (n:=n)).1 (by omega) x h;omega
def Jz(P:Program)(f:FuncId):Prop:=∀(v:V) {d cs}{most:Nat},Aw d cs v→most≤1000000→
 AY P f [.agg cs.toArray,vZ most] d [] (Ret fun r d' L'=>d'=d∧∃z:Int,r=vZ z∧0≤z∧z≤most+140737488355329∧(z≤most→z=CV v)∧L'=[])
def I5(a0:Nat):A0:=⟨64,[(.tmp 4)],(sR (o1 2 (.box 0)<|o1 4 (.mv z0) .done) (sR (oj 8 3 2<|ol 9 8<|o1 10 (.lens 9)<|ob 11 .add z1 10<|om 5 11 .done) (.seq (sR (oj 12 5 2<|ol 13 12<|oL 14 13<|om 15 1<|ob 16 .gtr 14 15 .done) (.cond 16 (sR (om 17 1<|ob 18 .add 17 z1<|om 4 18 .done) .ret) .skip)) (.seq (sR (o1 6 (.mv z0) .done) (.block 0 (.loop (.seq (sR (om 19 6<|oj 20 5 2<|ol 21 20<|oL 22 21<|ob 23 .lss 19 22<|om 24 23<|gT 25 24 5<|gT 26 24 1<|oT 27 24 (.bin .leq 25 26)<|gP 28 24 27 .done) (.cond 28 .skip (.exit 0))) (.seq (.block 1 (rG (om 31 5<|ob 32 .add 31 z1<|oj 33 5 2<|ol 34 33<|om 35 6<|oI 36 1 34 35<|ol 37 36<|o1 38 (.lens 37)<|ob 39 .add 32 38<|om 5 39 .done))) (rG (om 29 6<|ob 30 .add 29 z1<|om 6 30 .done))))))) (.seq (sR (o1 7 (.mv z0) .done) (.block 2 (.loop (.seq (sR (om 40 7<|oj 41 4 2<|ol 42 41<|oL 43 42<|ob 44 .lss 40 43<|om 45 44<|gT 46 45 5<|gT 47 45 1<|oT 48 45 (.bin .leq 46 47)<|gP 49 45 48 .done) (.cond 49 .skip (.exit 2))) (.seq (.block 3 (rG (om 52 5<|oj 53 4 2<|ol 54 53<|om 55 7<|oI 56 6 54 55<|o1 57 (.ld (some 6) 56)<|om 58 1<|om 59 5<|ob 60 .sub 58 59<|oc 61 a0 [57,60]<|ob 62 .add 52 61<|om 5 62 .done))) (rG (om 50 7<|ob 51 .add 50 z1<|om 7 51 .done))))))) (sR (om 63 5<|om 4 63 .done) .ret))))))⟩
def UZ(hd:dec P f=some (I5 f)):Jz P f:=by
 intro v;induction v using V.ind with
 |h v ih=>
 intro d cs most hv hm;refine AY.forget (Q:=fun r L'=>∃z:Int,r=vZ z∧0≤z∧z≤most+140737488355329∧(z≤most→z=CV v)∧L'=[]) ?_;refine Bf hd (No rfl) ?_;have hb:=G5 v;obtain⟨lv,kv,rfl,ik,im,ie,it,hl,hks⟩:=hv.open;obtain⟨la,lc,rfl⟩:=RSl.val hl;obtain⟨ka,kc,rfl⟩:=RSl.val hks;have hll:=RSl.A2 hl;have hkl:=RSl.A2 hks;have hks':RSl 1 Bk d (.slice ka v.keys.length kc) v.keys:=hks;have hl':RSl 6 Aw d (.slice la v.list.length lc) v.list:=hl;show gwp P _ _ _ _ _;apply Ah;apply Ax;refine AR (l:=[vZ v.kind,vZ v.m,vZ v.e,Al v.text,.slice la v.list.length lc,.slice ka v.keys.length kc]) rfl (fun b2 T2=>?_);by_cases hk0:v.keys.length>most
 ·(refine Ab rfl<|Aa<|Ac<|Ag rfl<|Ai rfl (Ak 0 rfl rfl)<|Ev rfl<|AI rfl rfl (by omega) (by omega)<|Ab rfl<|Aa<|Ah<|Ac<|Ag rfl<|Ai rfl (Ak 0 rfl rfl)<|Ay rfl<|Ab rfl<|AM rfl rfl<|Aa<|Au rfl (by omega)<|Ac<|Ab rfl<|AI rfl rfl (by omega) (by omega)<|Ab rfl<|Aa<|Aq ?_);exact EN rfl ⟨_,rfl,by omega,by omega,by omega,rfl⟩
 (refine Ab rfl<|Aa<|Ac<|Ag rfl<|Ai rfl (Ak 0 rfl rfl)<|Ev rfl<|AI rfl rfl (by omega) (by omega)<|Ab rfl<|Aa<|Ah<|Ac<|Ag rfl<|Ai rfl (Ak 0 rfl rfl)<|Ay rfl<|Ab rfl<|AM rfl rfl<|Aa<|An rfl (by omega) ?_);apply Ao;refine DY (fun ρ d' L'=>d'=d∧∃z:Int,Bi ρ [(1,vZ most),(2,pZ b2),(5,vZ z)]∧0≤z∧z≤most+140737488355329∧(z≤most→z=1+v.text.length+EK v.keys)∧L'=[bx b2 T2 [vZ v.kind,vZ v.m,vZ v.e,Al v.text,.slice la v.list.length lc,.slice ka v.keys.length kc]]) ?_ ?_
 ·(refine Ac<|Ab rfl<|Aa<|As ?_);refine A6 (α:=Nat×Int) (fun x=>[(1,vZ most),(2,pZ b2),(5,vZ x.2),(6,vZ x.1)])
   (fun x d' L'=>d'=d∧x.1≤v.keys.length∧0≤x.2∧x.2≤most+140737488355329∧x.2=1+v.text.length+EK (v.keys.take x.1)∧L'=[bx b2 T2 [vZ v.kind,vZ v.m,vZ v.e,Al v.text,.slice la v.list.length lc,.slice ka v.keys.length kc]])
   (fun x=>v.keys.length - x.1) (0,1+v.text.length) ⟨rfl,rfl,int_eq (by simp),rfl,trivial⟩ ⟨rfl,Xw _,by simp only;omega,by simp only;omega,by simp[EK],rfl⟩ ?_
  rintro⟨i,z⟩ ρ d' L' ⟨hdd,hi,hz1,hz2,hz3,hL⟩;simp only at hi hz1 hz2 hz3;subst hdd;subst hL;by_cases hc:i<v.keys.length
  ·have hki:v.keys[i].length≤140737488355328:=by
    obtain⟨_,_,_,_,_,_,_,_,_,_,_,h8⟩:=hks';obtain⟨cs,_,_,_,h9⟩:=h8 i hc;exact h9
   by_cases hc2:z≤most
   ·(refine Ah<|Ac<|Ab rfl<|Ag rfl<|Ai rfl (Ak 0 rfl rfl)<|Ay rfl<|Av rfl rfl<|Ad rfl<|AF rfl (by omega)<|Af rfl<|Ab rfl<|Af rfl<|Ab rfl<|Af rfl<|C1 rfl rfl<|Ap rfl rfl<|Aa<|Au rfl (by omega)<|Ao<|Ah<|As<|Ax<|Ab rfl<|AI rfl rfl (by omega) (by omega)<|Ag rfl<|Ai rfl (Ak 0 rfl rfl)<|Ab rfl<|AN (sz:=1) (R:=Bk) (by rfl) (by assumption) (by rfl) rfl (by omega) ?_;rintro _ _ _ _ _ ⟨rfl,_⟩;refine Ai rfl (Bb (by assumption) rfl)<|Ev rfl<|AI rfl rfl (by omega) (by omega)<|Ab rfl<|Aa<|Ax<|Ab rfl<|AI rfl rfl (by omega) (by omega)<|Ab rfl<|Aa ?_);refine⟨(i+1,z+1+v.keys[i].length),by simp only;omega,⟨rfl,rfl,rfl,rfl,trivial⟩,rfl,hc,by simp only;omega,by simp only;omega,?_,rfl⟩
    simp only;rw[Xi hc,QB,hz3];omega
   ·(refine Ah<|Ac<|Ab rfl<|Ag rfl<|Ai rfl (Ak 0 rfl rfl)<|Ay rfl<|Av rfl rfl<|Ad rfl<|AF rfl (by omega)<|Af rfl<|Ab rfl<|Af rfl<|Ab rfl<|Af rfl<|C1 rfl rfl<|Ap rfl rfl<|Aa<|An rfl (by omega)<|AU ?_);exact⟨rfl,z,⟨rfl,rfl,rfl,trivial⟩,hz1,hz2,fun h=>absurd h hc2,rfl⟩
  ·obtain rfl:i=v.keys.length:=by omega
   rw[Xz] at hz3;(refine Ah<|Ac<|Ab rfl<|Ag rfl<|Ai rfl (Ak 0 rfl rfl)<|Ay rfl<|Av rfl rfl<|Ad rfl<|Az rfl (by omega)<|Aj rfl<|Aj rfl<|Aj rfl<|Am rfl rfl<|Aa<|AJ rfl<|AU ?_);exact⟨rfl,z,⟨rfl,rfl,rfl,trivial⟩,hz1,hz2,fun _=>hz3,rfl⟩
 rintro ρ d' L' ⟨hdd,z0,hsl,hz1,hz2,hz3,hL⟩;subst hdd;subst hL;refine BQ _ hsl ?_;(refine Ah<|Ac<|Ab rfl<|Aa<|As ?_);refine A6 (α:=Nat×Int) (fun x=>[(1,vZ most),(2,pZ b2),(5,vZ x.2),(7,vZ x.1)])
  (fun x dd L'=>dd=d'∧x.1≤v.list.length∧0≤x.2∧x.2≤most+140737488355329∧(x.2≤most→x.2=1+v.text.length+EK v.keys+Dg (v.list.take x.1))∧L'=[bx b2 T2 [vZ v.kind,vZ v.m,vZ v.e,Al v.text,.slice la v.list.length lc,.slice ka v.keys.length kc]])
  (fun x=>v.list.length - x.1) (0,z0) ⟨rfl,rfl,rfl,rfl,trivial⟩ ⟨rfl,Xw _,hz1,hz2,fun h=>by have:=hz3 h;simp only at h⊢;simp[Dg];omega,rfl⟩ ?_
 clear hz1 hz2 hz3 hsl;rintro⟨i,z⟩ ρ d2 L' ⟨hdd,hi,hz1,hz2,hz3,hL⟩;simp only at hi hz1 hz2 hz3;subst hdd;subst hL;by_cases hc:i<v.list.length
 ·by_cases hc2:z≤most
  ·have hz3:=hz3 hc2;(refine Ah<|Ac<|Ab rfl<|Ag rfl<|Ai rfl (Ak 0 rfl rfl)<|Ay rfl<|Av rfl rfl<|Ad rfl<|AF rfl (by omega)<|Af rfl<|Ab rfl<|Af rfl<|Ab rfl<|Af rfl<|C1 rfl rfl<|Ap rfl rfl<|Aa<|Au rfl (by omega)<|Ao<|Ah<|As<|Ax<|Ab rfl<|Ag rfl<|Ai rfl (Ak 0 rfl rfl)<|Ab rfl<|AN (sz:=6) (R:=Aw) (by rfl) (by assumption) (by rfl) rfl (by omega) ?_;rintro _ _ _ _ _ _;refine B5 rfl (by assumption) (by assumption)<|Ab rfl<|Ab rfl<|Bw rfl rfl (by omega) (by omega) ?_);rename_i cs hcs hD hR;have hmz:(most:Int) - z=((most - z.toNat:Nat):Int):=by omega
   rw[hmz];refine AQ rfl (ih _ (Xh hc) hR (by omega)) (fun r d3 L3 _ ⟨hdd,y,hr,hy1,hy2,hy3,hL⟩=>?_);subst hdd;subst hr;subst hL;(refine AI rfl rfl (by omega) (by omega)<|Ab rfl<|Aa<|Ax<|Ab rfl<|AI rfl rfl (by omega) (by omega)<|Ab rfl<|Aa ?_);refine⟨(i+1,z+y),by simp only;omega,⟨rfl,rfl,rfl,rfl,trivial⟩,rfl,hc,by simp only;omega,by simp only;omega,?_,rfl⟩
   simp only;intro h;rw[Xi hc,Re];have:=hy3 (by omega);omega
  ·(refine Ah<|Ac<|Ab rfl<|Ag rfl<|Ai rfl (Ak 0 rfl rfl)<|Ay rfl<|Av rfl rfl<|Ad rfl<|AF rfl (by omega)<|Af rfl<|Ab rfl<|Af rfl<|Ab rfl<|Af rfl<|C1 rfl rfl<|Ap rfl rfl<|Aa<|An rfl (by omega)<|AU<|Ac<|Ab rfl<|Ab rfl<|Aa<|Aq ?_);exact EN rfl ⟨z,rfl,hz1,hz2,fun h=>absurd h hc2,rfl⟩
 ·obtain rfl:i=v.list.length:=by omega
  rw[Xz] at hz3;(refine Ah<|Ac<|Ab rfl<|Ag rfl<|Ai rfl (Ak 0 rfl rfl)<|Ay rfl<|Av rfl rfl<|Ad rfl<|Az rfl (by omega)<|Aj rfl<|Aj rfl<|Aj rfl<|Am rfl rfl<|Aa<|AJ rfl<|AU<|Ac<|Ab rfl<|Ab rfl<|Aa<|Aq ?_);exact EN rfl ⟨z,rfl,hz1,hz2,fun h=>by rw[hz3 h,hb];omega,rfl⟩
def KS(P:Program)(f:FuncId):Prop:=∀(v:V) {d cs},Aw d cs v→Bh v≤1000000000→AG P f [.agg cs.toArray] d (vZ (Bh v))
def PR(l:List V)(x:V):C6 (l++[x])=max (C6 l) (Bh x):=by
 induction l with
 |nil=>simp[C6]
 |cons a l ih=>simp only[XF,C6,ih];omega
def PJ(l:List V)(i:Nat):C6 (l.take i)≤C6 l:=by
 rw[Hg];intro x hx;exact(Hg.1 (Xq _)) x (Yp hx)
def Ss(v:V):Bh v=C6 v.list+1:=by obtain⟨k,m,e,t,l,ks⟩:=v;rfl
def IF(a0:Nat):A0:=⟨25,[(.tmp 2)],(sR (o1 1 (.box 0)<|o1 2 (.mv z0) .done) (sR (o1 3 (.mv z0) .done) (.seq (sR (o1 4 (.mv z0) .done) (.block 0 (.loop (.seq (sR (om 6 4<|oj 7 4 1<|ol 8 7<|oL 9 8<|ob 10 .lss 6 9 .done) (.cond 10 .skip (.exit 0))) (.seq (.block 1 (sR (oj 13 4 1<|ol 14 13<|om 15 4<|oI 16 6 14 15<|o1 17 (.ld (some 6) 16)<|oc 18 a0 [17]<|om 5 18 .done) (sR (om 19 5<|om 20 3<|ob 21 .gtr 19 20 .done) (.cond 21 (rG (om 22 5<|om 3 22 .done)) .skip)))) (rG (om 11 4<|ob 12 .add 11 z1<|om 4 12 .done))))))) (sR (om 23 3<|ob 24 .add z1 23<|om 2 24 .done) .ret))))⟩
def R3(hd:dec P f=some (IF f)):KS P f:=by
 intro v;induction v using V.ind with
 |h v ih=>
 intro d cs hv hb;refine AG.of' hd (No rfl) ?_;have he:=Ss v;obtain⟨lv,kv,rfl,ik,im,ie,it,hl,hks⟩:=hv.open;obtain⟨la,lc,rfl⟩:=RSl.val hl;have hll:=RSl.A2 hl;have hl':RSl 6 Aw d (.slice la v.list.length lc) v.list:=hl;show gwp P _ _ _ _ _;apply Ah;apply Ax;refine AR (l:=[vZ v.kind,vZ v.m,vZ v.e,Al v.text,.slice la v.list.length lc,kv]) rfl (fun b1 T1=>?_);(refine Ab rfl<|Aa<|Ac<|Ab rfl<|Aa<|Ah<|Ac<|Ab rfl<|Aa<|As ?_);refine Dy (α:=Nat) (fun i=>[(1,pZ b1),(3,vZ (C6 (v.list.take i))),(4,vZ i)]) (fun _=>[bx b1 T1 [vZ v.kind,vZ v.m,vZ v.e,Al v.text,.slice la v.list.length lc,kv]])
  (fun i=>i≤v.list.length) (fun i=>v.list.length - i) 0 ⟨rfl,int_eq (by simp[C6]),rfl,trivial⟩ rfl (Xw _) ?_
 intro i ρ hi;have hti:=PJ v.list i;by_cases hc:i<v.list.length
 ·have hm:=RK (Xh hc);(refine Ah<|Ac<|Ab rfl<|Ag rfl<|Ai rfl (Ak 0 rfl rfl)<|Ay rfl<|Av rfl rfl<|Aa<|Au rfl (by omega)<|Ao<|Ah<|As<|Ac<|Ag rfl<|Ai rfl (Ak 0 rfl rfl)<|Ab rfl<|AN (sz:=6) (R:=Aw) (by rfl) (by assumption) (by rfl) rfl (by omega) ?_;rintro _ _ _ _ _ _;apply B5;rfl;assumption;assumption);rename_i cs hcs hD hR;refine AD rfl (ih _ (Xh hc) hR (by omega)) ?_;have hsn:C6 (v.list.take (i+1))=max (C6 (v.list.take i)) (Bh v.list[i]):=by rw[Xi hc,PR]
  by_cases hg:C6 (v.list.take i)<Bh v.list[i]
  ·(refine Ab rfl<|Aa<|Ac<|Ab rfl<|Ab rfl<|AM rfl rfl<|Aa<|Au rfl (by omega)<|Ax<|Ab rfl<|Ab rfl<|Aa<|Ax<|Ab rfl<|AI rfl rfl (by omega) (by omega)<|Ab rfl<|Aa ?_);exact⟨i+1,by omega,⟨rfl,int_eq (by omega),int_eq (by omega),trivial⟩,rfl,rfl,hc⟩
  ·(refine Ab rfl<|Aa<|Ac<|Ab rfl<|Ab rfl<|AM rfl rfl<|Aa<|An rfl (by omega)<|Ao<|Ax<|Ab rfl<|AI rfl rfl (by omega) (by omega)<|Ab rfl<|Aa ?_);exact⟨i+1,by omega,⟨rfl,int_eq (by omega),int_eq (by omega),trivial⟩,rfl,rfl,hc⟩
 ·obtain rfl:i=v.list.length:=by omega
  rw[Xz] at hti⊢;(refine Ah<|Ac<|Ab rfl<|Ag rfl<|Ai rfl (Ak 0 rfl rfl)<|Ay rfl<|Av rfl rfl<|Aa<|An rfl (by omega)<|AU<|Ac<|Ab rfl<|AI rfl rfl (by omega) (by omega)<|Ab rfl<|Aa<|Aq ?_);apply Dt;rfl;omega
def W6{v:V}(h:v.kind<0∨6<v.kind):BK v=false:=by
 obtain⟨k,m,e,t,l,ks⟩:=v;rw[BK,PB h];rfl
def Pj(T:Ae→Prop)(P:Program)(f:FuncId):Prop:=∀{d cs}{v:V},T d→Aw d cs v→AG P f [.agg cs.toArray] d (.bool (BK v))
def JB(a0 a1:Nat):A0:=⟨116,[(.tmp 2)],(sR (o1 1 (.box 0)<|o1 2 (.mv (.const (.bool false))) .done) (sR (oj 5 0 1<|ol 6 5<|o1 7 (.bld [(0,1),(1,2),(3,1),(4,1),(5,1)] [(vZ 0),(vZ 0),(vZ 0),(Al []),(.slice none 0 0),(.slice none 0 0)] [(0,6)])<|o1 3 (.alo (.agg #[(vZ 0),(vZ 0),(vZ 0),(Al []),(.slice none 0 0),(.slice none 0 0)]))<|o0 (.st 6 3 7) .done) (.seq (sR (oj 8 0 1<|ol 9 8 .done) (.block 0 (.seq (sR (ob 11 .eql 9 z0<|om 10 11 .done) (.cond 10 .skip (sR (ob 12 .eql 9 z1<|om 10 12 .done) (.cond 10 .skip (rG (ob 13 .eql 9 z2<|om 10 13 .done)))))) (.cond 10 .skip (sR (ob 15 .eql 9 (kZ 3)<|om 14 15 .done) (.cond 14 (rG (oj 16 1 1<|o1 17 (.ld (some 2) 16)<|oj 18 1 3<|o0 (.st 2 18 17) .done)) (sR (ob 20 .eql 9 (kZ 4)<|om 19 20 .done) (.cond 19 (rG (oj 21 3 1<|ol 22 21<|oj 23 3 3<|o0 (.st 1 23 22) .done)) (sR (ob 25 .eql 9 (kZ 5)<|om 24 25 .done) (.cond 24 (rG (oj 26 4 1<|ol 27 26<|oj 28 4 3<|o0 (.st 1 28 27) .done)) (sR (ob 30 .eql 9 (kZ 6)<|om 29 30 .done) (.cond 29 (sR (oj 31 4 1<|ol 32 31<|oj 33 4 3<|o0 (.st 1 33 32) .done) (sR (oj 34 5 1<|ol 35 34<|oj 36 5 3<|o0 (.st 1 36 35) .done) (sR (oj 37 5 1<|ol 38 37<|oL 39 38<|oj 40 4 1<|ol 41 40<|oL 42 41<|ob 43 .neq 39 42 .done) (.cond 43 (sR (o1 2 (.mv (.const (.bool false))) .done) .ret) .skip)))) (sR (o1 2 (.mv (.const (.bool false))) .done) .ret))))))))))))) (.seq (sR (o1 4 (.mv z0) .done) (.block 1 (.loop (.seq (sR (om 44 4<|oj 45 5 1<|ol 46 45<|oL 47 46<|ob 48 .lss 44 47 .done) (.cond 48 .skip (.exit 1))) (.seq (.block 2 (.seq (.reg true (p1 51 (.fld 5 1)<|pl 52 51<|pm 53 4<|p1 54 (.idx 1 52 53)<|pl 55 54<|oc 56 a0 [55]<|p1 57 (.un .not 56)<|pm 58 57 (.op true ⟨(some 59),(some (58,false)),(.mv 4)⟩ (.op true ⟨(some 60),(some (58,false)),(.bin .gtr 59 z0)⟩ (.op true ⟨(some 61),(some (58,false)),(.mv 60)⟩ (.op true ⟨(some 62),(some (61,true)),(.fld 5 1)⟩ (.op true ⟨(some 63),(some (61,true)),(.ld none 62)⟩ (.op true ⟨(some 64),(some (61,true)),(.mv 4)⟩ (.op true ⟨(some 65),(some (61,true)),(.bin .sub 64 z1)⟩ (.op true ⟨(some 66),(some (61,true)),(.idx 1 63 65)⟩ (.op true ⟨(some 67),(some (61,true)),(.ld none 66)⟩ (.op true ⟨(some 68),(some (61,true)),(.fld 5 1)⟩ (.op true ⟨(some 69),(some (61,true)),(.ld none 68)⟩ (.op true ⟨(some 70),(some (61,true)),(.mv 4)⟩ (.op true ⟨(some 71),(some (61,true)),(.idx 1 69 70)⟩ (.op true ⟨(some 72),(some (61,true)),(.ld none 71)⟩ (.op true ⟨(some 73),(some (61,true)),(.bin .geq 67 72)⟩ (.op true ⟨(some 74),(some (58,false)),(.pick 61 73 (.const (.bool false)))⟩ (p1 75 (.pick 58 (.const (.bool true)) 74) .done))))))))))))))))))) (.cond 75 (sR (o1 2 (.mv (.const (.bool false))) .done) .ret) .skip))) (rG (om 49 4<|ob 50 .add 49 z1<|om 4 50 .done))))))) (sR (oj 76 1 3<|o1 77 (.ld (some 2) 76)<|oj 78 1 1<|o1 79 (.ld (some 2) 78)<|o1 80 (.eqc false [(0,0),(0,1)] 77 79)<|om 81 80<|oT 82 81 (.fld 3 3)<|oT 83 81 (.ld none 82)<|oT 84 81 (.fld 3 1)<|oT 85 81 (.ld none 84)<|oT 86 81 (.bin .eql 83 85)<|gP 87 81 86<|om 88 87<|oT 89 88 (.fld 4 3)<|oT 90 88 (.ld none 89)<|oT 91 88 (.len 90)<|oT 92 88 (.fld 4 1)<|oT 93 88 (.ld none 92)<|oT 94 88 (.len 93)<|oT 95 88 (.bin .eql 91 94)<|gP 96 88 95<|om 97 96<|oT 98 97 (.fld 5 3)<|oT 99 97 (.ld none 98)<|oT 100 97 (.len 99)<|oT 101 97 (.fld 5 1)<|oT 102 97 (.ld none 101)<|oT 103 97 (.len 102)<|oT 104 97 (.bin .eql 100 103)<|gP 105 97 104<|om 106 105<|oT 107 106 (.fld 1 1)<|oT 108 106 (.ld (some 2) 107)<|oT 109 106 (.call a1 [108])<|gP 110 106 109<|om 111 110<|oT 112 111 (.fld 3 1)<|oT 113 111 (.ld none 112)<|oT 114 111 (.call a0 [113])<|gP 115 111 114<|om 2 115 .done) .ret)))))⟩
def NZ(T:Ae→Prop)(P:Program)(f:FuncId):Prop:=∀(v:V) {d cs},T d→Aw d cs v→AG P f [.agg cs.toArray] d (.bool (Bc v))
def Ji(a0 a1:Nat):A0:=⟨20,[(.tmp 2)],(sR (o1 1 (.box 0)<|o1 2 (.mv (.const (.bool false))) .done) (.seq (sR (o1 3 (.mv z0) .done) (.block 0 (.loop (.seq (sR (om 4 3<|oj 5 4 1<|ol 6 5<|oL 7 6<|ob 8 .lss 4 7 .done) (.cond 8 .skip (.exit 0))) (.seq (.block 1 (sR (oj 11 4 1<|ol 12 11<|om 13 3<|oI 14 6 12 13<|o1 15 (.ld (some 6) 14)<|oc 16 a0 [15]<|o1 17 (.un .not 16) .done) (.cond 17 (sR (o1 2 (.mv (.const (.bool false))) .done) .ret) .skip))) (rG (om 9 3<|ob 10 .add 9 z1<|om 3 10 .done))))))) (sR (o1 18 (.ld (some 6) 1)<|oc 19 a1 [18]<|om 2 19 .done) .ret)))⟩
def VT{T:Ae→Prop}{f1}(hd:dec P f=some (Ji f f1))(h1:Pj T P f1):NZ T P f:=by
 intro v;induction v using V.ind with
 |h v ih=>
 intro d cs ht hv;refine AG.of' hd (No rfl) ?_;have he:=DS v;have hv':=hv;obtain⟨lv,kv,rfl,ik,im,ie,it,hl,hks⟩:=hv'.open;obtain⟨la,lc,rfl⟩:=RSl.val hl;obtain⟨ka,kc,rfl⟩:=RSl.val hks;have hll:=RSl.A2 hl;have hl':RSl 6 Aw d (.slice la v.list.length lc) v.list:=hl;show gwp P _ _ _ _ _;apply Ah;apply Ax;refine AR (l:=[vZ v.kind,vZ v.m,vZ v.e,Al v.text,.slice la v.list.length lc,.slice ka v.keys.length kc]) rfl (fun b1 T1=>?_);(refine Ad rfl<|Aa<|Ah<|Ac<|Ab rfl<|Aa<|As ?_);refine Dy (α:=Nat) (fun i=>[(1,pZ b1),(3,vZ i)]) (fun _=>[bx b1 T1 [vZ v.kind,vZ v.m,vZ v.e,Al v.text,.slice la v.list.length lc,.slice ka v.keys.length kc]])
  (fun i=>i≤v.list.length∧(v.list.take i).all Bc=true) (fun i=>v.list.length - i) 0 ⟨rfl,rfl,trivial⟩ rfl ⟨Xw _,by simp⟩ ?_
 rintro i ρ ⟨hi,hall⟩;by_cases hc:i<v.list.length
 ·(refine Ah<|Ac<|Ab rfl<|Ag rfl<|Ai rfl (Ak 0 rfl rfl)<|Ay rfl<|Av rfl rfl<|Aa<|Au rfl (by omega)<|Ao<|Ah<|As<|Ac<|Ag rfl<|Ai rfl (Ak 0 rfl rfl)<|Ab rfl<|AN (sz:=6) (R:=Aw) (by rfl) (by assumption) (by rfl) rfl (by omega) ?_;rintro _ _ _ _ _ _;apply B5;rfl;assumption;assumption);rename_i cs hcs hD hR;refine AD rfl (ih _ (Xh hc) ht hR) ?_;cases hm:Bc v.list[i] with
  |true=>
   (refine Be rfl<|Aa<|AJ rfl<|Ao<|Ax<|Ab rfl<|AI rfl rfl (by omega) (by omega)<|Ab rfl<|Aa ?_)
   exact⟨i+1,by omega,⟨rfl,int_eq (by omega),trivial⟩,rfl,rfl,hc,by rw[Xi hc,List.all_append,hall];simp[hm]⟩
  |false=>
   (refine Be rfl<|Aa<|Bd rfl<|Ac<|Ad rfl<|Aa<|Aq ?_)
   apply A1;rfl
   rw[he,eq_comm,Bool.and_eq_false_iff]
   refine .inr ?_
   rw[←Yq,Xj]
   intro h;rw[h _ (Xh hc)] at hm;cases hm
 ·obtain rfl:i=v.list.length:=by omega
  rw[Xz] at hall;(refine Ah<|Ac<|Ab rfl<|Ag rfl<|Ai rfl (Ak 0 rfl rfl)<|Ay rfl<|Av rfl rfl<|Aa<|An rfl (by omega)<|AU<|Ac<|AE 0 rfl rfl rfl ?_);refine AD rfl (h1 ht hv) ?_;(refine Ad rfl<|Aa<|Aq ?_);apply A1;rfl;rw[he,hall,Bool.and_true]
def KZ(T:Ae→Prop)(P:Program)(f:FuncId):Prop:=∀{d cs}{v:V},T d→Aw d cs v→Bh v≤1000000000→AG P f [.agg cs.toArray] d (vZ (AP v))
def IH(a0 a1:Nat):A0:=⟨9,[(.tmp 2)],(sR (o1 1 (.box 0)<|o1 2 (.mv z0) .done) (.seq (sR (o1 3 (.ld (some 6) 1)<|oc 4 a0 [3]<|ob 5 .gtr 4 (kZ 48) .done) (.cond 5 (sR (o1 2 (.mv (kZ 31)) .done) .ret) .skip)) (.seq (sR (o1 6 (.ld (some 6) 1)<|oc 7 a1 [6]<|o1 8 (.un .not 7) .done) (.cond 8 (sR (o1 2 (.mv (kZ 30)) .done) .ret) .skip)) (sR (o1 2 (.mv z0) .done) .ret))))⟩
def R2{T:Ae→Prop}{f1 f2}(hd:dec P f=some (IH f1 f2))(h1:KS P f1)(h2:NZ T P f2):KZ T P f:=by
 intro d cs v ht hv hb;refine AG.of' hd (No rfl) ?_;have hv':=hv;obtain⟨lv,kv,rfl,ik,im,ie,it,hl,hks⟩:=hv'.open;show gwp P _ _ _ _ _;apply Ah;apply Ax;refine AR (l:=[vZ v.kind,vZ v.m,vZ v.e,Al v.text,lv,kv]) rfl (fun b1 T1=>?_);(refine Ab rfl<|Aa<|Ah<|Ac<|AE 0 rfl rfl rfl ?_);refine AD rfl (h1 v hv hb) ?_;by_cases h3:Bh v≤48
 ·(refine AM rfl rfl<|Aa<|An rfl (by omega)<|Ao<|Ah<|Ac<|AE 0 rfl rfl rfl ?_);refine AD rfl (h2 v ht hv) ?_;cases h4:Bc v with
  |true=>
   (refine Be rfl<|Aa<|AJ rfl<|Ao<|Ac<|Ab rfl<|Aa<|Aq ?_)
   apply Dt;rfl
   simp[AP,h3,h4]
  |false=>
   (refine Be rfl<|Aa<|Bd rfl<|Ac<|Ab rfl<|Aa<|Aq ?_)
   apply Dt;rfl
   simp[AP,h3,h4]
 ·(refine AM rfl rfl<|Aa<|Au rfl (by omega)<|Ac<|Ab rfl<|Aa<|Aq ?_);apply Dt;rfl;simp[AP,h3]
mutual
def CF:V→V→Bool
 |.mk k m e t l ks,b=>decide (k=b.kind)&& decide (m=b.m)&& decide (e=b.e)&& decide (t=b.text)&& decide (ks=b.keys)&& Fj l b.list
def Fj:List V→List V→Bool
 |[],[]=>true
 |x::l,y::l'=>CF x y && Fj l l'
 |_,_=>false
end
def Jd:∀{l l':List V},(∀x∈l,∀y,CF x y=true↔x=y)→(Fj l l'=true↔l=l')
 |[],[],_=>by simp[Fj]
 |[],_::_,_=>by simp[Fj]
 |_::_,[],_=>by simp[Fj]
 |x::l,y::l',h=>by
  simp only[Fj,Xg,List.cons.injEq];rw[h x (Xp ..),Jd (fun z hz=>h z (Xk _ hz))]
def C2(a b:V):CF a b=true↔a=b:=by
 induction a using V.ind generalizing b with
 |h a ih=>
 obtain⟨k,m,e,t,l,ks⟩:=a;obtain⟨k',m',e',t',l',ks'⟩:=b;simp only[CF,Xg,decide_eq_true_eq,V.mk.injEq];rw[Jd (fun x hx y=>ih x hx y)];constructor
 ·rintro⟨⟨⟨⟨⟨a,b⟩,c⟩,d⟩,e⟩,f⟩;exact⟨a,b,c,d,f,e⟩
 ·rintro⟨a,b,c,d,e,f⟩;exact⟨⟨⟨⟨⟨a,b⟩,c⟩,d⟩,f⟩,e⟩
def JR{a b:V}{r:Bool}(h:r=true↔a=b):r=CF a b:=by rw[Yo,h,C2]
def EX(P:Program)(f:FuncId):Prop:=∀(a b:V) {d cs ds},Aw d cs a→Aw d ds b→AG P f [.agg cs.toArray,.agg ds.toArray] d (.bool (CF a b))
def I7(a0:Nat):A0:=⟨81,[(.tmp 4)],(sR (o1 2 (.box 0)<|o1 3 (.box 1)<|o1 4 (.mv (.const (.bool false))) .done) (.seq (sR (oj 7 0 2<|ol 8 7<|oj 9 0 3<|ol 10 9<|ob 11 .neq 8 10<|om 12 11<|oF 13 12 (.fld 1 2)<|oF 14 12 (.ld (some 2) 13)<|oF 15 12 (.fld 1 3)<|oF 16 12 (.ld (some 2) 15)<|oF 17 12 (.eqc true [(0,0),(0,1)] 14 16)<|o1 18 (.pick 12 (.const (.bool true)) 17)<|om 19 18<|oF 20 19 (.fld 3 2)<|oF 21 19 (.ld none 20)<|oF 22 19 (.fld 3 3)<|oF 23 19 (.ld none 22)<|oF 24 19 (.bin .neq 21 23)<|o1 25 (.pick 19 (.const (.bool true)) 24)<|om 26 25<|oF 27 26 (.fld 4 2)<|oF 28 26 (.ld none 27)<|oF 29 26 (.len 28)<|oF 30 26 (.fld 4 3)<|oF 31 26 (.ld none 30)<|oF 32 26 (.len 31)<|oF 33 26 (.bin .neq 29 32)<|o1 34 (.pick 26 (.const (.bool true)) 33)<|om 35 34<|oF 36 35 (.fld 5 2)<|oF 37 35 (.ld none 36)<|oF 38 35 (.len 37)<|oF 39 35 (.fld 5 3)<|oF 40 35 (.ld none 39)<|oF 41 35 (.len 40)<|oF 42 35 (.bin .neq 38 41)<|o1 43 (.pick 35 (.const (.bool true)) 42) .done) (.cond 43 (sR (o1 4 (.mv (.const (.bool false))) .done) .ret) .skip)) (.seq (sR (o1 5 (.mv z0) .done) (.block 0 (.loop (.seq (sR (om 44 5<|oj 45 5 2<|ol 46 45<|oL 47 46<|ob 48 .lss 44 47 .done) (.cond 48 .skip (.exit 0))) (.seq (.block 1 (.seq (.reg true (p1 51 (.fld 5 2)<|pl 52 51<|pm 53 5<|p1 54 (.idx 1 52 53)<|pl 55 54<|p1 56 (.fld 5 3)<|pl 57 56<|pm 58 5<|p1 59 (.idx 1 57 58)<|pl 60 59<|p1 61 (.bin .neq 55 60) .done)) (.cond 61 (sR (o1 4 (.mv (.const (.bool false))) .done) .ret) .skip))) (rG (om 49 5<|ob 50 .add 49 z1<|om 5 50 .done))))))) (.seq (sR (o1 6 (.mv z0) .done) (.block 2 (.loop (.seq (sR (om 62 6<|oj 63 4 2<|ol 64 63<|oL 65 64<|ob 66 .lss 62 65 .done) (.cond 66 .skip (.exit 2))) (.seq (.block 3 (.seq (.reg true (p1 69 (.fld 4 2)<|pl 70 69<|pm 71 6<|p1 72 (.idx 6 70 71)<|p1 73 (.ld (some 6) 72)<|p1 74 (.fld 4 3)<|pl 75 74<|pm 76 6<|p1 77 (.idx 6 75 76)<|p1 78 (.ld (some 6) 77)<|oc 79 a0 [73,78]<|p1 80 (.un .not 79) .done)) (.cond 80 (sR (o1 4 (.mv (.const (.bool false))) .done) .ret) .skip))) (rG (om 67 6<|ob 68 .add 67 z1<|om 6 68 .done))))))) (sR (o1 4 (.mv (.const (.bool true))) .done) .ret)))))⟩
set_option maxHeartbeats 1000000 in
def Mg(hd:dec P f=some (I7 f)):EX P f:=by
 intro a;induction a using V.ind with
 |h a ih=>
 intro b d cs ds ha hb;refine AG.of' hd (No rfl) ?_;have hbad:∀{p:Prop},¬p→(a=b→p)→false=CF a b:=fun h1 h2=>JR ⟨fun h=>(by cases h),fun h=>absurd (h2 h) h1⟩;obtain⟨lv,kv,rfl,ik,im,ie,it,hl,hks⟩:=ha.open;obtain⟨la,lc,rfl⟩:=RSl.val hl;obtain⟨ka,kc,rfl⟩:=RSl.val hks;obtain⟨lv',kv',rfl,ik',im',ie',it',hl',hks'⟩:=hb.open;obtain⟨la',lc',rfl⟩:=RSl.val hl';obtain⟨ka',kc',rfl⟩:=RSl.val hks';have q1:RSl 6 Aw d (.slice la a.list.length lc) a.list:=hl;have q2:RSl 6 Aw d (.slice la' b.list.length lc') b.list:=hl';have q3:RSl 1 Bk d (.slice ka a.keys.length kc) a.keys:=hks;have q4:RSl 1 Bk d (.slice ka' b.keys.length kc') b.keys:=hks';have n1:=RSl.A2 hl;have n2:=RSl.A2 hl';have n3:=RSl.A2 hks;have n4:=RSl.A2 hks';show gwp P _ _ _ _ _;apply Ah;apply Ax;refine AR (l:=[vZ a.kind,vZ a.m,vZ a.e,Al a.text,.slice la a.list.length lc,.slice ka a.keys.length kc]) rfl (fun b2 T2=>?_);refine AR (l:=[vZ b.kind,vZ b.m,vZ b.e,Al b.text,.slice la' b.list.length lc',.slice ka' b.keys.length kc']) rfl (fun b3 T3=>?_);by_cases h1:a.kind≠b.kind
 ·(refine Ad rfl<|Aa<|Ah<|Ac<|Ag rfl<|Ai rfl (Ak 1 rfl rfl)<|Ag rfl<|Ai rfl (Ak 0 rfl rfl)<|AB rfl rfl<|Ad rfl<|AF rfl (by omega)<|Aj rfl<|Aj rfl<|Aj rfl<|Aj rfl<|Aj rfl<|Ap rfl rfl<|Ad rfl<|Aj rfl<|Aj rfl<|Aj rfl<|Aj rfl<|Aj rfl<|Ap rfl rfl<|Ad rfl<|Aj rfl<|Aj rfl<|Aj rfl<|Aj rfl<|Aj rfl<|Aj rfl<|Aj rfl<|Ap rfl rfl<|Ad rfl<|Aj rfl<|Aj rfl<|Aj rfl<|Aj rfl<|Aj rfl<|Aj rfl<|Aj rfl<|Ap rfl rfl<|Aa<|Bd rfl<|Ac<|Ad rfl<|Aa<|Aq ?_);apply A1;rfl;exact hbad (p:=a.kind=b.kind) h1 (fun h=>by rw[h])
 by_cases h2:(true ^^(decide (a.m=b.m)&& decide (a.e=b.e)))=true
 ·(refine Ad rfl<|Aa<|Ah<|Ac<|Ag rfl<|Ai rfl (Ak 1 rfl rfl)<|Ag rfl<|Ai rfl (Ak 0 rfl rfl)<|AB rfl rfl<|Ad rfl<|Az rfl (by omega)<|Af rfl<|Ag rfl<|Af rfl<|Bv 1 rfl rfl rfl<|Af rfl<|Ag rfl<|Af rfl<|Bv 0 rfl rfl rfl<|Af rfl<|Cc rfl rfl<|Am rfl rfl<|Ad rfl ?_;apply Iw;rfl;(with_reducible assumption);refine Aj rfl<|Aj rfl<|Aj rfl<|Aj rfl<|Aj rfl<|Ap rfl rfl<|Ad rfl<|Aj rfl<|Aj rfl<|Aj rfl<|Aj rfl<|Aj rfl<|Aj rfl<|Aj rfl<|Ap rfl rfl<|Ad rfl<|Aj rfl<|Aj rfl<|Aj rfl<|Aj rfl<|Aj rfl<|Aj rfl<|Aj rfl<|Ap rfl rfl<|Aa<|Bd rfl<|Ac<|Ad rfl<|Aa<|Aq ?_);apply A1;rfl;refine hbad (p:=a.m=b.m∧a.e=b.e) (fun h=>?_) (fun h=>by rw[h];exact⟨rfl,rfl⟩);rw[h.1,h.2] at h2;simp at h2
 have h2':(true ^^(decide (a.m=b.m)&& decide (a.e=b.e)))=false:=by simpa using h2
 by_cases h3:a.text≠b.text
 ·(refine Ad rfl<|Aa<|Ah<|Ac<|Ag rfl<|Ai rfl (Ak 1 rfl rfl)<|Ag rfl<|Ai rfl (Ak 0 rfl rfl)<|AB rfl rfl<|Ad rfl<|Az rfl (by omega)<|Af rfl<|Ag rfl<|Af rfl<|Bv 1 rfl rfl rfl<|Af rfl<|Ag rfl<|Af rfl<|Bv 0 rfl rfl rfl<|Af rfl<|Cc rfl rfl<|Am rfl rfl<|Ad rfl ?_;apply JO;rfl;(with_reducible assumption);refine Af rfl<|Ag rfl<|Af rfl<|Ai rfl (Ak 1 rfl rfl)<|Af rfl<|Ag rfl<|Af rfl<|Ai rfl (Ak 0 rfl rfl)<|Af rfl<|CO rfl rfl<|Am rfl rfl<|Ad rfl<|AF rfl (by omega)<|Aj rfl<|Aj rfl<|Aj rfl<|Aj rfl<|Aj rfl<|Aj rfl<|Aj rfl<|Ap rfl rfl<|Ad rfl<|Aj rfl<|Aj rfl<|Aj rfl<|Aj rfl<|Aj rfl<|Aj rfl<|Aj rfl<|Ap rfl rfl<|Aa<|Bd rfl<|Ac<|Ad rfl<|Aa<|Aq ?_);apply A1;rfl;exact hbad (p:=a.text=b.text) h3 (fun h=>by rw[h])
 by_cases h4:(a.list.length:Int)≠b.list.length
 ·(refine Ad rfl<|Aa<|Ah<|Ac<|Ag rfl<|Ai rfl (Ak 1 rfl rfl)<|Ag rfl<|Ai rfl (Ak 0 rfl rfl)<|AB rfl rfl<|Ad rfl<|Az rfl (by omega)<|Af rfl<|Ag rfl<|Af rfl<|Bv 1 rfl rfl rfl<|Af rfl<|Ag rfl<|Af rfl<|Bv 0 rfl rfl rfl<|Af rfl<|Cc rfl rfl<|Am rfl rfl<|Ad rfl ?_;apply JO;rfl;(with_reducible assumption);refine Af rfl<|Ag rfl<|Af rfl<|Ai rfl (Ak 1 rfl rfl)<|Af rfl<|Ag rfl<|Af rfl<|Ai rfl (Ak 0 rfl rfl)<|Af rfl<|CO rfl rfl<|Am rfl rfl<|Ad rfl<|Az rfl (by omega)<|Af rfl<|Ag rfl<|Af rfl<|Ai rfl (Ak 1 rfl rfl)<|Af rfl<|Ay rfl<|Af rfl<|Ag rfl<|Af rfl<|Ai rfl (Ak 0 rfl rfl)<|Af rfl<|Ay rfl<|Af rfl<|AB rfl rfl<|Am rfl rfl<|Ad rfl<|AF rfl (by omega)<|Aj rfl<|Aj rfl<|Aj rfl<|Aj rfl<|Aj rfl<|Aj rfl<|Aj rfl<|Ap rfl rfl<|Aa<|Bd rfl<|Ac<|Ad rfl<|Aa<|Aq ?_);apply A1;rfl;exact hbad (p:=(a.list.length:Int)=b.list.length) h4 (fun h=>by rw[h])
 by_cases h5:(a.keys.length:Int)≠b.keys.length
 ·(refine Ad rfl<|Aa<|Ah<|Ac<|Ag rfl<|Ai rfl (Ak 1 rfl rfl)<|Ag rfl<|Ai rfl (Ak 0 rfl rfl)<|AB rfl rfl<|Ad rfl<|Az rfl (by omega)<|Af rfl<|Ag rfl<|Af rfl<|Bv 1 rfl rfl rfl<|Af rfl<|Ag rfl<|Af rfl<|Bv 0 rfl rfl rfl<|Af rfl<|Cc rfl rfl<|Am rfl rfl<|Ad rfl ?_;apply JO;rfl;(with_reducible assumption);refine Af rfl<|Ag rfl<|Af rfl<|Ai rfl (Ak 1 rfl rfl)<|Af rfl<|Ag rfl<|Af rfl<|Ai rfl (Ak 0 rfl rfl)<|Af rfl<|CO rfl rfl<|Am rfl rfl<|Ad rfl<|Az rfl (by omega)<|Af rfl<|Ag rfl<|Af rfl<|Ai rfl (Ak 1 rfl rfl)<|Af rfl<|Ay rfl<|Af rfl<|Ag rfl<|Af rfl<|Ai rfl (Ak 0 rfl rfl)<|Af rfl<|Ay rfl<|Af rfl<|AB rfl rfl<|Am rfl rfl<|Ad rfl<|Az rfl (by omega)<|Af rfl<|Ag rfl<|Af rfl<|Ai rfl (Ak 1 rfl rfl)<|Af rfl<|Ay rfl<|Af rfl<|Ag rfl<|Af rfl<|Ai rfl (Ak 0 rfl rfl)<|Af rfl<|Ay rfl<|Af rfl<|AB rfl rfl<|Am rfl rfl<|Aa<|Au rfl (by omega)<|Ac<|Ad rfl<|Aa<|Aq ?_);apply A1;rfl;exact hbad (p:=(a.keys.length:Int)=b.keys.length) h5 (fun h=>by rw[h])
 (refine Ad rfl<|Aa<|Ah<|Ac<|Ag rfl<|Ai rfl (Ak 1 rfl rfl)<|Ag rfl<|Ai rfl (Ak 0 rfl rfl)<|AB rfl rfl<|Ad rfl<|Az rfl (by omega)<|Af rfl<|Ag rfl<|Af rfl<|Bv 1 rfl rfl rfl<|Af rfl<|Ag rfl<|Af rfl<|Bv 0 rfl rfl rfl<|Af rfl<|Cc rfl rfl<|Am rfl rfl<|Ad rfl ?_;apply JO;rfl;(with_reducible assumption);refine Af rfl<|Ag rfl<|Af rfl<|Ai rfl (Ak 1 rfl rfl)<|Af rfl<|Ag rfl<|Af rfl<|Ai rfl (Ak 0 rfl rfl)<|Af rfl<|CO rfl rfl<|Am rfl rfl<|Ad rfl<|Az rfl (by omega)<|Af rfl<|Ag rfl<|Af rfl<|Ai rfl (Ak 1 rfl rfl)<|Af rfl<|Ay rfl<|Af rfl<|Ag rfl<|Af rfl<|Ai rfl (Ak 0 rfl rfl)<|Af rfl<|Ay rfl<|Af rfl<|AB rfl rfl<|Am rfl rfl<|Ad rfl<|Az rfl (by omega)<|Af rfl<|Ag rfl<|Af rfl<|Ai rfl (Ak 1 rfl rfl)<|Af rfl<|Ay rfl<|Af rfl<|Ag rfl<|Af rfl<|Ai rfl (Ak 0 rfl rfl)<|Af rfl<|Ay rfl<|Af rfl<|AB rfl rfl<|Am rfl rfl<|Aa<|An rfl (by omega)<|Ao<|Ah<|Ac<|Ab rfl<|Aa<|As ?_);refine Dy (α:=Nat) (fun i=>[(2,pZ b2),(3,pZ b3),(5,vZ i)]) (fun _=>[bx b3 T3 [vZ b.kind,vZ b.m,vZ b.e,Al b.text,.slice la' b.list.length lc',.slice ka' b.keys.length kc'],bx b2 T2 [vZ a.kind,vZ a.m,vZ a.e,Al a.text,.slice la a.list.length lc,.slice ka a.keys.length kc]])
  (fun i=>i≤a.keys.length∧a.keys.take i=b.keys.take i) (fun i=>a.keys.length - i) 0 ⟨rfl,rfl,rfl,trivial⟩ rfl ⟨Xw _,by simp⟩ ?_
 rintro i ρ ⟨hi,hki⟩;by_cases hc:i<a.keys.length
 ·have hc':i<b.keys.length:=by omega
  by_cases h6:a.keys[i]≠b.keys[i]
  ·(refine Ah<|Ac<|Ab rfl<|Ag rfl<|Ai rfl (Ak 1 rfl rfl)<|Ay rfl<|Av rfl rfl<|Aa<|Au rfl (by omega)<|Ao<|Ah<|As<|Ah<|Bp<|Ag rfl<|Ai rfl (Ak 1 rfl rfl)<|Ab rfl<|AN (sz:=1) (R:=Bk) (by rfl) (by assumption) (by rfl) rfl (by omega) ?_;rintro _ _ _ _ _ ⟨rfl,_⟩;refine Ai rfl (Bb (by assumption) rfl)<|Ag rfl<|Ai rfl (Ak 0 rfl rfl)<|Ab rfl<|AN (sz:=1) (R:=Bk) (by rfl) (by assumption) (by rfl) rfl (by omega) ?_;rintro _ _ _ _ _ ⟨rfl,_⟩;refine Ai rfl (Bb (by assumption) rfl)<|CO rfl rfl<|Bo<|Au rfl (by omega)<|Ac<|Ad rfl<|Aa<|Aq ?_);apply A1;rfl;refine hbad (p:=a.keys[i]=b.keys[i]) h6 (fun h=>?_);have:=congrArg V.keys h;simp only[this]
  ·(refine Ah<|Ac<|Ab rfl<|Ag rfl<|Ai rfl (Ak 1 rfl rfl)<|Ay rfl<|Av rfl rfl<|Aa<|Au rfl (by omega)<|Ao<|Ah<|As<|Ah<|Bp<|Ag rfl<|Ai rfl (Ak 1 rfl rfl)<|Ab rfl<|AN (sz:=1) (R:=Bk) (by rfl) (by assumption) (by rfl) rfl (by omega) ?_;rintro _ _ _ _ _ ⟨rfl,_⟩;refine Ai rfl (Bb (by assumption) rfl)<|Ag rfl<|Ai rfl (Ak 0 rfl rfl)<|Ab rfl<|AN (sz:=1) (R:=Bk) (by rfl) (by assumption) (by rfl) rfl (by omega) ?_;rintro _ _ _ _ _ ⟨rfl,_⟩;refine Ai rfl (Bb (by assumption) rfl)<|CO rfl rfl<|Bo<|An rfl (by omega)<|Ao<|Ax<|Ab rfl<|AI rfl rfl (by omega) (by omega)<|Ab rfl<|Aa ?_);refine⟨i+1,by omega,⟨rfl,rfl,int_eq (by omega),trivial⟩,rfl,rfl,hc,?_⟩
   have h7:a.keys[i]=b.keys[i]:=by simpa using h6
   rw[Xi hc,Xi hc',hki,h7]
 obtain rfl:i=a.keys.length:=by omega
 have hkeys:a.keys=b.keys:=by
  rw[Xz] at hki;rw[hki];exact XQ (by omega)
 clear hki hi;(refine Ah<|Ac<|Ab rfl<|Ag rfl<|Ai rfl (Ak 1 rfl rfl)<|Ay rfl<|Av rfl rfl<|Aa<|An rfl (by omega)<|AU<|Ah<|Ac<|Ab rfl<|Aa<|As ?_);refine Dy (α:=Nat) (fun i=>[(2,pZ b2),(3,pZ b3),(6,vZ i)]) (fun _=>[bx b3 T3 [vZ b.kind,vZ b.m,vZ b.e,Al b.text,.slice la' b.list.length lc',.slice ka' b.keys.length kc'],bx b2 T2 [vZ a.kind,vZ a.m,vZ a.e,Al a.text,.slice la a.list.length lc,.slice ka a.keys.length kc]])
  (fun i=>i≤a.list.length∧a.list.take i=b.list.take i) (fun i=>a.list.length - i) 0 ⟨rfl,rfl,rfl,trivial⟩ rfl ⟨Xw _,by simp⟩ ?_
 rintro i ρ ⟨hi,hki⟩;by_cases hc':i<a.list.length
 ·have hc2:i<b.list.length:=by omega
  (refine Ah<|Ac<|Ab rfl<|Ag rfl<|Ai rfl (Ak 1 rfl rfl)<|Ay rfl<|Av rfl rfl<|Aa<|Au rfl (by omega)<|Ao<|Ah<|As<|Ah<|Bp<|Ag rfl<|Ai rfl (Ak 1 rfl rfl)<|Ab rfl<|AN (sz:=6) (R:=Aw) (by rfl) (by assumption) (by rfl) rfl (by omega) ?_;rintro _ _ _ _ _ _;refine B5 rfl (by assumption) (by assumption)<|Ag rfl<|Ai rfl (Ak 0 rfl rfl)<|Ab rfl<|AN (sz:=6) (R:=Aw) (by rfl) (by assumption) (by rfl) rfl (by omega) ?_;rintro _ _ _ _ _ _;apply B5;rfl;assumption;assumption);rename_i cs1 hcs1 hD1 hR1 _ _ cs2 hcs2 hD2 hR2;refine AD rfl (ih _ (Xh hc') b.list[i] hR1 hR2) ?_;cases h6:CF a.list[i] b.list[i] with
  |false=>
   (refine Be rfl<|Bo<|Bd rfl<|Ac<|Ad rfl<|Aa<|Aq ?_)
   apply A1;rfl
   refine hbad (p:=a.list[i]=b.list[i]) (fun h=>?_) (fun h=>?_)
   ·have:=(C2 _ _).2 h;rw[h6] at this;cases this
   ·have:=congrArg V.list h
    simp only[this]
  |true=>
   (refine Be rfl<|Bo<|AJ rfl<|Ao<|Ax<|Ab rfl<|AI rfl rfl (by omega) (by omega)<|Ab rfl<|Aa ?_)
   refine⟨i+1,by omega,⟨rfl,rfl,int_eq (by omega),trivial⟩,rfl,rfl,hc',?_⟩
   rw[Xi hc',Xi hc2,hki,(C2 _ _).1 h6]
 ·obtain rfl:i=a.list.length:=by omega
  have hlist:a.list=b.list:=by
   rw[Xz] at hki;rw[hki];exact XQ (by omega)
  (refine Ah<|Ac<|Ab rfl<|Ag rfl<|Ai rfl (Ak 1 rfl rfl)<|Ay rfl<|Av rfl rfl<|Aa<|An rfl (by omega)<|AU<|Ac<|Ad rfl<|Aa<|Aq ?_);apply A1;rfl;refine JR ⟨fun _=>V.ext (by omega) ?_ ?_ (by simpa using h3) hlist hkeys,fun _=>rfl⟩
  ·simp only[Bool.true_xor,Bool.not_eq_false',Xg,decide_eq_true_eq] at h2';exact h2'.1
  ·simp only[Bool.true_xor,Bool.not_eq_false',Xg,decide_eq_true_eq] at h2';exact h2'.2
set_option maxHeartbeats 1000000 in
def VY{T:Ae→Prop}{f1 f2}(hd:dec P f=some (JB f1 f2))(h1:EO T P f1)(h2:Io T P f2):Pj T P f:=by
 intro d cs v ht hv;refine AG.of' hd (No rfl) ?_;obtain⟨lv,kv,rfl,ik,im,ie,it,hl,hks⟩:=hv.open;obtain⟨la,lc,rfl⟩:=RSl.val hl;obtain⟨ka,kc,rfl⟩:=RSl.val hks;obtain⟨k,m,e,t,l,ks⟩:=v;simp only[V.kind,V.m,V.e,V.text,V.list,V.keys] at*;have hks':RSl 1 Bk d (.slice ka ks.length kc) ks:=hks;have n1:=RSl.A2 hl;have n2:=RSl.A2 hks;have hsl:∀i (h:i<ks.length),ks[i].length≤140737488355328:=fun i h=>by
  obtain⟨_,_,_,_,_,_,_,_,_,_,_,h8⟩:=hks;obtain⟨cs,_,_,_,h9⟩:=h8 i h;exact h9
 show gwp P _ _ _ _ _;apply Ah;apply Ax;refine AR (l:=[vZ k,vZ m,vZ e,Al t,.slice la l.length lc,.slice ka ks.length kc]) rfl (fun b1 T1=>?_);(refine Ad rfl<|Aa ?_);apply Ah;apply Ax;(refine Ag rfl<|Ai rfl (Ak 0 rfl rfl)<|BF rfl<|AV (fun _ _=>?_));rename_i b3 T3;refine AA 0 [vZ k,vZ 0,vZ 0,Al [],.slice none 0 0,.slice none 0 0] rfl rfl rfl rfl (No rfl) rfl rfl ?_;(apply Aa);refine DY (fun ρ d' L'=>d'=d∧Bi ρ [(1,pZ b1),(3,pZ b3)]∧∃pm pe pt pla pln plc pka pkn pkc,L'=[bx b3 T3 [vZ k,vZ pm,vZ pe,Al pt,.slice pla pln plc,.slice pka pkn pkc],bx b1 T1 [vZ k,vZ m,vZ e,Al t,.slice la l.length lc,.slice ka ks.length kc]]∧
  BL (.mk k m e t l ks)=(decide (m=pm∧e=pe)&& decide (t=pt)&& decide (l.length=pln)&& decide (ks.length=pkn))∧(k≠6∨ks.length=l.length)) ?_ ?_
 ·by_cases h0:k<0∨6<k
  ·have hz:=W6 (v:=.mk k m e t l ks) h0;(refine Ac<|Ag rfl<|Ai rfl (Ak 1 rfl rfl)<|Aa<|As<|Ah<|Ac<|At rfl rfl<|Ad rfl<|Aa<|An rfl (by omega)<|Ac<|At rfl rfl<|Ad rfl<|Aa<|An rfl (by omega)<|Ax<|At rfl rfl<|Ad rfl<|Aa<|An rfl (by omega)<|Ac<|At rfl rfl<|Ad rfl<|Aa<|An rfl (by omega)<|Ac<|At rfl rfl<|Ad rfl<|Aa<|An rfl (by omega)<|Ac<|At rfl rfl<|Ad rfl<|Aa<|An rfl (by omega)<|Ac<|At rfl rfl<|Ad rfl<|Aa<|An rfl (by omega)<|Ac<|Ad rfl<|Aa<|Aq ?_);apply A1;rfl;exact hz.symm
  by_cases h_0:k=0
  ·subst h_0;(refine Ac<|Ag rfl<|Ai rfl (Ak 1 rfl rfl)<|Aa<|As<|Ah<|Ac<|At rfl rfl<|Ad rfl<|Aa<|Au rfl (by omega)<|Ao<|Au rfl (by omega)<|Ao ?_);exact⟨rfl,⟨rfl,rfl,trivial⟩,0,0,[],none,0,0,none,0,0,rfl,by simp[BL,V.kind,V.m,V.e,V.text,V.list,V.keys],.inl (by decide)⟩
  by_cases h_1:k=1
  ·subst h_1;(refine Ac<|Ag rfl<|Ai rfl (Ak 1 rfl rfl)<|Aa<|As<|Ah<|Ac<|At rfl rfl<|Ad rfl<|Aa<|An rfl (by omega)<|Ac<|At rfl rfl<|Ad rfl<|Aa<|Au rfl (by omega)<|Ao<|Au rfl (by omega)<|Ao ?_);exact⟨rfl,⟨rfl,rfl,trivial⟩,0,0,[],none,0,0,none,0,0,rfl,by simp[BL,V.kind,V.m,V.e,V.text,V.list,V.keys],.inl (by decide)⟩
  by_cases h_2:k=2
  ·subst h_2;(refine Ac<|Ag rfl<|Ai rfl (Ak 1 rfl rfl)<|Aa<|As<|Ah<|Ac<|At rfl rfl<|Ad rfl<|Aa<|An rfl (by omega)<|Ac<|At rfl rfl<|Ad rfl<|Aa<|An rfl (by omega)<|Ax<|At rfl rfl<|Ad rfl<|Aa<|Au rfl (by omega)<|Ao ?_);exact⟨rfl,⟨rfl,rfl,trivial⟩,0,0,[],none,0,0,none,0,0,rfl,by simp[BL,V.kind,V.m,V.e,V.text,V.list,V.keys],.inl (by decide)⟩
  by_cases h_3:k=3
  ·subst h_3;(refine Ac<|Ag rfl<|Ai rfl (Ak 1 rfl rfl)<|Aa<|As<|Ah<|Ac<|At rfl rfl<|Ad rfl<|Aa<|An rfl (by omega)<|Ac<|At rfl rfl<|Ad rfl<|Aa<|An rfl (by omega)<|Ax<|At rfl rfl<|Ad rfl<|Aa<|An rfl (by omega)<|Ac<|At rfl rfl<|Ad rfl<|Aa<|Au rfl (by omega)<|Ax<|Ag rfl<|Bv 1 rfl rfl rfl<|Ag rfl ?_);refine AA 0 [vZ 3,vZ m,vZ e,Al [],.slice none 0 0,.slice none 0 0] rfl rfl rfl rfl (No rfl) rfl rfl ?_;(apply Aa);exact⟨rfl,⟨rfl,rfl,trivial⟩,m,e,[],none,0,0,none,0,0,rfl,by simp[BL,V.kind,V.m,V.e,V.text,V.list,V.keys],.inl (by decide)⟩
  by_cases h_4:k=4
  ·subst h_4;(refine Ac<|Ag rfl<|Ai rfl (Ak 1 rfl rfl)<|Aa<|As<|Ah<|Ac<|At rfl rfl<|Ad rfl<|Aa<|An rfl (by omega)<|Ac<|At rfl rfl<|Ad rfl<|Aa<|An rfl (by omega)<|Ax<|At rfl rfl<|Ad rfl<|Aa<|An rfl (by omega)<|Ac<|At rfl rfl<|Ad rfl<|Aa<|An rfl (by omega)<|Ac<|At rfl rfl<|Ad rfl<|Aa<|Au rfl (by omega)<|Ax<|Ag rfl<|Ai rfl (Ak 1 rfl rfl)<|Ag rfl ?_);refine AA 0 [vZ 4,vZ 0,vZ 0,Al t,.slice none 0 0,.slice none 0 0] rfl rfl rfl rfl (No rfl) rfl rfl ?_;(apply Aa);exact⟨rfl,⟨rfl,rfl,trivial⟩,0,0,t,none,0,0,none,0,0,rfl,by simp[BL,V.kind,V.m,V.e,V.text,V.list,V.keys],.inl (by decide)⟩
  by_cases h_5:k=5
  ·subst h_5;(refine Ac<|Ag rfl<|Ai rfl (Ak 1 rfl rfl)<|Aa<|As<|Ah<|Ac<|At rfl rfl<|Ad rfl<|Aa<|An rfl (by omega)<|Ac<|At rfl rfl<|Ad rfl<|Aa<|An rfl (by omega)<|Ax<|At rfl rfl<|Ad rfl<|Aa<|An rfl (by omega)<|Ac<|At rfl rfl<|Ad rfl<|Aa<|An rfl (by omega)<|Ac<|At rfl rfl<|Ad rfl<|Aa<|An rfl (by omega)<|Ac<|At rfl rfl<|Ad rfl<|Aa<|Au rfl (by omega)<|Ax<|Ag rfl<|Ai rfl (Ak 1 rfl rfl)<|Ag rfl ?_);refine AA 0 [vZ 5,vZ 0,vZ 0,Al [],.slice la l.length lc,.slice none 0 0] rfl rfl rfl rfl (No rfl) rfl rfl ?_;(apply Aa);exact⟨rfl,⟨rfl,rfl,trivial⟩,0,0,[],la,l.length,lc,none,0,0,rfl,by simp[BL,V.kind,V.m,V.e,V.text,V.list,V.keys],.inl (by decide)⟩
  obtain rfl:k=6:=by omega
  (refine Ac<|Ag rfl<|Ai rfl (Ak 1 rfl rfl)<|Aa<|As<|Ah<|Ac<|At rfl rfl<|Ad rfl<|Aa<|An rfl (by omega)<|Ac<|At rfl rfl<|Ad rfl<|Aa<|An rfl (by omega)<|Ax<|At rfl rfl<|Ad rfl<|Aa<|An rfl (by omega)<|Ac<|At rfl rfl<|Ad rfl<|Aa<|An rfl (by omega)<|Ac<|At rfl rfl<|Ad rfl<|Aa<|An rfl (by omega)<|Ac<|At rfl rfl<|Ad rfl<|Aa<|An rfl (by omega)<|Ac<|At rfl rfl<|Ad rfl<|Aa<|Au rfl (by omega)<|Ac<|Ag rfl<|Ai rfl (Ak 1 rfl rfl)<|Ag rfl ?_);refine AA 0 [vZ 6,vZ 0,vZ 0,Al [],.slice la l.length lc,.slice none 0 0] rfl rfl rfl rfl (No rfl) rfl rfl ?_;(refine Aa<|Ac<|Ag rfl<|Ai rfl (Ak 1 rfl rfl)<|Ag rfl ?_);refine AA 0 [vZ 6,vZ 0,vZ 0,Al [],.slice la l.length lc,.slice ka ks.length kc] rfl rfl rfl rfl (No rfl) rfl rfl ?_;by_cases h7:(ks.length:Int)≠l.length
  ·(refine Aa<|Ac<|Ag rfl<|Ai rfl (Ak 1 rfl rfl)<|Ay rfl<|Ag rfl<|Ai rfl (Ak 1 rfl rfl)<|Ay rfl<|AB rfl rfl<|Aa<|Au rfl (by omega)<|Ac<|Ad rfl<|Aa<|Aq ?_);apply A1;rfl;have h8:ks.length≠l.length:=by omega
   simp[BK,h8]
  ·(refine Aa<|Ac<|Ag rfl<|Ai rfl (Ak 1 rfl rfl)<|Ay rfl<|Ag rfl<|Ai rfl (Ak 1 rfl rfl)<|Ay rfl<|AB rfl rfl<|Aa<|An rfl (by omega)<|Ao ?_);exact⟨rfl,⟨rfl,rfl,trivial⟩,0,0,[],la,l.length,lc,ka,ks.length,kc,rfl,by simp[BL,V.kind,V.m,V.e,V.text,V.list,V.keys],.inr (by omega)⟩
 rintro ρ d' L' ⟨hdd,hsl',pm,pe,pt,pla,pln,plc,pka,pkn,pkc,hL,hbare,h6⟩;subst hdd;subst hL;refine BQ _ hsl' ?_;clear hsl';have hrf:rising ks=false→false=BK (.mk k m e t l ks):=fun h=>by simp[BK,h]
 (refine Ah<|Ac<|Ab rfl<|Aa<|As ?_);refine Dy (α:=Nat) (fun i=>[(1,pZ b1),(3,pZ b3),(4,vZ i)])
  (fun _=>[bx b3 T3 [vZ k,vZ pm,vZ pe,Al pt,.slice pla pln plc,.slice pka pkn pkc],bx b1 T1 [vZ k,vZ m,vZ e,Al t,.slice la l.length lc,.slice ka ks.length kc]])
  (fun i=>i≤ks.length∧Dv ks i=true) (fun i=>ks.length - i) 0 ⟨rfl,rfl,rfl,trivial⟩ rfl ⟨Xw _,rfl⟩ ?_
 rintro i ρ ⟨hi,hr⟩;by_cases hc:i<ks.length
 ·(refine Ah<|Ac<|Ab rfl<|Ag rfl<|Ai rfl (Ak 1 rfl rfl)<|Ay rfl<|Av rfl rfl<|Aa<|Au rfl (by omega)<|Ao<|Ah<|As<|Ah<|Bp<|Ag rfl<|Ai rfl (Ak 1 rfl rfl)<|Ab rfl<|AN (sz:=1) (R:=Bk) (by rfl) (by assumption) (by rfl) rfl (by omega) ?_;rintro _ _ _ _ _ ⟨rfl,_⟩;apply Ai;rfl;exact Bb (by assumption) rfl);refine AD rfl (h1 ht (hsl i hc)) ?_;cases hu:u8 ks[i] with
  |false=>
   (refine Be rfl<|Ad rfl<|Aj rfl<|Aj rfl<|Aj rfl<|AX rfl<|AX rfl<|AX rfl<|AX rfl<|AX rfl<|AX rfl<|AX rfl<|AX rfl<|AX rfl<|AX rfl<|AX rfl<|AX rfl<|Aj rfl<|Ap rfl rfl<|Bo<|Bd rfl<|Ac<|Ad rfl<|Aa<|Aq ?_)
   apply A1;rfl
   exact hrf (EW (P9 hc hu) hc)
  |true=>
   by_cases hi0:i=0
   ·subst hi0
    (refine Be rfl<|Ad rfl<|Af rfl<|Ab rfl<|Af rfl<|AM rfl rfl<|Af rfl<|Ad rfl<|Az rfl (by omega)<|Aj rfl<|Aj rfl<|Aj rfl<|Aj rfl<|Aj rfl<|Aj rfl<|Aj rfl<|Aj rfl<|Aj rfl<|Aj rfl<|Aj rfl<|Aj rfl<|Af rfl<|Am rfl rfl<|Am rfl rfl<|Bo<|AJ rfl<|Ao<|Ax<|Ab rfl<|AI rfl rfl (by omega) (by omega)<|Ab rfl<|Aa ?_)
    exact⟨1,by omega,⟨rfl,rfl,rfl,trivial⟩,rfl,rfl,by omega,by rw[Dv,Qs hc,hu];rfl⟩
   ·obtain⟨j,rfl⟩:∃j,i=j+1:=⟨i - 1,by omega⟩
    (refine Be rfl<|Ad rfl<|Af rfl<|Ab rfl<|Af rfl<|AM rfl rfl<|Af rfl<|Ad rfl<|AF rfl (by omega)<|Af rfl<|Ag rfl<|Af rfl<|Ai rfl (Ak 1 rfl rfl)<|Af rfl<|Ab rfl<|Af rfl<|Bw rfl rfl (by omega) (by omega)<|Af rfl ?_)
    refine AN (sz:=1) (R:=Bk) (m:=j) (by rfl) hks' (by rfl) (by omega) (by omega) ?_;rintro _ _ _ _ _ ⟨rfl,_⟩
    cases hb:Op.bytesLess ks[j] ks[j+1] with
    |false=>
     have hb':(!Op.bytesLess ks[j] ks[j+1])=true:=by rw[hb];rfl
     (refine Af rfl<|Ai rfl (Bb (by assumption) rfl)<|Af rfl<|Ag rfl<|Af rfl<|Ai rfl (Ak 1 rfl rfl)<|Af rfl<|Ab rfl<|Af rfl<|AN (sz:=1) (R:=Bk) (by rfl) (by assumption) (by rfl) rfl (by omega) ?_;rintro _ _ _ _ _ ⟨rfl,_⟩;refine Af rfl<|Ai rfl (Bb (by assumption) rfl)<|Af rfl<|NV rfl rfl<|Af rfl<|Ap rfl rfl<|Am rfl rfl<|Bo ?_;apply GQ;rfl;(with_reducible assumption);refine Ac<|Ad rfl<|Aa<|Aq ?_)
     apply A1;rfl
     exact hrf (EW (by rw[HM hc,hb,Bool.and_false]) hc)
    |true=>
     have hb':(!Op.bytesLess ks[j] ks[j+1])=false:=by rw[hb];rfl
     (refine Af rfl<|Ai rfl (Bb (by assumption) rfl)<|Af rfl<|Ag rfl<|Af rfl<|Ai rfl (Ak 1 rfl rfl)<|Af rfl<|Ab rfl<|Af rfl<|AN (sz:=1) (R:=Bk) (by rfl) (by assumption) (by rfl) rfl (by omega) ?_;rintro _ _ _ _ _ ⟨rfl,_⟩;refine Af rfl<|Ai rfl (Bb (by assumption) rfl)<|Af rfl<|NV rfl rfl<|Af rfl<|Ap rfl rfl<|Am rfl rfl<|Bo ?_;apply Dq;rfl;(with_reducible assumption);refine Ao<|Ax<|Ab rfl<|AI rfl rfl (by omega) (by omega)<|Ab rfl<|Aa ?_)
     exact⟨j+2,by omega,⟨rfl,rfl,int_eq (by omega),trivial⟩,rfl,rfl,by omega,by rw[Dv,hr,HM hc,hu,hb];rfl⟩
 obtain rfl:i=ks.length:=by omega
 have hr':rising ks=true:=hr;have h6':(!decide (k=6)||decide (ks.length=l.length))=true:=by simpa using h6
 cases hA:(false ^^(decide (pm=m)&& decide (pe=e))) with
 |false=>
  (refine Ah<|Ac<|Ab rfl<|Ag rfl<|Ai rfl (Ak 1 rfl rfl)<|Ay rfl<|Av rfl rfl<|Aa<|An rfl (by omega)<|AU<|Ac<|Ag rfl<|Bv 0 rfl rfl rfl<|Ag rfl<|Bv 1 rfl rfl rfl<|Cc rfl rfl<|Ad rfl ?_;apply JO;rfl;(with_reducible assumption);refine Aj rfl<|Aj rfl<|Aj rfl<|Aj rfl<|Aj rfl<|Am rfl rfl<|Ad rfl<|Aj rfl<|Aj rfl<|Aj rfl<|Aj rfl<|Aj rfl<|Aj rfl<|Aj rfl<|Am rfl rfl<|Ad rfl<|Aj rfl<|Aj rfl<|Aj rfl<|Aj rfl<|Aj rfl<|Aj rfl<|Aj rfl<|Am rfl rfl<|Ad rfl<|Aj rfl<|Aj rfl<|Aj rfl<|Am rfl rfl<|Ad rfl<|Aj rfl<|Aj rfl<|Aj rfl<|Am rfl rfl<|Ad rfl<|Aa<|Aq ?_)
  apply A1;rfl
  have:¬(m=pm∧e=pe):=fun⟨h,h'⟩=>by rw[h,h'] at hA;simp at hA
  simp[BK,hbare,this]
 |true=>
 have hA':m=pm∧e=pe:=by simp at hA;exact⟨hA.1.symm,hA.2.symm⟩
 by_cases hB:pt=t
 ·by_cases hC:(pln:Int)=l.length
  ·by_cases hD:(pkn:Int)=ks.length
   ·(refine Ah<|Ac<|Ab rfl<|Ag rfl<|Ai rfl (Ak 1 rfl rfl)<|Ay rfl<|Av rfl rfl<|Aa<|An rfl (by omega)<|AU<|Ac<|Ag rfl<|Bv 0 rfl rfl rfl<|Ag rfl<|Bv 1 rfl rfl rfl<|Cc rfl rfl<|Ad rfl ?_;apply Iw;rfl;(with_reducible assumption);refine Af rfl<|Ag rfl<|Af rfl<|Ai rfl (Ak 0 rfl rfl)<|Af rfl<|Ag rfl<|Af rfl<|Ai rfl (Ak 1 rfl rfl)<|Af rfl<|FE rfl rfl<|Ap rfl rfl<|Ad rfl<|AF rfl (by omega)<|Af rfl<|Ag rfl<|Af rfl<|Ai rfl (Ak 0 rfl rfl)<|Af rfl<|Ay rfl<|Af rfl<|Ag rfl<|Af rfl<|Ai rfl (Ak 1 rfl rfl)<|Af rfl<|Ay rfl<|Af rfl<|At rfl rfl<|Ap rfl rfl<|Ad rfl<|AF rfl (by omega)<|Af rfl<|Ag rfl<|Af rfl<|Ai rfl (Ak 0 rfl rfl)<|Af rfl<|Ay rfl<|Af rfl<|Ag rfl<|Af rfl<|Ai rfl (Ak 1 rfl rfl)<|Af rfl<|Ay rfl<|Af rfl<|At rfl rfl<|Ap rfl rfl<|Ad rfl<|AF rfl (by omega)<|Af rfl<|Ag rfl<|Af rfl<|Bv 1 rfl rfl rfl<|Af rfl ?_);refine AD rfl (h2 ht im ie) ?_;have hbt:BL (.mk k m e t l ks)=true:=by rw[hbare];simp[hA',hB,show l.length=pln by omega,show ks.length=pkn by omega]
    cases hN:Bg m e with
    |false=>
     (refine Ap rfl rfl<|Ad rfl<|Aj rfl<|Aj rfl<|Aj rfl<|Am rfl rfl<|Ad rfl<|Aa<|Aq ?_)
     apply A1;rfl
     simp[BK,hN]
    |true=>
     (refine Ap rfl rfl<|Ad rfl<|Af rfl<|Ag rfl<|Af rfl<|Ai rfl (Ak 1 rfl rfl)<|Af rfl ?_)
     refine AD rfl (h1 ht it) ?_
     cases hu:u8 t with
     |false=>
      (refine Ap rfl rfl<|Ad rfl<|Aa<|Aq ?_)
      apply A1;rfl
      simp[BK,hu]
     |true=>
      (refine Ap rfl rfl<|Ad rfl<|Aa<|Aq ?_)
      apply A1;rfl
      simp only[BK,V.kind,V.m,V.e,V.text,V.list,V.keys,hbt,hN,hu,hr',Bool.and_true,Y3]
      simpa using h6'
   ·(refine Ah<|Ac<|Ab rfl<|Ag rfl<|Ai rfl (Ak 1 rfl rfl)<|Ay rfl<|Av rfl rfl<|Aa<|An rfl (by omega)<|AU<|Ac<|Ag rfl<|Bv 0 rfl rfl rfl<|Ag rfl<|Bv 1 rfl rfl rfl<|Cc rfl rfl<|Ad rfl ?_;apply Iw;rfl;(with_reducible assumption);refine Af rfl<|Ag rfl<|Af rfl<|Ai rfl (Ak 0 rfl rfl)<|Af rfl<|Ag rfl<|Af rfl<|Ai rfl (Ak 1 rfl rfl)<|Af rfl<|FE rfl rfl<|Ap rfl rfl<|Ad rfl<|AF rfl (by omega)<|Af rfl<|Ag rfl<|Af rfl<|Ai rfl (Ak 0 rfl rfl)<|Af rfl<|Ay rfl<|Af rfl<|Ag rfl<|Af rfl<|Ai rfl (Ak 1 rfl rfl)<|Af rfl<|Ay rfl<|Af rfl<|At rfl rfl<|Ap rfl rfl<|Ad rfl<|AF rfl (by omega)<|Af rfl<|Ag rfl<|Af rfl<|Ai rfl (Ak 0 rfl rfl)<|Af rfl<|Ay rfl<|Af rfl<|Ag rfl<|Af rfl<|Ai rfl (Ak 1 rfl rfl)<|Af rfl<|Ay rfl<|Af rfl<|At rfl rfl<|Ap rfl rfl<|Ad rfl<|Az rfl (by omega)<|Aj rfl<|Aj rfl<|Aj rfl<|Am rfl rfl<|Ad rfl<|Aj rfl<|Aj rfl<|Aj rfl<|Am rfl rfl<|Ad rfl<|Aa<|Aq ?_);apply A1;rfl;have:¬ks.length=pkn:=by omega
    simp[BK,hbare,this]
  ·(refine Ah<|Ac<|Ab rfl<|Ag rfl<|Ai rfl (Ak 1 rfl rfl)<|Ay rfl<|Av rfl rfl<|Aa<|An rfl (by omega)<|AU<|Ac<|Ag rfl<|Bv 0 rfl rfl rfl<|Ag rfl<|Bv 1 rfl rfl rfl<|Cc rfl rfl<|Ad rfl ?_;apply Iw;rfl;(with_reducible assumption);refine Af rfl<|Ag rfl<|Af rfl<|Ai rfl (Ak 0 rfl rfl)<|Af rfl<|Ag rfl<|Af rfl<|Ai rfl (Ak 1 rfl rfl)<|Af rfl<|FE rfl rfl<|Ap rfl rfl<|Ad rfl<|AF rfl (by omega)<|Af rfl<|Ag rfl<|Af rfl<|Ai rfl (Ak 0 rfl rfl)<|Af rfl<|Ay rfl<|Af rfl<|Ag rfl<|Af rfl<|Ai rfl (Ak 1 rfl rfl)<|Af rfl<|Ay rfl<|Af rfl<|At rfl rfl<|Ap rfl rfl<|Ad rfl<|Az rfl (by omega)<|Aj rfl<|Aj rfl<|Aj rfl<|Aj rfl<|Aj rfl<|Aj rfl<|Aj rfl<|Am rfl rfl<|Ad rfl<|Aj rfl<|Aj rfl<|Aj rfl<|Am rfl rfl<|Ad rfl<|Aj rfl<|Aj rfl<|Aj rfl<|Am rfl rfl<|Ad rfl<|Aa<|Aq ?_);apply A1;rfl;have:¬l.length=pln:=by omega
   simp[BK,hbare,this]
 ·(refine Ah<|Ac<|Ab rfl<|Ag rfl<|Ai rfl (Ak 1 rfl rfl)<|Ay rfl<|Av rfl rfl<|Aa<|An rfl (by omega)<|AU<|Ac<|Ag rfl<|Bv 0 rfl rfl rfl<|Ag rfl<|Bv 1 rfl rfl rfl<|Cc rfl rfl<|Ad rfl ?_;apply Iw;rfl;(with_reducible assumption);refine Af rfl<|Ag rfl<|Af rfl<|Ai rfl (Ak 0 rfl rfl)<|Af rfl<|Ag rfl<|Af rfl<|Ai rfl (Ak 1 rfl rfl)<|Af rfl<|FE rfl rfl<|Ap rfl rfl<|Ad rfl<|Az rfl (by omega)<|Aj rfl<|Aj rfl<|Aj rfl<|Aj rfl<|Aj rfl<|Aj rfl<|Aj rfl<|Am rfl rfl<|Ad rfl<|Aj rfl<|Aj rfl<|Aj rfl<|Aj rfl<|Aj rfl<|Aj rfl<|Aj rfl<|Am rfl rfl<|Ad rfl<|Aj rfl<|Aj rfl<|Aj rfl<|Am rfl rfl<|Ad rfl<|Aj rfl<|Aj rfl<|Aj rfl<|Am rfl rfl<|Ad rfl<|Aa<|Aq ?_);apply A1;rfl;have:¬t=pt:=fun h=>hB h.symm;simp[BK,hbare,this]
end Go.Gk.Val
end
section
namespace Go.Gk
open Go
variable{a:Int}
section
section
variable {P:Program}{pan:List PanicEntry→AT}{Qn:Env→AT}{Ls L:List Ae}{ρ:Env}{d:Ae}{s:GS}{t:Nat}{tk:Bool}
def Bz(h:gws P pan Qn s Ls (upd ρ t (.agg [vZ 0,vZ 0,vZ 0,Al [],.slice none 0 0,.slice none 0 0].toArray)) d L):
  gws P pan Qn (.op tk ⟨some t,none,.bld [(0,1),(1,2),(3,1),(4,1),(5,1)] [vZ 0,vZ 0,vZ 0,Al [],.slice none 0 0,.slice none 0 0] []⟩ s) Ls ρ d L:=
 BF (cs:=[vZ 0,vZ 0,vZ 0,Al [],.slice none 0 0,.slice none 0 0]) rfl h
def WQ{x k}(ex:ev ρ x=.int k a)(h:gws P pan Qn s Ls (upd ρ t (.agg [.int k a,vZ 0,vZ 0,Al [],.slice none 0 0,.slice none 0 0].toArray)) d L):
  gws P pan Qn (.op tk ⟨some t,none,.bld [(0,1),(1,2),(3,1),(4,1),(5,1)] [vZ 0,vZ 0,vZ 0,Al [],.slice none 0 0,.slice none 0 0] [(0,x)]⟩ s) Ls ρ d L:=
 BF (cs:=[.int k a,vZ 0,vZ 0,Al [],.slice none 0 0,.slice none 0 0]) (by simp[Instr.fill,ex,Value.cells,Al]) h
def Ep{x y k b}{n c:Nat}(ex:ev ρ x=.int k a)(ey:ev ρ y=.slice b n c)(h:gws P pan Qn s Ls (upd ρ t (.agg [.int k a,vZ 0,vZ 0,Al [],.slice b n c,.slice none 0 0].toArray)) d L):
  gws P pan Qn (.op tk ⟨some t,none,.bld [(0,1),(1,2),(3,1),(4,1),(5,1)] [vZ 0,vZ 0,vZ 0,Al [],.slice none 0 0,.slice none 0 0] [(0,x),(3,y)]⟩ s) Ls ρ d L:=
 BF (cs:=[.int k a,vZ 0,vZ 0,Al [],.slice b n c,.slice none 0 0]) (by simp[Instr.fill,ex,ey,Value.cells,Al]) h
def WW{y b}{n c:Nat}(ey:ev ρ y=.slice b n c)(h:gws P pan Qn s Ls (upd ρ t (.agg [vZ 0,vZ 0,vZ 0,Al [],.slice b n c,.slice none 0 0].toArray)) d L):
  gws P pan Qn (.op tk ⟨some t,none,.bld [(0,1),(1,2),(3,1),(4,1),(5,1)] [vZ 0,vZ 0,vZ 0,Al [],.slice none 0 0,.slice none 0 0] [(3,y)]⟩ s) Ls ρ d L:=
 BF (cs:=[vZ 0,vZ 0,vZ 0,Al [],.slice b n c,.slice none 0 0]) (by simp[Instr.fill,ey,Value.cells,Al]) h
def RR{x y k l}(ex:ev ρ x=.int k a)(ey:ev ρ y=Al l)(h:gws P pan Qn s Ls (upd ρ t (.agg [.int k a,vZ 0,vZ 0,Al l,.slice none 0 0,.slice none 0 0].toArray)) d L):
  gws P pan Qn (.op tk ⟨some t,none,.bld [(0,1),(1,2),(3,1),(4,1),(5,1)] [vZ 0,vZ 0,vZ 0,Al [],.slice none 0 0,.slice none 0 0] [(0,x),(2,y)]⟩ s) Ls ρ d L:=
 BF (cs:=[.int k a,vZ 0,vZ 0,Al l,.slice none 0 0,.slice none 0 0]) (by simp[Instr.fill,ex,ey,Value.cells,Al]) h
def II{x y z k b b'}{n c n' c':Nat}(ex:ev ρ x=.int k a)(ey:ev ρ y=.slice b' n' c')(ez:ev ρ z=.slice b n c)
  (h:gws P pan Qn s Ls (upd ρ t (.agg [.int k a,vZ 0,vZ 0,Al [],.slice b n c,.slice b' n' c'].toArray)) d L):
  gws P pan Qn (.op tk ⟨some t,none,.bld [(0,1),(1,2),(3,1),(4,1),(5,1)] [vZ 0,vZ 0,vZ 0,Al [],.slice none 0 0,.slice none 0 0] [(0,x),(4,y),(3,z)]⟩ s) Ls ρ d L:=
 BF (cs:=[.int k a,vZ 0,vZ 0,Al [],.slice b n c,.slice b' n' c']) (by simp[Instr.fill,ex,ey,ez,Value.cells,Al]) h
def UC{x y z u k k1 k2}{m e:Int}{l b}{n c:Nat}(ex:ev ρ x=.int k a)(ey:ev ρ y=.agg [.int k1 m,.int k2 e].toArray)(ez:ev ρ z=Al l)(eu:ev ρ u=.slice b n c)
  (h:gws P pan Qn s Ls (upd ρ t (.agg [.int k a,.int k1 m,.int k2 e,Al l,.slice none 0 0,.slice b n c].toArray)) d L):
  gws P pan Qn (.op tk ⟨some t,none,.bld [(0,1),(1,2),(3,1),(4,1),(5,1)] [vZ 0,vZ 0,vZ 0,Al [],.slice none 0 0,.slice none 0 0] [(0,x),(1,y),(2,z),(4,u)]⟩ s) Ls ρ d L:=
 BF (cs:=[.int k a,.int k1 m,.int k2 e,Al l,.slice none 0 0,.slice b n c]) (by simp[Instr.fill,ex,ey,ez,eu,Value.cells,Al]) h
end
end
end Go.Gk
end
section
namespace Go.Gk.Val
open Go Go.Gk
attribute [local irreducible] gwp gws
variable{x v:V}
section
mutual
def BS:V→Nat
 |.mk _ _ _ _ l ks=>1+ks.length+B3 l
def B3:List V→Nat
 |[]=>0
 |x::l=>BS x+B3 l
end
def Cq(v:V):BS v=1+v.keys.length+B3 v.list:=by obtain⟨k,m,e,t,l,ks⟩:=v;rfl
def Ol:∀{l:List V},x∈l→BS x≤B3 l
 |y::l,h=>by
  rcases Xu.1 h with rfl|h
  ·simp only[B3];omega
  ·have:=Ol h;simp only[B3];omega
def O8:∀l:List V,l.length≤B3 l
 |[]=>Xq _
 |x::l=>by
  have h1:=Cq x;have h2:=O8 l;simp only[B3,Xv];omega
def Jx:∀l:List (List UInt8),l.length≤EK l
 |[]=>Xq _
 |x::l=>by
  have:=Jx l;simp only[EK,Xv];omega
def MS:∀{l:List V},(∀x∈l,BS x≤CV x)→B3 l≤Dg l
 |[],_=>Xq _
 |x::l,h=>by
  have h1:=h x (Xp ..);have h2:=MS (l:=l) (fun y hy=>h y (Xk _ hy));simp only[B3,Dg];omega
def KR(v:V):BS v≤CV v:=by
 induction v using V.ind with
 |h v ih=>
  have h1:=G5 v
  have h2:=Cq v
  have h3:=Jx v.keys
  have h4:=MS ih
  omega
def E9:v.list.length≤BS v:=by
 have h1:=Cq v;have h2:=O8 v.list;omega
def Kx:v.keys.length≤BS v:=by
 have h1:=Cq v;omega
def VV(h:x∈v.list):BS x≤BS v:=by
 have h1:=Cq v;have h2:=Ol h;omega
mutual
def BD:V→Nat
 |.mk _ _ _ t l ks=>1+t.length+ks.length+BN l
def BN:List V→Nat
 |[]=>0
 |x::l=>BD x+BN l
end
def BV(v:V):BD v=1+v.text.length+v.keys.length+BN v.list:=by obtain⟨k,m,e,t,l,ks⟩:=v;rfl
def Fs:∀{l:List V},x∈l→BD x≤BN l
 |y::l,h=>by
  rcases Xu.1 h with rfl|h
  ·simp only[BN];omega
  ·have:=Fs h;simp only[BN];omega
def Oy:∀{l:List V},(∀x∈l,BS x≤BD x)→B3 l≤BN l
 |[],_=>Xq _
 |x::l,h=>by
  have h1:=h x (Xp ..);have h2:=Oy (l:=l) (fun y hy=>h y (Xk _ hy));simp only[B3,BN];omega
def EM(v:V):BS v≤BD v:=by
 induction v using V.ind with
 |h v ih=>
  have h1:=BV v
  have h2:=Cq v
  have h4:=Oy ih
  omega
def M6:∀{l:List V},(∀x∈l,BD x≤CV x)→BN l≤Dg l
 |[],_=>Xq _
 |x::l,h=>by
  have h1:=h x (Xp ..);have h2:=M6 (l:=l) (fun y hy=>h y (Xk _ hy));simp only[BN,Dg];omega
def KG(v:V):BD v≤CV v:=by
 induction v using V.ind with
 |h v ih=>
  have h1:=BV v
  have h2:=G5 v
  have h3:=Jx v.keys
  have h4:=M6 ih
  omega
section
variable {P:Program}{pan:List PanicEntry→AT}{Qn:Env→AT}{Ls L:List Ae}{ρ:Env}{d:Ae}{s:GS}{t:Nat}{tk:Bool}
def z6:List Value:=[vZ 0,vZ 0,vZ 0,Al [],.slice none 0 0,.slice none 0 0]
def six{cs:List Value}(h:cs.length=6):∃a0 a1 a2 a3 a4 a5,cs=[a0,a1,a2,a3,a4,a5]:=by
 match cs,h with
 |[a,b,c,d,e,f],_=>exact⟨a,b,c,d,e,f,rfl⟩
def Ed{x:Operand}{cs:List Value}(ex:ev ρ x=.agg cs.toArray)(hc:cs.length=6)(h:∀b T,gws P pan Qn s Ls (upd ρ t (.slice (some ⟨b,0,none⟩) 1 1)) d (bx b T cs::L)):
  gws P pan Qn (.op false ⟨some t,none,.bsl 1 6 [vZ 0,vZ 0,vZ 0,Al [],.slice none 0 0,.slice none 0 0] [(0,x)]⟩ s) Ls ρ d L:=by
 obtain⟨a0,a1,a2,a3,a4,a5,rfl⟩:=six hc
 refine E1 (by omega) ?_ h
 simp[Instr.fill,Bu,XK,List.range.loop,ex,Value.cells]
end
def Mp{α}(R:Ae→List Value→α→Prop)(by_:Nat)(P:Program)(f:FuncId):Prop:=∀{d v}{xs:List α},RSl 1 R d v xs→xs.length*by_≤140737488355328→
 AY P f [v] d [] (Ret fun r d' L'=>d'=d∧∃h,L'=[h]∧AO 1 R d r xs h)
def Fu:A0:=⟨8,[(.tmp 2)],(sR (o1 2 (.mv nS) .done) (.seq (sR (om 3 0<|o1 4 (.eqs false 3 nS) .done) (.cond 4 (sR (o1 2 (.mv nS) .done) .ret) .skip)) (sR (o1 5 (.bsl 0 1 [(Al [])] [])<|om 6 0<|o1 7 (.app 1 16 [(Al [])] 5 6)<|om 2 7 .done) .ret)))⟩
def RL{P f}(hd:dec P f=some Fu):Mp Bk 16 P f:=by
 intro d v xs hv hb;have hv':=hv;have hxl:=RSl.A2 hv;obtain⟨a,c,b,o,rfl,h2,h3,h4,h5,_⟩:=hv;refine Bf hd (No rfl) ?_;show gwp P _ _ _ _ _;cases a with
 |none=>
  have:xs=[]:=Xo (by have:=h4 rfl;omega)
  subst this
  apply Ah;apply Ax
  refine Cn d [emp] Vs.emp ?_
  (refine Ar rfl<|Aa<|Ah<|Ac<|Ar rfl<|Se rfl rfl<|Aa<|Bd rfl<|Ac<|Ar rfl<|Aa<|Aq ?_)
  exact N8 (L':=[emp]) rfl (Xy _) ⟨rfl,emp,rfl,AO.nil⟩
 |some a=>
  (refine Ac<|Ar rfl<|Aa<|Ah<|Ac<|Ar rfl<|SV rfl rfl<|Aa<|AJ rfl<|Ao<|Ac ?_)
  refine E1 (cs:=[]) (by omega) rfl (fun b8 T8=>?_)
  (apply Ar;rfl)
  refine ES 0 rfl rfl (AO.V6 (R:=Bk) (sz:=1)) rfl (RSl.src (R:=Bk) (xs:=xs) hv' Hv (by omega) _) (by omega) (by simp;omega) (by simp;omega) (fun v5 h5 hrow5=>?_)
  (refine N5<|Aa<|Aq ?_)
  exact N8 (L':=[h5]) rfl (Xy _) ⟨rfl,h5,rfl,hrow5⟩
def B7.cells{cs h}(o:B7 cs v h):cs.length=6∧(cs.all (·.oneCell'))=true:=
 ⟨(o.HE (Le.refl h)).len,AK _ _ _ (o.HE (Le.refl h))⟩
def RS(v:V)(cs:List Value)(L:List Ae):Prop:=∃lv kv hk hl ccs hs,cs=[vZ v.kind,vZ v.m,vZ v.e,Al v.text,lv,kv]∧AO 1 Bk emp kv v.keys hk∧BB 6 lv v.list.length ccs hl∧hs.length=v.list.length∧
 (∀i (h:i<v.list.length),B7 (chunk ccs i 6) v.list[i] (hs.getD i emp))∧L=hk::hl::hs
def Fy(P:Program)(f:FuncId):Prop:=∀(v:V) {d cs},Aw d cs v→BS v≤1000000000→AY P f [.agg cs.toArray] d [] (Ret fun r d' L'=>d'=d∧∃cs' h,r=.agg cs'.toArray∧L'=[h]∧B7 cs' v h)
def QY{P f d cs}(hv:Aw d cs v)(h:AY P f [.agg cs.toArray] d [] (Ret fun r d' L'=>d'=d∧∃cs',r=.agg cs'.toArray∧RS v cs' L')):
  AY P f [.agg cs.toArray] d [] (Ret fun r d' L'=>d'=d∧∃cs' h,r=.agg cs'.toArray∧L'=[h]∧B7 cs' v h):=by
 refine(Ok.Xd h).WZ (fun e d' L' _ r=>?_)
 cases e with
 |panicked c=>exact r.elim
 |outgrown=>exact r.elim
 |returned u=>
  obtain⟨⟨hdd,cs',hr,lv,kv,hk,hl,ccs,hs,hcs,gk,gl,hsl,el,hL⟩,hp⟩:=r
  subst hL
  obtain⟨k,m,e,t,l,ks⟩:=v
  obtain⟨_,_,_,ik,im,ie,it,_,_⟩:=hv.open
  exact⟨d',_,Vs.pack _,hdd,cs',_,hr,rfl,by rw[hcs];exact B7.mk ik im ie it gk gl hsl el (List.pairwise_cons.1 hp).2⟩
def N7(a0 a1:Nat):A0:=⟨32,[(.cell 2 (some 6))],(sR (o1 1 (.box 0)<|o1 2 (.alo (.agg #[(vZ 0),(vZ 0),(vZ 0),(Al []),(.slice none 0 0),(.slice none 0 0)])) .done) (.seq (.reg true (p1 6 (.fld 0 1)<|pl 7 6<|p1 8 (.fld 1 1)<|p1 9 (.ld (some 2) 8)<|p1 10 (.fld 3 1)<|pl 11 10<|p1 12 (.fld 5 1)<|pl 13 12 (.alt ⟨(some 14),none,(.call a0 [13])⟩ (p1 15 (.bld [(0,1),(1,2),(3,1),(4,1),(5,1)] [(vZ 0),(vZ 0),(vZ 0),(Al []),(.slice none 0 0),(.slice none 0 0)] [(0,7),(1,9),(2,11),(4,14)]) (o1 3 (.alo (.agg #[(vZ 0),(vZ 0),(vZ 0),(Al []),(.slice none 0 0),(.slice none 0 0)])) (.bar (o0 (.st 6 3 15) .done)))) (o1 3 (.alo (.agg #[(vZ 0),(vZ 0),(vZ 0),(Al []),(.slice none 0 0),(.slice none 0 0)])) (oc 14 a0 [13] (p1 15 (.bld [(0,1),(1,2),(3,1),(4,1),(5,1)] [(vZ 0),(vZ 0),(vZ 0),(Al []),(.slice none 0 0),(.slice none 0 0)] [(0,7),(1,9),(2,11),(4,14)]) (.bar (o0 (.st 6 3 15) .done)))))))) (.seq (sR (oj 16 4 1<|ol 17 16<|oL 18 17<|o1 19 (.mv z0) .done) (.block 0 (.loop (sR (ob 20 .lss 19 18 .done) (.seq (.cond 20 .skip (.exit 0)) (.seq (.block 1 (sR (oI 21 6 17 19<|o1 22 (.ld (some 6) 21)<|o1 5 (.alo (.agg #[(vZ 0),(vZ 0),(vZ 0),(Al []),(.slice none 0 0),(.slice none 0 0)]))<|o0 (.st 6 5 22) .done) (.reg true (p1 23 (.fld 4 3)<|pl 24 23<|p1 25 (.ld (some 6) 5)<|oc 26 a1 [25]<|o1 27 (.bsl 1 6 [(vZ 0),(vZ 0),(vZ 0),(Al []),(.slice none 0 0),(.slice none 0 0)] [(0,26)])<|o1 28 (.app 6 88 [(vZ 0),(vZ 0),(vZ 0),(Al []),(.slice none 0 0),(.slice none 0 0)] 24 27)<|p1 29 (.fld 4 3) (.bar (o0 (.st 1 29 28) .done)))))) (rG (ob 30 .add 19 z1<|om 19 30 .done)))))))) (sR (o1 31 (.ld (some 6) 3)<|o0 (.st 6 2 31) .done) .ret))))⟩
set_option maxHeartbeats 1000000 in
def Un{P:Program}{f f1:FuncId}(hd:dec P f=some (N7 f1 f))(h1:Mp Bk 16 P f1):Fy P f:=by
 intro v;induction v using V.ind with
 |h v ih=>
 intro d cs hv hb;refine QY hv (AY.forget (Q:=fun r L'=>∃cs',r=.agg cs'.toArray∧RS v cs' L') (Bf hd (No rfl) ?_));have hb1:=E9 (v:=v);have hb2:=Kx (v:=v);obtain⟨lv,kv,rfl,ik,im,ie,it,hl,hks⟩:=hv.open;obtain⟨la,lc,rfl⟩:=RSl.val hl;obtain⟨ka,kc,rfl⟩:=RSl.val hks;show gwp P _ _ _ _ _;apply Ah;apply Ax;refine AR (l:=[vZ v.kind,vZ v.m,vZ v.e,Al v.text,.slice la v.list.length lc,.slice ka v.keys.length kc]) rfl (fun b1 T1=>?_);refine Bt (fun d1 hl1 hg1=>?_);have hc1:DCs d1 b1 0 [vZ v.kind,vZ v.m,vZ v.e,Al v.text,.slice la v.list.length lc,.slice ka v.keys.length kc]:=Ib hg1;have hl':RSl 6 Aw d1 (.slice la v.list.length lc) v.list:=BY.mono hl hl1;have hks':RSl 1 Bk d1 (.slice ka v.keys.length kc) v.keys:=B9.mono hks hl1;have n1:=RSl.A2 hl';(refine AV (fun _ _=>Aa ?_));rename_i b2 T2;refine DY (fun ρ d' L'=>Le d1 d'∧∃b3 T3 ka' kc' hk,Bi ρ [(1,pZ b1),(2,pZ b2),(3,pZ b3)]∧AO 1 Bk emp (.slice ka' v.keys.length kc') v.keys hk∧
  L'=[bx b2 T2 [vZ 0,vZ 0,vZ 0,Al [],.slice none 0 0,.slice none 0 0],bx b3 T3 [vZ v.kind,vZ v.m,vZ v.e,Al v.text,.slice none 0 0,.slice ka' v.keys.length kc'],hk,emp]) ?_ ?_
 ·refine Bp ?_;(refine Ag rfl<|Ai rfl (Cj (by assumption) rfl)<|Ag rfl<|Wg rfl (by assumption) rfl<|Ag rfl<|Ai rfl (Cj (by assumption) rfl)<|Ag rfl<|Ai rfl (Cj (by assumption) rfl) ?_);refine Ee ?_ ?_
  ·refine AQ rfl (h1 hks' (by omega)) (fun r d4 L4 hl4 ⟨hdd,hk,hL,⟨ccs,g1,g2⟩⟩=>?_);subst hdd;subst hL;have g:AO 1 Bk emp r v.keys hk:=⟨ccs,g1,g2⟩
   obtain⟨ka',kc',rfl⟩:=g.val;(refine UC rfl rfl rfl rfl<|AV (fun _ _=>Cr ?_));rename_i b3 T3;refine AA 1 [vZ v.kind,vZ v.m,vZ v.e,Al v.text,.slice none 0 0,.slice ka' v.keys.length kc'] rfl rfl rfl rfl (No rfl) rfl rfl ?_;exact H6 ⟨_,_,Vs.emp.trans (Vs.pick [1,2,3,0] rfl),Le.refl _,b3,T3,_,_,hk,⟨rfl,rfl,rfl,trivial⟩,g,rfl⟩
  ·(apply AV;intro _ _);rename_i b3 T3;refine AQ rfl (h1 hks' (by omega)) (fun r d4 L4 hl4 ⟨hdd,hk,hL,⟨ccs,g1,g2⟩⟩=>?_);subst hdd;subst hL;have g:AO 1 Bk emp r v.keys hk:=⟨ccs,g1,g2⟩
   obtain⟨ka',kc',rfl⟩:=g.val;(refine UC rfl rfl rfl rfl<|Cr ?_);refine AA 2 [vZ v.kind,vZ v.m,vZ v.e,Al v.text,.slice none 0 0,.slice ka' v.keys.length kc'] rfl rfl rfl rfl (No rfl) rfl rfl ?_;exact H6 ⟨_,_,Vs.emp.trans (Vs.pick [1,3,2,0] rfl),Le.refl _,b3,T3,_,_,hk,⟨rfl,rfl,rfl,trivial⟩,g,rfl⟩
 rintro ρ d2 L' ⟨hl2,b3,T3,ka',kc',hk,hsl,hg,hL⟩;subst hL;refine BQ _ hsl ?_;clear hsl;have hc2:=hc1.mono hl2;have hl2':RSl 6 Aw d2 (.slice la v.list.length lc) v.list:=BY.mono hl' hl2;(refine Ah<|Ac<|Ag rfl<|Ai rfl (Cj (by assumption) rfl)<|Ay rfl<|Ab rfl<|Aa<|As ?_);refine A6 (α:=Nat) (fun i=>[(2,pZ b2),(3,pZ b3),(17,.slice la v.list.length lc),(18,vZ v.list.length),(19,vZ i)])
  (fun i d' L'=>d'=d2∧i≤v.list.length∧∃ra rc hl ccs hs,BB 6 (.slice ra i rc) i ccs hl∧hs.length=i∧(∀j (hj:j<v.list.length),j<i→B7 (chunk ccs j 6) v.list[j] (hs.getD j emp))∧
   L'=bx b2 T2 [vZ 0,vZ 0,vZ 0,Al [],.slice none 0 0,.slice none 0 0]::bx b3 T3 [vZ v.kind,vZ v.m,vZ v.e,Al v.text,.slice ra i rc,.slice ka' v.keys.length kc']::hk::hl::hs)
  (fun i=>v.list.length - i) 0 ⟨rfl,rfl,rfl,rfl,rfl,trivial⟩ ⟨rfl,Xw _,none,0,emp,[],[],BB.nil 6,rfl,fun j _ h=>absurd h (XP j),rfl⟩ ?_
 rintro i ρ d3 L' ⟨hdd,hi,ra,rc,hl0,ccs,hs,hrow,hhs,hel,hL⟩;subst hdd;subst hL;have hl3':RSl 6 Aw d3 (.slice la v.list.length lc) v.list:=hl2';by_cases hc:i<v.list.length
 ·(refine Ac<|Av rfl rfl<|Aa<|Ah<|Au rfl (by omega)<|Ao<|Ah<|As<|Ac<|AN (sz:=6) (R:=Aw) (by rfl) (by assumption) (by rfl) rfl (by omega) ?_;rintro _ _ _ _ _ _;refine B5 rfl (by assumption) (by assumption)<|AV (fun _ _=>?_));rename_i cs hcs hD hR b5 T5;obtain⟨c0,c1,c2,c3,c4,c5,rfl⟩:=six hcs;refine AA 0 [c0,c1,c2,c3,c4,c5] rfl rfl rfl rfl (No rfl) (AK _ _ _ hR) rfl ?_;(apply Aa);refine Ek [bx b5 T5 [c0,c1,c2,c3,c4,c5],bx b2 T2 [vZ 0,vZ 0,vZ 0,Al [],.slice none 0 0,.slice none 0 0],bx b3 T3 [vZ v.kind,vZ v.m,vZ v.e,Al v.text,.slice ra i rc,.slice ka' v.keys.length kc'],hk] (hl0::hs) rfl ?_;(refine Ag rfl<|Ai rfl (Ak 2 rfl rfl)<|AE 0 rfl rfl rfl ?_);refine AQ rfl (ih _ (Xh hc) hR (by have:=VV (Xh hc);omega)) (fun r d4 L4 _ ⟨hdd,cs',g,hr,hL,ho⟩=>?_);subst hdd;subst hr;subst hL;obtain⟨hc6,hc1'⟩:=ho.cells;refine Ed rfl hc6 (fun b27 T27=>?_);refine J1 1 rfl rfl hrow rfl (by rw[hc6]) hc1' (by omega) (by omega) (by omega) (fun v5 h5 o5=>?_);obtain⟨a5,_,c5',rfl,_⟩:=o5.slice;(refine Ag rfl<|Cr ?_);refine Cn _ (bx b2 T2 [vZ 0,vZ 0,vZ 0,Al [],.slice none 0 0,.slice none 0 0]::bx b3 T3 [vZ v.kind,vZ v.m,vZ v.e,Al v.text,.slice ra i rc,.slice ka' v.keys.length kc']::hk::h5::(hs++[g]))
   ((Vs.perm (Yl [bx b5 T5 [c0,c1,c2,c3,c4,c5],bx b2 T2 [vZ 0,vZ 0,vZ 0,Al [],.slice none 0 0,.slice none 0 0],bx b3 T3 [vZ v.kind,vZ v.m,vZ v.e,Al v.text,.slice ra i rc,.slice ka' v.keys.length kc'],hk] ((XM _ _ _).trans ((List.perm_append_singleton g hs).symm.cons _)))).trans (Vs.drop (List.sublist_cons_self _ _))) ?_
  refine AA 1 [vZ v.kind,vZ v.m,vZ v.e,Al v.text,.slice a5 (i+1) c5',.slice ka' v.keys.length kc'] rfl rfl rfl rfl (No rfl) rfl rfl ?_;(refine Aa<|Ax<|AI rfl rfl (by omega) (by omega)<|Ab rfl<|Aa ?_);refine⟨i+1,by omega,⟨rfl,rfl,rfl,rfl,int_eq (by omega),trivial⟩,rfl,hc,a5,c5',h5,_,hs++[g],o5,by simp[hhs],fun j hj hji=>?_,rfl⟩
  have h6:ccs.length=i*6:=hrow.1;by_cases e:j<i
  ·rw[Dj h6 e,show(hs++[g]).getD j emp=hs.getD j emp by simp[Y1,Yj (show j<hs.length by omega)]];exact hel j hj e
  ·obtain rfl:j=i:=by omega
   rw[DK h6 (Xq _),YT,show chunk cs' 0 6=cs' by simp only[chunk,YS,YN];exact XQ (by omega),show(hs++[g]).getD j emp=g by simp[Y1,hhs]];exact ho
 ·obtain rfl:i=v.list.length:=by omega
  (refine Ac<|Av rfl rfl<|Aa<|Ah<|An rfl (by omega)<|AU<|Ac<|AE 1 rfl rfl rfl ?_);refine AA 0 [vZ v.kind,vZ v.m,vZ v.e,Al v.text,.slice ra v.list.length rc,.slice ka' v.keys.length kc'] rfl rfl rfl rfl (No rfl) rfl rfl ?_;(refine Aa<|Aq ?_);exact F9 [.agg [vZ v.kind,vZ v.m,vZ v.e,Al v.text,.slice ra v.list.length rc,.slice ka' v.keys.length kc'].toArray] ⟨A4 0 rfl rfl rfl,trivial⟩ (Vs.drop (((Xy _).cons _).cons _)) ⟨_,rfl,_,_,hk,hl0,ccs,hs,rfl,hg,hrow,hhs,fun j hj=>hel j hj hj,rfl⟩
end
end Go.Gk.Val
end
section
namespace Go.Gk.Val
open Go Go.Gk
section
section
variable {H:Type}{enc:TypeId×Value→H}{P:Program}{W:World}
structure VTy (P:Program) (t tn t6 ti ts tl tk:TypeId):Prop where
 fs:∃fs:Array Field,P.underlying t=some (.struct fs)∧(fs[0]?).map (fun f=>(f.offset,f.type))=some (0,ti)∧(fs[1]?).map (fun f=>(f.offset,f.type))=some (1,tn)∧(fs[2]?).map (fun f=>(f.offset,f.type))=some (3,ts)∧
  (fs[3]?).map (fun f=>(f.offset,f.type))=some (4,tl)∧(fs[4]?).map (fun f=>(f.offset,f.type))=some (5,tk)
 ns:∃fs:Array Field,P.underlying tn=some (.struct fs)∧(fs[0]?).map (fun f=>(f.offset,f.type))=some (0,t6)∧(fs[1]?).map (fun f=>(f.offset,f.type))=some (1,ti)
 c:P.cellsOf t=6
 cn:P.cellsOf tn=2
 c6:P.cellsOf t6=1
 ci:P.cellsOf ti=1
 cs:P.cellsOf ts=1
 cl:P.cellsOf tl=1
 ck:P.cellsOf tk=1
 u6:P.underlying t6=some (.int .i64)
 ui:P.underlying ti=some (.int .i64)
 us:P.underlying ts=some .string
 ul:P.underlying tl=some (.slice t)
 uk:P.underlying tk=some (.slice ts)
 b:1≤P.bytesOf t
 bs:1≤P.bytesOf ts
def WE{t t6 ti}(hf:∃fs:Array Field,P.underlying t=some (.struct fs)∧(fs[0]?).map (fun f=>(f.offset,f.type))=some (0,t6)∧(fs[1]?).map (fun f=>(f.offset,f.type))=some (1,ti))
  (c:P.cellsOf t=2) (c6:P.cellsOf t6=1) (ci:P.cellsOf ti=1) (u6:P.underlying t6=some (.int .i64)) (ui:P.underlying ti=some (.int .i64)):
  Rd enc P W t (fun _ cs (x:Int×Int)=>cs=[vZ x.1,vZ x.2]∧I64 x.1∧I64 x.2):=by
 intro held fuel cs x h hw
 obtain⟨fs,hu,f0,f1⟩:=hf
 obtain⟨hl,hfs⟩:=Nb hu h hw
 obtain⟨m,e0,hm⟩:=hfs 0 0 t6 1 f0 c6 (GV u6)
 obtain⟨e,e1,he⟩:=hfs 1 1 ti 1 f1 ci (GV ui)
 obtain⟨a0,a1,rfl⟩:=WL (hl.trans c)
 simp only[List.drop,List.take,List.cons.injEq,and_true] at e0 e1
 subst e0;subst e1
 exact⟨(m,e),rfl,hm,he⟩
def rd_val{t tn t6 ti ts tl tk:TypeId}(T:VTy P t tn t6 ti ts tl tk):Rd enc P W t Aw:=by
 intro held fuel;show NX enc P W held fuel t Aw;induction fuel using Nat.strongRecOn with
 |ind fuel ih=>
 intro cs x h hw;obtain⟨fs,hu,f0,f1,f2,f3,f4⟩:=T.fs;obtain⟨hl,hfs⟩:=P5 hu h hw;obtain⟨k,e0,hk⟩:=hfs 0 0 ti 1 f0 T.ci (fun n _=>(GV T.ui).at);obtain⟨⟨m,e⟩,e1,hm,he⟩:=hfs 1 1 tn 2 f1 T.cn (fun n _=>(WE T.ns T.cn T.c6 T.ci T.u6 T.ui).at);obtain⟨s,e2,hs⟩:=hfs 2 3 ts 1 f2 T.cs (fun n _=>(Pk T.us).at);obtain⟨l,lv,e3,hll⟩:=hfs 3 4 tl 1 f3 T.cl (fun n hn=>Lr T.ul T.c (by omega) T.b (fun k hk=>ih k (by omega)));obtain⟨ks,kv,e4,hks⟩:=hfs 4 5 tk 1 f4 T.ck (fun n hn=>Lr T.uk T.cs (by omega) T.bs (fun k hk=>(Pk T.us).at));obtain⟨a0,a1,a2,a3,a4,a5,rfl⟩:=six (hl.trans T.c);simp only[List.drop,List.take,List.cons.injEq,and_true] at e0 e1 e2 e3 e4;obtain⟨e1,e1'⟩:=e1;subst e0;subst e1;subst e1';subst e2;subst e3;subst e4;exact⟨.mk k m e s l ks,Aw.close (v:=.mk k m e s l ks) hk hm he hs hll hks⟩
end
end
end Go.Gk.Val
end
section
namespace Go.Gk.Utf
open Go Go.Lib
def D7:Nat→List UInt8→List (List UInt8)
 |0,_=>[]
 |n+1,l=>if l=[] then [] else l.take (decodeL l).2::D7 n (l.drop (decodeL l).2)
def chs(l:List UInt8):List (List UInt8):=D7 l.length l
def F7:Nat→List UInt8→List Int
 |0,_=>[]
 |n+1,l=>if l=[] then [] else((decodeL l).1:Int)::F7 n (l.drop (decodeL l).2)
def rns(l:List UInt8):List Int:=F7 l.length l
def OP:∀(n:Nat) (l:List UInt8),(D7 n l).length≤l.length
 |0,_=>Xw _
 |n+1,l=>by
  by_cases h:l=[]
  ·simp[D7,h]
  ·have hw:=decodeL_width l;have hl:0<l.length:=XV.2 h;have:=OP n (l.drop (decodeL l).2);rw[List.length_drop] at this;simp only[D7,if_neg h,Xv];omega
def U1(l:List UInt8):(chs l).length≤l.length:=OP _ _
def Ps:∀(n:Nat) (l:List UInt8),(F7 n l).length=(D7 n l).length
 |0,_=>rfl
 |n+1,l=>by
  by_cases h:l=[]
  ·simp[D7,F7,h]
  ·simp only[D7,F7,if_neg h,Xv,Ps n]
def Qa(l:List UInt8):(rns l).length=(chs l).length:=Ps _ _
def PN(l:List UInt8)(i:Nat):Utf8.decode ⟨l.toArray⟩ i=decodeL (l.drop i):=by
 have h:=tail_decode ⟨l.toArray⟩ i 0;rw[Nat.add_zero] at h;rw[←h,decodeL];congr 1;simp[ByteArray.extract,ByteArray.copySlice,ByteArray.size];exact XQ (by simp)
def Wq{r:Int}(h0:0≤r)(h:r<55296∨(57343<r∧r≤1114111)):IX r=encodeRune r:=by
 have hv:Utf8.valid r=true:=by simp[Utf8.valid];omega
 simp only[IX,Utf8.encode,hv,if_true,encodeRune];by_cases h1:r≤127
 ·rw[if_pos (by omega),encodeRuneZ_one h0 h1];rfl
 rw[if_neg (by omega)];by_cases h2:r≤2047
 ·rw[if_pos (by omega),encodeRuneZ_two (by omega) h2];simp only[Yd,List.map_nil];rw[show(192+r / 64).toNat=0xC0+r.toNat / 64 by omega,show(128+r % 64).toNat=0x80+r.toNat % 64 by omega]
 rw[if_neg (by omega)];by_cases h3:r≤65535
 ·rw[if_pos (by omega),encodeRuneZ_three (by omega)];simp only[Yd,List.map_nil];rw[show(224+r / 4096).toNat=0xE0+r.toNat / 4096 by omega,show(128+r / 64 % 64).toNat=0x80+r.toNat / 64 % 64 by omega,show(128+r % 64).toNat=0x80+r.toNat % 64 by omega]
 rw[if_neg (by omega),encodeRuneZ_four (by omega) (by omega)];simp only[Yd,List.map_nil];rw[show(240+r / 262144).toNat=0xF0+r.toNat / 262144 by omega,show(128+r / 4096 % 64).toNat=0x80+r.toNat / 4096 % 64 by omega,show(128+r / 64 % 64).toNat=0x80+r.toNat / 64 % 64 by omega,show(128+r % 64).toNat=0x80+r.toNat % 64 by omega]
def Qg:∀(n:Nat) (l:List UInt8),validD l=true→(F7 n l).map IX=D7 n l
 |0,_,_=>rfl
 |n+1,l,hv=>by
  by_cases h:l=[]
  ·simp[D7,F7,h]
  ·rw[validD_step l h] at hv;by_cases hb:(decodeL l).1=65533∧(decodeL l).2=1
   ·rw[if_pos hb] at hv;cases hv
   ·rw[if_neg hb] at hv;have hd:(decodeL l).1<55296∨(57343<(decodeL l).1∧(decodeL l).1≤1114111):=by
     rw[decodeL_N];exact decodeN_valid _ _ _ _ _ (UInt8.toNat_lt _)
    simp only[D7,F7,if_neg h,Yd];rw[Wq (by omega) (by omega),encode_decode l h hb,Qg n _ hv]
def Tq{l}(hv:validD l=true)(a b:Nat):(((rns l).drop a).take b).flatMap IX=(((chs l).drop a).take b).flatten:=by
 rw[List.flatMap_def,List.map_take,List.map_drop,rns,Qg _ _ hv];rfl
def Jw(l:List UInt8):∀(n i:Nat) (acc:Array Value),l.length≤n+i→(Conv.runesFrom ⟨l.toArray⟩ n i acc).toList=acc.toList++(F7 n (l.drop i)).map (Value.int .i32)
 |0,i,acc,h=>by simp[Conv.runesFrom,F7]
 |n+1,i,acc,h=>by
  have hs:(⟨l.toArray⟩:ByteArray).size=l.length:=by simp[ByteArray.size]
  simp only[Conv.runesFrom,hs];by_cases hi:i<l.length
  ·have hne:l.drop i≠[]:=by simp;omega
   have hw:=decodeL_width (l.drop i);rw[if_pos hi,PN,Jw l n _ _ (by omega)];simp only[F7,if_neg hne];simp[List.drop_drop]
  ·have hne:l.drop i=[]:=by simp;omega
   rw[if_neg hi,hne];simp[F7]
def Jo(l:List UInt8):Gk.BE l=(rns l).map (Value.int .i32):=by
 simp only[Gk.BE];rw[Jw l _ 0 _ (by omega)];simp[rns]
def KB{l}(a b:Nat):(((chs l).drop a).take b).flatten.length≤l.length:=by
 have key:∀(n:Nat) (l:List UInt8) (a b:Nat),(((D7 n l).drop a).take b).flatten.length≤l.length:=by
  intro n;induction n with
  |zero=>intro l a b;simp[D7]
  |succ n ih=>
   intro l a b
   by_cases h:l=[]
   ·simp[D7,h]
   ·simp only[D7,if_neg h]
    have hw:=decodeL_width l
    have h2:(l.take (decodeL l).2).length+(l.drop (decodeL l).2).length=l.length:=by rw[←Xl,List.take_append_drop]
    cases a with
    |zero=>
     cases b with
     |zero=>simp
     |succ b=>
      have:=ih (l.drop (decodeL l).2) 0 b
      simp only[YN,Ys,Ya,Xl] at this⊢
      omega
    |succ a=>
     have:=ih (l.drop (decodeL l).2) a b
     simp only[List.drop_succ_cons] at this⊢
     omega
 exact key _ _ _ _
def QU{l}(hl:l≠[])(hv:validD l=true):validD (l.drop (decodeL l).2)=true:=by
 rw[validD_step l hl] at hv;split at hv
 ·cases hv
 ·exact hv
def PZ{l}(hne:l≠[])(hv:¬((decodeL l).1=65533∧(decodeL l).2=1))(t:List UInt8):decodeL (l.take (decodeL l).2++t)=decodeL l:=by
 have hl:0<l.length:=XV.2 hne;have g:∀(w i:Nat),i<w→w≤l.length→(l.take w++t).getD i 0=l.getD i 0:=by
  intro w i h1 h2;simp only[Y1];rw[Yj (by simp;omega),List.getElem?_take_of_lt h1]
 have gl:∀w:Nat,w≤l.length→w≤(l.take w++t).length:=by intro w h;simp;omega
 rw[decodeL_N (l.take _++t)];rw[decodeL_N l] at hv⊢;rcases decodeN_shape l.length (l.getD 0 0).toNat (l.getD 1 0).toNat (l.getD 2 0).toNat (l.getD 3 0).toNat with ⟨c,e⟩|⟨c1,c2,c3,cv,e⟩|⟨c1,c2,c3,c4,cv,cs,e⟩|⟨c1,c2,c3,c4,c5,cv,cw,e⟩|e
 ·rw[e];dsimp only;rw[g 1 0 (by omega) (by omega),decodeN,if_pos c]
 ·rw[e];dsimp only;have:=gl 2 (by omega);rw[g 2 0 (by omega) (by omega),g 2 1 (by omega) (by omega),decodeN,if_neg (by omega),if_pos (by omega),if_pos (by omega)]
 ·rw[e];dsimp only;have:=gl 3 (by omega);rw[g 3 0 (by omega) (by omega),g 3 1 (by omega) (by omega),g 3 2 (by omega) (by omega),decodeN,if_neg (by omega),if_neg (by omega),if_pos (by omega),if_pos (by omega)]
 ·rw[e];dsimp only;have:=gl 4 (by omega);rw[g 4 0 (by omega) (by omega),g 4 1 (by omega) (by omega),g 4 2 (by omega) (by omega),g 4 3 (by omega) (by omega),decodeN,if_neg (by omega),if_neg (by omega),if_neg (by omega),if_pos (by omega),if_pos (by omega)]
 ·rw[e] at hv;simp at hv
def Q9{l}(hv:validD l=true)(a b:Nat):validD (((chs l).drop a).take b).flatten=true:=by
 have key:∀(n:Nat) (l:List UInt8) (a b:Nat),validD l=true→validD (((D7 n l).drop a).take b).flatten=true:=by
  intro n;induction n with
  |zero=>intro l a b _;simp[D7,validD_nil]
  |succ n ih=>
   intro l a b hv
   by_cases h:l=[]
   ·simp[D7,h,validD_nil]
   ·have hr:=QU h hv
    simp only[D7,if_neg h]
    have hw:=decodeL_width l
    have hwl:=decodeL_le l h
    have hl:0<l.length:=XV.2 h
    cases a with
    |zero=>
     cases b with
     |zero=>simp[validD_nil]
     |succ b=>
      have hb:¬((decodeL l).1=65533∧(decodeL l).2=1):=fun hb=>by rw[validD_step l h,if_pos hb] at hv;cases hv
      have:=ih (l.drop (decodeL l).2) 0 b hr
      simp only[YN,Ys,Ya] at this⊢
      rw[validD_step _ (by intro e;have:=congrArg Yw e;rw[Xl,List.length_take] at this;simp only[List.length_nil] at this;omega),PZ h hb,if_neg hb]
      have hlen:(l.take (decodeL l).2).length=(decodeL l).2:=by simp;omega
      rw[List.drop_append,List.drop_of_length_le (by omega),hlen,YT,YN,XL]
      exact this
    |succ a=>exact ih _ a b hr
 exact key _ _ _ _ hv
end Go.Gk.Utf
end
section
namespace Go.Gk.Val
open Go Go.Gk
attribute [local irreducible] gwp gws
variable{P:Program}{f:FuncId}
section
def HU{α}{p:α→Bool}:∀(l:List α),(∀i j (hj:j<l.length) (hi:i<j),p l[j]=true→p (l[i]'(by omega))=true)→∀i (hi:i<l.length),p l[i]=true↔i<(l.takeWhile p).length
 |[],_,i,hi=>absurd hi (XP i)
 |a::l,h,i,hi=>by
  have ih:=HU l (fun i j hj hi hp=>h (i+1) (j+1) (by simp;omega) (by omega) hp);by_cases ha:p a=true
  ·rw[List.takeWhile_cons_of_pos ha,Xv];cases i with
   |zero=>simp[ha]
   |succ i=>rw[List.getElem_cons_succ,ih i (by simpa using hi)];omega
  ·rw[List.takeWhile_cons_of_neg ha];cases i with
   |zero=>simp[ha]
   |succ i=>
    constructor
    ·intro hp;exact absurd (h 0 (i+1) hi (by omega) hp) ha
    ·intro hlt;simp at hlt
def Bq(ks:List (List UInt8))(k:List UInt8):Nat:=(ks.takeWhile fun x=>Op.bytesLess x k).length
def HY(ks:List (List UInt8))(k:List UInt8):Bq ks k≤ks.length:=by
 have:=congrArg Yw (List.takeWhile_append_dropWhile (p:=fun x=>Op.bytesLess x k) (l:=ks));rw[Xl] at this;simp only[Bq];omega
def M4{ks}(h:rising ks=true){i:Nat}(hi:i+1<ks.length):Op.bytesLess ks[i] ks[i+1]=true:=by
 by_cases hb:E2 ks (i+1)=true
 ·rw[HM hi,Xg] at hb;exact hb.2
 ·rw[rising,EW (by simpa using hb) hi] at h;cases h
def Gx{ks}(h:rising ks=true):∀{j i:Nat}(hj:j<ks.length) (hi:i<j),Op.bytesLess (ks[i]'(by omega)) ks[j]=true:=by
 intro j;induction j with
 |zero=>intro i _ hi;omega
 |succ j ih=>
  intro i hj hi
  by_cases e:i=j
  ·subst e;exact M4 h hj
  ·exact Kw (ih (by omega) (by omega)) (M4 h hj)
def KC{ks}(h:rising ks=true)(k:List UInt8)(i:Nat)(hi:i<ks.length):Op.bytesLess ks[i] k=true↔i<Bq ks k:=
 HU (p:=fun x=>Op.bytesLess x k) ks (fun i j hj hi hp=>Kw (Gx h hj hi) hp) i hi
def VF{ks}(h:rising ks=true){k}{i:Nat}(hi:i<ks.length)(e:ks[i]=k):Bq ks k=i:=by
 have h1:¬i<Bq ks k:=by rw[←KC h k i hi,e,FW];simp
 by_cases h2:Bq ks k<i
 ·have h3:=Gx h hi h2;rw[e] at h3;have:=(KC h k (Bq ks k) (by omega)).1 h3;omega
 ·omega
def mem_iff{ks}(h:rising ks=true){k}:k∈ks↔∃hi:Bq ks k<ks.length,ks[Bq ks k]=k:=by
 constructor
 ·intro hm;obtain⟨i,hi,e⟩:=X7 hm;have:=VF h hi e;subst this;exact⟨hi,e⟩
 ·rintro⟨hi,e⟩;rw[←e];exact Xh hi
section
variable {P:Program}{pan:List PanicEntry→AT}{Qn:Env→AT}{Ls L:List Ae}{ρ:Env}{d:Ae}{s:GS}{t:Nat}{tk:Bool}
def Jn{x y k'}{a:Int}(ex:ev ρ x=.int .u64 a)(ey:ev ρ y=.int k' 1)(h0:0≤a)(h1:a≤9223372036854775807)(h:gws P pan Qn s Ls (upd ρ t (.int .u64 (a / 2))) d L):
  gws P pan Qn (.op tk ⟨some t,none,.bin .shr x y⟩ s) Ls ρ d L:=by
 refine Dh ?_ h
 rw[ex,ey]
 simp[CR,IntKind.bits,Int.fdiv_eq_ediv_of_nonneg]
end
end
structure St where
 kind:Int
 text:List UInt8
 src:Int
 dst:Int
 hf:Bool
 ht:Bool
def RSt(_:Ae)(cs:List Value)(s:St):Prop:=cs=[vZ s.kind,Al s.text,vZ s.src,vZ s.dst,.bool s.hf,.bool s.ht]∧I64 s.kind∧s.text.length≤140737488355328∧I64 s.src∧I64 s.dst
def Gz:DN RSt:=fun _ _ _ h=>by obtain⟨rfl,_⟩:=h;rfl
def Cp:HK RSt:=fun _ h=>h
def BG(n k:Int):Int:=if n<0 then n+k else n
def HJ(n k:Int):Int:=max 0 (min k (BG n k))
def A5(s:St)(k:Int):Int×Int:=
 let a:=if s.hf then HJ s.src k else 0
 let b:=if s.ht then HJ s.dst k else k
 (a,max a b)
def EE(s:St){k:Int}(hk:0≤k):0≤(A5 s k).1∧(A5 s k).1≤(A5 s k).2∧(A5 s k).2≤k:=by
 simp only[A5,HJ];split<;>split<;>omega
def Gr(P:Program)(f:FuncId):Prop:=∀{d}{n k:Int},I64 n→0≤k→k≤140737488355328→AG P f [vZ n,vZ k] d (vZ (BG n k))
def NC:A0:=⟨11,[(.tmp 4)],(sR (o1 4 (.mv z0) .done) (.seq (sR (om 5 0<|ob 6 .lss 5 z0 .done) (.cond 6 (sR (om 7 0<|om 8 1<|ob 9 .add 7 8<|om 4 9 .done) .ret) .skip)) (sR (om 10 0<|om 4 10 .done) .ret)))⟩
def Tf(hd:dec P f=some NC):Gr P f:=by
 intro d n k ⟨hn1,hn2⟩ hk1 hk2;refine AG.of' hd (No rfl) ?_;show gwp P _ _ _ _ _;by_cases h:n<0
 ·(refine Ac<|Ab rfl<|Aa<|Ah<|Ac<|Ab rfl<|Av rfl rfl<|Aa<|Au rfl (by omega)<|Ac<|Ab rfl<|Ab rfl<|AI rfl rfl (by omega) (by omega)<|Ab rfl<|Aa<|Aq ?_);apply Dt;rfl;rw[BG,if_pos h]
 ·(refine Ac<|Ab rfl<|Aa<|Ah<|Ac<|Ab rfl<|Av rfl rfl<|Aa<|An rfl (by omega)<|Ao<|Ac<|Ab rfl<|Ab rfl<|Aa<|Aq ?_);apply Dt;rfl;rw[BG,if_neg h]
def Jf(P:Program)(f:FuncId):Prop:=∀{d cs}{s:St}{k:Int},RSt d cs s→0≤k→k≤140737488355328→AG P f [.agg cs.toArray,vZ k] d (.tuple #[vZ (A5 s k).1,vZ (A5 s k).2])
def Oo(a0:Nat):A0:=⟨31,[(.tmp 4),(.tmp 5)],(sR (o1 2 (.box 0)<|o1 4 (.mv z0)<|o1 5 (.mv z0) .done) (sR (om 8 1<|o1 6 (.mv z0)<|om 7 8 .done) (.seq (sR (oj 9 4 2<|ol 10 9 .done) (.cond 10 (rG (om 11 1<|oj 12 2 2<|ol 13 12<|om 14 1<|oc 15 a0 [13,14]<|o1 16 (.mn2 11 15)<|o1 17 (.mx2 z0 16)<|om 6 17 .done)) .skip)) (.seq (sR (oj 18 5 2<|ol 19 18 .done) (.cond 19 (rG (om 20 1<|oj 21 3 2<|ol 22 21<|om 23 1<|oc 24 a0 [22,23]<|o1 25 (.mn2 20 24)<|o1 26 (.mx2 z0 25)<|om 7 26 .done)) .skip)) (sR (om 27 6<|om 28 6<|om 29 7<|o1 30 (.mx2 28 29)<|om 4 27<|om 5 30 .done) .ret)))))⟩
def Vr{f1}(hd:dec P f=some (Oo f1))(h1:Gr P f1):Jf P f:=by
 intro d cs s k ⟨hcs,ik,it,is,id⟩ hk1 hk2;subst hcs;refine AG.of' hd (No rfl) ?_;show gwp P _ _ _ _ _;apply Ah;apply Ax;refine AR (l:=[vZ s.kind,Al s.text,vZ s.src,vZ s.dst,.bool s.hf,.bool s.ht]) rfl (fun b2 T2=>?_);cases hf:s.hf with
 |true=>
  cases ht:s.ht with
  |true=>
   (refine Ab rfl<|Ab rfl<|Aa<|Ac<|Ab rfl<|Ab rfl<|Ab rfl<|Aa<|Ah<|Ac<|Ag rfl<|Ai rfl (Ak 0 rfl rfl)<|Aa<|Bd rfl<|Ax<|Ab rfl<|Ag rfl<|Ai rfl (Ak 0 rfl rfl)<|Ab rfl ?_)
   refine AD rfl (h1 is hk1 hk2) ?_
   (refine NQ rfl rfl<|Hu rfl rfl<|Ab rfl<|Aa<|Ah<|Ac<|Ag rfl<|Ai rfl (Ak 0 rfl rfl)<|Aa<|Bd rfl<|Ax<|Ab rfl<|Ag rfl<|Ai rfl (Ak 0 rfl rfl)<|Ab rfl ?_)
   refine AD rfl (h1 id hk1 hk2) ?_
   (refine NQ rfl rfl<|Hu rfl rfl<|Ab rfl<|Aa<|Ac<|Ab rfl<|Ab rfl<|Ab rfl<|Hu rfl rfl<|Ab rfl<|Ab rfl<|Aa<|Aq ?_)
   refine Cu (by simp[A5,HJ,hf];rfl) (by simp[A5,HJ,hf,ht];rfl)
  |false=>
   (refine Ab rfl<|Ab rfl<|Aa<|Ac<|Ab rfl<|Ab rfl<|Ab rfl<|Aa<|Ah<|Ac<|Ag rfl<|Ai rfl (Ak 0 rfl rfl)<|Aa<|Bd rfl<|Ax<|Ab rfl<|Ag rfl<|Ai rfl (Ak 0 rfl rfl)<|Ab rfl ?_)
   refine AD rfl (h1 is hk1 hk2) ?_
   (refine NQ rfl rfl<|Hu rfl rfl<|Ab rfl<|Aa<|Ah<|Ac<|Ag rfl<|Ai rfl (Ak 0 rfl rfl)<|Aa<|AJ rfl<|Ao<|Ac<|Ab rfl<|Ab rfl<|Ab rfl<|Hu rfl rfl<|Ab rfl<|Ab rfl<|Aa<|Aq ?_)
   refine Cu (by simp[A5,HJ,hf];rfl) (by simp[A5,HJ,hf,ht];rfl)
 |false=>
  cases ht:s.ht with
  |true=>
   (refine Ab rfl<|Ab rfl<|Aa<|Ac<|Ab rfl<|Ab rfl<|Ab rfl<|Aa<|Ah<|Ac<|Ag rfl<|Ai rfl (Ak 0 rfl rfl)<|Aa<|AJ rfl<|Ao<|Ah<|Ac<|Ag rfl<|Ai rfl (Ak 0 rfl rfl)<|Aa<|Bd rfl<|Ax<|Ab rfl<|Ag rfl<|Ai rfl (Ak 0 rfl rfl)<|Ab rfl ?_)
   refine AD rfl (h1 id hk1 hk2) ?_
   (refine NQ rfl rfl<|Hu rfl rfl<|Ab rfl<|Aa<|Ac<|Ab rfl<|Ab rfl<|Ab rfl<|Hu rfl rfl<|Ab rfl<|Ab rfl<|Aa<|Aq ?_)
   refine Cu (by simp[A5,HJ,hf];rfl) (by simp[A5,HJ,hf,ht];rfl)
  |false=>
   (refine Ab rfl<|Ab rfl<|Aa<|Ac<|Ab rfl<|Ab rfl<|Ab rfl<|Aa<|Ah<|Ac<|Ag rfl<|Ai rfl (Ak 0 rfl rfl)<|Aa<|AJ rfl<|Ao<|Ah<|Ac<|Ag rfl<|Ai rfl (Ak 0 rfl rfl)<|Aa<|AJ rfl<|Ao<|Ac<|Ab rfl<|Ab rfl<|Ab rfl<|Hu rfl rfl<|Ab rfl<|Ab rfl<|Aa<|Aq ?_)
   refine Cu (by simp[A5,HJ,hf];rfl) (by simp[A5,hf,ht];rfl)
def JX(P:Program)(f:FuncId):Prop:=∀{d l},AG P f [Al l] d (.bool false)
def H9:A0:=⟨6,[(.tmp 2)],(sR (o1 2 (.mv (.const (.bool false))) .done) (sR (om 3 0<|om 4 0<|ob 5 .neq 3 4<|om 2 5 .done) .ret))⟩
def G6(hd:dec P f=some H9):JX P f:=by
 intro d l;refine AG.of' hd (No rfl) ?_;show gwp P _ _ _ _ _;(refine Ac<|Ad rfl<|Aa<|Ac<|Bj rfl<|Bj rfl<|CO rfl rfl<|Ad rfl<|Aa<|Aq ?_);apply A1;rfl;simp
def Jv:A0:=⟨6,[(.tmp 2)],(sR (o1 2 (.mv (.const (.bool false))) .done) (sR (om 3 0<|om 4 0<|ob 5 .neq 3 4<|om 2 5 .done) .ret))⟩
def IW(hd:dec P f=some Jv):JX P f:=by
 intro d l;refine AG.of' hd (No rfl) ?_;show gwp P _ _ _ _ _;(refine Ac<|Ad rfl<|Aa<|Ac<|Bj rfl<|Bj rfl<|CO rfl rfl<|Ad rfl<|Aa<|Aq ?_);apply A1;rfl;simp
def N0(P:Program)(f:FuncId):Prop:=∀{d l k},AG P f [Al l,Al k] d (.bool (Op.bytesLess l k))
def Ka(a0:Nat):A0:=⟨17,[(.tmp 4)],(sR (o1 4 (.mv (.const (.bool false))) .done) (sR (om 5 0<|oc 6 a0 [5]<|om 7 6<|gT 8 7 1<|oT 9 7 (.call a0 [8])<|oT 10 7 (.un .not 9)<|gP 11 7 10<|om 12 11<|gF 13 12 0<|gF 14 12 1<|oF 15 12 (.bin .lss 13 14)<|o1 16 (.pick 12 (.const (.bool true)) 15)<|om 4 16 .done) .ret))⟩
def VI{f1}(hd:dec P f=some (Ka f1))(h1:JX P f1):N0 P f:=by
 intro d l k;refine AG.of' hd (No rfl) ?_;show gwp P _ _ _ _ _;(refine Ac<|Ad rfl<|Aa<|Ac<|Bj rfl ?_);refine AD rfl h1 ?_;(refine Ad rfl<|Aj rfl<|Aj rfl<|Aj rfl<|Am rfl rfl<|Ad rfl<|Af rfl<|Bj rfl<|Af rfl<|Bj rfl<|Af rfl<|WS rfl rfl<|Am rfl rfl<|Ad rfl<|Aa<|Aq ?_);apply A1;rfl;rfl
def GG(P:Program)(f:FuncId):Prop:=∀{d v ks k},B9 d v ks→rising ks=true→AG P f [v,Al k] d (.tuple #[vZ (Bq ks k),.bool (decide (k∈ks))])
def EF(a0 a1:Nat):A0:=⟨54,[(.tmp 4),(.tmp 5)],(sR (o1 4 (.mv z0)<|o1 5 (.mv (.const (.bool false))) .done) (sR (om 10 0<|oL 11 10<|om 6 11 .done) (sR (om 12 6<|o1 7 (.mv z0)<|om 8 12 .done) (.seq (.block 0 (.loop (.seq (sR (om 13 7<|om 14 8<|ob 15 .lss 13 14 .done) (.cond 15 .skip (.exit 0))) (.block 1 (sR (om 16 7<|om 17 8<|ob 18 .add 16 17<|o1 19 (.cvi .u64 18)<|ob 20 .shr 19 (.const (.int .u64 1))<|o1 21 (.cvi .i64 20)<|om 9 21 .done) (sR (om 22 0<|om 23 9<|oI 24 1 22 23<|ol 25 24<|om 26 1<|oc 27 a0 [25,26] .done) (.cond 27 (rG (om 28 9<|ob 29 .add 28 z1<|om 7 29 .done)) (rG (om 30 9<|om 8 30 .done))))))))) (sR (om 31 7<|om 32 7<|om 33 6<|ob 34 .lss 32 33<|om 35 34<|gT 36 35 0<|gT 37 35 7<|oT 38 35 (.idx 1 36 37)<|oT 39 35 (.ld none 38)<|gT 40 35 1<|oT 41 35 (.bin .eql 39 40)<|gT 42 35 41<|gF 43 42 0<|gF 44 42 7<|oF 45 42 (.idx 1 43 44)<|oF 46 42 (.ld none 45)<|oF 47 42 (.call a1 [46])<|gF 48 42 47<|gT 49 48 1<|oT 50 48 (.call a1 [49])<|oF 51 42 (.pick 48 50 (.const (.bool false)))<|oT 52 35 (.pick 42 (.const (.bool true)) 51)<|gP 53 35 52<|om 4 31<|om 5 53 .done) .ret)))))⟩
def RC{f1 f2}(hd:dec P f=some (EF f1 f2))(h1:N0 P f1)(h2:JX P f2):GG P f:=by
 intro d v ks k hv hr;have n1:=RSl.A2 hv;have hll:=HY ks k;obtain⟨a,c,rfl⟩:=RSl.val hv;have hv':RSl 1 Bk d (.slice a ks.length c) ks:=hv;refine AG.of' hd (No rfl) ?_;show gwp P _ _ _ _ _;(refine Ac<|Ab rfl<|Ad rfl<|Aa<|Ac<|Ar rfl<|Ay rfl<|Ab rfl<|Aa<|Ac<|Ab rfl<|Ab rfl<|Ab rfl<|Aa<|Ah<|As ?_);refine Dy (α:=Nat×Nat) (fun x=>[(0,.slice a ks.length c),(1,Al k),(6,vZ ks.length),(7,vZ x.1),(8,vZ x.2)]) (fun _=>[]) (fun x=>x.1≤Bq ks k∧Bq ks k≤x.2∧x.2≤ks.length) (fun x=>x.2 - x.1) (0,ks.length)
  ⟨rfl,rfl,rfl,rfl,rfl,trivial⟩ rfl ⟨Xw _,hll,Xq _⟩ ?_
 rintro⟨lo,hi⟩ ρ ⟨k1,k2,k3⟩;simp only at k1 k2 k3;by_cases hc:lo<hi
 ·obtain⟨m,hm⟩:∃m,m=(lo+hi) / 2:=⟨_,rfl⟩
  have hmv:((lo:Int)+hi) % 18446744073709551616 / 2=m:=by omega
  (refine Ah<|Ac<|Ab rfl<|Ab rfl<|Av rfl rfl<|Aa<|Au rfl (by omega)<|Ao<|As<|Ac<|Ab rfl<|Ab rfl<|AI rfl rfl (by omega) (by omega)<|Fg rfl ?_);refine Jn rfl rfl (by omega) (by omega) ?_;(refine EI rfl (by omega) (by omega)<|Ab rfl<|Aa<|Ac<|Ar rfl<|Ab rfl ?_);refine AN (sz:=1) (R:=Bk) (m:=m) (by rfl) hv' (by rfl) hmv (by omega) ?_;rintro _ _ _ _ _ ⟨rfl,_⟩;(refine Ai rfl (Bb (by assumption) rfl)<|Bj rfl ?_);refine AD rfl h1 ?_;have hm':m<ks.length:=by omega
  have hsp:=KC hr k m hm';cases hb:Op.bytesLess ks[m] k with
  |true=>
   have:=hsp.1 hb
   (refine Aa<|Bd rfl<|Ax<|Ab rfl<|AI rfl rfl (by omega) (by omega)<|Ab rfl<|Aa ?_)
   exact⟨(m+1,hi),by simp only;omega,⟨rfl,rfl,rfl,int_eq (by simp only;omega),rfl,trivial⟩,rfl,rfl,by simp only;omega,k2,k3⟩
  |false=>
   have:¬m<Bq ks k:=fun h=>by rw[hsp.2 h] at hb;cases hb
   (refine Aa<|AJ rfl<|Ax<|Ab rfl<|Ab rfl<|Aa ?_)
   exact⟨(lo,m),by simp only;omega,⟨rfl,rfl,rfl,rfl,int_eq (by simp only;omega),trivial⟩,rfl,rfl,k1,by simp only;omega,by simp only;omega⟩
 obtain rfl:hi=lo:=by omega
 have hlo:hi=Bq ks k:=by omega
 by_cases h6:hi<ks.length
 ·by_cases h7:ks[hi]=k
  ·have hmem:k∈ks:=by rw[←h7];exact Xh h6
   (refine Ah<|Ac<|Ab rfl<|Ab rfl<|Av rfl rfl<|Aa<|An rfl (by omega)<|AU<|Ac<|Ab rfl<|Ab rfl<|Ab rfl<|Av rfl rfl<|Ad rfl<|AF rfl (by omega)<|Af rfl<|Ar rfl<|Af rfl<|Ab rfl<|Af rfl<|AN (sz:=1) (R:=Bk) (by rfl) (by assumption) (by rfl) rfl (by omega) ?_;rintro _ _ _ _ _ ⟨rfl,_⟩;refine Af rfl<|Ai rfl (Bb (by assumption) rfl)<|Af rfl<|Bj rfl<|Af rfl<|FE rfl rfl<|Af rfl<|Ad rfl<|AF rfl (by omega)<|Aj rfl<|Aj rfl<|Aj rfl<|Aj rfl<|Aj rfl<|Aj rfl<|AX rfl<|AX rfl<|Aj rfl<|Af rfl<|Ap rfl rfl<|Ap rfl rfl<|Ab rfl<|Ad rfl<|Aa<|Aq ?_);refine Cu (by rw[←hlo];rfl) (by rw[decide_eq_true hmem];rfl)
  ·have hmem:¬k∈ks:=fun h=>by
    obtain⟨_,e⟩:=(mem_iff hr).1 h;subst hlo;exact h7 e
   (refine Ah<|Ac<|Ab rfl<|Ab rfl<|Av rfl rfl<|Aa<|An rfl (by omega)<|AU<|Ac<|Ab rfl<|Ab rfl<|Ab rfl<|Av rfl rfl<|Ad rfl<|AF rfl (by omega)<|Af rfl<|Ar rfl<|Af rfl<|Ab rfl<|Af rfl<|AN (sz:=1) (R:=Bk) (by rfl) (by assumption) (by rfl) rfl (by omega) ?_;rintro _ _ _ _ _ ⟨rfl,_⟩;refine Af rfl<|Ai rfl (Bb (by assumption) rfl)<|Af rfl<|Bj rfl<|Af rfl<|FE rfl rfl<|Af rfl<|Ad rfl<|Az rfl (by omega)<|Af rfl<|Ar rfl<|Af rfl<|Ab rfl<|Af rfl<|AN (sz:=1) (R:=Bk) (by rfl) (by assumption) (by rfl) rfl (by omega) ?_;rintro _ _ _ _ _ ⟨rfl,_⟩;refine Af rfl<|Ai rfl (Bb (by assumption) rfl)<|Af rfl ?_);refine AD rfl h2 ?_;(refine Af rfl<|Ad rfl<|Aj rfl<|Aj rfl<|Af rfl<|Am rfl rfl<|Af rfl<|Am rfl rfl<|Ap rfl rfl<|Ab rfl<|Ad rfl<|Aa<|Aq ?_);refine Cu (by rw[←hlo];rfl) (by rw[decide_eq_false hmem];rfl)
 ·have hmem:¬k∈ks:=fun h=>by
   obtain⟨h',e⟩:=(mem_iff hr).1 h;omega
  (refine Ah<|Ac<|Ab rfl<|Ab rfl<|Av rfl rfl<|Aa<|An rfl (by omega)<|AU<|Ac<|Ab rfl<|Ab rfl<|Ab rfl<|Av rfl rfl<|Ad rfl<|Az rfl (by omega)<|Aj rfl<|Aj rfl<|Aj rfl<|Aj rfl<|Aj rfl<|Aj rfl<|Aj rfl<|AX rfl<|AX rfl<|AX rfl<|AX rfl<|AX rfl<|AX rfl<|AX rfl<|AX rfl<|AX rfl<|Aj rfl<|Am rfl rfl<|Ab rfl<|Ad rfl<|Aa<|Aq ?_);refine Cu (by rw[←hlo];rfl) (by rw[decide_eq_false hmem];rfl)
end Go.Gk.Val
end
section
namespace Go.Gk.Val
open Go Go.Gk Go.Gk.Utf
variable{v:V}
def Jj{ks}:∀{m:Nat},Dv ks m=true↔∀i,i<m→E2 ks i=true
 |0=>by simp[Dv]
 |m+1=>by
  rw[Dv,Xg,Jj];constructor
  ·rintro⟨h1,h2⟩ i hi;rcases Nat.lt_succ_iff_lt_or_eq.1 hi with h|rfl
   ·exact h1 i h
   ·exact h2
  ·intro h;exact⟨fun i hi=>h i (by omega),h m (by omega)⟩
abbrev TM(ks:List (List UInt8)):Prop:=ks.Pairwise fun a b=>Op.bytesLess a b=true
def LP{ks}:rising ks=true↔(∀k∈ks,u8 k=true)∧TM ks:=by
 constructor
 ·intro h;refine⟨fun k hk=>?_,?_⟩
  ·obtain⟨i,hi,rfl⟩:=X7 hk;have:=Jj.1 h i hi;rw[E2,Xg] at this;simpa [Y1,hi] using this.1
  ·rw[TM,YF];intro i j hi hj hij;exact Gx h hj hij
 ·rintro⟨h1,h2⟩;rw[TM,YF] at h2;refine Jj.2 fun i hi=>?_;rw[E2,Xg];refine⟨by simpa [Y1,hi] using h1 _ (Xh hi),?_⟩
  cases i with
  |zero=>rfl
  |succ i=>
   have:=h2 i (i+1) (by omega) hi (by omega)
   have hi':i<ks.length:=by omega
   simpa [Y1,hi,hi'] using this
def OK:∀{ks k}{j:Nat}(_:j<Bq ks k) (hj:j<ks.length),Op.bytesLess ks[j] k=true
 |[],_,_,_,hj=>absurd hj (XP _)
 |a::ks,k,j,h,hj=>by
  unfold Bq at h;rw[List.takeWhile_cons] at h;by_cases e:Op.bytesLess a k=true
  ·rw[if_pos e,Xv] at h;cases j with
   |zero=>exact e
   |succ j=>exact OK (ks:=ks) (by unfold Bq;omega) (by simpa using hj)
  ·rw[if_neg e] at h;exact absurd h (XP _)
def Pd:∀{ks k}(hj:Bq ks k<ks.length),Op.bytesLess ks[Bq ks k] k=false
 |[],_,hj=>absurd hj (XP _)
 |a::ks,k,hj=>by
  by_cases e:Op.bytesLess a k=true
  ·have h0:Bq (a::ks) k=Bq ks k+1:=by unfold Bq;rw[List.takeWhile_cons,if_pos e,Xv]
   have hj':Bq ks k<ks.length:=by rw[h0] at hj;simpa using hj
   have:=Pd hj';simp only[h0,List.getElem_cons_succ];exact this
  ·have h0:Bq (a::ks) k=0:=by unfold Bq;rw[List.takeWhile_cons,if_neg e];rfl
   simp only[h0,List.getElem_cons_zero];simpa using e
def Cv(h:Bc v=true):BK v=true:=by rw[DS,Xg] at h;exact h.1
def Ci{x:V}(h:Bc v=true)(hx:x∈v.list):Bc x=true:=by rw[DS,Xg,Xj] at h;exact h.2 x hx
def OF{l:List V}(h:∀x∈l,Bc x=true):Bc (.mk 5 0 0 [] l [])=true:=by
 rw[DS,Xg,Xj];exact⟨by simp[BK,BL,V.kind,V.m,V.e,V.text,V.list,V.keys,Bg,u8,Lib.validD_nil,rising,Dv],h⟩
def Qb{l:List V}{ks}(hr:rising ks=true)(hl:ks.length=l.length)(h:∀x∈l,Bc x=true):Bc (.mk 6 0 0 [] l ks)=true:=by
 rw[DS,Xg,Xj];refine⟨?_,h⟩
 simp[BK,BL,V.kind,V.m,V.e,V.text,V.list,V.keys,Bg,u8,Lib.validD_nil];exact⟨hr,hl⟩
def BU:AP v=0↔Bc v=true∧Bh v≤48:=by
 unfold AP;constructor
 ·intro h;by_cases h1:Bh v≤48
  ·rw[if_pos h1] at h;by_cases h2:Bc v=true
   ·exact⟨h2,h1⟩
   ·rw[if_neg h2] at h;cases h
  ·rw[if_neg h1] at h;cases h
 ·rintro⟨h1,h2⟩;rw[if_pos h2,if_pos h1]
def A3:I64 0:=⟨by decide,by decide⟩
def UP:I64 4:=⟨by decide,by decide⟩
def EZ:I64 5:=⟨by decide,by decide⟩
def JW:I64 6:=⟨by decide,by decide⟩
abbrev Cm:List Value:=[.int .i64 0,.int .i64 0,.int .i64 0,Al [],.slice none 0 0,.slice none 0 0]
def Bx{ρ d L}{b t u:Nat}{T cs}{w:V}{e:Int}(i:Nat)(e4:ρ t=pZ b)(hi:L[i]?=some (bx b T cs))(e5:ρ u=vZ e)(hw:Aw d cs w):
  Ch [.cell t (some 6),.tmp u] (Ret fun r d' L'=>L'=[]∧∃cs',r=.tuple #[.agg cs'.toArray,vZ e]∧Aw d' cs' w) ρ d L:=
 B8 (L':=[]) [.agg cs.toArray,vZ e] ⟨A4 i e4 hi (Aw.len hw),AZ e5,trivial⟩ (Xm _) ⟨rfl,cs,rfl,hw⟩
end Go.Gk.Val
end
