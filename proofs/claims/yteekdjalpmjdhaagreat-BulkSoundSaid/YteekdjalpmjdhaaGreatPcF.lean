/-
  Our own texts, one behind the other: GkTr2 GkTr4 GkTr5 GkTrS GkTr6 GkTr7 Gk41 GkTrK GkTrQ GkTrF GkTr8 GkTrG GkTrP GkTrR Gk44 Gk20 Gk25 Gk45 GkTrT GkH6 GkH7 GkH8 GkTU GkTV GkTW GkTX GkWA GkWB GkWC.
-/
import Derived.Below
import Derived.Shelf.Unicode.DecodeSlow
import Derived.Shelf.Sort.Plain
import Derived.Shelf.Slices.In.SortNone
import Derived.Test.YteekdjalpmjdhaaGreatPcE
set_option linter.defProp false
set_option linter.unusedVariables false
set_option linter.unusedSimpArgs false
open List.Sublist renaming refl→Afa
open Bool renaming and_eq_true→Afb,false_eq_true→Afh,or_eq_true→Agl,not_eq_true→Ahx,true_and→Ais,not_eq_false'→Aiv,false_ne_true→Aks
open List renaming getElem?_eq_getElem→Afc,getD_eq_getElem?_getD→Afd,append_assoc→Afg,perm_append_comm→Afi,mem_append→Afj,length_append→Afk,eq_nil_of_length_eq_zero→Afl,mem_cons_self→Afn,length_drop→Afo,length_cons→Afq,mem_cons_of_mem→Afr,all_eq_true→Afs,length_take→Aft,replicate→Afu,mem_cons→Afv,mem_singleton→Afz,mem_append_left→Aga,getElem_mem→Agb,mem_append_right→Agc,length_set→Agg,nil_append→Agh,perm_middle→Agi,append_nil→Agj,length_replicate→Agk,nil_sublist→Agp,take_of_length_le→Agt,sublist_append_right→Agv,getElem?_append_left→Agx,cons_append→Agy,take_length→Agz,getElem?_append_right→Ahb,getElem_of_mem→Ahe,getD_cons_succ→Ahw,take_append_of_le_length→Ahy,drop_of_length_le→Aia,getD_cons_zero→Aid,exists_cons_of_ne_nil→Aii,pairwise_iff_getElem→Ail,drop_append_of_le_length→Aiw,getD→Aix,mem_of_mem_drop→Ajk,takeWhile_append_dropWhile→Ajn,nodup_nil→Ajs,mem_of_mem_take→Ake,drop_append→Aki
open Nat renaming le_refl→Afe,le_of_ble_eq_true→Aff,zero_le→Agd,succ_ne_zero→Ahi,min_eq_left→Aka
open List.Perm renaming cons→Afm,swap→Afx,refl→Agq,append_right→Ahz
open Option renaming getD_some→Aif
open Int renaming toNat_natCast→Aja
section
namespace Go.Gk.Tre
open Go Go.Gk Go.Gk.Dev Go.Gk.Cch Go.Gk.Pgr Go.Gk.Chn Go.Gk.Node
attribute [local irreducible] gwp gws xwp
variable{f f1:FuncId}
def IM(P:Program)(f:FuncId):Prop:=∀{d}{bt pb:Nat}{Tt}{r h c:Int}{L},Ea P f [pZ bt] d (tb bt Tt (pZ pb) r h c::L) (.bool false)
def O5:A9:=⟨12,[(.tmp 2)],(sR (o1 2 (.mv (.const (.bool false))) .done) (sR (om 3 0<|o1 4 (.eqp false 3 (.const (.pointer none)))<|om 5 4<|gF 6 5 0<|oF 7 5 (.nilc 6)<|oF 8 5 (.fld 0 7)<|oF 9 5 (.ld none 8)<|oF 10 5 (.eqp false 9 (.const (.pointer none)))<|o1 11 (.pick 5 (.const (.bool true)) 10)<|om 2 11 .done) .ret))⟩
def Aa9{P}(hd:dec P f=some O5):IM P f:=by
 intro d bt pb Tt r h c L;refine Bj hd<|Ak<|AV Z<|A3 Z<|CG Z Z<|Ad Z<|Ac Z<|Ag Z<|Ac Z<|Ap Z<|Ac Z<|Am Z<|Ac Z<|c_l Z Z Z<|Ac Z<|CG Z Z<|Aj Z Z<|Cc Z<|BZ Z (Afa _) ⟨Z,Z,Z⟩
def Kc(P:Program)(f:FuncId):Prop:=∀{d}{bt pb:Nat}{Tt}{r h c:Int}{w key L},Ay d w key→Ea P f [pZ bt,w] d (tb bt Tt (pZ pb) r h c::L) (vZ (Cl key))
def Pd(a0:Nat):A9:=⟨17,[(.tmp 4)],(sR (o1 4 (.mv z0) .done) (.seq (.block 0 (sR (om 6 0<|oc 7 a0 [6]<|om 5 7 .done) (.cond 5 (sR (o1 4 (.mv z1) .done) .ret) (sR (om 9 1<|oL 10 9<|ob 11 .lss 10 z1<|om 12 11<|gF 13 12 1<|oF 14 12 (.len 13)<|oF 15 12 (.bin .gtr 14 (kZ 64))<|o1 16 (.pick 12 (.const (.bool true)) 15)<|om 8 16 .done) (.cond 8 (sR (o1 4 (.mv z2) .done) .ret) .skip))))) (sR (o1 4 (.mv z0) .done) .ret)))⟩
def Ac0{P}(hd:dec P f=some (Pd f1))(h1:IM P f1):Kc P f:=by
 intro d bt pb Tt r h c w key L hw;refine Bj hd<|AE Z<|By<|Aq<|A3 Z<|B9 [] h1 Z Z ?_;by_cases e1:key.length<1
 ·have hk:Cl key=2:=by unfold Cl;rw[if_pos (.inl e1)]
  rw[hk];refine AV Z<|Cn Z<|Ak<|AK<|BX Z (by assumption)<|Au Z Z<|Ad Z<|Bx Z<|AQ Z Z<|BP Z<|As Z Z<|AV Z<|Er Z<|AE Z<|BJ<|BZ Z (Afa _) ⟨Z,Z,Z⟩
 ·by_cases e2:64<key.length
  ·have hk:Cl key=2:=by unfold Cl;rw[if_pos (.inr e2)]
   rw[hk];refine AV Z<|Cn Z<|Ak<|AK<|BX Z (by assumption)<|Au Z Z<|Ad Z<|Bs Z<|Ac Z<|AK<|Ac Z<|BX Z (by assumption)<|Ac Z<|Bu Z Z<|Aj Z Z<|AV Z<|B2 Z<|AE Z<|BJ<|BZ Z (Afa _) ⟨Z,Z,Z⟩
  ·have hk:Cl key=0:=by unfold Cl;rw[if_neg (by omega)]
   rw[hk];refine AV Z<|Cn Z<|Ak<|AK<|BX Z (by assumption)<|Au Z Z<|Ad Z<|Bs Z<|Ac Z<|AK<|Ac Z<|BX Z (by assumption)<|Ac Z<|Bu Z Z<|Aj Z Z<|AV Z<|BM Z<|AH<|AE Z<|BJ<|BZ Z (Afa _) ⟨Z,Z,Z⟩
def Kj(P:Program)(f:FuncId):Prop:=∀{d s dv pv L}{bt:Nat}{Tt}{r h c k:Int},Pg d s dv pv L→
 Ao P f [pZ bt,vZ k] d (tb bt Tt pv r h c::L) (Ret fun v d' L'=>Le d d'∧∃cs hk hv hi L2 tc,v=.tuple #[.agg cs.toArray,vZ (Bw s k).2]∧L'=hk::hv::hi::tb bt Tt pv r h c::L2∧
  Es d' cs (Bw s k).1 hk hv hi∧Pg d' {s with tc:=tc} dv pv L2∧((Bw s k).2=0→tc=s.tc+1))
def Pw(a0 a1:Nat):A9:=⟨25,[(.cell 4 (some 4)),(.tmp 5)],(sR (o1 4 (.alo (.agg #[(.bool false),nV,nV,nV]))<|o1 5 (.mv z0) .done) (sR (om 9 0<|o1 10 (.nilc 9)<|oj 11 0 10<|ol 12 11<|om 13 1<|oc 14 a0 [12,13]<|om 8 14<|oe 15 8 0<|oe 16 8 1<|om 6 15<|om 7 16 .done) (.seq (sR (om 17 7<|ob 18 .neq 17 z0 .done) (.cond 18 (sR (o1 19 (.bld [(0,1),(1,1),(2,1),(3,1)] [(.bool false),nV,nV,nV] [])<|om 20 7<|o0 (.st 4 4 19)<|om 5 20 .done) .ret) .skip)) (sR (om 21 6<|oc 22 a1 [21]<|oe 23 22 0<|oe 24 22 1<|o0 (.st 4 4 23)<|om 5 24 .done) .ret))))⟩
set_option maxRecDepth 4000 in
def AaJ{P f2}(hd:dec P f=some (Pw f1 f2))(h1:F4 P f1)(h2:Qo P f2):Kj P f:=by
 intro d s dv pv L bt Tt r h c k hp;obtain⟨bp,rfl⟩:=hp.ptr;refine Bj hd ?_;apply Aw;apply Av;refine DD (fun b4 T4=>?_);refine A7 Z<|Ag Z<|Ap Z<|Am Z<|Ah Z (AG 1 Z Z)<|Ab Z<|A0 [_,_] (h1.atT (k:=k) hp) Z Z (fun v d2 L2 hl ⟨a,q,tc,e1,hb,hp2,htc⟩=>?_);subst e1;by_cases hlv:BB s k
 ·rw[OZ hlv];rw[if_pos hlv] at htc;have hr:Bw s k=(Ev (s.bytes k),Ht (s.bytes k)):=by unfold Bw;rw[if_pos hlv]
  rw[hr];refine AO Z<|AW Z Z Z Z<|Ae Z<|AR Z<|Ab Z<|AJ Z Z<|AT Z<|Br Z<|Bz Z (h2 hb) (fun u d3 L3 hl3 ⟨q0,cs,q1,q2⟩=>?_);subst q0;subst q1;obtain⟨d4,hk,hv,hi,v1,v2,v3⟩:=Ej.AbI q2;have hcs:∃c1 c2 c3 c4,cs=[c1,c2,c3,c4]∧(cs.all (·.oneCell'))=true:=by
   obtain⟨kv,vv,iv,rfl,a1,a2,a3⟩:=v3;obtain⟨x1,x2,rfl⟩:=a1.val;obtain⟨y1,y2,rfl⟩:=a2.val;obtain⟨z1,z2,rfl⟩:=a3.val;exact⟨_,_,_,_,Z,Z⟩
  obtain⟨c1,c2,c3,c4,rfl,hc1⟩:=hcs;refine B1 _ _ (Vs.app v1 _)<|AW Z Z Z Z<|BA 3 Z Z Z Z (Afe _) hc1<|AS Z<|A6 [.agg [c1,c2,c3,c4].toArray,vZ (Ht (s.bytes k))] ⟨AY 3 Z Z Z,Af Z,trivial⟩ (d':=d4) (L':=hk::hv::hi::tb bt Tt (pZ bp) r h c::L2) (Vs.drop (.cons_cons _ (.cons_cons _ (.cons_cons _ (.cons _ (Afa _))))))
   ⟨hl.trans v2,_,hk,hv,hi,L2,tc,Z,Z,v3,hp2.mono v2,fun _=>htc⟩
 ·rw[(Ph hlv).1];rw[if_neg hlv] at htc;have hr:Bw s k=(IA,240):=by unfold Bw;rw[if_neg hlv]
  rw[hr];refine AO Z<|AW Z Z Z Z<|Ae Z<|AR Z<|Ab Z<|AJ Z Z<|A5 Z<|Ak<|BY Z<|Ab Z<|BA 0 Z Z Z Z (Afe _) Z<|AS Z<|A6 [.agg [.bool false,nV,nV,nV].toArray,vZ 240] ⟨AY 0 Z Z Z,Af Z,trivial⟩ (d':=d2) (L':=emp::emp::emp::tb bt Tt (pZ bp) r h c::L2)
   ((Vs.drop (.cons _ (Afa _))).trans (Vs.emp.trans (Vs.emp.trans Vs.emp)))
   ⟨hl,_,emp,emp,emp,L2,tc,Z,Z,Es.zero,hp2,fun q=>absurd q (by decide)⟩
def I7(P:Program)(f:FuncId):Prop:=∀{d s dv pv L}{bt:Nat}{Tt}{r h c k x:Int},Pg d s dv pv L→
 Ao P f [pZ bt,vZ k,vZ x] d (tb bt Tt pv r h c::L) (Ret fun v d' L'=>Le d d'∧∃cs hk hv hi L2 tc,v=.tuple #[.agg cs.toArray,vZ (AM s k x).2]∧L'=hk::hv::hi::tb bt Tt pv r h c::L2∧
  Es d' cs (AM s k x).1 hk hv hi∧Pg d' {s with tc:=tc} dv pv L2∧((AM s k x).2=0→tc=s.tc+1))
def Es.cells{d cs}{n:AB}{hk hv hi}(o:Es d cs n hk hv hi):∃ka kc va vc ia ic,cs=[.bool n.leaf,.slice ka n.keys.length kc,.slice va n.vals.length vc,.slice ia n.kids.length ic]:=by
 obtain⟨kv,vv,iv,rfl,a1,a2,a3⟩:=o;obtain⟨x1,x2,rfl⟩:=a1.val;obtain⟨y1,y2,rfl⟩:=a2.val;obtain⟨z1,z2,rfl⟩:=a3.val;exact⟨_,_,_,_,_,_,Z⟩
def NY(a0:Nat):A9:=⟨27,[(.cell 6 (some 4)),(.tmp 7)],(sR (o1 6 (.alo (.agg #[(.bool false),nV,nV,nV]))<|o1 7 (.mv z0) .done) (sR (om 11 0<|om 12 1<|oc 13 a0 [11,12]<|om 10 13<|oe 14 10 0<|oe 15 10 1<|o1 8 (.alo (.agg #[(.bool false),nV,nV,nV]))<|o0 (.st 4 8 14)<|om 9 15 .done) (.seq (sR (om 16 9<|ob 17 .eql 16 z0<|om 18 17<|oT 19 18 (.fld 0 8)<|oT 20 18 (.ld none 19)<|gT 21 18 2<|oT 22 18 (.bin .eql 21 z1)<|oT 23 18 (.eqb true 20 22)<|gP 24 18 23 .done) (.cond 24 (rG (o1 9 (.mv (kZ 200)) .done)) .skip)) (sR (o1 25 (.ld (some 4) 8)<|om 26 9<|o0 (.st 4 6 25)<|om 7 26 .done) .ret))))⟩
set_option maxRecDepth 4000 in
def ZC{P}(hd:dec P f=some (NY f1))(h1:Kj P f1):I7 P f:=by
 intro d s dv pv L bt Tt r h c k x hp;refine Bj hd ?_;apply Aw;apply Av;refine DD (fun b6 T6=>?_);refine A7 Z<|Ag Z<|Ab Z<|A0 [_] (h1 (k:=k) hp) Z Z (fun v d2 L2 hl ⟨_,cs,hk,hv,hi,L3,tc,e1,e2,hn,hp2,htc⟩=>?_);subst e1;subst e2;have hn0:=hn;obtain⟨ka,kc,va,vc,ia,ic,rfl⟩:=hn.cells;(refine AO Z<|AW Z Z Z Z<|B8 (fun _ _=>?_));rename_i b8 T8;refine BA 0 Z Z Z Z (Afe _) Z ?_;by_cases hz:(Bw s k).2=0
 ·by_cases hx:(Bw s k).1.leaf=decide (x=1)
  ·have hF:AM s k x=((Bw s k).1,0):=by unfold AM;rw[if_neg (fun q=>q.2 hx),hz]
   rw[hF,hz];have hxx:(true ^^((Bw s k).1.leaf==decide (x=1)))=false:=by rw[hx];simp
   (refine AR Z<|Ab Z<|AI Z Z<|Ad Z<|Bx Z<|Ac Z<|Am Z<|Ac Z<|c_l Z Z Z<|Ac Z<|Ab Z<|Ac Z<|AI Z Z<|Ac Z<|HV Z Z<|As Z Z<|An ?_;apply YQ;rfl;(with_reducible assumption);refine AH<|Ak<|Bk 0 Z Z Z<|Ab Z ?_);refine BA 1 Z Z Z Z (Afe _) Z<|AS Z<|A6 [.agg [.bool (Bw s k).1.leaf,.slice ka (Bw s k).1.keys.length kc,.slice va (Bw s k).1.vals.length vc,.slice ia (Bw s k).1.kids.length ic].toArray,vZ 0] ⟨AY 1 Z Z Z,Af Z,trivial⟩ (d':=d2) (L':=hk::hv::hi::tb bt Tt pv r h c::L3) (Vs.drop (.cons _ (.cons _ (Afa _)))) ⟨hl,_,hk,hv,hi,L3,tc,Z,Z,hn0,hp2,fun _=>htc hz⟩
  ·have hF:AM s k x=((Bw s k).1,200):=by unfold AM;rw[if_pos ⟨hz,hx⟩]
   rw[hF,hz];have hxx:(true ^^((Bw s k).1.leaf==decide (x=1)))=true:=by cases hb:(Bw s k).1.leaf<;>rw[hb] at hx<;>simp at hx⊢<;>omega
   (refine AR Z<|Ab Z<|AI Z Z<|Ad Z<|Bx Z<|Ac Z<|Am Z<|Ac Z<|c_l Z Z Z<|Ac Z<|Ab Z<|Ac Z<|AI Z Z<|Ac Z<|HV Z Z<|As Z Z<|An ?_;apply UB;rfl;(with_reducible assumption);refine Av<|A7 Z<|Bk 0 Z Z Z<|Ab Z ?_);refine BA 1 Z Z Z Z (Afe _) Z<|AS Z<|A6 [.agg [.bool (Bw s k).1.leaf,.slice ka (Bw s k).1.keys.length kc,.slice va (Bw s k).1.vals.length vc,.slice ia (Bw s k).1.kids.length ic].toArray,vZ 200] ⟨AY 1 Z Z Z,Af Z,trivial⟩ (d':=d2) (L':=hk::hv::hi::tb bt Tt pv r h c::L3) (Vs.drop (.cons _ (.cons _ (Afa _)))) ⟨hl,_,hk,hv,hi,L3,tc,Z,Z,hn0,hp2,fun q=>absurd (show(200:Int)=0 from q) (by decide)⟩
 ·have hF:AM s k x=((Bw s k).1,(Bw s k).2):=by unfold AM;rw[if_neg (fun q=>hz q.1)]
  rw[hF];refine AR Z<|Ab Z<|AI Z Z<|Ad Z<|Bs Z<|AQ Z Z<|AQ Z Z<|BP Z<|Aj Z Z<|Be Z<|Ak<|Bk 0 Z Z Z<|Ab Z<|BA 1 Z Z Z Z (Afe _) Z<|AS Z<|A6 [.agg [.bool (Bw s k).1.leaf,.slice ka (Bw s k).1.keys.length kc,.slice va (Bw s k).1.vals.length vc,.slice ia (Bw s k).1.kids.length ic].toArray,vZ (Bw s k).2] ⟨AY 1 Z Z Z,Af Z,trivial⟩ (d':=d2) (L':=hk::hv::hi::tb bt Tt pv r h c::L3) (Vs.drop (.cons _ (.cons _ (Afa _)))) ⟨hl,_,hk,hv,hi,L3,tc,Z,Z,hn0,hp2,htc⟩
def JM(P:Program)(f:FuncId):Prop:=∀{d w b},Ay d w b→Dj P f [w] d (.tuple #[vZ (if Fh b then(EX b:Int) else 0),vZ (if Fh b then(Ec b:Int) else 0),.bool (Fh b)])
def Ws:A9:=⟨46,[(.tmp 2),(.tmp 3),(.tmp 4)],(sR (o1 2 (.mv z0)<|o1 3 (.mv z0)<|o1 4 (.mv (.const (.bool false))) .done) (.seq (sR (om 5 0<|oL 6 5<|ob 7 .neq 6 (kZ 7)<|om 8 7<|gF 9 8 0<|oF 10 8 (.idx 1 9 z0)<|oF 11 8 (.ld none 10)<|oF 12 8 (.bin .neq 11 (.const (.int .u8 1)))<|o1 13 (.pick 8 (.const (.bool true)) 12) .done) (.cond 13 (sR (o1 2 (.mv z0)<|o1 3 (.mv z0)<|o1 4 (.mv (.const (.bool false))) .done) .ret) .skip)) (.seq (.reg true (pm 14 0<|p1 15 (.idx 1 14 z1)<|pl 16 15<|p1 17 (.cvi .i64 16)<|p1 18 (.bin .shl 17 (.const (.int .u64 8)))<|pm 19 0<|p1 20 (.idx 1 19 z2)<|pl 21 20<|p1 22 (.cvi .i64 21)<|p1 23 (.bin .or 18 22)<|pm 24 0<|p1 25 (.idx 1 24 (kZ 3))<|pl 26 25<|p1 27 (.cvi .i64 26)<|p1 28 (.bin .shl 27 (.const (.int .u64 24)))<|pm 29 0<|p1 30 (.idx 1 29 (kZ 4))<|pl 31 30<|p1 32 (.cvi .i64 31)<|p1 33 (.bin .shl 32 (.const (.int .u64 16)))<|p1 34 (.bin .or 28 33)<|pm 35 0<|p1 36 (.idx 1 35 (kZ 5))<|pl 37 36<|p1 38 (.cvi .i64 37)<|p1 39 (.bin .shl 38 (.const (.int .u64 8)))<|p1 40 (.bin .or 34 39)<|pm 41 0<|p1 42 (.idx 1 41 (kZ 6))<|pl 43 42<|p1 44 (.cvi .i64 43)<|p1 45 (.bin .or 40 44)<|pm 2 23<|pm 3 45<|p1 4 (.mv (.const (.bool true))) .done)) .ret)))⟩
def C5{b:List UInt8}{i:Nat}(h:i<b.length):b.getD i 0=b[i]:=by rw[Afd,Afc h];rfl
set_option maxRecDepth 4000 in
def XK{P:Program}{f:FuncId}(hd:dec P f=some Ws):JM P f:=by
 intro d w b hw;refine Bj hd ?_;by_cases h7:b.length=7
 ·have g0:=C5 (b:=b) (i:=0) (by omega);by_cases h1:b[0]'(by omega)=1
  ·have hF:Fh b=true:=by unfold Fh;rw[g0,h1,h7];rfl
   have hb0:(b[0]'(by omega)).toNat=1:=by rw[h1];rfl
   rw[hF];have l1:=UInt8.toNat_lt (b[1]'(by omega));have l2:=UInt8.toNat_lt (b[2]'(by omega));have l3:=UInt8.toNat_lt (b[3]'(by omega));have l4:=UInt8.toNat_lt (b[4]'(by omega));have l5:=UInt8.toNat_lt (b[5]'(by omega));have l6:=UInt8.toNat_lt (b[6]'(by omega));have eH:EX b=(b[1]'(by omega)).toNat*2 ^ 8+(b[2]'(by omega)).toNat:=by unfold EX;rw[C5 (i:=1) (by omega),C5 (i:=2) (by omega)]
   have eN:Ec b=(((b[3]'(by omega)).toNat*2 ^ 8+(b[4]'(by omega)).toNat)*2 ^ 8+(b[5]'(by omega)).toNat)*2 ^ 8+(b[6]'(by omega)).toNat:=by unfold Ec;rw[C5 (i:=3) (by omega),C5 (i:=4) (by omega),C5 (i:=5) (by omega),C5 (i:=6) (by omega)]
   rw[if_pos Z,if_pos Z,eH,eN];generalize e1:(b[1]'(by omega)).toNat=n1 at l1;generalize e2:(b[2]'(by omega)).toNat=n2 at l2;generalize e3:(b[3]'(by omega)).toNat=n3 at l3;generalize e4:(b[4]'(by omega)).toNat=n4 at l4;generalize e5:(b[5]'(by omega)).toNat=n5 at l5;generalize e6:(b[6]'(by omega)).toNat=n6 at l6;have e5':(b[4+1]'(by omega)).toNat=n5:=e5;have e6':(b[5+1]'(by omega)).toNat=n6:=e6;(refine AE Z<|Ab Z<|AV Z<|AZ<|AK<|BX Z (by assumption)<|AJ Z Z<|Ad Z<|Bs Z<|Ac Z<|AK<|Ac Z<|Bq (m:=0) (sz:=1) (R:=Ax) (by rfl) (by assumption) (by rfl) Z (by omega) ?_;rintro _ _ _ _ _ rfl;refine Ac Z<|Ah Z (BO (by assumption) Z)<|Ac Z<|AJ Z Z<|Aj Z Z<|AT Z<|Aw<|BI<|AK<|Bq (m:=1) (sz:=1) (R:=Ax) (by rfl) (by assumption) (by rfl) Z (by omega) ?_;rintro _ _ _ _ _ rfl;refine Ah Z (BO (by assumption) Z)<|EP Z (by omega) (by omega) ?_);refine P9 (a:=n1) 8 (n1*2 ^ 8) (congrArg (fun z:Nat=>Value.int .i64 z) e1) Z (by omega) Z (by omega) ?_;(refine AK<|Bq (m:=2) (sz:=1) (R:=Ax) (by rfl) (by assumption) (by rfl) Z (by omega) ?_;rintro _ _ _ _ _ rfl;refine Ah Z (BO (by assumption) Z)<|EP Z (by omega) (by omega) ?_);refine Sy (a:=n1) (b:=n2) 8 Z (congrArg (fun z:Nat=>Value.int .i64 z) e2) (by omega) (by omega) (by omega) ?_;(refine AK<|Bq (m:=3) (sz:=1) (R:=Ax) (by rfl) (by assumption) (by rfl) Z (by omega) ?_;rintro _ _ _ _ _ rfl;refine Ah Z (BO (by assumption) Z)<|EP Z (by omega) (by omega) ?_);refine P9 (a:=n3) 24 (n3*2 ^ 24) (congrArg (fun z:Nat=>Value.int .i64 z) e3) Z (by omega) Z (by omega) ?_;(refine AK<|Bq (m:=4) (sz:=1) (R:=Ax) (by rfl) (by assumption) (by rfl) Z (by omega) ?_;rintro _ _ _ _ _ rfl;refine Ah Z (BO (by assumption) Z)<|EP Z (by omega) (by omega) ?_);refine P9 (a:=n4) 16 (n4*2 ^ 16) (congrArg (fun z:Nat=>Value.int .i64 z) e4) Z (by omega) Z (by omega)<|Sy (a:=n3) (b:=n4*2 ^ 16) 24 Z Z (by omega) (by omega) (by omega) ?_;(refine AK<|Bq (sz:=1) (R:=Ax) (by rfl) (by assumption) (by rfl) (Int.natCast_add _ 1).symm (by omega) ?_;rintro _ _ _ _ _ rfl;refine Ah Z (BO (by assumption) Z)<|EP Z (by omega) (by omega) ?_);refine P9 (a:=n5) 8 (n5*2 ^ 8) (congrArg (fun z:Nat=>Value.int .i64 z) e5') Z (by omega) Z (by omega)<|Sy (a:=n3*2 ^ 8+n4) (b:=n5*2 ^ 8) 16 (congrArg (fun z:Nat=>Value.int .i64 z) (by omega)) Z (by omega) (by omega) (by omega) ?_;(refine AK<|Bq (sz:=1) (R:=Ax) (by rfl) (by assumption) (by rfl) (Int.natCast_add _ 1).symm (by omega) ?_;rintro _ _ _ _ _ rfl;refine Ah Z (BO (by assumption) Z)<|EP Z (by omega) (by omega) ?_);refine Sy (a:=(n3*2 ^ 8+n4)*2 ^ 8+n5) (b:=n6) 8 (congrArg (fun z:Nat=>Value.int .i64 z) (by omega)) (congrArg (fun z:Nat=>Value.int .i64 z) e6') (by omega) (by omega) (by omega)<|Ab Z<|Ab Z<|Cc Z<|Ed [vZ _,vZ _,.bool true] (L':=[]) ⟨Af Z,Af Z,Af Z,trivial⟩ (Agp _) ⟨Z,Z,Z⟩
  ·have hb0:(b[0]'(by omega)).toNat≠1:=fun q=>h1 (UInt8.toNat_inj.1 q);have hF:Fh b=false:=by unfold Fh;rw[g0];simp[h1]
   rw[hF];(refine AE Z<|Ab Z<|AV Z<|AZ<|AK<|BX Z (by assumption)<|AJ Z Z<|Ad Z<|Bs Z<|Ac Z<|AK<|Ac Z<|Bq (m:=0) (sz:=1) (R:=Ax) (by rfl) (by assumption) (by rfl) Z (by omega) ?_;rintro _ _ _ _ _ rfl;refine Ac Z<|Ah Z (BO (by assumption) Z)<|Ac Z<|AJ Z Z<|Aj Z Z<|A5 Z<|AE Z<|Ab Z<|Cc Z ?_);exact Ed [vZ 0,vZ 0,.bool false] (L':=[]) ⟨Af Z,Af Z,Af Z,trivial⟩ (Agp _) ⟨Z,Z,Z⟩
 ·have hF:Fh b=false:=by unfold Fh;simp[h7]
  rw[hF];refine AE Z<|Ab Z<|AV Z<|AZ<|AK<|BX Z (by assumption)<|AJ Z Z<|Ad Z<|Bx Z<|AQ Z Z<|AQ Z Z<|As Z Z<|B7 Z<|AE Z<|Ab Z<|Cc Z<|Ed [vZ 0,vZ 0,.bool false] (L':=[]) ⟨Af Z,Af Z,Af Z,trivial⟩ (Agp _) ⟨Z,Z,Z⟩
def K5(P:Program)(f:FuncId):Prop:=∀{d s dv pv w L}{bt:Nat}{Tt}{r h c:Int}{b},Pg d s dv pv L→Ay d w b→
 Ao P f [pZ bt,w] d (tb bt Tt pv r h c::L) (Ret fun v d' L'=>Le d d'∧∃u L2 tc,v=.tuple #[u,vZ (CP s b).2]∧L'=tb bt Tt pv r h c::L2∧Ay d' u (CP s b).1∧
  Pg d' {s with tc:=tc} dv pv L2∧((CP s b).2=0→tc=s.tc+Eo b))
def Mq{b:List UInt8}{m:Nat}(e:(0:Int)=(m:Int))(h:m<b.length){n:Nat}(hb:(b.getD 0 0).toNat=n):(b[m]'h).toNat=n:=by
 have:m=0:=by omega
 subst this;rw[←hb,C5 h]
def N7(a0 a1 a2:Nat):A9:=⟨38,[(.tmp 4),(.tmp 5)],(sR (o1 4 (.mv nS)<|o1 5 (.mv z0) .done) (.seq (sR (om 9 1<|oL 10 9<|ob 11 .gtr 10 z0<|om 12 11<|gT 13 12 1<|oT 14 12 (.idx 1 13 z0)<|oT 15 12 (.ld none 14)<|oT 16 12 (.bin .eql 15 (.const (.int .u8 0)))<|gP 17 12 16 .done) (.cond 17 (sR (om 18 1<|o1 19 (.sl 1 18 (some z1) none none)<|oc 20 a0 [19]<|om 4 20<|o1 5 (.mv z0) .done) .ret) .skip)) (sR (om 22 1<|oc 23 a1 [22]<|om 21 23<|oe 24 21 0<|oe 25 21 1<|oe 26 21 2<|om 6 24<|om 7 25<|om 8 26 .done) (.seq (sR (om 27 8<|o1 28 (.un .not 27) .done) (.cond 28 (sR (o1 4 (.mv nS)<|o1 5 (.mv (kZ 200)) .done) .ret) .skip)) (sR (om 29 0<|o1 30 (.nilc 29)<|oj 31 0 30<|ol 32 31<|om 33 6<|om 34 7<|oc 35 a2 [32,33,34]<|oe 36 35 0<|oe 37 35 1<|om 4 36<|om 5 37 .done) .ret)))))⟩
set_option maxRecDepth 4000 in
def Yo{P:Program}{f f1 f2 f3:FuncId}(hd:dec P f=some (N7 f1 f2 f3))(h1:ER Ax 1 P f1)(h2:JM P f2)(h3:NP P f3):K5 P f:=by
 intro d s dv pv w L bt Tt r h c b hp hw;obtain⟨bp,rfl⟩:=hp.ptr;obtain⟨wa,wc,rfl⟩:=RSl.val hw;refine Bj hd ?_;by_cases h0:0<b.length
 ·have g0:=C5 (b:=b) (i:=0) h0;by_cases e0:b[0]=0
  ·have hb0:=Mq (b:=b) Z h0 (n:=0) (by rw[g0,e0];rfl);(refine Br Z<|AR Z<|Ae Z<|AA Z<|Bu Z Z<|Ad Z<|Bx Z<|Ac Z<|Ae Z<|Ac Z<|Bq (sz:=1) (R:=Ax) (by rfl) (by assumption) (by rfl) Z (by omega) ?_;rintro _ _ _ _ _ rfl;refine Ac Z<|Ah Z (BO (by assumption) Z)<|Ac Z<|AI Z Z<|As Z Z<|A5 Z<|Br Z ?_);refine Ex (R:=Ax) (sz:=1) (n:=1) Z hw Z Z (by omega) (fun v' hv'=>?_);have hi:inB b=true:=by unfold inB;rw[g0,e0];simp[h0]
   have hF:CP s b=(b.drop 1,0):=by unfold CP;rw[if_pos hi]
   have hT:Eo b=0:=by unfold Eo;rw[if_pos hi]
   rw[hF,hT];refine Bz Z (h1 hv' (by have:=hw.BW;rw[Afo];omega)) (fun v d1 L1 _ ⟨e1,hh,e2,hg⟩=>?_);subst e1;subst e2;obtain⟨ga,gc,rfl⟩:=hg.val;refine Ae Z<|AS Z<|A6 [.slice ga (b.drop 1).length gc,vZ 0] ⟨Af Z,Af Z,trivial⟩ (d':=join d1 hh) (L':=tb bt Tt (pZ bp) r h c::L) Vs.freeze ⟨Le.Ar _ _,_,L,s.tc,Z,Z,Ai.rsl (R:=Ax) (sz:=1) hg AF (by omega) (Le.Ar _ _) (Le.Bc _ _),hp.mono (Le.Ar _ _),fun _=>Z⟩
  ·have hb0:=Mq (b:=b) Z h0 (n:=_) (congrArg UInt8.toNat g0);have hb1:b[0].toNat≠0:=fun q=>e0 (UInt8.toNat_inj.1 q);(refine Br Z<|AR Z<|Ae Z<|AA Z<|Bu Z Z<|Ad Z<|Bx Z<|Ac Z<|Ae Z<|Ac Z<|Bq (sz:=1) (R:=Ax) (by rfl) (by assumption) (by rfl) Z (by omega) ?_;rintro _ _ _ _ _ rfl;refine Ac Z<|Ah Z (BO (by assumption) Z)<|Ac Z<|AI Z Z<|As Z Z<|AT Z<|Br Z ?_);have hi:inB b=false:=by unfold inB;rw[g0];simp[e0]
   cases hf:Fh b with
   |true=>
    have hF:CP s b=(Chn.BU s (EX b) (Ec b)).2:=by unfold CP;rw[hi,if_neg (by decide),hf,if_pos Z]
    have hT:Eo b=AN (Ec b):=by unfold Eo;rw[hi,if_neg (by decide)]
    rw[hF,hT]
    have hc:=h2 hw
    rw[hf,if_pos Z,if_pos Z] at hc
    refine BH Z hc ?_
    (refine AO Z<|AW Z Z Z Z<|Dl Z Z<|Ab Z<|Ab Z<|AV Z<|AZ<|Ad Z<|Bm Z<|Be Z<|A3 Z<|Ap Z<|Az Z Z Z<|Ab Z<|Ab Z ?_)
    refine A0 [_] (h3 (k:=EX b) (size:=Ec b) hp) Z Z (fun v d2 L2 hl ⟨_,u,tc,e1,hu,hp2,htc⟩=>?_)
    subst e1
    rw[Aja] at htc
    (refine AW Z Z Z Z<|AK<|AS Z ?_)
    exact CJ Z Z (Afa _) ⟨hl,u,L2,tc,Z,Z,hu,hp2,htc⟩
   |false=>
    have hF:CP s b=([],200):=by unfold CP;rw[hi,if_neg (by decide),hf,if_neg (by decide)]
    rw[hF]
    have hc:=h2 hw
    rw[hf,if_neg (by decide),if_neg (by decide)] at hc
    refine BH Z hc ?_
    (refine AO Z<|AW Z Z Z Z<|Dl Z Z<|Ab Z<|Ab Z<|AV Z<|AZ<|Ad Z<|Bm Z<|B7 Z<|Br Z<|AS Z ?_)
    exact CJ Z Z (Afa _) ⟨Le.refl _,_,L,s.tc,Z,Z,RSl.nil,hp,fun q=>absurd (show(200:Int)=0 from q) (by decide)⟩
 ·(refine Br Z<|AR Z<|Ae Z<|AA Z<|Bu Z Z<|Ad Z<|Bs Z<|AQ Z Z<|AQ Z Z<|Aj Z Z<|Be Z<|Br Z ?_);have hi:inB b=false:=by unfold inB;simp[h0]
  cases hf:Fh b with
  |true=>
   have hF:CP s b=(Chn.BU s (EX b) (Ec b)).2:=by unfold CP;rw[hi,if_neg (by decide),hf,if_pos Z]
   have hT:Eo b=AN (Ec b):=by unfold Eo;rw[hi,if_neg (by decide)]
   rw[hF,hT]
   have hc:=h2 hw
   rw[hf,if_pos Z,if_pos Z] at hc
   refine BH Z hc ?_
   (refine AO Z<|AW Z Z Z Z<|Dl Z Z<|Ab Z<|Ab Z<|AV Z<|AZ<|Ad Z<|Bm Z<|Be Z<|A3 Z<|Ap Z<|Az Z Z Z<|Ab Z<|Ab Z ?_)
   refine A0 [_] (h3 (k:=EX b) (size:=Ec b) hp) Z Z (fun v d2 L2 hl ⟨_,u,tc,e1,hu,hp2,htc⟩=>?_)
   subst e1
   rw[Aja] at htc
   (refine AW Z Z Z Z<|AK<|AS Z ?_)
   exact CJ Z Z (Afa _) ⟨hl,u,L2,tc,Z,Z,hu,hp2,htc⟩
  |false=>
   have hF:CP s b=([],200):=by unfold CP;rw[hi,if_neg (by decide),hf,if_neg (by decide)]
   rw[hF]
   have hc:=h2 hw
   rw[hf,if_neg (by decide),if_neg (by decide)] at hc
   refine BH Z hc ?_
   (refine AO Z<|AW Z Z Z Z<|Dl Z Z<|Ab Z<|Ab Z<|AV Z<|AZ<|Ad Z<|Bm Z<|B7 Z<|Br Z<|AS Z ?_)
   exact CJ Z Z (Afa _) ⟨Le.refl _,_,L,s.tc,Z,Z,RSl.nil,hp,fun q=>absurd (show(200:Int)=0 from q) (by decide)⟩
def NI(P:Program)(f:FuncId):Prop:=∀{d s dv pv w L}{bt:Nat}{Tt}{r h c:Int}{b},PgT d s dv pv L→Ay d w b→
 Ao P f [pZ bt,w] d (tb bt Tt pv r h c::L) (Ret fun v d' L'=>Le d d'∧v=vZ (Ci s b).2∧∃L2,L'=tb bt Tt pv r h c::L2∧PgT d' (Ci s b).1 dv pv L2)
def O1(a0 a1:Nat):A9:=⟨32,[(.tmp 4)],(sR (o1 4 (.mv z0) .done) (.seq (sR (om 8 1<|oL 9 8<|ob 10 .gtr 9 z0<|om 11 10<|gT 12 11 1<|oT 13 11 (.idx 1 12 z0)<|oT 14 11 (.ld none 13)<|oT 15 11 (.bin .eql 14 (.const (.int .u8 0)))<|gP 16 11 15 .done) (.cond 16 (sR (o1 4 (.mv z0) .done) .ret) .skip)) (sR (om 18 1<|oc 19 a0 [18]<|om 17 19<|oe 20 17 0<|oe 21 17 1<|oe 22 17 2<|om 5 20<|om 6 21<|om 7 22 .done) (.seq (sR (om 23 7<|o1 24 (.un .not 23) .done) (.cond 24 (sR (o1 4 (.mv (kZ 200)) .done) .ret) .skip)) (sR (om 25 0<|o1 26 (.nilc 25)<|oj 27 0 26<|ol 28 27<|om 29 5<|om 30 6<|oc 31 a1 [28,29,30]<|om 4 31 .done) .ret)))))⟩
set_option maxRecDepth 4000 in
def AaZ{P:Program}{f f1 f2:FuncId}(hd:dec P f=some (O1 f1 f2))(h1:JM P f1)(h2:Nx P f2):NI P f:=by
 intro d s dv pv w L bt Tt r h c b hp hw;obtain⟨bp,rfl⟩:=hp.ptr;obtain⟨wa,wc,rfl⟩:=RSl.val hw;refine Bj hd ?_;by_cases h0:0<b.length
 ·have g0:=C5 (b:=b) (i:=0) h0;by_cases e0:b[0]=0
  ·have hb0:=Mq (b:=b) Z h0 (n:=0) (by rw[g0,e0];rfl);(refine AE Z<|BG<|Ae Z<|AA Z<|Bu Z Z<|Ad Z<|Bx Z<|Ac Z<|Ae Z<|Ac Z<|Bq (sz:=1) (R:=Ax) (by rfl) (by assumption) (by rfl) Z (by omega) ?_;rintro _ _ _ _ _ rfl;refine Ac Z<|Ah Z (BO (by assumption) Z)<|Ac Z<|AI Z Z<|As Z Z<|A5 Z<|AE Z<|BJ ?_);have hi:inB b=true:=by unfold inB;rw[g0,e0];simp[h0]
   have hF:Ci s b=(s,0):=by unfold Ci;rw[if_pos hi]
   rw[hF];exact BZ Z (Afa _) ⟨Le.refl _,Z,L,Z,hp⟩
  ·have hb0:=Mq (b:=b) Z h0 (n:=_) (congrArg UInt8.toNat g0);have hb1:b[0].toNat≠0:=fun q=>e0 (UInt8.toNat_inj.1 q);(refine AE Z<|BG<|Ae Z<|AA Z<|Bu Z Z<|Ad Z<|Bx Z<|Ac Z<|Ae Z<|Ac Z<|Bq (sz:=1) (R:=Ax) (by rfl) (by assumption) (by rfl) Z (by omega) ?_;rintro _ _ _ _ _ rfl;refine Ac Z<|Ah Z (BO (by assumption) Z)<|Ac Z<|AI Z Z<|As Z Z<|AT Z<|Br Z ?_);have hi:inB b=false:=by unfold inB;rw[g0];simp[e0]
   cases hf:Fh b with
   |true=>
    have hF:Ci s b=Eu s (EX b) (Ec b):=by unfold Ci;rw[hi,if_neg (by decide),hf,if_pos Z]
    rw[hF]
    have hc:=h1 hw
    rw[hf,if_pos Z,if_pos Z] at hc
    refine BH Z hc ?_
    clear hi hf
    (refine AO Z<|AW Z Z Z Z<|Dl Z Z<|Ab Z<|Ab Z<|AV Z<|AZ<|Ad Z<|Bm Z<|Be Z<|A3 Z<|Ap Z<|Az Z Z Z<|Ab Z<|Ab Z ?_)
    refine A0 [_] (Yd h2 (k:=EX b) (size:=Ec b) hp) Z Z (fun v d2 L2 hl ⟨_,e1,hp2⟩=>?_)
    subst e1
    (refine AS Z ?_)
    exact BZ Z (Afa _) ⟨hl,Z,L2,Z,hp2⟩
   |false=>
    have hF:Ci s b=(s,200):=by unfold Ci;rw[hi,if_neg (by decide),hf,if_neg (by decide)]
    rw[hF]
    have hc:=h1 hw
    rw[hf,if_neg (by decide),if_neg (by decide)] at hc
    refine BH Z hc ?_
    clear hi hf
    (refine AO Z<|AW Z Z Z Z<|Dl Z Z<|Ab Z<|Ab Z<|AV Z<|AZ<|Ad Z<|Bm Z<|B7 Z<|AE Z<|BJ ?_)
    exact BZ Z (Afa _) ⟨Le.refl _,Z,L,Z,hp⟩
 ·(refine AE Z<|BG<|Ae Z<|AA Z<|Bu Z Z<|Ad Z<|Bs Z<|AQ Z Z<|AQ Z Z<|Aj Z Z<|Be Z<|Br Z ?_);have hi:inB b=false:=by unfold inB;simp[h0]
  cases hf:Fh b with
  |true=>
   have hF:Ci s b=Eu s (EX b) (Ec b):=by unfold Ci;rw[hi,if_neg (by decide),hf,if_pos Z]
   rw[hF]
   have hc:=h1 hw
   rw[hf,if_pos Z,if_pos Z] at hc
   refine BH Z hc ?_
   clear hi hf
   (refine AO Z<|AW Z Z Z Z<|Dl Z Z<|Ab Z<|Ab Z<|AV Z<|AZ<|Ad Z<|Bm Z<|Be Z<|A3 Z<|Ap Z<|Az Z Z Z<|Ab Z<|Ab Z ?_)
   refine A0 [_] (Yd h2 (k:=EX b) (size:=Ec b) hp) Z Z (fun v d2 L2 hl ⟨_,e1,hp2⟩=>?_)
   subst e1
   (refine AS Z ?_)
   exact BZ Z (Afa _) ⟨hl,Z,L2,Z,hp2⟩
  |false=>
   have hF:Ci s b=(s,200):=by unfold Ci;rw[hi,if_neg (by decide),hf,if_neg (by decide)]
   rw[hF]
   have hc:=h1 hw
   rw[hf,if_neg (by decide),if_neg (by decide)] at hc
   refine BH Z hc ?_
   clear hi hf
   (refine AO Z<|AW Z Z Z Z<|Dl Z Z<|Ab Z<|Ab Z<|AV Z<|AZ<|Ad Z<|Bm Z<|B7 Z<|AE Z<|BJ ?_)
   exact BZ Z (Afa _) ⟨Le.refl _,Z,L,Z,hp⟩
def Pl(a0:Nat):A9:=⟨44,[(.tmp 4),(.tmp 5)],(sR (o1 4 (.mv nS)<|o1 5 (.mv z0) .done) (.seq (sR (om 9 1<|oL 10 9<|ob 11 .leq 10 (kZ 15) .done) (.cond 11 (sR (o1 12 (.bsl 1 1 [(.int .u8 0)] [(0,(.const (.int .u8 0)))])<|om 13 1<|o1 14 (.app 1 1 [(.int .u8 0)] 12 13)<|om 4 14<|o1 5 (.mv z0) .done) .ret) .skip)) (sR (om 16 0<|o1 17 (.nilc 16)<|oj 18 0 17<|ol 19 18<|om 20 1<|oc 21 a0 [19,20]<|om 15 21<|oe 22 15 0<|oe 23 15 1<|om 6 22<|om 7 23 .done) (sR (om 24 1<|oL 25 24<|om 8 25 .done) (sR (om 26 6<|ob 27 .shr 26 (.const (.int .u64 8))<|o1 28 (.cvi .u8 27)<|om 29 6<|o1 30 (.cvi .u8 29)<|om 31 8<|ob 32 .shr 31 (.const (.int .u64 24))<|o1 33 (.cvi .u8 32)<|om 34 8<|ob 35 .shr 34 (.const (.int .u64 16))<|o1 36 (.cvi .u8 35)<|om 37 8<|ob 38 .shr 37 (.const (.int .u64 8))<|o1 39 (.cvi .u8 38)<|om 40 8<|o1 41 (.cvi .u8 40)<|o1 42 (.bsl 7 1 [(.int .u8 0)] [(0,(.const (.int .u8 1))),(1,28),(2,30),(3,33),(4,36),(5,39),(6,41)])<|om 43 7<|om 4 42<|om 5 43 .done) .ret)))))⟩
def S4{s}(hG:Pgr.Good s){b}:0≤(B0 s b).2.1∧(B0 s b).2.1≤16384:=by
 obtain⟨h1, -⟩:=KT (n:=AN b.length) (Tk.nil s);unfold B0;by_cases hz:(Cj s [] (AN b.length)).2.2=0
 ·have ht:Chn.BF s (AN b.length)=Cj s [] (AN b.length):=by unfold Chn.BF;rw[if_pos hz]
  rw[ht];simp only[hz,if_true];generalize (Cj s [] (AN b.length)).2.1=l at h1;cases l with
  |nil=>show 0≤(0:Int)∧(0:Int)≤16384;decide
  |cons k l=>
   obtain⟨j,j1,j2, -⟩:=h1.was k (Afn ..)
   have:=hG.inn
   have:=hG.syn
   show 0≤k∧k≤16384
   omega
 ·have ht:(Chn.BF s (AN b.length)).2.2≠0:=by unfold Chn.BF;rw[if_neg hz];exact hz
  simp only[ht,if_false];show 0≤(0:Int)∧(0:Int)≤16384;decide
def IH(P:Program)(f:FuncId):Prop:=∀{d s dv pv L}{bt:Nat}{Tt}{r h c k:Int}{cs}{n:AB},PgT d s dv pv L→Cz d cs n→Bf n≤1000000000000→
 Ao P f [pZ bt,vZ k,.agg cs.toArray] d (tb bt Tt pv r h c::L) (Ret fun v d' L'=>Le d d'∧v=.tuple #[vZ (Bg s k n).2.1,vZ (Bg s k n).2.2]∧∃L2,L'=tb bt Tt pv r h c::L2∧PgT d' (Bg s k n).1 dv pv L2)
def Cz.four{d cs}{n:AB}(h:Cz d cs n):∃ka kc va vc ia ic,cs=[.bool n.leaf,.slice ka n.keys.length kc,.slice va n.vals.length vc,.slice ia n.kids.length ic]:=by
 obtain⟨kv,vv,iv,rfl,a1,a2,a3⟩:=h;obtain⟨x1,x2,rfl⟩:=a1.val;obtain⟨y1,y2,rfl⟩:=a2.val;obtain⟨z1,z2,rfl⟩:=a3.val;exact⟨_,_,_,_,_,_,Z⟩
def Qu(a0 a1 a2 a3:Nat):A9:=⟨64,[(.tmp 6),(.tmp 7)],(sR (o1 5 (.box 2)<|o1 6 (.mv z0)<|o1 7 (.mv z0) .done) (sR (o1 14 (.ld (some 4) 5)<|oc 15 a0 [14]<|om 13 15<|oe 16 13 0<|oe 17 13 1<|om 8 16<|om 9 17 .done) (.seq (sR (om 18 9<|ob 19 .neq 18 z0 .done) (.cond 19 (sR (om 20 9<|o1 6 (.mv z0)<|om 7 20 .done) .ret) .skip)) (.seq (sR (om 21 1<|ob 22 .geq 21 z0 .done) (.cond 22 (sR (om 23 0<|o1 24 (.nilc 23)<|oj 25 0 24<|ol 26 25<|om 27 1<|om 28 8<|oc 29 a1 [26,27,28]<|om 10 29 .done) (sR (om 30 10<|ob 31 .neq 30 (kZ 240) .done) (.cond 31 (sR (om 32 1<|om 33 10<|om 6 32<|om 7 33 .done) .ret) .skip))) .skip)) (sR (om 35 0<|o1 36 (.nilc 35)<|oj 37 0 36<|ol 38 37<|oc 39 a2 [38]<|om 34 39<|oe 40 34 0<|oe 41 34 1<|om 11 40<|om 9 41 .done) (.seq (sR (om 42 9<|ob 43 .neq 42 z0 .done) (.cond 43 (sR (om 44 9<|o1 6 (.mv z0)<|om 7 44 .done) .ret) .skip)) (.seq (sR (om 45 1<|ob 46 .geq 45 z0 .done) (.cond 46 (sR (om 47 0<|o1 48 (.nilc 47)<|oj 49 0 48<|ol 50 49<|om 51 1<|oc 52 a3 [50,51]<|om 12 52 .done) (sR (om 53 12<|ob 54 .neq 53 z0 .done) (.cond 54 (sR (om 55 12<|o1 6 (.mv z0)<|om 7 55 .done) .ret) .skip))) .skip)) (sR (om 56 11<|om 57 0<|o1 58 (.nilc 57)<|oj 59 0 58<|ol 60 59<|om 61 11<|om 62 8<|oc 63 a1 [60,61,62]<|om 6 56<|om 7 63 .done) .ret))))))))⟩
set_option maxRecDepth 4000 in
def ZR{P f2 f3 f4}(hd:dec P f=some (Qu f1 f2 f3 f4))(h1:KA P f1)(h2:Lo P f2)(h3:Pgr.Gx P f3)(h4:Pgr.HF P f4):IH P f:=by
 intro d s dv pv L bt Tt r h c k cs n hp hn hz;obtain⟨bp,rfl⟩:=hp.ptr;have hn0:=hn;obtain⟨ka,kc,va,vc,ia,ic,rfl⟩:=Cz.four hn;refine Bj hd ?_;apply Aw;apply Av;refine CF Z (fun b5 T5=>?_);refine Ab Z<|A7 Z<|Bk 0 Z Z Z<|Bz Z (PV h1 hn0 hz) (fun v d2 L2 _ ⟨e0,u,g,e1,e2,hg⟩=>?_);subst e0;subst e1;subst e2;obtain⟨ua,uc,rfl⟩:=hg.val;cases hr:Bt n with
 |false=>
  have hF:Bg s k n=(s,0,200):=by unfold Bg;rw[hr,if_neg (by decide)]
  rw[hF]
  rw[hr,if_neg (by decide)] at hg
  rw[if_neg (by decide),if_neg (by decide)]
  clear hr hF
  (refine AO Z<|AW Z Z Z Z<|Ae Z<|AR Z<|Ab Z<|AJ Z Z<|A5 Z<|AE Z<|Ab Z<|AS Z ?_)
  exact CJ (L':=tb bt Tt (pZ bp) r h c::L) Z Z (.cons _ (.cons _ (Afa _))) ⟨Le.refl _,Z,L,Z,hp⟩
 |true=>
  rw[hr,if_pos Z] at hg
  rw[if_pos Z,if_pos Z]
  obtain⟨d3,hle,v1,hb⟩:∃d3,Le d2 d3∧Vs d2 [g] d3 []∧Ay d3 (.slice ua (Cq n).length uc) (Cq n):=⟨join d2 g,Le.Ar _ _,Vs.freeze,Ai.rsl (R:=Ax) (sz:=1) hg AF (by omega) (Le.Ar _ _) (Le.Bc _ _)⟩
  have hp3:=hp.mono hle
  refine B1 _ _ (Vs.app v1 _) ?_
  have hP:Bg s k n=if 0≤k∧(s.put k (Cq n)).2≠240 then((s.put k (Cq n)).1,k,(s.put k (Cq n)).2)
    else if s.AX.2.2≠0 then(s.AX.1,0,s.AX.2.2)
    else if 0≤k then
     if (s.AX.1.drop k).2≠0 then((s.AX.1.drop k).1,0,(s.AX.1.drop k).2)
     else(((s.AX.1.drop k).1.put s.AX.2.1 (Cq n)).1,s.AX.2.1,((s.AX.1.drop k).1.put s.AX.2.1 (Cq n)).2)
    else((s.AX.1.put s.AX.2.1 (Cq n)).1,s.AX.2.1,(s.AX.1.put s.AX.2.1 (Cq n)).2):=by unfold Bg;rw[hr,if_pos Z]
  clear hr
  generalize Cq n=pg at hb hP
  by_cases hk:0≤k
  ·(refine AO Z<|AW Z Z Z Z<|Ae Z<|AR Z<|Ab Z<|AJ Z Z<|AT Z<|AZ<|Ab Z<|Dk Z Z<|A5 Z<|A3 Z<|Ap Z<|Am Z<|Ah Z (AG 1 Z Z)<|Ab Z<|Ae Z ?_)
   refine A0 [_,_] (WW h2 hp3 (k:=k) hb) Z Z (fun w d4 L4 hl4 ⟨e4,hp4⟩=>?_)
   subst e4
   by_cases he:(s.put k pg).2=240
   ·have hs4:(s.put k pg).1=s:=by
     unfold PD.put at he⊢;by_cases q1:s.kind k=1
     ·by_cases q2:pg.length=256
      ·simp only[if_pos q1,if_pos q2] at he;exact absurd he (by decide)
      ·simp only[if_pos q1,if_neg q2]
     ·simp only[if_neg q1]
    rw[hs4] at hp4
    rw[if_neg (fun q=>q.2 he)] at hP
    rw[he]
    have hb4:=RSl.mono (R:=Ax) AF hb hl4
    (refine A7 Z<|Ab Z<|AJ Z Z<|AT Z<|A3 Z<|Ap Z<|Am Z<|Ah Z (AG 1 Z Z) ?_)
    refine A0 [_,_] (Xd h3 hp4) Z Z (fun w d5 L5 hl5 ⟨e5,hp5⟩=>?_)
    subst e5
    have hb5:=RSl.mono (R:=Ax) AF hb4 hl5
    by_cases ht:s.AX.2.2=0
    ·rw[if_neg (fun q=>q ht),if_pos hk] at hP
     rw[ht]
     (refine AO Z<|AW Z Z Z Z<|Ab Z<|AR Z<|Ab Z<|AJ Z Z<|AT Z<|AZ<|Ab Z<|Dk Z Z<|A5 Z<|A3 Z<|Ap Z<|Am Z<|Ah Z (AG 1 Z Z)<|Ab Z ?_)
     refine A0 [_,_] (WI h4 hp5 (k:=k)) Z Z (fun w d6 L6 hl6 ⟨e6,hp6⟩=>?_)
     subst e6
     by_cases hd6:(s.AX.1.drop k).2=0
     ·rw[if_neg (fun q=>q hd6)] at hP
      rw[hd6,hP]
      have hb6:=RSl.mono (R:=Ax) AF hb5 hl6
      (refine A7 Z<|Ab Z<|AJ Z Z<|AT Z<|AE Z<|Ag Z<|Ap Z<|Am Z<|Ah Z (AG 1 Z Z)<|Ab Z<|Ae Z ?_)
      refine A0 [_,_] (WW h2 hp6 (k:=s.AX.2.1) hb6) Z Z (fun w d7 L7 hl7 ⟨e7,hp7⟩=>?_)
      subst e7
      (refine Ab Z<|AS Z ?_)
      exact CJ (L':=tb bt Tt (pZ bp) r h c::L7) Z Z (.cons _ (Afa _)) ⟨(hle.trans hl4).trans ((hl5.trans hl6).trans hl7),Z,L7,Z,hp7⟩
     ·rw[if_pos hd6] at hP
      rw[hP]
      (refine A7 Z<|Ab Z<|AJ Z Z<|A5 Z<|AE Z<|Ab Z<|AS Z ?_)
      exact CJ (L':=tb bt Tt (pZ bp) r h c::L6) Z Z (.cons _ (Afa _)) ⟨(hle.trans hl4).trans (hl5.trans hl6),Z,L6,Z,hp6⟩
    ·rw[if_pos ht] at hP
     rw[hP]
     (refine AO Z<|AW Z Z Z Z<|Ab Z<|AR Z<|Ab Z<|AJ Z Z<|A5 Z<|AE Z<|Ab Z<|AS Z ?_)
     exact CJ (L':=tb bt Tt (pZ bp) r h c::L5) Z Z (.cons _ (Afa _)) ⟨(hle.trans hl4).trans hl5,Z,L5,Z,hp5⟩
   ·rw[if_pos ⟨hk,he⟩] at hP
    rw[hP]
    (refine A7 Z<|Ab Z<|AJ Z Z<|A5 Z<|AE Z<|Ab Z<|Ab Z<|AS Z ?_)
    exact CJ (L':=tb bt Tt (pZ bp) r h c::L4) Z Z (.cons _ (Afa _)) ⟨hle.trans hl4,Z,L4,Z,hp4⟩
  ·rw[if_neg (fun q=>hk q.1)] at hP
   (refine AO Z<|AW Z Z Z Z<|Ae Z<|AR Z<|Ab Z<|AJ Z Z<|AT Z<|AZ<|Ab Z<|Dk Z Z<|AT Z<|A3 Z<|Ap Z<|Am Z<|Ah Z (AG 1 Z Z) ?_)
   refine A0 [_,_] (Xd h3 hp3) Z Z (fun w d5 L5 hl5 ⟨e5,hp5⟩=>?_)
   subst e5
   have hb5:=RSl.mono (R:=Ax) AF hb hl5
   by_cases ht:s.AX.2.2=0
   ·rw[if_neg (fun q=>q ht),if_neg hk] at hP
    rw[ht,hP]
    (refine AO Z<|AW Z Z Z Z<|Ab Z<|AR Z<|Ab Z<|AJ Z Z<|AT Z<|AZ<|Ab Z<|Dk Z Z<|AT Z<|AE Z<|Ag Z<|Ap Z<|Am Z<|Ah Z (AG 1 Z Z)<|Ab Z<|Ae Z ?_)
    refine A0 [_,_] (WW h2 hp5 (k:=s.AX.2.1) hb5) Z Z (fun w d7 L7 hl7 ⟨e7,hp7⟩=>?_)
    subst e7
    (refine Ab Z<|AS Z ?_)
    exact CJ (L':=tb bt Tt (pZ bp) r h c::L7) Z Z (.cons _ (Afa _)) ⟨(hle.trans hl5).trans hl7,Z,L7,Z,hp7⟩
   ·rw[if_pos ht] at hP
    rw[hP]
    (refine AO Z<|AW Z Z Z Z<|Ab Z<|AR Z<|Ab Z<|AJ Z Z<|A5 Z<|AE Z<|Ab Z<|AS Z ?_)
    exact CJ (L':=tb bt Tt (pZ bp) r h c::L5) Z Z (.cons _ (Afa _)) ⟨hle.trans hl5,Z,L5,Z,hp5⟩
end Go.Gk.Tre
end
section
namespace Go.Gk.Tre
open Go Go.Gk Go.Gk.Node
def Vn{n:AB}(h:Bf n≤1000000000000):Bf (Ba n)≤1000000000000∧Bf (Bi n)≤1000000000000:=by
 by_cases hc:DP n=true
 ·have hc':=hc;simp only[DP,Afb,decide_eq_true_eq] at hc';obtain⟨hs,hm⟩:=hc';simp only[Bd,Afb] at hs;obtain⟨hks,hrest⟩:=hs;obtain⟨ha1, -, -⟩:=OU n;cases hlf:n.leaf with
  |true=>
   simp only[hlf,if_true] at hm hrest
   have eL:Ba n=⟨true,n.keys.take (atD n),n.vals.take (atD n),[]⟩:=by simp[Ba,hc,hlf]
   have eR:Bi n=⟨true,n.keys.drop (atD n),n.vals.drop (atD n),[]⟩:=by simp[Bi,hc,hlf]
   have hall:Bf n=2+BK n n.keys.length:=by simp[Bf,hlf]
   have hcl:BK (Ba n) (Ba n).keys.length=BK n (atD n):=by
    rw[eL];simp only[Aft,Aka (show atD n≤n.keys.length by omega)];exact H9 n _ hlf.symm (a:=atD n) (fun j hj=>by simp only[DW,getD_take hj]) (fun _ j hj=>by simp only[FJ,getD_take hj]) _ (Afe _)
   have hcr:BK (Bi n) (Bi n).keys.length+BK n (atD n)=BK n n.keys.length:=by
    rw[eR];simp only[Afo];have:=Ig n ⟨true,n.keys.drop (atD n),n.vals.drop (atD n),[]⟩ hlf.symm (a:=atD n) (fun j=>by simp only[DW,Hl]) (fun _ j=>by simp only[FJ,Hl]) (n.keys.length - atD n);rw[this];congr 1;omega
   have hmo:=Hi n (show atD n≤n.keys.length by omega)
   have sL:Bf (Ba n)=2+BK (Ba n) (Ba n).keys.length:=by rw[eL];simp[Bf]
   have sR:Bf (Bi n)=2+BK (Bi n) (Bi n).keys.length:=by rw[eR];simp[Bf]
   omega
  |false=>
   simp only[hlf,Afh,if_false] at hm hrest
   simp only[Afb,decide_eq_true_eq] at hrest
   obtain⟨⟨hvl,hil⟩,hia⟩:=hrest
   have ha4:at2 n≤n.keys.length - 1:=by simp only[at2];omega
   have ha5:2≤at2 n:=by simp only[at2];omega
   have eL:Ba n=⟨false,n.keys.take (at2 n - 1),[],n.kids.take (at2 n)⟩:=by simp[Ba,hc,hlf]
   have eR:Bi n=⟨false,n.keys.drop (at2 n),[],n.kids.drop (at2 n)⟩:=by simp[Bi,hc,hlf]
   have hall:Bf n=2+2*(n.keys.length+1)+BK n n.keys.length:=by simp only[Bf,hlf,Afh,if_false,hil]
   have hcl:BK (Ba n) (Ba n).keys.length=BK n (at2 n - 1):=by
    rw[eL];simp only[Aft,Aka (show at2 n - 1≤n.keys.length by omega)];exact H9 n _ hlf.symm (a:=at2 n - 1) (fun j hj=>by simp only[DW,getD_take hj]) (fun h=>by rw[hlf] at h;cases h) _ (Afe _)
   have hcr:BK (Bi n) (Bi n).keys.length+BK n (at2 n)=BK n n.keys.length:=by
    rw[eR];simp only[Afo];have:=Ig n ⟨false,n.keys.drop (at2 n),[],n.kids.drop (at2 n)⟩ hlf.symm (a:=at2 n) (fun j=>by simp only[DW,Hl]) (fun h=>by rw[hlf] at h;cases h) (n.keys.length - at2 n);rw[this];congr 1;omega
   have hmo:=Hi n (show at2 n - 1≤n.keys.length by omega)
   have sL:Bf (Ba n)=2+2*(n.kids.take (at2 n)).length+BK (Ba n) (Ba n).keys.length:=by rw[eL];simp[Bf]
   have sR:Bf (Bi n)=2+2*(n.kids.drop (at2 n)).length+BK (Bi n) (Bi n).keys.length:=by rw[eR];simp[Bf]
   rw[Aft] at sL
   rw[Afo] at sR
   omega
 ·have eL:Ba n=⟨false,[],[],[]⟩:=by simp[Ba,hc]
  have eR:Bi n=⟨false,[],[],[]⟩:=by simp[Bi,hc]
  rw[eL,eR];decide
end Go.Gk.Tre
end
section
namespace Go.Gk.Tre
open Go Go.Gk Go.Gk.Dev Go.Gk.Cch Go.Gk.Pgr Go.Gk.Chn Go.Gk.Node
attribute [local irreducible] gwp gws xwp
def IZ(P:Program)(f:FuncId):Prop:=∀{d s dv pv L}{bt:Nat}{Tt}{r h c k:Int}{cs}{n:AB},PgT d s dv pv L→Cz d cs n→Small n→
 Ao P f [pZ bt,vZ k,.agg cs.toArray] d (tb bt Tt pv r h c::L) (Ret fun v d' L'=>Le d d'∧∃ua uc L2,v=.tuple #[.agg [vZ (Bp s k n).2.1.page,vZ (Bp s k n).2.1.other,.slice ua (Bp s k n).2.1.key.length uc,vZ (Bp s k n).2.1.size].toArray,vZ (Bp s k n).2.2]∧
  Ay d' (.slice ua (Bp s k n).2.1.key.length uc) (Bp s k n).2.1.key∧L'=tb bt Tt pv r h c::L2∧PgT d' (Bp s k n).1 dv pv L2)
def OG(a0 a1 a2 a3:Nat):A9:=⟨63,[(.cell 6 (some 4)),(.tmp 7)],(sR (o1 5 (.box 2)<|o1 6 (.alo (.agg #[(vZ 0),(vZ 0),nV,(vZ 0)]))<|o1 7 (.mv z0) .done) (.seq (sR (o1 16 (.ld (some 4) 5)<|oc 17 a0 [16] .done) (.cond 17 (sR (om 19 0<|om 20 1<|o1 21 (.ld (some 4) 5)<|oc 22 a1 [19,20,21]<|om 18 22<|oe 23 18 0<|oe 24 18 1<|om 8 23<|om 9 24 .done) (sR (om 25 8<|o1 26 (.ld (some 4) 5)<|oc 27 a2 [26]<|o1 28 (.bld [(0,1),(1,1),(2,1),(3,1)] [(vZ 0),(vZ 0),nV,(vZ 0)] [(0,25),(1,(kZ (-1))),(3,27)])<|om 29 9<|o0 (.st 4 6 28)<|om 7 29 .done) .ret)) .skip)) (sR (o1 31 (.ld (some 4) 5)<|oc 32 a3 [31]<|om 30 32<|oe 33 30 0<|oe 34 30 1<|oe 35 30 2<|oe 36 30 3<|o1 10 (.alo (.agg #[(.bool false),nV,nV,nV]))<|o1 11 (.alo (.agg #[(.bool false),nV,nV,nV]))<|o0 (.st 4 10 33)<|o0 (.st 4 11 34)<|om 12 35<|om 13 36 .done) (.seq (sR (om 37 13<|ob 38 .neq 37 z0 .done) (.cond 38 (sR (o1 39 (.bld [(0,1),(1,1),(2,1),(3,1)] [(vZ 0),(vZ 0),nV,(vZ 0)] [])<|om 40 13<|o0 (.st 4 6 39)<|om 7 40 .done) .ret) .skip)) (sR (om 42 0<|om 43 1<|o1 44 (.ld (some 4) 10)<|oc 45 a1 [42,43,44]<|om 41 45<|oe 46 41 0<|oe 47 41 1<|om 14 46<|om 13 47 .done) (.seq (sR (om 48 13<|ob 49 .neq 48 z0 .done) (.cond 49 (sR (o1 50 (.bld [(0,1),(1,1),(2,1),(3,1)] [(vZ 0),(vZ 0),nV,(vZ 0)] [])<|om 51 13<|o0 (.st 4 6 50)<|om 7 51 .done) .ret) .skip)) (sR (om 53 0<|o1 54 (.ld (some 4) 11)<|oc 55 a1 [53,(kZ (-1)),54]<|om 52 55<|oe 56 52 0<|oe 57 52 1<|om 15 56<|om 13 57 .done) (sR (om 58 14<|om 59 15<|om 60 12<|o1 61 (.bld [(0,1),(1,1),(2,1),(3,1)] [(vZ 0),(vZ 0),nV,(vZ 0)] [(0,58),(1,59),(2,60),(3,(kZ 256))])<|om 62 13<|o0 (.st 4 6 61)<|om 7 62 .done) .ret))))))))⟩
set_option maxRecDepth 4000 in
set_option maxHeartbeats 2000000 in
def Abj{P f f1 f2 f3 f4}(hd:dec P f=some (OG f1 f2 f3 f4))(h1:IV P f1)(h2:IH P f2)(h3:Mt P f3)(h4:Rp P f4):IZ P f:=by
 intro d s dv pv L bt Tt r h c k cs n hp hn hz;have hn0:=hn;obtain⟨ka,kc,va,vc,ia,ic,rfl⟩:=Cz.four hn;refine Bj hd ?_;apply Aw;apply Av;refine CF Z (fun b5 T5=>?_);refine B8 (fun b6 T6=>?_);(refine AR Z<|Bk 1 Z Z Z ?_);have hrt:=h1 hn0 hz.1;cases hr:Bt n with
 |true=>
  rw[hr] at hrt
  have hF:Bp s k n=((Bg s k n).1,⟨(Bg s k n).2.1, -1,[],Bf n⟩,(Bg s k n).2.2):=by unfold Bp;rw[hr,if_pos Z]
  rw[hF]
  clear hr
  refine BH Z hrt ?_
  (refine B7 Z<|A3 Z<|Ab Z<|Bk 1 Z Z Z ?_)
  refine A0 [_,_] (h2 (k:=k) hp hn0 hz.1) Z Z (fun v d2 L2 hl ⟨_,e1,L3,e2,hp2⟩=>?_)
  subst e1;subst e2
  (refine AO Z<|AW Z Z Z Z<|Ab Z<|A7 Z<|Ab Z<|Bk 1 Z Z Z ?_)
  refine BH Z (h3 (hn0.mono hl) hz.1) ?_
  (refine BY Z<|Ab Z ?_)
  refine BA 0 Z Z Z Z (Afe _) Z ?_
  (refine AS Z ?_)
  exact A6 [.agg [vZ (Bg s k n).2.1,vZ (-1),nV,vZ (Bf n:Nat)].toArray,vZ (Bg s k n).2.2] ⟨AY 0 Z Z Z,Af Z,trivial⟩ (d':=d2) (L':=tb bt Tt pv r h c::L3) (Vs.drop (.cons _ (.cons _ (Afa _)))) ⟨hl,none,0,L3,Z,RSl.nil,Z,hp2⟩
 |false=>
  rw[hr] at hrt
  have hF:Bp s k n=if DP n then if (Bg s k (Ba n)).2.2=0 then((Bg (Bg s k (Ba n)).1 (-1) (Bi n)).1,⟨(Bg s k (Ba n)).2.1,(Bg (Bg s k (Ba n)).1 (-1) (Bi n)).2.1,B4 n,256⟩,(Bg (Bg s k (Ba n)).1 (-1) (Bi n)).2.2)
    else((Bg s k (Ba n)).1,CO,(Bg s k (Ba n)).2.2) else(s,CO,200):=by unfold Bp;rw[hr,if_neg (by decide)]
  rw[hF]
  clear hr
  refine BH Z hrt ?_
  (refine Be Z<|Ak<|Bk 1 Z Z Z ?_)
  refine Bz Z (h4 hn0 hz) (fun v d2 L2 _ ⟨e0,ca,cb,kv,La,Lb,g,e1,e2,oa,ob,og⟩=>?_)
  subst e0;subst e1;subst e2
  obtain⟨ga,gc,rfl⟩:=og.val
  obtain⟨d3,v1,hl3,hf⟩:=Vs.Ii d2 (La++Lb++[g])
  have na:=Ej.JR oa hl3 (fun h hm=>hf h (by simp[hm]))
  have nb:=Ej.JR ob hl3 (fun h hm=>hf h (by simp[hm]))
  have hkey:Ay d3 (.slice ga (B4 n).length gc) (B4 n):=Ai.rsl (R:=Ax) (sz:=1) og AF (by omega) hl3 (hf g (by simp))
  have hp3:=hp.mono hl3
  refine B1 _ _ (Vs.app v1 _) ?_
  obtain⟨xa,xc,ya,yc,za,zc,rfl⟩:=Cz.four na
  obtain⟨xa',xc',ya',yc',za',zc',rfl⟩:=Cz.four nb
  by_cases hcb:DP n=true
  ·have hcb2:(if DP n=true then(0:Int) else 200)=0:=if_pos hcb
   rw[if_pos hcb]
   obtain⟨zs1,zs2⟩:=Vn hz.1
   rw[hcb2]
   clear hcb hcb2 hF
   (refine AO Z<|AW Z Z Z Z<|AW Z Z Z Z<|B8 (fun _ _=>B8 (fun _ _=>?_)))
   rename_i b11 T11
   refine BA 1 Z Z Z Z (Afe _) Z ?_
   refine BA 0 Z Z Z Z (Afe _) Z ?_
   (refine Ae Z<|AR Z<|Ab Z<|AJ Z Z<|AT Z<|A3 Z<|Ab Z<|Bk 1 Z Z Z ?_)
   refine A0 [_,_,_,_] (h2 (k:=k) hp3 na zs1) Z Z (fun v d4 L4 hl4 ⟨_,e4,L5,e5,hp5⟩=>?_)
   subst e4;subst e5
   by_cases hz4:(Bg s k (Ba n)).2.2=0
   ·rw[if_pos hz4]
    rw[hz4]
    (refine AO Z<|AW Z Z Z Z<|Ab Z<|AR Z<|Ab Z<|AJ Z Z<|AT Z<|A3 Z<|Bk 0 Z Z Z ?_)
    refine A0 [_,_,_,_] (h2 (k:= -1) hp5 (nb.mono hl4) zs2) Z Z (fun v d6 L6 hl6 ⟨_,e6,L7,e7,hp7⟩=>?_)
    subst e6;subst e7
    (refine AO Z<|AW Z Z Z Z<|Ab Z<|A7 Z<|Ab Z<|Ab Z<|Ae Z<|BY Z<|Ab Z ?_)
    refine BA 2 Z Z Z Z (Afe _) Z ?_
    (refine AS Z ?_)
    exact A6 [.agg [vZ (Bg s k (Ba n)).2.1,vZ (Bg (Bg s k (Ba n)).1 (-1) (Bi n)).2.1,.slice ga (B4 n).length gc,vZ 256].toArray,vZ (Bg (Bg s k (Ba n)).1 (-1) (Bi n)).2.2] ⟨AY 2 Z Z Z,Af Z,trivial⟩ (d':=d6) (L':=tb bt Tt pv r h c::L7) (Vs.drop (.cons _ (.cons _ (.cons _ (.cons _ (Afa _)))))) ⟨hl3.trans (hl4.trans hl6),ga,gc,L7,Z,RSl.mono (R:=Ax) AF hkey (hl4.trans hl6),Z,hp7⟩
   ·rw[if_neg hz4]
    (refine AO Z<|AW Z Z Z Z<|Ab Z<|AR Z<|Ab Z<|AJ Z Z<|A5 Z<|Ak<|BY Z<|Ab Z ?_)
    refine BA 2 Z Z Z Z (Afe _) Z ?_
    (refine AS Z ?_)
    exact A6 [.agg [vZ 0,vZ 0,nV,vZ 0].toArray,vZ (Bg s k (Ba n)).2.2] ⟨AY 2 Z Z Z,Af Z,trivial⟩ (d':=d4) (L':=tb bt Tt pv r h c::L5) (Vs.drop (.cons _ (.cons _ (.cons _ (.cons _ (Afa _)))))) ⟨hl3.trans hl4,none,0,L5,Z,RSl.nil,Z,hp5⟩
  ·have hcb2:(if DP n=true then(0:Int) else 200)=200:=if_neg hcb
   rw[if_neg hcb]
   rw[hcb2]
   clear hcb hcb2 hF
   (refine AO Z<|AW Z Z Z Z<|AW Z Z Z Z<|B8 (fun _ _=>B8 (fun _ _=>?_)))
   rename_i b11 T11
   refine BA 1 Z Z Z Z (Afe _) Z ?_
   refine BA 0 Z Z Z Z (Afe _) Z ?_
   (refine Ae Z<|AR Z<|Ab Z<|AJ Z Z<|A5 Z<|Ak<|BY Z<|Ab Z ?_)
   refine BA 2 Z Z Z Z (Afe _) Z ?_
   (refine AS Z ?_)
   exact A6 [.agg [vZ 0,vZ 0,nV,vZ 0].toArray,vZ 200] ⟨AY 2 Z Z Z,Af Z,trivial⟩ (d':=d3) (L':=tb bt Tt pv r h c::L) (Vs.drop (.cons _ (.cons _ (.cons _ (.cons _ (Afa _)))))) ⟨hl3,none,0,L,Z,RSl.nil,Z,hp3⟩
abbrev tbD(bt:Nat)(Tt:TypeId)(pv:Value)(t:TD):Aa:=tb bt Tt pv t.root t.height t.count
structure MOk (m:MdD):Prop where
 p0: -1≤m.page
 p1:m.page≤16384
 o0: -1≤m.other
 o1:m.other≤16384
 k:m.key.length≤1000
abbrev mdV(m:MdD)(ua:Option Addr)(uc:Nat):Value:=.agg [.int .i64 m.page,.int .i64 m.other,.slice ua m.key.length uc,.int .i64 m.size].toArray
def Kq(P:Program)(f:FuncId):Prop:=∀{d}{t:TD}{m:MdD}{dv pv L}{bt:Nat}{Tt ua}{uc:Nat},PgT d t.s dv pv L→Ay d (.slice ua m.key.length uc) m.key→MOk m→t.height≤1000000→
 Ao P f [pZ bt,mdV m ua uc] d (tbD bt Tt pv t::L) (Ret fun v d' L'=>Le d d'∧v=vZ (Dg t m).2∧∃L2,L'=tbD bt Tt pv (Dg t m).1::L2∧PgT d' (Dg t m).1.s dv pv L2)
def Pb(a0:Nat):A9:=⟨41,[(.tmp 4)],(sR (o1 3 (.box 1)<|o1 4 (.mv z0) .done) (sR (om 7 0<|oj 8 0 3<|ol 9 8<|o1 10 (.nilc 7)<|oj 11 1 10<|o0 (.st 1 11 9) .done) (.seq (sR (oj 12 1 3<|ol 13 12<|ob 14 .lss 13 z0 .done) (.cond 14 (sR (o1 4 (.mv z0) .done) .ret) .skip)) (sR (om 16 0<|oj 17 2 3<|ol 18 17<|o1 19 (.bsl 1 1 [nV] [(0,18)])<|oj 20 0 3<|ol 21 20<|oj 22 1 3<|ol 23 22<|o1 24 (.bsl 2 1 [(vZ 0)] [(0,21),(1,23)])<|o1 25 (.bld [(0,1),(1,1),(2,1),(3,1)] [(.bool false),nV,nV,nV] [(1,19),(3,24)])<|oc 26 a0 [16,(kZ (-1)),25]<|om 15 26<|oe 27 15 0<|oe 28 15 1<|om 5 27<|om 6 28 .done) (sR (om 29 0<|om 30 5<|o1 31 (.nilc 29)<|oj 32 1 31<|o0 (.st 1 32 30) .done) (sR (om 33 0<|o1 34 (.nilc 33)<|oj 35 2 34<|ol 36 35<|ob 37 .add 36 z1<|o1 38 (.nilc 33)<|oj 39 2 38<|o0 (.st 1 39 37) .done) (sR (om 40 6<|om 4 40 .done) .ret)))))))⟩
set_option maxRecDepth 4000 in
def Aan{P f f1}(hd:dec P f=some (Pb f1))(h1:IH P f1):Kq P f:=by
 intro d t m dv pv L bt Tt ua uc hp hk hm hh;obtain⟨s,root,height,count⟩:=t;simp only at hp hh;refine Bj hd ?_;apply Aw;apply Av;refine CF Z (fun b3 T3=>?_);refine A7 Z<|Ag Z<|Az Z Z Z<|Ap Z<|Am Z<|Bb 1 [pv,vZ m.page,vZ height,vZ count] Z Z Z Z (Aff Z) Z Z ?_;by_cases ho:m.other<0
 ·have hF:Dg ⟨s,root,height,count⟩ m=(⟨s,m.page,height,count⟩,0):=by unfold Dg;rw[if_pos ho]
  rw[hF];refine BG<|Az Z Z Z<|Au Z Z<|A5 Z<|AE Z<|BJ<|BZ (L':=tbD bt Tt pv ⟨s,m.page,height,count⟩::L) Z (.cons _ (Afa _)) ⟨Le.refl _,Z,L,Z,hp⟩
 ·have hF:Dg ⟨s,root,height,count⟩ m=(⟨(Bg s (-1) ⟨false,[m.key],[],[m.page,m.other]⟩).1,(Bg s (-1) ⟨false,[m.key],[],[m.page,m.other]⟩).2.1,height+1,count⟩,(Bg s (-1) ⟨false,[m.key],[],[m.page,m.other]⟩).2.2):=by unfold Dg;rw[if_neg ho]
  rw[hF];have hm1:=hm.p0;have hm2:=hm.p1;have hm3:=hm.o0;have hm4:=hm.o1;have hm5:=hm.k;refine BG<|Az Z Z Z<|Au Z Z<|AT Z<|A3 Z<|Az Z Z Z<|DN (v0:=.slice ua m.key.length uc) Z Z (fun b19 T19=>?_);refine Am Z<|Ah Z (AG 1 Z Z)<|Am Z<|Ah Z (AG 1 Z Z)<|Aes (v0:=vZ m.page) (v1:=vZ m.other) Z Z Z Z (fun b24 T24=>?_);(apply BY;rfl);obtain⟨d2,hle,v1,l1,l2⟩:∃d2,Le d d2∧Vs d (bx b24 T24 [vZ m.page,vZ m.other]::bx b19 T19 [.slice ua m.key.length uc]::[]) d2 []∧Le (bx b24 T24 [vZ m.page,vZ m.other]) d2∧Le (bx b19 T19 [.slice ua m.key.length uc]) d2:=
   ⟨join (join d (bx b24 T24 [vZ m.page,vZ m.other])) (bx b19 T19 [.slice ua m.key.length uc]),(Le.Ar _ _).trans (Le.Ar _ _),Vs.freeze.trans Vs.freeze,(Le.Bc _ _).trans (Le.Ar _ _),Le.Bc _ _⟩
  have hn:Cz d2 [.bool false,.slice (some ⟨b19,0,none⟩) 1 1,nV,.slice (some ⟨b24,0,none⟩) 2 2] ⟨false,[m.key],[],[m.page,m.other]⟩:=by
   refine⟨_,_,_,Z,Ai.rsl (R:=RBs) (sz:=1) (d:=d) (Ai.EL (x:=m.key) Z ⟨_,Z,hk⟩) CY (by omega) hle l2,RSl.nil,Ai.rsl (R:=Bh) (sz:=1) (d:=d) (Ai.AeB (l:=[m.page,m.other]) (n:=2) Z (fun x hx=>?_) Z (Aff Z)) Ck (by omega) hle l1⟩
   simp only[Afv,List.not_mem_nil,or_false] at hx;rcases hx with rfl|rfl<;>omega
  refine B1 _ _ (Vs.app v1 _)<|A0 [_] (h1 (k:= -1) (hp.mono hle) hn (by simp[Bf,BK,EJ,DW];omega)) Z Z (fun v d4 L4 hl4 ⟨_,e4,L5,e5,hp5⟩=>?_);subst e4;subst e5;refine AO Z<|AW Z Z Z Z<|Ab Z<|A7 Z<|Ag Z<|Ab Z<|Ap Z<|Am Z<|Bb 1 [pv,vZ (Bg s (-1) ⟨false,[m.key],[],[m.page,m.other]⟩).2.1,vZ height,vZ count] Z Z Z Z (Aff Z) Z Z<|Bo<|Ag Z<|Ap Z<|Am Z<|Ah Z (AG 1 Z Z)<|A4 Z Z<|Ap Z<|Am Z<|Bb 1 [pv,vZ (Bg s (-1) ⟨false,[m.key],[],[m.page,m.other]⟩).2.1,vZ ((height:Int)+1),vZ count] Z Z Z Z (Aff Z) Z Z<|Bo<|Ab Z<|AS Z<|BZ (L':=tbD bt Tt pv ⟨_,(Bg s (-1) ⟨false,[m.key],[],[m.page,m.other]⟩).2.1,height+1,count⟩::L5) Z (.cons _ (Afa _)) ⟨hle.trans hl4,Z,L5,Z,hp5⟩
def QH(P:Program)(f:FuncId):Prop:=∀{d}{b:Bool},Dj P f [.bool b] d (vZ (if b then 1 else 0))
def Uk:A9:=⟨4,[(.tmp 2)],(sR (o1 2 (.mv z0) .done) (.seq (sR (om 3 0 .done) (.cond 3 (sR (o1 2 (.mv z1) .done) .ret) .skip)) (sR (o1 2 (.mv z0) .done) .ret)))⟩
def AaQ{P f}(hd:dec P f=some Uk):QH P f:=by
 intro d b;refine Bj hd ?_;cases b
 ·refine AE Z<|BG<|AV Z<|Cn Z<|AH<|AE Z<|BJ<|AbB Z
 ·refine AE Z<|BG<|AV Z<|Er Z<|AE Z<|BJ<|AbB Z
def On{s}{k:Int}(h:(Bw s k).2=0):Bt (Bw s k).1=true:=by
 unfold Bw at h⊢;by_cases hl:BB s k
 ·rw[if_pos hl] at h⊢;simp only[Ht] at h;cases hr:Node.BU (s.bytes k) with
  |none=>rw[hr] at h;cases h
  |some n=>rw[Ev,hr];exact(PE hr).1
 ·rw[if_neg hl] at h;cases h
def GB{n:AB}(h:Bt n=true)(hl:n.leaf=false):n.kids.length=n.keys.length+1:=by
 simp only[Bt,Bd,hl,Afb,Afh,if_false,decide_eq_true_eq] at h;exact h.1.2.1.2
def HA{n:AB}(h:Bt n=true)(hl:n.leaf=true):n.vals.length=n.keys.length:=by
 simp only[Bt,Bd,hl,Afb,if_true,decide_eq_true_eq] at h;exact h.1.2.1.1
def XC{s}{k:Int}(h:(Bw s k).2=0)(hl:(Bw s k).1.leaf=false):0<(Bw s k).1.kids.length:=by
 rw[GB (On h) hl];omega
def ME(P:Program)(f:FuncId):Prop:=∀{d}{t:TD}{dv pv L}{bt:Nat}{Tt},PgT d t.s dv pv L→1≤t.height→t.height≤1000001→
 Ao P f [pZ bt] d (tbD bt Tt pv t::L) (Ret fun v d' L'=>Le d d'∧v=vZ (El t).2∧∃L2,L'=tbD bt Tt pv (El t).1::L2∧PgT d' (El t).1.s dv pv L2)
def Mf(a0 a1:Nat):A9:=⟨56,[(.tmp 2)],(sR (o1 2 (.mv z0) .done) (sR (om 7 0<|om 8 0<|o1 9 (.nilc 8)<|oj 10 1 9<|ol 11 10<|oc 12 a0 [7,11]<|om 6 12<|oe 13 6 0<|oe 14 6 1<|o1 3 (.alo (.agg #[(.bool false),nV,nV,nV]))<|o0 (.st 4 3 13)<|om 4 14 .done) (.seq (sR (om 15 4<|ob 16 .neq 15 z0<|om 17 16<|oF 18 17 (.fld 1 3)<|oF 19 17 (.ld none 18)<|oF 20 17 (.len 19)<|oF 21 17 (.bin .gtr 20 z0)<|o1 22 (.pick 17 (.const (.bool true)) 21) .done) (.cond 22 (sR (om 23 4<|om 2 23 .done) .ret) .skip)) (.seq (.seq (.reg true (pm 24 0<|p1 25 (.nilc 24)<|p1 26 (.fld 0 25)<|pl 27 26<|pm 28 0<|p1 29 (.nilc 28)<|p1 30 (.fld 1 29)<|pl 31 30<|oc 32 a1 [27,31] (.bar (pm 5 32 .done)))) (sR (om 33 5<|ob 34 .neq 33 z0 .done) (.cond 34 (sR (om 35 5<|om 2 35 .done) .ret) .skip))) (sR (om 36 0<|o1 37 (.nilc 36)<|oj 38 2 37<|ol 39 38<|ob 40 .sub 39 z1<|o1 41 (.nilc 36)<|oj 42 2 41<|o0 (.st 1 42 40) .done) (sR (om 43 0<|o1 44 (.nilc 43)<|oj 45 1 44<|o0 (.st 1 45 (kZ (-1))) .done) (.seq (sR (oj 46 0 3<|ol 47 46<|o1 48 (.un .not 47) .done) (.cond 48 (rG (om 49 0<|oj 50 3 3<|ol 51 50<|o1 52 (.idx 1 51 z0)<|ol 53 52<|o1 54 (.nilc 49)<|oj 55 1 54<|o0 (.st 1 55 53) .done)) .skip)) (sR (o1 2 (.mv z0) .done) .ret))))))))⟩
set_option maxRecDepth 4000 in
def XG{P f f1 f2}(hd:dec P f=some (Mf f1 f2))(h1:Kj P f1)(h2:Pgr.HF P f2):ME P f:=by
 intro d t dv pv L bt Tt hp hh1 hh2;obtain⟨s,root,height,count⟩:=t;simp only at hp hh1 hh2;obtain⟨bp,rfl⟩:=hp.ptr;obtain⟨tc0,hp⟩:=hp;refine Bj hd<|AE Z<|Bo<|Ag Z<|Ag Z<|Ap Z<|Az Z Z Z<|A0 [] (h1 (k:=root) hp) Z Z (fun v d2 L2 hl ⟨_,cs,hk,hv,hi,L3,tc,e1,e2,hn,hp2,htc⟩=>?_);subst e1;subst e2;have hp2:PgT d2 s dv (pZ bp) L3:=⟨tc,hp2⟩
 rw[show Bw {s with tc:=tc0} root=Bw s root from Z] at hn⊢;have hrr:(Bw s root).2=0→(Bw s root).1.leaf=false→0<(Bw s root).1.kids.length:=XC;have hn0:=hn;obtain⟨ka,kc,va,vc,ia,ic,rfl⟩:=hn.cells;have hS:El ⟨s,root,height,count⟩=if (Bw s root).2≠0∨(Bw s root).1.keys≠[] then(⟨s,root,height,count⟩,(Bw s root).2) else if (s.drop root).2≠0 then(⟨(s.drop root).1,root,height,count⟩,(s.drop root).2) else
  (⟨(s.drop root).1,if (Bw s root).1.leaf then -1 else(Bw s root).1.kids.getD 0 0,height - 1,count⟩,0):=Z
 rw[hS];generalize Bw s root=R at hn hn0 hrr;obtain⟨⟨lf,ks,vs,is⟩,e⟩:=R;simp only at hn hn0 hrr⊢;(refine AO Z<|AW Z Z Z Z<|B8 (fun _ _=>?_));rename_i b3 T3;refine BA 0 Z Z Z Z (Afe _) Z ?_;by_cases he:e=0
 ·by_cases hks:ks=[]
  ·subst hks;subst he;rw[if_neg (by simp)];have hz0:([]:List (List UInt8)).length=0:=Z;refine AR Z<|Ab Z<|AJ Z Z<|Ad Z<|Bs Z<|Ac Z<|Am Z<|Ac Z<|c_l Z Z Z<|Ac Z<|AA Z<|Ac Z<|Bu Z Z<|Aj Z Z<|AT Z<|Aw<|Aw<|BE [_,_,_,_,_] L3 Z<|Ag Z<|Ap Z<|Am Z<|Ah Z (AG 4 Z Z)<|Ag Z<|Ap Z<|Am Z<|Ah Z (AG 4 Z Z)<|CX (WI h2 hp2 (k:=root)) Z (fun v d4 L4 hl4 ⟨e4,hp4⟩=>?_);subst e4;by_cases hd4:(s.drop root).2=0
   ·rw[if_neg (fun q=>q hd4)];rw[hd4];refine Cw<|A7 Z<|Ab Z<|AJ Z Z<|AT Z<|A3 Z<|Ap Z<|Am Z<|Ah Z (AG 4 Z Z)<|DT Z Z<|Ap Z<|Am Z<|Bb 4 [pZ bp,vZ root,vZ ((height:Int) - 1),vZ count] Z Z Z Z (Aff Z) Z Z<|Bo<|Ag Z<|Ap Z<|Am Z<|Bb 4 [pZ bp,vZ (-1),vZ ((height:Int) - 1),vZ count] Z Z Z Z (Aff Z) Z Z ?_;have hhh:((height:Int) - 1)=((height - 1:Nat):Int):=by omega
    cases lf with
    |true=>
     (refine BG<|Az Z Z Z<|Bm Z<|Be Z<|AE Z<|BJ ?_)
     rw[hhh]
     exact BZ (L':=tbD bt Tt (pZ bp) ⟨(s.drop root).1, -1,height - 1,count⟩::L4) Z (.cons _ (.cons _ (.cons _ (.cons _ (Afa _))))) ⟨hl.trans hl4,Z,L4,Z,hp4⟩
    |false=>
     have hkk:=hrr Z Z
     obtain⟨kv,vv,iv,q,r1,r2,r3⟩:=hn0
     cases q
     obtain⟨b1,T1,l1,c1,cs1,q1,rfl,hcl,hcs,hle1,⟨rfl,hb1,hb2⟩, -⟩:=Ai.at (by omega) r3 hkk
     cases q1
     have c0:=hcs 0 _ Z
     (refine BG<|Az Z Z Z<|Bm Z<|B7 Z<|Av<|Ag Z<|Az Z Z Z<|BT _ Z Z Z (by omega)<|Ah Z (AG 3 Z (by assumption))<|Ap Z<|Am Z ?_)
     have hg0:is.getD 0 0=is[0]:=by rw[Afd,Afc hkk];rfl
     refine Bb 4 [pZ bp,vZ is[0],vZ ((height:Int) - 1),vZ count] Z Z Z Z (Aff Z) Z Z ?_
     (refine Bo<|AS Z ?_)
     rw[hhh,hg0]
     exact BZ (L':=tbD bt Tt (pZ bp) ⟨(s.drop root).1,is[0],height - 1,count⟩::L4) Z (.cons _ (.cons _ (.cons _ (.cons _ (Afa _))))) ⟨hl.trans hl4,Z,L4,Z,hp4⟩
   ·rw[if_pos hd4];refine Cw<|A7 Z<|Ab Z<|AJ Z Z<|A5 Z<|AE Z<|AS Z<|BZ (L':=tbD bt Tt (pZ bp) ⟨(s.drop root).1,root,height,count⟩::L4) Z (.cons _ (.cons _ (.cons _ (.cons _ (Afa _))))) ⟨hl.trans hl4,Z,L4,Z,hp4⟩
  ·have hkl:0<ks.length:=List.length_pos_iff.2 hks;subst he;rw[if_pos (.inr hks)];refine AR Z<|Ab Z<|AJ Z Z<|Ad Z<|Bs Z<|Ac Z<|Am Z<|Ac Z<|c_l Z Z Z<|Ac Z<|AA Z<|Ac Z<|Bu Z Z<|Aj Z Z<|A5 Z<|AE Z<|AS Z<|BZ (L':=tbD bt Tt (pZ bp) ⟨s,root,height,count⟩::L3) Z (.cons _ (.cons _ (.cons _ (.cons _ (Afa _))))) ⟨hl,Z,L3,Z,hp2⟩
 ·rw[if_pos (.inl he)];refine AR Z<|Ab Z<|AJ Z Z<|Ad Z<|Bx Z<|AQ Z Z<|AQ Z Z<|As Z Z<|B7 Z<|AE Z<|AS Z<|BZ (L':=tbD bt Tt (pZ bp) ⟨s,root,height,count⟩::L3) Z (.cons _ (.cons _ (.cons _ (.cons _ (Afa _))))) ⟨hl,Z,L3,Z,hp2⟩
end Go.Gk.Tre
end
section
namespace Go.Gk
open Go
section
def Xa(pr:Bool)(P:Program)(f:FuncId):Option Lu:=
 match P.funcs[f]? with
 |some fn=>
  if fn.name== "runtime.NumGoroutine" || !P.follows .mixedOrders then none else
  match fn.body with
  |some (.seq a (.seq b (.seq (.region _ ops false) c)))=>
   match SA fn.ntmps ops.toList,fn.results.toList.mapM (H3 P fn.ntmps) with
   |some (fd,g,cs),some rs=>if rs.all (fun r=> !(Jy c).contains (Abv r)) then some ⟨fn.ntmps,rs,.seq (ET pr P fn.ntmps a) (ET pr P fn.ntmps b),fd,g,cs,ET pr P fn.ntmps c⟩ else none
   |_,_=>none
  |_=>none
 |none=>none
section
variable {pr:Bool}{P:Program}
def Xw{pr':Bool}{f}{g:Lu}{v:A9}(hd:Xa pr P f=some g)(hv:Jk pr' P g.g=some v)(hvr:v.res=[]){args}(ha:args.length≤g.n)(hcl:g.caps.length≤v.n){d L R}
  (h:gwp P g.a (SG P g v R) (GP args) d L):Ao P f args d L R:=by
 simp only[Xa] at hd
 split at hd<;>try cases hd
 rename_i fn hf
 split at hd<;>try cases hd
 rename_i hn
 split at hd<;>try cases hd
 rename_i A1 A2 id ops C hb
 split at hd<;>try cases hd
 rename_i fd gg cs rs hdf hrs
 split at hd<;>cases hd
 rename_i hall
 simp only[Agl,not_or,Ahx,Aiv] at hn
 have hm:P.follows .mixedOrders=true:=by simpa using hn.2
 obtain⟨o1,o2,caps,ats,rfl,h1,h2,h3,h4,h5,h6,h7,h8⟩:=Qi hdf
 simp only at h1 h2 h5 h7 h8 hv hcl ha h
 have hvc:Lm P gg:=by
  have hv':=hv;simp only[Jk] at hv';split at hv'<;>try cases hv'
  rename_i fn' hf';split at hv'<;>try cases hv'
  rename_i hn';split at hv'<;>try cases hv'
  rename_i hb';simp only[Agl,not_or,Ahx,Aiv] at hn';exact⟨fn',hf',by rw[hb'];rfl,hn'.1⟩
 refine⟨⟨fn,hf,by rw[hb];rfl,hn.1⟩,fun F W hOk=>?_⟩
 refine calls_of_wp_defers hf hb ?_
 rw[OX ha]
 refine wp_seq (wp_mono (FU (ds:=[]) (F:=F) (W0:=W) (d0:=d) hm A1 _ _ d L W h hOk (Le.refl d) (AL.refl W)) ?_)
 intro e a w hq
 cases e with
 |panic c=>obtain⟨_,_,_,_,_,_,hh⟩:=hq;exact hh.elim
 |exit i=>obtain⟨_,_,_,_,_,_,_,hh⟩:=hq;exact hh.elim
 |ret=>obtain⟨_,_,_,_,_,_,_,hh⟩:=hq;exact hh.elim
 |goto l=>exact hq.elim
 |outgrown=>exact hq.elim
 |normal=>
 obtain⟨ρ0,d01,L01,rfl,k1,k2,k3,k4⟩:=hq
 refine wp_seq (wp_mono (FU (ds:=[]) (F:=F) (W0:=W) (d0:=d) hm A2 _ _ d01 L01 w k4 k1 k2 k3) ?_)
 intro e a w hq
 cases e with
 |panic c=>obtain⟨_,_,_,_,_,_,hh⟩:=hq;exact hh.elim
 |exit i=>obtain⟨_,_,_,_,_,_,_,hh⟩:=hq;exact hh.elim
 |ret=>obtain⟨_,_,_,_,_,_,_,hh⟩:=hq;exact hh.elim
 |goto l=>exact hq.elim
 |outgrown=>exact hq.elim
 |normal=>
 obtain⟨ρ,d1,L1,rfl,k1,k2,k3,k4⟩:=hq
 simp only[SG] at k4
 refine wp_seq (wp_region ?_)
 have l:List.range (#[o1,o2]:Array Oper).size=[0,1]:=Z
 rw[l]
 have g0:(#[o1,o2]:Array Oper)[0]?=some o1:=Z
 have g1:(#[o1,o2]:Array Oper)[1]?=some o2:=Z
 have e1:∀ys,Region.wanted o1 ys=true:=fun ys=>by simp[Region.wanted,h3]
 have e2:∀ys,Region.wanted o2 ys=true:=fun ys=>by simp[Region.wanted,h6]
 have hcv:caps.map (act fn.ntmps ρ []).eval=(cs.map ρ).toArray:=by
  have:=J7 (ρ:=ρ) (ds:=[]) h8;exact Array.ext' (by rw[Array.toList_map,this])
 have x1:∀w,(execOp (act fn.ntmps ρ []).eval o1).run P w=.ok (.value (EB gg (cs.map ρ))) w:=by
  intro w;simp[execOp,h2,Instr.makeFunc,hcv,EB]
 have hfd:(act fn.ntmps (upd ρ fd (EB gg (cs.map ρ))) []).eval (.tmp fd)=EB gg (cs.map ρ):=by
  rw[Bn (x:=.tmp fd) (by simpa [Et] using h7)];simp[ev,upd]
 have x2:∀w,(execOp (act fn.ntmps (upd ρ fd (EB gg (cs.map ρ))) []).eval o2).run P w=.ok (.defer {target:=.fn (.func gg) (cs.map ρ).toArray,args:= #[]}) w:=by
  intro w;generalize (act fn.ntmps (upd ρ fd (EB gg (cs.map ρ))) []).eval=e at hfd;simp[execOp,h5,resolve,hfd,EB,Deferred.ofValue]
 have p1:(act fn.ntmps ρ []).put o1.dst (EB gg (cs.map ρ))=act fn.ntmps (upd ρ fd (EB gg (cs.map ρ))) []:=by
  rw[h1,FH (d:=some fd) (fun _ e=>by cases e;exact h7)];rfl
 simp only[wpOps_cons,wpOp,g0,e1,if_true]
 refine .inl ?_
 simp only[Oper.wp,x1,Oper.upon,p1,wpOps_cons,wpOp,g1,e2,if_true]
 refine .inl ?_
 simp only[x2,h4]
 show Code.wp P C _ (act fn.ntmps (upd ρ fd (EB gg (cs.map ρ))) [{target:=.fn (.func gg) (cs.map ρ).toArray,args:= #[]}]) w
 have hlen:(cs.map ρ).length≤v.n:=by simpa using hcl
 have hinv:∀w,(invoke (.fn (.func gg) (cs.map ρ).toArray) #[]).run P w=.ok (.enter gg (cs.map ρ).toArray) w:=by
  intro w;simp[invoke,FL hvc]
 generalize hD:(⟨.fn (.func gg) (cs.map ρ).toArray, #[]⟩:Deferred)=D
 refine wp_mono (FU (ds:=[D]) (F:=F) (W0:=W) (d0:=d) hm C _ _ d1 L1 w k4 k1 k2 k3) ?_
 subst hD
 have fin:∀a w,(∃ρ' d' L',a=act fn.ntmps ρ' [⟨.fn (.func gg) (cs.map ρ).toArray, #[]⟩]∧Ok (d'::(L'++F)) w∧Le d d'∧AL W w∧gwp P v.code (Nn (C9 rs R ρ')) (GP (cs.map ρ)) d' L')→
   Leaves P fn a.tmps (fun e W'=>∃d' L',Ok (d'::(L'++F)) W'∧Le d d'∧AL W W'∧R e d' L') a.defers .returning w:=by
  rintro a w ⟨ρ',d',L',rfl,j1,j2,j3,j4⟩
  refine leaves_cons (by simp) (hinv w) ((LQ hv hvr hlen j4 j1).mono ?_)
  rintro e u' w' ⟨⟨r,rfl⟩,rfl,d2,L2,q1,q2,q3,vs,q4,d3,L3,q5,q6⟩
  exact⟨Lh vs,Uv hrs q1 q4,d3,L3,q5.2 F w' q1,(j2.trans q2).trans q5.1,j3.trans q3,q6⟩
 intro e a w hq
 cases e with
 |normal=>exact fin a w hq
 |ret=>exact fin a w hq
 |panic c=>obtain⟨_,_,_,_,_,_,hh⟩:=hq;exact hh.elim
 |exit i=>obtain⟨_,_,_,_,_,_,_,hh⟩:=hq;exact hh.elim
 |goto l=>exact hq.elim
 |outgrown=>exact hq.elim
end
end
end Go.Gk
end
section
namespace Go.Gk.Tre
open Go Go.Gk Go.Gk.Dev Go.Gk.Cch Go.Gk.Pgr Go.Gk.Chn Go.Gk.Node
attribute [local irreducible] gwp gws xwp
variable{f:FuncId}
section
def JF(P:Program)(f:FuncId):Prop:=∀{d}{t t':TD}{e:Int}{dv pv L X X'}{bt:Nat}{Tt g caps},PgT d t.s dv pv L→Pgr.AL t.s t'.s→
 (∀d1,Le d d1→Ao P g caps d1 (tbD bt Tt pv t::(X++L)) (Ret fun v d' L'=>Le d1 d'∧v=vZ e∧∃L2,L'=tbD bt Tt pv t'::(X'++L2)∧PgT d' t'.s dv pv L2))→
 Ao P f [pZ bt,.func (.func g) #[] caps.toArray] d (tbD bt Tt pv t::(X++L)) (Ret fun v d' L'=>Le d d'∧v=vZ e∧∃L2,L'=tbD bt Tt pv (CL t t' e)::(X'++L2)∧PgT d' (CL t t' e).s dv pv L2)
def MB(a0 a1:Nat):Lu:=⟨18,[(.cell 4 none)],(sR (o1 2 (.box 0)<|o1 4 (.alo (vZ 0)) .done) (.reg true (pl 7 2<|p1 8 (.nilc 7)<|p1 9 (.fld 0 8)<|pl 10 9<|pl 12 2<|p1 13 (.nilc 12) (.par (o1 14 (.ld (some 4) 13) .done) (.par (o1 6 (.alo (.agg #[(.pointer none),(vZ 0),(vZ 0),(vZ 0)])) .done) (.par (oc 11 a0 [10] .done) (o1 5 (.alo (.pointer none)) .done) .done) (o0 (.st 1 5 11) .done)) (o0 (.st 4 6 14) .done))))),15,a1,[4,6,2,5],(sR (om 16 1<|o1 17 (.callv 16 [])<|o0 (.st 1 4 17) .done) .ret)⟩
def Hz(a0:Nat):A9:=⟨15,[],(sR (ol 4 0<|ob 5 .neq 4 z0 .done) (.cond 5 (sR (ol 6 2<|o1 7 (.ld (some 4) 1)<|o1 8 (.nilc 6)<|o0 (.st 4 8 7) .done) (.reg true (pl 9 2<|p1 10 (.nilc 9)<|p1 11 (.fld 0 10)<|pl 12 11<|pl 13 3<|oc 14 a0 [12,13] .done))) .skip))⟩
def Tj(P:Program)(f:FuncId):Prop:=∃f3,dec P f=some (Hz f3)∧Mr P f3
def Acs{P f3}(hd:dec P f=some (Hz f3))(h:Mr P f3):Tj P f:=⟨f3,hd,h⟩
section
variable {P:Program}{pan:List PanicEntry→AP}{Qn:Env→AP}{Ls L:List Aa}{ρ:Env}{d:Aa}{s:GS}{t:Nat}
def O3{f g}{first cap:Array Value}{args R vs A B}(hp:L.Perm (A++B))(ef:ev ρ f=.func (.func g) first cap)(ea:first.toList++args.map (ev ρ)++cap.toList=vs)
  (hc:Ao P g vs d A (Ret R)) (h:∀v d' L',Le d d'→R v d' L'→gws P pan Qn s Ls (upd ρ t v) d' (L'++B)):gws P pan Qn (.op false ⟨some t,none,.callv f args⟩ s) Ls ρ d L:=
 B1 d (A++B) (Vs.perm hp) (KC A.length ef ea (by rw[List.take_left];exact hc) (fun v d' L' hl hr=>by rw[List.drop_left];exact h v d' L' hl hr))
end
def W7{P}(h:Ij P f){d s dv pv L}(hp:PgT d s dv pv L):Ao P f [pv] d L (Ret fun r d' L'=>L'=L∧Le d d'∧Mk d' s.mark s.frm pv r):=by
 obtain⟨n,hp⟩:=hp;have:=h hp;exact this
def AdY{P}(h:Mr P f){d s s0 dv pv v L}(hp:PgT d s dv pv L)(hG:Pgr.Good s0)(hk:Pgr.AL s0 s)(hm:Mk d s0.mark s0.frm pv v):
  Ao P f [pv,v] d L (Ret fun r d' L'=>d'=d∧r=vZ 0∧PgT d (s.back s0.mark) dv pv L'):=by
 obtain⟨n,hp⟩:=hp
 have hg:=hG.kd
 have hr:wr s0.mark.round=wr s.round:=by rw[show s0.mark.round=s0.round from Z,hk.round]
 refine Ao.Eb (h (m:=s0.mark) hp (by rw[show({s with tc:=n}:PD).frm=s.frm from Z,hk.frm];exact hm) (fun _=>⟨hk.og,fun i=>hg i⟩)) (fun r d' L' _ ⟨h1,h2,_⟩=>⟨d',L',Vs.refl _ _,?_⟩)
 obtain⟨h3,h4⟩:=h2 hr
 exact⟨h1,h3,n,h4⟩
set_option maxRecDepth 4000 in
set_option maxHeartbeats 2000000 in
def WM{P f1 f2}(hd:Xa true P f=some (MB f1 f2))(h1:Ij P f1)(h2:Tj P f2):JF P f:=by
 obtain⟨f3,hv,h3⟩:=h2;intro d t t' e dv pv L X X' bt Tt g caps hp hk hdo;obtain⟨bp,rfl⟩:=hp.ptr;have hG:=hp.Fc;refine Xw hd hv Z (Aff Z) (Aff Z) ?_;show gwp P _ _ _ _ _;apply Aw;apply Av;refine Fv Z (fun b2 T2=>?_);refine DD (fun b4 T4=>?_);apply An;refine BE [bx b4 T4 [vZ 0],bx b2 T2 [pZ bt],tbD bt Tt (pZ bp) t] (X++L) Z<|Ah Z (AG 1 Z Z)<|Ap Z<|Am Z<|Ah Z (AG 2 Z Z)<|Ah Z (AG 1 Z Z)<|Ap Z<|Gh (α:=Unit) (β:=(Nat×TypeId)×(Nat×TypeId)×Value) [(1,.func (.func g) #[] caps.toArray),(2,pZ b2),(4,pZ b4)]
  (fun _=>[(14,.agg [pZ bp,vZ t.root,vZ t.height,vZ t.count].toArray)]) (fun _ _ M=>M=[]) (fun y=>[(6,.pointer (some ⟨y.1.1,0,none⟩)),(5,.pointer (some ⟨y.2.1.1,0,none⟩))])
  (fun y d' M=>Mk d' t.s.mark t.s.frm (pZ bp) y.2.2∧M=bx y.1.1 y.1.2 [.pointer none,vZ 0,vZ 0,vZ 0]::bx y.2.1.1 y.2.1.2 [y.2.2]::(X++L)) [] (X++L) Z
  (fun x d d' M hl h=>h) (fun y d d' M hl h=>⟨h.1.mono hl,h.2⟩) (fun x=>Z) (fun y=>Z) Z ⟨Z,Z,Z,trivial⟩ ?_ ?_ ?_
 ·(refine Bk 2 Z Z Z<|A8 ?_);exact⟨_,Z,(),⟨Z,trivial⟩,Z⟩
 ·refine Gh (α:=Nat×TypeId) (β:=(Nat×TypeId)×Value) [] (fun x=>[(6,.pointer (some ⟨x.1,0,none⟩))]) (fun x _ M=>M=[bx x.1 x.2 [.pointer none,vZ 0,vZ 0,vZ 0]])
   (fun y=>[(11,y.2),(5,.pointer (some ⟨y.1.1,0,none⟩))]) (fun y d' M=>Mk d' t.s.mark t.s.frm (pZ bp) y.2∧M=(X++L)++[bx y.1.1 y.1.2 [.pointer none]]) [] (X++L) Z
   (fun x d d' M hl h=>h) (fun y d d' M hl h=>⟨h.1.mono hl,h.2⟩) (fun x=>Z) (fun y=>Z) Z trivial ?_ ?_ ?_
  ·refine B8 (fun b6 T6=>?_);(apply A8);exact⟨_,Z,(b6,T6),⟨Z,trivial⟩,Z⟩
  ·refine Gh (α:=Value) (β:=Nat×TypeId) [] (fun x=>[(11,x)]) (fun x d' M=>Mk d' t.s.mark t.s.frm (pZ bp) x∧M=X++L) (fun y=>[(5,.pointer (some ⟨y.1,0,none⟩))]) (fun y _ M=>M=[bx y.1 y.2 [.pointer none]]) (X++L) [] (by simp)
    (fun x d d' M hl h=>⟨h.1.mono hl,h.2⟩) (fun y d d' M hl h=>h) (fun x=>Z) (fun y=>Z) Z trivial ?_ ?_ ?_
   ·refine A0 X (W7 h1 hp) Z Z (fun v d2 L2 hl2 ⟨e1,_,hm⟩=>?_);subst e1;(apply A8);exact⟨_,Z,v,⟨Z,trivial⟩,hm,Z⟩
   ·refine DD (fun b5 T5=>?_);(apply A8);exact⟨_,Z,(b5,T5),⟨Z,trivial⟩,Z⟩
   ·rintro mv ⟨b5,T5⟩ ρ2 d2 M1 M2 hl2 ⟨hm,hM1⟩ hM2;subst hM1;subst hM2;(apply A8);exact⟨_,Z,((b5,T5),mv),⟨Z,Z,trivial⟩,hm,Z⟩
  ·rintro⟨b6,T6⟩ ⟨⟨b5,T5⟩,mv⟩ ρ2 d2 M1 M2 hl2 hM1 ⟨hm,hM2⟩;subst hM1;subst hM2;refine B1 _ (bx b5 T5 [.pointer none]::bx b6 T6 [.pointer none,vZ 0,vZ 0,vZ 0]::(X++L)) (Vs.perm ((Afi (l₁:=_::(X++L)) (l₂:=[_])))) ?_;have hmc:∃bm,mv=pZ bm:=by obtain⟨bm,_,_,_,_,_,q,_⟩:=hm;exact⟨bm,q⟩
   obtain⟨bm,rfl⟩:=hmc;refine Bb 0 [pZ bm] Z Z Z Z (Afe _) Z Z<|IN ⟨d2,_,Vs.perm (List.Perm.append_left _ (Afx _ _ _)),?_⟩;exact⟨_,Z,((b6,T6),(b5,T5),_),⟨Z,Z,trivial⟩,hm,Z⟩
 rintro _ ⟨⟨b6,T6⟩,⟨b5,T5⟩,mv⟩ ρ2 d2 M1 M2 hl2 hM1 ⟨hm,hM2⟩;subst hM1;subst hM2;simp only at hm⊢;refine BA 0 Z Z Z Z (Afe _) Z ?_;apply A8;show gwp P _ _ _ _ _;refine Ak<|FZ Z<|O3 (A:=tbD bt Tt (pZ bp) t::(X++L)) (B:=[_,_,_,_]) ((Agi (l₁:=[_,_])).trans (Afm _ (Afi (l₁:=[_,_,_,_])))) Z Z (hdo d2 hl2) (fun v d3 L3 hl3 ⟨_,e1,L4,e2,hp4⟩=>?_);subst e1;subst e2;refine B1 _ _ (Vs.perm (Afi (l₂:=[_,_,_,_])))<|Bb 0 [vZ e] Z Z Z Z (Afe _) Z Z<|BJ<|Ak<|c_l Z Z Z<|AJ Z Z<|An ?_;show gwp P _ _ _ _ _;skip;by_cases he:e=0
 ·have hF:CL t t' e=t':=by unfold CL;rw[if_pos he]
  rw[hF];refine BM Z<|AH<|A6 [vZ e] ⟨⟨_,_,Z,AG 0 Z Z⟩,trivial⟩ (d':=d3) (L':=tbD bt Tt (pZ bp) t'::(X'++L4)) (Vs.drop (.cons _ (.cons _ (.cons _ (.cons _ (Afa _)))))) ⟨hl2.trans hl3,Z,L4,Z,hp4⟩
 ·have hF:CL t t' e={t with s:=t'.s.back t.s.mark}:=by unfold CL;rw[if_neg he]
  rw[hF];refine B2 Z<|Ak<|Ah Z (AG 1 Z Z)<|Bk 2 Z Z Z<|Ap Z<|BA 4 Z Z Z Z (Afe _) Z ?_;(apply An);refine BE [_,_,_,_,_] (X'++L4) Z<|Ah Z (AG 1 Z Z)<|Ap Z<|Am Z<|Ah Z (AG 4 Z Z)<|Ah Z (AG 3 Z Z)<|A0 X' (AdY h3 hp4 hG hk (hm.mono hl3)) Z Z (fun v d5 L5 hl5 ⟨e5,_,hp5⟩=>?_);subst e5;(apply A8);exact A6 [vZ e] ⟨⟨_,_,Z,AG 0 Z Z⟩,trivial⟩ (d':=d5) (L':=tbD bt Tt (pZ bp) {t with s:=t'.s.back t.s.mark}::(X'++L5)) (Vs.drop (.cons _ (.cons _ (.cons _ (.cons _ (Afa _)))))) ⟨hl2.trans hl3,Z,L5,Z,hp5⟩
end
def Ue(P:Program)(f:FuncId):Prop:=∀{d s dv pv L},Pg d s dv pv L→
 Ao P f [pv] d L (Ret fun v d' L'=>Le d d'∧∃bt Tt,v=.tuple #[pZ bt,vZ 0]∧L'=tbD bt Tt pv ⟨s, -1,0,0⟩::L)
def WJ(a0:Nat):A9:=⟨10,[(.tmp 2),(.tmp 3)],(sR (o1 2 (.mv (.const (.pointer none)))<|o1 3 (.mv z0) .done) (.seq (sR (om 4 0<|oc 5 a0 [4]<|o1 6 (.eqp false 5 (.const (.pointer none))) .done) (.cond 6 (sR (o1 2 (.mv (.const (.pointer none)))<|o1 3 (.mv z1) .done) .ret) .skip)) (sR (om 7 0<|o1 8 (.bld [(0,1),(1,1),(2,1),(3,1)] [(.pointer none),(vZ 0),(vZ 0),(vZ 0)] [(0,7),(1,(kZ (-1)))])<|o1 9 (.box 8)<|om 2 9<|o1 3 (.mv z0) .done) .ret)))⟩
def AcS{P f1}(hd:dec P f=some (WJ f1))(h1:Ij P f1):Ue P f:=by
 intro d s dv pv L hp;obtain⟨bp,rfl⟩:=hp.ptr;refine Bj hd<|A3 Z<|AR Z<|Ag Z<|CX (h1 hp) Z (fun v d2 L2 hl2 ⟨e1,_,hm⟩=>?_);subst e1;have hmc:∃bm,v=pZ bm:=by obtain⟨bm,_,_,_,_,_,q,_⟩:=hm;exact⟨bm,q⟩
 obtain⟨bm,rfl⟩:=hmc;(refine CG Z Z<|Be Z<|A3 Z<|BY Z<|CF Z (fun _ _=>Ag Z<|AS Z ?_));exact A6 [pZ _,vZ 0] ⟨Af Z,Af Z,trivial⟩ (Vs.refl _ _) ⟨hl2,_,_,Z,Z⟩
def CE(root height count:Int):Bool:=(decide (height=0)&& decide (root= -1)&& decide (count=0))||(decide (1≤height)&& decide (0≤root)&& decide (1≤count))
def IS(P:Program)(f:FuncId):Prop:=∀{d s dv pv L}{root height count:Int},Pg d s dv pv L→ -1000000000≤root→root≤1000000000→ -1000000000≤height→height≤1000000000→ -1000000000≤count→count≤1000000000→
 Ao P f [pv,vZ root,vZ height,vZ count] d L (Ret fun v d' L'=>Le d d'∧((CE root height count=true∧∃bt Tt,v=.tuple #[pZ bt,vZ 0]∧L'=tb bt Tt pv root height count::L)∨(CE root height count=false∧v=.tuple #[.pointer none,vZ 2]∧L'=L)))
def Vb(a0:Nat):A9:=⟨46,[(.tmp 8),(.tmp 9)],(sR (o1 8 (.mv (.const (.pointer none)))<|o1 9 (.mv z0) .done) (sR (om 11 2<|ob 12 .eql 11 z0<|om 13 12<|gT 14 13 1<|oT 15 13 (.bin .eql 14 (kZ (-1)))<|gP 16 13 15<|om 17 16<|gT 18 17 3<|oT 19 17 (.bin .eql 18 z0)<|gP 20 17 19<|om 10 20 .done) (.seq (.block 0 (sR (om 22 0<|oc 23 a0 [22]<|o1 24 (.eqp false 23 (.const (.pointer none)))<|om 21 24 .done) (.cond 21 (sR (o1 8 (.mv (.const (.pointer none)))<|o1 9 (.mv z1) .done) .ret) (sR (om 26 10<|o1 27 (.un .not 26)<|om 28 27<|gT 29 28 2<|oT 30 28 (.bin .lss 29 z1)<|gT 31 28 30<|gF 32 31 1<|oF 33 31 (.bin .lss 32 z0)<|oT 34 28 (.pick 31 (.const (.bool true)) 33)<|gT 35 28 34<|gF 36 35 3<|oF 37 35 (.bin .lss 36 z1)<|oT 38 28 (.pick 35 (.const (.bool true)) 37)<|gP 39 28 38<|om 25 39 .done) (.cond 25 (sR (o1 8 (.mv (.const (.pointer none)))<|o1 9 (.mv z2) .done) .ret) .skip))))) (sR (om 40 0<|om 41 1<|om 42 2<|om 43 3<|o1 44 (.bld [(0,1),(1,1),(2,1),(3,1)] [(.pointer none),(vZ 0),(vZ 0),(vZ 0)] [(0,40),(1,41),(2,42),(3,43)])<|o1 45 (.box 44)<|om 8 45<|o1 9 (.mv z0) .done) .ret))))⟩
def Aak{P f1}(hd:dec P f=some (Vb f1))(h1:Ij P f1):IS P f:=by
 intro d s dv pv L root height count hp r0 r1 q0 q1 c0 c1;obtain⟨bp,rfl⟩:=hp.ptr;have hmk:∀{d1 v},Mk d1 s.mark s.frm (pZ bp) v→∃bm,v=pZ bm:=fun⟨bm,_,_,_,_,_,q,_⟩=>⟨bm,q⟩
 refine Bj hd ?_;by_cases e1:height=0
 ·by_cases e2:root= -1
  ·by_cases e3:count=0
   ·refine A3 Z<|A7 Z<|Ab Z<|AI Z Z<|Ad Z<|Bx Z<|Ac Z<|Ab Z<|Ac Z<|AI Z Z<|As Z Z<|Ad Z<|Bx Z<|Ac Z<|Ab Z<|Ac Z<|AI Z Z<|As Z Z<|AV Z<|Aw<|Aq<|A3 Z<|CX (h1 hp) Z (fun v d2 L2 hl2 ⟨e4,_,hm⟩=>?_);subst e4;obtain⟨bm,rfl⟩:=hmk hm;(refine CG Z Z<|AV Z<|Cn Z<|Ak<|Ad Z<|Bm Z<|Ad Z ?_);first|refine SL rfl (fun h9=>?_) (fun h9=>?_)|refine UD rfl (fun h9=>?_) (fun h9=>?_)
    ·exact absurd (show decide (count=0)=false by simpa using h9) (by simp[e3])
    ·clear h9;(refine AQ Z Z<|BP Z<|Cp Z<|Cp Z<|AQ Z Z<|Cp Z<|Cp Z<|BP Z<|Aj Z Z<|AV Z<|Cn Z<|AH<|A3 Z<|Ab Z<|Ab Z<|Ab Z<|BY Z<|CF Z (fun _ _=>Ag Z<|AS Z ?_));exact A6 [pZ _,vZ 0] ⟨Af Z,Af Z,trivial⟩ (Vs.refl _ _) ⟨hl2,.inl ⟨by simp[CE,e1,e2,e3],_,_,Z,Z⟩⟩
   ·refine A3 Z<|A7 Z<|Ab Z<|AI Z Z<|Ad Z<|Bx Z<|Ac Z<|Ab Z<|Ac Z<|AI Z Z<|As Z Z<|Ad Z<|Bx Z<|Ac Z<|Ab Z<|Ac Z<|AI Z Z<|As Z Z<|AV Z<|Aw<|Aq<|A3 Z<|CX (h1 hp) Z (fun v d2 L2 hl2 ⟨e4,_,hm⟩=>?_);subst e4;obtain⟨bm,rfl⟩:=hmk hm;(refine CG Z Z<|AV Z<|Cn Z<|Ak<|Ad Z<|Bm Z<|Ad Z ?_);first|refine SL rfl (fun h9=>?_) (fun h9=>?_)|refine UD rfl (fun h9=>?_) (fun h9=>?_)
    ·clear h9;refine Ac Z<|Ab Z<|Ac Z<|Au Z Z<|Ac Z<|Ad Z<|Bx Z<|AQ Z Z<|Ac Z<|As Z Z<|Ac Z<|Ad Z<|AQ Z Z<|Ac Z<|As Z Z<|As Z Z<|AV Z<|Er Z<|A3 Z<|AS Z<|A6 [.pointer none,vZ 2] ⟨Af Z,Af Z,trivial⟩ (Vs.refl _ _) ⟨hl2,.inr ⟨by simp[CE,e1,e2,e3],Z,Z⟩⟩
    ·exact absurd (show decide (count=0)=true by simpa using h9) (by simp[e3])
  ·refine A3 Z<|A7 Z<|Ab Z<|AI Z Z<|Ad Z<|Bx Z<|Ac Z<|Ab Z<|Ac Z<|AI Z Z<|As Z Z<|Ad Z<|Bs Z<|AQ Z Z<|Aj Z Z<|AV Z<|Aw<|Aq<|A3 Z<|CX (h1 hp) Z (fun v d2 L2 hl2 ⟨e4,_,hm⟩=>?_);subst e4;obtain⟨bm,rfl⟩:=hmk hm;refine CG Z Z<|AV Z<|Cn Z<|Ak<|Ad Z<|Bm Z<|Ad Z<|Ac Z<|Ab Z<|Ac Z<|Au Z Z<|Ac Z<|Ad Z<|Bx Z<|AQ Z Z<|Ac Z<|As Z Z<|Ac Z<|Ad Z<|AQ Z Z<|Ac Z<|As Z Z<|As Z Z<|AV Z<|Er Z<|A3 Z<|AS Z<|A6 [.pointer none,vZ 2] ⟨Af Z,Af Z,trivial⟩ (Vs.refl _ _) ⟨hl2,.inr ⟨by simp[CE,e1,e2],Z,Z⟩⟩
 ·by_cases e2:height<1
  ·refine A3 Z<|A7 Z<|Ab Z<|AI Z Z<|Ad Z<|Bs Z<|AQ Z Z<|Aj Z Z<|Ad Z<|AQ Z Z<|Aj Z Z<|AV Z<|Aw<|Aq<|A3 Z<|CX (h1 hp) Z (fun v d2 L2 hl2 ⟨e4,_,hm⟩=>?_);subst e4;obtain⟨bm,rfl⟩:=hmk hm;refine CG Z Z<|AV Z<|Cn Z<|Ak<|Ad Z<|Bm Z<|Ad Z<|Ac Z<|Ab Z<|Ac Z<|Au Z Z<|Ac Z<|Ad Z<|Bx Z<|AQ Z Z<|Ac Z<|As Z Z<|Ac Z<|Ad Z<|AQ Z Z<|Ac Z<|As Z Z<|As Z Z<|AV Z<|Er Z<|A3 Z<|AS Z<|A6 [.pointer none,vZ 2] ⟨Af Z,Af Z,trivial⟩ (Vs.refl _ _) ⟨hl2,.inr ⟨by simp[CE,e1];omega,Z,Z⟩⟩
  ·by_cases e3:root<0
   ·refine A3 Z<|A7 Z<|Ab Z<|AI Z Z<|Ad Z<|Bs Z<|AQ Z Z<|Aj Z Z<|Ad Z<|AQ Z Z<|Aj Z Z<|AV Z<|Aw<|Aq<|A3 Z<|CX (h1 hp) Z (fun v d2 L2 hl2 ⟨e4,_,hm⟩=>?_);subst e4;obtain⟨bm,rfl⟩:=hmk hm;refine CG Z Z<|AV Z<|Cn Z<|Ak<|Ad Z<|Bm Z<|Ad Z<|Ac Z<|Ab Z<|Ac Z<|Au Z Z<|Ac Z<|Ad Z<|Bs Z<|Ac Z<|Ab Z<|Ac Z<|Au Z Z<|Ac Z<|Aj Z Z<|Ac Z<|Ad Z<|Bx Z<|AQ Z Z<|Ac Z<|As Z Z<|As Z Z<|AV Z<|Er Z<|A3 Z<|AS Z<|A6 [.pointer none,vZ 2] ⟨Af Z,Af Z,trivial⟩ (Vs.refl _ _) ⟨hl2,.inr ⟨by simp[CE,e1];omega,Z,Z⟩⟩
   ·by_cases e5:count<1
    ·refine A3 Z<|A7 Z<|Ab Z<|AI Z Z<|Ad Z<|Bs Z<|AQ Z Z<|Aj Z Z<|Ad Z<|AQ Z Z<|Aj Z Z<|AV Z<|Aw<|Aq<|A3 Z<|CX (h1 hp) Z (fun v d2 L2 hl2 ⟨e4,_,hm⟩=>?_);subst e4;obtain⟨bm,rfl⟩:=hmk hm;refine CG Z Z<|AV Z<|Cn Z<|Ak<|Ad Z<|Bm Z<|Ad Z<|Ac Z<|Ab Z<|Ac Z<|Au Z Z<|Ac Z<|Ad Z<|Bs Z<|Ac Z<|Ab Z<|Ac Z<|Au Z Z<|Ac Z<|Aj Z Z<|Ac Z<|Ad Z<|Bs Z<|Ac Z<|Ab Z<|Ac Z<|Au Z Z<|Ac Z<|Aj Z Z<|As Z Z<|AV Z<|B2 Z<|A3 Z<|AS Z<|A6 [.pointer none,vZ 2] ⟨Af Z,Af Z,trivial⟩ (Vs.refl _ _) ⟨hl2,.inr ⟨by simp[CE,e1];omega,Z,Z⟩⟩
    ·refine A3 Z<|A7 Z<|Ab Z<|AI Z Z<|Ad Z<|Bs Z<|AQ Z Z<|Aj Z Z<|Ad Z<|AQ Z Z<|Aj Z Z<|AV Z<|Aw<|Aq<|A3 Z<|CX (h1 hp) Z (fun v d2 L2 hl2 ⟨e4,_,hm⟩=>?_);subst e4;obtain⟨bm,rfl⟩:=hmk hm;(refine CG Z Z<|AV Z<|Cn Z<|Ak<|Ad Z<|Bm Z<|Ad Z<|Ac Z<|Ab Z<|Ac Z<|Au Z Z<|Ac Z<|Ad Z<|Bs Z<|Ac Z<|Ab Z<|Ac Z<|Au Z Z<|Ac Z<|Aj Z Z<|Ac Z<|Ad Z<|Bs Z<|Ac Z<|Ab Z<|Ac Z<|Au Z Z<|Ac Z<|Aj Z Z<|As Z Z<|AV Z<|BM Z<|AH<|A3 Z<|Ab Z<|Ab Z<|Ab Z<|BY Z<|CF Z (fun _ _=>Ag Z<|AS Z ?_));exact A6 [pZ _,vZ 0] ⟨Af Z,Af Z,trivial⟩ (Vs.refl _ _) ⟨hl2,.inl ⟨by simp[CE,e1];omega,_,_,Z,Z⟩⟩
end Go.Gk.Tre
end
section
namespace Go.Gk.Tre
open Go Go.Gk Go.Gk.Dev Go.Gk.Cch Go.Gk.Pgr Go.Gk.Chn Go.Gk.Node
variable{n:AB}
structure Fit (n:AB) (N:Nat):Prop where
 k:n.keys.length≤N
 v:n.vals.length≤N
 i:n.kids.length≤N
 kl:∀x∈n.keys,x.length≤1000
 vl:∀x∈n.vals,x.length≤1000
def QG{l:List (List UInt8)}(h:∀x∈l,x.length≤1000)(j:Nat):(l.getD j []).length≤1000:=by
 rw[Afd];cases q:l[j]? with
 |none=>simp
 |some x=>exact h x (List.mem_of_getElem? q)
def S7(hk:∀x∈n.keys,x.length≤1000)(hv:∀x∈n.vals,x.length≤1000):∀k,BK n k≤2002*k
 |0=>by simp[BK]
 |k+1=>by
  have h1:=S7 hk hv k;have h2:DW n k≤1000:=QG hk k;have h3:FJ n k≤1000:=QG hv k;simp only[BK,EJ];split<;>omega
def Fit.small{N:Nat}(h:Fit n N)(hN:N≤100000):Small n:=by
 have h1:=S7 h.kl h.vl n.keys.length;have h2:=h.k;have h3:=h.i;have h4:=h.v;refine⟨?_,by omega,by omega,by omega⟩
 unfold Bf;split<;>omega
def Ku{n:AB}:∀k,k≤BK n k
 |0=>Afe _
 |k+1=>by
  have:=Ku (n:=n) k;simp only[BK,EJ];split<;>omega
def H4(h:Bt n=true):Fit n 257∧∀x∈n.keys,x.length≤64:=by
 have hs:Bd n=true:=by simp only[Bt,Afb] at h;exact h.1
 have hz:Bf n≤256:=by simp only[Bt,Afb,decide_eq_true_eq] at h;exact h.2
 have hk:n.keys.length≤254:=by
  have:=Ku (n:=n) n.keys.length;unfold Bf at hz;omega
 have hkl:∀x∈n.keys,x.length≤64:=fun x hx=>by
  obtain⟨k,hk,rfl⟩:=Ahe hx;simp only[Bd,Afb] at hs;exact TE hs.1 hk
 refine⟨⟨by omega,?_,?_,fun x hx=>by have:=hkl x hx;omega,fun x hx=>?_⟩,hkl⟩
 ·simp only[Bd,Afb] at hs;cases hl:n.leaf with
  |true=>
   have h2:=hs.2
   simp only[hl,if_true,Afb,decide_eq_true_eq] at h2
   omega
  |false=>
   have h2:=hs.2
   simp only[hl,Afh,if_false,Afb,decide_eq_true_eq] at h2
   omega
 ·simp only[Bd,Afb] at hs;cases hl:n.leaf with
  |true=>
   have h2:=hs.2
   simp only[hl,if_true,Afb,decide_eq_true_eq] at h2
   omega
  |false=>
   have h2:=hs.2
   simp only[hl,Afh,if_false,Afb,decide_eq_true_eq] at h2
   omega
 ·simp only[Bd,Afb] at hs;cases hl:n.leaf with
  |true=>
   have h2:=hs.2
   simp only[hl,if_true,Afb,decide_eq_true_eq,Afs] at h2
   have:=h2.2 x hx
   simp only[ID,decide_eq_true_eq] at this
   omega
  |false=>
   have h2:=hs.2
   simp only[hl,Afh,if_false,Afb,decide_eq_true_eq] at h2
   have:n.vals=[]:=Afl h2.1.1
   rw[this] at hx;cases hx
def Li{α}{l:List α}{i:Nat}{y x:α}(h:x∈Cv l i y):x=y∨x∈l:=by
 unfold Cv at h;rcases Afj.1 h with h|h
 ·exact .inr (Ake h)
 ·rcases Afv.1 h with h|h
  ·exact .inl h
  ·exact .inr (Ajk h)
def MK{α}{l:List α}{i:Nat}{x:α}(h:x∈l.eraseIdx i):x∈l:=(List.eraseIdx_sublist l i).subset h
def Ri{α}{l:List α}{i:Nat}{y x:α}(h:x∈l.set i y):x=y∨x∈l:=(List.mem_or_eq_of_mem_set h).symm
end Go.Gk.Tre
end
section
namespace Go.Gk.Tre
open Go Go.Gk Go.Gk.Dev Go.Gk.Cch Go.Gk.Pgr Go.Gk.Chn Go.Gk.Node
attribute [local irreducible] gwp gws xwp
def LH(P:Program)(f:FuncId):Prop:=∀{d s dv pv L}{bt:Nat}{Tt}{r h c k:Int}{cs}{n:AB}{hk hv hi}{i:Nat}{m:MdD}{ua}{uc:Nat},
 PgT d s dv pv L→Es d cs n hk hv hi→Fit n 1000→i<n.kids.length→(0≤m.other→i≤n.keys.length)→MOk m→Ay d (.slice ua m.key.length uc) m.key→
 Ao P f [pZ bt,vZ k,.agg cs.toArray,vZ i,mdV m ua uc] d (hk::hv::hi::tb bt Tt pv r h c::L) (Ret fun v d' L'=>Le d d'∧∃ua' uc' L2,v=.tuple #[mdV (CS s k n i m).2.1 ua' uc',vZ (CS s k n i m).2.2]∧
  Ay d' (.slice ua' (CS s k n i m).2.1.key.length uc') (CS s k n i m).2.1.key∧L'=tb bt Tt pv r h c::L2∧PgT d' (CS s k n i m).1 dv pv L2)
def N5(a0 a1 a2 a3:Nat):A9:=⟨61,[(.cell 10 (some 4)),(.tmp 11)],(sR (o1 7 (.box 2)<|o1 9 (.box 4)<|o1 10 (.alo (.agg #[(vZ 0),(vZ 0),nV,(vZ 0)]))<|o1 11 (.mv z0) .done) (.seq (.seq (.reg true (p1 12 (.fld 3 7)<|pl 13 12<|pm 14 3<|p1 15 (.idx 1 13 14)<|pl 16 15<|p1 17 (.fld 0 9)<|pl 18 17<|p1 19 (.bin .eql 16 18)<|pm 20 19 (.op true ⟨(some 21),(some (20,true)),(.fld 1 9)⟩ (.op true ⟨(some 22),(some (20,true)),(.ld none 21)⟩ (.op true ⟨(some 23),(some (20,true)),(.bin .lss 22 z0)⟩ (p1 24 (.pick 20 23 (.const (.bool false))) .done)))))) (.cond 24 (sR (om 25 1<|o1 26 (.ld (some 4) 7)<|oc 27 a0 [26]<|o1 28 (.bld [(0,1),(1,1),(2,1),(3,1)] [(vZ 0),(vZ 0),nV,(vZ 0)] [(0,25),(1,(kZ (-1))),(3,27)])<|o0 (.st 4 10 28)<|o1 11 (.mv z0) .done) .ret) .skip)) (sR (oj 29 3 7<|ol 30 29<|om 31 3<|oj 32 0 9<|ol 33 32<|oI 34 1 30 31<|o0 (.st 1 34 33) .done) (.seq (sR (oj 35 1 9<|ol 36 35<|ob 37 .geq 36 z0 .done) (.cond 37 (.reg true (p1 38 (.fld 1 7)<|pl 39 38<|pm 40 3<|p1 41 (.fld 2 9)<|pl 42 41<|p1 45 (.fld 3 7)<|pl 46 45<|pm 47 3<|p1 48 (.bin .add 47 z1)<|p1 49 (.fld 1 9)<|pl 50 49 (.par (o1 51 (.bsl 1 1 [(vZ 0)] [(0,50)]) .done) (o1 43 (.bsl 1 1 [nV] [(0,42)]) (oc 44 a1 [39,40,43] (p1 53 (.fld 1 7) .done))) (oc 52 a2 [46,48,51] (.bar (o0 (.st 1 53 44) (p1 54 (.fld 3 7) (o0 (.st 1 54 52) .done)))))))) .skip)) (sR (om 55 0<|om 56 1<|o1 57 (.ld (some 4) 7)<|oc 58 a3 [55,56,57]<|oe 59 58 0<|oe 60 58 1<|o0 (.st 4 10 59)<|om 11 60 .done) .ret)))))⟩
def _root_.Go.Gk.Vs.out{d d'}(A B:List Aa){M M'}(p:M.Perm M')(v:Vs d M' d' []):Vs d (A++(M++B)) d' (A++B):=by
 have p1:(A++(M++B)).Perm (M'++(A++B)):=by
  refine(List.perm_append_comm_assoc A M B).trans ?_;exact Ahz _ p
 exact(Vs.perm p1).trans (Vs.app v (A++B))
def Gs{d cs}{n:AB}{hk hv hi}(o:Es d cs n hk hv hi):∃d2,Le d d2∧Vs d [hk,hv,hi] d2 []∧Cz d2 cs n:=by
 obtain⟨d2,h1,h2,h3⟩:=Vs.Ii d [hk,hv,hi];exact⟨d2,h2,h1,o.JR h2 (h3 _ (by simp)) (h3 _ (by simp)) (h3 _ (by simp))⟩
set_option maxRecDepth 4000 in
set_option maxHeartbeats 2000000 in
def Zv{P f f1 f2 f3 f4}(hd:Jj P f=some (N5 f1 f2 f3 f4))(h1:Mt P f1)(h2:KJ RBs P f2)(h3:KJ Bh P f3)(h4:IZ P f4):LH P f:=by
 intro d s dv pv L bt Tt r h c k cs n hk hv hi i m ua uc hp hn hfit hi0 hi1 hm hmk;have hm1:=hm.p0;have hm2:=hm.p1;have hm3:=hm.o0;have hm4:=hm.o1;have hm5:=hm.k;have hn0:=hn;obtain⟨kv,vv,iv,rfl,r1,r2,r3⟩:=hn0;obtain⟨xa,xc,rfl⟩:=r1.val;obtain⟨ya,yc,rfl⟩:=r2.val;have r3':=r3;obtain⟨b1,T1,l1,c1,cs1,q1,rfl,hcl,hcs,hle1,⟨rfl,hb1,hb2⟩,hset⟩:=Ai.at (by omega) r3' hi0;subst q1;have c0:=hcs 0 _ Z;have hg0:n.kids.getD i 0=n.kids[i]:=by rw[Afd,Afc hi0];rfl
 refine Bj hd ?_;apply Aw;apply Av;refine CF Z (fun b7 T7=>?_);refine CF (l:=[vZ m.page,vZ m.other,.slice ua m.key.length uc,vZ m.size]) Z (fun b9 T9=>?_);refine B8 (fun b10 T10=>?_);apply Ab;rfl;apply An;refine G1 (fun ρ d' L'=>BN ρ [(0,pZ bt),(1,vZ k),(3,vZ i),(7,pZ b7),(9,pZ b9),(10,pZ b10)]∧¬(n.kids[i]=m.page∧m.other<0)∧d=d'∧L'=[bx b10 T10 [vZ 0,vZ 0,nV,vZ 0],bx b9 T9 [vZ m.page,vZ m.other,.slice ua m.key.length uc,vZ m.size],bx b7 T7 [.bool n.leaf,.slice xa n.keys.length xc,.slice ya n.vals.length yc,.slice (some ⟨b1,0,none⟩) n.kids.length c1],hk,hv,bx b1 T1 l1,tb bt Tt pv r h c]++L) ?_ ?_
 ·by_cases hB1:n.kids[i]=m.page
  ·by_cases hA2:m.other<0
   ·have hF:CS s k n i m=(s,⟨k, -1,[],Bf n⟩,0):=by unfold CS;rw[hg0,if_pos ⟨hB1,hA2⟩]
    rw[hF];apply Aw;refine BE [_,_,_,_,_,_,_] L Z<|Am Z<|Ah Z (AG 2 Z Z)<|Ab Z<|BT _ Z Z Z (by omega)<|Ah Z (AG 5 Z (by assumption))<|Am Z<|Ah Z (AG 1 Z Z)<|AI Z Z<|Ad Z<|Bx Z<|Ac Z<|Am Z<|Ac Z<|Ah Z (AG 1 Z Z)<|Ac Z<|Au Z Z<|As Z Z<|A8<|B2 Z<|AE Z<|Bk 2 Z Z Z<|IY Z (v:=vZ (Bf n)) (fun d1 hl1 hk1=>h1 (hn.JR hl1 (hk1 _ (by simp)) (hk1 _ (by simp)) (hk1 _ (by simp))) (hfit.small (by omega)).1) ?_;(apply BY;rfl);refine BA 0 Z Z Z Z (Afe _) Z<|AS Z<|A6 [mdV ⟨k, -1,[],Bf n⟩ none 0,vZ 0] ⟨AY 0 Z Z Z,Af Z,trivial⟩ (d':=d) (L':=tb bt Tt pv r h c::L) (Vs.drop (.cons _ (.cons _ (.cons _ (.cons _ (.cons _ (.cons _ (Afa _)))))))) ⟨Le.refl _,none,0,L,Z,RSl.nil,Z,hp⟩
   ·apply Aw;refine BE [_,_,_,_,_,_,_] L Z<|Am Z<|Ah Z (AG 2 Z Z)<|Ab Z<|BT _ Z Z Z (by omega)<|Ah Z (AG 5 Z (by assumption))<|Am Z<|Ah Z (AG 1 Z Z)<|AI Z Z<|Ad Z<|Bx Z<|Ac Z<|Am Z<|Ac Z<|Ah Z (AG 1 Z Z)<|Ac Z<|Au Z Z<|As Z Z<|A8<|BM Z<|AH ?_;exact⟨⟨Z,Z,Z,Z,Z,Z,trivial⟩,fun q=>hA2 q.2,Z,Z⟩
  ·apply Aw;refine BE [_,_,_,_,_,_,_] L Z<|Am Z<|Ah Z (AG 2 Z Z)<|Ab Z<|BT _ Z Z Z (by omega)<|Ah Z (AG 5 Z (by assumption))<|Am Z<|Ah Z (AG 1 Z Z)<|AI Z Z<|Ad Z<|Bs Z<|AQ Z Z<|BP Z<|Aj Z Z<|A8<|Cn Z<|AH ?_;exact⟨⟨Z,Z,Z,Z,Z,Z,trivial⟩,fun q=>hB1 q.1,Z,Z⟩
 rintro ρ d' L' ⟨hsl,hA,hdd,hLL⟩;subst hdd;subst hLL;refine CU _ hsl ?_;have hF:CS s k n i m=if 0≤m.other then Bp s k {n with keys:=Cv n.keys i m.key,kids:=Cv (n.kids.set i m.page) (i+1) m.other} else Bp s k {n with kids:=n.kids.set i m.page}:=by unfold CS;rw[hg0,if_neg hA]
 rw[hF];clear hF hA;have hrow:=hset [vZ m.page] m.page Z ⟨Z,by omega,by omega⟩;have hrl:=hrow.val;generalize hT:(if 0≤m.other then Bp s k {n with keys:=Cv n.keys i m.key,kids:=Cv (n.kids.set i m.page) (i+1) m.other} else Bp s k {n with kids:=n.kids.set i m.page})=T;(refine Ak<|Am Z<|Ah Z (AG 2 Z Z)<|Ab Z<|Am Z<|Ah Z (AG 1 Z Z)<|BT _ Z Z Z (by omega) ?_);refine Bb 5 (patch l1 (i*1) [vZ m.page]) Z Z Z Z (by omega) Z Z ?_;apply An;refine G1 (fun ρ d' L'=>Le d d'∧∃cs' n' hk' hv' hi' Lr,BN ρ [(0,pZ bt),(1,vZ k),(7,pZ b7),(10,pZ b10)]∧Es d' cs' n' hk' hv' hi'∧Fit n' 1001∧Bp s k n'=T∧Lr.Perm [hk',hv',hi']∧
  L'=bx b10 T10 [vZ 0,vZ 0,nV,vZ 0]::bx b9 T9 [vZ m.page,vZ m.other,.slice ua m.key.length uc,vZ m.size]::bx b7 T7 cs'::(Lr++tb bt Tt pv r h c::L)) ?_ ?_
 ·by_cases ho:0≤m.other
  ·rw[if_pos ho] at hT;have hi2:=hi1 ho;have hfi:=hfit.i;have hfk:=hfit.k;refine Ak<|Am Z<|Ah Z (AG 1 Z Z)<|Dk Z Z<|A5 Z<|BE [_,_,_] (hk::hv::bx b1 T1 (patch l1 (i*1) [vZ m.page])::tb bt Tt pv r h c::L) Z<|Am Z<|Ah Z (AG 2 Z Z)<|Ab Z<|Am Z<|Ah Z (AG 1 Z Z)<|Am Z<|Ah Z (AG 2 Z Z)<|Ab Z<|A4 Z Z<|Am Z<|Ah Z (AG 1 Z Z)<|Gh (α:=Nat×TypeId) (β:=Option Addr×Nat×Aa) [(0,pZ bt),(1,vZ k),(7,pZ b7),(10,pZ b10),(46,.slice (some ⟨b1,0,none⟩) n.kids.length c1),(48,vZ ((i:Int)+1))]
    (fun x=>[(51,.slice (some ⟨x.1,0,none⟩) 1 1)]) (fun x d L=>L=[bx x.1 x.2 [vZ m.other]]) (fun y=>[(44,.slice y.1 (n.keys.length+1) y.2.1),(53,.pointer (some ⟨b7,1,none⟩))])
    (fun y d' M=>Ai 1 RBs d' (.slice y.1 (n.keys.length+1) y.2.1) (Cv n.keys i m.key) y.2.2∧M=y.2.2::hv::bx b1 T1 (patch l1 (i*1) [vZ m.page])::tb bt Tt pv r h c::L) [] _ Z
    (fun x d d' M hl h=>h) (fun y d d' M hl h=>⟨h.1.DY hl,h.2⟩) (fun x=>Z) (fun y=>Z) Z ⟨Z,Z,Z,Z,Z,Z,trivial⟩ ?_ ?_ ?_
   ·refine DN (v0:=vZ m.other) Z Z (fun b51 T51=>?_);(apply A8);exact⟨_,Z,(b51,T51),⟨Z,trivial⟩,Z⟩
   ·refine DN (v0:=.slice ua m.key.length uc) Z Z (fun b43 T43=>?_);refine Ek (A:=[_,_]) Z Z (h2 r1 hi2 (by omega) ⟨_,Z,hmk⟩ FA) (fun v d1 L1 hl1 ⟨e0,h',e1,hg⟩=>?_);subst e0;subst e1;have hgl:=FX (y:=m.key) hi2;obtain⟨ga,gc,rfl⟩:=hg.val;rw[hgl] at hg⊢;(refine Am Z<|A8 ?_);exact⟨_,Z,(ga,gc,h'),⟨Z,Z,trivial⟩,hg,Z⟩
   ·rintro⟨b51,T51⟩ ⟨ga,gc,h44⟩ ρ2 d2 M1 M2 hl2 hM1 ⟨hg44,hM2⟩;subst hM1;subst hM2;simp only at hg44⊢;refine DO (A:=[bx b51 T51 [vZ m.other],bx b1 T1 (patch l1 (i*1) [vZ m.page])]) (h3 (i:=i+1) (y:=m.other) (hrow.JJ hl2) (by simp;omega) (by simp;omega) ⟨Z,by omega,by omega⟩ D1) (Afm _ (Agi (l₁:=[_,_]))) Z (fun v d3 L3 hl3 ⟨e0,h52,e1,hg52⟩=>?_);subst e0;subst e1;obtain⟨za,zc,rfl⟩:=hg52.val;refine⟨_,_,Vs.refl _ _,?_⟩
    apply Cw;refine Bb 2 [.bool n.leaf,.slice ga (n.keys.length+1) gc,.slice ya n.vals.length yc,.slice (some ⟨b1,0,none⟩) n.kids.length c1] Z Z Z Z (Aff Z) Z Z ?_;(apply Am;rfl);refine Bb 2 [.bool n.leaf,.slice ga (n.keys.length+1) gc,.slice ya n.vals.length yc,.slice za (Cv (n.kids.set i m.page) (i+1) m.other).length zc] Z Z Z Z (Aff Z) Z Z ?_;(apply An);refine⟨hl2,_,{n with keys:=Cv n.keys i m.key,kids:=Cv (n.kids.set i m.page) (i+1) m.other},h44,hv,h52,[_,_,_],⟨Z,Z,Z,Z,trivial⟩,⟨_,_,_,Z,hg44,r2.DY hl2,hg52⟩,⟨?_,?_,?_,fun x hx=>?_,hfit.vl⟩,hT,Afi (l₁:=[_]) (l₂:=[_,_]),Z⟩
    ·show(Cv n.keys i m.key).length≤_;rw[FX hi2];omega
    ·exact Nat.le_succ_of_le hfit.v
    ·show(Cv (n.kids.set i m.page) (i+1) m.other).length≤_;rw[FX (by simp;omega),Agg];omega
    ·rcases Li hx with rfl|hx
     ·exact hm5
     ·exact hfit.kl x hx
  ·rw[if_neg ho] at hT;(refine Ak<|Am Z<|Ah Z (AG 1 Z Z)<|Dk Z Z<|AT Z ?_);obtain⟨za,zc,hza⟩:=hrl;exact⟨Le.refl _,_,{n with kids:=n.kids.set i m.page},hk,hv,_,[_,_,_],⟨Z,Z,Z,Z,trivial⟩,⟨_,_,_,Z,r1,r2,hrow⟩,⟨Nat.le_succ_of_le hfit.k,Nat.le_succ_of_le hfit.v,by simp only[Agg];exact Nat.le_succ_of_le hfit.i,hfit.kl,hfit.vl⟩,hT,Agq _,Z⟩
 rintro ρ d' L' ⟨hle,cs',n',hk',hv',hi',Lr,hsl,hn',hfit',hT',hpm,hLL⟩;subst hLL;subst hT';obtain⟨ka,kc,va,vc,ia,ic,rfl⟩:=hn'.cells;refine CU _ hsl ?_;obtain⟨d2,hl2,v2,hn2⟩:=Gs hn';refine A3 Z<|Ab Z<|Bk 2 Z Z Z<|B1 _ _ (Vs.out [_,_,_] _ hpm v2)<|A0 [_,_,_] (h4 (k:=k) (hp.mono (hle.trans hl2)) hn2 (hfit'.small (by omega))) Z Z (fun v d4 L4 hl4 ⟨_,wa,wc,L5,e4,hk4,e5,hp5⟩=>?_);subst e4;subst e5;refine AW Z Z Z Z<|BA 0 Z Z Z Z (Afe _) Z<|AS Z<|A6 [mdV (Bp s k n').2.1 wa wc,vZ (Bp s k n').2.2] ⟨AY 0 Z Z Z,Af Z,trivial⟩ (d':=d4) (L':=tb bt Tt pv r h c::L5) (Vs.drop (.cons _ (.cons _ (.cons _ (Afa _))))) ⟨(hle.trans hl2).trans hl4,wa,wc,L5,Z,hk4,Z,hp5⟩
end Go.Gk.Tre
end
section
namespace Go.Gk.Tre
open Go Go.Gk Go.Gk.Dev Go.Gk.Cch Go.Gk.Pgr Go.Gk.Chn Go.Gk.Node
variable{n:AB}
section
def FT{s}(h:Pgr.Good s):Pgr.Good s.AX.1:=by
 unfold PD.AX;cases q:DJ 0 s.kinds with
 |none=>exact h
 |some i=>
  obtain⟨a,b,c,e,g⟩:=h.kds (ks:=s.kinds.set i 1) Z (by decide) (by decide)
  exact⟨a,b,c,e,g⟩
def Jo{s}(h:Pgr.Good s)(k:Int)(b:Sec):Pgr.Good (s.put k b).1:=by
 unfold PD.put;split
 ·split
  ·exact⟨h.one,h.len,h.inn,h.syn,h.kd⟩
  ·exact h
 ·exact h
def JA{s}(h:Pgr.Good s)(k:Int):Pgr.Good (s.drop k).1:=by
 unfold PD.drop;split
 ·exact h.kds Z (by decide) (by decide)
 ·split
  ·exact h.kds Z (by decide) (by decide)
  ·exact h
def RS{s}(h:Pgr.Good s){k:Int}:Pgr.Good (Bg s k n).1:=by
 unfold Bg;split
 ·split
  ·exact Jo h _ _
  ·split
   ·exact FT h
   ·split
    ·split
     ·exact JA (FT h) _
     ·exact Jo (JA (FT h) _) _ _
    ·exact Jo (FT h) _ _
 ·exact h
def OW{s}(h:Pgr.Good s){k:Int}(h0: -1≤k)(h1:k≤16384): -1≤(Bg s k n).2.1∧(Bg s k n).2.1≤16384:=by
 have ht:=RH h;have hz: -1≤(0:Int)∧(0:Int)≤16384:=by decide
 have ht': -1≤s.AX.2.1∧s.AX.2.1≤16384:=by omega
 unfold Bg;split
 ·split
  ·exact⟨h0,h1⟩
  ·split
   ·exact hz
   ·split
    ·split
     ·exact hz
     ·exact ht'
    ·exact ht'
 ·exact hz
def R5(h:Bt n=true):∀x∈n.kids,0≤x∧x≤8191:=by
 simp only[Bt,Bd,Afb] at h;intro x hx;cases hl:n.leaf with
 |true=>
  have h2:=h.1.2
  simp only[hl,if_true,Afb,decide_eq_true_eq] at h2
  have:n.kids=[]:=Afl h2.1.2
  rw[this] at hx;cases hx
 |false=>
  have h2:=h.1.2
  simp only[hl,Afh,if_false,Afb,decide_eq_true_eq,Afs] at h2
  have:=h2.2 x hx
  simpa [GZ] using this
def Zk(h:∀x∈n.keys,x.length≤1000):(B4 n).length≤1000:=by
 unfold B4;split
 ·exact QG h _
 ·simp
def ES:MOk CO:=⟨by decide,by decide,by decide,by decide,by decide⟩
def HL{s}(h:Pgr.Good s){k:Int}(h0: -1≤k)(h1:k≤16384)(hk:∀x∈n.keys,x.length≤1000):MOk (Bp s k n).2.1:=by
 unfold Bp;split
 ·obtain⟨a,b⟩:=OW h (n:=n) h0 h1;exact⟨a,b,(by decide:(-1:Int)≤ -1),(by decide:(-1:Int)≤16384),Agd _⟩
 ·split
  ·show MOk (if (Bg s k (Ba n)).2.2=0 then _ else _:PD×MdD×Int).2.1;split
   ·obtain⟨a,b⟩:=OW h (n:=Ba n) h0 h1;obtain⟨c,e⟩:=OW (RS h (k:=k) (n:=Ba n)) (k:= -1) (n:=Bi n) (by decide) (by decide);exact⟨a,b,c,e,Zk hk⟩
   ·exact ES
  ·exact ES
def R1{s}(h:Pgr.Good s){k:Int}{i:Nat}{m:MdD}(h0: -1≤k)(h1:k≤16384)(hk:∀x∈n.keys,x.length≤1000)(hm:MOk m):MOk (CS s k n i m).2.1:=by
 unfold CS;split
 ·exact⟨h0,h1,(by decide:(-1:Int)≤ -1),(by decide:(-1:Int)≤16384),Agd _⟩
 ·split
  ·refine HL h h0 h1 (fun x hx=>?_);rcases Li hx with rfl|hx
   ·exact hm.k
   ·exact hk x hx
  ·exact HL h h0 h1 hk
def KZ{key}:(findD n key).1≤n.keys.length:=by
 have h:low n key≤n.keys.length:=(List.takeWhile_sublist _).length_le;unfold findD;split
 ·exact h
 ·have:=(List.takeWhile_sublist (fun k=>decide (k=key)) (l:=n.keys.drop (low n key))).length_le;rw[Afo] at this;show low n key+_≤_;omega
def OF{key}(h:(findD n key).2=true):(findD n key).1<n.keys.length:=by
 unfold findD at h⊢;split
 ·rename_i hl;rw[if_pos hl] at h;simp only[Afb,decide_eq_true_eq] at h;exact h.1
 ·rename_i hl;rw[if_neg hl] at h;cases h
section
variable {s:PD}{k:Int}{key cell:List UInt8}{x:Nat}
def F7{h:Int}(e:(AM s k h).2=0):Bt (AM s k h).1=true∧(AM s k h).1.leaf=decide (h=1):=by
 unfold AM at e⊢;by_cases q:(Bw s k).2=0∧(Bw s k).1.leaf≠decide (h=1)
 ·rw[if_pos q] at e;exact absurd (show(200:Int)=0 from e) (by decide)
 ·rw[if_neg q] at e;exact⟨On e,Classical.byContradiction fun w=>q ⟨e,w⟩⟩
def Aa5(h:(AM s k ((x+1:Nat):Int)).2≠0):Cu s k key cell (x+1)=(s,CO,false,(AM s k ((x+1:Nat):Int)).2):=by
 rw[Cu];exact if_pos h
def VR(h:(AM s k ((0+1:Nat):Int)).2=0)(hn:(AM s k ((0+1:Nat):Int)).1=n){i:Nat}(hf:findD n key=(i,true)):
  Cu s k key cell (0+1)=if (Ci s (n.vals.getD i [])).2≠0 then((Ci s (n.vals.getD i [])).1,CO,false,(Ci s (n.vals.getD i [])).2) else
   ((Bp (Ci s (n.vals.getD i [])).1 k {n with vals:=n.vals.set i cell}).1,(Bp (Ci s (n.vals.getD i [])).1 k {n with vals:=n.vals.set i cell}).2.1,false,(Bp (Ci s (n.vals.getD i [])).1 k {n with vals:=n.vals.set i cell}).2.2):=by
 subst hn
 rw[Cu]
 refine(if_neg (fun q=>q h)).trans ((if_pos Z).trans ((if_pos (by rw[hf])).trans ?_))
 rw[hf]
def VI(h:(AM s k ((0+1:Nat):Int)).2=0)(hn:(AM s k ((0+1:Nat):Int)).1=n){i:Nat}(hf:findD n key=(i,false)):
  Cu s k key cell (0+1)=((Bp s k {n with keys:=Cv n.keys i key,vals:=Cv n.vals i cell}).1,(Bp s k {n with keys:=Cv n.keys i key,vals:=Cv n.vals i cell}).2.1,true,(Bp s k {n with keys:=Cv n.keys i key,vals:=Cv n.vals i cell}).2.2):=by
 subst hn
 rw[Cu]
 refine(if_neg (fun q=>q h)).trans ((if_pos Z).trans ((if_neg (by rw[hf];exact Aks)).trans ?_))
 rw[hf]
def PR(h:(AM s k ((x+1+1:Nat):Int)).2=0)(hn:(AM s k ((x+1+1:Nat):Int)).1=n){i:Nat}{b:Bool}(hf:findD n key=(i,b)):
  Cu s k key cell (x+1+1)=if (Cu s (n.kids.getD i 0) key cell (x+1)).2.2.2≠0 then((Cu s (n.kids.getD i 0) key cell (x+1)).1,CO,false,(Cu s (n.kids.getD i 0) key cell (x+1)).2.2.2) else
   ((CS (Cu s (n.kids.getD i 0) key cell (x+1)).1 k n i (Cu s (n.kids.getD i 0) key cell (x+1)).2.1).1,(CS (Cu s (n.kids.getD i 0) key cell (x+1)).1 k n i (Cu s (n.kids.getD i 0) key cell (x+1)).2.1).2.1,(Cu s (n.kids.getD i 0) key cell (x+1)).2.2.1,(CS (Cu s (n.kids.getD i 0) key cell (x+1)).1 k n i (Cu s (n.kids.getD i 0) key cell (x+1)).2.1).2.2):=by
 subst hn
 rw[Cu]
 refine(if_neg (fun q=>q h)).trans ((if_neg (Ahi _)).trans ?_)
 rw[hf]
def AaK(h:(AM s k ((x+1:Nat):Int)).2≠0):Cm s k key (x+1)=(s,CO,false,(AM s k ((x+1:Nat):Int)).2):=by
 rw[Cm];exact if_pos h
def Wm(h:(AM s k ((0+1:Nat):Int)).2=0)(hn:(AM s k ((0+1:Nat):Int)).1=n){i:Nat}(hf:findD n key=(i,true)):
  Cm s k key (0+1)=if (Ci s (n.vals.getD i [])).2≠0 then((Ci s (n.vals.getD i [])).1,CO,false,(Ci s (n.vals.getD i [])).2) else
   ((Bp (Ci s (n.vals.getD i [])).1 k {n with keys:=n.keys.eraseIdx i,vals:=n.vals.eraseIdx i}).1,(Bp (Ci s (n.vals.getD i [])).1 k {n with keys:=n.keys.eraseIdx i,vals:=n.vals.eraseIdx i}).2.1,true,(Bp (Ci s (n.vals.getD i [])).1 k {n with keys:=n.keys.eraseIdx i,vals:=n.vals.eraseIdx i}).2.2):=by
 subst hn
 rw[Cm]
 refine(if_neg (fun q=>q h)).trans ((if_pos Z).trans ((if_pos (by rw[hf])).trans ?_))
 rw[hf]
def VP(h:(AM s k ((0+1:Nat):Int)).2=0)(hn:(AM s k ((0+1:Nat):Int)).1=n){i:Nat}(hf:findD n key=(i,false)):Cm s k key (0+1)=(s,⟨k, -1,[],256⟩,false,0):=by
 subst hn;rw[Cm];exact(if_neg (fun q=>q h)).trans ((if_pos Z).trans (if_neg (by rw[hf];exact Aks)))
def Qa(h:(AM s k ((x+1+1:Nat):Int)).2=0)(hn:(AM s k ((x+1+1:Nat):Int)).1=n){i:Nat}{b:Bool}(hf:findD n key=(i,b)){u:PD×MdD×Bool×Int}(hu:Cm s (n.kids.getD i 0) key (x+1)=u):
  Cm s k key (x+1+1)=if u.2.2.2≠0∨u.2.2.1=false then(u.1,⟨k, -1,[],256⟩,u.2.2.1,u.2.2.2) else
   if u.2.1.other<0∧u.2.1.size<80 then((Eh u.1 k {n with kids:=n.kids.set i u.2.1.page} i).1,(Eh u.1 k {n with kids:=n.kids.set i u.2.1.page} i).2.1,true,(Eh u.1 k {n with kids:=n.kids.set i u.2.1.page} i).2.2)
   else((CS u.1 k n i u.2.1).1,(CS u.1 k n i u.2.1).2.1,true,(CS u.1 k n i u.2.1).2.2):=by
 subst hn;subst hu
 rw[Cm]
 refine(if_neg (fun q=>q h)).trans ((if_neg (Ahi _)).trans ?_)
 rw[hf]
 by_cases q:(Cm s ((AM s k ((x+1+1:Nat):Int)).1.kids.getD i 0) key (x+1)).2.2.2≠0∨(Cm s ((AM s k ((x+1+1:Nat):Int)).1.kids.getD i 0) key (x+1)).2.2.1=false
 ·rw[if_pos q,if_pos q]
 ·rw[if_neg q,if_neg q]
  split<;>rfl
end
end
end Go.Gk.Tre
end
section
namespace Go.Gk.Tre
open Go Go.Gk Go.Gk.Dev Go.Gk.Cch Go.Gk.Pgr Go.Gk.Chn Go.Gk.Node
attribute [local irreducible] gwp gws xwp
variable{n:AB}
section
def NK{s}{n:Nat}{c}:CP {s with tc:=n} c=CP s c:=by unfold CP;rw[show Chn.BU {s with tc:=n} (EX c) (Ec c)=Chn.BU s (EX c) (Ec c) from UN]
def AdV{P f}(h:K5 P f){d s}{n:Nat}{dv pv w L}{bt:Nat}{Tt}{r h' c:Int}{b}(hp:Pg d {s with tc:=n} dv pv L)(hw:Ay d w b):
  Ao P f [pZ bt,w] d (tb bt Tt pv r h' c::L) (Ret fun v d' L'=>Le d d'∧∃u L2 tc,v=.tuple #[u,vZ (CP s b).2]∧L'=tb bt Tt pv r h' c::L2∧Ay d' u (CP s b).1∧Pg d' {s with tc:=tc} dv pv L2∧((CP s b).2=0→tc=n+Eo b)):=by
 refine Ao.Eb (h hp hw) (fun r d' L' _ ⟨q0,u,L2,tc,q1,q2,q3,q4,q5⟩=>⟨d',L',Vs.refl _ _,?_⟩)
 rw[NK] at q1 q3 q5
 exact⟨q0,u,L2,tc,q1,q2,q3,q4,q5⟩
def EW(t:TD)(key:List UInt8):List UInt8×Bool×Int:=if Cl key≠0 then([],false,Cl key) else FB t.s key t.root t.height
def PM(P:Program)(f:FuncId):Prop:=∀{d}{t:TD}{dv pv kv L}{bt:Nat}{Tt key},Pg d t.s dv pv L→Ay d kv key→t.height≤1000000→
 Ao P f [pZ bt,kv] d (tbD bt Tt pv t::L) (Ret fun v d' L'=>Le d d'∧∃u L2 tc,v=.tuple #[u,.bool (EW t key).2.1,vZ (EW t key).2.2]∧Ay d' u (EW t key).1∧L'=tbD bt Tt pv t::L2∧Pg d' {t.s with tc:=tc} dv pv L2∧
  (Cl key=0→(EW t key).2.2=0→tc=t.s.tc+HQ t.s key t.root t.height))
section
variable {s:PD}{k:Int}{key:List UInt8}{x:Nat}
def Z7(h:(AM s k ((x+1:Nat):Int)).2≠0):FB s key k (x+1)=([],false,(AM s k ((x+1:Nat):Int)).2):=by
 rw[FB];exact if_pos h
def Wh(h:(AM s k ((0+1:Nat):Int)).2=0)(hn:(AM s k ((0+1:Nat):Int)).1=n){i:Nat}(hf:findD n key=(i,true)):
  FB s key k (0+1)=((CP s (n.vals.getD i [])).1,decide ((CP s (n.vals.getD i [])).2=0),(CP s (n.vals.getD i [])).2)∧HQ s key k (0+1)=1+Eo (n.vals.getD i []):=by
 subst hn
 rw[FB,HQ]
 refine⟨(if_neg (fun q=>q h)).trans ((if_pos Z).trans ((if_pos (by rw[hf])).trans ?_)),(if_pos Z).trans ((if_pos (by rw[hf])).trans ?_)⟩
 ·rw[hf]
 ·rw[hf]
def VJ(h:(AM s k ((0+1:Nat):Int)).2=0)(hn:(AM s k ((0+1:Nat):Int)).1=n){i:Nat}(hf:findD n key=(i,false)):FB s key k (0+1)=([],false,0)∧HQ s key k (0+1)=1:=by
 subst hn;rw[FB,HQ];exact⟨(if_neg (fun q=>q h)).trans ((if_pos Z).trans (if_neg (by rw[hf];exact Aks))),(if_pos Z).trans (if_neg (by rw[hf];exact Aks))⟩
def Qy(h:(AM s k ((x+1+1:Nat):Int)).2=0)(hn:(AM s k ((x+1+1:Nat):Int)).1=n){i:Nat}{b:Bool}(hf:findD n key=(i,b)):
  FB s key k (x+1+1)=FB s key (n.kids.getD i 0) (x+1)∧HQ s key k (x+1+1)=1+HQ s key (n.kids.getD i 0) (x+1):=by
 subst hn
 rw[FB,HQ]
 refine⟨(if_neg (fun q=>q h)).trans ((if_neg (Ahi _)).trans ?_),(if_neg (Ahi _)).trans ?_⟩
 ·rw[hf]
 ·rw[hf]
end
def JB(a0 a1 a2 a3:Nat):A9:=⟨71,[(.tmp 4),(.tmp 5),(.tmp 6)],(sR (o1 4 (.mv nS)<|o1 5 (.mv (.const (.bool false)))<|o1 6 (.mv z0) .done) (.seq (sR (om 14 0<|om 15 1<|oc 16 a0 [14,15]<|om 7 16 .done) (sR (om 17 7<|ob 18 .neq 17 z0 .done) (.cond 18 (sR (om 19 7<|o1 4 (.mv nS)<|o1 5 (.mv (.const (.bool false)))<|om 6 19 .done) .ret) .skip))) (sR (om 20 0<|o1 21 (.nilc 20)<|oj 22 1 21<|ol 23 22<|om 8 23 .done) (.seq (sR (om 24 0<|o1 25 (.nilc 24)<|oj 26 2 25<|ol 27 26<|om 9 27 .done) (.block 0 (.loop (.seq (sR (om 28 9<|ob 29 .gtr 28 z0 .done) (.cond 29 .skip (.exit 0))) (.seq (.block 1 (sR (om 33 0<|om 34 8<|om 35 9<|oc 36 a1 [33,34,35]<|om 32 36<|oe 37 32 0<|oe 38 32 1<|o1 10 (.alo (.agg #[(.bool false),nV,nV,nV]))<|o0 (.st 4 10 37)<|om 11 38 .done) (.seq (sR (om 39 11<|ob 40 .neq 39 z0 .done) (.cond 40 (sR (om 41 11<|o1 4 (.mv nS)<|o1 5 (.mv (.const (.bool false)))<|om 6 41 .done) .ret) .skip)) (sR (o1 43 (.ld (some 4) 10)<|om 44 1<|oc 45 a2 [43,44]<|om 42 45<|oe 46 42 0<|oe 47 42 1<|om 12 46<|om 13 47 .done) (.seq (sR (om 48 9<|ob 49 .gtr 48 z1 .done) (.cond 49 (sR (oj 50 3 10<|ol 51 50<|om 52 12<|oI 53 1 51 52<|ol 54 53<|om 8 54 .done) (.exit 1)) .skip)) (.seq (sR (om 55 13<|o1 56 (.un .not 55) .done) (.cond 56 (sR (o1 4 (.mv nS)<|o1 5 (.mv (.const (.bool false)))<|o1 6 (.mv z0) .done) .ret) .skip)) (sR (om 58 0<|oj 59 2 10<|ol 60 59<|om 61 12<|oI 62 1 60 61<|ol 63 62<|oc 64 a3 [58,63]<|om 57 64<|oe 65 57 0<|oe 66 57 1<|om 4 65<|om 11 66 .done) (sR (om 67 4<|om 68 11<|ob 69 .eql 68 z0<|om 70 11<|om 4 67<|om 5 69<|om 6 70 .done) .ret)))))))) (rG (om 30 9<|ob 31 .sub 30 z1<|om 9 31 .done))))))) (sR (o1 4 (.mv nS)<|o1 5 (.mv (.const (.bool false)))<|o1 6 (.mv z0) .done) .ret)))))⟩
set_option maxRecDepth 4000 in
set_option maxHeartbeats 4000000 in
def Aci{P f f1 f2 f3 f4}(hd:dec P f=some (JB f1 f2 f3 f4))(h1:Kc P f1)(h2:I7 P f2)(h3:I6 P f3 findD)(h4:K5 P f4):PM P f:=by
 intro d t dv pv kv L bt Tt key hp hk hh;obtain⟨bp,rfl⟩:=hp.ptr;obtain⟨ka,kc,rfl⟩:=hk.val;obtain⟨s,root,height,count⟩:=t;simp only at hp hh;refine Bj hd<|Br Z<|Ad Z<|AR Z<|Ag Z<|Ae Z<|A0 [] (h1 (L:=L) hk) Z Z (fun v d2 L2 _ ⟨e1,e2,e3⟩=>?_);subst e1;subst e2;subst e3;by_cases hw:Cl key=0
 ·have hF:EW ⟨s,root,height,count⟩ key=FB s key root height:=by unfold EW;rw[if_neg (fun q=>q hw)]
  rw[hF,hw];show gws P _ _ _ _ _ _ _;refine A7 Z<|Ab Z<|AJ Z Z<|AT Z<|A3 Z<|Ap Z<|Az Z Z Z<|AR Z<|Ag Z<|Ap Z<|Az Z Z Z<|AU Z<|Aq<|Cs (α:=Nat×Int) (fun x=>[(0,pZ bt),(1,.slice ka key.length kc),(8,vZ x.2),(9,vZ x.1)])
   (fun x d' L'=>Le d2 d'∧x.1≤height∧FB s key root height=FB s key x.2 x.1∧∃J L2 tc,L'=J++tb bt Tt (pZ bp) root height count::L2∧Pg d' {s with tc:=tc} dv (pZ bp) L2∧tc+HQ s key x.2 x.1=s.tc+HQ s key root height)
   (fun x=>x.1) (height,root) ⟨Z,Z,Z,Z,trivial⟩ ⟨Le.refl _,Afe _,Z,[],L,s.tc,Z,hp,Z⟩ ?_
  rintro⟨h,page⟩ ρ d' L' ⟨hle,hhh,hgt,J,L3,tc,rfl,hp3,htt⟩;simp only at hhh hgt hp3 htt⊢;by_cases hz:h=0
  ·subst hz;rw[hgt,FB];rw[HQ] at htt;refine AZ<|Ab Z<|Bu Z Z<|EY Z<|Bl<|Br Z<|Ad Z<|AS Z<|A6 [nV,.bool false,vZ 0] ⟨Af Z,Af Z,Af Z,trivial⟩ (d':=d') (L':=tb bt Tt (pZ bp) root height count::L3) (Vs.drop (Agv J _)) ⟨hle,_,L3,tc,Z,RSl.nil,Z,hp3,fun _ _=>htt⟩
  ·obtain⟨x,rfl⟩:∃x,h=x+1:=⟨h - 1,by omega⟩
   refine AZ<|Ab Z<|Bu Z Z<|A5 Z<|AH<|Aw<|Aq<|A3 Z<|Ab Z<|Ab Z<|A0 J (h2 (k:=page) (x:=((x+1:Nat):Int)) hp3) Z Z (fun v d4 L4 hl4 ⟨_,cs,hk4,hv4,hi4,L5,tc5,e1,e2,hn,hp5,htc5⟩=>?_);subst e1;subst e2;rw[show AM {s with tc:=tc} page ((x+1:Nat):Int)=AM s page ((x+1:Nat):Int) from Z] at hn htc5⊢;have hp5:Pg d4 {s with tc:=tc5} dv (pZ bp) L5:=hp5;have htc5:(AM s page ((x+1:Nat):Int)).2=0→tc5=tc+1:=htc5;obtain⟨d6,hl6,v6,hn6⟩:=Gs hn;have hp6:=hp5.mono hl6;refine B1 _ _ (Vs.out (M:=[_,_,_]) J _ (Agq _) v6) ?_;obtain⟨xa,xc,ya,yc,za,zc,rfl⟩:=Cz.four hn6;have hk6:=RSl.mono (R:=Ax) AF hk ((hle.trans hl4).trans hl6);(refine AO Z<|AW Z Z Z Z<|B8 (fun _ _=>?_));rename_i b10 T10;refine BA 0 Z Z Z Z (Afe _) Z ?_;by_cases he:(AM s page ((x+1:Nat):Int)).2=0
   ·have htc6:=htc5 he;obtain⟨hr,hlf⟩:=F7 he;obtain⟨n,hne⟩:∃n,(AM s page ((x+1:Nat):Int)).1=n:=⟨_,Z⟩
    rw[hne] at hn6 hr hlf⊢;obtain⟨i,b,hfd⟩:∃i b,findD n key=(i,b):=⟨_,_,Z⟩
    have hile:i≤n.keys.length:=by have:=KZ (n:=n) (key:=key);rw[hfd] at this;exact this
    rw[he];have hlv:n.leaf=true→n.vals.length=n.keys.length:=HA hr;have hli:n.leaf=false→n.kids.length=n.keys.length+1:=GB hr;clear hr;have hfc:=h3 hn6 hk6;rw[hfd] at hfc;obtain⟨kv,vv,iv,q,r1,r2,r3⟩:=hn6;cases q;refine AR Z<|Ab Z<|AJ Z Z<|AT Z<|Ak<|Bk 0 Z Z Z<|Ae Z<|BH Z hfc<|AO Z<|AW Z Z Z Z<|Ab Z<|AV Z ?_;apply Aw;apply Aw;apply Av;(refine Ab Z<|Bu Z Z<|An ?_);by_cases hx0:x=0
    ·subst hx0;have hvl:=hlv (by rw[hlf];rfl);clear hlv hli hlf;refine Fs Z (by omega) ?_;cases b with
     |true=>
      have hilt:i<n.keys.length:=by have:=OF (n:=n) (key:=key) (by rw[hfd]);rw[hfd] at this;exact this
      have hiv:i<n.vals.length:=by omega
      have hgv:n.vals.getD i []=n.vals[i]:=by rw[Afd,Afc hiv];rfl
      obtain⟨hI1,hI2⟩:=Wh he hne hfd
      rw[hgv] at hI1 hI2
      rw[hgt,hI1]
      rw[hI2] at htt
      (refine AH<|AZ<|Ad Z<|Bm Z<|Be Z<|A3 Z<|Az Z Z Z<|Ab Z<|Bq (sz:=1) (R:=RBs) (by rfl) (by assumption) (by rfl) Z (by omega) ?_;rintro _ _ _ _ _ ⟨_,rfl,_⟩;apply Ah;rfl;exact BO (by assumption) Z)
      refine A0 (_::J) (AdV h4 (b:=n.vals[i]) hp6 (by assumption)) Z Z (fun v d7 L7 hl7 ⟨_,u,L8,tc8,e7,e8,hu,hp8,htc8⟩=>?_)
      subst e7;subst e8
      obtain⟨ua,uc,rfl⟩:=hu.val
      generalize CP s n.vals[i]=V at hu htc8⊢
      (refine AO Z<|AW Z Z Z Z<|Ae Z<|A7 Z<|Ae Z<|Ab Z<|AI Z Z<|Ab Z<|Ae Z<|Ad Z<|AS Z ?_)
      exact A6 [.slice ua V.1.length uc,.bool (decide (V.2=0)),vZ V.2] ⟨Af Z,Af Z,Af Z,trivial⟩ (d':=d7) (L':=tb bt Tt (pZ bp) root height count::L8) (Vs.drop (.cons _ (Agv J _))) ⟨((hle.trans hl4).trans hl6).trans hl7,_,L8,tc8,Z,hu,Z,hp8,fun _ q=>(by have h8:tc8=tc5+Eo n.vals[i]:=htc8 q;omega)⟩
     |false=>
      obtain⟨hI1,hI2⟩:=VJ he hne hfd
      rw[hgt,hI1]
      rw[hI2] at htt
      (refine AH<|AZ<|Ad Z<|Bm Z<|B7 Z<|Br Z<|Ad Z<|AS Z ?_)
      exact A6 [nV,.bool false,vZ 0] ⟨Af Z,Af Z,Af Z,trivial⟩ (d':=d6) (L':=tb bt Tt (pZ bp) root height count::L5) (Vs.drop (.cons _ (Agv J _))) ⟨(hle.trans hl4).trans hl6,_,L5,tc5,Z,RSl.nil,Z,hp6,fun _ _=>(by omega)⟩
    ·obtain⟨x,rfl⟩:∃y,x=y+1:=⟨x - 1,by omega⟩
     have hil:=hli (by rw[hlf];simp;omega);clear hlv hli hlf;have hii:i<n.kids.length:=by omega
     have hgk:n.kids.getD i 0=n.kids[i]:=by rw[Afd,Afc hii];rfl
     obtain⟨hI1,hI2⟩:=Qy (key:=key) he hne hfd;rw[hgk] at hI1 hI2;refine EO Z (by omega) ?_;(refine Ak<|Az Z Z Z<|Ab Z<|Bq (sz:=1) (R:=Bh) (by rfl) (by assumption) (by rfl) Z (by omega) ?_;rintro _ _ _ _ _ ⟨rfl,_,_⟩;refine Ah Z (BO (by assumption) Z)<|AU Z<|Bl<|Av<|Ab Z<|DT Z Z<|AU Z ?_);exact⟨(x+1,n.kids[i]),by simp only;omega,⟨Z,Z,Z,congrArg (Value.int .i64) (by push_cast;omega),trivial⟩,(hle.trans hl4).trans hl6,by simp only;omega,hgt.trans hI1,_::J,L5,tc5,Z,hp6,by simp only;omega⟩
   ·rw[hgt,Z7 he];refine AR Z<|Ab Z<|AJ Z Z<|A5 Z<|AE Z<|Ae Z<|Ad Z<|AS Z<|A6 [nV,.bool false,vZ (AM s page ((x+1:Nat):Int)).2] ⟨Af Z,Af Z,Af Z,trivial⟩ (d':=d6) (L':=tb bt Tt (pZ bp) root height count::L5) (Vs.drop (.cons _ (Agv J _))) ⟨(hle.trans hl4).trans hl6,_,L5,tc5,Z,RSl.nil,Z,hp6,fun _ q=>absurd q he⟩
 ·have hF:EW ⟨s,root,height,count⟩ key=([],false,Cl key):=by unfold EW;rw[if_pos hw]
  rw[hF];refine A7 Z<|Ab Z<|AJ Z Z<|A5 Z<|AE Z<|Ae Z<|Ad Z<|AS Z<|A6 [nV,.bool false,vZ (Cl key)] ⟨Af Z,Af Z,Af Z,trivial⟩ (d':=d2) (L':=_::L) (Vs.refl _ _) ⟨Le.refl _,_,L,s.tc,Z,RSl.nil,Z,hp,fun q=>absurd q hw⟩
end
end Go.Gk.Tre
end
section
namespace Go.Gk.Tre
open Go Go.Gk Go.Gk.Dev Go.Gk.Cch Go.Gk.Pgr Go.Gk.Chn Go.Gk.Node
section
attribute [local irreducible] gwp gws xwp
end
end Go.Gk.Tre
end
section
namespace Go.Gk
open Go
section
def Ao.pre{P f args d A L R}(p:L.Perm A)(h:Ao P f args d A R):Ao P f args d L R:=
 ⟨h.1,fun F W ok=>h.2 F W (ok.perm (Afm d (Ahz F p)))⟩
def Ao.Y2{P f args d A B R R'}(h:Ao P f args d A (Ret R))(hR:∀v d' A',Le d d'→R v d' A'→∃L',(A'++B).Perm L'∧R' v d' L'):Ao P f args d (A++B) (Ret R'):=by
 refine⟨h.1,fun F W ok=>(h.2 (B++F) W (by rwa [←Afg])).mono ?_⟩
 rintro e W' ⟨d',A',h1,h2,h3,h4⟩;cases e with
 |returned v=>
  obtain⟨L',p,hr⟩:=hR v d' A' h2 h4
  refine⟨d',L',?_,h2,h3,hr⟩
  rw[←Afg] at h1
  exact h1.perm (Afm d' (Ahz F p))
 |panicked c=>exact h4.elim
 |outgrown=>exact h4.elim
section
variable {P:Program}{pan:List PanicEntry→AP}{Qn:Env→AP}{Ls L:List Aa}{ρ:Env}{d:Aa}{s:GS}{t:Nat}
def VF{f args R vs A B}(hc:Ao P f vs d A (Ret R))(hp:(Ls++L).Perm (A++B))(ea:args.map (ev ρ)=vs)
  (h:∀v d' A',Le d d'→R v d' A'→∃L'',(A'++B).Perm (Ls++L'')∧gws P pan Qn s Ls (upd ρ t v) d' L''):gws P pan Qn (.op false ⟨some t,none,.call f args⟩ s) Ls ρ d L:=
 ⟨d,L,Vs.refl d L,.inr ⟨Ls,Ret fun v d' L'=>∃L'',L'=Ls++L''∧gws P pan Qn s Ls (upd ρ t v) d' L'',Z,
  by rw[ea];exact Ao.pre hp (Ao.Y2 hc (fun v d' A' hl hr=>by obtain⟨L'',p,k⟩:=h v d' A' hl hr;exact⟨Ls++L'',p,L'',Z,k⟩)),
  fun e d' L' hl hr=>by
   cases e with
   |returned v=>
    obtain⟨L'',e1,k⟩:=hr
    exact⟨L'',e1,_,_,Vs.refl _ _,k⟩
   |panicked c=>exact hr.elim
   |outgrown=>exact hr.elim⟩⟩
end
end
end Go.Gk
end
section
namespace Go.Gk
open Go Go.Proofs Go.RowKit
def Aah(g3 g4:Nat)(d:Aa):Prop:=(∀c,c<256→DC d g3 c (.int .u8 (Lib.firstT c)))∧∀i,i<16→DC d g4 (2*i) (.int .u8 (Lib.accLo i))∧DC d g4 (2*i+1) (.int .u8 (Lib.accHi i))
def Aah.mono{g3 g4:Nat}{d d'}(h:Aah g3 g4 d)(hl:Le d d'):Aah g3 g4 d':=⟨fun c hc=>(h.1 c hc).mono hl,fun i hi=>⟨(h.2 i hi).1.mono hl,(h.2 i hi).2.mono hl⟩⟩
end Go.Gk
end
section
namespace Go.Gk
open Go Go.Proofs Go.RowKit Go.Shelf
end Go.Gk
end
section
namespace Go.Gk
open Go Go.Proofs Go.RowKit Go.Shelf
end Go.Gk
end
section
namespace Go.Gk.Tre
open Go Go.Gk Go.Gk.Dev Go.Gk.Cch Go.Gk.Pgr Go.Gk.Chn Go.Gk.Node
section
attribute [local irreducible] gwp gws xwp
end
end Go.Gk.Tre
end
section
namespace Go.Gk.Chn
open Go Go.Gk Go.Gk.Dev Go.Gk.Cch Go.Gk.Pgr Go.Gk.Node
section
def PG{P}{pan:List PanicEntry→AP}{Qn:Env→AP}{Ls L ρ d s}{t:Nat}{sz by_:Nat}{z x y k k'}{n c:Nat}(ex:ev ρ x=.int k (n:Nat))(ey:ev ρ y=.int k' (c:Nat))(h1:n≤c)(h2:c≤9223372036854775807)(h3:by_*c≤281474976710656)
  (h:∀b T,gws P pan Qn s Ls (upd ρ t (.slice (some ⟨b,0,none⟩) n c)) (join d (bx b T (BD z (c*sz)))) L):gws P pan Qn (.op false ⟨some t,none,.mks sz by_ z x y⟩ s) Ls ρ d L:=
 ⟨d,L,Vs.refl d L,k,k',n,c,ex,ey,h1,h2,h3,fun b T=>⟨_,_,Vs.freeze,h b T⟩⟩
attribute [local irreducible] gwp gws xwp
def Wp(P:Program)(f:FuncId):Prop:=∀{d}{n:Nat},1≤n→n≤8192→Ao P f [vZ n] d [] (Ret fun r d' L'=>L'=[]∧∃b a c,r=.tuple #[pZ b,vZ 0]∧DC d' b 0 (.slice a n c))
def M0:A9:=⟨31,[(.tmp 2),(.tmp 3)],(sR (o1 2 (.mv (.const (.pointer none)))<|o1 3 (.mv z0) .done) (.seq (sR (om 6 0<|ob 7 .lss 6 z1<|om 8 7<|gF 9 8 0<|oF 10 8 (.bin .gtr 9 (kZ 8192))<|o1 11 (.pick 8 (.const (.bool true)) 10) .done) (.cond 11 (sR (o1 2 (.mv (.const (.pointer none)))<|o1 3 (.mv z2) .done) .ret) .skip)) (sR (o1 12 (.bld [(0,1),(1,1),(2,1),(3,1)] [nV,nV,(vZ 0),(vZ 0)] [(3,(kZ (-1)))])<|o1 13 (.box 12)<|om 4 13 .done) (.seq (sR (o1 5 (.mv z0) .done) (.block 0 (.loop (.seq (sR (om 14 5<|om 15 0<|ob 16 .lss 14 15 .done) (.cond 16 .skip (.exit 0))) (.seq (.block 1 (.reg true (pm 19 4<|pm 20 4<|p1 21 (.nilc 20)<|p1 22 (.fld 0 21)<|pl 23 22<|o1 24 (.mks 1 1 [(.int .u8 0)] (kZ 256) (kZ 256))<|p1 25 (.b2s 24)<|o1 26 (.bsl 1 1 [(BQ [])] [(0,25)])<|o1 27 (.app 1 16 [(BQ [])] 23 26)<|p1 28 (.nilc 19)<|p1 29 (.fld 0 28) (.bar (o0 (.st 1 29 27) .done))))) (rG (om 17 5<|ob 18 .add 17 z1<|om 5 18 .done))))))) (sR (om 30 4<|om 2 30<|o1 3 (.mv z0) .done) .ret)))))⟩
set_option maxRecDepth 4000 in
set_option maxHeartbeats 1000000 in
def Ade{P f}(hd:Jj P f=some M0):Wp P f:=by
 intro d n hn1 hn2;refine Bj hd<|Ak<|B1 d [emp] Vs.emp<|Ag Z<|AR Z<|Ab Z<|Au Z Z<|Ad Z<|Bs Z<|Ac Z<|Ab Z<|Ac Z<|Bu Z Z<|Aj Z Z<|AT Z<|Ak<|BY Z<|CF Z (fun _ _=>Ag Z<|BG<|AU Z<|Aq ?_);rename_i b T;refine Cs (α:=Nat×Option Addr×Nat) (fun x=>[(0,vZ n),(4,pZ b),(5,vZ x.1)])
  (fun x d' L'=>Le d d'∧x.1≤n∧∃h,[bx b T [.slice x.2.1 x.1 x.2.2,nV,vZ 0,vZ (-1)],h].Sublist L'∧Ai 1 Mh d' (.slice x.2.1 x.1 x.2.2) (Afu x.1 (Afu 256 0)) h) (fun x=>n - x.1) (0,none,0) ⟨Z,Z,Z,trivial⟩ ⟨Le.refl _,Agd _,emp,Afa _,Ai.nil⟩ ?_
 rintro⟨i,a,c⟩ ρ d' L' ⟨hle,hi,h,hsub,hrow⟩;simp only at hi hsub hrow⊢;apply Aw;apply Aw;apply Av;refine B1 d' _ (Vs.drop hsub) ?_;by_cases e:i<n
 ·refine Ab Z<|Ab Z<|Au Z Z<|A5 Z<|AH<|Aw<|Aq<|BE [bx b T [.slice a i c,nV,vZ 0,vZ (-1)]] [h] Z<|Ag Z<|Ag Z<|Ap Z<|Az Z Z Z<|PG (n:=256) (c:=256) Z Z (Afe _) (by omega) (by omega) (fun b24 T24=>?_);have hg:Ai 1 Ax d' (.slice (some ⟨b24,0,none⟩) 256 256) (Afu 256 0) (bx b24 T24 (BD [.int .u8 0] (256*1))):=Ai.zero Z (by omega) Z (by omega);have hgr:=Ai.rsl (R:=Ax) (sz:=1) hg AF (by omega) (Le.Ar _ _) (Le.Bc d' (bx b24 T24 (BD [.int .u8 0] (256*1))));have hl2:Le d' (join d' (bx b24 T24 (BD [.int .u8 0] (256*1)))):=Le.Ar _ _;refine Bv Z hgr<|DN (v0:=BQ (Afu 256 0)) Z Z (fun b26 T26=>?_);have hrow2:Ai 1 Mh (join d' (bx b24 T24 (BD [.int .u8 0] (256*1)))) (.slice a i c) (Afu i (Afu 256 0)) h:=by
   have:=Ai.mono (R:=Mh) Abh hrow hl2;exact this
  have hil:(Afu i (Afu 256 (0:UInt8))).length=i:=Agk;refine D4 (R:=Mh) 0 Z Z hrow2 Z (Ai.EL (R:=Mh) (x:=Afu 256 0) Z ⟨Z,by simp⟩) Zf (by omega) (by simp;omega) (by simp;omega) (fun v' h' ho'=>?_);rw[←List.replicate_succ'] at ho';obtain⟨a',c',rfl⟩:=ho'.val;rw[Agk] at ho'⊢;refine Ap Z<|Am Z<|Cw<|Bb 0 [.slice a' (i+1) c',nV,vZ 0,vZ (-1)] Z Z Z Z (Aff Z) Z Z<|An<|Av<|Ab Z<|A4 Z Z<|AU Z ?_;exact⟨(i+1,a',c'),by simp only;omega,⟨Z,Z,Z,trivial⟩,hle.trans hl2,e,h',Afa _,ho'⟩
 ·have:i=n:=by omega
  subst this;refine Ab Z<|Ab Z<|Au Z Z<|EY Z<|Bl<|A3 Z<|Ag Z<|AS Z<|A6 [pZ b,vZ 0] ⟨Z,Z,trivial⟩ (d':=join (join d' (bx b T [.slice a i c,nV,vZ 0,vZ (-1)])) h) (L':=[]) (Vs.freeze.trans Vs.freeze) ⟨Z,b,a,c,Z,(Le.dcs ((Le.Bc _ _).trans (Le.Ar _ _))).at (i:=0) Z⟩
end
end Go.Gk.Chn
end
section
namespace Go.Gk.Chn
open Go Go.Gk Go.Gk.Dev Go.Gk.Cch Go.Gk.Pgr Go.Gk.Node
attribute [local irreducible] gwp gws xwp
def Xg(P:Program)(f:FuncId):Prop:=∀{d}{b n c:Nat}{a},DC d b 0 (.slice a (n+2) c)→1≤n→n≤8000→Dj P f [pZ b,vZ 2,vZ n] d (.bool true)
def Ko:A9:=⟨31,[(.tmp 6)],(sR (o1 6 (.mv (.const (.bool false))) .done) (sR (om 8 0<|o1 9 (.nilc 8)<|oj 10 0 9<|ol 11 10<|oL 12 11<|om 7 12 .done) (sR (om 13 1<|ob 14 .geq 13 z0<|om 15 14<|gT 16 15 1<|gT 17 15 7<|oT 18 15 (.bin .leq 16 17)<|gP 19 15 18<|om 20 19<|gT 21 20 2<|oT 22 20 (.bin .geq 21 z1)<|gP 23 20 22<|om 24 23<|gT 25 24 2<|gT 26 24 7<|gT 27 24 1<|oT 28 24 (.bin .sub 26 27)<|oT 29 24 (.bin .leq 25 28)<|gP 30 24 29<|om 6 30 .done) .ret)))⟩
def Adq{P f}(hd:dec P f=some Ko):Xg P f:=by
 intro d b n c a hb hn1 hn2;refine Bj hd ?_;have h2:(2:Int)≤((n+2:Nat):Int):=by omega
 have h3:(n:Int)≤((n+2:Nat):Int) - 2:=by omega
 refine Ak<|AV Z<|A3 Z<|Ap Z<|Am Z<|Ah Z (BR (by assumption))<|AA Z<|A7 Z<|Ab Z<|Dk Z Z<|Ad Z<|Bx Z<|Ac Z<|Ab Z<|Ac Z<|Ab Z<|Ac Z<|G3 Z Z<|As Z Z<|Ad Z<|Bx Z<|Ac Z<|Ab Z<|Ac Z<|Dk Z Z<|As Z Z<|Ad Z<|Bx Z<|Ac Z<|Ab Z<|Ac Z<|Ab Z<|Ac Z<|Ab Z<|Ac Z<|DT Z Z<|Ac Z<|G3 Z Z<|As Z Z<|Cc Z<|BZ (v:=.bool (decide ((n:Int)≤((n+2:Nat):Int) - 2))) Z (Afa _) ⟨congrArg Value.bool (decide_eq_true h3),Z,Z⟩
def Xz(P:Program)(f:FuncId):Prop:=∀{d}{b q n c:Nat}{a},DC d b 0 (.slice a (n+2) c)→1≤n→n≤8000→
 Ao P f [pZ b,pZ q,vZ 2,vZ n,nV] d [] (Ret fun r _ L'=>L'=[]∧∃v,r=.tuple #[pZ v,vZ 0])
def No(a0 a1:Nat):A9:=⟨52,[(.tmp 10),(.tmp 11)],(sR (o1 10 (.mv (.const (.pointer none)))<|o1 11 (.mv z0) .done) (.seq (sR (om 14 0<|om 15 2<|om 16 3<|oc 17 a0 [14,15,16]<|o1 18 (.un .not 17) .done) (.cond 18 (sR (o1 10 (.mv (.const (.pointer none)))<|o1 11 (.mv z2) .done) .ret) .skip)) (sR (om 19 0<|om 20 1<|om 21 2<|om 22 3<|o1 23 (.mks 2 24 [(vZ 0),(BQ [])] 22 22)<|o1 24 (.bld [(0,1),(1,1),(2,1),(3,1),(4,1),(5,1)] [(.pointer none),(.pointer none),(vZ 0),nV,(vZ 0),(vZ 0)] [(0,19),(1,20),(2,21),(3,23)])<|o1 25 (.box 24)<|om 12 25 .done) (.seq (sR (o1 13 (.mv z0) .done) (.block 0 (.loop (.seq (sR (om 26 13<|om 27 4<|oL 28 27<|ob 29 .lss 26 28 .done) (.cond 29 .skip (.exit 0))) (.seq (.block 1 (.seq (sR (om 32 12<|om 33 4<|om 34 13<|oI 35 1 33 34<|ol 36 35<|oc 37 a1 [32,36]<|ob 38 .neq 37 z0 .done) (.cond 38 (sR (o1 10 (.mv (.const (.pointer none)))<|o1 11 (.mv z2) .done) .ret) .skip)) (.reg true (pm 39 12<|p1 40 (.nilc 39)<|p1 41 (.fld 3 40)<|pl 42 41<|pm 43 4<|pm 44 13<|p1 45 (.idx 1 43 44)<|pl 46 45<|pm 47 2<|p1 48 (.bin .sub 46 47)<|p1 49 (.idx 2 42 48)<|p1 50 (.fld 0 49)<|o0 (.st 1 50 z2) .done)))) (rG (om 30 13<|ob 31 .add 30 z1<|om 13 31 .done))))))) (sR (om 51 12<|om 10 51<|o1 11 (.mv z0) .done) .ret)))))⟩
set_option maxRecDepth 4000 in
def Adt{P f f1 f2}(hd:dec P f=some (No f1 f2))(h1:Xg P f1):Xz P f:=by
 intro d b q n c a hb hn1 hn2;refine Bj hd<|A3 Z<|AR Z<|Ag Z<|Ab Z<|Ab Z<|Bz Z (h1 hb hn1 hn2) (fun u d1 L1 _ ⟨e1,e2,e3⟩=>?_);subst e1;subst e2;subst e3;refine Bm Z<|Be Z<|A3 Z<|Ag Z<|Ab Z<|Ab Z<|Iv (n:=n) (c:=n) Z Z (Afe _) (by omega) (by omega) (fun b23 T23=>?_);(refine BY Z<|CF Z (fun _ _=>Ag Z<|BG<|AU Z<|Aq ?_));rename_i bb TT;refine Cs (α:=Unit) (fun _=>[(4,nV),(12,pZ bb),(13,vZ 0)]) (fun _ _ _=>True) (fun _=>0) () ⟨Z,Z,Z,trivial⟩ trivial ?_;rintro - ρ d' L' -;refine AZ<|Ab Z<|Ae Z<|AA Z<|Au Z Z<|EY Z<|Bl<|A3 Z<|Ag Z<|AS Z<|CJ Z Z (Agp _) ⟨Z,_,Z⟩
def W5(P:Program)(f:FuncId):Prop:=∀{d}{b:Nat},Ao P f [pZ b,vZ 4] d [] (Ret fun r _ L'=>L'=[]∧∃q,r=.tuple #[pZ q,vZ 0])
def Mx:A9:=⟨48,[(.tmp 4),(.tmp 5)],(sR (o1 4 (.mv (.const (.pointer none)))<|o1 5 (.mv z0) .done) (.seq (sR (om 8 1<|ob 9 .lss 8 z1<|om 10 9<|gF 11 10 1<|oF 12 10 (.bin .gtr 11 (kZ 64))<|o1 13 (.pick 10 (.const (.bool true)) 12) .done) (.cond 13 (sR (o1 4 (.mv (.const (.pointer none)))<|o1 5 (.mv z2) .done) .ret) .skip)) (.seq (.reg true (pm 14 0<|pm 15 1<|pm 17 1<|pm 19 1 (.par (o1 20 (.mks 1 16 [(BQ [])] 19 19) .done) (.par (o1 16 (.mks 1 8 [(vZ 0)] 15 15) .done) (o1 18 (.mks 1 1 [(.bool false)] 17 17) .done) .done) (p1 21 (.bld [(0,1),(1,1),(2,1),(3,1),(4,1),(5,1),(6,1),(7,1),(8,1)] [(.pointer none),nV,nV,nV,nV,nV,(vZ 0),(vZ 0),(vZ 0)] [(0,14),(2,16),(3,18),(4,20)]) (o1 22 (.box 21) (.bar (pm 6 22 .done))))))) (.seq (sR (o1 7 (.mv z0) .done) (.block 0 (.loop (.seq (sR (om 23 7<|om 24 1<|ob 25 .lss 23 24 .done) (.cond 25 .skip (.exit 0))) (.seq (.block 1 (sR (om 28 6<|om 29 6<|o1 30 (.nilc 29)<|oj 31 1 30<|ol 32 31<|o1 33 (.bsl 1 1 [(vZ 0)] [(0,(kZ (-1)))])<|o1 34 (.app 1 8 [(vZ 0)] 32 33)<|o1 35 (.nilc 28)<|oj 36 1 35<|o0 (.st 1 36 34) .done) (rG (om 37 6<|om 38 6<|o1 39 (.nilc 38)<|oj 40 5 39<|ol 41 40<|om 42 7<|o1 43 (.bsl 1 1 [(vZ 0)] [(0,42)])<|o1 44 (.app 1 8 [(vZ 0)] 41 43)<|o1 45 (.nilc 37)<|oj 46 5 45<|o0 (.st 1 46 44) .done)))) (rG (om 26 7<|ob 27 .add 26 z1<|om 7 27 .done))))))) (sR (om 47 6<|om 4 47<|o1 5 (.mv z0) .done) .ret)))))⟩
set_option maxRecDepth 4000 in
set_option maxHeartbeats 1000000 in
def AdO{P f}(hd:Jj P f=some Mx):W5 P f:=by
 intro d b;refine Bj hd<|A3 Z<|AR Z<|Ab Z<|Au Z Z<|Ad Z<|Bs Z<|Ac Z<|Ab Z<|Ac Z<|Bu Z Z<|Aj Z Z<|AT Z<|Aw<|BE [] [] Z<|Ag Z<|Ab Z<|Ab Z<|Ab Z<|Gh (α:=Nat) (β:=Nat×Nat) [(1,vZ 4),(14,pZ b)] (fun x=>[(20,.slice (some ⟨x,0,none⟩) 4 4)]) (fun _ _ L=>L=[]) (fun y=>[(16,.slice (some ⟨y.1,0,none⟩) 4 4),(18,.slice (some ⟨y.2,0,none⟩) 4 4)]) (fun _ _ L=>L=[]) [] [] Z
  (fun _ _ _ _ _ q=>q) (fun _ _ _ _ _ q=>q) (fun _=>Z) (fun _=>Z) Z ⟨Z,Z,trivial⟩ ?_ ?_ ?_
 ·refine PG (n:=4) (c:=4) Z Z (Afe _) (by omega) (by omega) (fun b20 T20=>?_);(apply An);exact⟨_,Z,b20,⟨Z,trivial⟩,Z⟩
 ·refine Gh (α:=Nat) (β:=Nat) [] (fun x=>[(16,.slice (some ⟨x,0,none⟩) 4 4)]) (fun _ _ L=>L=[]) (fun y=>[(18,.slice (some ⟨y,0,none⟩) 4 4)]) (fun _ _ L=>L=[]) [] [] Z
   (fun _ _ _ _ _ q=>q) (fun _ _ _ _ _ q=>q) (fun _=>Z) (fun _=>Z) Z trivial ?_ ?_ ?_
  ·refine PG (n:=4) (c:=4) Z Z (Afe _) (by omega) (by omega) (fun b16 T16=>?_);(apply An);exact⟨_,Z,b16,⟨Z,trivial⟩,Z⟩
  ·refine PG (n:=4) (c:=4) Z Z (Afe _) (by omega) (by omega) (fun b18 T18=>?_);(apply An);exact⟨_,Z,b18,⟨Z,trivial⟩,Z⟩
  ·rintro b16 b18 ρ2 d2 M1 M2 hl2 rfl rfl;(apply An);exact⟨_,Z,(b16,b18),⟨Z,Z,trivial⟩,Z⟩
 ·rintro b20 ⟨b16,b18⟩ ρ2 d2 M1 M2 hl2 rfl rfl;refine BY (cs:=[pZ b,nV,.slice (some ⟨b16,0,none⟩) 4 4,.slice (some ⟨b18,0,none⟩) 4 4,.slice (some ⟨b20,0,none⟩) 4 4,nV,vZ 0,vZ 0,vZ 0]) Z<|B1 d2 [emp,emp] (Vs.emp.trans Vs.emp)<|CF Z (fun q T=>?_);refine Cw<|Ag Z<|BG<|AU Z<|Aq<|Cs (α:=Nat×Option Addr×Nat×Option Addr×Nat) (fun x=>[(1,vZ 4),(6,pZ q),(7,vZ x.1)])
   (fun x d' L'=>x.1≤4∧∃h1 h5 xs ys,[bx q T [pZ b,.slice x.2.1 x.1 x.2.2.1,.slice (some ⟨b16,0,none⟩) 4 4,.slice (some ⟨b18,0,none⟩) 4 4,.slice (some ⟨b20,0,none⟩) 4 4,.slice x.2.2.2.1 x.1 x.2.2.2.2,vZ 0,vZ 0,vZ 0],h1,h5].Sublist L'∧
    Ai 1 Bh d' (.slice x.2.1 x.1 x.2.2.1) xs h1∧Ai 1 Bh d' (.slice x.2.2.2.1 x.1 x.2.2.2.2) ys h5∧xs.length=x.1∧ys.length=x.1) (fun x=>4 - x.1) (0,none,0,none,0) ⟨Z,Z,Z,trivial⟩ ⟨Agd _,emp,emp,[],[],Afa _,Ai.nil,Ai.nil,Z,Z⟩ ?_
  rintro⟨i,a1,c1,a5,c5⟩ ρ d' L' ⟨hi,h1,h5,xs,ys,hsub,r1,r5,x1,y1⟩;simp only at hi hsub r1 r5 x1 y1⊢;apply Aw;apply Aw;apply Av;refine B1 d' _ (Vs.drop hsub) ?_;by_cases e:i<4
  ·refine Ab Z<|Ab Z<|Au Z Z<|A5 Z<|AH<|Aw<|Aq<|A3 Z<|Ag Z<|Ap Z<|Az Z Z Z<|DN (v0:=vZ (-1)) Z Z (fun b33 T33=>?_);refine D4 (R:=Bh) 1 Z Z r1 Z (Ai.EL (R:=Bh) (x:= -1) Z ⟨Z,by omega,by omega⟩) D1 (by omega) (by simp;omega) (by simp;omega) (fun v1 h1' o1=>?_);obtain⟨a1',c1',rfl⟩:=o1.val;rw[Afk,x1] at o1⊢;refine Ap Z<|Am Z<|Bb 0 [pZ b,.slice a1' (i+1) c1',.slice (some ⟨b16,0,none⟩) 4 4,.slice (some ⟨b18,0,none⟩) 4 4,.slice (some ⟨b20,0,none⟩) 4 4,.slice a5 i c5,vZ 0,vZ 0,vZ 0] Z Z Z Z (Aff Z) Z Z<|An<|Av<|Ag Z<|Ag Z<|Ap Z<|Az Z Z Z<|Ab Z<|DN (v0:=vZ i) Z Z (fun b43 T43=>?_);refine D4 (R:=Bh) 2 Z Z r5 Z (Ai.EL (R:=Bh) (x:=(i:Int)) Z ⟨Z,by omega,by omega⟩) D1 (by omega) (by simp;omega) (by simp;omega) (fun v5 h5' o5=>?_);obtain⟨a5',c5',rfl⟩:=o5.val;rw[Afk,y1] at o5⊢;refine Ap Z<|Am Z<|Bb 0 [pZ b,.slice a1' (i+1) c1',.slice (some ⟨b16,0,none⟩) 4 4,.slice (some ⟨b18,0,none⟩) 4 4,.slice (some ⟨b20,0,none⟩) 4 4,.slice a5' (i+1) c5',vZ 0,vZ 0,vZ 0] Z Z Z Z (Aff Z) Z Z<|An<|Av<|Ab Z<|A4 Z Z<|AU Z ?_;exact⟨(i+1,a1',c1',a5',c5'),by simp only;omega,⟨Z,Z,Z,trivial⟩,e,h1',h5',_,_,Afa _,o1,o5,by rw[Afk,x1];rfl,by rw[Afk,y1];rfl⟩
  ·have:i=4:=by omega
   subst this;refine Ab Z<|Ab Z<|Au Z Z<|EY Z<|Bl<|A3 Z<|Ag Z<|AS Z<|CJ Z Z (Agp _) ⟨Z,q,Z⟩
def pdN(n:Nat):PD:=⟨2,Ei n [],fun _=>[],Afu (n+2) J0,0,0⟩
def Pr(P:Program)(f:FuncId):Prop:=∀{d}{n:Nat},1≤n→n≤1000→Ao P f [vZ n] d [] (Ret fun r d' L'=>∃b bd bp,r=pZ b∧DC d' b 0 (pZ bp)∧Pg d' (pdN n) (pZ bd) (pZ bp) L')
def LZ(a0 a1 a2 a3 a4 a5:Nat):A9:=⟨75,[(.tmp 2)],(sR (o1 2 (.mv (.const (.pointer none))) .done) (sR (om 14 0<|ob 15 .add 14 z2<|oc 16 a0 [15]<|om 13 16<|oe 17 13 0<|oe 18 13 1<|om 3 17<|om 4 18 .done) (sR (om 20 0<|ob 21 .add 20 z2<|oc 22 a1 [21]<|om 19 22<|oe 23 19 0<|oe 24 19 1<|om 5 23<|om 6 24 .done) (.seq (sR (om 25 4<|ob 26 .neq 25 z0<|om 27 26<|gF 28 27 3<|oF 29 27 (.eqp false 28 (.const (.pointer none)))<|o1 30 (.pick 27 (.const (.bool true)) 29)<|om 31 30<|gF 32 31 5<|oF 33 31 (.eqp false 32 (.const (.pointer none)))<|o1 34 (.pick 31 (.const (.bool true)) 33) .done) (.cond 34 (sR (o1 2 (.mv (.const (.pointer none))) .done) .ret) .skip)) (sR (om 36 3<|oc 37 a2 [36,(kZ 4)]<|om 35 37<|oe 38 35 0<|oe 39 35 1<|om 7 38<|om 4 39 .done) (sR (om 41 5<|oc 42 a3 [41,(kZ 4)]<|om 40 42<|oe 43 40 0<|oe 44 40 1<|om 8 43<|om 9 44 .done) (.seq (sR (om 45 4<|ob 46 .neq 45 z0<|om 47 46<|gF 48 47 7<|oF 49 47 (.eqp false 48 (.const (.pointer none)))<|o1 50 (.pick 47 (.const (.bool true)) 49) .done) (.cond 50 (sR (o1 2 (.mv (.const (.pointer none))) .done) .ret) .skip)) (sR (om 52 3<|om 53 7<|om 54 0<|oc 55 a4 [52,53,z2,54,nS]<|om 51 55<|oe 56 51 0<|oe 57 51 1<|om 10 56<|om 4 57 .done) (sR (om 59 5<|om 60 8<|om 61 0<|oc 62 a5 [59,60,z2,61,nS]<|om 58 62<|oe 63 58 0<|oe 64 58 1<|om 11 63<|om 12 64 .done) (.seq (sR (om 65 4<|ob 66 .neq 65 z0<|om 67 66<|gF 68 67 10<|oF 69 67 (.eqp false 68 (.const (.pointer none)))<|o1 70 (.pick 67 (.const (.bool true)) 69) .done) (.cond 70 (sR (o1 2 (.mv (.const (.pointer none))) .done) .ret) .skip)) (sR (om 71 10<|om 72 11<|o1 73 (.bld [(0,1),(1,1)] [(.pointer none),(.pointer none)] [(0,71),(1,72)])<|o1 74 (.box 73)<|om 2 74 .done) .ret)))))))))))⟩
set_option maxRecDepth 4000 in
set_option maxHeartbeats 1000000 in
def Yb{P f f1 f2 f3 f4 f5 f6}(hd:dec P f=some (LZ f1 f2 f3 f4 f5 f6))(h1:Ow P f1)(h2:Wp P f2)(h3:KU P f3)(h4:W5 P f4)(h5:SS P f5)(h6:Xz P f6):Pr P f:=by
 intro d n hn1 hn2;refine Bj hd<|A3 Z<|Bo<|Ab Z<|A4 Z Z<|CX (h1 (n:=n+2) (by omega) (by omega)) Z (fun u d1 L1 hl1 ⟨dv,e1,e2,e3⟩=>?_);subst e1;subst e2;obtain⟨bd,rfl⟩:∃b,dv=pZ b:=let ⟨b,_,_,_,_,_,_,h,_⟩:=e3;⟨b,h⟩
 refine AO Z<|AW Z Z Z Z<|Ag Z<|A7 Z<|Ab Z<|A4 Z Z<|Ek (A:=[]) (B:=L1) Z Z (h2 (n:=n+2) (by omega) (by omega)) (fun u d2 L2 hl2 ⟨q1,br,ar,cr,q2,q3⟩=>?_);subst q1;subst q2;rw[Agh];refine AO Z<|AW Z Z Z Z<|Ag Z<|AR Z<|Ab Z<|AJ Z Z<|Ad Z<|Bs Z<|Ac Z<|Ag Z<|Ac Z<|CG Z Z<|Aj Z Z<|Ad Z<|Ac Z<|Ag Z<|Ac Z<|CG Z Z<|Aj Z Z<|Be Z<|A3 Z<|CX (h3 (n:=4) (e3.mono hl2) (show 1≤(Afu (n+2) J0).length by rw[Agk];omega) (by omega) (by omega)) Z (fun u d3 L3 _ ⟨q4,cv,LC,q5,q6,q7⟩=>?_);subst q4;subst q5;subst q6;obtain⟨bc,rfl⟩:∃b,cv=pZ b:=let ⟨b,_,_,_,_,_,_,_,_,h,_⟩:=q7;⟨b,h⟩
 refine AO Z<|AW Z Z Z Z<|Ag Z<|A7 Z<|Ag Z<|Ek (A:=[]) (B:=LC++L1) Z Z (h4 (b:=br)) (fun u d4 L4 hl4 ⟨p1,bq,p2⟩=>?_);subst p1;subst p2;rw[Agh];refine AO Z<|AW Z Z Z Z<|Ag Z<|AR Z<|Ab Z<|AJ Z Z<|Ad Z<|Bs Z<|Ac Z<|Ag Z<|Ac Z<|CG Z Z<|Aj Z Z<|Be Z<|A3 Z<|Ag Z<|Ab Z<|CX (h5 (frm:=2) (n:=n) (m:=4) (live:=[]) ((e3.mono hl2).mono hl4) (q7.mono hl4) (by omega) (by omega) (by omega) (by rw[Agk];omega) (by rw[Agk];omega) Ajs (fun k hk=>(by cases hk)) (RSl.nil:D9 d4 nV [])) Z (fun u d5 L5 hl5 ⟨pv,g1,g2,g3⟩=>?_);subst g1;obtain⟨bp,rfl⟩:=g3.ptr;refine AO Z<|AW Z Z Z Z<|Ag Z<|A7 Z<|Ag Z<|Ag Z<|Ab Z<|Ek (A:=[]) (B:=L5) Z Z (h6 (n:=n) (b:=br) (q:=bq) ((q3.mono hl4).mono hl5) hn1 (by omega)) (fun u d6 L6 hl6 ⟨p1,xv,p2⟩=>?_);subst p1;subst p2;rw[Agh];(refine AO Z<|AW Z Z Z Z<|Ag Z<|AR Z<|Ab Z<|AJ Z Z<|Ad Z<|Bs Z<|Ac Z<|Ag Z<|Ac Z<|CG Z Z<|Aj Z Z<|Be Z<|A3 Z<|Ag Z<|BY Z<|CF Z (fun _ _=>Ag Z<|BJ ?_));rename_i bm Tm;exact A6 [pZ bm] ⟨Z,trivial⟩ (d':=join d6 (bx bm Tm [pZ bp,pZ xv])) (L':=L5) Vs.freeze ⟨bm,bd,bp,Z,(Le.dcs (Le.Bc _ _)).at (i:=0) Z,(g3.mono hl6).mono (Le.Ar _ _)⟩
end Go.Gk.Chn
end
section
namespace Go.Gk.Tre
open Go Go.Gk Go.Gk.Dev Go.Gk.Cch Go.Gk.Pgr Go.Gk.Chn Go.Gk.Node
attribute [local irreducible] gwp gws xwp
variable{P:Program}{f f1:FuncId}
def Ou(P:Program)(f:FuncId):Prop:=∀{d w key},Ay d w key→Dj P f [w] d (vZ (Cl key))
def KS:A9:=⟨11,[(.tmp 2)],(sR (o1 2 (.mv z0) .done) (.seq (sR (om 3 0<|oL 4 3<|ob 5 .lss 4 z1<|om 6 5<|gF 7 6 0<|oF 8 6 (.len 7)<|oF 9 6 (.bin .gtr 8 (kZ 64))<|o1 10 (.pick 6 (.const (.bool true)) 9) .done) (.cond 10 (sR (o1 2 (.mv z2) .done) .ret) .skip)) (sR (o1 2 (.mv z0) .done) .ret)))⟩
def YM(hd:dec P f=some KS):Ou P f:=by
 intro d w key hw;have hwl:=hw.BW;obtain⟨a,c,rfl⟩:=hw.val;refine Bj hd ?_;by_cases e1:key.length<1
 ·have hF:Cl key=2:=by unfold Cl;rw[if_pos (.inl e1)]
  rw[hF];refine AE Z<|BG<|Ae Z<|AA Z<|Au Z Z<|Ad Z<|Bx Z<|AQ Z Z<|BP Z<|As Z Z<|B7 Z<|AE Z<|BJ<|BZ Z (Afa _) ⟨Z,Z,Z⟩
 ·by_cases e2:64<key.length
  ·have hF:Cl key=2:=by unfold Cl;rw[if_pos (.inr e2)]
   rw[hF];refine AE Z<|BG<|Ae Z<|AA Z<|Au Z Z<|Ad Z<|Bs Z<|Ac Z<|Ae Z<|Ac Z<|AA Z<|Ac Z<|Bu Z Z<|Aj Z Z<|A5 Z<|AE Z<|BJ<|BZ Z (Afa _) ⟨Z,Z,Z⟩
  ·have hF:Cl key=0:=by unfold Cl;rw[if_neg (by omega)]
   rw[hF];refine AE Z<|BG<|Ae Z<|AA Z<|Au Z Z<|Ad Z<|Bs Z<|Ac Z<|Ae Z<|Ac Z<|AA Z<|Ac Z<|Bu Z Z<|Aj Z Z<|AT Z<|AE Z<|BJ<|BZ Z (Afa _) ⟨Z,Z,Z⟩
def Q4(P:Program)(f:FuncId):Prop:=∀{d w b}{n:Nat},Ay d w b→n≤1000000→Ao P f [w,vZ n] d [] (Ret fun v d' L'=>L'=[]∧d'=d∧Ay d v (b.take n))
def Lj:A9:=⟨13,[(.tmp 4)],(sR (o1 4 (.mv nS) .done) (.seq (sR (om 5 0<|oL 6 5<|om 7 1<|ob 8 .gtr 6 7 .done) (.cond 8 (sR (om 9 0<|om 10 1<|o1 11 (.sl 1 9 none (some 10) none)<|om 4 11 .done) .ret) .skip)) (sR (om 12 0<|om 4 12 .done) .ret)))⟩
def Abq(hd:dec P f=some Lj):Q4 P f:=by
 intro d w b n hw hn;have hwl:=hw.BW;obtain⟨a,c,rfl⟩:=hw.val;refine Bj hd ?_;by_cases e1:n<b.length
 ·refine Br Z<|BG<|Ae Z<|AA Z<|Ab Z<|Bu Z Z<|A5 Z<|Br Z<|Ab Z<|P5 (n:=n) Z hw Z Z (by omega) (fun v11 r11=>?_);obtain⟨a1,c1,rfl⟩:=r11.val;refine Ae Z<|BJ<|BZ Z (Afa _) ⟨Z,Z,r11⟩
 ·rw[Agt (by omega)];refine Br Z<|BG<|Ae Z<|AA Z<|Ab Z<|Bu Z Z<|AT Z<|Br Z<|Ae Z<|BJ<|BZ Z (Afa _) ⟨Z,Z,hw⟩
def JE(P:Program)(f:FuncId):Prop:=∀{d}{n:Nat},1≤n→n≤1000→Ao P f [vZ n] d [] (Ret fun r d' L'=>∃bt Tt bd bp L2,r=.tuple #[pZ bp,pZ bt]∧L'=tb bt Tt (pZ bp) (-1) 0 0::L2∧Pg d' (pdN n) (pZ bd) (pZ bp) L2)
def JZ(a0 a1:Nat):A9:=⟨26,[(.tmp 2),(.tmp 3)],(sR (o1 2 (.mv (.const (.pointer none)))<|o1 3 (.mv (.const (.pointer none))) .done) (sR (om 7 0<|oc 8 a0 [7]<|om 4 8 .done) (.seq (sR (om 9 4<|o1 10 (.eqp false 9 (.const (.pointer none))) .done) (.cond 10 (sR (o1 2 (.mv (.const (.pointer none)))<|o1 3 (.mv (.const (.pointer none))) .done) .ret) .skip)) (sR (om 12 4<|o1 13 (.nilc 12)<|oj 14 0 13<|ol 15 14<|oc 16 a1 [15]<|om 11 16<|oe 17 11 0<|oe 18 11 1<|om 5 17<|om 6 18 .done) (.seq (sR (om 19 6<|ob 20 .neq 19 z0 .done) (.cond 20 (sR (o1 2 (.mv (.const (.pointer none)))<|o1 3 (.mv (.const (.pointer none))) .done) .ret) .skip)) (sR (om 21 4<|o1 22 (.nilc 21)<|oj 23 0 22<|ol 24 23<|om 25 5<|om 2 24<|om 3 25 .done) .ret))))))⟩
def Wq{f2}(hd:dec P f=some (JZ f1 f2))(h1:Pr P f1)(h2:Ue P f2):JE P f:=by
 intro d n hn1 hn2;refine Bj hd<|A3 Z<|Ag Z<|Bo<|Ab Z<|CX (h1 (n:=n) hn1 hn2) Z (fun u d1 L1 hl1 ⟨b,bd,bp,e1,e2,e3⟩=>?_);subst e1;refine Ag Z<|BG<|Ag Z<|CG Z Z<|Be Z<|A3 Z<|Ap Z<|Am Z<|Ah Z (BR (by assumption))<|CX (h2 e3) Z (fun u d2 L2 hl2 ⟨_,bt,Tt,e4,e5⟩=>?_);subst e4;subst e5;have e2':=e2.mono hl2;refine AO Z<|AW Z Z Z Z<|Ag Z<|AR Z<|Ab Z<|AJ Z Z<|AT Z<|A3 Z<|Ap Z<|Am Z<|Ah Z (BR (by assumption))<|Ag Z<|Ag Z<|Ag Z<|BJ<|A6 [pZ bp,pZ bt] ⟨Af Z,Af Z,trivial⟩ (Vs.refl _ _) ⟨bt,Tt,bd,bp,_,Z,Z,e3.mono hl2⟩
abbrev KV:=List UInt8×List UInt8
def RKv(_:Aa)(cs:List Value)(x:KV):Prop:=cs=[BQ x.1,BQ x.2]∧x.1.length≤140737488355328∧x.2.length≤140737488355328
def GG:Gu RKv:=fun _ h=>h
def BL:List KV→List UInt8→Nat
 |[],_=>0
 |x::l,key=>if Op.bytesLess x.1 key=true then BL l key+1 else 0
def Kw(P:Program)(f:FuncId):Prop:=∀{d w l key},RSl 2 RKv d w l→key.length≤140737488355328→Dj P f [w,BQ key] d (vZ (BL l key:Nat))
def LV:A9:=⟨22,[(.tmp 4)],(sR (o1 4 (.mv z0) .done) (sR (o1 5 (.mv z0) .done) (.seq (.block 0 (.loop (.seq (sR (om 6 5<|om 7 0<|oL 8 7<|ob 9 .lss 6 8<|om 10 9<|gT 11 10 0<|gT 12 10 5<|oT 13 10 (.idx 2 11 12)<|oT 14 10 (.fld 0 13)<|oT 15 10 (.ld none 14)<|gT 16 10 1<|oT 17 10 (.bin .lss 15 16)<|gP 18 10 17 .done) (.cond 18 .skip (.exit 0))) (.block 1 (rG (om 19 5<|ob 20 .add 19 z1<|om 5 20 .done)))))) (sR (om 21 5<|om 4 21 .done) .ret))))⟩
def S9(hd:dec P f=some LV):Kw P f:=by
 intro d w l key hw hk;have hwl:=hw.BW;obtain⟨a,c,rfl⟩:=hw.val;refine Bj hd<|AE Z<|Bo<|AU Z<|Aw<|Aq<|Cs (α:=Nat) (fun x=>[(0,.slice a l.length c),(1,BQ key),(5,vZ x)]) (fun x d' L'=>d'=d∧L'=[]∧x≤l.length∧BL l key=x+BL (l.drop x) key) (fun x=>l.length - x) 0 ⟨Z,Z,Z,trivial⟩ ⟨Z,Z,Agd _,by simp⟩ ?_;rintro i ρ d' L' ⟨rfl,rfl,hi,hf⟩;simp only at hi hf⊢;by_cases e:i<l.length
 ·rw[List.drop_eq_getElem_cons e,BL] at hf;refine AZ<|Ab Z<|Ae Z<|AA Z<|Au Z Z<|Ad Z<|Bx Z<|Ac Z<|Ae Z<|Ac Z<|Ab Z<|Ac Z<|Bq (m:=i) Z hw Z Z e (fun b o cs hcl hdc ⟨q,q1,q2⟩=>?_);subst q;by_cases e2:Op.bytesLess l[i].1 key=true
  ·rw[if_pos e2] at hf;(refine Ac Z<|Am Z<|Ac Z<|Ah Z (Cr (by assumption) Z)<|Ac Z<|EG Z<|Ac Z<|Gj Z Z<|As Z Z<|An ?_;apply UB;rfl;(with_reducible assumption);refine AH<|Aq<|Av<|Ab Z<|A4 Z Z<|AU Z ?_);exact⟨i+1,by omega,⟨Z,Z,Z,trivial⟩,Z,Z,e,by omega⟩
  ·rw[if_neg e2,Nat.add_zero] at hf;(refine Ac Z<|Am Z<|Ac Z<|Ah Z (Cr (by assumption) Z)<|Ac Z<|EG Z<|Ac Z<|Gj Z Z<|As Z Z<|An ?_);show gwp P _ _ _ _ _;first|refine JN rfl (fun h9=>?_) (fun h9=>?_)|refine Np rfl (fun h9=>?_) (fun h9=>?_)
   ·exact absurd h9 e2
   ·clear h9 e2;rw[hf];refine Bl<|AE Z<|AS Z<|BZ Z (Afa _) ⟨Z,Z,Z⟩
 ·have:i=l.length:=by omega
  subst this;rw[List.drop_length,BL] at hf;rw[hf];refine AZ<|Ab Z<|Ae Z<|AA Z<|Au Z Z<|Ad Z<|Bs Z<|AQ Z Z<|AQ Z Z<|AQ Z Z<|BP Z<|Aj Z Z<|Jq Z<|Bl<|AE Z<|AS Z<|BZ Z (Afa _) ⟨Z,Z,Z⟩
def KN:F1 RKv:=fun _ _ _ h=>by obtain⟨rfl,_⟩:=h;rfl
def isK(l:List KV)(key:List UInt8):Bool:=decide (BL l key<l.length)&& decide ((l.getD (BL l key) ([],[])).1=key)
def EN(l:List KV)(key:List UInt8):List UInt8×Bool:=if isK l key=true then((l.getD (BL l key) ([],[])).2,true) else([],false)
def CH(l:List KV)(key:List UInt8):List KV×Bool:=if isK l key=true then(l.take (BL l key)++l.drop (BL l key+1),true) else(l,false)
def G8:∀(l:List KV) (key:List UInt8),BL l key≤l.length
 |[],_=>Afe _
 |x::l,key=>by
  rw[BL,Afq];have:=G8 l key;by_cases h:Op.bytesLess x.1 key=true
  ·rw[if_pos h];omega
  ·rw[if_neg h];omega
def Rg(P:Program)(f:FuncId):Prop:=∀{d w l key},RSl 2 RKv d w l→key.length≤140737488355328→Dj P f [w,BQ key] d (.tuple #[BQ (EN l key).1,.bool (EN l key).2])
def MQ(a0:Nat):A9:=⟨28,[(.tmp 4),(.tmp 5)],(sR (o1 4 (.mv (.const (BQ [])))<|o1 5 (.mv (.const (.bool false))) .done) (sR (om 7 0<|om 8 1<|oc 9 a0 [7,8]<|om 6 9 .done) (.seq (sR (om 10 6<|om 11 0<|oL 12 11<|ob 13 .lss 10 12<|om 14 13<|gT 15 14 0<|gT 16 14 6<|oT 17 14 (.idx 2 15 16)<|oT 18 14 (.fld 0 17)<|oT 19 14 (.ld none 18)<|gT 20 14 1<|oT 21 14 (.bin .eql 19 20)<|gP 22 14 21 .done) (.cond 22 (sR (om 23 0<|om 24 6<|oI 25 2 23 24<|oj 26 1 25<|ol 27 26<|om 4 27<|o1 5 (.mv (.const (.bool true))) .done) .ret) .skip)) (sR (o1 4 (.mv (.const (BQ [])))<|o1 5 (.mv (.const (.bool false))) .done) .ret))))⟩
def Abs(hd:dec P f=some (MQ f1))(h1:Kw P f1):Rg P f:=by
 intro d w l key hw hk;have hwl:=hw.BW;have hc:=h1 hw hk;have hfl:=G8 l key;obtain⟨i,hi⟩:∃i,BL l key=i:=⟨_,Z⟩
 rw[hi] at hc hfl;have hIs:isK l key=(decide (i<l.length)&& decide ((l.getD i ([],[])).1=key)):=by unfold isK;rw[hi]
 have hG:EN l key=if isK l key=true then((l.getD i ([],[])).2,true) else([],false):=by unfold EN;rw[hi]
 rw[hG,hIs];clear hG hIs hi;obtain⟨a,c,rfl⟩:=hw.val;refine Bj hd<|Ak<|EG Z<|AV Z<|Br Z<|EG Z<|BH Z hc ?_;by_cases e:i<l.length
 ·have hgd:l.getD i ([],[])=l[i]:=by rw[Afd,Afc e];rfl
  rw[hgd];by_cases e2:l[i].1=key
  ·rw[if_pos (by simp[e,e2])];refine AR Z<|Ab Z<|Ae Z<|AA Z<|Au Z Z<|Ad Z<|Bx Z<|Ac Z<|Ae Z<|Ac Z<|Ab Z<|Ac Z<|Bq (m:=i) Z hw Z Z e (fun b o cs hcl hdc ⟨q,q1,q2⟩=>?_);subst q;refine Ac Z<|Am Z<|Ac Z<|Ah Z (Cr (by assumption) Z)<|Ac Z<|EG Z<|Ac Z<|Qq Z Z<|As Z Z<|A5 Z<|Br Z<|Ab Z<|Bq (m:=i) Z hw Z Z e (fun b o cs hcl hdc ⟨q,q1,q2⟩=>?_);subst q;refine Am Z<|Ah Z (Cr (by assumption) Z)<|EG Z<|Cc Z<|A6 [BQ l[i].2,.bool true] ⟨Af Z,Af Z,trivial⟩ (Vs.refl _ _) ⟨Z,Z,Z⟩
  ·rw[if_neg (by simp[e2])];refine AR Z<|Ab Z<|Ae Z<|AA Z<|Au Z Z<|Ad Z<|Bx Z<|Ac Z<|Ae Z<|Ac Z<|Ab Z<|Ac Z<|Bq (m:=i) Z hw Z Z e (fun b o cs hcl hdc ⟨q,q1,q2⟩=>?_);subst q;refine Ac Z<|Am Z<|Ac Z<|Ah Z (Cr (by assumption) Z)<|Ac Z<|EG Z<|Ac Z<|Qq Z Z<|As Z Z<|AT Z<|Ak<|EG Z<|Cc Z<|A6 [BQ [],.bool false] ⟨Af Z,Af Z,trivial⟩ (Vs.refl _ _) ⟨Z,Z,Z⟩
 ·rw[if_neg (by simp[e])];refine AR Z<|Ab Z<|Ae Z<|AA Z<|Au Z Z<|Ad Z<|Bs Z<|AQ Z Z<|AQ Z Z<|AQ Z Z<|BP Z<|Aj Z Z<|Be Z<|Ak<|EG Z<|Cc Z<|A6 [BQ [],.bool false] ⟨Af Z,Af Z,trivial⟩ (Vs.refl _ _) ⟨Z,Z,Z⟩
def NA(P:Program)(f:FuncId):Prop:=∀{d w l key},RSl 2 RKv d w l→key.length≤140737488355328→l.length≤1000000→
 Ao P f [w,BQ key] d [] (Ret fun v d' L'=>L'=[]∧Le d d'∧∃u,v=.tuple #[u,.bool (CH l key).2]∧RSl 2 RKv d' u (CH l key).1)
def Mg(a0:Nat):A9:=⟨34,[(.tmp 4),(.tmp 5)],(sR (o1 4 (.mv nS)<|o1 5 (.mv (.const (.bool false))) .done) (sR (om 7 0<|om 8 1<|oc 9 a0 [7,8]<|om 6 9 .done) (.seq (sR (om 10 6<|om 11 0<|oL 12 11<|ob 13 .eql 10 12<|om 14 13<|gF 15 14 0<|gF 16 14 6<|oF 17 14 (.idx 2 15 16)<|oF 18 14 (.fld 0 17)<|oF 19 14 (.ld none 18)<|gF 20 14 1<|oF 21 14 (.bin .neq 19 20)<|o1 22 (.pick 14 (.const (.bool true)) 21) .done) (.cond 22 (sR (om 23 0<|om 4 23<|o1 5 (.mv (.const (.bool false))) .done) .ret) .skip)) (.seq (.reg true (pm 25 0<|pm 26 6<|p1 27 (.sl 2 25 none (some 26) none)<|pm 29 0<|pm 30 6<|p1 31 (.bin .add 30 z1)<|p1 32 (.sl 2 29 (some 31) none none)<|o1 24 (.bsl 0 2 [(BQ []),(BQ [])] [])<|o1 28 (.app 2 32 [(BQ []),(BQ [])] 24 27)<|o1 33 (.app 2 32 [(BQ []),(BQ [])] 28 32) (.bar (pm 4 33 (p1 5 (.mv (.const (.bool true))) .done))))) .ret))))⟩
def ZX(hd:dec P f=some (Mg f1))(h1:Kw P f1):NA P f:=by
 intro d w l key hw hk hln;have hwl:=hw.BW;have hc:=h1 hw hk;have hfl:=G8 l key;obtain⟨i,hi⟩:∃i,BL l key=i:=⟨_,Z⟩
 rw[hi] at hc hfl;have hIs:isK l key=(decide (i<l.length)&& decide ((l.getD i ([],[])).1=key)):=by unfold isK;rw[hi]
 have hG:CH l key=if isK l key=true then(l.take i++l.drop (i+1),true) else(l,false):=by unfold CH;rw[hi]
 rw[hG,hIs];clear hG hIs hi;obtain⟨a,c,rfl⟩:=hw.val;refine Bj hd<|Br Z<|AV Z<|Br Z<|EG Z<|BH Z hc ?_;by_cases e:i<l.length
 ·have hgd:l.getD i ([],[])=l[i]:=by rw[Afd,Afc e];rfl
  rw[hgd];by_cases e2:l[i].1=key
  ·rw[if_pos (by simp[e,e2])];refine AR Z<|Ab Z<|Ae Z<|AA Z<|AI Z Z<|Ad Z<|Bs Z<|Ac Z<|Ae Z<|Ac Z<|Ab Z<|Ac Z<|Bq (m:=i) Z hw Z Z e (fun b o cs hcl hdc ⟨q,q1,q2⟩=>?_);subst q;(refine Ac Z<|Am Z<|Ac Z<|Ah Z (Cr (by assumption) Z)<|Ac Z<|EG Z<|Ac Z<|SH Z Z<|Aj Z Z<|An ?_);show gwp P _ _ _ _ _;first|refine JN rfl (fun h9=>?_) (fun h9=>?_)|refine Np rfl (fun h9=>?_) (fun h9=>?_)
   ·exact absurd e2 h9
   ·clear h9;refine AH<|Aw<|BI<|Ae Z<|Ab Z<|P5 (n:=i) Z hw Z Z (by omega) (fun v27 r27=>?_);refine Ae Z<|Ab Z<|A4 Z Z<|Ex (n:=i+1) Z hw Z Z (by omega) (fun v32 r32=>?_);refine Ado (R:=RKv) (xs:=l.take i) (ys:=l.drop (i+1)) GG KN (by omega) Z r27 r32 (fun _=>Z) (fun _ _=>Z) (by simp;omega) (by simp;omega) (fun v0 v1 a c d3 hl3 hr3=>?_);refine Cw<|Ae Z<|Cc Z<|A6 [.slice a (l.take i++l.drop (i+1)).length c,.bool true] ⟨Af Z,Af Z,trivial⟩ (Vs.refl _ _) ⟨Z,hl3,_,Z,hr3⟩
  ·rw[if_neg (by simp[e2])];refine AR Z<|Ab Z<|Ae Z<|AA Z<|AI Z Z<|Ad Z<|Bs Z<|Ac Z<|Ae Z<|Ac Z<|Ab Z<|Ac Z<|Bq (m:=i) Z hw Z Z e (fun b o cs hcl hdc ⟨q,q1,q2⟩=>?_);subst q;refine Ac Z<|Am Z<|Ac Z<|Ah Z (Cr (by assumption) Z)<|Ac Z<|EG Z<|Ac Z<|SH Z Z<|Aj Z Z<|A5 Z<|Br Z<|Ae Z<|Cc Z<|A6 [.slice a l.length c,.bool false] ⟨Af Z,Af Z,trivial⟩ (Vs.refl _ _) ⟨Z,Le.refl _,_,Z,hw⟩
 ·rw[if_neg (by simp[e])];refine AR Z<|Ab Z<|Ae Z<|AA Z<|AI Z Z<|Ad Z<|Bx Z<|AQ Z Z<|AQ Z Z<|AQ Z Z<|BP Z<|As Z Z<|B7 Z<|Br Z<|Ae Z<|Cc Z<|A6 [.slice a l.length c,.bool false] ⟨Af Z,Af Z,trivial⟩ (Vs.refl _ _) ⟨Z,Le.refl _,_,Z,hw⟩
def EM(l:List KV)(key v:List UInt8):List KV:=(CH l key).1.take (BL (CH l key).1 key)++[(key,v)]++(CH l key).1.drop (BL (CH l key).1 key)
def We(l:List KV)(key:List UInt8):(CH l key).1.length≤l.length:=by
 unfold CH;by_cases h:isK l key=true
 ·rw[if_pos h];simp only[Afk,Aft,Afo];omega
 ·rw[if_neg h];exact Afe _
def QX(P:Program)(f:FuncId):Prop:=∀{d w l key v},RSl 2 RKv d w l→key.length≤140737488355328→v.length≤140737488355328→l.length≤1000000→
 Ao P f [w,BQ key,BQ v] d [] (Ret fun r d' L'=>L'=[]∧Le d d'∧RSl 2 RKv d' r (EM l key v))
def MX(a0 a1:Nat):A9:=⟨31,[(.tmp 6)],(sR (o1 6 (.mv nS) .done) (sR (om 9 0<|om 10 1<|oc 11 a0 [9,10]<|om 8 11<|oe 12 8 0<|oe 13 8 1<|om 0 12 .done) (sR (om 14 0<|om 15 1<|oc 16 a1 [14,15]<|om 7 16 .done) (.seq (.reg true (pm 18 0<|pm 19 7<|p1 20 (.sl 2 18 none (some 19) none)<|pm 22 1<|pm 23 2<|p1 24 (.bld [(0,1),(1,1)] [(BQ []),(BQ [])] [(0,22),(1,23)])<|pm 27 0<|pm 28 7<|p1 29 (.sl 2 27 (some 28) none none) (.par (o1 25 (.bsl 1 2 [(BQ []),(BQ [])] [(0,24)]) .done) (o1 17 (.bsl 0 2 [(BQ []),(BQ [])] []) (o1 21 (.app 2 32 [(BQ []),(BQ [])] 17 20) .done)) (o1 26 (.app 2 32 [(BQ []),(BQ [])] 21 25) (o1 30 (.app 2 32 [(BQ []),(BQ [])] 26 29) (.bar (pm 6 30 .done))))))) .ret))))⟩
set_option maxRecDepth 4000 in
def AaC{f2}(hd:Jj P f=some (MX f1 f2))(h1:NA P f1)(h2:Kw P f2):QX P f:=by
 intro d w l key v hw hk hv hln;have hwl:=hw.BW;have hdl:=We l key;obtain⟨a,c,rfl⟩:=hw.val;refine Bj hd<|Br Z<|Bo<|Ae Z<|EG Z<|CX (h1 hw hk hln) Z (fun u d2 L2 hl2 ⟨e1,_,w2,e2,hw2⟩=>?_);subst e1;subst e2;have hc:=h2 hw2 hk;have hfl:=G8 (CH l key).1 key;unfold EM;generalize hm:(CH l key).1=m at hw2 hc hfl hdl⊢;generalize hi:BL m key=i at hc hfl⊢;obtain⟨a2,c2,rfl⟩:=hw2.val;clear hm hi hw;refine AO Z<|AW Z Z Z Z<|Ae Z<|Bo<|Ae Z<|EG Z<|BH Z hc<|AU Z<|Aw<|BI<|Ae Z<|Ab Z<|P5 (n:=i) Z hw2 Z Z (by omega) (fun v20 r20=>?_);refine EG Z<|EG Z<|BY Z<|Ae Z<|Ab Z<|Ex (n:=i) Z hw2 Z Z (by omega) (fun v29 r29=>?_);refine Gh (α:=Nat×TypeId) (β:=Value×Aa) [(29,v29)]
  (fun x=>[(25,.slice (some ⟨x.1,0,none⟩) 1 1)]) (fun x d L=>L=[bx x.1 x.2 [BQ key,BQ v]])
  (fun y=>[(21,y.1)]) (fun y d L=>Ai 2 RKv d y.1 (m.take i) y.2∧L=[y.2]) [] [] Z
  (fun x d d' M hl h=>h) (fun y d d' M hl h=>⟨Ai.mono (R:=RKv) GG h.1 hl,h.2⟩) (fun x=>Z) (fun y=>Z) Z ⟨Z,trivial⟩ ?_ ?_ ?_
 ·refine SP (cs:=[BQ key,BQ v]) Z Z Z (by omega) (fun b25 T25=>?_);refine A8 ?_;exact⟨_,Z,(b25,T25),⟨Z,trivial⟩,Z⟩
 ·refine Ads (R:=RKv) (xs:=m.take i) GG KN (by omega) r20 (fun _=>Z) (by simp;omega) (by simp;omega) (fun v0 v1 g1 o1=>?_);refine A8 ?_;exact⟨_,Z,(v1,g1),⟨Z,trivial⟩,o1,Z⟩
 rintro⟨b25,T25⟩ ⟨v21,g21⟩ ρ d5 M1 M2 hl5 hM1 ⟨o21,hM2⟩;subst hM1;subst hM2;refine D4 (R:=RKv) 0 Z Z o21 Z (Ai.EL (R:=RKv) (x:=(key,v)) Z ⟨Z,hk,hv⟩) KN (by omega) (by simp;omega) (by simp;omega) (fun v26 g26 o26=>?_);refine I1 (R:=RKv) (xs:=m.take i++[(key,v)]) (ys:=m.drop i) GG Z o26 Z (RSl.src (R:=RKv) (RSl.mono (R:=RKv) GG r29 hl5) KN (by omega) _) (by omega) (by simp;omega) (by simp;omega) (fun a30 c30 d6 hl6 r30=>?_);refine Cw<|Ae Z<|BJ<|BZ Z (Afa _) ⟨Z,(hl2.trans hl5).trans hl6,r30⟩
end Go.Gk.Tre
end
section
namespace Go.Gk.Tre
open Go Go.Gk Go.Gk.Dev Go.Gk.Cch Go.Gk.Pgr Go.Gk.Chn Go.Gk.Node
variable{a b c key v:List UInt8}{ks:List (List UInt8)}{cs P:List Int}{n:AB}{m l:List KV}{s t:PD}{c':Nat}{k h:Int}
abbrev Lt(a b:List UInt8):Prop:=Op.bytesLess a b=true
def Jp:¬Lt a a:=by simp[Lt,Fp]
def F2(h:Lt a b)(k:Lt b c):Lt a c:=K8 h k
def K4(h:Lt a b):¬Lt b a:=fun k=>Jp (F2 h k)
def K2(h:¬Lt b a)(k:Lt b c):Lt a c:=by
 rcases K0 a b with q|q|q
 ·exact F2 q k
 ·rw[q];exact k
 ·exact absurd q h
def HY(h:Lt a b)(k:¬Lt c b):Lt a c:=by
 rcases K0 b c with q|q|q
 ·exact F2 h q
 ·rw[←q];exact h
 ·exact absurd q k
def AbK(h:¬Lt b a)(k:¬Lt c b):¬Lt c a:=fun q=>k (HY q h)
def AbP(h:¬Lt a b):a=b∨Lt b a:=by
 rcases K0 a b with q|q|q
 ·exact absurd q h
 ·exact .inl q
 ·exact .inr q
def KO(ks:List (List UInt8)):Prop:=(∀k∈ks,1≤k.length∧k.length≤64)∧ks.Pairwise Lt
def MP:D5 ks ks.length=true↔KO ks:=by
 constructor
 ·intro h;refine⟨fun k hk=>?_,Ail.2 fun i j hi hj hij=>MZ h hj hij⟩
  obtain⟨i,hi,rfl⟩:=Ahe hk;have:=Hr.1 h i hi;simp only[kOk,Afb,decide_eq_true_eq,Afd,Afc hi,Aif] at this;exact this.1
 ·rintro⟨h1,h2⟩;rw[Hr];intro k hk;have:=h1 _ (Agb hk);simp only[kOk,Afb,decide_eq_true_eq,Afd,Afc hk,Aif,Agl,beq_iff_eq];refine⟨this,?_⟩
  by_cases e:k=0
  ·exact .inl e
  ·refine .inr ?_;rw[Afc (show k - 1<ks.length by omega)];exact Ail.1 h2 (k - 1) k (by omega) hk (by omega)
def KO.app{a b}:KO (a++b)↔KO a∧KO b∧∀x∈a,∀y∈b,Lt x y:=by
 simp only[KO,List.pairwise_append,Afj];exact⟨fun⟨h,p1,p2,p3⟩=>⟨⟨fun k hk=>h k (.inl hk),p1⟩,⟨fun k hk=>h k (.inr hk),p2⟩,p3⟩,
  fun⟨⟨a1,a2⟩,⟨b1,b2⟩,c⟩=>⟨fun k hk=>hk.elim (a1 k) (b1 k),a2,b2,c⟩⟩
def KO.cons{x b}:KO (x::b)↔(1≤x.length∧x.length≤64)∧KO b∧∀y∈b,Lt x y:=by
 simp only[KO,List.pairwise_cons,Afv];exact⟨fun⟨h,p1,p2⟩=>⟨h x (.inl Z),⟨fun k hk=>h k (.inr hk),p2⟩,p1⟩,
  fun⟨a,⟨b1,b2⟩,c⟩=>⟨fun k hk=>hk.elim (fun e=>e▸a) (b1 k),c,b2⟩⟩
def KO.nil:KO []:=⟨fun _ h=>(by cases h),List.Pairwise.nil⟩
def C2{vs}:Bd ⟨true,ks,vs,[]⟩=true↔KO ks∧vs.length=ks.length∧∀v∈vs,v.length≤16:=by
 simp only[Bd,Afb,if_true,decide_eq_true_eq,Afs,ID,MP];exact⟨fun⟨a,⟨b,_⟩,c⟩=>⟨a,b,c⟩,fun⟨a,b,c⟩=>⟨a,⟨b,Z⟩,c⟩⟩
def CA:Bd ⟨false,ks,[],cs⟩=true↔KO ks∧cs.length=ks.length+1∧∀c∈cs,0≤c∧c≤8191:=by
 simp only[Bd,Afb,Afh,if_false,decide_eq_true_eq,Afs,GZ,MP];exact⟨fun⟨a,⟨_,b⟩,c⟩=>⟨a,b,c⟩,fun⟨a,b,c⟩=>⟨a,⟨Z,b⟩,c⟩⟩
def D2(h:Bd n=true)(hl:n.leaf=true):n=⟨true,n.keys,n.vals,[]⟩:=by
 obtain⟨lf,ks,vs,cs⟩:=n;simp only at hl;subst hl;simp only[Bd,Afb,if_true,decide_eq_true_eq] at h;rw[Afl h.2.1.2]
def ED(h:Bd n=true)(hl:n.leaf=false):n=⟨false,n.keys,[],n.kids⟩:=by
 obtain⟨lf,ks,vs,cs⟩:=n;simp only at hl;subst hl;simp only[Bd,Afb,Afh,if_false,decide_eq_true_eq] at h;rw[Afl h.2.1.1]
def Ds:List (List UInt8)→Nat
 |[]=>0
 |x::l=>x.length+Ds l
def Ef:∀a b:List (List UInt8),Ds (a++b)=Ds a+Ds b
 |[],b=>by simp[Ds]
 |x::a,b=>by simp only[Agy,Ds,Ef a b];omega
def Mp{l:List (List UInt8)}{k:Nat}(h:k<l.length):Ds (l.take (k+1))=Ds (l.take k)+l[k].length:=by
 rw[List.take_succ_eq_append_getElem h,Ef];simp[Ds]
def size_leaf{vs}(h:vs.length=ks.length):Bf ⟨true,ks,vs,[]⟩=2+2*ks.length+Ds ks+Ds vs:=by
 have key:∀k,k≤ks.length→BK ⟨true,ks,vs,[]⟩ k=2*k+Ds (ks.take k)+Ds (vs.take k):=by
  intro k;induction k with
  |zero=>intro _;simp[BK,Ds]
  |succ k ih=>
   intro hk
   rw[BK,ih (by omega),Mp (show k<ks.length by omega),Mp (show k<vs.length by omega)]
   simp only[EJ,if_true,DW,FJ,Afd,Afc (show k<ks.length by omega),Afc (show k<vs.length by omega),Aif]
   omega
 have:=key ks.length (Afe _);rw[Agz,←h,Agz,h] at this;simp only[Bf,if_true,this];omega
def size_inner:Bf ⟨false,ks,[],cs⟩=2+2*cs.length+ks.length+Ds ks:=by
 have key:∀k,k≤ks.length→BK ⟨false,ks,[],cs⟩ k=k+Ds (ks.take k):=by
  intro k;induction k with
  |zero=>intro _;simp[BK,Ds]
  |succ k ih=>
   intro hk
   rw[BK,ih (by omega),Mp (show k<ks.length by omega)]
   simp only[EJ,Afh,if_false,DW,Afd,Afc (show k<ks.length by omega),Aif]
   omega
 have:=key ks.length (Afe _);rw[Agz] at this;simp only[Bf,Afh,if_false,this];omega
def Re{l}{n:Nat}(h:∀x∈l,x.length≤n):Ds l≤n*l.length:=by
 induction l with
 |nil=>simp[Ds]
 |cons x l ih=>
  have h1:=ih (fun y hy=>h y (Afr _ hy))
  have h2:=h x (Afn ..)
  simp only[Ds,Afq,Nat.mul_succ];omega
def ZE(hs:Bd n=true)(h:256<Bf n):DP n=true:=by
 cases hl:n.leaf with
 |true=>
  have e:=D2 hs hl
  rw[e] at hs h⊢
  obtain⟨h1,h2,h3⟩:=C2.1 hs
  rw[size_leaf h2] at h
  have k1:=Re (fun x hx=>(h1.1 x hx).2)
  have k2:=Re h3
  simp only[DP,hs,Ais,if_true,decide_eq_true_eq]
  omega
 |false=>
  have e:=ED hs hl
  rw[e] at hs h⊢
  obtain⟨h1,h2,h3⟩:=CA.1 hs
  rw[size_inner] at h
  have k1:=Re (fun x hx=>(h1.1 x hx).2)
  simp only[DP,hs,Ais,Afh,if_false,decide_eq_true_eq]
  omega
def JS{vs}(hk:KO ks)(key:List UInt8):
  (∃a b,ks=a++key::b∧findD ⟨true,ks,vs,[]⟩ key=(a.length,true)∧(∀x∈a,Lt x key)∧∀x∈b,Lt key x)∨
  (∃a b,ks=a++b∧findD ⟨true,ks,vs,[]⟩ key=(a.length,false)∧(∀x∈a,Lt x key)∧∀x∈b,Lt key x):=by
 have e:ks=ks.takeWhile (Op.bytesLess · key)++ks.dropWhile (Op.bytesLess · key):=(Ajn).symm
 have h1:∀x∈ks.takeWhile (Op.bytesLess · key),Lt x key:=fun x hx=>by
  have:=List.all_takeWhile (p:=(Op.bytesLess · key)) (l:=ks);exact Afs.1 this x hx
 have hl:low ⟨true,ks,vs,[]⟩ key=(ks.takeWhile (Op.bytesLess · key)).length:=Z
 have hf:findD ⟨true,ks,vs,[]⟩ key=(low ⟨true,ks,vs,[]⟩ key,decide (low ⟨true,ks,vs,[]⟩ key<ks.length)&& decide (ks.getD (low ⟨true,ks,vs,[]⟩ key) []=key)):=Z
 rw[hf,hl]
 generalize hA:ks.takeWhile (Op.bytesLess · key)=A at*
 cases hB:ks.dropWhile (Op.bytesLess · key) with
 |nil=>
  rw[hB] at e
  refine .inr ⟨A,[],e,?_,h1,fun x hx=>(by cases hx)⟩
  rw[e];simp
 |cons y B=>
  rw[hB] at e
  have hy:¬Lt y key:=by
   have:=List.head?_dropWhile_not (Op.bytesLess · key) ks;rw[hB] at this;simpa [Lt] using this
  have hr:∀x∈B,Lt y x:=by
   rw[e] at hk;exact(KO.cons.1 (KO.app.1 hk).2.1).2.2
  have hg:(A++y::B).getD A.length []=y:=by simp
  rcases AbP hy with q|q
  ·subst q
   refine .inl ⟨A,B,e,?_,h1,hr⟩
   rw[e,hg];simp
  ·refine .inr ⟨A,y::B,e,?_,h1,fun x hx=>?_⟩
   ·rw[e,hg]
    have:y≠key:=fun h=>Jp (h▸q)
    simp[this]
   ·rcases Afv.1 hx with rfl|hx
    ·exact q
    ·exact F2 q (hr x hx)
def Iu(hs:Bd ⟨false,ks,[],cs⟩=true)(key:List UInt8):
  ∃a b,ks=a++b∧findD ⟨false,ks,[],cs⟩ key=(a.length,false)∧(∀x∈a,¬Lt key x)∧∀x∈b,Lt key x:=by
 have hk:=(CA.1 hs).1
 rw[find_eq _ _ hs]
 refine⟨ks.takeWhile (leB · key),ks.dropWhile (leB · key),(Ajn).symm,Z,fun x hx=>?_,fun x hx=>?_⟩
 ·have:=Afs.1 (List.all_takeWhile (p:=(leB · key)) (l:=ks)) x hx
  simp only[leB,Agl,decide_eq_true_eq] at this
  rcases this with h|h
  ·exact K4 h
  ·rw[h];exact Jp
 ·cases hB:ks.dropWhile (leB · key) with
  |nil=>rw[hB] at hx;cases hx
  |cons y B=>
   have hy:Lt key y:=by
    have:=List.head?_dropWhile_not (leB · key) ks;rw[hB] at this;simp only[leB,List.head?_cons,Bool.or_eq_false_iff,decide_eq_false_iff_not] at this;rcases AbP (a:=y) (b:=key) (by simp[Lt,this.1]) with q|q
    ·exact absurd q this.2
    ·exact q
   have hr:∀x∈B,Lt y x:=by
    rw[←Ajn (p:=(leB · key)) (l:=ks),hB] at hk;exact(KO.cons.1 (KO.app.1 hk).2.1).2.2
   rw[hB] at hx
   rcases Afv.1 hx with rfl|hx
   ·exact hy
   ·exact F2 hy (hr x hx)
def H7{a b}(h:∀x∈a,Lt x.1 key):BL (a++b) key=a.length+BL b key:=by
 induction a with
 |nil=>simp
 |cons x a ih=>
  rw[Agy,BL,if_pos (h x (Afn ..)),ih (fun y hy=>h y (Afr _ hy)),Afq];omega
def JL{b}(h:∀x∈b,Lt key x.1):BL (m++b) key=BL m key:=by
 induction m with
 |nil=>
  cases b with
  |nil=>rfl
  |cons x b=>
   have:=K4 (h x (Afn ..))
   show(if Op.bytesLess x.1 key=true then BL b key+1 else 0)=0
   rw[if_neg this]
 |cons x m ih=>
  rw[Agy,BL,BL,ih]
def FK{a b}(ha:∀x∈a,Lt x.1 key)(hb:∀x∈b,Lt key x.1):isK (a++m++b) key=isK m key:=by
 unfold isK;rw[Afg,H7 ha,JL hb];have hle:=G8 m key;by_cases e:BL m key<m.length
 ·rw[show(a++(m++b)).getD (a.length+BL m key) ([],[])=m.getD (BL m key) ([],[]) by simp[Aix,Ahb,Agx e]];simp[e];omega
 ·have e1:BL m key=m.length:=by omega
  rw[e1];cases b with
  |nil=>simp
  |cons x b=>
   have hx:=hb x (Afn ..)
   have:(a++(m++x::b)).getD (a.length+m.length) ([],[])=x:=by simp[Aix]
   rw[this]
   have hne:x.1≠key:=fun h=>Jp (h▸hx)
   simp[hne]
def Ps{a b}(ha:∀x∈a,Lt x.1 key)(hb:∀x∈b,Lt key x.1):CH (a++m++b) key=(a++(CH m key).1++b,isK m key):=by
 unfold CH;rw[FK ha hb];by_cases h:isK m key=true
 ·have hlt:BL m key<m.length:=by simp only[isK,Afb,decide_eq_true_eq] at h;exact h.1
  rw[if_pos h,if_pos h,h,Afg,H7 ha,JL hb];congr 1;rw[List.take_append,Aki,Agt (show a.length≤a.length+BL m key by omega),Aia (show a.length≤a.length+BL m key+1 by omega),
   show a.length+BL m key - a.length=BL m key by omega,show a.length+BL m key+1 - a.length=BL m key+1 by omega,Ahy (by omega),Aiw (by omega)]
  simp
 ·rw[if_neg h,if_neg h];simp only[Ahx] at h;rw[h]
def TK{a b}(ha:∀x∈a,Lt x.1 key)(hb:∀x∈b,Lt key x.1):EN (a++m++b) key=EN m key:=by
 unfold EN;rw[FK ha hb];by_cases h:isK m key=true
 ·have hlt:BL m key<m.length:=by simp only[isK,Afb,decide_eq_true_eq] at h;exact h.1
  rw[if_pos h,if_pos h,Afg,H7 ha,JL hb];congr 2;simp[Aix,Ahb,Agx hlt]
 ·rw[if_neg h,if_neg h]
def Oy{a b}(ha:∀x∈a,Lt x.1 key)(hb:∀x∈b,Lt key x.1):EM (a++m++b) key v=a++EM m key v++b:=by
 unfold EM;rw[Ps ha hb];simp only;generalize (CH m key).1=m;have hle:=G8 m key;rw[show a++m++b=a++(m++b) from Afg ..,H7 ha,JL hb,List.take_append,Aki,Agt (show a.length≤a.length+BL m key by omega),Aia (show a.length≤a.length+BL m key by omega),
   show a.length+BL m key - a.length=BL m key by omega,Ahy (by omega),Aiw (by omega)]
 simp
def Q9:isK [] key=false:=Z
def Aaj:EM [] key v=[(key,v)]:=Z
def Kx{w}:isK [(key,w)] key=true:=by
 simp[isK,BL,Fp]
def TP{w}:(CH [(key,w)] key).1=[]:=by
 simp[CH,Kx,BL,Fp]
def Aa3{w}:EM [(key,w)] key v=[(key,v)]:=by
 unfold EM;rw[TP];rfl
def AaV{w}:EN [(key,w)] key=(w,true):=by
 simp[EN,Kx,BL,Fp]
def Ja{x:KV}(h:x∈(CH l key).1):x∈l:=by
 unfold CH at h;split at h
 ·rcases Afj.1 h with q|q
  ·exact Ake q
  ·exact Ajk q
 ·exact h
def O8{x:KV}(h:x∈EM l key v):x=(key,v)∨x∈l:=by
 unfold EM at h;rcases Afj.1 h with q|q
 ·rcases Afj.1 q with q|q
  ·exact .inr (Ja (Ake q))
  ·exact .inl (Afz.1 q)
 ·exact .inr (Ja (Ajk q))
def Te:(CH l key).1.length+(if isK l key=true then 1 else 0)=l.length:=by
 unfold CH;by_cases h:isK l key=true
 ·have hlt:BL l key<l.length:=by simp only[isK,Afb,decide_eq_true_eq] at h;exact h.1
  rw[if_pos h,if_pos h];simp only[Afk,Aft,Afo];omega
 ·rw[if_neg h,if_neg h];rfl
def Tl:(EM l key v).length=l.length+(if isK l key=true then 0 else 1):=by
 have h1:=Te (l:=l) (key:=key);have h2:=G8 (CH l key).1 key;unfold EM;simp only[Afk,Aft,Afo,List.length_singleton];by_cases h:isK l key=true
 ·rw[if_pos h] at h1⊢;omega
 ·rw[if_neg h] at h1⊢;omega
structure Mv (s t:PD) (A B:List Int) (c:Nat):Prop where
 lv:∀k,BB t k↔(BB s k∧k∉A)∨k∈B
 nw:∀k∈B,BB s k→k∈A
 nd:B.Nodup
 st:∀k,BB s k→k∉A→t.kind k=s.kind k∧t.bytes k=s.bytes k
 fr:s.free≤t.free+c
 gd:Pgr.Good t
def Mv.refl(h:Pgr.Good s):Mv s s [] [] 0:=⟨fun k=>by simp,fun k hk=>(by cases hk),Ajs,fun _ _ _=>⟨Z,Z⟩,Afe _,h⟩
def Mv.trans{u}{A B C:List Int}{c:Nat}(h:Mv s t A B c)(k:Mv t u B C c'):Mv s u A C (c+c'):=by
 have hx:∀p,BB s p→p∉A→p∉B:=fun p h1 h2 h3=>h2 (h.nw p h3 h1);refine⟨fun p=>?_,fun p hp hs=>?_,k.nd,fun p hs hA=>?_,by have:=h.fr;have:=k.fr;omega,k.gd⟩
 ·rw[k.lv,h.lv];constructor
  ·rintro(⟨h1|h1,h2⟩|h1)
   ·exact .inl h1
   ·exact absurd h1 h2
   ·exact .inr h1
  ·rintro(h1|h1)
   ·exact .inl ⟨.inl h1,hx p h1.1 h1.2⟩
   ·exact .inr h1
 ·by_cases q:p∈A
  ·exact q
  ·exact absurd (k.nw p hp ((h.lv p).2 (.inl ⟨hs,q⟩))) (hx p hs q)
 ·obtain⟨a1,a2⟩:=h.st p hs hA;obtain⟨b1,b2⟩:=k.st p ((h.lv p).2 (.inl ⟨hs,hA⟩)) (hx p hs hA);exact⟨b1.trans a1,b2.trans a2⟩
def Mv.frame{A B R:List Int}{c:Nat}(h:Mv s t A B c)(h1:∀k∈R,BB s k)(h2:R.Nodup)(h3:∀k∈R,k∉A):Mv s t (A++R) (B++R) c:=by
 refine⟨fun p=>?_,fun p hp hs=>?_,?_,fun p hs hA=>h.st p hs (fun q=>hA (Aga _ q)),h.fr,h.gd⟩
 ·rw[h.lv];simp only[Afj];constructor
  ·rintro(⟨a,b⟩|a)
   ·by_cases q:p∈R
    ·exact .inr (.inr q)
    ·exact .inl ⟨a,fun e=>e.elim b q⟩
   ·exact .inr (.inl a)
  ·rintro(⟨a,b⟩|a|a)
   ·exact .inl ⟨a,fun q=>b (.inl q)⟩
   ·exact .inr a
   ·exact .inl ⟨h1 p a,h3 p a⟩
 ·rcases Afj.1 hp with q|q
  ·exact Aga _ (h.nw p q hs)
  ·exact Agc _ q
 ·refine List.nodup_append.2 ⟨h.nd,h2,fun a ha b hb e=>?_⟩;subst e;exact h3 a hb (h.nw a ha (h1 a hb))
def Mv.perm{A B A' B':List Int}{c:Nat}(h:Mv s t A B c)(ha:A'.Perm A)(hb:B'.Perm B):Mv s t A' B' c:=
 ⟨fun p=>by rw[h.lv,ha.mem_iff,hb.mem_iff],fun p hp hs=>ha.mem_iff.2 (h.nw p (hb.mem_iff.1 hp) hs),hb.nodup_iff.2 h.nd,fun p hs hA=>h.st p hs (fun q=>hA (ha.mem_iff.2 q)),h.fr,h.gd⟩
def Mv.mono{A B:List Int}{c:Nat}(h:Mv s t A B c)(hc:c≤c'):Mv s t A B c':=⟨h.lv,h.nw,h.nd,h.st,by have:=h.fr;omega,h.gd⟩
def Mv.then{u}{A B A' B' R:List Int}{c:Nat}(h:Mv s t A B c)(k:Mv t u A' B' c')(hp:(B++R).Perm A')(h1:∀k∈R,BB s k)(h2:R.Nodup)(h3:∀k∈R,k∉A):Mv s u (A++R) B' (c+c'):=
 (h.frame h1 h2 h3).trans (k.perm hp (Agq _))
def Abd{i:Nat}{x:Int}{fb:Nat→Sec}(hi:i<s.kinds.length):({s with kinds:=s.kinds.set i x,fb:=fb}:PD).kind k=if k=((s.frm+i:Nat):Int) then x else s.kind k:=by
 unfold PD.kind;simp only[Agg];by_cases e:k=((s.frm+i:Nat):Int)
 ·subst e;rw[if_pos (by omega),if_pos Z];show(s.kinds.set i x).getD _ 0=x;rw[DK hi,if_pos (by omega)]
 ·rw[if_neg e];by_cases q:(s.frm:Int)≤k∧k<(s.frm:Int)+s.kinds.length
  ·rw[if_pos q,if_pos q];show(s.kinds.set i x).getD _ 0=s.kinds.getD _ 0;rw[DK hi,if_neg (by omega)]
  ·rw[if_neg q,if_neg q]
def JQ(hG:Pgr.Good s)(hk:BB s k):(s.drop k).2=0∧Mv s (s.drop k).1 [k] [] 0:=by
 obtain⟨x,hx,i,i1,rfl,i2,i3,he⟩:∃x:Int,(x=0∨x=3)∧∃i,i<s.kinds.length∧k=((s.frm+i:Nat):Int)∧(s.kd i=1∨s.kd i=2)∧(k - s.frm).toNat=i∧s.drop k=({s with kinds:=s.kinds.set i x},0):=by
  rcases hk with hk|hk
  ·obtain⟨i,i1,i2,i3,i4⟩:=Dm hk (by omega);exact⟨0,.inl Z,i,i1,i2,.inl i3,i4,by unfold PD.drop;rw[if_pos hk,i4]⟩
  ·obtain⟨i,i1,i2,i3,i4⟩:=Dm hk (by omega);exact⟨3,.inr Z,i,i1,i2,.inr i3,i4,by unfold PD.drop;rw[if_neg (by omega),if_pos hk,i4]⟩
 have hGd:=JA hG ((s.frm+i:Nat):Int);rw[he] at hGd⊢;have hkind:∀p,({s with kinds:=s.kinds.set i x}:PD).kind p=if p=((s.frm+i:Nat):Int) then x else s.kind p:=fun p=>Abd (fb:=s.fb) i1
 refine⟨Z,fun p=>?_,fun p hp=>(by cases hp),Ajs,fun p hs hp=>?_,?_,hGd⟩
 ·unfold BB;rw[hkind];by_cases e:p=((s.frm+i:Nat):Int)
  ·subst e;rw[if_pos Z];rcases hx with rfl|rfl<;>simp
  ·rw[if_neg e];exact⟨fun h=>.inl ⟨h,fun q=>e (Afz.1 q)⟩,fun h=>h.elim And.left (fun q=>by cases q)⟩
 ·have e:p≠((s.frm+i:Nat):Int):=by simpa using hp
  have:=hkind p;rw[if_neg e] at this;refine⟨this,?_⟩
  unfold PD.bytes;rw[this]
 ·have:=O2 (s:=s) (i:=i) (x:=x) i1;rw[if_neg (by rw[←J9 i1];omega)] at this;show s.free≤(s.kinds.set i x).countP (·==0)+0;omega
def Tk.mv{l:List Int}(h:Tk s t l)(hG:Pgr.Good t):Mv s t [] l l.length:=by
 refine⟨fun p=>?_,fun p hp hs=>?_,h.nd,fun p hs _=>?_,by have:=h.free;omega,hG⟩
 ·unfold BB;rw[h.kind];by_cases q:p∈l
  ·simp[q]
  ·simp[q]
 ·refine absurd hp (h.not ?_);rcases hs with hs|hs<;>omega
 ·have:p∉l:=h.not (by rcases hs with hs|hs<;>omega);exact⟨by rw[h.kind,if_neg this],h.bytes this⟩
def QQ(hG:Pgr.Good s):(s.AX.2.2=0∧Mv s s.AX.1 [] [s.AX.2.1] 1∧s.AX.1.kind s.AX.2.1=1)∨(s.AX.2.2=190∧s.free=0):=by
 rcases (Tk.nil s).take with ⟨h1,h2⟩|⟨h1,_,h3⟩
 ·refine .inl ⟨h1,Tk.mv h2 (FT hG),?_⟩;rw[h2.kind,if_pos (by simp)]
 ·exact .inr ⟨h1,h3⟩
def Ur(hG:Pgr.Good s){b:Sec}(hk:s.kind k=1)(hb:b.length=256):(s.put k b).2=0∧Mv s (s.put k b).1 [k] [k] 0∧(s.put k b).1.bytes k=b∧(s.put k b).1.kind k=1:=by
 have hg:=Jo hG k b;have hkd:=fun p=>Uw (k':=p) hk hb;have hby:=fun p=>M5 (k':=p) hk hb;refine⟨by unfold PD.put;rw[if_pos hk,if_pos hb],⟨fun p=>?_,fun p hp _=>hp,by simp,fun p hs hp=>⟨hkd p,?_⟩,?_,hg⟩,by rw[hby,if_pos Z],by rw[hkd];exact hk⟩
 ·unfold BB;rw[hkd];by_cases e:p=k
  ·subst e;simp[hk]
  ·simp[e]
 ·rw[hby,if_neg (by simpa using hp)]
 ·rw[JD hk hb];exact Afe _
structure At (s:PD) (k:Int) (n:AB):Prop where
 liv:BB s k
 byt:s.bytes k=Cq n
 rgt:Bt n=true
def At.sound(h:At s k n):Bd n=true:=by have:=h.rgt;simp only[Bt,Afb] at this;exact this.1
def At.size(h:At s k n):Bf n≤256:=by have:=h.rgt;simp only[Bt,Afb,decide_eq_true_eq] at this;exact this.2
def At.read(h:At s k n):Bw s k=(n,0):=by
 unfold Bw Ev Ht;rw[if_pos h.liv,h.byt,Zw h.rgt];rfl
def At.level{x:Int}(h:At s k n)(hl:n.leaf=decide (x=1)):AM s k x=(n,0):=by
 unfold AM;rw[h.read];simp[hl]
def At.stay(h:At s k n)(hs:t.kind k=s.kind k∧t.bytes k=s.bytes k):At t k n:=
 ⟨by unfold BB;rw[hs.1];exact h.liv,by rw[hs.2];exact h.byt,h.rgt⟩
def Ez(hG:Pgr.Good s)(h:BB s k):0≤k∧k≤8191:=by
 have key:∀x:Int,0≤x→s.kind k=x→0≤k∧k≤8191:=fun x hx hk=>by
  obtain⟨i,i1,rfl, -⟩:=Dm hk hx;have:=hG.inn;have:=hG.syn;omega
 rcases h with h|h
 ·exact key 1 (by omega) h
 ·exact key 2 (by omega) h
def NJ(hG:Pgr.Good s)(hr:Bt n=true):
  ((Bg s (-1) n).2.2=0∧Mv s (Bg s (-1) n).1 [] [(Bg s (-1) n).2.1] 1∧At (Bg s (-1) n).1 (Bg s (-1) n).2.1 n)∨((Bg s (-1) n).2.2=190∧s.free<1):=by
 have hg:=RS hG (k:= -1) (n:=n)
 unfold Bg at*
 rw[if_pos hr,if_neg (by omega)] at*
 rcases QQ hG with ⟨h1,h2,h3⟩|⟨h1,h2⟩
 ·rw[if_neg (by omega),if_neg (by omega)] at*
  obtain⟨p1,p2,p3,p4⟩:=Ur h2.gd h3 (Gt hr)
  refine .inl ⟨p1,(h2.trans p2).mono (by omega),⟨.inl p4,p3,hr⟩⟩
 ·rw[if_pos (by omega)]
  exact .inr ⟨h1,by omega⟩
def YF(hG:Pgr.Good s)(hr:Bt n=true)(hk:BB s k):
  ((Bg s k n).2.2=0∧Mv s (Bg s k n).1 [k] [(Bg s k n).2.1] 1∧At (Bg s k n).1 (Bg s k n).2.1 n)∨((Bg s k n).2.2=190∧s.free<1):=by
 have h0:=(Ez hG hk).1
 unfold Bg
 rw[if_pos hr]
 rcases hk with hk|hk
 ·obtain⟨p1,p2,p3,p4⟩:=Ur hG hk (Gt hr)
  rw[if_pos ⟨h0,by rw[p1];decide⟩]
  exact .inl ⟨p1,p2.mono (by omega),⟨.inl p4,p3,hr⟩⟩
 ·rw[if_neg (by unfold PD.put;rw[if_neg (by omega)];simp)]
  rcases QQ hG with ⟨h1,h2,h3⟩|⟨h1,h2⟩
  ·rw[if_neg (by omega),if_pos h0]
   have hl:BB s.AX.1 k:=(h2.lv k).2 (.inl ⟨.inr hk,by simp⟩)
   obtain⟨d1,d2⟩:=JQ h2.gd hl
   rw[if_neg (by omega)]
   have hne:s.AX.2.1≠k:=fun e=>by
    have:=h2.nw s.AX.2.1 (by simp) (by rw[e];exact .inr hk);cases this
   have hl2:BB s.AX.1 s.AX.2.1:=.inl h3
   have hk2:(s.AX.1.drop k).1.kind s.AX.2.1=1:=by rw[(d2.st _ hl2 (by simpa using hne)).1];exact h3
   obtain⟨p1,p2,p3,p4⟩:=Ur d2.gd hk2 (Gt hr)
   refine .inl ⟨p1,?_,⟨.inl p4,p3,hr⟩⟩
   have m1:=h2.frame (R:=[k]) (by simp;exact .inr hk) (by simp) (by simp)
   have m2:=d2.frame (R:=[s.AX.2.1]) (by simp;exact hl2) (by simp) (by simpa using hne)
   exact((m1.trans (m2.perm (by simpa using Afx _ _ _) (Agq _))).trans p2).mono (by omega)
  ·rw[if_pos (by omega)]
   exact .inr ⟨h1,by omega⟩
def AbZ(hG:Pgr.Good s)(hs:Bd n=true)(hh:256<Bf n→PL n)(hk:BB s k):
  ((Bp s k n).2.2=0∧((∃p,(Bp s k n).2.1=⟨p, -1,[],Bf n⟩∧Mv s (Bp s k n).1 [k] [p] 2∧At (Bp s k n).1 p n)∨
   (DP n=true∧PL n∧∃p q,(Bp s k n).2.1=⟨p,q,B4 n,256⟩∧0≤q∧Mv s (Bp s k n).1 [k] [p,q] 2∧At (Bp s k n).1 p (Ba n)∧At (Bp s k n).1 q (Bi n))))∨
  ((Bp s k n).2.2=190∧s.free<2):=by
 unfold Bp
 by_cases hr:Bt n=true
 ·rw[if_pos hr]
  rcases YF hG hr hk with ⟨h1,h2,h3⟩|⟨h1,h2⟩
  ·exact .inl ⟨h1,.inl ⟨_,Z,h2.mono (by omega),h3⟩⟩
  ·exact .inr ⟨h1,by omega⟩
 ·have hz:256<Bf n:=by
   simp only[Bt,hs,Ais,decide_eq_true_eq] at hr;omega
  have hc:=ZE hs hz
  have hH:=hh hz
  rw[if_neg hr,if_pos hc]
  dsimp only
  rcases YF hG hH.r1 hk with ⟨h1,h2,h3⟩|⟨h1,h2⟩
  ·rw[if_pos h1]
   rcases NJ h2.gd hH.r2 with ⟨k1,k2,k3⟩|⟨k1,k2⟩
   ·refine .inl ⟨k1,.inr ⟨hc,hH,_,_,Z,(Ez k2.gd k3.liv).1,?_,?_,k3⟩⟩
    ·refine((h2.trans (k2.frame (R:=[(Bg s k (Ba n)).2.1]) (by simp;exact h3.liv) (by simp) (by simp))).perm (Agq _) ?_).mono (by omega)
     exact Afx _ _ _
    ·exact h3.stay (k2.st _ h3.liv (by simp))
   ·exact .inr ⟨k1,by have:=h2.fr;omega⟩
  ·rw[if_neg (by omega)]
   exact .inr ⟨h1,by omega⟩
def Ce(s:PD)(c v:List UInt8)(P:List Int):Prop:=(v.length≤15∧c=0::v∧P=[])∨(15<v.length∧v.length≤16384∧G0 s v P∧c=Ge (P.getD 0 0) v.length)
def KD{x:Int}(_:0≤x):(bI x).toNat=(x % 256).toNat:=by
 unfold bI;rw[UInt8.toNat_ofNat'];omega
def Px{n:Int}:Fh (Ge h n)=true:=by simp[Fh,Ge]
def NV{n:Int}:inB (Ge h n)=false:=by simp[inB,Ge]
def O4{n:Int}(h0:0≤h)(h1:h<65536):((EX (Ge h n):Nat):Int)=h:=by
 unfold EX Ge;simp only[Aid,Ahw];rw[KD (by omega),KD h0];omega
def KQ{n:Nat}(h1:n<4294967296):Ec (Ge h n)=n:=by
 unfold Ec Ge;simp only[Aid,Ahw];rw[KD (by omega),KD (by omega),KD (by omega),KD (by omega)];omega
def Ce.len(h:Ce s c v P):c.length≤16:=by
 rcases h with ⟨h1,rfl, -⟩|⟨-, -, -,rfl⟩
 ·simp;omega
 ·simp[Ge]
def Ce.live(h:Ce s c v P):∀k∈P,BB s k:=by
 rcases h with ⟨-, -,rfl⟩|⟨-, -,h, -⟩
 ·exact fun k hk=>by cases hk
 ·intro k hk;obtain⟨j,hj,rfl⟩:=Ahe hk;exact h.live j hj
def Ce.stay(h:Ce s c v P)(hs:∀k∈P,t.kind k=s.kind k∧t.bytes k=s.bytes k):Ce t c v P:=by
 rcases h with h|⟨h1,h2,h3,h4⟩
 ·exact .inl h
 ·exact .inr ⟨h1,h2,h3.stay hs,h4⟩
def LI(h:G0 s v P):0≤P.getD 0 0∧P.getD 0 0<65535:=by
 have h0:0<P.length:=by rw[h.len];exact RQ
 rw[IX h0];exact h.rng _ (Agb h0)
def Ce.val(h:Ce s c v P):CP s c=(v,0):=by
 unfold CP;rcases h with ⟨h1,rfl, -⟩|⟨h1,h2,h3,rfl⟩
 ·rw[if_pos (by simp[inB])];rfl
 ·obtain⟨q1,q2⟩:=LI h3;rw[if_neg (by rw[NV];decide),if_pos Px,KQ (by omega),O4 q1 (by omega),J1 h3 h2]
def Ce.Eo(h:Ce s c v P):Eo c=if 15<v.length then AN v.length else 0:=by
 unfold Tre.Eo;rcases h with ⟨h1,rfl, -⟩|⟨h1,h2,h3,rfl⟩
 ·rw[if_pos (by simp[inB]),if_neg (by omega)]
 ·rw[if_neg (by rw[NV];decide),if_pos h1,KQ (by omega)]
def Qb:∀{l:List Int}{s},Pgr.Good s→(∀k∈l,BB s k)→l.Nodup→(Ee s l).2=0∧Mv s (Ee s l).1 l [] 0
 |[],s,hG,_,_=>⟨Z,Mv.refl hG⟩
 |k::l,s,hG,hl,hn=>by
  obtain⟨n1,n2⟩:=List.nodup_cons.1 hn;obtain⟨d1,d2⟩:=JQ hG (hl k (Afn ..));have hne:∀p∈l,p∉ [k]:=fun p hp q=>n1 (Afz.1 q▸hp);obtain⟨k1,k2⟩:=Qb (l:=l) d2.gd (fun p hp=>(d2.lv p).2 (.inl ⟨hl p (Afr _ hp),hne p hp⟩)) n2;rw[Ee,if_pos d1];refine⟨k1,?_⟩
  have:=d2.then (R:=l) k2 (Agq _) (fun p hp=>hl p (Afr _ hp)) n2 hne;exact this
def Ce.Adx(hG:Pgr.Good s)(h:Ce s c v P)(hn:P.Nodup):(Ci s c).2=0∧Mv s (Ci s c).1 P [] 0:=by
 have hl:=h.live;unfold Ci;rcases h with ⟨h1,rfl,rfl⟩|⟨h1,h2,h3,rfl⟩
 ·rw[if_pos (by simp[inB])];exact⟨Z,Mv.refl hG⟩
 ·obtain⟨q1,q2⟩:=LI h3;rw[if_neg (by rw[NV];decide),if_pos Px,KQ (by omega),O4 q1 (by omega)];unfold Eu;rw[J1 h3 h2,if_pos Z];exact Qb hG hl hn
def K6:∀(n:Nat) {s}(l:List Int),Pgr.Good s→Pgr.Good (Cj s l n).1
 |0,s,l,h=>h
 |n+1,s,l,h=>by
  rw[Cj];split
  ·exact K6 n _ (FT h)
  ·exact FT h
def Qk:∀(l:List Int) {s},Pgr.Good s→Pgr.Good (D7 s l)
 |[],_,h=>h
 |k::l,_,h=>Qk l (JA h k)
def R2(h:Pgr.Good s){l:List Int}:∀i,Pgr.Good (Chn.Dh s l b i)
 |0=>h
 |i+1=>Jo (R2 h i) _ _
def XN(h:Pgr.Good s):Pgr.Good (B0 s b).1:=by
 have ht:Pgr.Good (Chn.BF s (AN b.length)).1:=by
  unfold Chn.BF;split
  ·exact K6 _ _ h
  ·exact Qk _ (K6 _ _ h)
 unfold B0;dsimp only;split
 ·exact R2 ht _
 ·exact ht
def AcZ(hG:Pgr.Good s)(hv:v.length≤16384):
  ((Cb s v).2.2=0∧∃P,Mv s (Cb s v).1 [] P (AN v.length)∧Ce (Cb s v).1 (Cb s v).2.1 v P)∨((Cb s v).2.2=190∧s.free<AN v.length):=by
 have hg:Pgr.Good (Cb s v).1:=by
  unfold Cb;split
  ·exact hG
  ·exact XN hG
 unfold Cb at*
 by_cases h:v.length≤15
 ·rw[if_pos h] at*
  exact .inl ⟨Z,[],(Mv.refl hG).mono (Agd _),.inl ⟨h,Z,Z⟩⟩
 ·rw[if_neg h] at*
  by_cases hr:AN v.length≤s.free
  ·obtain⟨t,l,e,h1,h2,h3,h4,h5,h6⟩:=Yj hG hr
   rw[e] at hg⊢
   refine .inl ⟨Z,l,⟨fun p=>?_,fun p hp hs=>?_,h6,fun p hs _=>?_,(by show s.free≤t.free+_;omega),hg⟩,.inr ⟨by omega,hv,h1,Z⟩⟩
   ·by_cases q:p∈l
    ·have:=(h2 p q).1;simp[BB,q,this]
    ·have:=(h5 p q).1;simp[BB,q,this]
   ·have:=(h2 p hp).2
    rcases hs with hs|hs<;>omega
   ·refine h5 p (fun hp=>?_)
    have:=(h2 p hp).2
    rcases hs with hs|hs<;>omega
  ·obtain⟨t,e, -⟩:=Y0 (b:=v) (show s.free<AN v.length by omega)
   rw[e]
   exact .inr ⟨Z,by omega⟩
def Lf(s:PD):List (List UInt8)→List (List UInt8)→List KV→List Int→Prop
 |[],[],l,P=>l=[]∧P=[]
 |k::ks,c::cs,l,P=>∃v l' P1 P2,l=(k,v)::l'∧P=P1++P2∧Ce s c v P1∧Lf s ks cs l' P2
 |_,_,_,_=>False
def Lf.len:∀{ks vs l}{P:List Int},Lf s ks vs l P→vs.length=ks.length∧l.length=ks.length
 |[],[],l,P,h=>by rw[Lf] at h;rw[h.1];exact⟨Z,Z⟩
 |[],_::_,l,P,h=>by rw[Lf] at h<;>simp_all
 |_::_,[],l,P,h=>by rw[Lf] at h<;>simp_all
 |k::ks,c::cs,l,P,h=>by
  rw[Lf] at h;obtain⟨v,l',P1,P2,rfl,rfl,h1,h2⟩:=h;obtain⟨a,b⟩:=h2.len;simp[a,b]
def Lf.keys:∀{ks vs l}{P:List Int},Lf s ks vs l P→ks=l.map Prod.fst
 |[],[],l,P,h=>by rw[Lf] at h;rw[h.1];rfl
 |[],_::_,l,P,h=>by rw[Lf] at h<;>simp_all
 |_::_,[],l,P,h=>by rw[Lf] at h<;>simp_all
 |k::ks,c::cs,l,P,h=>by
  rw[Lf] at h;obtain⟨v,l',P1,P2,rfl,rfl,h1,h2⟩:=h;rw[List.map_cons,←h2.keys]
def Lf.join:∀{ks vs ks' vs' l l'}{P P':List Int},Lf s ks vs l P→Lf s ks' vs' l' P'→Lf s (ks++ks') (vs++vs') (l++l') (P++P')
 |[],[],ks',vs',l,l',P,P',h,h'=>by rw[Lf] at h;obtain⟨rfl,rfl⟩:=h;exact h'
 |[],_::_,ks',vs',l,l',P,P',h,h'=>by rw[Lf] at h<;>simp_all
 |_::_,[],ks',vs',l,l',P,P',h,h'=>by rw[Lf] at h<;>simp_all
 |k::ks,c::cs,ks',vs',l,l',P,P',h,h'=>by
  rw[Lf] at h;obtain⟨v,l1,P1,P2,rfl,rfl,h1,h2⟩:=h;rw[Agy,Agy,Lf];exact⟨v,l1++l',P1,P2++P',Z,by rw[Afg],h1,h2.join h'⟩
def Lf.split:∀{ks vs ks' vs' l}{P:List Int},Lf s (ks++ks') (vs++vs') l P→vs.length=ks.length→∃l1 l2 P1 P2,l=l1++l2∧P=P1++P2∧Lf s ks vs l1 P1∧Lf s ks' vs' l2 P2
 |[],[],ks',vs',l,P,h,_=>⟨[],l,[],P,Z,Z,⟨Z,Z⟩,h⟩
 |[],_::_,ks',vs',l,P,h,e=>by cases e
 |_::_,[],ks',vs',l,P,h,e=>by cases e
 |k::ks,c::cs,ks',vs',l,P,h,e=>by
  rw[Agy,Agy,Lf] at h;obtain⟨v,l',P1,P2,rfl,rfl,h1,h2⟩:=h;obtain⟨l1,l2,Q1,Q2,rfl,rfl,k1,k2⟩:=h2.split (by simpa using e);exact⟨(k,v)::l1,l2,P1++Q1,Q2,Z,by rw[Afg],⟨v,l1,P1,Q1,Z,Z,h1,k1⟩,k2⟩
def Lf.stay:∀{ks vs l}{P:List Int},Lf s ks vs l P→(∀k∈P,t.kind k=s.kind k∧t.bytes k=s.bytes k)→Lf t ks vs l P
 |[],[],l,P,h,_=>by rw[Lf] at h⊢;exact h
 |[],_::_,l,P,h,_=>by rw[Lf] at h<;>simp_all
 |_::_,[],l,P,h,_=>by rw[Lf] at h<;>simp_all
 |k::ks,c::cs,l,P,h,hs=>by
  rw[Lf] at h⊢;obtain⟨v,l',P1,P2,rfl,rfl,h1,h2⟩:=h;exact⟨v,l',P1,P2,Z,Z,h1.stay (fun k hk=>hs k (Aga _ hk)),h2.stay (fun k hk=>hs k (Agc _ hk))⟩
def Lf.live:∀{ks vs l}{P:List Int},Lf s ks vs l P→∀k∈P,BB s k
 |[],[],l,P,h=>by rw[Lf] at h;rw[h.2];exact fun k hk=>by cases hk
 |[],_::_,l,P,h=>by rw[Lf] at h<;>simp_all
 |_::_,[],l,P,h=>by rw[Lf] at h<;>simp_all
 |k::ks,c::cs,l,P,h=>by
  rw[Lf] at h;obtain⟨v,l',P1,P2,rfl,rfl,h1,h2⟩:=h;intro k hk;rcases Afj.1 hk with q|q
  ·exact h1.live k q
  ·exact h2.live k q
def Lf.one{k}(h:Ce s c v P):Lf s [k] [c] [(k,v)] P:=⟨v,[],P,[],Z,by simp,h,⟨Z,Z⟩⟩
def Lf.Adr{k}(h:Lf s [k] [c] l P):∃v,l=[(k,v)]∧Ce s c v P:=by
 rw[Lf] at h;obtain⟨v,l',P1,P2,rfl,rfl,h1,h2⟩:=h;rw[Lf] at h2;obtain⟨rfl,rfl⟩:=h2;exact⟨v,Z,by simpa using h1⟩
abbrev RT:=Int→List KV→List Int→Prop
def Kd(R:RT):List (List UInt8)→List Int→List KV→List Int→Prop
 |[],[c],l,P=>R c l P
 |k::ks,c::cs,l,P=>∃l1 l2 P1 P2,l=l1++l2∧P=P1++P2∧R c l1 P1∧(∀x∈l1,Lt x.1 k)∧(∀x∈l2,¬Lt x.1 k)∧Kd R ks cs l2 P2
 |_,_,_,_=>False
def Kd.one{R:RT}{c:Int}:Kd R [] [c] l P↔R c l P:=Iff.rfl
def Kd.cons{R:RT}{k}{c:Int}:
  Kd R (k::ks) (c::cs) l P↔∃l1 l2 P1 P2,l=l1++l2∧P=P1++P2∧R c l1 P1∧(∀x∈l1,Lt x.1 k)∧(∀x∈l2,¬Lt x.1 k)∧Kd R ks cs l2 P2:=Iff.rfl
def Kd.len{R:RT}:∀{ks}{cs:List Int}{l}{P:List Int},Kd R ks cs l P→cs.length=ks.length+1
 |[],[c],l,P,_=>rfl
 |[],[],l,P,h=>h.elim
 |[],_::_::_,l,P,h=>h.elim
 |_::_,[],l,P,h=>h.elim
 |k::ks,c::cs,l,P,h=>by
  obtain⟨l1,l2,P1,P2,rfl,rfl,h1,h2,h3,h4⟩:=Kd.cons.1 h;simp[h4.len]
def Kd.mono{R R':RT}:∀{ks}{cs:List Int}{l}{P:List Int},Kd R ks cs l P→(∀c l Q,(∀k∈Q,k∈P)→R c l Q→R' c l Q)→Kd R' ks cs l P
 |[],[c],l,P,h,hR=>hR c l P (fun _ h=>h) h
 |[],[],l,P,h,_=>h.elim
 |[],_::_::_,l,P,h,_=>h.elim
 |_::_,[],l,P,h,_=>h.elim
 |k::ks,c::cs,l,P,h,hR=>by
  obtain⟨l1,l2,P1,P2,rfl,rfl,h1,h2,h3,h4⟩:=Kd.cons.1 h;exact Kd.cons.2 ⟨l1,l2,P1,P2,Z,Z,hR _ _ _ (fun k hk=>Aga _ hk) h1,h2,h3,h4.mono (fun c l Q hQ=>hR c l Q (fun k hk=>Agc _ (hQ k hk)))⟩
def Kd.split{R:RT}:∀{ks ks' k}{cs cs':List Int}{l}{P:List Int},Kd R (ks++k::ks') (cs++cs') l P→cs.length=ks.length+1→(∀x∈ks,Lt x k)→
  ∃l1 l2 P1 P2,l=l1++l2∧P=P1++P2∧Kd R ks cs l1 P1∧Kd R ks' cs' l2 P2∧(∀x∈l1,Lt x.1 k)∧∀x∈l2,¬Lt x.1 k
 |_,_,_,[],_,_,_,_,e,_=>by cases e
 |[],ks',k,[c],cs',l,P,h,_,_=>by
  obtain⟨l1,l2,P1,P2,rfl,rfl,h1,h2,h3,h4⟩:=Kd.cons.1 h;exact⟨l1,l2,P1,P2,Z,Z,h1,h4,h2,h3⟩
 |[],_,_,_::_::_,_,_,_,_,e,_=>by simp at e
 |k0::ks,ks',k,c::cs,cs',l,P,h,e,hk=>by
  obtain⟨l1,l2,P1,P2,rfl,rfl,h1,h2,h3,h4⟩:=Kd.cons.1 h;obtain⟨m1,m2,Q1,Q2,rfl,rfl,g1,g2,g3,g4⟩:=Kd.split h4 (by simpa using e) (fun x hx=>hk x (Afr _ hx));refine⟨l1++m1,m2,P1++Q1,Q2,by rw[Afg],by rw[Afg],Kd.cons.2 ⟨l1,m1,P1,Q1,Z,Z,h1,h2,fun x hx=>h3 x (Aga _ hx),g1⟩,g2,fun x hx=>?_,g4⟩
  rcases Afj.1 hx with q|q
  ·exact F2 (h2 x q) (hk k0 (Afn ..))
  ·exact g3 x q
def Kd.join{R:RT}:∀{ks ks' k}{cs cs':List Int}{l l'}{P P':List Int},Kd R ks cs l P→Kd R ks' cs' l' P'→(∀x∈ks,Lt x k)→(∀x∈l,Lt x.1 k)→(∀x∈l',¬Lt x.1 k)→
  Kd R (ks++k::ks') (cs++cs') (l++l') (P++P')
 |[],ks',k,[c],cs',l,l',P,P',h,h',_,h1,h2=>Kd.cons.2 ⟨l,l',P,P',Z,Z,h,h1,h2,h'⟩
 |[],_,_,[],_,_,_,_,_,h,_,_,_,_=>h.elim
 |[],_,_,_::_::_,_,_,_,_,_,h,_,_,_,_=>h.elim
 |_::_,_,_,[],_,_,_,_,_,h,_,_,_,_=>h.elim
 |k0::ks,ks',k,c::cs,cs',l,l',P,P',h,h',hk,h1,h2=>by
  obtain⟨l1,l2,P1,P2,rfl,rfl,g1,g2,g3,g4⟩:=Kd.cons.1 h;refine Kd.cons.2 ⟨l1,l2++l',P1,P2++P',by rw[Afg],by rw[Afg],g1,g2,fun x hx=>?_,Kd.join g4 h' (fun x hx=>hk x (Afr _ hx)) (fun x hx=>h1 x (Agc _ hx)) h2⟩;rcases Afj.1 hx with q|q
  ·exact g3 x q
  ·exact fun e=>h2 x q (F2 e (hk k0 (Afn ..)))
def Kd.btw{R:RT}(hR:∀c l P,R c l P→l≠[]):∀{ks}{cs:List Int}{l}{P:List Int},Kd R ks cs l P→l≠[]∧∀k∈ks,(∃x∈l,Lt x.1 k)∧∃x∈l,¬Lt x.1 k
 |[],[c],l,P,h=>⟨hR c l P h,fun k hk=>by cases hk⟩
 |[],[],l,P,h=>h.elim
 |[],_::_::_,l,P,h=>h.elim
 |_::_,[],l,P,h=>h.elim
 |k0::ks,c::cs,l,P,h=>by
  obtain⟨l1,l2,P1,P2,rfl,rfl,g1,g2,g3,g4⟩:=Kd.cons.1 h;obtain⟨i1,i2⟩:=Kd.btw hR g4;obtain⟨x1,r1,e1⟩:=Aii (hR _ _ _ g1);obtain⟨x2,r2,e2⟩:=Aii i1;refine⟨by simp[e1],fun k hk=>?_⟩
  rcases Afv.1 hk with rfl|hk
  ·exact⟨⟨x1,by simp[e1],g2 x1 (by simp[e1])⟩,x2,by simp[e2],g3 x2 (by simp[e2])⟩
  ·obtain⟨⟨y,y1,y2⟩,z,z1,z2⟩:=i2 k hk;exact⟨⟨y,Agc _ y1,y2⟩,z,Agc _ z1,z2⟩
def KL(R:RT)(ks:List (List UInt8))(cs:List Int)(l:List KV)(P:List Int):Prop:=(ks=[]∧cs=[]∧l=[]∧P=[])∨∃ks' k,ks=ks'++[k]∧Kd R ks' cs l P∧(∀x∈l,Lt x.1 k)
def KR(R:RT)(ks:List (List UInt8))(cs:List Int)(l:List KV)(P:List Int):Prop:=(ks=[]∧cs=[]∧l=[]∧P=[])∨∃k ks',ks=k::ks'∧Kd R ks' cs l P∧(∀x∈l,¬Lt x.1 k)
def KL.mono{R R':RT}(h:KL R ks cs l P)(hR:∀c l Q,(∀k∈Q,k∈P)→R c l Q→R' c l Q):KL R' ks cs l P:=by
 rcases h with h|⟨ks',k,e,h1,h2⟩
 ·exact .inl h
 ·exact .inr ⟨ks',k,e,h1.mono hR,h2⟩
def KR.mono{R R':RT}(h:KR R ks cs l P)(hR:∀c l Q,(∀k∈Q,k∈P)→R c l Q→R' c l Q):KR R' ks cs l P:=by
 rcases h with h|⟨ks',k,e,h1,h2⟩
 ·exact .inl h
 ·exact .inr ⟨ks',k,e,h1.mono hR,h2⟩
def KL.below{R:RT}(h:KL R ks cs l P):∀x∈l,∃k∈ks,Lt x.1 k:=by
 rcases h with ⟨_,_,rfl,_⟩|⟨ks',k,rfl,h1,h2⟩
 ·exact fun x hx=>by cases hx
 ·exact fun x hx=>⟨k,by simp,h2 x hx⟩
def KR.Sw{R:RT}(h:KR R ks cs l P):∀x∈l,∃k∈ks,¬Lt x.1 k:=by
 rcases h with ⟨_,_,rfl,_⟩|⟨k,ks',rfl,h1,h2⟩
 ·exact fun x hx=>by cases hx
 ·exact fun x hx=>⟨k,by simp,h2 x hx⟩
def Kd.focus{R:RT}{ka km kb}{ca cm cb:List Int}(h:Kd R (ka++km++kb) (ca++cm++cb) l P)(hk:KO (ka++km++kb))(e1:ca.length=ka.length)(e2:cm.length=km.length+1):
  ∃l1 m l2 P1 Pm P2,l=l1++m++l2∧P=P1++Pm++P2∧KL R ka ca l1 P1∧Kd R km cm m Pm∧KR R kb cb l2 P2∧(∀k∈ka,∀x∈m,¬Lt x.1 k)∧∀k∈kb,∀x∈m,Lt x.1 k:=by
 have hlen:=h.len
 simp only[Afk] at hlen
 obtain⟨hk1,hk2,hk3⟩:=KO.app.1 hk
 obtain⟨hk4,hk5,hk6⟩:=KO.app.1 hk1
 have right:∀{cm:List Int}{km l}{P:List Int},Kd R (km++kb) (cm++cb) l P→cm.length=km.length+1→KO (km++kb)→∃m l2 Pm P2,l=m++l2∧P=Pm++P2∧Kd R km cm m Pm∧KR R kb cb l2 P2∧∀k∈kb,∀x∈m,Lt x.1 k:=by
  intro cm km l P h e2 hk;cases kb with
  |nil=>
   have hl:=h.len
   simp only[Agj,Afk] at hl h
   have:cb=[]:=Afl (by omega)
   subst this
   rw[Agj] at h
   exact⟨l,[],P,[],by simp,by simp,h,.inl ⟨Z,Z,Z,Z⟩,fun k hk=>by cases hk⟩
  |cons k kb=>
   obtain⟨q1,q2,q3⟩:=KO.app.1 hk
   obtain⟨l1,l2,P1,P2,rfl,rfl,g1,g2,g3,g4⟩:=h.split e2 (fun x hx=>q3 x hx k (Afn ..))
   refine⟨l1,l2,P1,P2,Z,Z,g1,.inr ⟨k,kb,Z,g2,g4⟩,fun k' hk' x hx=>?_⟩
   rcases Afv.1 hk' with rfl|hk'
   ·exact g3 x hx
   ·exact F2 (g3 x hx) ((KO.cons.1 q2).2.2 k' hk')
 rcases List.eq_nil_or_concat ka with rfl|⟨ka',k,rfl⟩
 ·have:ca=[]:=Afl e1
  subst this
  simp only[Agh] at h hk
  obtain⟨m,l2,Pm,P2,rfl,rfl,g1,g2,g3⟩:=right h e2 hk
  exact⟨[],m,l2,[],Pm,P2,by simp,by simp,.inl ⟨Z,Z,Z,Z⟩,g1,g2,fun k hk=>(by cases hk),g3⟩
 ·have h:Kd R (ka'++k::(km++kb)) (ca++(cm++cb)) l P:=by simpa using h
  have hk:KO (ka'++k::(km++kb)):=by simpa using hk
  obtain⟨q1,q2,q3⟩:=KO.app.1 hk
  obtain⟨l1,l2,P1,P2,rfl,rfl,g1,g2,g3,g4⟩:=h.split (by simpa using e1) (fun x hx=>q3 x hx k (Afn ..))
  obtain⟨m,l2,Pm,P2,rfl,rfl,f1,f2,f3⟩:=right g2 e2 (KO.cons.1 q2).2.1
  refine⟨l1,m,l2,P1,Pm,P2,by simp,by simp,.inr ⟨ka',k,by simp,g1,g3⟩,f1,f2,fun k' hk' x hx=>?_,f3⟩
  have hx':=g4 x (Aga _ hx)
  rcases Afj.1 (show k'∈ka'++[k] by simpa using hk') with q|q
  ·exact fun e=>hx' (F2 e (q3 k' q k (Afn ..)))
  ·rw[Afz.1 q];exact hx'
def Kd.Kk{R:RT}{ka km kb}{ca cm cb:List Int}{l1 l2}{P1 Pm P2:List Int}(h1:KL R ka ca l1 P1)(h2:Kd R km cm m Pm)(h3:KR R kb cb l2 P2)(hk:KO (ka++km++kb))
  (ha:∀k∈ka,∀x∈m,¬Lt x.1 k) (hb:∀k∈kb,∀x∈m,Lt x.1 k):Kd R (ka++km++kb) (ca++cm++cb) (l1++m++l2) (P1++Pm++P2):=by
 obtain⟨hk1,hk2,hk3⟩:=KO.app.1 hk
 obtain⟨hk4,hk5,hk6⟩:=KO.app.1 hk1
 have right:Kd R (km++kb) (cm++cb) (m++l2) (Pm++P2):=by
  rcases h3 with ⟨rfl,rfl,rfl,rfl⟩|⟨k,ks',rfl,g1,g2⟩
  ·simpa using h2
  ·exact h2.join g1 (fun x hx=>hk3 x (Agc _ hx) k (Afn ..)) (fun x hx=>hb k (Afn ..) x hx) g2
 rcases h1 with ⟨rfl,rfl,rfl,rfl⟩|⟨ks',k,rfl,g1,g2⟩
 ·simpa using right
 ·have hl2:∀x∈l2,¬Lt x.1 k:=fun x hx=>by
   obtain⟨k',q1,q2⟩:=h3.Sw x hx;exact fun e=>q2 (F2 e (hk3 k (by simp) k' q1))
  have:=g1.join right (k:=k) (fun x hx=>(KO.app.1 hk4).2.2 x hx k (by simp)) g2 (fun x hx=>(Afj.1 hx).elim (ha k (by simp) x) (hl2 x))
  simpa using this
end Go.Gk.Tre
end
