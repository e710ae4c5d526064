/-
  Our own texts, one behind the other: GkTr2 GkTr4 GkTr5 GkTrS GkTr6 GkTr7 Gk41 GkTrK GkTrQ GkTrF GkTr8 GkTrG GkTrP GkTrR Gk44 Gk20 Gk25 Gk45 GkTrT GkH6 GkH7 GkH8 GkTU GkTV GkTW GkTX GkWA GkWB.
-/
import Derived.Below
import Derived.Shelf.Unicode.DecodeSlow
import Derived.Shelf.Sort.Plain
import Derived.Shelf.Slices.In.SortNone
import Derived.Test.YteekdjalpmjdhaaGreatPrE
set_option linter.defProp false
open Nat renaming le_of_ble_eq_true→Ada,le_refl→Adi,succ_ne_zero→Aeh,zero_le→Aej,mul_one→Afn,min_eq_left→Ahn
open List.Sublist renaming refl→Adb
open Bool renaming and_eq_true→Adc,false_eq_true→Adk,or_eq_true→Afa,not_eq_true→Afz,true_and→Agg,not_eq_false'→Agu,false_ne_true→Ais
open List renaming getElem?_eq_getElem→Ade,append_assoc→Adf,mem_append→Adg,getD_eq_getElem?_getD→Adh,length_append→Adj,perm_append_comm→Adl,length_cons→Adm,eq_nil_of_length_eq_zero→Adn,mem_cons_self→Ado,mem_cons_of_mem→Adp,mem_singleton→Adq,length_drop→Adr,mem_cons→Adu,all_eq_true→Adv,mem_append_left→Adw,replicate→Adx,length_take→Adz,getElem_mem→Aec,append_nil→Aed,drop_eq_getElem_cons→Aei,nil_append→Ael,length_set→Aen,perm_middle→Aep,getElem?_eq_none→Aes,length_replicate→Aet,getElem?_take_of_lt→Aew,cons_append→Aex,length_map→Aey,getElem_of_mem→Aez,sublist_append_right→Afc,getElem?_append_right→Aff,take_of_length_le→Afh,take_length→Afi,getElem?_append_left→Afk,nil_sublist→Afm,mem_of_mem_drop→Aft,drop_of_length_le→Agc,pairwise_iff_getElem→Agf,take_append_of_le_length→Agi,drop_length→Agj,getD→Aha,takeWhile_append_dropWhile→Ahp,drop_append_of_le_length→Ahv,nodup_nil→Ahx,mem_of_mem_take→Aif,drop_append→Aii
open List.Perm renaming cons→Ads,swap→Aee,refl→Aeq,append_right→Age
open Option renaming getD_some→Ago
open Int renaming toNat_natCast→Ahm
section
namespace Go.Gk.Tre
open Go Go.Gk Go.Gk.Dev Go.Gk.Cch Go.Gk.Pgr Go.Gk.Chn Go.Gk.Node
attribute [local irreducible] gwp gws xwp
variable{f f1:FuncId}
def G3(P:Program)(f:FuncId):Prop:=∀{d}{bt pb:Nat}{Tt}{r h c:Int}{L},CV P f [pZ bt] d (tb bt Tt (pZ pb) r h c::L) (.bool false)
def Om:A5:=⟨12,[(.tmp 2)],(sR (o1 2 (.mv (.const (.bool false))) .done) (sR (om 3 0<|o1 4 (.eqp false 3 (.const (.pointer none)))<|om 5 4<|gF 6 5 0<|oF 7 5 (.nilc 6)<|oF 8 5 (.fld 0 7)<|oF 9 5 (.ld none 8)<|oF 10 5 (.eqp false 9 (.const (.pointer none)))<|o1 11 (.pick 5 (.const (.bool true)) 10)<|om 2 11 .done) .ret))⟩
def Y9{P}(hd:dec P f=some Om):G3 P f:=by
 intro d bt pb Tt r h c L;refine AF hd (Ada rfl) ?_;show gwp P _ _ _ _ _;(refine Ad<|Ae rfl<|Aa<|Ad<|Am rfl<|Dk rfl rfl<|Ae rfl<|Ah rfl<|Am rfl<|Ah rfl<|Au rfl<|Ah rfl<|Ai rfl<|Ah rfl<|Ag rfl (Aj 0 rfl rfl)<|Ah rfl<|Dk rfl rfl<|Aw rfl rfl<|Ae rfl<|Aa<|An ?_);exact BO rfl (Adb _) ⟨rfl,rfl,rfl⟩
def KN(P:Program)(f:FuncId):Prop:=∀{d}{bt pb:Nat}{Tt}{r h c:Int}{w key L},AM d w key→CV P f [pZ bt,w] d (tb bt Tt (pZ pb) r h c::L) (vZ (BV key))
def Of(a0:Nat):A5:=⟨17,[(.tmp 4)],(sR (o1 4 (.mv z0) .done) (.seq (.block 0 (sR (om 6 0<|oc 7 a0 [6]<|om 5 7 .done) (.cond 5 (sR (o1 4 (.mv z1) .done) .ret) (sR (om 9 1<|oL 10 9<|ob 11 .lss 10 z1<|om 12 11<|gF 13 12 1<|oF 14 12 (.len 13)<|oF 15 12 (.bin .gtr 14 (kZ 64))<|o1 16 (.pick 12 (.const (.bool true)) 15)<|om 8 16 .done) (.cond 8 (sR (o1 4 (.mv z2) .done) .ret) .skip))))) (sR (o1 4 (.mv z0) .done) .ret)))⟩
def Aa3{P}(hd:dec P f=some (Of f1))(h1:G3 P f1):KN P f:=by
 intro d bt pb Tt r h c w key L hw;refine AF hd (Ada rfl) ?_;show gwp P _ _ _ _ _;(refine Ad<|Ab rfl<|Aa<|Af<|Ay<|Ad<|Am rfl ?_);refine Ci [] h1 rfl rfl ?_;by_cases e1:key.length<1
 ·have hk:BV key=2:=by unfold BV;rw[if_pos (.inl e1)]
  rw[hk];(refine Ae rfl<|Aa<|AS rfl<|Ad<|AJ<|BL rfl (by assumption)<|AE rfl rfl<|Ae rfl<|Bp rfl (by omega)<|Aq rfl<|Aq rfl<|Aq rfl<|AI rfl rfl<|Ae rfl<|Aa<|Bj rfl<|Ad<|Ab rfl<|Aa<|An ?_);exact BO rfl (Adb _) ⟨rfl,rfl,rfl⟩
 ·by_cases e2:64<key.length
  ·have hk:BV key=2:=by unfold BV;rw[if_pos (.inr e2)]
   rw[hk];(refine Ae rfl<|Aa<|AS rfl<|Ad<|AJ<|BL rfl (by assumption)<|AE rfl rfl<|Ae rfl<|Bf rfl (by omega)<|Ah rfl<|AJ<|Ah rfl<|BL rfl (by assumption)<|Ah rfl<|BW rfl rfl<|Aw rfl rfl<|Ae rfl<|Aa<|Ax rfl (by omega)<|Ad<|Ab rfl<|Aa<|An ?_);exact BO rfl (Adb _) ⟨rfl,rfl,rfl⟩
  ·have hk:BV key=0:=by unfold BV;rw[if_neg (by omega)]
   rw[hk];(refine Ae rfl<|Aa<|AS rfl<|Ad<|AJ<|BL rfl (by assumption)<|AE rfl rfl<|Ae rfl<|Bf rfl (by omega)<|Ah rfl<|AJ<|Ah rfl<|BL rfl (by assumption)<|Ah rfl<|BW rfl rfl<|Aw rfl rfl<|Ae rfl<|Aa<|Ar rfl (by omega)<|Ak<|Ad<|Ab rfl<|Aa<|An ?_);exact BO rfl (Adb _) ⟨rfl,rfl,rfl⟩
def Jn(P:Program)(f:FuncId):Prop:=∀{d s dv pv L}{bt:Nat}{Tt}{r h c k:Int},Pg d s dv pv L→
 Av P f [pZ bt,vZ k] d (tb bt Tt pv r h c::L) (Ret fun v d' L'=>Le d d'∧∃cs hk hv hi L2 tc,v=.tuple #[.agg cs.toArray,vZ (Bk s k).2]∧L'=hk::hv::hi::tb bt Tt pv r h c::L2∧
  DU d' cs (Bk s k).1 hk hv hi∧Pg d' {s with tc:=tc} dv pv L2∧((Bk s k).2=0→tc=s.tc+1))
def NX(a0 a1:Nat):A5:=⟨25,[(.cell 4 (some 4)),(.tmp 5)],(sR (o1 4 (.alo (.agg #[(.bool false),(.slice none 0 0),(.slice none 0 0),(.slice none 0 0)]))<|o1 5 (.mv z0) .done) (sR (om 9 0<|o1 10 (.nilc 9)<|oj 11 0 10<|ol 12 11<|om 13 1<|oc 14 a0 [12,13]<|om 8 14<|oe 15 8 0<|oe 16 8 1<|om 6 15<|om 7 16 .done) (.seq (sR (om 17 7<|ob 18 .neq 17 z0 .done) (.cond 18 (sR (o1 19 (.bld [(0,1),(1,1),(2,1),(3,1)] [(.bool false),(.slice none 0 0),(.slice none 0 0),(.slice none 0 0)] [])<|om 20 7<|o0 (.st 4 4 19)<|om 5 20 .done) .ret) .skip)) (sR (om 21 6<|oc 22 a1 [21]<|oe 23 22 0<|oe 24 22 1<|o0 (.st 4 4 23)<|om 5 24 .done) .ret))))⟩
set_option maxRecDepth 4000 in
def Zp{P f2}(hd:dec P f=some (NX f1 f2))(h1:FE P f1)(h2:Sp P f2):Jn P f:=by
 intro d s dv pv L bt Tt r h c k hp;obtain⟨bp,rfl⟩:=hp.ptr;refine AF hd (Ada rfl) ?_;show gwp P _ _ _ _ _;apply Af;apply AB;refine DW (fun b4 T4=>?_);(refine Ab rfl<|Aa<|Ad<|Am rfl<|Au rfl<|Ai rfl<|Ag rfl (Aj 1 rfl rfl)<|Ab rfl ?_);refine A7 [_,_] (h1.atT (k:=k) hp) rfl rfl (fun v d2 L2 hl ⟨a,q,tc,e1,hb,hp2,htc⟩=>?_);subst e1;by_cases hlv:A4 s k
 ·rw[S3 hlv];rw[if_pos hlv] at htc;have hr:Bk s k=(O4 (s.bytes k),PB (s.bytes k)):=by unfold Bk;rw[if_pos hlv]
  rw[hr];(refine AU rfl<|Ao rfl rfl<|Ao rfl rfl<|Al rfl<|Ab rfl<|Aa<|Af<|Ad<|Ab rfl<|AN rfl rfl<|Aa<|Ar rfl (by omega)<|Ak<|Ad<|Al rfl ?_);refine Bl rfl (h2 hb) (fun u d3 L3 hl3 ⟨q0,cs,q1,q2⟩=>?_);subst q0;subst q1;obtain⟨d4,hk,hv,hi,v1,v2,v3⟩:=DT.AcG q2;have hcs:∃c1 c2 c3 c4,cs=[c1,c2,c3,c4]∧(cs.all (·.oneCell'))=true:=by
   obtain⟨kv,vv,iv,rfl,a1,a2,a3⟩:=v3;obtain⟨x1,x2,rfl⟩:=a1.val;obtain⟨y1,y2,rfl⟩:=a2.val;obtain⟨z1,z2,rfl⟩:=a3.val;exact⟨_,_,_,_,rfl,rfl⟩
  obtain⟨c1,c2,c3,c4,rfl,hc1⟩:=hcs;refine B9 _ _ (Vs.app v1 _) ?_;(refine Ao rfl rfl<|Ao rfl rfl ?_);refine Bn 3 rfl rfl rfl rfl (Adi _) hc1 ?_;(refine Ab rfl<|Aa<|An ?_);exact Bd [.agg [c1,c2,c3,c4].toArray,vZ (PB (s.bytes k))] ⟨AV 3 rfl rfl rfl,As rfl,trivial⟩ (d':=d4) (L':=hk::hv::hi::tb bt Tt (pZ bp) r h c::L2) (Vs.drop (.cons_cons _ (.cons_cons _ (.cons_cons _ (.cons _ (Adb _))))))
   ⟨hl.trans v2,_,hk,hv,hi,L2,tc,rfl,rfl,v3,hp2.mono v2,fun _=>htc⟩
 ·rw[(R8 hlv).1];rw[if_neg hlv] at htc;have hr:Bk s k=(JW,240):=by unfold Bk;rw[if_neg hlv]
  rw[hr];(refine AU rfl<|Ao rfl rfl<|Ao rfl rfl<|Al rfl<|Ab rfl<|Aa<|Af<|Ad<|Ab rfl<|AN rfl rfl<|Aa<|Ax rfl (by omega)<|Ad<|BR rfl<|Ab rfl ?_);refine Bn 0 rfl rfl rfl rfl (Adi _) rfl ?_;(refine Ab rfl<|Aa<|An ?_);exact Bd [.agg [.bool false,.slice none 0 0,.slice none 0 0,.slice none 0 0].toArray,vZ 240] ⟨AV 0 rfl rfl rfl,As rfl,trivial⟩ (d':=d2) (L':=emp::emp::emp::tb bt Tt (pZ bp) r h c::L2)
   ((Vs.drop (.cons _ (Adb _))).trans (Vs.emp.trans (Vs.emp.trans Vs.emp)))
   ⟨hl,_,emp,emp,emp,L2,tc,rfl,rfl,DU.zero,hp2,fun q=>absurd q (by decide)⟩
def G5(P:Program)(f:FuncId):Prop:=∀{d s dv pv L}{bt:Nat}{Tt}{r h c k x:Int},Pg d s dv pv L→
 Av P f [pZ bt,vZ k,vZ x] d (tb bt Tt pv r h c::L) (Ret fun v d' L'=>Le d d'∧∃cs hk hv hi L2 tc,v=.tuple #[.agg cs.toArray,vZ (AT s k x).2]∧L'=hk::hv::hi::tb bt Tt pv r h c::L2∧
  DU d' cs (AT s k x).1 hk hv hi∧Pg d' {s with tc:=tc} dv pv L2∧((AT s k x).2=0→tc=s.tc+1))
def DU.cells{d cs}{n:Az}{hk hv hi}(o:DU d cs n hk hv hi):∃ka kc va vc ia ic,cs=[.bool n.leaf,.slice ka n.keys.length kc,.slice va n.vals.length vc,.slice ia n.kids.length ic]:=by
 obtain⟨kv,vv,iv,rfl,a1,a2,a3⟩:=o;obtain⟨x1,x2,rfl⟩:=a1.val;obtain⟨y1,y2,rfl⟩:=a2.val;obtain⟨z1,z2,rfl⟩:=a3.val;exact⟨_,_,_,_,_,_,rfl⟩
def Nc(a0:Nat):A5:=⟨27,[(.cell 6 (some 4)),(.tmp 7)],(sR (o1 6 (.alo (.agg #[(.bool false),(.slice none 0 0),(.slice none 0 0),(.slice none 0 0)]))<|o1 7 (.mv z0) .done) (sR (om 11 0<|om 12 1<|oc 13 a0 [11,12]<|om 10 13<|oe 14 10 0<|oe 15 10 1<|o1 8 (.alo (.agg #[(.bool false),(.slice none 0 0),(.slice none 0 0),(.slice none 0 0)]))<|o0 (.st 4 8 14)<|om 9 15 .done) (.seq (sR (om 16 9<|ob 17 .eql 16 z0<|om 18 17<|oT 19 18 (.fld 0 8)<|oT 20 18 (.ld none 19)<|gT 21 18 2<|oT 22 18 (.bin .eql 21 z1)<|oT 23 18 (.eqb true 20 22)<|gP 24 18 23 .done) (.cond 24 (rG (o1 9 (.mv (kZ 200)) .done)) .skip)) (sR (o1 25 (.ld (some 4) 8)<|om 26 9<|o0 (.st 4 6 25)<|om 7 26 .done) .ret))))⟩
set_option maxRecDepth 4000 in
def Xc{P}(hd:dec P f=some (Nc f1))(h1:Jn P f1):G5 P f:=by
 intro d s dv pv L bt Tt r h c k x hp;refine AF hd (Ada rfl) ?_;show gwp P _ _ _ _ _;apply Af;apply AB;refine DW (fun b6 T6=>?_);(refine Ab rfl<|Aa<|Ad<|Am rfl<|Ab rfl ?_);refine A7 [_] (h1 (k:=k) hp) rfl rfl (fun v d2 L2 hl ⟨_,cs,hk,hv,hi,L3,tc,e1,e2,hn,hp2,htc⟩=>?_);subst e1;subst e2;have hn0:=hn;obtain⟨ka,kc,va,vc,ia,ic,rfl⟩:=hn.cells;(refine AU rfl<|Ao rfl rfl<|Ao rfl rfl<|B0 (fun _ _=>?_));rename_i b8 T8;refine Bn 0 rfl rfl rfl rfl (Adi _) rfl ?_;by_cases hz:(Bk s k).2=0
 ·by_cases hx:(Bk s k).1.leaf=decide (x=1)
  ·have hF:AT s k x=((Bk s k).1,0):=by unfold AT;rw[if_neg (fun q=>q.2 hx),hz]
   rw[hF,hz];have hxx:(true ^^((Bk s k).1.leaf==decide (x=1)))=false:=by rw[hx];simp
   (refine Ab rfl<|Aa<|Af<|Ad<|Ab rfl<|AO rfl rfl<|Ae rfl<|Bp rfl (by omega)<|Ah rfl<|Ai rfl<|Ah rfl<|Ag rfl (Aj 0 rfl rfl)<|Ah rfl<|Ab rfl<|Ah rfl<|AO rfl rfl<|Ah rfl<|IS rfl rfl<|AI rfl rfl<|Aa ?_;apply Ab5;rfl;(with_reducible assumption);refine Ak<|Ad<|Bh 0 rfl rfl rfl<|Ab rfl ?_);refine Bn 1 rfl rfl rfl rfl (Adi _) rfl ?_;(refine Ab rfl<|Aa<|An ?_);exact Bd [.agg [.bool (Bk s k).1.leaf,.slice ka (Bk s k).1.keys.length kc,.slice va (Bk s k).1.vals.length vc,.slice ia (Bk s k).1.kids.length ic].toArray,vZ 0] ⟨AV 1 rfl rfl rfl,As rfl,trivial⟩ (d':=d2) (L':=hk::hv::hi::tb bt Tt pv r h c::L3) (Vs.drop (.cons _ (.cons _ (Adb _)))) ⟨hl,_,hk,hv,hi,L3,tc,rfl,rfl,hn0,hp2,fun _=>htc hz⟩
  ·have hF:AT s k x=((Bk s k).1,200):=by unfold AT;rw[if_pos ⟨hz,hx⟩]
   rw[hF,hz];have hxx:(true ^^((Bk s k).1.leaf==decide (x=1)))=true:=by cases hb:(Bk s k).1.leaf<;>rw[hb] at hx<;>simp at hx⊢<;>omega
   (refine Ab rfl<|Aa<|Af<|Ad<|Ab rfl<|AO rfl rfl<|Ae rfl<|Bp rfl (by omega)<|Ah rfl<|Ai rfl<|Ah rfl<|Ag rfl (Aj 0 rfl rfl)<|Ah rfl<|Ab rfl<|Ah rfl<|AO rfl rfl<|Ah rfl<|IS rfl rfl<|AI rfl rfl<|Aa ?_;apply X6;rfl;(with_reducible assumption);refine AB<|Ab rfl<|Aa<|Ad<|Bh 0 rfl rfl rfl<|Ab rfl ?_);refine Bn 1 rfl rfl rfl rfl (Adi _) rfl ?_;(refine Ab rfl<|Aa<|An ?_);exact Bd [.agg [.bool (Bk s k).1.leaf,.slice ka (Bk s k).1.keys.length kc,.slice va (Bk s k).1.vals.length vc,.slice ia (Bk s k).1.kids.length ic].toArray,vZ 200] ⟨AV 1 rfl rfl rfl,As rfl,trivial⟩ (d':=d2) (L':=hk::hv::hi::tb bt Tt pv r h c::L3) (Vs.drop (.cons _ (.cons _ (Adb _)))) ⟨hl,_,hk,hv,hi,L3,tc,rfl,rfl,hn0,hp2,fun q=>absurd (show(200:Int)=0 from q) (by decide)⟩
 ·have hF:AT s k x=((Bk s k).1,(Bk s k).2):=by unfold AT;rw[if_neg (fun q=>hz q.1)]
  rw[hF];(refine Ab rfl<|Aa<|Af<|Ad<|Ab rfl<|AO rfl rfl<|Ae rfl<|Bf rfl (by omega)<|Aq rfl<|Aq rfl<|Aq rfl<|Aq rfl<|Aq rfl<|Aw rfl rfl<|Aa<|AS rfl<|Ak<|Ad<|Bh 0 rfl rfl rfl<|Ab rfl ?_);refine Bn 1 rfl rfl rfl rfl (Adi _) rfl ?_;(refine Ab rfl<|Aa<|An ?_);exact Bd [.agg [.bool (Bk s k).1.leaf,.slice ka (Bk s k).1.keys.length kc,.slice va (Bk s k).1.vals.length vc,.slice ia (Bk s k).1.kids.length ic].toArray,vZ (Bk s k).2] ⟨AV 1 rfl rfl rfl,As rfl,trivial⟩ (d':=d2) (L':=hk::hv::hi::tb bt Tt pv r h c::L3) (Vs.drop (.cons _ (.cons _ (Adb _)))) ⟨hl,_,hk,hv,hi,L3,tc,rfl,rfl,hn0,hp2,htc⟩
def OT(P:Program)(f:FuncId):Prop:=∀{d w b},AM d w b→C2 P f [w] d (.tuple #[vZ (if Ex b then(DR b:Int) else 0),vZ (if Ex b then(Dt b:Int) else 0),.bool (Ex b)])
def V8:A5:=⟨46,[(.tmp 2),(.tmp 3),(.tmp 4)],(sR (o1 2 (.mv z0)<|o1 3 (.mv z0)<|o1 4 (.mv (.const (.bool false))) .done) (.seq (sR (om 5 0<|oL 6 5<|ob 7 .neq 6 (kZ 7)<|om 8 7<|gF 9 8 0<|oF 10 8 (.idx 1 9 z0)<|oF 11 8 (.ld none 10)<|oF 12 8 (.bin .neq 11 (.const (.int .u8 1)))<|o1 13 (.pick 8 (.const (.bool true)) 12) .done) (.cond 13 (sR (o1 2 (.mv z0)<|o1 3 (.mv z0)<|o1 4 (.mv (.const (.bool false))) .done) .ret) .skip)) (.seq (.reg true (pm 14 0<|p1 15 (.idx 1 14 z1)<|pl 16 15<|p1 17 (.cvi .i64 16)<|p1 18 (.bin .shl 17 (.const (.int .u64 8)))<|pm 19 0<|p1 20 (.idx 1 19 z2)<|pl 21 20<|p1 22 (.cvi .i64 21)<|p1 23 (.bin .or 18 22)<|pm 24 0<|p1 25 (.idx 1 24 (kZ 3))<|pl 26 25<|p1 27 (.cvi .i64 26)<|p1 28 (.bin .shl 27 (.const (.int .u64 24)))<|pm 29 0<|p1 30 (.idx 1 29 (kZ 4))<|pl 31 30<|p1 32 (.cvi .i64 31)<|p1 33 (.bin .shl 32 (.const (.int .u64 16)))<|p1 34 (.bin .or 28 33)<|pm 35 0<|p1 36 (.idx 1 35 (kZ 5))<|pl 37 36<|p1 38 (.cvi .i64 37)<|p1 39 (.bin .shl 38 (.const (.int .u64 8)))<|p1 40 (.bin .or 34 39)<|pm 41 0<|p1 42 (.idx 1 41 (kZ 6))<|pl 43 42<|p1 44 (.cvi .i64 43)<|p1 45 (.bin .or 40 44)<|pm 2 23<|pm 3 45<|p1 4 (.mv (.const (.bool true))) .done)) .ret)))⟩
def CZ{b:List UInt8}{i:Nat}(h:i<b.length):b.getD i 0=b[i]:=by rw[Adh,Ade h];rfl
set_option maxRecDepth 4000 in
def Ab4{P:Program}{f:FuncId}(hd:dec P f=some V8):OT P f:=by
 intro d w b hw;refine AF hd (Ada rfl) ?_;show gwp P _ _ _ _ _;by_cases h7:b.length=7
 ·have g0:=CZ (b:=b) (i:=0) (by omega);by_cases h1:b[0]'(by omega)=1
  ·have hF:Ex b=true:=by unfold Ex;rw[g0,h1,h7];rfl
   have hb0:(b[0]'(by omega)).toNat=1:=by rw[h1];rfl
   rw[hF];have l1:=UInt8.toNat_lt (b[1]'(by omega));have l2:=UInt8.toNat_lt (b[2]'(by omega));have l3:=UInt8.toNat_lt (b[3]'(by omega));have l4:=UInt8.toNat_lt (b[4]'(by omega));have l5:=UInt8.toNat_lt (b[5]'(by omega));have l6:=UInt8.toNat_lt (b[6]'(by omega));have eH:DR b=(b[1]'(by omega)).toNat*2 ^ 8+(b[2]'(by omega)).toNat:=by unfold DR;rw[CZ (i:=1) (by omega),CZ (i:=2) (by omega)]
   have eN:Dt b=(((b[3]'(by omega)).toNat*2 ^ 8+(b[4]'(by omega)).toNat)*2 ^ 8+(b[5]'(by omega)).toNat)*2 ^ 8+(b[6]'(by omega)).toNat:=by unfold Dt;rw[CZ (i:=3) (by omega),CZ (i:=4) (by omega),CZ (i:=5) (by omega),CZ (i:=6) (by omega)]
   rw[if_pos rfl,if_pos rfl,eH,eN];generalize e1:(b[1]'(by omega)).toNat=n1 at l1;generalize e2:(b[2]'(by omega)).toNat=n2 at l2;generalize e3:(b[3]'(by omega)).toNat=n3 at l3;generalize e4:(b[4]'(by omega)).toNat=n4 at l4;generalize e5:(b[5]'(by omega)).toNat=n5 at l5;generalize e6:(b[6]'(by omega)).toNat=n6 at l6;have e5':(b[4+1]'(by omega)).toNat=n5:=e5;have e6':(b[5+1]'(by omega)).toNat=n6:=e6;(refine Ad<|Ab rfl<|Ab rfl<|Ae rfl<|Aa<|Af<|Ad<|AJ<|BL rfl (by assumption)<|AN rfl rfl<|Ae rfl<|Bf rfl (by omega)<|Ah rfl<|AJ<|Ah rfl<|BM (m:=0) (sz:=1) (R:=AP) (by rfl) (by assumption) (by rfl) rfl (by omega) ?_;rintro _ _ _ _ _ rfl;refine Ah rfl<|Ag rfl (B4 (by assumption) rfl)<|Ah rfl<|AN rfl rfl<|Aw rfl rfl<|Aa<|Ar rfl (by omega)<|Ak<|Af<|Bu<|AJ<|BM (m:=1) (sz:=1) (R:=AP) (by rfl) (by assumption) (by rfl) rfl (by omega) ?_;rintro _ _ _ _ _ rfl;refine Ag rfl (B4 (by assumption) rfl)<|Es rfl (by omega) (by omega) ?_);refine OZ (a:=n1) 8 (n1*2 ^ 8) (congrArg (fun z:Nat=>Value.int .i64 z) e1) rfl (by omega) rfl (by omega) ?_;(refine AJ<|BM (m:=2) (sz:=1) (R:=AP) (by rfl) (by assumption) (by rfl) rfl (by omega) ?_;rintro _ _ _ _ _ rfl;refine Ag rfl (B4 (by assumption) rfl)<|Es rfl (by omega) (by omega) ?_);refine RK (a:=n1) (b:=n2) 8 rfl (congrArg (fun z:Nat=>Value.int .i64 z) e2) (by omega) (by omega) (by omega) ?_;(refine AJ<|BM (m:=3) (sz:=1) (R:=AP) (by rfl) (by assumption) (by rfl) rfl (by omega) ?_;rintro _ _ _ _ _ rfl;refine Ag rfl (B4 (by assumption) rfl)<|Es rfl (by omega) (by omega) ?_);refine OZ (a:=n3) 24 (n3*2 ^ 24) (congrArg (fun z:Nat=>Value.int .i64 z) e3) rfl (by omega) rfl (by omega) ?_;(refine AJ<|BM (m:=4) (sz:=1) (R:=AP) (by rfl) (by assumption) (by rfl) rfl (by omega) ?_;rintro _ _ _ _ _ rfl;refine Ag rfl (B4 (by assumption) rfl)<|Es rfl (by omega) (by omega) ?_);refine OZ (a:=n4) 16 (n4*2 ^ 16) (congrArg (fun z:Nat=>Value.int .i64 z) e4) rfl (by omega) rfl (by omega) ?_;refine RK (a:=n3) (b:=n4*2 ^ 16) 24 rfl rfl (by omega) (by omega) (by omega) ?_;(refine AJ<|BM (sz:=1) (R:=AP) (by rfl) (by assumption) (by rfl) (Int.natCast_add _ 1).symm (by omega) ?_;rintro _ _ _ _ _ rfl;refine Ag rfl (B4 (by assumption) rfl)<|Es rfl (by omega) (by omega) ?_);refine OZ (a:=n5) 8 (n5*2 ^ 8) (congrArg (fun z:Nat=>Value.int .i64 z) e5') rfl (by omega) rfl (by omega) ?_;refine RK (a:=n3*2 ^ 8+n4) (b:=n5*2 ^ 8) 16 (congrArg (fun z:Nat=>Value.int .i64 z) (by omega)) rfl (by omega) (by omega) (by omega) ?_;(refine AJ<|BM (sz:=1) (R:=AP) (by rfl) (by assumption) (by rfl) (Int.natCast_add _ 1).symm (by omega) ?_;rintro _ _ _ _ _ rfl;refine Ag rfl (B4 (by assumption) rfl)<|Es rfl (by omega) (by omega) ?_);refine RK (a:=(n3*2 ^ 8+n4)*2 ^ 8+n5) (b:=n6) 8 (congrArg (fun z:Nat=>Value.int .i64 z) (by omega)) (congrArg (fun z:Nat=>Value.int .i64 z) e6') (by omega) (by omega) (by omega) ?_;(refine Ab rfl<|Ab rfl<|Ae rfl<|Aa<|An ?_);exact EY [vZ _,vZ _,.bool true] (L':=[]) ⟨As rfl,As rfl,As rfl,trivial⟩ (Afm _) ⟨rfl,rfl,rfl⟩
  ·have hb0:(b[0]'(by omega)).toNat≠1:=fun q=>h1 (UInt8.toNat_inj.1 q);have hF:Ex b=false:=by unfold Ex;rw[g0];simp[h1]
   rw[hF];(refine Ad<|Ab rfl<|Ab rfl<|Ae rfl<|Aa<|Af<|Ad<|AJ<|BL rfl (by assumption)<|AN rfl rfl<|Ae rfl<|Bf rfl (by omega)<|Ah rfl<|AJ<|Ah rfl<|BM (m:=0) (sz:=1) (R:=AP) (by rfl) (by assumption) (by rfl) rfl (by omega) ?_;rintro _ _ _ _ _ rfl;refine Ah rfl<|Ag rfl (B4 (by assumption) rfl)<|Ah rfl<|AN rfl rfl<|Aw rfl rfl<|Aa<|Ax rfl (by omega)<|Ad<|Ab rfl<|Ab rfl<|Ae rfl<|Aa<|An ?_);exact EY [vZ 0,vZ 0,.bool false] (L':=[]) ⟨As rfl,As rfl,As rfl,trivial⟩ (Afm _) ⟨rfl,rfl,rfl⟩
 ·have hF:Ex b=false:=by unfold Ex;simp[h7]
  rw[hF];(refine Ad<|Ab rfl<|Ab rfl<|Ae rfl<|Aa<|Af<|Ad<|AJ<|BL rfl (by assumption)<|AN rfl rfl<|Ae rfl<|Bp rfl (by omega)<|Aq rfl<|Aq rfl<|Aq rfl<|Aq rfl<|AI rfl rfl<|Aa<|Bj rfl<|Ad<|Ab rfl<|Ab rfl<|Ae rfl<|Aa<|An ?_);exact EY [vZ 0,vZ 0,.bool false] (L':=[]) ⟨As rfl,As rfl,As rfl,trivial⟩ (Afm _) ⟨rfl,rfl,rfl⟩
def Kr(P:Program)(f:FuncId):Prop:=∀{d s dv pv w L}{bt:Nat}{Tt}{r h c:Int}{b},Pg d s dv pv L→AM d w b→
 Av P f [pZ bt,w] d (tb bt Tt pv r h c::L) (Ret fun v d' L'=>Le d d'∧∃u L2 tc,v=.tuple #[u,vZ (DQ s b).2]∧L'=tb bt Tt pv r h c::L2∧AM d' u (DQ s b).1∧
  Pg d' {s with tc:=tc} dv pv L2∧((DQ s b).2=0→tc=s.tc+Gs b))
def VZ{b:List UInt8}{m:Nat}(e:(0:Int)=(m:Int))(h:m<b.length){n:Nat}(hb:(b.getD 0 0).toNat=n):(b[m]'h).toNat=n:=by
 have:m=0:=by omega
 subst this;rw[←hb,CZ h]
def M8(a0 a1 a2:Nat):A5:=⟨38,[(.tmp 4),(.tmp 5)],(sR (o1 4 (.mv nS)<|o1 5 (.mv z0) .done) (.seq (sR (om 9 1<|oL 10 9<|ob 11 .gtr 10 z0<|om 12 11<|gT 13 12 1<|oT 14 12 (.idx 1 13 z0)<|oT 15 12 (.ld none 14)<|oT 16 12 (.bin .eql 15 (.const (.int .u8 0)))<|gP 17 12 16 .done) (.cond 17 (sR (om 18 1<|o1 19 (.sl 1 18 (some z1) none none)<|oc 20 a0 [19]<|om 4 20<|o1 5 (.mv z0) .done) .ret) .skip)) (sR (om 22 1<|oc 23 a1 [22]<|om 21 23<|oe 24 21 0<|oe 25 21 1<|oe 26 21 2<|om 6 24<|om 7 25<|om 8 26 .done) (.seq (sR (om 27 8<|o1 28 (.un .not 27) .done) (.cond 28 (sR (o1 4 (.mv nS)<|o1 5 (.mv (kZ 200)) .done) .ret) .skip)) (sR (om 29 0<|o1 30 (.nilc 29)<|oj 31 0 30<|ol 32 31<|om 33 6<|om 34 7<|oc 35 a2 [32,33,34]<|oe 36 35 0<|oe 37 35 1<|om 4 36<|om 5 37 .done) .ret)))))⟩
set_option maxRecDepth 4000 in
def Xi{P:Program}{f f1 f2 f3:FuncId}(hd:dec P f=some (M8 f1 f2 f3))(h1:Ef AP 1 P f1)(h2:OT P f2)(h3:PJ P f3):Kr P f:=by
 intro d s dv pv w L bt Tt r h c b hp hw;obtain⟨bp,rfl⟩:=hp.ptr;obtain⟨wa,wc,rfl⟩:=RSl.val hw;refine AF hd (Ada rfl) ?_;show gwp P _ _ _ _ _;by_cases h0:0<b.length
 ·have g0:=CZ (b:=b) (i:=0) h0;by_cases e0:b[0]=0
  ·have hb0:=VZ (b:=b) rfl h0 (n:=0) (by rw[g0,e0];rfl);(refine Ad<|Al rfl<|Ab rfl<|Aa<|Af<|Ad<|Al rfl<|AK rfl<|BW rfl rfl<|Ae rfl<|Bp rfl (by omega)<|Ah rfl<|Al rfl<|Ah rfl<|BM (sz:=1) (R:=AP) (by rfl) (by assumption) (by rfl) rfl (by omega) ?_;rintro _ _ _ _ _ rfl;refine Ah rfl<|Ag rfl (B4 (by assumption) rfl)<|Ah rfl<|AO rfl rfl<|AI rfl rfl<|Aa<|Ax rfl (by omega)<|Ad<|Al rfl ?_);refine EU (R:=AP) (sz:=1) (n:=1) rfl hw rfl rfl (by omega) (fun v' hv'=>?_);have hi:inB b=true:=by unfold inB;rw[g0,e0];simp[h0]
   have hF:DQ s b=(b.drop 1,0):=by unfold DQ;rw[if_pos hi]
   have hT:Gs b=0:=by unfold Gs;rw[if_pos hi]
   rw[hF,hT];refine Bl rfl (h1 hv' (by have:=hw.B3;rw[Adr];omega)) (fun v d1 L1 _ ⟨e1,hh,e2,hg⟩=>?_);subst e1;subst e2;obtain⟨ga,gc,rfl⟩:=hg.val;(refine Al rfl<|Ab rfl<|Aa<|An ?_);exact Bd [.slice ga (b.drop 1).length gc,vZ 0] ⟨As rfl,As rfl,trivial⟩ (d':=join d1 hh) (L':=tb bt Tt (pZ bp) r h c::L) Vs.freeze ⟨Le.AG _ _,_,L,s.tc,rfl,rfl,Ap.rsl (R:=AP) (sz:=1) hg A3 (by omega) (Le.AG _ _) (Le.Ba _ _),hp.mono (Le.AG _ _),fun _=>rfl⟩
  ·have hb0:=VZ (b:=b) rfl h0 (n:=_) (congrArg UInt8.toNat g0);have hb1:b[0].toNat≠0:=fun q=>e0 (UInt8.toNat_inj.1 q);(refine Ad<|Al rfl<|Ab rfl<|Aa<|Af<|Ad<|Al rfl<|AK rfl<|BW rfl rfl<|Ae rfl<|Bp rfl (by omega)<|Ah rfl<|Al rfl<|Ah rfl<|BM (sz:=1) (R:=AP) (by rfl) (by assumption) (by rfl) rfl (by omega) ?_;rintro _ _ _ _ _ rfl;refine Ah rfl<|Ag rfl (B4 (by assumption) rfl)<|Ah rfl<|AO rfl rfl<|AI rfl rfl<|Aa<|Ar rfl (by omega)<|Ak<|Ad<|Al rfl ?_);have hi:inB b=false:=by unfold inB;rw[g0];simp[e0]
   cases hf:Ex b with
   |true=>
    have hF:DQ s b=(Chn.Bw s (DR b) (Dt b)).2:=by unfold DQ;rw[hi,if_neg (by decide),hf,if_pos rfl]
    have hT:Gs b=AQ (Dt b):=by unfold Gs;rw[hi,if_neg (by decide)]
    rw[hF,hT]
    have hc:=h2 hw
    rw[hf,if_pos rfl,if_pos rfl] at hc
    refine BS rfl hc ?_
    (refine AU rfl<|Ao rfl rfl<|Ao rfl rfl<|Ao rfl rfl<|Ab rfl<|Ab rfl<|Ae rfl<|Aa<|Af<|Ad<|Ae rfl<|Bx rfl<|Aa<|AS rfl<|Ak<|Ad<|Am rfl<|Au rfl<|Ai rfl<|Ag rfl (Aj 0 rfl rfl)<|Ab rfl<|Ab rfl ?_)
    refine A7 [_] (h3 (k:=DR b) (size:=Dt b) hp) rfl rfl (fun v d2 L2 hl ⟨_,u,tc,e1,hu,hp2,htc⟩=>?_)
    subst e1
    rw[Ahm] at htc
    (refine Ao rfl rfl<|Ao rfl rfl<|AJ<|Ab rfl<|Aa<|An ?_)
    exact CO rfl rfl (Adb _) ⟨hl,u,L2,tc,rfl,rfl,hu,hp2,htc⟩
   |false=>
    have hF:DQ s b=([],200):=by unfold DQ;rw[hi,if_neg (by decide),hf,if_neg (by decide)]
    rw[hF]
    have hc:=h2 hw
    rw[hf,if_neg (by decide),if_neg (by decide)] at hc
    refine BS rfl hc ?_
    (refine AU rfl<|Ao rfl rfl<|Ao rfl rfl<|Ao rfl rfl<|Ab rfl<|Ab rfl<|Ae rfl<|Aa<|Af<|Ad<|Ae rfl<|Bx rfl<|Aa<|Bj rfl<|Ad<|Al rfl<|Ab rfl<|Aa<|An ?_)
    exact CO rfl rfl (Adb _) ⟨Le.refl _,_,L,s.tc,rfl,rfl,RSl.nil,hp,fun q=>absurd (show(200:Int)=0 from q) (by decide)⟩
 ·(refine Ad<|Al rfl<|Ab rfl<|Aa<|Af<|Ad<|Al rfl<|AK rfl<|BW rfl rfl<|Ae rfl<|Bf rfl (by omega)<|Aq rfl<|Aq rfl<|Aq rfl<|Aq rfl<|Aw rfl rfl<|Aa<|AS rfl<|Ak<|Ad<|Al rfl ?_);have hi:inB b=false:=by unfold inB;simp[h0]
  cases hf:Ex b with
  |true=>
   have hF:DQ s b=(Chn.Bw s (DR b) (Dt b)).2:=by unfold DQ;rw[hi,if_neg (by decide),hf,if_pos rfl]
   have hT:Gs b=AQ (Dt b):=by unfold Gs;rw[hi,if_neg (by decide)]
   rw[hF,hT]
   have hc:=h2 hw
   rw[hf,if_pos rfl,if_pos rfl] at hc
   refine BS rfl hc ?_
   (refine AU rfl<|Ao rfl rfl<|Ao rfl rfl<|Ao rfl rfl<|Ab rfl<|Ab rfl<|Ae rfl<|Aa<|Af<|Ad<|Ae rfl<|Bx rfl<|Aa<|AS rfl<|Ak<|Ad<|Am rfl<|Au rfl<|Ai rfl<|Ag rfl (Aj 0 rfl rfl)<|Ab rfl<|Ab rfl ?_)
   refine A7 [_] (h3 (k:=DR b) (size:=Dt b) hp) rfl rfl (fun v d2 L2 hl ⟨_,u,tc,e1,hu,hp2,htc⟩=>?_)
   subst e1
   rw[Ahm] at htc
   (refine Ao rfl rfl<|Ao rfl rfl<|AJ<|Ab rfl<|Aa<|An ?_)
   exact CO rfl rfl (Adb _) ⟨hl,u,L2,tc,rfl,rfl,hu,hp2,htc⟩
  |false=>
   have hF:DQ s b=([],200):=by unfold DQ;rw[hi,if_neg (by decide),hf,if_neg (by decide)]
   rw[hF]
   have hc:=h2 hw
   rw[hf,if_neg (by decide),if_neg (by decide)] at hc
   refine BS rfl hc ?_
   (refine AU rfl<|Ao rfl rfl<|Ao rfl rfl<|Ao rfl rfl<|Ab rfl<|Ab rfl<|Ae rfl<|Aa<|Af<|Ad<|Ae rfl<|Bx rfl<|Aa<|Bj rfl<|Ad<|Al rfl<|Ab rfl<|Aa<|An ?_)
   exact CO rfl rfl (Adb _) ⟨Le.refl _,_,L,s.tc,rfl,rfl,RSl.nil,hp,fun q=>absurd (show(200:Int)=0 from q) (by decide)⟩
def MZ(P:Program)(f:FuncId):Prop:=∀{d s dv pv w L}{bt:Nat}{Tt}{r h c:Int}{b},PgT d s dv pv L→AM d w b→
 Av P f [pZ bt,w] d (tb bt Tt pv r h c::L) (Ret fun v d' L'=>Le d d'∧v=vZ (BP s b).2∧∃L2,L'=tb bt Tt pv r h c::L2∧PgT d' (BP s b).1 dv pv L2)
def Ob(a0 a1:Nat):A5:=⟨32,[(.tmp 4)],(sR (o1 4 (.mv z0) .done) (.seq (sR (om 8 1<|oL 9 8<|ob 10 .gtr 9 z0<|om 11 10<|gT 12 11 1<|oT 13 11 (.idx 1 12 z0)<|oT 14 11 (.ld none 13)<|oT 15 11 (.bin .eql 14 (.const (.int .u8 0)))<|gP 16 11 15 .done) (.cond 16 (sR (o1 4 (.mv z0) .done) .ret) .skip)) (sR (om 18 1<|oc 19 a0 [18]<|om 17 19<|oe 20 17 0<|oe 21 17 1<|oe 22 17 2<|om 5 20<|om 6 21<|om 7 22 .done) (.seq (sR (om 23 7<|o1 24 (.un .not 23) .done) (.cond 24 (sR (o1 4 (.mv (kZ 200)) .done) .ret) .skip)) (sR (om 25 0<|o1 26 (.nilc 25)<|oj 27 0 26<|ol 28 27<|om 29 5<|om 30 6<|oc 31 a1 [28,29,30]<|om 4 31 .done) .ret)))))⟩
set_option maxRecDepth 4000 in
def Yr{P:Program}{f f1 f2:FuncId}(hd:dec P f=some (Ob f1 f2))(h1:OT P f1)(h2:MF P f2):MZ P f:=by
 intro d s dv pv w L bt Tt r h c b hp hw;obtain⟨bp,rfl⟩:=hp.ptr;obtain⟨wa,wc,rfl⟩:=RSl.val hw;refine AF hd (Ada rfl) ?_;show gwp P _ _ _ _ _;by_cases h0:0<b.length
 ·have g0:=CZ (b:=b) (i:=0) h0;by_cases e0:b[0]=0
  ·have hb0:=VZ (b:=b) rfl h0 (n:=0) (by rw[g0,e0];rfl);(refine Ad<|Ab rfl<|Aa<|Af<|Ad<|Al rfl<|AK rfl<|BW rfl rfl<|Ae rfl<|Bp rfl (by omega)<|Ah rfl<|Al rfl<|Ah rfl<|BM (sz:=1) (R:=AP) (by rfl) (by assumption) (by rfl) rfl (by omega) ?_;rintro _ _ _ _ _ rfl;refine Ah rfl<|Ag rfl (B4 (by assumption) rfl)<|Ah rfl<|AO rfl rfl<|AI rfl rfl<|Aa<|Ax rfl (by omega)<|Ad<|Ab rfl<|Aa<|An ?_);have hi:inB b=true:=by unfold inB;rw[g0,e0];simp[h0]
   have hF:BP s b=(s,0):=by unfold BP;rw[if_pos hi]
   rw[hF];exact BO rfl (Adb _) ⟨Le.refl _,rfl,L,rfl,hp⟩
  ·have hb0:=VZ (b:=b) rfl h0 (n:=_) (congrArg UInt8.toNat g0);have hb1:b[0].toNat≠0:=fun q=>e0 (UInt8.toNat_inj.1 q);(refine Ad<|Ab rfl<|Aa<|Af<|Ad<|Al rfl<|AK rfl<|BW rfl rfl<|Ae rfl<|Bp rfl (by omega)<|Ah rfl<|Al rfl<|Ah rfl<|BM (sz:=1) (R:=AP) (by rfl) (by assumption) (by rfl) rfl (by omega) ?_;rintro _ _ _ _ _ rfl;refine Ah rfl<|Ag rfl (B4 (by assumption) rfl)<|Ah rfl<|AO rfl rfl<|AI rfl rfl<|Aa<|Ar rfl (by omega)<|Ak<|Ad<|Al rfl ?_);have hi:inB b=false:=by unfold inB;rw[g0];simp[e0]
   cases hf:Ex b with
   |true=>
    have hF:BP s b=DZ s (DR b) (Dt b):=by unfold BP;rw[hi,if_neg (by decide),hf,if_pos rfl]
    rw[hF]
    have hc:=h1 hw
    rw[hf,if_pos rfl,if_pos rfl] at hc
    refine BS rfl hc ?_
    clear hi hf
    (refine AU rfl<|Ao rfl rfl<|Ao rfl rfl<|Ao rfl rfl<|Ab rfl<|Ab rfl<|Ae rfl<|Aa<|Af<|Ad<|Ae rfl<|Bx rfl<|Aa<|AS rfl<|Ak<|Ad<|Am rfl<|Au rfl<|Ai rfl<|Ag rfl (Aj 0 rfl rfl)<|Ab rfl<|Ab rfl ?_)
    refine A7 [_] (Wv h2 (k:=DR b) (size:=Dt b) hp) rfl rfl (fun v d2 L2 hl ⟨_,e1,hp2⟩=>?_)
    subst e1
    (refine Ab rfl<|Aa<|An ?_)
    exact BO rfl (Adb _) ⟨hl,rfl,L2,rfl,hp2⟩
   |false=>
    have hF:BP s b=(s,200):=by unfold BP;rw[hi,if_neg (by decide),hf,if_neg (by decide)]
    rw[hF]
    have hc:=h1 hw
    rw[hf,if_neg (by decide),if_neg (by decide)] at hc
    refine BS rfl hc ?_
    clear hi hf
    (refine AU rfl<|Ao rfl rfl<|Ao rfl rfl<|Ao rfl rfl<|Ab rfl<|Ab rfl<|Ae rfl<|Aa<|Af<|Ad<|Ae rfl<|Bx rfl<|Aa<|Bj rfl<|Ad<|Ab rfl<|Aa<|An ?_)
    exact BO rfl (Adb _) ⟨Le.refl _,rfl,L,rfl,hp⟩
 ·(refine Ad<|Ab rfl<|Aa<|Af<|Ad<|Al rfl<|AK rfl<|BW rfl rfl<|Ae rfl<|Bf rfl (by omega)<|Aq rfl<|Aq rfl<|Aq rfl<|Aq rfl<|Aw rfl rfl<|Aa<|AS rfl<|Ak<|Ad<|Al rfl ?_);have hi:inB b=false:=by unfold inB;simp[h0]
  cases hf:Ex b with
  |true=>
   have hF:BP s b=DZ s (DR b) (Dt b):=by unfold BP;rw[hi,if_neg (by decide),hf,if_pos rfl]
   rw[hF]
   have hc:=h1 hw
   rw[hf,if_pos rfl,if_pos rfl] at hc
   refine BS rfl hc ?_
   clear hi hf
   (refine AU rfl<|Ao rfl rfl<|Ao rfl rfl<|Ao rfl rfl<|Ab rfl<|Ab rfl<|Ae rfl<|Aa<|Af<|Ad<|Ae rfl<|Bx rfl<|Aa<|AS rfl<|Ak<|Ad<|Am rfl<|Au rfl<|Ai rfl<|Ag rfl (Aj 0 rfl rfl)<|Ab rfl<|Ab rfl ?_)
   refine A7 [_] (Wv h2 (k:=DR b) (size:=Dt b) hp) rfl rfl (fun v d2 L2 hl ⟨_,e1,hp2⟩=>?_)
   subst e1
   (refine Ab rfl<|Aa<|An ?_)
   exact BO rfl (Adb _) ⟨hl,rfl,L2,rfl,hp2⟩
  |false=>
   have hF:BP s b=(s,200):=by unfold BP;rw[hi,if_neg (by decide),hf,if_neg (by decide)]
   rw[hF]
   have hc:=h1 hw
   rw[hf,if_neg (by decide),if_neg (by decide)] at hc
   refine BS rfl hc ?_
   clear hi hf
   (refine AU rfl<|Ao rfl rfl<|Ao rfl rfl<|Ao rfl rfl<|Ab rfl<|Ab rfl<|Ae rfl<|Aa<|Af<|Ad<|Ae rfl<|Bx rfl<|Aa<|Bj rfl<|Ad<|Ab rfl<|Aa<|An ?_)
   exact BO rfl (Adb _) ⟨Le.refl _,rfl,L,rfl,hp⟩
def N3(a0:Nat):A5:=⟨44,[(.tmp 4),(.tmp 5)],(sR (o1 4 (.mv nS)<|o1 5 (.mv z0) .done) (.seq (sR (om 9 1<|oL 10 9<|ob 11 .leq 10 (kZ 15) .done) (.cond 11 (sR (o1 12 (.bsl 1 1 [(.int .u8 0)] [(0,(.const (.int .u8 0)))])<|om 13 1<|o1 14 (.app 1 1 [(.int .u8 0)] 12 13)<|om 4 14<|o1 5 (.mv z0) .done) .ret) .skip)) (sR (om 16 0<|o1 17 (.nilc 16)<|oj 18 0 17<|ol 19 18<|om 20 1<|oc 21 a0 [19,20]<|om 15 21<|oe 22 15 0<|oe 23 15 1<|om 6 22<|om 7 23 .done) (sR (om 24 1<|oL 25 24<|om 8 25 .done) (sR (om 26 6<|ob 27 .shr 26 (.const (.int .u64 8))<|o1 28 (.cvi .u8 27)<|om 29 6<|o1 30 (.cvi .u8 29)<|om 31 8<|ob 32 .shr 31 (.const (.int .u64 24))<|o1 33 (.cvi .u8 32)<|om 34 8<|ob 35 .shr 34 (.const (.int .u64 16))<|o1 36 (.cvi .u8 35)<|om 37 8<|ob 38 .shr 37 (.const (.int .u64 8))<|o1 39 (.cvi .u8 38)<|om 40 8<|o1 41 (.cvi .u8 40)<|o1 42 (.bsl 7 1 [(.int .u8 0)] [(0,(.const (.int .u8 1))),(1,28),(2,30),(3,33),(4,36),(5,39),(6,41)])<|om 43 7<|om 4 42<|om 5 43 .done) .ret)))))⟩
def ZJ{s}(hG:Pgr.Good s){b}:0≤(Cd s b).2.1∧(Cd s b).2.1≤16384:=by
 obtain⟨h1, -⟩:=Kl (n:=AQ b.length) (Tk.nil s);unfold Cd;by_cases hz:(BY s [] (AQ b.length)).2.2=0
 ·have ht:Chn.BC s (AQ b.length)=BY s [] (AQ b.length):=by unfold Chn.BC;rw[if_pos hz]
  rw[ht];simp only[hz,if_true];generalize (BY s [] (AQ b.length)).2.1=l at h1;cases l with
  |nil=>show 0≤(0:Int)∧(0:Int)≤16384;decide
  |cons k l=>
   obtain⟨j,j1,j2, -⟩:=h1.was k (Ado ..)
   have:=hG.inn
   have:=hG.syn
   show 0≤k∧k≤16384
   omega
 ·have ht:(Chn.BC s (AQ b.length)).2.2≠0:=by unfold Chn.BC;rw[if_neg hz];exact hz
  simp only[ht,if_false];show 0≤(0:Int)∧(0:Int)≤16384;decide
def H4(P:Program)(f:FuncId):Prop:=∀{d s dv pv L}{bt:Nat}{Tt}{r h c k:Int}{cs}{n:Az},PgT d s dv pv L→CG d cs n→AY n≤1000000000000→
 Av P f [pZ bt,vZ k,.agg cs.toArray] d (tb bt Tt pv r h c::L) (Ret fun v d' L'=>Le d d'∧v=.tuple #[vZ (Br s k n).2.1,vZ (Br s k n).2.2]∧∃L2,L'=tb bt Tt pv r h c::L2∧PgT d' (Br s k n).1 dv pv L2)
def CG.four{d cs}{n:Az}(h:CG d cs n):∃ka kc va vc ia ic,cs=[.bool n.leaf,.slice ka n.keys.length kc,.slice va n.vals.length vc,.slice ia n.kids.length ic]:=by
 obtain⟨kv,vv,iv,rfl,a1,a2,a3⟩:=h;obtain⟨x1,x2,rfl⟩:=a1.val;obtain⟨y1,y2,rfl⟩:=a2.val;obtain⟨z1,z2,rfl⟩:=a3.val;exact⟨_,_,_,_,_,_,rfl⟩
def OX(a0 a1 a2 a3:Nat):A5:=⟨64,[(.tmp 6),(.tmp 7)],(sR (o1 5 (.box 2)<|o1 6 (.mv z0)<|o1 7 (.mv z0) .done) (sR (o1 14 (.ld (some 4) 5)<|oc 15 a0 [14]<|om 13 15<|oe 16 13 0<|oe 17 13 1<|om 8 16<|om 9 17 .done) (.seq (sR (om 18 9<|ob 19 .neq 18 z0 .done) (.cond 19 (sR (om 20 9<|o1 6 (.mv z0)<|om 7 20 .done) .ret) .skip)) (.seq (sR (om 21 1<|ob 22 .geq 21 z0 .done) (.cond 22 (sR (om 23 0<|o1 24 (.nilc 23)<|oj 25 0 24<|ol 26 25<|om 27 1<|om 28 8<|oc 29 a1 [26,27,28]<|om 10 29 .done) (sR (om 30 10<|ob 31 .neq 30 (kZ 240) .done) (.cond 31 (sR (om 32 1<|om 33 10<|om 6 32<|om 7 33 .done) .ret) .skip))) .skip)) (sR (om 35 0<|o1 36 (.nilc 35)<|oj 37 0 36<|ol 38 37<|oc 39 a2 [38]<|om 34 39<|oe 40 34 0<|oe 41 34 1<|om 11 40<|om 9 41 .done) (.seq (sR (om 42 9<|ob 43 .neq 42 z0 .done) (.cond 43 (sR (om 44 9<|o1 6 (.mv z0)<|om 7 44 .done) .ret) .skip)) (.seq (sR (om 45 1<|ob 46 .geq 45 z0 .done) (.cond 46 (sR (om 47 0<|o1 48 (.nilc 47)<|oj 49 0 48<|ol 50 49<|om 51 1<|oc 52 a3 [50,51]<|om 12 52 .done) (sR (om 53 12<|ob 54 .neq 53 z0 .done) (.cond 54 (sR (om 55 12<|o1 6 (.mv z0)<|om 7 55 .done) .ret) .skip))) .skip)) (sR (om 56 11<|om 57 0<|o1 58 (.nilc 57)<|oj 59 0 58<|ol 60 59<|om 61 11<|om 62 8<|oc 63 a1 [60,61,62]<|om 6 56<|om 7 63 .done) .ret))))))))⟩
set_option maxRecDepth 4000 in
def Zh{P f2 f3 f4}(hd:dec P f=some (OX f1 f2 f3 f4))(h1:My P f1)(h2:O8 P f2)(h3:Pgr.F8 P f3)(h4:Pgr.GZ P f4):H4 P f:=by
 intro d s dv pv L bt Tt r h c k cs n hp hn hz;obtain⟨bp,rfl⟩:=hp.ptr;have hn0:=hn;obtain⟨ka,kc,va,vc,ia,ic,rfl⟩:=CG.four hn;refine AF hd (Ada rfl) ?_;show gwp P _ _ _ _ _;apply Af;apply AB;refine Cx rfl (fun b5 T5=>?_);(refine Ab rfl<|Ab rfl<|Aa<|Ad<|Bh 0 rfl rfl rfl ?_);refine Bl rfl (Vd h1 hn0 hz) (fun v d2 L2 _ ⟨e0,u,g,e1,e2,hg⟩=>?_);subst e0;subst e1;subst e2;obtain⟨ua,uc,rfl⟩:=hg.val;cases hr:Bm n with
 |false=>
  have hF:Br s k n=(s,0,200):=by unfold Br;rw[hr,if_neg (by decide)]
  rw[hF]
  rw[hr,if_neg (by decide)] at hg
  rw[if_neg (by decide),if_neg (by decide)]
  clear hr hF
  (refine AU rfl<|Ao rfl rfl<|Ao rfl rfl<|Al rfl<|Ab rfl<|Aa<|Af<|Ad<|Ab rfl<|AN rfl rfl<|Aa<|Ax rfl (by omega)<|Ad<|Ab rfl<|Ab rfl<|Ab rfl<|Aa<|An ?_)
  exact CO (L':=tb bt Tt (pZ bp) r h c::L) rfl rfl (.cons _ (.cons _ (Adb _))) ⟨Le.refl _,rfl,L,rfl,hp⟩
 |true=>
  rw[hr,if_pos rfl] at hg
  rw[if_pos rfl,if_pos rfl]
  obtain⟨d3,hle,v1,hb⟩:∃d3,Le d2 d3∧Vs d2 [g] d3 []∧AM d3 (.slice ua (Cm n).length uc) (Cm n):=⟨join d2 g,Le.AG _ _,Vs.freeze,Ap.rsl (R:=AP) (sz:=1) hg A3 (by omega) (Le.AG _ _) (Le.Ba _ _)⟩
  have hp3:=hp.mono hle
  refine B9 _ _ (Vs.app v1 _) ?_
  have hP:Br s k n=if 0≤k∧(s.put k (Cm n)).2≠240 then((s.put k (Cm n)).1,k,(s.put k (Cm n)).2)
    else if s.AX.2.2≠0 then(s.AX.1,0,s.AX.2.2)
    else if 0≤k then
     if (s.AX.1.drop k).2≠0 then((s.AX.1.drop k).1,0,(s.AX.1.drop k).2)
     else(((s.AX.1.drop k).1.put s.AX.2.1 (Cm n)).1,s.AX.2.1,((s.AX.1.drop k).1.put s.AX.2.1 (Cm n)).2)
    else((s.AX.1.put s.AX.2.1 (Cm n)).1,s.AX.2.1,(s.AX.1.put s.AX.2.1 (Cm n)).2):=by unfold Br;rw[hr,if_pos rfl]
  clear hr
  generalize Cm n=pg at hb hP
  by_cases hk:0≤k
  ·(refine AU rfl<|Ao rfl rfl<|Ao rfl rfl<|Al rfl<|Ab rfl<|Aa<|Af<|Ad<|Ab rfl<|AN rfl rfl<|Aa<|Ar rfl (by omega)<|Ak<|Af<|Ad<|Ab rfl<|DV rfl rfl<|Aa<|Ax rfl (by omega)<|Ad<|Am rfl<|Au rfl<|Ai rfl<|Ag rfl (Aj 1 rfl rfl)<|Ab rfl<|Al rfl ?_)
   refine A7 [_,_] (Y8 h2 hp3 (k:=k) hb) rfl rfl (fun w d4 L4 hl4 ⟨e4,hp4⟩=>?_)
   subst e4
   by_cases he:(s.put k pg).2=240
   ·have hs4:(s.put k pg).1=s:=by
     unfold PD.put at he⊢;by_cases q1:s.kind k=1
     ·by_cases q2:pg.length=256
      ·simp only[if_pos q1,if_pos q2] at he;exact absurd he (by decide)
      ·simp only[if_pos q1,if_neg q2]
     ·simp only[if_neg q1]
    rw[hs4] at hp4
    rw[if_neg (fun q=>q.2 he)] at hP
    rw[he]
    have hb4:=RSl.mono (R:=AP) A3 hb hl4
    (refine Ab rfl<|Aa<|Ad<|Ab rfl<|AN rfl rfl<|Aa<|Ar rfl (by omega)<|Ak<|Ad<|Am rfl<|Au rfl<|Ai rfl<|Ag rfl (Aj 1 rfl rfl) ?_)
    refine A7 [_,_] (ZQ h3 hp4) rfl rfl (fun w d5 L5 hl5 ⟨e5,hp5⟩=>?_)
    subst e5
    have hb5:=RSl.mono (R:=AP) A3 hb4 hl5
    by_cases ht:s.AX.2.2=0
    ·rw[if_neg (fun q=>q ht),if_pos hk] at hP
     rw[ht]
     (refine AU rfl<|Ao rfl rfl<|Ao rfl rfl<|Ab rfl<|Ab rfl<|Aa<|Af<|Ad<|Ab rfl<|AN rfl rfl<|Aa<|Ar rfl (by omega)<|Ak<|Af<|Ad<|Ab rfl<|DV rfl rfl<|Aa<|Ax rfl (by omega)<|Ad<|Am rfl<|Au rfl<|Ai rfl<|Ag rfl (Aj 1 rfl rfl)<|Ab rfl ?_)
     refine A7 [_,_] (Vt h4 hp5 (k:=k)) rfl rfl (fun w d6 L6 hl6 ⟨e6,hp6⟩=>?_)
     subst e6
     by_cases hd6:(s.AX.1.drop k).2=0
     ·rw[if_neg (fun q=>q hd6)] at hP
      rw[hd6,hP]
      have hb6:=RSl.mono (R:=AP) A3 hb5 hl6
      (refine Ab rfl<|Aa<|Ad<|Ab rfl<|AN rfl rfl<|Aa<|Ar rfl (by omega)<|Ak<|Ad<|Ab rfl<|Am rfl<|Au rfl<|Ai rfl<|Ag rfl (Aj 1 rfl rfl)<|Ab rfl<|Al rfl ?_)
      refine A7 [_,_] (Y8 h2 hp6 (k:=s.AX.2.1) hb6) rfl rfl (fun w d7 L7 hl7 ⟨e7,hp7⟩=>?_)
      subst e7
      (refine Ab rfl<|Ab rfl<|Aa<|An ?_)
      exact CO (L':=tb bt Tt (pZ bp) r h c::L7) rfl rfl (.cons _ (Adb _)) ⟨(hle.trans hl4).trans ((hl5.trans hl6).trans hl7),rfl,L7,rfl,hp7⟩
     ·rw[if_pos hd6] at hP
      rw[hP]
      (refine Ab rfl<|Aa<|Ad<|Ab rfl<|AN rfl rfl<|Aa<|Ax rfl (by omega)<|Ad<|Ab rfl<|Ab rfl<|Ab rfl<|Aa<|An ?_)
      exact CO (L':=tb bt Tt (pZ bp) r h c::L6) rfl rfl (.cons _ (Adb _)) ⟨(hle.trans hl4).trans (hl5.trans hl6),rfl,L6,rfl,hp6⟩
    ·rw[if_pos ht] at hP
     rw[hP]
     (refine AU rfl<|Ao rfl rfl<|Ao rfl rfl<|Ab rfl<|Ab rfl<|Aa<|Af<|Ad<|Ab rfl<|AN rfl rfl<|Aa<|Ax rfl (by omega)<|Ad<|Ab rfl<|Ab rfl<|Ab rfl<|Aa<|An ?_)
     exact CO (L':=tb bt Tt (pZ bp) r h c::L5) rfl rfl (.cons _ (Adb _)) ⟨(hle.trans hl4).trans hl5,rfl,L5,rfl,hp5⟩
   ·rw[if_pos ⟨hk,he⟩] at hP
    rw[hP]
    (refine Ab rfl<|Aa<|Ad<|Ab rfl<|AN rfl rfl<|Aa<|Ax rfl (by omega)<|Ad<|Ab rfl<|Ab rfl<|Ab rfl<|Ab rfl<|Aa<|An ?_)
    exact CO (L':=tb bt Tt (pZ bp) r h c::L4) rfl rfl (.cons _ (Adb _)) ⟨hle.trans hl4,rfl,L4,rfl,hp4⟩
  ·rw[if_neg (fun q=>hk q.1)] at hP
   (refine AU rfl<|Ao rfl rfl<|Ao rfl rfl<|Al rfl<|Ab rfl<|Aa<|Af<|Ad<|Ab rfl<|AN rfl rfl<|Aa<|Ar rfl (by omega)<|Ak<|Af<|Ad<|Ab rfl<|DV rfl rfl<|Aa<|Ar rfl (by omega)<|Ak<|Ad<|Am rfl<|Au rfl<|Ai rfl<|Ag rfl (Aj 1 rfl rfl) ?_)
   refine A7 [_,_] (ZQ h3 hp3) rfl rfl (fun w d5 L5 hl5 ⟨e5,hp5⟩=>?_)
   subst e5
   have hb5:=RSl.mono (R:=AP) A3 hb hl5
   by_cases ht:s.AX.2.2=0
   ·rw[if_neg (fun q=>q ht),if_neg hk] at hP
    rw[ht,hP]
    (refine AU rfl<|Ao rfl rfl<|Ao rfl rfl<|Ab rfl<|Ab rfl<|Aa<|Af<|Ad<|Ab rfl<|AN rfl rfl<|Aa<|Ar rfl (by omega)<|Ak<|Af<|Ad<|Ab rfl<|DV rfl rfl<|Aa<|Ar rfl (by omega)<|Ak<|Ad<|Ab rfl<|Am rfl<|Au rfl<|Ai rfl<|Ag rfl (Aj 1 rfl rfl)<|Ab rfl<|Al rfl ?_)
    refine A7 [_,_] (Y8 h2 hp5 (k:=s.AX.2.1) hb5) rfl rfl (fun w d7 L7 hl7 ⟨e7,hp7⟩=>?_)
    subst e7
    (refine Ab rfl<|Ab rfl<|Aa<|An ?_)
    exact CO (L':=tb bt Tt (pZ bp) r h c::L7) rfl rfl (.cons _ (Adb _)) ⟨(hle.trans hl5).trans hl7,rfl,L7,rfl,hp7⟩
   ·rw[if_pos ht] at hP
    rw[hP]
    (refine AU rfl<|Ao rfl rfl<|Ao rfl rfl<|Ab rfl<|Ab rfl<|Aa<|Af<|Ad<|Ab rfl<|AN rfl rfl<|Aa<|Ax rfl (by omega)<|Ad<|Ab rfl<|Ab rfl<|Ab rfl<|Aa<|An ?_)
    exact CO (L':=tb bt Tt (pZ bp) r h c::L5) rfl rfl (.cons _ (Adb _)) ⟨hle.trans hl5,rfl,L5,rfl,hp5⟩
end Go.Gk.Tre
end
section
namespace Go.Gk.Tre
open Go Go.Gk Go.Gk.Node
def Uc{n:Az}(h:AY n≤1000000000000):AY (AZ n)≤1000000000000∧AY (Bc n)≤1000000000000:=by
 by_cases hc:Dj n=true
 ·have hc':=hc;simp only[Dj,Adc,decide_eq_true_eq] at hc';obtain⟨hs,hm⟩:=hc';simp only[A0,Adc] at hs;obtain⟨hks,hrest⟩:=hs;obtain⟨ha1, -, -⟩:=N4 n;cases hlf:n.leaf with
  |true=>
   simp only[hlf,if_true] at hm hrest
   have eL:AZ n=⟨true,n.keys.take (atD n),n.vals.take (atD n),[]⟩:=by simp[AZ,hc,hlf]
   have eR:Bc n=⟨true,n.keys.drop (atD n),n.vals.drop (atD n),[]⟩:=by simp[Bc,hc,hlf]
   have hall:AY n=2+Bo n n.keys.length:=by simp[AY,hlf]
   have hcl:Bo (AZ n) (AZ n).keys.length=Bo n (atD n):=by
    rw[eL];simp only[Adz,Ahn (show atD n≤n.keys.length by omega)];exact Ht n _ hlf.symm (a:=atD n) (fun j hj=>by simp only[Dq,getD_take hj]) (fun _ j hj=>by simp only[Fg,getD_take hj]) _ (Adi _)
   have hcr:Bo (Bc n) (Bc n).keys.length+Bo n (atD n)=Bo n n.keys.length:=by
    rw[eR];simp only[Adr];have:=HB n ⟨true,n.keys.drop (atD n),n.vals.drop (atD n),[]⟩ hlf.symm (a:=atD n) (fun j=>by simp only[Dq,Gw]) (fun _ j=>by simp only[Fg,Gw]) (n.keys.length - atD n);rw[this];congr 1;omega
   have hmo:=GC n (show atD n≤n.keys.length by omega)
   have sL:AY (AZ n)=2+Bo (AZ n) (AZ n).keys.length:=by rw[eL];simp[AY]
   have sR:AY (Bc n)=2+Bo (Bc n) (Bc n).keys.length:=by rw[eR];simp[AY]
   omega
  |false=>
   simp only[hlf,Adk,if_false] at hm hrest
   simp only[Adc,decide_eq_true_eq] at hrest
   obtain⟨⟨hvl,hil⟩,hia⟩:=hrest
   have ha4:at2 n≤n.keys.length - 1:=by simp only[at2];omega
   have ha5:2≤at2 n:=by simp only[at2];omega
   have eL:AZ n=⟨false,n.keys.take (at2 n - 1),[],n.kids.take (at2 n)⟩:=by simp[AZ,hc,hlf]
   have eR:Bc n=⟨false,n.keys.drop (at2 n),[],n.kids.drop (at2 n)⟩:=by simp[Bc,hc,hlf]
   have hall:AY n=2+2*(n.keys.length+1)+Bo n n.keys.length:=by simp only[AY,hlf,Adk,if_false,hil]
   have hcl:Bo (AZ n) (AZ n).keys.length=Bo n (at2 n - 1):=by
    rw[eL];simp only[Adz,Ahn (show at2 n - 1≤n.keys.length by omega)];exact Ht n _ hlf.symm (a:=at2 n - 1) (fun j hj=>by simp only[Dq,getD_take hj]) (fun h=>by rw[hlf] at h;cases h) _ (Adi _)
   have hcr:Bo (Bc n) (Bc n).keys.length+Bo n (at2 n)=Bo n n.keys.length:=by
    rw[eR];simp only[Adr];have:=HB n ⟨false,n.keys.drop (at2 n),[],n.kids.drop (at2 n)⟩ hlf.symm (a:=at2 n) (fun j=>by simp only[Dq,Gw]) (fun h=>by rw[hlf] at h;cases h) (n.keys.length - at2 n);rw[this];congr 1;omega
   have hmo:=GC n (show at2 n - 1≤n.keys.length by omega)
   have sL:AY (AZ n)=2+2*(n.kids.take (at2 n)).length+Bo (AZ n) (AZ n).keys.length:=by rw[eL];simp[AY]
   have sR:AY (Bc n)=2+2*(n.kids.drop (at2 n)).length+Bo (Bc n) (Bc n).keys.length:=by rw[eR];simp[AY]
   rw[Adz] at sL
   rw[Adr] at sR
   omega
 ·have eL:AZ n=⟨false,[],[],[]⟩:=by simp[AZ,hc]
  have eR:Bc n=⟨false,[],[],[]⟩:=by simp[Bc,hc]
  rw[eL,eR];decide
end Go.Gk.Tre
end
section
namespace Go.Gk.Tre
open Go Go.Gk Go.Gk.Dev Go.Gk.Cch Go.Gk.Pgr Go.Gk.Chn Go.Gk.Node
attribute [local irreducible] gwp gws xwp
def H3(P:Program)(f:FuncId):Prop:=∀{d s dv pv L}{bt:Nat}{Tt}{r h c k:Int}{cs}{n:Az},PgT d s dv pv L→CG d cs n→Small n→
 Av P f [pZ bt,vZ k,.agg cs.toArray] d (tb bt Tt pv r h c::L) (Ret fun v d' L'=>Le d d'∧∃ua uc L2,v=.tuple #[.agg [vZ (AW s k n).2.1.page,vZ (AW s k n).2.1.other,.slice ua (AW s k n).2.1.key.length uc,vZ (AW s k n).2.1.size].toArray,vZ (AW s k n).2.2]∧
  AM d' (.slice ua (AW s k n).2.1.key.length uc) (AW s k n).2.1.key∧L'=tb bt Tt pv r h c::L2∧PgT d' (AW s k n).1 dv pv L2)
def NK(a0 a1 a2 a3:Nat):A5:=⟨63,[(.cell 6 (some 4)),(.tmp 7)],(sR (o1 5 (.box 2)<|o1 6 (.alo (.agg #[(vZ 0),(vZ 0),(.slice none 0 0),(vZ 0)]))<|o1 7 (.mv z0) .done) (.seq (sR (o1 16 (.ld (some 4) 5)<|oc 17 a0 [16] .done) (.cond 17 (sR (om 19 0<|om 20 1<|o1 21 (.ld (some 4) 5)<|oc 22 a1 [19,20,21]<|om 18 22<|oe 23 18 0<|oe 24 18 1<|om 8 23<|om 9 24 .done) (sR (om 25 8<|o1 26 (.ld (some 4) 5)<|oc 27 a2 [26]<|o1 28 (.bld [(0,1),(1,1),(2,1),(3,1)] [(vZ 0),(vZ 0),(.slice none 0 0),(vZ 0)] [(0,25),(1,(kZ (-1))),(3,27)])<|om 29 9<|o0 (.st 4 6 28)<|om 7 29 .done) .ret)) .skip)) (sR (o1 31 (.ld (some 4) 5)<|oc 32 a3 [31]<|om 30 32<|oe 33 30 0<|oe 34 30 1<|oe 35 30 2<|oe 36 30 3<|o1 10 (.alo (.agg #[(.bool false),(.slice none 0 0),(.slice none 0 0),(.slice none 0 0)]))<|o1 11 (.alo (.agg #[(.bool false),(.slice none 0 0),(.slice none 0 0),(.slice none 0 0)]))<|o0 (.st 4 10 33)<|o0 (.st 4 11 34)<|om 12 35<|om 13 36 .done) (.seq (sR (om 37 13<|ob 38 .neq 37 z0 .done) (.cond 38 (sR (o1 39 (.bld [(0,1),(1,1),(2,1),(3,1)] [(vZ 0),(vZ 0),(.slice none 0 0),(vZ 0)] [])<|om 40 13<|o0 (.st 4 6 39)<|om 7 40 .done) .ret) .skip)) (sR (om 42 0<|om 43 1<|o1 44 (.ld (some 4) 10)<|oc 45 a1 [42,43,44]<|om 41 45<|oe 46 41 0<|oe 47 41 1<|om 14 46<|om 13 47 .done) (.seq (sR (om 48 13<|ob 49 .neq 48 z0 .done) (.cond 49 (sR (o1 50 (.bld [(0,1),(1,1),(2,1),(3,1)] [(vZ 0),(vZ 0),(.slice none 0 0),(vZ 0)] [])<|om 51 13<|o0 (.st 4 6 50)<|om 7 51 .done) .ret) .skip)) (sR (om 53 0<|o1 54 (.ld (some 4) 11)<|oc 55 a1 [53,(kZ (-1)),54]<|om 52 55<|oe 56 52 0<|oe 57 52 1<|om 15 56<|om 13 57 .done) (sR (om 58 14<|om 59 15<|om 60 12<|o1 61 (.bld [(0,1),(1,1),(2,1),(3,1)] [(vZ 0),(vZ 0),(.slice none 0 0),(vZ 0)] [(0,58),(1,59),(2,60),(3,(kZ 256))])<|om 62 13<|o0 (.st 4 6 61)<|om 7 62 .done) .ret))))))))⟩
set_option maxRecDepth 4000 in
set_option maxHeartbeats 2000000 in
def YC{P f f1 f2 f3 f4}(hd:dec P f=some (NK f1 f2 f3 f4))(h1:Jo P f1)(h2:H4 P f2)(h3:LY P f3)(h4:Qs P f4):H3 P f:=by
 intro d s dv pv L bt Tt r h c k cs n hp hn hz;have hn0:=hn;obtain⟨ka,kc,va,vc,ia,ic,rfl⟩:=CG.four hn;refine AF hd (Ada rfl) ?_;show gwp P _ _ _ _ _;apply Af;apply AB;refine Cx rfl (fun b5 T5=>?_);refine B0 (fun b6 T6=>?_);(refine Ab rfl<|Aa<|Af<|Ad<|Bh 1 rfl rfl rfl ?_);have hrt:=h1 hn0 hz.1;cases hr:Bm n with
 |true=>
  rw[hr] at hrt
  have hF:AW s k n=((Br s k n).1,⟨(Br s k n).2.1, -1,[],AY n⟩,(Br s k n).2.2):=by unfold AW;rw[hr,if_pos rfl]
  rw[hF]
  clear hr
  refine BS rfl hrt ?_
  (refine Aa<|Bj rfl<|Ad<|Am rfl<|Ab rfl<|Bh 1 rfl rfl rfl ?_)
  refine A7 [_,_] (h2 (k:=k) hp hn0 hz.1) rfl rfl (fun v d2 L2 hl ⟨_,e1,L3,e2,hp2⟩=>?_)
  subst e1;subst e2
  (refine AU rfl<|Ao rfl rfl<|Ao rfl rfl<|Ab rfl<|Ab rfl<|Aa<|Ad<|Ab rfl<|Bh 1 rfl rfl rfl ?_)
  refine BS rfl (h3 (hn0.mono hl) hz.1) ?_
  (refine BR rfl<|Ab rfl ?_)
  refine Bn 0 rfl rfl rfl rfl (Adi _) rfl ?_
  (refine Ab rfl<|Aa<|An ?_)
  exact Bd [.agg [vZ (Br s k n).2.1,vZ (-1),.slice none 0 0,vZ (AY n:Nat)].toArray,vZ (Br s k n).2.2] ⟨AV 0 rfl rfl rfl,As rfl,trivial⟩ (d':=d2) (L':=tb bt Tt pv r h c::L3) (Vs.drop (.cons _ (.cons _ (Adb _)))) ⟨hl,none,0,L3,rfl,RSl.nil,rfl,hp2⟩
 |false=>
  rw[hr] at hrt
  have hF:AW s k n=if Dj n then if (Br s k (AZ n)).2.2=0 then((Br (Br s k (AZ n)).1 (-1) (Bc n)).1,⟨(Br s k (AZ n)).2.1,(Br (Br s k (AZ n)).1 (-1) (Bc n)).2.1,BD n,256⟩,(Br (Br s k (AZ n)).1 (-1) (Bc n)).2.2)
    else((Br s k (AZ n)).1,Co,(Br s k (AZ n)).2.2) else(s,Co,200):=by unfold AW;rw[hr,if_neg (by decide)]
  rw[hF]
  clear hr
  refine BS rfl hrt ?_
  (refine Aa<|AS rfl<|Ak<|Ad<|Bh 1 rfl rfl rfl ?_)
  refine Bl rfl (h4 hn0 hz) (fun v d2 L2 _ ⟨e0,ca,cb,kv,La,Lb,g,e1,e2,oa,ob,og⟩=>?_)
  subst e0;subst e1;subst e2
  obtain⟨ga,gc,rfl⟩:=og.val
  obtain⟨d3,v1,hl3,hf⟩:=Vs.IG d2 (La++Lb++[g])
  have na:=DT.IT oa hl3 (fun h hm=>hf h (by simp[hm]))
  have nb:=DT.IT ob hl3 (fun h hm=>hf h (by simp[hm]))
  have hkey:AM d3 (.slice ga (BD n).length gc) (BD n):=Ap.rsl (R:=AP) (sz:=1) og A3 (by omega) hl3 (hf g (by simp))
  have hp3:=hp.mono hl3
  refine B9 _ _ (Vs.app v1 _) ?_
  obtain⟨xa,xc,ya,yc,za,zc,rfl⟩:=CG.four na
  obtain⟨xa',xc',ya',yc',za',zc',rfl⟩:=CG.four nb
  by_cases hcb:Dj n=true
  ·have hcb2:(if Dj n=true then(0:Int) else 200)=0:=if_pos hcb
   rw[if_pos hcb]
   obtain⟨zs1,zs2⟩:=Uc hz.1
   rw[hcb2]
   clear hcb hcb2 hF
   (refine AU rfl<|Ao rfl rfl<|Ao rfl rfl<|Ao rfl rfl<|Ao rfl rfl<|B0 (fun _ _=>B0 (fun _ _=>?_)))
   rename_i b11 T11
   refine Bn 1 rfl rfl rfl rfl (Adi _) rfl ?_
   refine Bn 0 rfl rfl rfl rfl (Adi _) rfl ?_
   (refine Al rfl<|Ab rfl<|Aa<|Af<|Ad<|Ab rfl<|AN rfl rfl<|Aa<|Ar rfl (by omega)<|Ak<|Ad<|Am rfl<|Ab rfl<|Bh 1 rfl rfl rfl ?_)
   refine A7 [_,_,_,_] (h2 (k:=k) hp3 na zs1) rfl rfl (fun v d4 L4 hl4 ⟨_,e4,L5,e5,hp5⟩=>?_)
   subst e4;subst e5
   by_cases hz4:(Br s k (AZ n)).2.2=0
   ·rw[if_pos hz4]
    rw[hz4]
    (refine AU rfl<|Ao rfl rfl<|Ao rfl rfl<|Ab rfl<|Ab rfl<|Aa<|Af<|Ad<|Ab rfl<|AN rfl rfl<|Aa<|Ar rfl (by omega)<|Ak<|Ad<|Am rfl<|Bh 0 rfl rfl rfl ?_)
    refine A7 [_,_,_,_] (h2 (k:= -1) hp5 (nb.mono hl4) zs2) rfl rfl (fun v d6 L6 hl6 ⟨_,e6,L7,e7,hp7⟩=>?_)
    subst e6;subst e7
    (refine AU rfl<|Ao rfl rfl<|Ao rfl rfl<|Ab rfl<|Ab rfl<|Aa<|Ad<|Ab rfl<|Ab rfl<|Al rfl<|BR rfl<|Ab rfl ?_)
    refine Bn 2 rfl rfl rfl rfl (Adi _) rfl ?_
    (refine Ab rfl<|Aa<|An ?_)
    exact Bd [.agg [vZ (Br s k (AZ n)).2.1,vZ (Br (Br s k (AZ n)).1 (-1) (Bc n)).2.1,.slice ga (BD n).length gc,vZ 256].toArray,vZ (Br (Br s k (AZ n)).1 (-1) (Bc n)).2.2] ⟨AV 2 rfl rfl rfl,As rfl,trivial⟩ (d':=d6) (L':=tb bt Tt pv r h c::L7) (Vs.drop (.cons _ (.cons _ (.cons _ (.cons _ (Adb _)))))) ⟨hl3.trans (hl4.trans hl6),ga,gc,L7,rfl,RSl.mono (R:=AP) A3 hkey (hl4.trans hl6),rfl,hp7⟩
   ·rw[if_neg hz4]
    (refine AU rfl<|Ao rfl rfl<|Ao rfl rfl<|Ab rfl<|Ab rfl<|Aa<|Af<|Ad<|Ab rfl<|AN rfl rfl<|Aa<|Ax rfl (by omega)<|Ad<|BR rfl<|Ab rfl ?_)
    refine Bn 2 rfl rfl rfl rfl (Adi _) rfl ?_
    (refine Ab rfl<|Aa<|An ?_)
    exact Bd [.agg [vZ 0,vZ 0,.slice none 0 0,vZ 0].toArray,vZ (Br s k (AZ n)).2.2] ⟨AV 2 rfl rfl rfl,As rfl,trivial⟩ (d':=d4) (L':=tb bt Tt pv r h c::L5) (Vs.drop (.cons _ (.cons _ (.cons _ (.cons _ (Adb _)))))) ⟨hl3.trans hl4,none,0,L5,rfl,RSl.nil,rfl,hp5⟩
  ·have hcb2:(if Dj n=true then(0:Int) else 200)=200:=if_neg hcb
   rw[if_neg hcb]
   rw[hcb2]
   clear hcb hcb2 hF
   (refine AU rfl<|Ao rfl rfl<|Ao rfl rfl<|Ao rfl rfl<|Ao rfl rfl<|B0 (fun _ _=>B0 (fun _ _=>?_)))
   rename_i b11 T11
   refine Bn 1 rfl rfl rfl rfl (Adi _) rfl ?_
   refine Bn 0 rfl rfl rfl rfl (Adi _) rfl ?_
   (refine Al rfl<|Ab rfl<|Aa<|Af<|Ad<|Ab rfl<|AN rfl rfl<|Aa<|Ax rfl (by omega)<|Ad<|BR rfl<|Ab rfl ?_)
   refine Bn 2 rfl rfl rfl rfl (Adi _) rfl ?_
   (refine Ab rfl<|Aa<|An ?_)
   exact Bd [.agg [vZ 0,vZ 0,.slice none 0 0,vZ 0].toArray,vZ 200] ⟨AV 2 rfl rfl rfl,As rfl,trivial⟩ (d':=d3) (L':=tb bt Tt pv r h c::L) (Vs.drop (.cons _ (.cons _ (.cons _ (.cons _ (Adb _)))))) ⟨hl3,none,0,L,rfl,RSl.nil,rfl,hp3⟩
abbrev tbD(bt:Nat)(Tt:TypeId)(pv:Value)(t:TD):Ac:=tb bt Tt pv t.root t.height t.count
structure MOk (m:MdD):Prop where
 p0: -1≤m.page
 p1:m.page≤16384
 o0: -1≤m.other
 o1:m.other≤16384
 k:m.key.length≤1000
abbrev mdV(m:MdD)(ua:Option Addr)(uc:Nat):Value:=.agg [.int .i64 m.page,.int .i64 m.other,.slice ua m.key.length uc,.int .i64 m.size].toArray
def Jr(P:Program)(f:FuncId):Prop:=∀{d}{t:TD}{m:MdD}{dv pv L}{bt:Nat}{Tt ua}{uc:Nat},PgT d t.s dv pv L→AM d (.slice ua m.key.length uc) m.key→MOk m→t.height≤1000000→
 Av P f [pZ bt,mdV m ua uc] d (tbD bt Tt pv t::L) (Ret fun v d' L'=>Le d d'∧v=vZ (CP t m).2∧∃L2,L'=tbD bt Tt pv (CP t m).1::L2∧PgT d' (CP t m).1.s dv pv L2)
def N5(a0:Nat):A5:=⟨41,[(.tmp 4)],(sR (o1 3 (.box 1)<|o1 4 (.mv z0) .done) (sR (om 7 0<|oj 8 0 3<|ol 9 8<|o1 10 (.nilc 7)<|oj 11 1 10<|o0 (.st 1 11 9) .done) (.seq (sR (oj 12 1 3<|ol 13 12<|ob 14 .lss 13 z0 .done) (.cond 14 (sR (o1 4 (.mv z0) .done) .ret) .skip)) (sR (om 16 0<|oj 17 2 3<|ol 18 17<|o1 19 (.bsl 1 1 [(.slice none 0 0)] [(0,18)])<|oj 20 0 3<|ol 21 20<|oj 22 1 3<|ol 23 22<|o1 24 (.bsl 2 1 [(vZ 0)] [(0,21),(1,23)])<|o1 25 (.bld [(0,1),(1,1),(2,1),(3,1)] [(.bool false),(.slice none 0 0),(.slice none 0 0),(.slice none 0 0)] [(1,19),(3,24)])<|oc 26 a0 [16,(kZ (-1)),25]<|om 15 26<|oe 27 15 0<|oe 28 15 1<|om 5 27<|om 6 28 .done) (sR (om 29 0<|om 30 5<|o1 31 (.nilc 29)<|oj 32 1 31<|o0 (.st 1 32 30) .done) (sR (om 33 0<|o1 34 (.nilc 33)<|oj 35 2 34<|ol 36 35<|ob 37 .add 36 z1<|o1 38 (.nilc 33)<|oj 39 2 38<|o0 (.st 1 39 37) .done) (sR (om 40 6<|om 4 40 .done) .ret)))))))⟩
set_option maxRecDepth 4000 in
def Zv{P f f1}(hd:dec P f=some (N5 f1))(h1:H4 P f1):Jr P f:=by
 intro d t m dv pv L bt Tt ua uc hp hk hm hh;obtain⟨s,root,height,count⟩:=t;simp only at hp hh;refine AF hd (Ada rfl) ?_;show gwp P _ _ _ _ _;apply Af;apply AB;refine Cx rfl (fun b3 T3=>?_);(refine Ab rfl<|Aa<|Ad<|Am rfl<|Ai rfl<|Ag rfl (Aj 0 rfl rfl)<|Au rfl<|Ai rfl ?_);refine A6 1 [pv,vZ m.page,vZ height,vZ count] rfl rfl rfl rfl (Ada rfl) rfl rfl ?_;by_cases ho:m.other<0
 ·have hF:CP ⟨s,root,height,count⟩ m=(⟨s,m.page,height,count⟩,0):=by unfold CP;rw[if_pos ho]
  rw[hF];(refine Aa<|Af<|Ad<|Ai rfl<|Ag rfl (Aj 0 rfl rfl)<|AE rfl rfl<|Aa<|Ax rfl (by omega)<|Ad<|Ab rfl<|Aa<|An ?_);exact BO (L':=tbD bt Tt pv ⟨s,m.page,height,count⟩::L) rfl (.cons _ (Adb _)) ⟨Le.refl _,rfl,L,rfl,hp⟩
 ·have hF:CP ⟨s,root,height,count⟩ m=(⟨(Br s (-1) ⟨false,[m.key],[],[m.page,m.other]⟩).1,(Br s (-1) ⟨false,[m.key],[],[m.page,m.other]⟩).2.1,height+1,count⟩,(Br s (-1) ⟨false,[m.key],[],[m.page,m.other]⟩).2.2):=by unfold CP;rw[if_neg ho]
  rw[hF];have hm1:=hm.p0;have hm2:=hm.p1;have hm3:=hm.o0;have hm4:=hm.o1;have hm5:=hm.k;(refine Aa<|Af<|Ad<|Ai rfl<|Ag rfl (Aj 0 rfl rfl)<|AE rfl rfl<|Aa<|Ar rfl (by omega)<|Ak<|Ad<|Am rfl<|Ai rfl<|Ag rfl (Aj 0 rfl rfl) ?_);refine D5 (v0:=.slice ua m.key.length uc) rfl rfl (fun b19 T19=>?_);(refine Ai rfl<|Ag rfl (Aj 1 rfl rfl)<|Ai rfl<|Ag rfl (Aj 1 rfl rfl) ?_);refine AcN (v0:=vZ m.page) (v1:=vZ m.other) rfl rfl rfl rfl (fun b24 T24=>?_);(apply BR;rfl);obtain⟨d2,hle,v1,l1,l2⟩:∃d2,Le d d2∧Vs d (bx b24 T24 [vZ m.page,vZ m.other]::bx b19 T19 [.slice ua m.key.length uc]::[]) d2 []∧Le (bx b24 T24 [vZ m.page,vZ m.other]) d2∧Le (bx b19 T19 [.slice ua m.key.length uc]) d2:=
   ⟨join (join d (bx b24 T24 [vZ m.page,vZ m.other])) (bx b19 T19 [.slice ua m.key.length uc]),(Le.AG _ _).trans (Le.AG _ _),Vs.freeze.trans Vs.freeze,(Le.Ba _ _).trans (Le.AG _ _),Le.Ba _ _⟩
  have hn:CG d2 [.bool false,.slice (some ⟨b19,0,none⟩) 1 1,.slice none 0 0,.slice (some ⟨b24,0,none⟩) 2 2] ⟨false,[m.key],[],[m.page,m.other]⟩:=by
   refine⟨_,_,_,rfl,Ap.rsl (R:=RBs) (sz:=1) (d:=d) (Ap.Ep (x:=m.key) rfl ⟨_,rfl,hk⟩) Fa (by omega) hle l2,RSl.nil,Ap.rsl (R:=Bb) (sz:=1) (d:=d) (Ap.Ac3 (l:=[m.page,m.other]) (n:=2) rfl (fun x hx=>?_) rfl (Ada rfl)) B2 (by omega) hle l1⟩
   simp only[Adu,List.not_mem_nil,or_false] at hx;rcases hx with rfl|rfl<;>omega
  refine B9 _ _ (Vs.app v1 _) ?_;refine A7 [_] (h1 (k:= -1) (hp.mono hle) hn (by simp[AY,Bo,D8,Dq];omega)) rfl rfl (fun v d4 L4 hl4 ⟨_,e4,L5,e5,hp5⟩=>?_);subst e4;subst e5;(refine AU rfl<|Ao rfl rfl<|Ao rfl rfl<|Ab rfl<|Ab rfl<|Aa<|Ad<|Am rfl<|Ab rfl<|Au rfl<|Ai rfl ?_);refine A6 1 [pv,vZ (Br s (-1) ⟨false,[m.key],[],[m.page,m.other]⟩).2.1,vZ height,vZ count] rfl rfl rfl rfl (Ada rfl) rfl rfl ?_;(refine Aa<|Ad<|Am rfl<|Au rfl<|Ai rfl<|Ag rfl (Aj 1 rfl rfl)<|AL rfl rfl (by omega) (by omega)<|Au rfl<|Ai rfl ?_);refine A6 1 [pv,vZ (Br s (-1) ⟨false,[m.key],[],[m.page,m.other]⟩).2.1,vZ ((height:Int)+1),vZ count] rfl rfl rfl rfl (Ada rfl) rfl rfl ?_;(refine Aa<|Ad<|Ab rfl<|Ab rfl<|Aa<|An ?_);exact BO (L':=tbD bt Tt pv ⟨_,(Br s (-1) ⟨false,[m.key],[],[m.page,m.other]⟩).2.1,height+1,count⟩::L5) rfl (.cons _ (Adb _)) ⟨hle.trans hl4,rfl,L5,rfl,hp5⟩
def Qa(P:Program)(f:FuncId):Prop:=∀{d}{b:Bool},C2 P f [.bool b] d (vZ (if b then 1 else 0))
def RV:A5:=⟨4,[(.tmp 2)],(sR (o1 2 (.mv z0) .done) (.seq (sR (om 3 0 .done) (.cond 3 (sR (o1 2 (.mv z1) .done) .ret) .skip)) (sR (o1 2 (.mv z0) .done) .ret)))⟩
def YX{P f}(hd:dec P f=some RV):Qa P f:=by
 intro d b;refine AF hd (Ada rfl) ?_;show gwp P _ _ _ _ _;cases b
 ·(refine Ad<|Ab rfl<|Aa<|Af<|Ad<|Ae rfl<|Aa<|AS rfl<|Ak<|Ad<|Ab rfl<|Aa<|An ?_);exact Z2 rfl
 ·(refine Ad<|Ab rfl<|Aa<|Af<|Ad<|Ae rfl<|Aa<|Bj rfl<|Ad<|Ab rfl<|Aa<|An ?_);exact Z2 rfl
def Np{s}{k:Int}(h:(Bk s k).2=0):Bm (Bk s k).1=true:=by
 unfold Bk at h⊢;by_cases hl:A4 s k
 ·rw[if_pos hl] at h⊢;simp only[PB] at h;cases hr:Node.Bw (s.bytes k) with
  |none=>rw[hr] at h;cases h
  |some n=>rw[O4,hr];exact(OG hr).1
 ·rw[if_neg hl] at h;cases h
def HW{n:Az}(h:Bm n=true)(hl:n.leaf=false):n.kids.length=n.keys.length+1:=by
 simp only[Bm,A0,hl,Adc,Adk,if_false,decide_eq_true_eq] at h;exact h.1.2.1.2
def JO{n:Az}(h:Bm n=true)(hl:n.leaf=true):n.vals.length=n.keys.length:=by
 simp only[Bm,A0,hl,Adc,if_true,decide_eq_true_eq] at h;exact h.1.2.1.1
def Vl{s}{k:Int}(h:(Bk s k).2=0)(hl:(Bk s k).1.leaf=false):0<(Bk s k).1.kids.length:=by
 rw[HW (Np h) hl];omega
def K5(P:Program)(f:FuncId):Prop:=∀{d}{t:TD}{dv pv L}{bt:Nat}{Tt},PgT d t.s dv pv L→1≤t.height→t.height≤1000001→
 Av P f [pZ bt] d (tbD bt Tt pv t::L) (Ret fun v d' L'=>Le d d'∧v=vZ (CH t).2∧∃L2,L'=tbD bt Tt pv (CH t).1::L2∧PgT d' (CH t).1.s dv pv L2)
def Mp(a0 a1:Nat):A5:=⟨56,[(.tmp 2)],(sR (o1 2 (.mv z0) .done) (sR (om 7 0<|om 8 0<|o1 9 (.nilc 8)<|oj 10 1 9<|ol 11 10<|oc 12 a0 [7,11]<|om 6 12<|oe 13 6 0<|oe 14 6 1<|o1 3 (.alo (.agg #[(.bool false),(.slice none 0 0),(.slice none 0 0),(.slice none 0 0)]))<|o0 (.st 4 3 13)<|om 4 14 .done) (.seq (sR (om 15 4<|ob 16 .neq 15 z0<|om 17 16<|oF 18 17 (.fld 1 3)<|oF 19 17 (.ld none 18)<|oF 20 17 (.len 19)<|oF 21 17 (.bin .gtr 20 z0)<|o1 22 (.pick 17 (.const (.bool true)) 21) .done) (.cond 22 (sR (om 23 4<|om 2 23 .done) .ret) .skip)) (.seq (.seq (.reg true (pm 24 0<|p1 25 (.nilc 24)<|p1 26 (.fld 0 25)<|pl 27 26<|pm 28 0<|p1 29 (.nilc 28)<|p1 30 (.fld 1 29)<|pl 31 30<|oc 32 a1 [27,31] (.bar (pm 5 32 .done)))) (sR (om 33 5<|ob 34 .neq 33 z0 .done) (.cond 34 (sR (om 35 5<|om 2 35 .done) .ret) .skip))) (sR (om 36 0<|o1 37 (.nilc 36)<|oj 38 2 37<|ol 39 38<|ob 40 .sub 39 z1<|o1 41 (.nilc 36)<|oj 42 2 41<|o0 (.st 1 42 40) .done) (sR (om 43 0<|o1 44 (.nilc 43)<|oj 45 1 44<|o0 (.st 1 45 (kZ (-1))) .done) (.seq (sR (oj 46 0 3<|ol 47 46<|o1 48 (.un .not 47) .done) (.cond 48 (rG (om 49 0<|oj 50 3 3<|ol 51 50<|o1 52 (.idx 1 51 z0)<|ol 53 52<|o1 54 (.nilc 49)<|oj 55 1 54<|o0 (.st 1 55 53) .done)) .skip)) (sR (o1 2 (.mv z0) .done) .ret))))))))⟩
set_option maxRecDepth 4000 in
def V9{P f f1 f2}(hd:dec P f=some (Mp f1 f2))(h1:Jn P f1)(h2:Pgr.GZ P f2):K5 P f:=by
 intro d t dv pv L bt Tt hp hh1 hh2;obtain⟨s,root,height,count⟩:=t;simp only at hp hh1 hh2;obtain⟨bp,rfl⟩:=hp.ptr;obtain⟨tc0,hp⟩:=hp;refine AF hd (Ada rfl) ?_;show gwp P _ _ _ _ _;(refine Ad<|Ab rfl<|Aa<|Ad<|Am rfl<|Am rfl<|Au rfl<|Ai rfl<|Ag rfl (Aj 0 rfl rfl) ?_);refine A7 [] (h1 (k:=root) hp) rfl rfl (fun v d2 L2 hl ⟨_,cs,hk,hv,hi,L3,tc,e1,e2,hn,hp2,htc⟩=>?_);subst e1;subst e2;have hp2:PgT d2 s dv (pZ bp) L3:=⟨tc,hp2⟩
 rw[show Bk {s with tc:=tc0} root=Bk s root from rfl] at hn⊢;have hrr:(Bk s root).2=0→(Bk s root).1.leaf=false→0<(Bk s root).1.kids.length:=Vl;have hn0:=hn;obtain⟨ka,kc,va,vc,ia,ic,rfl⟩:=hn.cells;have hS:CH ⟨s,root,height,count⟩=if (Bk s root).2≠0∨(Bk s root).1.keys≠[] then(⟨s,root,height,count⟩,(Bk s root).2) else if (s.drop root).2≠0 then(⟨(s.drop root).1,root,height,count⟩,(s.drop root).2) else
  (⟨(s.drop root).1,if (Bk s root).1.leaf then -1 else(Bk s root).1.kids.getD 0 0,height - 1,count⟩,0):=rfl
 rw[hS];generalize Bk s root=R at hn hn0 hrr;obtain⟨⟨lf,ks,vs,is⟩,e⟩:=R;simp only at hn hn0 hrr⊢;(refine AU rfl<|Ao rfl rfl<|Ao rfl rfl<|B0 (fun _ _=>?_));rename_i b3 T3;refine Bn 0 rfl rfl rfl rfl (Adi _) rfl ?_;by_cases he:e=0
 ·by_cases hks:ks=[]
  ·subst hks;subst he;rw[if_neg (by simp)];have hz0:([]:List (List UInt8)).length=0:=rfl;(refine Ab rfl<|Aa<|Af<|Ad<|Ab rfl<|AN rfl rfl<|Ae rfl<|Bf rfl (by omega)<|Ah rfl<|Ai rfl<|Ah rfl<|Ag rfl (Aj 0 rfl rfl)<|Ah rfl<|AK rfl<|Ah rfl<|BW rfl rfl<|Aw rfl rfl<|Aa<|Ar rfl (by omega)<|Ak<|Af<|Af ?_);refine Bv [_,_,_,_,_] L3 rfl ?_;(refine Am rfl<|Au rfl<|Ai rfl<|Ag rfl (Aj 4 rfl rfl)<|Am rfl<|Au rfl<|Ai rfl<|Ag rfl (Aj 4 rfl rfl) ?_);refine D4 (Vt h2 hp2 (k:=root)) rfl (fun v d4 L4 hl4 ⟨e4,hp4⟩=>?_);subst e4;by_cases hd4:(s.drop root).2=0
   ·rw[if_neg (fun q=>q hd4)];rw[hd4];(refine Ch<|Ab rfl<|Aa<|Ad<|Ab rfl<|AN rfl rfl<|Aa<|Ar rfl (by omega)<|Ak<|Ad<|Am rfl<|Au rfl<|Ai rfl<|Ag rfl (Aj 4 rfl rfl)<|C6 rfl rfl (by omega) (by omega)<|Au rfl<|Ai rfl ?_);refine A6 4 [pZ bp,vZ root,vZ ((height:Int) - 1),vZ count] rfl rfl rfl rfl (Ada rfl) rfl rfl ?_;(refine Aa<|Ad<|Am rfl<|Au rfl<|Ai rfl ?_);refine A6 4 [pZ bp,vZ (-1),vZ ((height:Int) - 1),vZ count] rfl rfl rfl rfl (Ada rfl) rfl rfl ?_;have hhh:((height:Int) - 1)=((height - 1:Nat):Int):=by omega
    cases lf with
    |true=>
     (refine Aa<|Af<|Ad<|Ai rfl<|Ag rfl (Aj 0 rfl rfl)<|Bx rfl<|Aa<|AS rfl<|Ak<|Ad<|Ab rfl<|Aa<|An ?_)
     rw[hhh]
     exact BO (L':=tbD bt Tt (pZ bp) ⟨(s.drop root).1, -1,height - 1,count⟩::L4) rfl (.cons _ (.cons _ (.cons _ (.cons _ (Adb _))))) ⟨hl.trans hl4,rfl,L4,rfl,hp4⟩
    |false=>
     have hkk:=hrr rfl rfl
     obtain⟨kv,vv,iv,q,r1,r2,r3⟩:=hn0
     cases q
     obtain⟨b1,T1,l1,c1,cs1,q1,rfl,hcl,hcs,hle1,⟨rfl,hb1,hb2⟩, -⟩:=Ap.at (by omega) r3 hkk
     cases q1
     have c0:=hcs 0 _ rfl
     (refine Aa<|Af<|Ad<|Ai rfl<|Ag rfl (Aj 0 rfl rfl)<|Bx rfl<|Aa<|Bj rfl<|AB<|Am rfl<|Ai rfl<|Ag rfl (Aj 0 rfl rfl)<|Bz _ rfl rfl rfl (by omega)<|Ag rfl (Aj 3 rfl (by assumption))<|Au rfl<|Ai rfl ?_)
     have hg0:is.getD 0 0=is[0]:=by rw[Adh,Ade hkk];rfl
     refine A6 4 [pZ bp,vZ is[0],vZ ((height:Int) - 1),vZ count] rfl rfl rfl rfl (Ada rfl) rfl rfl ?_
     (refine Aa<|Ad<|Ab rfl<|Aa<|An ?_)
     rw[hhh,hg0]
     exact BO (L':=tbD bt Tt (pZ bp) ⟨(s.drop root).1,is[0],height - 1,count⟩::L4) rfl (.cons _ (.cons _ (.cons _ (.cons _ (Adb _))))) ⟨hl.trans hl4,rfl,L4,rfl,hp4⟩
   ·rw[if_pos hd4];(refine Ch<|Ab rfl<|Aa<|Ad<|Ab rfl<|AN rfl rfl<|Aa<|Ax rfl (by omega)<|Ad<|Ab rfl<|Ab rfl<|Aa<|An ?_);exact BO (L':=tbD bt Tt (pZ bp) ⟨(s.drop root).1,root,height,count⟩::L4) rfl (.cons _ (.cons _ (.cons _ (.cons _ (Adb _))))) ⟨hl.trans hl4,rfl,L4,rfl,hp4⟩
  ·have hkl:0<ks.length:=List.length_pos_iff.2 hks;subst he;rw[if_pos (.inr hks)];(refine Ab rfl<|Aa<|Af<|Ad<|Ab rfl<|AN rfl rfl<|Ae rfl<|Bf rfl (by omega)<|Ah rfl<|Ai rfl<|Ah rfl<|Ag rfl (Aj 0 rfl rfl)<|Ah rfl<|AK rfl<|Ah rfl<|BW rfl rfl<|Aw rfl rfl<|Aa<|Ax rfl (by omega)<|Ad<|Ab rfl<|Ab rfl<|Aa<|An ?_);exact BO (L':=tbD bt Tt (pZ bp) ⟨s,root,height,count⟩::L3) rfl (.cons _ (.cons _ (.cons _ (.cons _ (Adb _))))) ⟨hl,rfl,L3,rfl,hp2⟩
 ·rw[if_pos (.inl he)];(refine Ab rfl<|Aa<|Af<|Ad<|Ab rfl<|AN rfl rfl<|Ae rfl<|Bp rfl (by omega)<|Aq rfl<|Aq rfl<|Aq rfl<|Aq rfl<|AI rfl rfl<|Aa<|Bj rfl<|Ad<|Ab rfl<|Ab rfl<|Aa<|An ?_);exact BO (L':=tbD bt Tt (pZ bp) ⟨s,root,height,count⟩::L3) rfl (.cons _ (.cons _ (.cons _ (.cons _ (Adb _))))) ⟨hl,rfl,L3,rfl,hp2⟩
end Go.Gk.Tre
end
section
namespace Go.Gk
open Go
section
def Vc(pr:Bool)(P:Program)(f:FuncId):Option Kv:=
 match P.funcs[f]? with
 |some fn=>
  if fn.name== "runtime.NumGoroutine" || !P.follows .mixedOrders then none else
  match fn.body with
  |some (.seq a (.seq b (.seq (.region _ ops false) c)))=>
   match RQ fn.ntmps ops.toList,fn.results.toList.mapM (Hr P fn.ntmps) with
   |some (fd,g,cs),some rs=>if rs.all (fun r=> !(IX c).contains (ZN r)) then some ⟨fn.ntmps,rs,.seq (Ek pr P fn.ntmps a) (Ek pr P fn.ntmps b),fd,g,cs,Ek pr P fn.ntmps c⟩ else none
   |_,_=>none
  |_=>none
 |none=>none
section
variable {pr:Bool}{P:Program}
def VI{pr':Bool}{f}{g:Kv}{v:A5}(hd:Vc pr P f=some g)(hv:Jc pr' P g.g=some v)(hvr:v.res=[]){args}(ha:args.length≤g.n)(hcl:g.caps.length≤v.n){d L R}
  (h:gwp P g.a (RE P g v R) (Gv args) d L):Av P f args d L R:=by
 simp only[Vc] at hd
 split at hd<;>try cases hd
 rename_i fn hf
 split at hd<;>try cases hd
 rename_i hn
 split at hd<;>try cases hd
 rename_i A1 A2 id ops C hb
 split at hd<;>try cases hd
 rename_i fd gg cs rs hdf hrs
 split at hd<;>cases hd
 rename_i hall
 simp only[Afa,not_or,Afz,Agu] at hn
 have hm:P.follows .mixedOrders=true:=by simpa using hn.2
 obtain⟨o1,o2,caps,ats,rfl,h1,h2,h3,h4,h5,h6,h7,h8⟩:=OO hdf
 simp only at h1 h2 h5 h7 h8 hv hcl ha h
 have hvc:Im P gg:=by
  have hv':=hv;simp only[Jc] at hv';split at hv'<;>try cases hv'
  rename_i fn' hf';split at hv'<;>try cases hv'
  rename_i hn';split at hv'<;>try cases hv'
  rename_i hb';simp only[Afa,not_or,Afz,Agu] at hn';exact⟨fn',hf',by rw[hb'];rfl,hn'.1⟩
 refine⟨⟨fn,hf,by rw[hb];rfl,hn.1⟩,fun F W hOk=>?_⟩
 refine calls_of_wp_defers hf hb ?_
 rw[NZ ha]
 refine wp_seq (wp_mono (Fh (ds:=[]) (F:=F) (W0:=W) (d0:=d) hm A1 _ _ d L W h hOk (Le.refl d) (AH.refl W)) ?_)
 intro e a w hq
 cases e with
 |panic c=>obtain⟨_,_,_,_,_,_,hh⟩:=hq;exact hh.elim
 |exit i=>obtain⟨_,_,_,_,_,_,_,hh⟩:=hq;exact hh.elim
 |ret=>obtain⟨_,_,_,_,_,_,_,hh⟩:=hq;exact hh.elim
 |goto l=>exact hq.elim
 |outgrown=>exact hq.elim
 |normal=>
 obtain⟨ρ0,d01,L01,rfl,k1,k2,k3,k4⟩:=hq
 refine wp_seq (wp_mono (Fh (ds:=[]) (F:=F) (W0:=W) (d0:=d) hm A2 _ _ d01 L01 w k4 k1 k2 k3) ?_)
 intro e a w hq
 cases e with
 |panic c=>obtain⟨_,_,_,_,_,_,hh⟩:=hq;exact hh.elim
 |exit i=>obtain⟨_,_,_,_,_,_,_,hh⟩:=hq;exact hh.elim
 |ret=>obtain⟨_,_,_,_,_,_,_,hh⟩:=hq;exact hh.elim
 |goto l=>exact hq.elim
 |outgrown=>exact hq.elim
 |normal=>
 obtain⟨ρ,d1,L1,rfl,k1,k2,k3,k4⟩:=hq
 simp only[RE] at k4
 refine wp_seq (wp_region ?_)
 have l:List.range (#[o1,o2]:Array Oper).size=[0,1]:=rfl
 rw[l]
 have g0:(#[o1,o2]:Array Oper)[0]?=some o1:=rfl
 have g1:(#[o1,o2]:Array Oper)[1]?=some o2:=rfl
 have e1:∀ys,Region.wanted o1 ys=true:=fun ys=>by simp[Region.wanted,h3]
 have e2:∀ys,Region.wanted o2 ys=true:=fun ys=>by simp[Region.wanted,h6]
 have hcv:caps.map (act fn.ntmps ρ []).eval=(cs.map ρ).toArray:=by
  have:=Jk (ρ:=ρ) (ds:=[]) h8;exact Array.ext' (by rw[Array.toList_map,this])
 have x1:∀w,(execOp (act fn.ntmps ρ []).eval o1).run P w=.ok (.value (Ed gg (cs.map ρ))) w:=by
  intro w;simp[execOp,h2,Instr.makeFunc,hcv,Ed]
 have hfd:(act fn.ntmps (upd ρ fd (Ed gg (cs.map ρ))) []).eval (.tmp fd)=Ed gg (cs.map ρ):=by
  rw[Be (x:=.tmp fd) (by simpa [DX] using h7)];simp[ev,upd]
 have x2:∀w,(execOp (act fn.ntmps (upd ρ fd (Ed gg (cs.map ρ))) []).eval o2).run P w=.ok (.defer {target:=.fn (.func gg) (cs.map ρ).toArray,args:= #[]}) w:=by
  intro w;generalize (act fn.ntmps (upd ρ fd (Ed gg (cs.map ρ))) []).eval=e at hfd;simp[execOp,h5,resolve,hfd,Ed,Deferred.ofValue]
 have p1:(act fn.ntmps ρ []).put o1.dst (Ed gg (cs.map ρ))=act fn.ntmps (upd ρ fd (Ed gg (cs.map ρ))) []:=by
  rw[h1,Fb (d:=some fd) (fun _ e=>by cases e;exact h7)];rfl
 simp only[wpOps_cons,wpOp,g0,e1,if_true]
 refine .inl ?_
 simp only[Oper.wp,x1,Oper.upon,p1,wpOps_cons,wpOp,g1,e2,if_true]
 refine .inl ?_
 simp only[x2,h4]
 show Code.wp P C _ (act fn.ntmps (upd ρ fd (Ed gg (cs.map ρ))) [{target:=.fn (.func gg) (cs.map ρ).toArray,args:= #[]}]) w
 have hlen:(cs.map ρ).length≤v.n:=by simpa using hcl
 have hinv:∀w,(invoke (.fn (.func gg) (cs.map ρ).toArray) #[]).run P w=.ok (.enter gg (cs.map ρ).toArray) w:=by
  intro w;simp[invoke,Ff hvc]
 generalize hD:(⟨.fn (.func gg) (cs.map ρ).toArray, #[]⟩:Deferred)=D
 refine wp_mono (Fh (ds:=[D]) (F:=F) (W0:=W) (d0:=d) hm C _ _ d1 L1 w k4 k1 k2 k3) ?_
 subst hD
 have fin:∀a w,(∃ρ' d' L',a=act fn.ntmps ρ' [⟨.fn (.func gg) (cs.map ρ).toArray, #[]⟩]∧Ok (d'::(L'++F)) w∧Le d d'∧AH W w∧gwp P v.code (Ll (CI rs R ρ')) (Gv (cs.map ρ)) d' L')→
   Leaves P fn a.tmps (fun e W'=>∃d' L',Ok (d'::(L'++F)) W'∧Le d d'∧AH W W'∧R e d' L') a.defers .returning w:=by
  rintro a w ⟨ρ',d',L',rfl,j1,j2,j3,j4⟩
  refine leaves_cons (by simp) (hinv w) ((KC hv hvr hlen j4 j1).mono ?_)
  rintro e u' w' ⟨⟨r,rfl⟩,rfl,d2,L2,q1,q2,q3,vs,q4,d3,L3,q5,q6⟩
  exact⟨Km vs,Tl hrs q1 q4,d3,L3,q5.2 F w' q1,(j2.trans q2).trans q5.1,j3.trans q3,q6⟩
 intro e a w hq
 cases e with
 |normal=>exact fin a w hq
 |ret=>exact fin a w hq
 |panic c=>obtain⟨_,_,_,_,_,_,hh⟩:=hq;exact hh.elim
 |exit i=>obtain⟨_,_,_,_,_,_,_,hh⟩:=hq;exact hh.elim
 |goto l=>exact hq.elim
 |outgrown=>exact hq.elim
end
end
end Go.Gk
end
section
namespace Go.Gk.Tre
open Go Go.Gk Go.Gk.Dev Go.Gk.Cch Go.Gk.Pgr Go.Gk.Chn Go.Gk.Node
attribute [local irreducible] gwp gws xwp
variable{f:FuncId}
section
def I5(P:Program)(f:FuncId):Prop:=∀{d}{t t':TD}{e:Int}{dv pv L X X'}{bt:Nat}{Tt g caps},PgT d t.s dv pv L→Pgr.AH t.s t'.s→
 (∀d1,Le d d1→Av P g caps d1 (tbD bt Tt pv t::(X++L)) (Ret fun v d' L'=>Le d1 d'∧v=vZ e∧∃L2,L'=tbD bt Tt pv t'::(X'++L2)∧PgT d' t'.s dv pv L2))→
 Av P f [pZ bt,.func (.func g) #[] caps.toArray] d (tbD bt Tt pv t::(X++L)) (Ret fun v d' L'=>Le d d'∧v=vZ e∧∃L2,L'=tbD bt Tt pv (B8 t t' e)::(X'++L2)∧PgT d' (B8 t t' e).s dv pv L2)
def K2(a0 a1:Nat):Kv:=⟨18,[(.cell 4 none)],(sR (o1 2 (.box 0)<|o1 4 (.alo (vZ 0)) .done) (.reg true (pl 7 2<|p1 8 (.nilc 7)<|p1 9 (.fld 0 8)<|pl 10 9<|pl 12 2<|p1 13 (.nilc 12) (.par (o1 14 (.ld (some 4) 13) .done) (.par (o1 6 (.alo (.agg #[(.pointer none),(vZ 0),(vZ 0),(vZ 0)])) .done) (.par (oc 11 a0 [10] .done) (o1 5 (.alo (.pointer none)) .done) .done) (o0 (.st 1 5 11) .done)) (o0 (.st 4 6 14) .done))))),15,a1,[4,6,2,5],(sR (om 16 1<|o1 17 (.callv 16 [])<|o0 (.st 1 4 17) .done) .ret)⟩
def GN(a0:Nat):A5:=⟨15,[],(sR (ol 4 0<|ob 5 .neq 4 z0 .done) (.cond 5 (sR (ol 6 2<|o1 7 (.ld (some 4) 1)<|o1 8 (.nilc 6)<|o0 (.st 4 8 7) .done) (.reg true (pl 9 2<|p1 10 (.nilc 9)<|p1 11 (.fld 0 10)<|pl 12 11<|pl 13 3<|oc 14 a0 [12,13] .done))) .skip))⟩
def SM(P:Program)(f:FuncId):Prop:=∃f3,dec P f=some (GN f3)∧K6 P f3
def Aa5{P f3}(hd:dec P f=some (GN f3))(h:K6 P f3):SM P f:=⟨f3,hd,h⟩
section
variable {P:Program}{pan:List PanicEntry→AR}{Qn:Env→AR}{Ls L:List Ac}{ρ:Env}{d:Ac}{s:GS}{t:Nat}
def Zx{f g}{first cap:Array Value}{args R vs A B}(hp:L.Perm (A++B))(ef:ev ρ f=.func (.func g) first cap)(ea:first.toList++args.map (ev ρ)++cap.toList=vs)
  (hc:Av P g vs d A (Ret R)) (h:∀v d' L',Le d d'→R v d' L'→gws P pan Qn s Ls (upd ρ t v) d' (L'++B)):gws P pan Qn (.op false ⟨some t,none,.callv f args⟩ s) Ls ρ d L:=
 B9 d (A++B) (Vs.perm hp) (MP A.length ef ea (by rw[List.take_left];exact hc) (fun v d' L' hl hr=>by rw[List.drop_left];exact h v d' L' hl hr))
end
def AcV{P}(h:Lh P f){d s dv pv L}(hp:PgT d s dv pv L):Av P f [pv] d L (Ret fun r d' L'=>L'=L∧Le d d'∧Mk d' s.mark s.frm pv r):=by
 obtain⟨n,hp⟩:=hp;have:=h hp;exact this
def Acr{P}(h:K6 P f){d s s0 dv pv v L}(hp:PgT d s dv pv L)(hG:Pgr.Good s0)(hk:Pgr.AH s0 s)(hm:Mk d s0.mark s0.frm pv v):
  Av P f [pv,v] d L (Ret fun r d' L'=>d'=d∧r=vZ 0∧PgT d (s.back s0.mark) dv pv L'):=by
 obtain⟨n,hp⟩:=hp
 have hg:=hG.kd
 have hr:wr s0.mark.round=wr s.round:=by rw[show s0.mark.round=s0.round from rfl,hk.round]
 refine Av.DL (h (m:=s0.mark) hp (by rw[show({s with tc:=n}:PD).frm=s.frm from rfl,hk.frm];exact hm) (fun _=>⟨hk.og,fun i=>hg i⟩)) (fun r d' L' _ ⟨h1,h2,_⟩=>⟨d',L',Vs.refl _ _,?_⟩)
 obtain⟨h3,h4⟩:=h2 hr
 exact⟨h1,h3,n,h4⟩
set_option maxRecDepth 4000 in
set_option maxHeartbeats 2000000 in
def Vw{P f1 f2}(hd:Vc true P f=some (K2 f1 f2))(h1:Lh P f1)(h2:SM P f2):I5 P f:=by
 obtain⟨f3,hv,h3⟩:=h2;intro d t t' e dv pv L X X' bt Tt g caps hp hk hdo;obtain⟨bp,rfl⟩:=hp.ptr;have hG:=hp.Fm;refine VI hd hv rfl (Ada rfl) (Ada rfl) ?_;show gwp P _ _ _ _ _;apply Af;apply AB;refine FB rfl (fun b2 T2=>?_);refine DW (fun b4 T4=>?_);apply Aa;refine Bv [bx b4 T4 [vZ 0],bx b2 T2 [pZ bt],tbD bt Tt (pZ bp) t] (X++L) rfl ?_;(refine Ag rfl (Aj 1 rfl rfl)<|Au rfl<|Ai rfl<|Ag rfl (Aj 2 rfl rfl)<|Ag rfl (Aj 1 rfl rfl)<|Au rfl ?_);refine GK (α:=Unit) (β:=(Nat×TypeId)×(Nat×TypeId)×Value) [(1,.func (.func g) #[] caps.toArray),(2,pZ b2),(4,pZ b4)]
  (fun _=>[(14,.agg [pZ bp,vZ t.root,vZ t.height,vZ t.count].toArray)]) (fun _ _ M=>M=[]) (fun y=>[(6,.pointer (some ⟨y.1.1,0,none⟩)),(5,.pointer (some ⟨y.2.1.1,0,none⟩))])
  (fun y d' M=>Mk d' t.s.mark t.s.frm (pZ bp) y.2.2∧M=bx y.1.1 y.1.2 [.pointer none,vZ 0,vZ 0,vZ 0]::bx y.2.1.1 y.2.1.2 [y.2.2]::(X++L)) [] (X++L) rfl
  (fun x d d' M hl h=>h) (fun y d d' M hl h=>⟨h.1.mono hl,h.2⟩) (fun x=>rfl) (fun y=>rfl) rfl ⟨rfl,rfl,rfl,trivial⟩ ?_ ?_ ?_
 ·(refine Bh 2 rfl rfl rfl<|A9 ?_);exact⟨_,rfl,(),⟨rfl,trivial⟩,rfl⟩
 ·refine GK (α:=Nat×TypeId) (β:=(Nat×TypeId)×Value) [] (fun x=>[(6,.pointer (some ⟨x.1,0,none⟩))]) (fun x _ M=>M=[bx x.1 x.2 [.pointer none,vZ 0,vZ 0,vZ 0]])
   (fun y=>[(11,y.2),(5,.pointer (some ⟨y.1.1,0,none⟩))]) (fun y d' M=>Mk d' t.s.mark t.s.frm (pZ bp) y.2∧M=(X++L)++[bx y.1.1 y.1.2 [.pointer none]]) [] (X++L) rfl
   (fun x d d' M hl h=>h) (fun y d d' M hl h=>⟨h.1.mono hl,h.2⟩) (fun x=>rfl) (fun y=>rfl) rfl trivial ?_ ?_ ?_
  ·refine B0 (fun b6 T6=>?_);(apply A9);exact⟨_,rfl,(b6,T6),⟨rfl,trivial⟩,rfl⟩
  ·refine GK (α:=Value) (β:=Nat×TypeId) [] (fun x=>[(11,x)]) (fun x d' M=>Mk d' t.s.mark t.s.frm (pZ bp) x∧M=X++L) (fun y=>[(5,.pointer (some ⟨y.1,0,none⟩))]) (fun y _ M=>M=[bx y.1 y.2 [.pointer none]]) (X++L) [] (by simp)
    (fun x d d' M hl h=>⟨h.1.mono hl,h.2⟩) (fun y d d' M hl h=>h) (fun x=>rfl) (fun y=>rfl) rfl trivial ?_ ?_ ?_
   ·refine A7 X (AcV h1 hp) rfl rfl (fun v d2 L2 hl2 ⟨e1,_,hm⟩=>?_);subst e1;(apply A9);exact⟨_,rfl,v,⟨rfl,trivial⟩,hm,rfl⟩
   ·refine DW (fun b5 T5=>?_);(apply A9);exact⟨_,rfl,(b5,T5),⟨rfl,trivial⟩,rfl⟩
   ·rintro mv ⟨b5,T5⟩ ρ2 d2 M1 M2 hl2 ⟨hm,hM1⟩ hM2;subst hM1;subst hM2;(apply A9);exact⟨_,rfl,((b5,T5),mv),⟨rfl,rfl,trivial⟩,hm,rfl⟩
  ·rintro⟨b6,T6⟩ ⟨⟨b5,T5⟩,mv⟩ ρ2 d2 M1 M2 hl2 hM1 ⟨hm,hM2⟩;subst hM1;subst hM2;refine B9 _ (bx b5 T5 [.pointer none]::bx b6 T6 [.pointer none,vZ 0,vZ 0,vZ 0]::(X++L)) (Vs.perm ((Adl (l₁:=_::(X++L)) (l₂:=[_])))) ?_;have hmc:∃bm,mv=pZ bm:=by obtain⟨bm,_,_,_,_,_,q,_⟩:=hm;exact⟨bm,q⟩
   obtain⟨bm,rfl⟩:=hmc;refine A6 0 [pZ bm] rfl rfl rfl rfl (Adi _) rfl rfl ?_;refine HY ⟨d2,_,Vs.perm (List.Perm.append_left _ (Aee _ _ _)),?_⟩;exact⟨_,rfl,((b6,T6),(b5,T5),_),⟨rfl,rfl,trivial⟩,hm,rfl⟩
 rintro _ ⟨⟨b6,T6⟩,⟨b5,T5⟩,mv⟩ ρ2 d2 M1 M2 hl2 hM1 ⟨hm,hM2⟩;subst hM1;subst hM2;simp only at hm⊢;refine Bn 0 rfl rfl rfl rfl (Adi _) rfl ?_;apply A9;show gwp P _ _ _ _ _;(refine Ad<|FQ rfl ?_);refine Zx (A:=tbD bt Tt (pZ bp) t::(X++L)) (B:=[_,_,_,_]) ((Aep (l₁:=[_,_])).trans (Ads _ (Adl (l₁:=[_,_,_,_])))) rfl rfl (hdo d2 hl2) (fun v d3 L3 hl3 ⟨_,e1,L4,e2,hp4⟩=>?_);subst e1;subst e2;refine B9 _ _ (Vs.perm (Adl (l₂:=[_,_,_,_]))) ?_;refine A6 0 [vZ e] rfl rfl rfl rfl (Adi _) rfl rfl ?_;(refine Aa<|An<|Ad<|Ag rfl (Aj 0 rfl rfl)<|AN rfl rfl<|Aa ?_);show gwp P _ _ _ _ _;skip;by_cases he:e=0
 ·have hF:B8 t t' e=t':=by unfold B8;rw[if_pos he]
  rw[hF];(refine Ar rfl (by omega)<|Ak ?_);exact Bd [vZ e] ⟨⟨_,_,rfl,Aj 0 rfl rfl⟩,trivial⟩ (d':=d3) (L':=tbD bt Tt (pZ bp) t'::(X'++L4)) (Vs.drop (.cons _ (.cons _ (.cons _ (.cons _ (Adb _)))))) ⟨hl2.trans hl3,rfl,L4,rfl,hp4⟩
 ·have hF:B8 t t' e={t with s:=t'.s.back t.s.mark}:=by unfold B8;rw[if_neg he]
  rw[hF];(refine Ax rfl (by omega)<|Ad<|Ag rfl (Aj 1 rfl rfl)<|Bh 2 rfl rfl rfl<|Au rfl ?_);refine Bn 4 rfl rfl rfl rfl (Adi _) rfl ?_;(apply Aa);refine Bv [_,_,_,_,_] (X'++L4) rfl ?_;(refine Ag rfl (Aj 1 rfl rfl)<|Au rfl<|Ai rfl<|Ag rfl (Aj 4 rfl rfl)<|Ag rfl (Aj 3 rfl rfl) ?_);refine A7 X' (Acr h3 hp4 hG hk (hm.mono hl3)) rfl rfl (fun v d5 L5 hl5 ⟨e5,_,hp5⟩=>?_);subst e5;(apply A9);exact Bd [vZ e] ⟨⟨_,_,rfl,Aj 0 rfl rfl⟩,trivial⟩ (d':=d5) (L':=tbD bt Tt (pZ bp) {t with s:=t'.s.back t.s.mark}::(X'++L5)) (Vs.drop (.cons _ (.cons _ (.cons _ (.cons _ (Adb _)))))) ⟨hl2.trans hl3,rfl,L5,rfl,hp5⟩
end
def Ss(P:Program)(f:FuncId):Prop:=∀{d s dv pv L},Pg d s dv pv L→
 Av P f [pv] d L (Ret fun v d' L'=>Le d d'∧∃bt Tt,v=.tuple #[pZ bt,vZ 0]∧L'=tbD bt Tt pv ⟨s, -1,0,0⟩::L)
def VL(a0:Nat):A5:=⟨10,[(.tmp 2),(.tmp 3)],(sR (o1 2 (.mv (.const (.pointer none)))<|o1 3 (.mv z0) .done) (.seq (sR (om 4 0<|oc 5 a0 [4]<|o1 6 (.eqp false 5 (.const (.pointer none))) .done) (.cond 6 (sR (o1 2 (.mv (.const (.pointer none)))<|o1 3 (.mv z1) .done) .ret) .skip)) (sR (om 7 0<|o1 8 (.bld [(0,1),(1,1),(2,1),(3,1)] [(.pointer none),(vZ 0),(vZ 0),(vZ 0)] [(0,7),(1,(kZ (-1)))])<|o1 9 (.box 8)<|om 2 9<|o1 3 (.mv z0) .done) .ret)))⟩
def AaT{P f1}(hd:dec P f=some (VL f1))(h1:Lh P f1):Ss P f:=by
 intro d s dv pv L hp;obtain⟨bp,rfl⟩:=hp.ptr;refine AF hd (Ada rfl) ?_;show gwp P _ _ _ _ _;(refine Ad<|Am rfl<|Ab rfl<|Aa<|Af<|Ad<|Am rfl ?_);refine D4 (h1 hp) rfl (fun v d2 L2 hl2 ⟨e1,_,hm⟩=>?_);subst e1;have hmc:∃bm,v=pZ bm:=by obtain⟨bm,_,_,_,_,_,q,_⟩:=hm;exact⟨bm,q⟩
 obtain⟨bm,rfl⟩:=hmc;(refine Dk rfl rfl<|Aa<|AS rfl<|Ak<|Ad<|Am rfl<|BR rfl<|Cx rfl (fun _ _=>Am rfl<|Ab rfl<|Aa<|An ?_));exact Bd [pZ _,vZ 0] ⟨As rfl,As rfl,trivial⟩ (Vs.refl _ _) ⟨hl2,_,_,rfl,rfl⟩
def MY(root height count:Int):Bool:=(decide (height=0)&& decide (root= -1)&& decide (count=0))||(decide (1≤height)&& decide (0≤root)&& decide (1≤count))
end Go.Gk.Tre
end
section
namespace Go.Gk.Tre
open Go Go.Gk Go.Gk.Dev Go.Gk.Cch Go.Gk.Pgr Go.Gk.Chn Go.Gk.Node
variable{n:Az}
structure Fit (n:Az) (N:Nat):Prop where
 k:n.keys.length≤N
 v:n.vals.length≤N
 i:n.kids.length≤N
 kl:∀x∈n.keys,x.length≤1000
 vl:∀x∈n.vals,x.length≤1000
def P4{l:List (List UInt8)}(h:∀x∈l,x.length≤1000)(j:Nat):(l.getD j []).length≤1000:=by
 rw[Adh];cases q:l[j]? with
 |none=>simp
 |some x=>exact h x (List.mem_of_getElem? q)
def Sk(hk:∀x∈n.keys,x.length≤1000)(hv:∀x∈n.vals,x.length≤1000):∀k,Bo n k≤2002*k
 |0=>by simp[Bo]
 |k+1=>by
  have h1:=Sk hk hv k;have h2:Dq n k≤1000:=P4 hk k;have h3:Fg n k≤1000:=P4 hv k;simp only[Bo,D8];split<;>omega
def Fit.small{N:Nat}(h:Fit n N)(hN:N≤100000):Small n:=by
 have h1:=Sk h.kl h.vl n.keys.length;have h2:=h.k;have h3:=h.i;have h4:=h.v;refine⟨?_,by omega,by omega,by omega⟩
 unfold AY;split<;>omega
def Jw{n:Az}:∀k,k≤Bo n k
 |0=>Adi _
 |k+1=>by
  have:=Jw (n:=n) k;simp only[Bo,D8];split<;>omega
def Mn(h:Bm n=true):Fit n 257∧∀x∈n.keys,x.length≤64:=by
 have hs:A0 n=true:=by simp only[Bm,Adc] at h;exact h.1
 have hz:AY n≤256:=by simp only[Bm,Adc,decide_eq_true_eq] at h;exact h.2
 have hk:n.keys.length≤254:=by
  have:=Jw (n:=n) n.keys.length;unfold AY at hz;omega
 have hkl:∀x∈n.keys,x.length≤64:=fun x hx=>by
  obtain⟨k,hk,rfl⟩:=Aez hx;simp only[A0,Adc] at hs;exact TG hs.1 hk
 refine⟨⟨by omega,?_,?_,fun x hx=>by have:=hkl x hx;omega,fun x hx=>?_⟩,hkl⟩
 ·simp only[A0,Adc] at hs;cases hl:n.leaf with
  |true=>
   have h2:=hs.2
   simp only[hl,if_true,Adc,decide_eq_true_eq] at h2
   omega
  |false=>
   have h2:=hs.2
   simp only[hl,Adk,if_false,Adc,decide_eq_true_eq] at h2
   omega
 ·simp only[A0,Adc] at hs;cases hl:n.leaf with
  |true=>
   have h2:=hs.2
   simp only[hl,if_true,Adc,decide_eq_true_eq] at h2
   omega
  |false=>
   have h2:=hs.2
   simp only[hl,Adk,if_false,Adc,decide_eq_true_eq] at h2
   omega
 ·simp only[A0,Adc] at hs;cases hl:n.leaf with
  |true=>
   have h2:=hs.2
   simp only[hl,if_true,Adc,decide_eq_true_eq,Adv] at h2
   have:=h2.2 x hx
   simp only[HS,decide_eq_true_eq] at this
   omega
  |false=>
   have h2:=hs.2
   simp only[hl,Adk,if_false,Adc,decide_eq_true_eq] at h2
   have:n.vals=[]:=Adn h2.1.1
   rw[this] at hx;cases hx
def Kk{α}{l:List α}{i:Nat}{y x:α}(h:x∈B1 l i y):x=y∨x∈l:=by
 unfold B1 at h;rcases Adg.1 h with h|h
 ·exact .inr (Aif h)
 ·rcases Adu.1 h with h|h
  ·exact .inl h
  ·exact .inr (Aft h)
def KU{α}{l:List α}{i:Nat}{x:α}(h:x∈l.eraseIdx i):x∈l:=(List.eraseIdx_sublist l i).subset h
def PH{α}{l:List α}{i:Nat}{y x:α}(h:x∈l.set i y):x=y∨x∈l:=(List.mem_or_eq_of_mem_set h).symm
end Go.Gk.Tre
end
section
namespace Go.Gk.Tre
open Go Go.Gk Go.Gk.Dev Go.Gk.Cch Go.Gk.Pgr Go.Gk.Chn Go.Gk.Node
attribute [local irreducible] gwp gws xwp
def JN(P:Program)(f:FuncId):Prop:=∀{d s dv pv L}{bt:Nat}{Tt}{r h c k:Int}{cs}{n:Az}{hk hv hi}{i:Nat}{m:MdD}{ua}{uc:Nat},
 PgT d s dv pv L→DU d cs n hk hv hi→Fit n 1000→i<n.kids.length→(0≤m.other→i≤n.keys.length)→MOk m→AM d (.slice ua m.key.length uc) m.key→
 Av P f [pZ bt,vZ k,.agg cs.toArray,vZ i,mdV m ua uc] d (hk::hv::hi::tb bt Tt pv r h c::L) (Ret fun v d' L'=>Le d d'∧∃ua' uc' L2,v=.tuple #[mdV (BJ s k n i m).2.1 ua' uc',vZ (BJ s k n i m).2.2]∧
  AM d' (.slice ua' (BJ s k n i m).2.1.key.length uc') (BJ s k n i m).2.1.key∧L'=tb bt Tt pv r h c::L2∧PgT d' (BJ s k n i m).1 dv pv L2)
def Nf(a0 a1 a2 a3:Nat):A5:=⟨61,[(.cell 10 (some 4)),(.tmp 11)],(sR (o1 7 (.box 2)<|o1 9 (.box 4)<|o1 10 (.alo (.agg #[(vZ 0),(vZ 0),(.slice none 0 0),(vZ 0)]))<|o1 11 (.mv z0) .done) (.seq (.seq (.reg true (p1 12 (.fld 3 7)<|pl 13 12<|pm 14 3<|p1 15 (.idx 1 13 14)<|pl 16 15<|p1 17 (.fld 0 9)<|pl 18 17<|p1 19 (.bin .eql 16 18)<|pm 20 19 (.op true ⟨(some 21),(some (20,true)),(.fld 1 9)⟩ (.op true ⟨(some 22),(some (20,true)),(.ld none 21)⟩ (.op true ⟨(some 23),(some (20,true)),(.bin .lss 22 z0)⟩ (p1 24 (.pick 20 23 (.const (.bool false))) .done)))))) (.cond 24 (sR (om 25 1<|o1 26 (.ld (some 4) 7)<|oc 27 a0 [26]<|o1 28 (.bld [(0,1),(1,1),(2,1),(3,1)] [(vZ 0),(vZ 0),(.slice none 0 0),(vZ 0)] [(0,25),(1,(kZ (-1))),(3,27)])<|o0 (.st 4 10 28)<|o1 11 (.mv z0) .done) .ret) .skip)) (sR (oj 29 3 7<|ol 30 29<|om 31 3<|oj 32 0 9<|ol 33 32<|oI 34 1 30 31<|o0 (.st 1 34 33) .done) (.seq (sR (oj 35 1 9<|ol 36 35<|ob 37 .geq 36 z0 .done) (.cond 37 (.reg true (p1 38 (.fld 1 7)<|pl 39 38<|pm 40 3<|p1 41 (.fld 2 9)<|pl 42 41<|p1 45 (.fld 3 7)<|pl 46 45<|pm 47 3<|p1 48 (.bin .add 47 z1)<|p1 49 (.fld 1 9)<|pl 50 49 (.par (o1 51 (.bsl 1 1 [(vZ 0)] [(0,50)]) .done) (o1 43 (.bsl 1 1 [(.slice none 0 0)] [(0,42)]) (oc 44 a1 [39,40,43] (p1 53 (.fld 1 7) .done))) (oc 52 a2 [46,48,51] (.bar (o0 (.st 1 53 44) (p1 54 (.fld 3 7) (o0 (.st 1 54 52) .done)))))))) .skip)) (sR (om 55 0<|om 56 1<|o1 57 (.ld (some 4) 7)<|oc 58 a3 [55,56,57]<|oe 59 58 0<|oe 60 58 1<|o0 (.st 4 10 59)<|om 11 60 .done) .ret)))))⟩
def _root_.Go.Gk.Vs.out{d d'}(A B:List Ac){M M'}(p:M.Perm M')(v:Vs d M' d' []):Vs d (A++(M++B)) d' (A++B):=by
 have p1:(A++(M++B)).Perm (M'++(A++B)):=by
  refine(List.perm_append_comm_assoc A M B).trans ?_;exact Age _ p
 exact(Vs.perm p1).trans (Vs.app v (A++B))
def FK{d cs}{n:Az}{hk hv hi}(o:DU d cs n hk hv hi):∃d2,Le d d2∧Vs d [hk,hv,hi] d2 []∧CG d2 cs n:=by
 obtain⟨d2,h1,h2,h3⟩:=Vs.IG d [hk,hv,hi];exact⟨d2,h2,h1,o.IT h2 (h3 _ (by simp)) (h3 _ (by simp)) (h3 _ (by simp))⟩
set_option maxRecDepth 4000 in
set_option maxHeartbeats 2000000 in
def WX{P f f1 f2 f3 f4}(hd:Kc P f=some (Nf f1 f2 f3 f4))(h1:LY P f1)(h2:Ks RBs P f2)(h3:Ks Bb P f3)(h4:H3 P f4):JN P f:=by
 intro d s dv pv L bt Tt r h c k cs n hk hv hi i m ua uc hp hn hfit hi0 hi1 hm hmk;have hm1:=hm.p0;have hm2:=hm.p1;have hm3:=hm.o0;have hm4:=hm.o1;have hm5:=hm.k;have hn0:=hn;obtain⟨kv,vv,iv,rfl,r1,r2,r3⟩:=hn0;obtain⟨xa,xc,rfl⟩:=r1.val;obtain⟨ya,yc,rfl⟩:=r2.val;have r3':=r3;obtain⟨b1,T1,l1,c1,cs1,q1,rfl,hcl,hcs,hle1,⟨rfl,hb1,hb2⟩,hset⟩:=Ap.at (by omega) r3' hi0;subst q1;have c0:=hcs 0 _ rfl;have hg0:n.kids.getD i 0=n.kids[i]:=by rw[Adh,Ade hi0];rfl
 refine AF hd (Ada rfl) ?_;show gwp P _ _ _ _ _;apply Af;apply AB;refine Cx rfl (fun b7 T7=>?_);refine Cx (l:=[vZ m.page,vZ m.other,.slice ua m.key.length uc,vZ m.size]) rfl (fun b9 T9=>?_);refine B0 (fun b10 T10=>?_);apply Ab;rfl;apply Aa;refine Gc (fun ρ d' L'=>BI ρ [(0,pZ bt),(1,vZ k),(3,vZ i),(7,pZ b7),(9,pZ b9),(10,pZ b10)]∧¬(n.kids[i]=m.page∧m.other<0)∧d=d'∧L'=[bx b10 T10 [vZ 0,vZ 0,.slice none 0 0,vZ 0],bx b9 T9 [vZ m.page,vZ m.other,.slice ua m.key.length uc,vZ m.size],bx b7 T7 [.bool n.leaf,.slice xa n.keys.length xc,.slice ya n.vals.length yc,.slice (some ⟨b1,0,none⟩) n.kids.length c1],hk,hv,bx b1 T1 l1,tb bt Tt pv r h c]++L) ?_ ?_
 ·by_cases hB1:n.kids[i]=m.page
  ·by_cases hA2:m.other<0
   ·have hF:BJ s k n i m=(s,⟨k, -1,[],AY n⟩,0):=by unfold BJ;rw[hg0,if_pos ⟨hB1,hA2⟩]
    rw[hF];apply Af;refine Bv [_,_,_,_,_,_,_] L rfl ?_;(refine Ai rfl<|Ag rfl (Aj 2 rfl rfl)<|Ab rfl<|Bz _ rfl rfl rfl (by omega)<|Ag rfl (Aj 5 rfl (by assumption))<|Ai rfl<|Ag rfl (Aj 1 rfl rfl)<|AO rfl rfl<|Ae rfl<|Bp rfl (by omega)<|Ah rfl<|Ai rfl<|Ah rfl<|Ag rfl (Aj 1 rfl rfl)<|Ah rfl<|AE rfl rfl<|AI rfl rfl<|A9<|Ax rfl (by omega)<|Ad<|Ab rfl<|Bh 2 rfl rfl rfl ?_);refine Jy rfl (v:=vZ (AY n)) (fun d1 hl1 hk1=>h1 (hn.IT hl1 (hk1 _ (by simp)) (hk1 _ (by simp)) (hk1 _ (by simp))) (hfit.small (by omega)).1) ?_;(apply BR;rfl);refine Bn 0 rfl rfl rfl rfl (Adi _) rfl ?_;(refine Ab rfl<|Aa<|An ?_);exact Bd [mdV ⟨k, -1,[],AY n⟩ none 0,vZ 0] ⟨AV 0 rfl rfl rfl,As rfl,trivial⟩ (d':=d) (L':=tb bt Tt pv r h c::L) (Vs.drop (.cons _ (.cons _ (.cons _ (.cons _ (.cons _ (.cons _ (Adb _)))))))) ⟨Le.refl _,none,0,L,rfl,RSl.nil,rfl,hp⟩
   ·apply Af;refine Bv [_,_,_,_,_,_,_] L rfl ?_;(refine Ai rfl<|Ag rfl (Aj 2 rfl rfl)<|Ab rfl<|Bz _ rfl rfl rfl (by omega)<|Ag rfl (Aj 5 rfl (by assumption))<|Ai rfl<|Ag rfl (Aj 1 rfl rfl)<|AO rfl rfl<|Ae rfl<|Bp rfl (by omega)<|Ah rfl<|Ai rfl<|Ah rfl<|Ag rfl (Aj 1 rfl rfl)<|Ah rfl<|AE rfl rfl<|AI rfl rfl<|A9<|Ar rfl (by omega)<|Ak ?_);exact⟨⟨rfl,rfl,rfl,rfl,rfl,rfl,trivial⟩,fun q=>hA2 q.2,rfl,rfl⟩
  ·apply Af;refine Bv [_,_,_,_,_,_,_] L rfl ?_;(refine Ai rfl<|Ag rfl (Aj 2 rfl rfl)<|Ab rfl<|Bz _ rfl rfl rfl (by omega)<|Ag rfl (Aj 5 rfl (by assumption))<|Ai rfl<|Ag rfl (Aj 1 rfl rfl)<|AO rfl rfl<|Ae rfl<|Bf rfl (by omega)<|Aq rfl<|Aq rfl<|Aq rfl<|Aw rfl rfl<|A9<|AS rfl<|Ak ?_);exact⟨⟨rfl,rfl,rfl,rfl,rfl,rfl,trivial⟩,fun q=>hB1 q.1,rfl,rfl⟩
 rintro ρ d' L' ⟨hsl,hA,hdd,hLL⟩;subst hdd;subst hLL;refine Dw _ hsl ?_;have hF:BJ s k n i m=if 0≤m.other then AW s k {n with keys:=B1 n.keys i m.key,kids:=B1 (n.kids.set i m.page) (i+1) m.other} else AW s k {n with kids:=n.kids.set i m.page}:=by unfold BJ;rw[hg0,if_neg hA]
 rw[hF];clear hF hA;have hrow:=hset [vZ m.page] m.page rfl ⟨rfl,by omega,by omega⟩;have hrl:=hrow.val;generalize hT:(if 0≤m.other then AW s k {n with keys:=B1 n.keys i m.key,kids:=B1 (n.kids.set i m.page) (i+1) m.other} else AW s k {n with kids:=n.kids.set i m.page})=T;(refine Ad<|Ai rfl<|Ag rfl (Aj 2 rfl rfl)<|Ab rfl<|Ai rfl<|Ag rfl (Aj 1 rfl rfl)<|Bz _ rfl rfl rfl (by omega) ?_);refine A6 5 (patch l1 (i*1) [vZ m.page]) rfl rfl rfl rfl (by omega) rfl rfl ?_;apply Aa;refine Gc (fun ρ d' L'=>Le d d'∧∃cs' n' hk' hv' hi' Lr,BI ρ [(0,pZ bt),(1,vZ k),(7,pZ b7),(10,pZ b10)]∧DU d' cs' n' hk' hv' hi'∧Fit n' 1001∧AW s k n'=T∧Lr.Perm [hk',hv',hi']∧
  L'=bx b10 T10 [vZ 0,vZ 0,.slice none 0 0,vZ 0]::bx b9 T9 [vZ m.page,vZ m.other,.slice ua m.key.length uc,vZ m.size]::bx b7 T7 cs'::(Lr++tb bt Tt pv r h c::L)) ?_ ?_
 ·by_cases ho:0≤m.other
  ·rw[if_pos ho] at hT;have hi2:=hi1 ho;have hfi:=hfit.i;have hfk:=hfit.k;(refine Ad<|Ai rfl<|Ag rfl (Aj 1 rfl rfl)<|DV rfl rfl<|Aa<|Ax rfl (by omega) ?_);refine Bv [_,_,_] (hk::hv::bx b1 T1 (patch l1 (i*1) [vZ m.page])::tb bt Tt pv r h c::L) rfl ?_;(refine Ai rfl<|Ag rfl (Aj 2 rfl rfl)<|Ab rfl<|Ai rfl<|Ag rfl (Aj 1 rfl rfl)<|Ai rfl<|Ag rfl (Aj 2 rfl rfl)<|Ab rfl<|AL rfl rfl (by omega) (by omega)<|Ai rfl<|Ag rfl (Aj 1 rfl rfl) ?_);refine GK (α:=Nat×TypeId) (β:=Option Addr×Nat×Ac) [(0,pZ bt),(1,vZ k),(7,pZ b7),(10,pZ b10),(46,.slice (some ⟨b1,0,none⟩) n.kids.length c1),(48,vZ ((i:Int)+1))]
    (fun x=>[(51,.slice (some ⟨x.1,0,none⟩) 1 1)]) (fun x d L=>L=[bx x.1 x.2 [vZ m.other]]) (fun y=>[(44,.slice y.1 (n.keys.length+1) y.2.1),(53,.pointer (some ⟨b7,1,none⟩))])
    (fun y d' M=>Ap 1 RBs d' (.slice y.1 (n.keys.length+1) y.2.1) (B1 n.keys i m.key) y.2.2∧M=y.2.2::hv::bx b1 T1 (patch l1 (i*1) [vZ m.page])::tb bt Tt pv r h c::L) [] _ rfl
    (fun x d d' M hl h=>h) (fun y d d' M hl h=>⟨h.1.En hl,h.2⟩) (fun x=>rfl) (fun y=>rfl) rfl ⟨rfl,rfl,rfl,rfl,rfl,rfl,trivial⟩ ?_ ?_ ?_
   ·refine D5 (v0:=vZ m.other) rfl rfl (fun b51 T51=>?_);(apply A9);exact⟨_,rfl,(b51,T51),⟨rfl,trivial⟩,rfl⟩
   ·refine D5 (v0:=.slice ua m.key.length uc) rfl rfl (fun b43 T43=>?_);refine DN (A:=[_,_]) rfl rfl (h2 r1 hi2 (by omega) ⟨_,rfl,hmk⟩ FL) (fun v d1 L1 hl1 ⟨e0,h',e1,hg⟩=>?_);subst e0;subst e1;have hgl:=Fk (y:=m.key) hi2;obtain⟨ga,gc,rfl⟩:=hg.val;rw[hgl] at hg⊢;(refine Ai rfl<|A9 ?_);exact⟨_,rfl,(ga,gc,h'),⟨rfl,rfl,trivial⟩,hg,rfl⟩
   ·rintro⟨b51,T51⟩ ⟨ga,gc,h44⟩ ρ2 d2 M1 M2 hl2 hM1 ⟨hg44,hM2⟩;subst hM1;subst hM2;simp only at hg44⊢;refine Dh (A:=[bx b51 T51 [vZ m.other],bx b1 T1 (patch l1 (i*1) [vZ m.page])]) (h3 (i:=i+1) (y:=m.other) (hrow.Hk hl2) (by simp;omega) (by simp;omega) ⟨rfl,by omega,by omega⟩ CX) (Ads _ (Aep (l₁:=[_,_]))) rfl (fun v d3 L3 hl3 ⟨e0,h52,e1,hg52⟩=>?_);subst e0;subst e1;obtain⟨za,zc,rfl⟩:=hg52.val;refine⟨_,_,Vs.refl _ _,?_⟩
    apply Ch;refine A6 2 [.bool n.leaf,.slice ga (n.keys.length+1) gc,.slice ya n.vals.length yc,.slice (some ⟨b1,0,none⟩) n.kids.length c1] rfl rfl rfl rfl (Ada rfl) rfl rfl ?_;(apply Ai;rfl);refine A6 2 [.bool n.leaf,.slice ga (n.keys.length+1) gc,.slice ya n.vals.length yc,.slice za (B1 (n.kids.set i m.page) (i+1) m.other).length zc] rfl rfl rfl rfl (Ada rfl) rfl rfl ?_;(apply Aa);refine⟨hl2,_,{n with keys:=B1 n.keys i m.key,kids:=B1 (n.kids.set i m.page) (i+1) m.other},h44,hv,h52,[_,_,_],⟨rfl,rfl,rfl,rfl,trivial⟩,⟨_,_,_,rfl,hg44,r2.En hl2,hg52⟩,⟨?_,?_,?_,fun x hx=>?_,hfit.vl⟩,hT,Adl (l₁:=[_]) (l₂:=[_,_]),rfl⟩
    ·show(B1 n.keys i m.key).length≤_;rw[Fk hi2];omega
    ·exact Nat.le_succ_of_le hfit.v
    ·show(B1 (n.kids.set i m.page) (i+1) m.other).length≤_;rw[Fk (by simp;omega),Aen];omega
    ·rcases Kk hx with rfl|hx
     ·exact hm5
     ·exact hfit.kl x hx
  ·rw[if_neg ho] at hT;(refine Ad<|Ai rfl<|Ag rfl (Aj 1 rfl rfl)<|DV rfl rfl<|Aa<|Ar rfl (by omega)<|Ak ?_);obtain⟨za,zc,hza⟩:=hrl;exact⟨Le.refl _,_,{n with kids:=n.kids.set i m.page},hk,hv,_,[_,_,_],⟨rfl,rfl,rfl,rfl,trivial⟩,⟨_,_,_,rfl,r1,r2,hrow⟩,⟨Nat.le_succ_of_le hfit.k,Nat.le_succ_of_le hfit.v,by simp only[Aen];exact Nat.le_succ_of_le hfit.i,hfit.kl,hfit.vl⟩,hT,Aeq _,rfl⟩
 rintro ρ d' L' ⟨hle,cs',n',hk',hv',hi',Lr,hsl,hn',hfit',hT',hpm,hLL⟩;subst hLL;subst hT';obtain⟨ka,kc,va,vc,ia,ic,rfl⟩:=hn'.cells;refine Dw _ hsl ?_;obtain⟨d2,hl2,v2,hn2⟩:=FK hn';(refine Ad<|Am rfl<|Ab rfl<|Bh 2 rfl rfl rfl ?_);refine B9 _ _ (Vs.out [_,_,_] _ hpm v2) ?_;refine A7 [_,_,_] (h4 (k:=k) (hp.mono (hle.trans hl2)) hn2 (hfit'.small (by omega))) rfl rfl (fun v d4 L4 hl4 ⟨_,wa,wc,L5,e4,hk4,e5,hp5⟩=>?_);subst e4;subst e5;(refine Ao rfl rfl<|Ao rfl rfl ?_);refine Bn 0 rfl rfl rfl rfl (Adi _) rfl ?_;(refine Ab rfl<|Aa<|An ?_);exact Bd [mdV (AW s k n').2.1 wa wc,vZ (AW s k n').2.2] ⟨AV 0 rfl rfl rfl,As rfl,trivial⟩ (d':=d4) (L':=tb bt Tt pv r h c::L5) (Vs.drop (.cons _ (.cons _ (.cons _ (Adb _))))) ⟨(hle.trans hl2).trans hl4,wa,wc,L5,rfl,hk4,rfl,hp5⟩
end Go.Gk.Tre
end
section
namespace Go.Gk.Tre
open Go Go.Gk Go.Gk.Dev Go.Gk.Cch Go.Gk.Pgr Go.Gk.Chn Go.Gk.Node
variable{n:Az}
section
def FM{s}(h:Pgr.Good s):Pgr.Good s.AX.1:=by
 unfold PD.AX;cases q:Db 0 s.kinds with
 |none=>exact h
 |some i=>
  obtain⟨a,b,c,e,g⟩:=h.kds (ks:=s.kinds.set i 1) rfl (by decide) (by decide)
  exact⟨a,b,c,e,g⟩
def IA{s}(h:Pgr.Good s)(k:Int)(b:Sec):Pgr.Good (s.put k b).1:=by
 unfold PD.put;split
 ·split
  ·exact⟨h.one,h.len,h.inn,h.syn,h.kd⟩
  ·exact h
 ·exact h
def IZ{s}(h:Pgr.Good s)(k:Int):Pgr.Good (s.drop k).1:=by
 unfold PD.drop;split
 ·exact h.kds rfl (by decide) (by decide)
 ·split
  ·exact h.kds rfl (by decide) (by decide)
  ·exact h
def QB{s}(h:Pgr.Good s){k:Int}:Pgr.Good (Br s k n).1:=by
 unfold Br;split
 ·split
  ·exact IA h _ _
  ·split
   ·exact FM h
   ·split
    ·split
     ·exact IZ (FM h) _
     ·exact IA (IZ (FM h) _) _ _
    ·exact IA (FM h) _ _
 ·exact h
def Oz{s}(h:Pgr.Good s){k:Int}(h0: -1≤k)(h1:k≤16384): -1≤(Br s k n).2.1∧(Br s k n).2.1≤16384:=by
 have ht:=Rh h;have hz: -1≤(0:Int)∧(0:Int)≤16384:=by decide
 have ht': -1≤s.AX.2.1∧s.AX.2.1≤16384:=by omega
 unfold Br;split
 ·split
  ·exact⟨h0,h1⟩
  ·split
   ·exact hz
   ·split
    ·split
     ·exact hz
     ·exact ht'
    ·exact ht'
 ·exact hz
def LH(h:Bm n=true):∀x∈n.kids,0≤x∧x≤8191:=by
 simp only[Bm,A0,Adc] at h;intro x hx;cases hl:n.leaf with
 |true=>
  have h2:=h.1.2
  simp only[hl,if_true,Adc,decide_eq_true_eq] at h2
  have:n.kids=[]:=Adn h2.1.2
  rw[this] at hx;cases hx
 |false=>
  have h2:=h.1.2
  simp only[hl,Adk,if_false,Adc,decide_eq_true_eq,Adv] at h2
  have:=h2.2 x hx
  simpa [Gj] using this
def Xz(h:∀x∈n.keys,x.length≤1000):(BD n).length≤1000:=by
 unfold BD;split
 ·exact P4 h _
 ·simp
def Ej:MOk Co:=⟨by decide,by decide,by decide,by decide,by decide⟩
def Hc{s}(h:Pgr.Good s){k:Int}(h0: -1≤k)(h1:k≤16384)(hk:∀x∈n.keys,x.length≤1000):MOk (AW s k n).2.1:=by
 unfold AW;split
 ·obtain⟨a,b⟩:=Oz h (n:=n) h0 h1;exact⟨a,b,(by decide:(-1:Int)≤ -1),(by decide:(-1:Int)≤16384),Aej _⟩
 ·split
  ·show MOk (if (Br s k (AZ n)).2.2=0 then _ else _:PD×MdD×Int).2.1;split
   ·obtain⟨a,b⟩:=Oz h (n:=AZ n) h0 h1;obtain⟨c,e⟩:=Oz (QB h (k:=k) (n:=AZ n)) (k:= -1) (n:=Bc n) (by decide) (by decide);exact⟨a,b,c,e,Xz hk⟩
   ·exact Ej
  ·exact Ej
def Qz{s}(h:Pgr.Good s){k:Int}{i:Nat}{m:MdD}(h0: -1≤k)(h1:k≤16384)(hk:∀x∈n.keys,x.length≤1000)(hm:MOk m):MOk (BJ s k n i m).2.1:=by
 unfold BJ;split
 ·exact⟨h0,h1,(by decide:(-1:Int)≤ -1),(by decide:(-1:Int)≤16384),Aej _⟩
 ·split
  ·refine Hc h h0 h1 (fun x hx=>?_);rcases Kk hx with rfl|hx
   ·exact hm.k
   ·exact hk x hx
  ·exact Hc h h0 h1 hk
def NN{key}:(findD n key).1≤n.keys.length:=by
 have h:low n key≤n.keys.length:=(List.takeWhile_sublist _).length_le;unfold findD;split
 ·exact h
 ·have:=(List.takeWhile_sublist (fun k=>decide (k=key)) (l:=n.keys.drop (low n key))).length_le;rw[Adr] at this;show low n key+_≤_;omega
def NV{key}(h:(findD n key).2=true):(findD n key).1<n.keys.length:=by
 unfold findD at h⊢;split
 ·rename_i hl;rw[if_pos hl] at h;simp only[Adc,decide_eq_true_eq] at h;exact h.1
 ·rename_i hl;rw[if_neg hl] at h;cases h
section
variable {s:PD}{k:Int}{key cell:List UInt8}{x:Nat}
def Hq{h:Int}(e:(AT s k h).2=0):Bm (AT s k h).1=true∧(AT s k h).1.leaf=decide (h=1):=by
 unfold AT at e⊢;by_cases q:(Bk s k).2=0∧(Bk s k).1.leaf≠decide (h=1)
 ·rw[if_pos q] at e;exact absurd (show(200:Int)=0 from e) (by decide)
 ·rw[if_neg q] at e;exact⟨Np e,Classical.byContradiction fun w=>q ⟨e,w⟩⟩
def Yo(h:(AT s k ((x+1:Nat):Int)).2≠0):Cb s k key cell (x+1)=(s,Co,false,(AT s k ((x+1:Nat):Int)).2):=by
 rw[Cb];exact if_pos h
def UR(h:(AT s k ((0+1:Nat):Int)).2=0)(hn:(AT s k ((0+1:Nat):Int)).1=n){i:Nat}(hf:findD n key=(i,true)):
  Cb s k key cell (0+1)=if (BP s (n.vals.getD i [])).2≠0 then((BP s (n.vals.getD i [])).1,Co,false,(BP s (n.vals.getD i [])).2) else
   ((AW (BP s (n.vals.getD i [])).1 k {n with vals:=n.vals.set i cell}).1,(AW (BP s (n.vals.getD i [])).1 k {n with vals:=n.vals.set i cell}).2.1,false,(AW (BP s (n.vals.getD i [])).1 k {n with vals:=n.vals.set i cell}).2.2):=by
 subst hn
 rw[Cb]
 refine(if_neg (fun q=>q h)).trans ((if_pos rfl).trans ((if_pos (by rw[hf])).trans ?_))
 rw[hf]
def Uy(h:(AT s k ((0+1:Nat):Int)).2=0)(hn:(AT s k ((0+1:Nat):Int)).1=n){i:Nat}(hf:findD n key=(i,false)):
  Cb s k key cell (0+1)=((AW s k {n with keys:=B1 n.keys i key,vals:=B1 n.vals i cell}).1,(AW s k {n with keys:=B1 n.keys i key,vals:=B1 n.vals i cell}).2.1,true,(AW s k {n with keys:=B1 n.keys i key,vals:=B1 n.vals i cell}).2.2):=by
 subst hn
 rw[Cb]
 refine(if_neg (fun q=>q h)).trans ((if_pos rfl).trans ((if_neg (by rw[hf];exact Ais)).trans ?_))
 rw[hf]
def OU(h:(AT s k ((x+1+1:Nat):Int)).2=0)(hn:(AT s k ((x+1+1:Nat):Int)).1=n){i:Nat}{b:Bool}(hf:findD n key=(i,b)):
  Cb s k key cell (x+1+1)=if (Cb s (n.kids.getD i 0) key cell (x+1)).2.2.2≠0 then((Cb s (n.kids.getD i 0) key cell (x+1)).1,Co,false,(Cb s (n.kids.getD i 0) key cell (x+1)).2.2.2) else
   ((BJ (Cb s (n.kids.getD i 0) key cell (x+1)).1 k n i (Cb s (n.kids.getD i 0) key cell (x+1)).2.1).1,(BJ (Cb s (n.kids.getD i 0) key cell (x+1)).1 k n i (Cb s (n.kids.getD i 0) key cell (x+1)).2.1).2.1,(Cb s (n.kids.getD i 0) key cell (x+1)).2.2.1,(BJ (Cb s (n.kids.getD i 0) key cell (x+1)).1 k n i (Cb s (n.kids.getD i 0) key cell (x+1)).2.1).2.2):=by
 subst hn
 rw[Cb]
 refine(if_neg (fun q=>q h)).trans ((if_neg (Aeh _)).trans ?_)
 rw[hf]
def Yb(h:(AT s k ((x+1:Nat):Int)).2≠0):BK s k key (x+1)=(s,Co,false,(AT s k ((x+1:Nat):Int)).2):=by
 rw[BK];exact if_pos h
def MA(h:(AT s k ((0+1:Nat):Int)).2=0)(hn:(AT s k ((0+1:Nat):Int)).1=n){i:Nat}(hf:findD n key=(i,true)):
  BK s k key (0+1)=if (BP s (n.vals.getD i [])).2≠0 then((BP s (n.vals.getD i [])).1,Co,false,(BP s (n.vals.getD i [])).2) else
   ((AW (BP s (n.vals.getD i [])).1 k {n with keys:=n.keys.eraseIdx i,vals:=n.vals.eraseIdx i}).1,(AW (BP s (n.vals.getD i [])).1 k {n with keys:=n.keys.eraseIdx i,vals:=n.vals.eraseIdx i}).2.1,true,(AW (BP s (n.vals.getD i [])).1 k {n with keys:=n.keys.eraseIdx i,vals:=n.vals.eraseIdx i}).2.2):=by
 subst hn
 rw[BK]
 refine(if_neg (fun q=>q h)).trans ((if_pos rfl).trans ((if_pos (by rw[hf])).trans ?_))
 rw[hf]
def U2(h:(AT s k ((0+1:Nat):Int)).2=0)(hn:(AT s k ((0+1:Nat):Int)).1=n){i:Nat}(hf:findD n key=(i,false)):BK s k key (0+1)=(s,⟨k, -1,[],256⟩,false,0):=by
 subst hn;rw[BK];exact(if_neg (fun q=>q h)).trans ((if_pos rfl).trans (if_neg (by rw[hf];exact Ais)))
def HX(h:(AT s k ((x+1+1:Nat):Int)).2=0)(hn:(AT s k ((x+1+1:Nat):Int)).1=n){i:Nat}{b:Bool}(hf:findD n key=(i,b)){u:PD×MdD×Bool×Int}(hu:BK s (n.kids.getD i 0) key (x+1)=u):
  BK s k key (x+1+1)=if u.2.2.2≠0∨u.2.2.1=false then(u.1,⟨k, -1,[],256⟩,u.2.2.1,u.2.2.2) else
   if u.2.1.other<0∧u.2.1.size<80 then((C1 u.1 k {n with kids:=n.kids.set i u.2.1.page} i).1,(C1 u.1 k {n with kids:=n.kids.set i u.2.1.page} i).2.1,true,(C1 u.1 k {n with kids:=n.kids.set i u.2.1.page} i).2.2)
   else((BJ u.1 k n i u.2.1).1,(BJ u.1 k n i u.2.1).2.1,true,(BJ u.1 k n i u.2.1).2.2):=by
 subst hn;subst hu
 rw[BK]
 refine(if_neg (fun q=>q h)).trans ((if_neg (Aeh _)).trans ?_)
 rw[hf]
 by_cases q:(BK s ((AT s k ((x+1+1:Nat):Int)).1.kids.getD i 0) key (x+1)).2.2.2≠0∨(BK s ((AT s k ((x+1+1:Nat):Int)).1.kids.getD i 0) key (x+1)).2.2.1=false
 ·rw[if_pos q,if_pos q]
 ·rw[if_neg q,if_neg q]
  split<;>rfl
end
end
end Go.Gk.Tre
end
section
namespace Go.Gk.Tre
open Go Go.Gk Go.Gk.Dev Go.Gk.Cch Go.Gk.Pgr Go.Gk.Chn Go.Gk.Node
attribute [local irreducible] gwp gws xwp
variable{n:Az}
section
def U3{s}{n:Nat}{c}:DQ {s with tc:=n} c=DQ s c:=by unfold DQ;rw[show Chn.Bw {s with tc:=n} (DR c) (Dt c)=Chn.Bw s (DR c) (Dt c) from NS]
def AbX{P f}(h:Kr P f){d s}{n:Nat}{dv pv w L}{bt:Nat}{Tt}{r h' c:Int}{b}(hp:Pg d {s with tc:=n} dv pv L)(hw:AM d w b):
  Av P f [pZ bt,w] d (tb bt Tt pv r h' c::L) (Ret fun v d' L'=>Le d d'∧∃u L2 tc,v=.tuple #[u,vZ (DQ s b).2]∧L'=tb bt Tt pv r h' c::L2∧AM d' u (DQ s b).1∧Pg d' {s with tc:=tc} dv pv L2∧((DQ s b).2=0→tc=n+Gs b)):=by
 refine Av.DL (h hp hw) (fun r d' L' _ ⟨q0,u,L2,tc,q1,q2,q3,q4,q5⟩=>⟨d',L',Vs.refl _ _,?_⟩)
 rw[U3] at q1 q3 q5
 exact⟨q0,u,L2,tc,q1,q2,q3,q4,q5⟩
def Ec(t:TD)(key:List UInt8):List UInt8×Bool×Int:=if BV key≠0 then([],false,BV key) else EW t.s key t.root t.height
def Mh(P:Program)(f:FuncId):Prop:=∀{d}{t:TD}{dv pv kv L}{bt:Nat}{Tt key},Pg d t.s dv pv L→AM d kv key→t.height≤1000000→
 Av P f [pZ bt,kv] d (tbD bt Tt pv t::L) (Ret fun v d' L'=>Le d d'∧∃u L2 tc,v=.tuple #[u,.bool (Ec t key).2.1,vZ (Ec t key).2.2]∧AM d' u (Ec t key).1∧L'=tbD bt Tt pv t::L2∧Pg d' {t.s with tc:=tc} dv pv L2∧
  (BV key=0→(Ec t key).2.2=0→tc=t.s.tc+He t.s key t.root t.height))
section
variable {s:PD}{k:Int}{key:List UInt8}{x:Nat}
def YG(h:(AT s k ((x+1:Nat):Int)).2≠0):EW s key k (x+1)=([],false,(AT s k ((x+1:Nat):Int)).2):=by
 rw[EW];exact if_pos h
def U4(h:(AT s k ((0+1:Nat):Int)).2=0)(hn:(AT s k ((0+1:Nat):Int)).1=n){i:Nat}(hf:findD n key=(i,true)):
  EW s key k (0+1)=((DQ s (n.vals.getD i [])).1,decide ((DQ s (n.vals.getD i [])).2=0),(DQ s (n.vals.getD i [])).2)∧He s key k (0+1)=1+Gs (n.vals.getD i []):=by
 subst hn
 rw[EW,He]
 refine⟨(if_neg (fun q=>q h)).trans ((if_pos rfl).trans ((if_pos (by rw[hf])).trans ?_)),(if_pos rfl).trans ((if_pos (by rw[hf])).trans ?_)⟩
 ·rw[hf]
 ·rw[hf]
def UM(h:(AT s k ((0+1:Nat):Int)).2=0)(hn:(AT s k ((0+1:Nat):Int)).1=n){i:Nat}(hf:findD n key=(i,false)):EW s key k (0+1)=([],false,0)∧He s key k (0+1)=1:=by
 subst hn;rw[EW,He];exact⟨(if_neg (fun q=>q h)).trans ((if_pos rfl).trans (if_neg (by rw[hf];exact Ais))),(if_pos rfl).trans (if_neg (by rw[hf];exact Ais))⟩
def OM(h:(AT s k ((x+1+1:Nat):Int)).2=0)(hn:(AT s k ((x+1+1:Nat):Int)).1=n){i:Nat}{b:Bool}(hf:findD n key=(i,b)):
  EW s key k (x+1+1)=EW s key (n.kids.getD i 0) (x+1)∧He s key k (x+1+1)=1+He s key (n.kids.getD i 0) (x+1):=by
 subst hn
 rw[EW,He]
 refine⟨(if_neg (fun q=>q h)).trans ((if_neg (Aeh _)).trans ?_),(if_neg (Aeh _)).trans ?_⟩
 ·rw[hf]
 ·rw[hf]
end
def Pe(a0 a1 a2 a3:Nat):A5:=⟨71,[(.tmp 4),(.tmp 5),(.tmp 6)],(sR (o1 4 (.mv nS)<|o1 5 (.mv (.const (.bool false)))<|o1 6 (.mv z0) .done) (.seq (sR (om 14 0<|om 15 1<|oc 16 a0 [14,15]<|om 7 16 .done) (sR (om 17 7<|ob 18 .neq 17 z0 .done) (.cond 18 (sR (om 19 7<|o1 4 (.mv nS)<|o1 5 (.mv (.const (.bool false)))<|om 6 19 .done) .ret) .skip))) (sR (om 20 0<|o1 21 (.nilc 20)<|oj 22 1 21<|ol 23 22<|om 8 23 .done) (.seq (sR (om 24 0<|o1 25 (.nilc 24)<|oj 26 2 25<|ol 27 26<|om 9 27 .done) (.block 0 (.loop (.seq (sR (om 28 9<|ob 29 .gtr 28 z0 .done) (.cond 29 .skip (.exit 0))) (.seq (.block 1 (sR (om 33 0<|om 34 8<|om 35 9<|oc 36 a1 [33,34,35]<|om 32 36<|oe 37 32 0<|oe 38 32 1<|o1 10 (.alo (.agg #[(.bool false),(.slice none 0 0),(.slice none 0 0),(.slice none 0 0)]))<|o0 (.st 4 10 37)<|om 11 38 .done) (.seq (sR (om 39 11<|ob 40 .neq 39 z0 .done) (.cond 40 (sR (om 41 11<|o1 4 (.mv nS)<|o1 5 (.mv (.const (.bool false)))<|om 6 41 .done) .ret) .skip)) (sR (o1 43 (.ld (some 4) 10)<|om 44 1<|oc 45 a2 [43,44]<|om 42 45<|oe 46 42 0<|oe 47 42 1<|om 12 46<|om 13 47 .done) (.seq (sR (om 48 9<|ob 49 .gtr 48 z1 .done) (.cond 49 (sR (oj 50 3 10<|ol 51 50<|om 52 12<|oI 53 1 51 52<|ol 54 53<|om 8 54 .done) (.exit 1)) .skip)) (.seq (sR (om 55 13<|o1 56 (.un .not 55) .done) (.cond 56 (sR (o1 4 (.mv nS)<|o1 5 (.mv (.const (.bool false)))<|o1 6 (.mv z0) .done) .ret) .skip)) (sR (om 58 0<|oj 59 2 10<|ol 60 59<|om 61 12<|oI 62 1 60 61<|ol 63 62<|oc 64 a3 [58,63]<|om 57 64<|oe 65 57 0<|oe 66 57 1<|om 4 65<|om 11 66 .done) (sR (om 67 4<|om 68 11<|ob 69 .eql 68 z0<|om 70 11<|om 4 67<|om 5 69<|om 6 70 .done) .ret)))))))) (rG (om 30 9<|ob 31 .sub 30 z1<|om 9 31 .done))))))) (sR (o1 4 (.mv nS)<|o1 5 (.mv (.const (.bool false)))<|o1 6 (.mv z0) .done) .ret)))))⟩
set_option maxRecDepth 4000 in
set_option maxHeartbeats 4000000 in
def Abg{P f f1 f2 f3 f4}(hd:dec P f=some (Pe f1 f2 f3 f4))(h1:KN P f1)(h2:G5 P f2)(h3:JB P f3 findD)(h4:Kr P f4):Mh P f:=by
 intro d t dv pv kv L bt Tt key hp hk hh;obtain⟨bp,rfl⟩:=hp.ptr;obtain⟨ka,kc,rfl⟩:=hk.val;obtain⟨s,root,height,count⟩:=t;simp only at hp hh;refine AF hd (Ada rfl) ?_;show gwp P _ _ _ _ _;(refine Ad<|Al rfl<|Ae rfl<|Ab rfl<|Aa<|Af<|Ad<|Am rfl<|Al rfl ?_);refine A7 [] (h1 (L:=L) hk) rfl rfl (fun v d2 L2 _ ⟨e1,e2,e3⟩=>?_);subst e1;subst e2;subst e3;by_cases hw:BV key=0
 ·have hF:Ec ⟨s,root,height,count⟩ key=EW s key root height:=by unfold Ec;rw[if_neg (fun q=>q hw)]
  rw[hF,hw];show gws P _ _ _ _ _ _ _;(refine Ab rfl<|Aa<|Ad<|Ab rfl<|AN rfl rfl<|Aa<|Ar rfl (by omega)<|Ak<|Ad<|Am rfl<|Au rfl<|Ai rfl<|Ag rfl (Aj 0 rfl rfl)<|Ab rfl<|Aa<|Af<|Ad<|Am rfl<|Au rfl<|Ai rfl<|Ag rfl (Aj 0 rfl rfl)<|Ab rfl<|Aa<|Ay ?_);refine CB (α:=Nat×Int) (fun x=>[(0,pZ bt),(1,.slice ka key.length kc),(8,vZ x.2),(9,vZ x.1)])
   (fun x d' L'=>Le d2 d'∧x.1≤height∧EW s key root height=EW s key x.2 x.1∧∃J L2 tc,L'=J++tb bt Tt (pZ bp) root height count::L2∧Pg d' {s with tc:=tc} dv (pZ bp) L2∧tc+He s key x.2 x.1=s.tc+He s key root height)
   (fun x=>x.1) (height,root) ⟨rfl,rfl,rfl,rfl,trivial⟩ ⟨Le.refl _,Adi _,rfl,[],L,s.tc,rfl,hp,rfl⟩ ?_
  rintro⟨h,page⟩ ρ d' L' ⟨hle,hhh,hgt,J,L3,tc,rfl,hp3,htt⟩;simp only at hhh hgt hp3 htt⊢;by_cases hz:h=0
  ·subst hz;rw[hgt,EW];rw[He] at htt;(refine Af<|Ad<|Ab rfl<|BW rfl rfl<|Aa<|Ar rfl (by omega)<|Bg<|Ad<|Al rfl<|Ae rfl<|Ab rfl<|Aa<|An ?_);exact Bd [.slice none 0 0,.bool false,vZ 0] ⟨As rfl,As rfl,As rfl,trivial⟩ (d':=d') (L':=tb bt Tt (pZ bp) root height count::L3) (Vs.drop (Afc J _)) ⟨hle,_,L3,tc,rfl,RSl.nil,rfl,hp3,fun _ _=>htt⟩
  ·obtain⟨x,rfl⟩:∃x,h=x+1:=⟨h - 1,by omega⟩
   (refine Af<|Ad<|Ab rfl<|BW rfl rfl<|Aa<|Ax rfl (by omega)<|Ak<|Af<|Ay<|Ad<|Am rfl<|Ab rfl<|Ab rfl ?_);refine A7 J (h2 (k:=page) (x:=((x+1:Nat):Int)) hp3) rfl rfl (fun v d4 L4 hl4 ⟨_,cs,hk4,hv4,hi4,L5,tc5,e1,e2,hn,hp5,htc5⟩=>?_);subst e1;subst e2;rw[show AT {s with tc:=tc} page ((x+1:Nat):Int)=AT s page ((x+1:Nat):Int) from rfl] at hn htc5⊢;have hp5:Pg d4 {s with tc:=tc5} dv (pZ bp) L5:=hp5;have htc5:(AT s page ((x+1:Nat):Int)).2=0→tc5=tc+1:=htc5;obtain⟨d6,hl6,v6,hn6⟩:=FK hn;have hp6:=hp5.mono hl6;refine B9 _ _ (Vs.out (M:=[_,_,_]) J _ (Aeq _) v6) ?_;obtain⟨xa,xc,ya,yc,za,zc,rfl⟩:=CG.four hn6;have hk6:=RSl.mono (R:=AP) A3 hk ((hle.trans hl4).trans hl6);(refine AU rfl<|Ao rfl rfl<|Ao rfl rfl<|B0 (fun _ _=>?_));rename_i b10 T10;refine Bn 0 rfl rfl rfl rfl (Adi _) rfl ?_;by_cases he:(AT s page ((x+1:Nat):Int)).2=0
   ·have htc6:=htc5 he;obtain⟨hr,hlf⟩:=Hq he;obtain⟨n,hne⟩:∃n,(AT s page ((x+1:Nat):Int)).1=n:=⟨_,rfl⟩
    rw[hne] at hn6 hr hlf⊢;obtain⟨i,b,hfd⟩:∃i b,findD n key=(i,b):=⟨_,_,rfl⟩
    have hile:i≤n.keys.length:=by have:=NN (n:=n) (key:=key);rw[hfd] at this;exact this
    rw[he];have hlv:n.leaf=true→n.vals.length=n.keys.length:=JO hr;have hli:n.leaf=false→n.kids.length=n.keys.length+1:=HW hr;clear hr;have hfc:=h3 hn6 hk6;rw[hfd] at hfc;obtain⟨kv,vv,iv,q,r1,r2,r3⟩:=hn6;cases q;(refine Ab rfl<|Aa<|Af<|Ad<|Ab rfl<|AN rfl rfl<|Aa<|Ar rfl (by omega)<|Ak<|Ad<|Bh 0 rfl rfl rfl<|Al rfl ?_);refine BS rfl hfc ?_;(refine AU rfl<|Ao rfl rfl<|Ao rfl rfl<|Ab rfl<|Ae rfl<|Aa ?_);apply Af;apply Af;apply AB;(refine Ab rfl<|BW rfl rfl<|Aa ?_);by_cases hx0:x=0
    ·subst hx0;have hvl:=hlv (by rw[hlf];rfl);clear hlv hli hlf;refine Ar rfl (by omega) ?_;cases b with
     |true=>
      have hilt:i<n.keys.length:=by have:=NV (n:=n) (key:=key) (by rw[hfd]);rw[hfd] at this;exact this
      have hiv:i<n.vals.length:=by omega
      have hgv:n.vals.getD i []=n.vals[i]:=by rw[Adh,Ade hiv];rfl
      obtain⟨hI1,hI2⟩:=U4 he hne hfd
      rw[hgv] at hI1 hI2
      rw[hgt,hI1]
      rw[hI2] at htt
      (refine Ak<|Af<|Ad<|Ae rfl<|Bx rfl<|Aa<|AS rfl<|Ak<|Ad<|Am rfl<|Ai rfl<|Ag rfl (Aj 0 rfl rfl)<|Ab rfl<|BM (sz:=1) (R:=RBs) (by rfl) (by assumption) (by rfl) rfl (by omega) ?_;rintro _ _ _ _ _ ⟨_,rfl,_⟩;apply Ag;rfl;exact B4 (by assumption) rfl)
      refine A7 (_::J) (AbX h4 (b:=n.vals[i]) hp6 (by assumption)) rfl rfl (fun v d7 L7 hl7 ⟨_,u,L8,tc8,e7,e8,hu,hp8,htc8⟩=>?_)
      subst e7;subst e8
      obtain⟨ua,uc,rfl⟩:=hu.val
      generalize DQ s n.vals[i]=V at hu htc8⊢
      (refine AU rfl<|Ao rfl rfl<|Ao rfl rfl<|Al rfl<|Ab rfl<|Aa<|Ad<|Al rfl<|Ab rfl<|AO rfl rfl<|Ab rfl<|Al rfl<|Ae rfl<|Ab rfl<|Aa<|An ?_)
      exact Bd [.slice ua V.1.length uc,.bool (decide (V.2=0)),vZ V.2] ⟨As rfl,As rfl,As rfl,trivial⟩ (d':=d7) (L':=tb bt Tt (pZ bp) root height count::L8) (Vs.drop (.cons _ (Afc J _))) ⟨((hle.trans hl4).trans hl6).trans hl7,_,L8,tc8,rfl,hu,rfl,hp8,fun _ q=>(by have h8:tc8=tc5+Gs n.vals[i]:=htc8 q;omega)⟩
     |false=>
      obtain⟨hI1,hI2⟩:=UM he hne hfd
      rw[hgt,hI1]
      rw[hI2] at htt
      (refine Ak<|Af<|Ad<|Ae rfl<|Bx rfl<|Aa<|Bj rfl<|Ad<|Al rfl<|Ae rfl<|Ab rfl<|Aa<|An ?_)
      exact Bd [.slice none 0 0,.bool false,vZ 0] ⟨As rfl,As rfl,As rfl,trivial⟩ (d':=d6) (L':=tb bt Tt (pZ bp) root height count::L5) (Vs.drop (.cons _ (Afc J _))) ⟨(hle.trans hl4).trans hl6,_,L5,tc5,rfl,RSl.nil,rfl,hp6,fun _ _=>(by omega)⟩
    ·obtain⟨x,rfl⟩:∃y,x=y+1:=⟨x - 1,by omega⟩
     have hil:=hli (by rw[hlf];simp;omega);clear hlv hli hlf;have hii:i<n.kids.length:=by omega
     have hgk:n.kids.getD i 0=n.kids[i]:=by rw[Adh,Ade hii];rfl
     obtain⟨hI1,hI2⟩:=OM (key:=key) he hne hfd;rw[hgk] at hI1 hI2;refine Ax rfl (by omega) ?_;(refine Ad<|Ai rfl<|Ag rfl (Aj 0 rfl rfl)<|Ab rfl<|BM (sz:=1) (R:=Bb) (by rfl) (by assumption) (by rfl) rfl (by omega) ?_;rintro _ _ _ _ _ ⟨rfl,_,_⟩;refine Ag rfl (B4 (by assumption) rfl)<|Ab rfl<|Aa<|Bg<|AB<|Ab rfl<|C6 rfl rfl (by omega) (by omega)<|Ab rfl<|Aa ?_);exact⟨(x+1,n.kids[i]),by simp only;omega,⟨rfl,rfl,rfl,congrArg (Value.int .i64) (by push_cast;omega),trivial⟩,(hle.trans hl4).trans hl6,by simp only;omega,hgt.trans hI1,_::J,L5,tc5,rfl,hp6,by simp only;omega⟩
   ·rw[hgt,YG he];(refine Ab rfl<|Aa<|Af<|Ad<|Ab rfl<|AN rfl rfl<|Aa<|Ax rfl (by omega)<|Ad<|Ab rfl<|Al rfl<|Ae rfl<|Ab rfl<|Aa<|An ?_);exact Bd [.slice none 0 0,.bool false,vZ (AT s page ((x+1:Nat):Int)).2] ⟨As rfl,As rfl,As rfl,trivial⟩ (d':=d6) (L':=tb bt Tt (pZ bp) root height count::L5) (Vs.drop (.cons _ (Afc J _))) ⟨(hle.trans hl4).trans hl6,_,L5,tc5,rfl,RSl.nil,rfl,hp6,fun _ q=>absurd q he⟩
 ·have hF:Ec ⟨s,root,height,count⟩ key=([],false,BV key):=by unfold Ec;rw[if_pos hw]
  rw[hF];(refine Ab rfl<|Aa<|Ad<|Ab rfl<|AN rfl rfl<|Aa<|Ax rfl (by omega)<|Ad<|Ab rfl<|Al rfl<|Ae rfl<|Ab rfl<|Aa<|An ?_);exact Bd [.slice none 0 0,.bool false,vZ (BV key)] ⟨As rfl,As rfl,As rfl,trivial⟩ (d':=d2) (L':=_::L) (Vs.refl _ _) ⟨Le.refl _,_,L,s.tc,rfl,RSl.nil,rfl,hp,fun q=>absurd q hw⟩
end
def ED(rec:Int→List Int×Int):List Int→List Int→List Int×Int
 |acc,[]=>(acc,0)
 |acc,k::ks=>if (rec k).2≠0 then([],(rec k).2) else if 1000000<acc.length+(rec k).1.length then([],99999) else ED rec (acc++(rec k).1) ks
def Ge(s:PD):List Int→List (List UInt8)→List Int×Int
 |acc,[]=>(acc,0)
 |acc,c::cs=>if Ex c=true then(if (Chn.Bw s (DR c) (Dt c)).2.2≠0 then([],(Chn.Bw s (DR c) (Dt c)).2.2) else if 1000000<acc.length+(Chn.Bw s (DR c) (Dt c)).1.length then([],99999) else Ge s (acc++(Chn.Bw s (DR c) (Dt c)).1) cs) else Ge s acc cs
def BX(s:PD):Int→Nat→List Int×Int
 |_,0=>([],99999)
 |k,x+1=>
  if (AT s k ((x+1:Nat):Int)).2≠0 then([],(AT s k ((x+1:Nat):Int)).2) else
  if (ED (fun q=>BX s q x) [k] (AT s k ((x+1:Nat):Int)).1.kids).2≠0 then([],(ED (fun q=>BX s q x) [k] (AT s k ((x+1:Nat):Int)).1.kids).2) else
  Ge s (ED (fun q=>BX s q x) [k] (AT s k ((x+1:Nat):Int)).1.kids).1 (AT s k ((x+1:Nat):Int)).1.vals
def Tv(P:Program)(f:FuncId):Prop:=∀(x:Nat) {d s dv pv L}{bt:Nat}{Tt}{r h c k:Int},x≤1000000→PgT d s dv pv L→ -9223372036854775808≤k→k≤9223372036854775807→(BX s k x).2≠99999→
 Av P f [pZ bt,vZ k,vZ (x:Int)] d (tb bt Tt pv r h c::L) (Ret fun v d' L'=>Le d d'∧∃a cc hb L2,v=.tuple #[.slice a (BX s k x).1.length cc,vZ (BX s k x).2]∧
  Ap 1 Bb d' (.slice a (BX s k x).1.length cc) (BX s k x).1 hb∧L'=hb::tb bt Tt pv r h c::L2∧PgT d' s dv pv L2)
def Ng(a0 a1 a2 a3:Nat):A5:=⟨89,[(.tmp 6),(.tmp 7)],(sR (o1 6 (.mv nS)<|o1 7 (.mv z0) .done) (sR (om 23 0<|om 24 1<|om 25 2<|oc 26 a0 [23,24,25]<|om 22 26<|oe 27 22 0<|oe 28 22 1<|o1 8 (.alo (.agg #[(.bool false),(.slice none 0 0),(.slice none 0 0),(.slice none 0 0)]))<|o0 (.st 4 8 27)<|om 9 28 .done) (.seq (sR (om 29 9<|ob 30 .neq 29 z0 .done) (.cond 30 (sR (om 31 9<|o1 6 (.mv nS)<|om 7 31 .done) .ret) .skip)) (sR (om 32 1<|o1 33 (.bsl 1 1 [(vZ 0)] [(0,32)])<|om 10 33 .done) (.seq (sR (oj 34 3 8<|ol 35 34<|oL 36 35<|o1 37 (.mv z0) .done) (.block 0 (.loop (sR (ob 38 .lss 37 36 .done) (.seq (.cond 38 .skip (.exit 0)) (.seq (.block 1 (sR (oI 39 1 35 37<|ol 40 39<|om 12 40 .done) (sR (om 42 0<|om 43 12<|om 44 2<|ob 45 .sub 44 z1<|oc 46 a1 [42,43,45]<|om 41 46<|oe 47 41 0<|oe 48 41 1<|om 13 47<|om 14 48 .done) (.seq (sR (om 49 14<|ob 50 .neq 49 z0 .done) (.cond 50 (sR (om 51 14<|o1 6 (.mv nS)<|om 7 51 .done) .ret) .skip)) (rG (om 52 10<|om 53 13<|o1 54 (.app 1 8 [(vZ 0)] 52 53)<|om 10 54 .done)))))) (rG (ob 55 .add 37 z1<|om 37 55 .done)))))))) (.seq (sR (oj 56 2 8<|ol 57 56<|oL 58 57<|o1 59 (.mv z0) .done) (.block 2 (.loop (sR (ob 60 .lss 59 58 .done) (.seq (.cond 60 .skip (.exit 2)) (.seq (.block 3 (sR (oI 61 1 57 59<|ol 62 61<|om 16 62 .done) (sR (om 64 16<|oc 65 a2 [64]<|om 63 65<|oe 66 63 0<|oe 67 63 1<|oe 68 63 2<|om 17 66<|om 18 67<|om 19 68 .done) (.seq (sR (om 69 19<|o1 70 (.un .not 69) .done) (.cond 70 (.exit 3) .skip)) (sR (om 72 0<|o1 73 (.nilc 72)<|oj 74 0 73<|ol 75 74<|om 76 17<|om 77 18<|oc 78 a3 [75,76,77]<|om 71 78<|oe 79 71 0<|oe 80 71 1<|om 20 79<|om 21 80 .done) (.seq (sR (om 81 21<|ob 82 .neq 81 z0 .done) (.cond 82 (sR (om 83 21<|o1 6 (.mv nS)<|om 7 83 .done) .ret) .skip)) (rG (om 84 10<|om 85 20<|o1 86 (.app 1 8 [(vZ 0)] 84 85)<|om 10 86 .done)))))))) (rG (ob 87 .add 59 z1<|om 59 87 .done)))))))) (sR (om 88 10<|om 6 88<|o1 7 (.mv z0) .done) .ret)))))))⟩
set_option maxRecDepth 4000 in
set_option maxHeartbeats 8000000 in
def AaR{P f f1 f3 f4}(hd:dec P f=some (Ng f1 f f3 f4))(h1:G5 P f1)(h3:OT P f3)(h4:ML P f4):Tv P f:=by
 intro x;induction x with
 |zero=>intro d s dv pv L bt Tt r h c k _ _ _ _ q;exact absurd rfl q
 |succ x ih=>
 intro d s dv pv L bt Tt r h c k hx hp hk0 hk1 hnp;obtain⟨bp,rfl⟩:=hp.ptr;obtain⟨tc0,hp⟩:=hp;refine AF hd (Ada rfl) ?_;show gwp P _ _ _ _ _;(refine Ad<|Al rfl<|Ab rfl<|Aa<|Ad<|Am rfl<|Ab rfl<|Ab rfl ?_);refine A7 [] (h1 (k:=k) (x:=((x+1:Nat):Int)) hp) rfl rfl (fun v d4 L4 hl4 ⟨_,cs,hk4,hv4,hi4,L5,tc5,e1,e2,hn,hp5,htc5⟩=>?_);subst e1;subst e2;clear htc5;rw[show AT (wtc s tc0) k ((x+1:Nat):Int)=AT s k ((x+1:Nat):Int) from rfl] at hn⊢;have hp5:PgT d4 s dv (pZ bp) L5:=⟨tc5,hp5⟩
 obtain⟨d6,hl6,v6,hn6⟩:=FK hn;have hp6:=hp5.mono hl6;refine B9 _ _ (Vs.out (M:=[_,_,_]) [] _ (Aeq _) v6) ?_;obtain⟨xa,xc,ya,yc,za,zc,rfl⟩:=CG.four hn6;(refine AU rfl<|Ao rfl rfl<|Ao rfl rfl<|B0 (fun _ _=>?_));rename_i b8 T8;refine Bn 0 rfl rfl rfl rfl (Adi _) rfl ?_;by_cases he:(AT s k ((x+1:Nat):Int)).2=0
 ·obtain⟨hr,hlf⟩:=Hq he;have hF:BX s k (x+1)=(if (ED (fun q=>BX s q x) [k] (AT s k ((x+1:Nat):Int)).1.kids).2≠0 then([],(ED (fun q=>BX s q x) [k] (AT s k ((x+1:Nat):Int)).1.kids).2) else
   Ge s (ED (fun q=>BX s q x) [k] (AT s k ((x+1:Nat):Int)).1.kids).1 (AT s k ((x+1:Nat):Int)).1.vals):=by
   rw[BX,if_neg (fun q=>q he)]
  rw[hF] at hnp⊢;clear hF;obtain⟨n,hne⟩:∃n,(AT s k ((x+1:Nat):Int)).1=n:=⟨_,rfl⟩
  rw[hne] at hn6 hr hlf hnp⊢;have hkd:=LH hr;rw[he];clear hr hlf;obtain⟨kv,vv,iv,q,r1,r2,r3⟩:=hn6;cases q;have hkl:=r3.B3;have hvl:=r2.B3;(refine Ab rfl<|Aa<|Af<|Ad<|Ab rfl<|AN rfl rfl<|Aa<|Ar rfl (by omega)<|Ak<|Ad<|Ab rfl ?_);refine D5 (v0:=vZ k) rfl rfl (fun b10 T10=>?_);(refine Al rfl<|Aa<|Af<|Ad<|Ai rfl<|Ag rfl (Aj 1 rfl rfl)<|AK rfl<|Ab rfl<|Aa<|Ay ?_);refine CB (α:=Nat×List Int×Option Addr×Nat) (fun y=>[(0,pZ bt),(2,vZ ((x+1:Nat):Int)),(8,pZ b8),(10,.slice y.2.2.1 y.2.1.length y.2.2.2),(35,.slice za n.kids.length zc),(36,vZ n.kids.length),(37,vZ y.1)])
   (fun y d' L'=>Le d6 d'∧y.1≤n.kids.length∧y.2.1.length≤1000000∧ED (fun q=>BX s q x) [k] n.kids=ED (fun q=>BX s q x) y.2.1 (n.kids.drop y.1)∧∃hb L3,L'=hb::bx b8 T8 [.bool n.leaf,.slice xa n.keys.length xc,.slice ya n.vals.length yc,.slice za n.kids.length zc]::tb bt Tt (pZ bp) r h c::L3∧
    Ap 1 Bb d' (.slice y.2.2.1 y.2.1.length y.2.2.2) y.2.1 hb∧PgT d' s dv (pZ bp) L3) (fun y=>n.kids.length - y.1) (0,[k],some ⟨b10,0,none⟩,1) ⟨rfl,rfl,rfl,rfl,rfl,rfl,rfl,trivial⟩
   ⟨Le.refl _,Aej _,by simp,rfl,_,L5,rfl,Ap.Ep (x:=k) rfl ⟨rfl,hk0,hk1⟩,hp6⟩ ?_
  rintro⟨i,acc,aa,ac⟩ ρ d' L' ⟨hle,hi,hac,hK,hb,L3,rfl,hg,hp7⟩;simp only at hi hac hK hg⊢;have r3':=RSl.mono (R:=Bb) B2 r3 hle;by_cases e:i<n.kids.length
  ·rw[Aei e,ED] at hK;obtain⟨z0,z1⟩:=hkd _ (Aec e);have hnq:(BX s n.kids[i] x).2≠99999:=fun q=>by
    have h0:(BX s n.kids[i] x).2≠0:=by rw[q];decide
    have hK2:=hK.trans (if_pos h0);exact hnp (by rw[hK2,if_pos h0];exact q)
   (refine Ad<|AE rfl rfl<|Aa<|Af<|Ax rfl (by omega)<|Ak<|Af<|Ay<|Ad<|BM (sz:=1) (R:=Bb) (by rfl) (by assumption) (by rfl) rfl (by omega) ?_;rintro _ _ _ _ _ ⟨rfl,_,_⟩;refine Ag rfl (B4 (by assumption) rfl)<|Ab rfl<|Aa<|Ad<|Am rfl<|Ab rfl<|Ab rfl<|C6 rfl rfl (by omega) (by omega) ?_);refine A7 [_,_] (ih (k:=n.kids[i]) (by omega) hp7 (by omega) (by omega) hnq) rfl (by have q:((x+1:Nat):Int) - 1=x:=(by omega);show [Value.pointer (some ⟨bt,0,none⟩),vZ n.kids[i],vZ (((x+1:Nat):Int) - 1)]=_;rw[q]) (fun v d8 L8 hl8 ⟨_,ba,bc,hq,L9,e1,hg9,e2,hp9⟩=>?_);subst e1;subst e2;by_cases hz:(BX s n.kids[i] x).2=0
   ·rw[if_neg (fun q=>q hz)] at hK;rw[hz];have hbig:¬1000000<acc.length+(BX s n.kids[i] x).1.length:=fun q=>by
     have hK2:=hK.trans (if_pos q);exact hnp (by rw[hK2];rfl)
    have hK:=hK.trans (if_neg hbig);(refine AU rfl<|Ao rfl rfl<|Ao rfl rfl<|Al rfl<|Ab rfl<|Aa<|Af<|Ad<|Ab rfl<|AN rfl rfl<|Aa<|Ar rfl (by omega)<|Ak<|AB<|Al rfl<|Al rfl ?_);refine B9 d8 (hq::[hb,bx b8 T8 [.bool n.leaf,.slice xa n.keys.length xc,.slice ya n.vals.length yc,.slice za n.kids.length zc]]++tb bt Tt (pZ bp) r h c::L9) (Vs.perm Aep) ?_;refine D1 (R:=Bb) 0 rfl rfl (Ap.Hk hg hl8) rfl hg9 CX (by omega) (by omega) (by omega) (fun v' h' ho'=>?_);obtain⟨a',c',rfl⟩:=ho'.val;(refine Al rfl<|Aa<|AB<|AL rfl rfl (by omega) (by omega)<|Ab rfl<|Aa ?_);exact⟨(i+1,acc++(BX s n.kids[i] x).1,a',c'),by simp only;omega,⟨rfl,rfl,rfl,rfl,rfl,rfl,rfl,trivial⟩,hle.trans hl8,e,by simp only[Adj];omega,hK,h',L9,rfl,ho',hp9⟩
   ·rw[if_pos hz] at hK;rw[hK,if_pos hz];(refine AU rfl<|Ao rfl rfl<|Ao rfl rfl<|Al rfl<|Ab rfl<|Aa<|Af<|Ad<|Ab rfl<|AN rfl rfl<|Aa<|Ax rfl (by omega)<|Ad<|Ab rfl<|Al rfl<|Ab rfl<|Aa<|An ?_);exact Bd [.slice none 0 0,vZ (BX s n.kids[i] x).2] ⟨As rfl,As rfl,trivial⟩ (d':=d8) (L':=emp::tb bt Tt (pZ bp) r h c::L9) ((Vs.drop (.cons _ (.cons _ (.cons _ (Adb _))))).trans Vs.emp) ⟨((hl4.trans hl6).trans hle).trans hl8,none,0,emp,L9,rfl,Ap.nil,rfl,hp9⟩
  ·have hi2:i=n.kids.length:=by omega
   subst hi2;rw[Agj,ED] at hK;rw[hK,if_neg (fun q=>q rfl)] at hnp;rw[hK,if_neg (fun q=>q rfl)];clear hK hkd;clear hkl r3' r3 ih e hi;(refine Ad<|AE rfl rfl<|Aa<|Af<|Ar rfl (by omega)<|Bg<|Af<|Ad<|Ai rfl<|Ag rfl (Aj 1 rfl rfl)<|AK rfl<|Ab rfl<|Aa<|Ay ?_);refine CB (α:=Nat×List Int×Option Addr×Nat) (fun y=>[(0,pZ bt),(8,pZ b8),(10,.slice y.2.2.1 y.2.1.length y.2.2.2),(57,.slice ya n.vals.length yc),(58,vZ n.vals.length),(59,vZ y.1)])
    (fun y d' L'=>Le d6 d'∧y.1≤n.vals.length∧y.2.1.length≤1000000∧Ge s acc n.vals=Ge s y.2.1 (n.vals.drop y.1)∧∃hb L3,L'=hb::bx b8 T8 [.bool n.leaf,.slice xa n.keys.length xc,.slice ya n.vals.length yc,.slice za n.kids.length zc]::tb bt Tt (pZ bp) r h c::L3∧
     Ap 1 Bb d' (.slice y.2.2.1 y.2.1.length y.2.2.2) y.2.1 hb∧PgT d' s dv (pZ bp) L3) (fun y=>n.vals.length - y.1) (0,acc,aa,ac) ⟨rfl,rfl,rfl,rfl,rfl,rfl,trivial⟩
    ⟨hle,Aej _,hac,rfl,_,L3,rfl,hg,hp7⟩ ?_
   clear hg hp7 hle hac;rintro⟨j,acc,aa,ac⟩ ρ d' L' ⟨hle,hj,hac,hV,hb,L3,rfl,hg,hp7⟩;simp only at hj hac hV hg⊢;have r2':=r2.mono hle;by_cases e:j<n.vals.length
   ·rw[Aei e,Ge] at hV;(refine Ad<|AE rfl rfl<|Aa<|Af<|Ax rfl (by omega)<|Ak<|Af<|Ay<|Ad<|BM (sz:=1) (R:=RBs) (by rfl) (by assumption) (by rfl) rfl (by omega) ?_;rintro _ _ _ _ _ ⟨_,rfl,_⟩;refine Ag rfl (B4 (by assumption) rfl)<|AJ<|Aa<|Ad<|AJ ?_);rename_i w16 hw16;have hc:=h3 (b:=n.vals[j]) (by assumption);cases hf:Ex n.vals[j] with
    |false=>
     rw[hf,if_neg (by decide),if_neg (by decide)] at hc
     rw[hf,if_neg (by decide)] at hV
     clear hf
     refine BS rfl hc ?_
     (refine AU rfl<|Ao rfl rfl<|Ao rfl rfl<|Ao rfl rfl<|Ab rfl<|Ab rfl<|Ae rfl<|Aa<|Af<|Ad<|Ae rfl<|Bx rfl<|Aa<|Bj rfl<|Bg<|AB<|AL rfl rfl (by omega) (by omega)<|Ab rfl<|Aa ?_)
     exact⟨(j+1,acc,aa,ac),by simp only;omega,⟨rfl,rfl,rfl,rfl,rfl,rfl,trivial⟩,hle,e,hac,hV,hb,L3,rfl,hg,hp7⟩
    |true=>
     rw[hf,if_pos rfl,if_pos rfl] at hc
     rw[hf,if_pos rfl] at hV
     clear hf
     refine BS rfl hc ?_
     (refine AU rfl<|Ao rfl rfl<|Ao rfl rfl<|Ao rfl rfl<|Ab rfl<|Ab rfl<|Ae rfl<|Aa<|Af<|Ad<|Ae rfl<|Bx rfl<|Aa<|AS rfl<|Ak<|Ad<|Am rfl<|Au rfl<|Ai rfl<|Ag rfl (Aj 2 rfl rfl)<|Ab rfl<|Ab rfl ?_)
     refine A7 [_,_,_] (Acf h4 (k:=DR n.vals[j]) (size:=Dt n.vals[j]) hp7) rfl rfl (fun v d8 L8 hl8 ⟨_,w,e1,hw,hp8⟩=>?_)
     subst e1
     by_cases hz:(Chn.Bw s (DR n.vals[j]) (Dt n.vals[j])).2.2=0
     ·rw[if_neg (fun q=>q hz)] at hV
      rw[hz]
      have hbig:¬1000000<acc.length+(Chn.Bw s (DR n.vals[j]) (Dt n.vals[j])).1.length:=fun q=>by
       have hV2:=hV.trans (if_pos q);exact hnp (by rw[hV2])
      have hV:=hV.trans (if_neg hbig)
      have hwv:=hw.val
      obtain⟨wa,wc,rfl⟩:=hwv
      (refine AU rfl<|Ao rfl rfl<|Ao rfl rfl<|Al rfl<|Ab rfl<|Aa<|Af<|Ad<|Ab rfl<|AN rfl rfl<|Aa<|Ar rfl (by omega)<|Ak<|AB<|Al rfl<|Al rfl ?_)
      refine EL (R:=Bb) 0 rfl rfl (Ap.Hk hg hl8) rfl (RSl.src hw CX (by omega) _) (by omega) (by omega) (by omega) (fun v' h' ho'=>?_)
      obtain⟨a',c',rfl⟩:=ho'.val
      (refine Al rfl<|Aa<|AB<|AL rfl rfl (by omega) (by omega)<|Ab rfl<|Aa ?_)
      exact⟨(j+1,acc++(Chn.Bw s (DR n.vals[j]) (Dt n.vals[j])).1,a',c'),by simp only;omega,⟨rfl,rfl,rfl,rfl,rfl,rfl,trivial⟩,hle.trans hl8,e,by simp only[Adj];omega,hV,h',L8,rfl,ho',hp8⟩
     ·rw[if_pos hz] at hV
      rw[hV]
      (refine AU rfl<|Ao rfl rfl<|Ao rfl rfl<|AJ<|Ab rfl<|Aa<|Af<|Ad<|Ab rfl<|AN rfl rfl<|Aa<|Ax rfl (by omega)<|Ad<|Ab rfl<|Al rfl<|Ab rfl<|Aa<|An ?_)
      exact Bd [.slice none 0 0,vZ (Chn.Bw s (DR n.vals[j]) (Dt n.vals[j])).2.2] ⟨As rfl,As rfl,trivial⟩ (d':=d8) (L':=emp::tb bt Tt (pZ bp) r h c::L8) ((Vs.drop (.cons _ (.cons _ (Adb _)))).trans Vs.emp) ⟨((hl4.trans hl6).trans hle).trans hl8,none,0,emp,L8,rfl,Ap.nil,rfl,hp8⟩
   ·have hj2:j=n.vals.length:=by omega
    subst hj2;rw[Agj,Ge] at hV;rw[hV];(refine Ad<|AE rfl rfl<|Aa<|Af<|Ar rfl (by omega)<|Bg<|Ad<|Al rfl<|Al rfl<|Ab rfl<|Aa<|An ?_);exact Bd [.slice aa acc.length ac,vZ 0] ⟨As rfl,As rfl,trivial⟩ (d':=d') (L':=hb::tb bt Tt (pZ bp) r h c::L3) (Vs.drop (.cons_cons _ (.cons _ (Adb _)))) ⟨(hl4.trans hl6).trans hle,aa,ac,hb,L3,rfl,hg,rfl,hp7⟩
 ·have hF:BX s k (x+1)=([],(AT s k ((x+1:Nat):Int)).2):=by rw[BX,if_pos he]
  rw[hF];(refine Ab rfl<|Aa<|Af<|Ad<|Ab rfl<|AN rfl rfl<|Aa<|Ax rfl (by omega)<|Ad<|Ab rfl<|Al rfl<|Ab rfl<|Aa<|An ?_);exact Bd [.slice none 0 0,vZ (AT s k ((x+1:Nat):Int)).2] ⟨As rfl,As rfl,trivial⟩ (d':=d6) (L':=emp::tb bt Tt (pZ bp) r h c::L5) ((Vs.drop (.cons _ (Adb _))).trans Vs.emp) ⟨hl4.trans hl6,none,0,emp,L5,rfl,Ap.nil,rfl,hp6⟩
end Go.Gk.Tre
end
section
namespace Go.Gk
open Go
section
def Av.pre{P f args d A L R}(p:L.Perm A)(h:Av P f args d A R):Av P f args d L R:=
 ⟨h.1,fun F W ok=>h.2 F W (ok.perm (Ads d (Age F p)))⟩
def Av.W6{P f args d A B R R'}(h:Av P f args d A (Ret R))(hR:∀v d' A',Le d d'→R v d' A'→∃L',(A'++B).Perm L'∧R' v d' L'):Av P f args d (A++B) (Ret R'):=by
 refine⟨h.1,fun F W ok=>(h.2 (B++F) W (by rwa [←Adf])).mono ?_⟩
 rintro e W' ⟨d',A',h1,h2,h3,h4⟩;cases e with
 |returned v=>
  obtain⟨L',p,hr⟩:=hR v d' A' h2 h4
  refine⟨d',L',?_,h2,h3,hr⟩
  rw[←Adf] at h1
  exact h1.perm (Ads d' (Age F p))
 |panicked c=>exact h4.elim
 |outgrown=>exact h4.elim
section
variable {P:Program}{pan:List PanicEntry→AR}{Qn:Env→AR}{Ls L:List Ac}{ρ:Env}{d:Ac}{s:GS}{t:Nat}
def Ql{f args R vs A B}(hc:Av P f vs d A (Ret R))(hp:(Ls++L).Perm (A++B))(ea:args.map (ev ρ)=vs)
  (h:∀v d' A',Le d d'→R v d' A'→∃L'',(A'++B).Perm (Ls++L'')∧gws P pan Qn s Ls (upd ρ t v) d' L''):gws P pan Qn (.op false ⟨some t,none,.call f args⟩ s) Ls ρ d L:=
 ⟨d,L,Vs.refl d L,.inr ⟨Ls,Ret fun v d' L'=>∃L'',L'=Ls++L''∧gws P pan Qn s Ls (upd ρ t v) d' L'',rfl,
  by rw[ea];exact Av.pre hp (Av.W6 hc (fun v d' A' hl hr=>by obtain⟨L'',p,k⟩:=h v d' A' hl hr;exact⟨Ls++L'',p,L'',rfl,k⟩)),
  fun e d' L' hl hr=>by
   cases e with
   |returned v=>
    obtain⟨L'',e1,k⟩:=hr
    exact⟨L'',e1,_,_,Vs.refl _ _,k⟩
   |panicked c=>exact hr.elim
   |outgrown=>exact hr.elim⟩⟩
end
end
end Go.Gk
end
section
namespace Go.Gk
open Go Go.Proofs Go.RowKit
def Zg(g3 g4:Nat)(d:Ac):Prop:=(∀c,c<256→DC d g3 c (.int .u8 (Lib.firstT c)))∧∀i,i<16→DC d g4 (2*i) (.int .u8 (Lib.accLo i))∧DC d g4 (2*i+1) (.int .u8 (Lib.accHi i))
def Zg.mono{g3 g4:Nat}{d d'}(h:Zg g3 g4 d)(hl:Le d d'):Zg g3 g4 d':=⟨fun c hc=>(h.1 c hc).mono hl,fun i hi=>⟨(h.2 i hi).1.mono hl,(h.2 i hi).2.mono hl⟩⟩
end Go.Gk
end
section
namespace Go.Gk
open Go Go.Proofs Go.RowKit Go.Shelf
def Ok.grown{hs W}(x:Ok hs W)(os:Array Obj):Ok hs (Sort.grow W os):=
 ⟨x.1,fun h hh b o e=>by
  have h1:=x.2 h hh b o e;show(W.heap++os)[b]?=some o;obtain⟨hlt,_⟩:=Array.getElem?_eq_some_iff.1 h1;rw[Array.getElem?_append_left hlt];exact h1⟩
def Ok.AcF{hs W}{b:Nat}{T l}{f:Array Value→Array Value}(x:Ok (bx b T l::hs) W):Ok (bx b T (f l.toArray).toList::hs) (Sort.mapBlock W b f):=by
 have hb:=x.head b _ (Cv _ _);refine x.write _ ?_;show W.heap.modify b (Sort.onCells f)=W.heap.setIfInBounds b (.cells (f l.toArray).toList.toArray T (0,0));apply Array.ext_getElem?;intro i;rw[Array.getElem?_modify,Array.getElem?_setIfInBounds];obtain⟨hg,hv⟩:=Array.getElem?_eq_some_iff.1 hb;by_cases e:b=i
 ·subst e;simp[hg,hv,Sort.onCells]
 ·simp[e]
abbrev iV(x:Int):Value:=.int .i64 x
def Aam{d}{ks:List Int}(h:∀k∈ks,(-9223372036854775808≤k∧k≤9223372036854775807)):∀i (hi:i<ks.length),Bb d (chunk (ks.map iV) i 1) ks[i]:=fun i hi=>by
 refine⟨?_,h _ (Aec hi)⟩
 simp only[chunk,Afn];rw[Aei (by simpa using hi)];simp
def LG(P:Program)(f:FuncId):Prop:=∀{d a}{c:Nat}{ks:List Int}{h},Ap 1 Bb emp (.slice a ks.length c) ks h→
 Av P f [.slice a ks.length c] d [h] (Ret fun r d' L'=>d'=d∧r=.tuple #[]∧∃h',L'=[h']∧Ap 1 Bb emp (.slice a ks.length c) (ks.mergeSort fun x y=>decide (x≤y)) h')
def Wc{P}{ρ:Ren}(Ly:Lays.n189 P ρ)(hc:Im P (ρ.f 189)):LG P (ρ.f 189):=by
 intro d a c ks h hg;obtain⟨cs,⟨hl,hn,ho⟩,hel⟩:=hg;have hcs:cs=ks.map iV:=by
  rw[Afn] at hl;apply List.ext_getElem
  ·simpa using hl
  ·intro i h1 h2;have h3:i<ks.length:=by simpa using h2
   have:=(hel i h3).1;simp only[chunk,Afn] at this;rw[Aei h1,List.take_succ_cons,List.take_zero] at this;rw[List.getElem_map];exact(List.cons.inj this).1
 subst hcs;have hlen:∀k∈ks,(-9223372036854775808≤k∧k≤9223372036854775807):=fun k hk=>by
  obtain⟨i,hi,rfl⟩:=Aez hk;exact(hel i hi).2
 have hperm:=List.mergeSort_perm ks (fun x y=>decide (x≤y));have hsl:(ks.mergeSort fun x y=>decide (x≤y)).length=ks.length:=hperm.length_eq;have hlen':∀k∈(ks.mergeSort fun x y=>decide (x≤y)),(-9223372036854775808≤k∧k≤9223372036854775807):=fun k hk=>hlen k (hperm.mem_iff.1 hk);refine⟨hc,fun F W hOk=>?_⟩
 rcases ho with ⟨hv,h0,rfl⟩|⟨b,T,l,c',hv,rfl,h1,h2,h3,h4⟩
 ·simp only[Value.slice.injEq] at hv;obtain⟨rfl,_,rfl⟩:=hv;have hnil:ks=[]:=List.length_eq_zero_iff.1 h0;subst hnil;refine(Any.slices_Sort_int_none Ly none 0 W).mono ?_;rintro e W' ⟨rfl,rfl⟩;refine⟨d,[emp],hOk,Le.refl d,AH.refl _,rfl,rfl,emp,rfl,?_⟩
  exact⟨[],⟨by simp,by simp,.inl ⟨rfl,by simp,rfl⟩⟩,fun i hi=>by simp at hi⟩
 ·simp only[Value.slice.injEq] at hv;obtain⟨rfl,_,rfl⟩:=hv;rw[Aey] at h4;have y:Ok (bx b T l::d::F) W:=hOk.perm (Aee _ _ _);have hb:=y.head b _ (Cv _ _);have hlt:=(Array.getElem?_eq_some_iff.1 hb).1;have hle:ks.length≤l.length:=by omega
  have hget:∀j (hj:j<ks.length),l[j]?=some (iV ks[j]):=fun j hj=>by
   have:=congrArg (·[j]?) h4;simp only[List.getElem?_map,Ade hj,Option.map_some] at this;rw[Aew hj] at this;exact this
  have hH:Sort.Holds iV W b 0 ks.toArray:=fun j hj=>by
   have hj':j<ks.length:=by simpa using hj
   refine⟨?_,?_⟩
   ·have:=hget j hj';simp only[World.cell?,hb,Nat.zero_add];rw[getElem!_pos _ j hj];simpa [iV,iV] using this
   ·simp[World.frozen?,hb]
  refine(Any.slices_Sort_int Ly b 0 c ks W hH hlt (by omega)).mono ?_;rintro e W' ⟨rfl,n,os,rfl⟩;generalize hss:(ks.mergeSort fun x y=>decide (x≤y))=ss at*;refine⟨d,[bx b T (Sort.putCells iV 0 ss.toArray l.toArray).toList],?_,Le.refl d,?_,rfl,rfl,_,rfl,?_⟩
  ·have z:Ok (bx b T l::d::F) (Sort.ahead W n):=y.same rfl;have z2:=(z.AcF (f:=Sort.putCells iV 0 ss.toArray)).grown os;exact z2.perm (Aee _ _ _)
  ·refine⟨rfl,rfl,rfl,?_⟩
   show W.heap.size≤((W.heap.modify b _)++os).size;simp
  ·have hpl:(Sort.putCells iV 0 ss.toArray l.toArray).toList.length=l.length:=by simp[Sort.putCells]
   refine⟨ss.map iV,⟨by simp,by omega,.inr ⟨b,T,_,c,by rw[hsl],rfl,by omega,h2,by rw[hpl];exact h3,?_⟩⟩,Aam hlen'⟩
   apply List.ext_getElem?;intro j;by_cases hj:j<ss.length
   ·rw[Aey,Aew hj];have hjl:j<l.length:=by omega
    simp[Sort.putCells,hj,hjl,iV,iV]
   ·rw[Aes (by simp;omega),Aes (by simp;omega)]
end Go.Gk
end
section
namespace Go.Gk.Tre
open Go Go.Gk Go.Gk.Dev Go.Gk.Cch Go.Gk.Pgr Go.Gk.Chn Go.Gk.Node
attribute [local irreducible] gwp gws xwp
def Hu(t:TD):List Int×Int:=if t.height=0 then([],0) else((BX t.s t.root t.height).1.mergeSort (fun x y=>decide (x≤y)),(BX t.s t.root t.height).2)
def OC(P:Program)(f:FuncId):Prop:=∀{d}{t:TD}{dv pv L}{bt:Nat}{Tt},PgT d t.s dv pv L→t.height≤1000000→ -9223372036854775808≤t.root→t.root≤9223372036854775807→(t.height≠0→(BX t.s t.root t.height).2≠99999)→
 Av P f [pZ bt] d (tbD bt Tt pv t::L) (Ret fun v d' L'=>Le d d'∧∃w L2,v=.tuple #[w,vZ (Hu t).2]∧C5 d' w (Hu t).1∧L'=tbD bt Tt pv t::L2∧PgT d' t.s dv pv L2)
def Nh(a0 a1 a2:Nat):A5:=⟨32,[(.tmp 2),(.tmp 3)],(sR (o1 2 (.mv nS)<|o1 3 (.mv z0) .done) (.seq (.block 0 (sR (om 7 0<|oc 8 a0 [7]<|om 6 8 .done) (.cond 6 (sR (o1 2 (.mv nS)<|o1 3 (.mv z1) .done) .ret) (sR (om 10 0<|o1 11 (.nilc 10)<|oj 12 2 11<|ol 13 12<|ob 14 .eql 13 z0<|om 9 14 .done) (.cond 9 (sR (o1 2 (.mv nS)<|o1 3 (.mv z0) .done) .ret) .skip))))) (.seq (.reg true (pm 16 0<|pm 17 0<|p1 18 (.nilc 17)<|p1 19 (.fld 1 18)<|pl 20 19<|pm 21 0<|p1 22 (.nilc 21)<|p1 23 (.fld 2 22)<|pl 24 23<|oc 25 a1 [16,20,24]<|pm 15 25<|p1 26 (.ext 15 0)<|p1 27 (.ext 15 1)<|pm 4 26<|pm 5 27 .done)) (sR (om 28 4<|oc 29 a2 [28] .done) (sR (om 30 4<|om 31 5<|om 2 30<|om 3 31 .done) .ret)))))⟩
set_option maxRecDepth 4000 in
def Xf{P f f1 f2 f3}(hd:dec P f=some (Nh f1 f2 f3))(h1:G3 P f1)(h2:Tv P f2)(h3:LG P f3):OC P f:=by
 intro d t dv pv L bt Tt hp hh r0 r1 hnp;obtain⟨bp,rfl⟩:=hp.ptr;obtain⟨s,root,height,count⟩:=t;simp only at hp hh r0 r1 hnp;show Av P f [pZ bt] d (tb bt Tt (pZ bp) root height count::L) _;refine AF hd (Ada rfl) ?_;show gwp P _ _ _ _ _;(refine Ad<|Al rfl<|Ab rfl<|Aa<|Af<|Ay<|Ad<|Am rfl ?_);refine Ci [] (h1 (L:=L)) rfl rfl ?_;by_cases e:height=0
 ·subst e;(refine Ae rfl<|Aa<|AS rfl<|Ad<|Am rfl<|Au rfl<|Ai rfl<|Ag rfl (Aj 0 rfl rfl)<|AO rfl rfl<|Ae rfl<|Aa<|Ax rfl (by omega)<|Ad<|Al rfl<|Ab rfl<|Aa<|An ?_);exact Bd [.slice none 0 0,vZ 0] ⟨As rfl,As rfl,trivial⟩ (d':=d) (L':=_::L) (Vs.refl _ _) ⟨Le.refl _,_,L,rfl,RSl.nil,rfl,hp⟩
 ·have hF:Hu ⟨s,root,height,count⟩=((BX s root height).1.mergeSort (fun x y=>decide (x≤y)),(BX s root height).2):=by unfold Hu;rw[if_neg e]
  rw[hF];have hc2:=h2 height (Tt:=Tt) (bt:=bt) (r:=root) (h:=(height:Int)) (c:=(count:Int)) (k:=root) hh hp r0 r1 (hnp e);(refine Ae rfl<|Aa<|AS rfl<|Ad<|Am rfl<|Au rfl<|Ai rfl<|Ag rfl (Aj 0 rfl rfl)<|AO rfl rfl<|Ae rfl<|Aa<|Ar rfl (by omega)<|Ak<|Af ?_);refine Bv [_] L rfl ?_;(refine Am rfl<|Am rfl<|Au rfl<|Ai rfl<|Ag rfl (Aj 0 rfl rfl)<|Am rfl<|Au rfl<|Ai rfl<|Ag rfl (Aj 0 rfl rfl) ?_);refine Ql (B:=[]) hc2 (by rw[Aed];exact Aeq _) rfl (fun v d8 L8 hl8 ⟨_,ba,bc,hq,L9,e1,hg9,e2,hp9⟩=>⟨hq::L9,by rw[e2,Aed];exact Aee _ _ _,?_⟩);subst e1;(refine AU rfl<|Ao rfl rfl<|Ao rfl rfl<|Al rfl<|Ab rfl<|A9<|Ad<|Al rfl ?_);refine B9 d8 ((tb bt Tt (pZ bp) root height count::L9)++[hq]) (Vs.perm (Ads _ (List.perm_append_singleton hq L9).symm)) ?_;refine A7 (_::L9) (h3 (ks:=(BX s root height).1) hg9) rfl rfl (fun v d10 L10 hl10 ⟨e3,e4,h',e5,ho⟩=>?_);subst e3;subst e4;subst e5;(refine Aa<|Ad<|Al rfl<|Ab rfl<|Al rfl<|Ab rfl<|Aa<|An ?_);exact Bd [.slice ba (BX s root height).1.length bc,vZ (BX s root height).2] ⟨As rfl,As rfl,trivial⟩ (d':=join d10 h') (L':=tb bt Tt (pZ bp) root height count::L9)
   ((Vs.perm Adl).trans Vs.freeze) ⟨hl8.trans (Le.AG _ _),_,L9,rfl,Ap.rsl (R:=Bb) (sz:=1) (show Ap 1 Bb d10 _ _ _ from ho) B2 (by omega) (Le.AG _ _) (Le.Ba _ _),rfl,hp9.mono (Le.AG _ _)⟩
end Go.Gk.Tre
end
section
namespace Go.Gk.Chn
open Go Go.Gk Go.Gk.Dev Go.Gk.Cch Go.Gk.Pgr Go.Gk.Node
section
def OL{P}{pan:List PanicEntry→AR}{Qn:Env→AR}{Ls L ρ d s}{t:Nat}{sz by_:Nat}{z x y k k'}{n c:Nat}(ex:ev ρ x=.int k (n:Nat))(ey:ev ρ y=.int k' (c:Nat))(h1:n≤c)(h2:c≤9223372036854775807)(h3:by_*c≤281474976710656)
  (h:∀b T,gws P pan Qn s Ls (upd ρ t (.slice (some ⟨b,0,none⟩) n c)) (join d (bx b T (Bq z (c*sz)))) L):gws P pan Qn (.op false ⟨some t,none,.mks sz by_ z x y⟩ s) Ls ρ d L:=
 ⟨d,L,Vs.refl d L,k,k',n,c,ex,ey,h1,h2,h3,fun b T=>⟨_,_,Vs.freeze,h b T⟩⟩
attribute [local irreducible] gwp gws xwp
def VJ(P:Program)(f:FuncId):Prop:=∀{d}{n:Nat},1≤n→n≤8192→Av P f [vZ n] d [] (Ret fun r d' L'=>L'=[]∧∃b a c,r=.tuple #[pZ b,vZ 0]∧DC d' b 0 (.slice a n c))
def Lp:A5:=⟨31,[(.tmp 2),(.tmp 3)],(sR (o1 2 (.mv (.const (.pointer none)))<|o1 3 (.mv z0) .done) (.seq (sR (om 6 0<|ob 7 .lss 6 z1<|om 8 7<|gF 9 8 0<|oF 10 8 (.bin .gtr 9 (kZ 8192))<|o1 11 (.pick 8 (.const (.bool true)) 10) .done) (.cond 11 (sR (o1 2 (.mv (.const (.pointer none)))<|o1 3 (.mv z2) .done) .ret) .skip)) (sR (o1 12 (.bld [(0,1),(1,1),(2,1),(3,1)] [(.slice none 0 0),(.slice none 0 0),(vZ 0),(vZ 0)] [(3,(kZ (-1)))])<|o1 13 (.box 12)<|om 4 13 .done) (.seq (sR (o1 5 (.mv z0) .done) (.block 0 (.loop (.seq (sR (om 14 5<|om 15 0<|ob 16 .lss 14 15 .done) (.cond 16 .skip (.exit 0))) (.seq (.block 1 (.reg true (pm 19 4<|pm 20 4<|p1 21 (.nilc 20)<|p1 22 (.fld 0 21)<|pl 23 22<|o1 24 (.mks 1 1 [(.int .u8 0)] (kZ 256) (kZ 256))<|p1 25 (.b2s 24)<|o1 26 (.bsl 1 1 [(Bt [])] [(0,25)])<|o1 27 (.app 1 16 [(Bt [])] 23 26)<|p1 28 (.nilc 19)<|p1 29 (.fld 0 28) (.bar (o0 (.st 1 29 27) .done))))) (rG (om 17 5<|ob 18 .add 17 z1<|om 5 18 .done))))))) (sR (om 30 4<|om 2 30<|o1 3 (.mv z0) .done) .ret)))))⟩
set_option maxRecDepth 4000 in
set_option maxHeartbeats 1000000 in
def AbI{P f}(hd:Kc P f=some Lp):VJ P f:=by
 intro d n hn1 hn2;refine AF hd (Ada rfl) ?_;show gwp P _ _ _ _ _;(refine Ad ?_);refine B9 d [emp] Vs.emp ?_;(refine Am rfl<|Ab rfl<|Aa<|Af<|Ad<|Ab rfl<|AE rfl rfl<|Ae rfl<|Bf rfl (by omega)<|Ah rfl<|Ab rfl<|Ah rfl<|BW rfl rfl<|Aw rfl rfl<|Aa<|Ar rfl (by omega)<|Ak<|Ad<|BR rfl<|Cx rfl (fun _ _=>Am rfl<|Aa<|Af<|Ad<|Ab rfl<|Aa<|Ay ?_));rename_i b T;refine CB (α:=Nat×Option Addr×Nat) (fun x=>[(0,vZ n),(4,pZ b),(5,vZ x.1)])
  (fun x d' L'=>Le d d'∧x.1≤n∧∃h,[bx b T [.slice x.2.1 x.1 x.2.2,.slice none 0 0,vZ 0,vZ (-1)],h].Sublist L'∧Ap 1 Lq d' (.slice x.2.1 x.1 x.2.2) (Adx x.1 (Adx 256 0)) h) (fun x=>n - x.1) (0,none,0) ⟨rfl,rfl,rfl,trivial⟩ ⟨Le.refl _,Aej _,emp,Adb _,Ap.nil⟩ ?_
 rintro⟨i,a,c⟩ ρ d' L' ⟨hle,hi,h,hsub,hrow⟩;simp only at hi hsub hrow⊢;apply Af;apply Af;apply AB;refine B9 d' _ (Vs.drop hsub) ?_;by_cases e:i<n
 ·(refine Ab rfl<|Ab rfl<|AE rfl rfl<|Aa<|Ax rfl (by omega)<|Ak<|Af<|Ay ?_);refine Bv [bx b T [.slice a i c,.slice none 0 0,vZ 0,vZ (-1)]] [h] rfl ?_;(refine Am rfl<|Am rfl<|Au rfl<|Ai rfl<|Ag rfl (Aj 0 rfl rfl) ?_);refine OL (n:=256) (c:=256) rfl rfl (Adi _) (by omega) (by omega) (fun b24 T24=>?_);have hg:Ap 1 AP d' (.slice (some ⟨b24,0,none⟩) 256 256) (Adx 256 0) (bx b24 T24 (Bq [.int .u8 0] (256*1))):=Ap.zero rfl (by omega) rfl (by omega);have hgr:=Ap.rsl (R:=AP) (sz:=1) hg A3 (by omega) (Le.AG _ _) (Le.Ba d' (bx b24 T24 (Bq [.int .u8 0] (256*1))));have hl2:Le d' (join d' (bx b24 T24 (Bq [.int .u8 0] (256*1)))):=Le.AG _ _;refine Bi rfl hgr ?_;refine D5 (v0:=Bt (Adx 256 0)) rfl rfl (fun b26 T26=>?_);have hrow2:Ap 1 Lq (join d' (bx b24 T24 (Bq [.int .u8 0] (256*1)))) (.slice a i c) (Adx i (Adx 256 0)) h:=by
   have:=Ap.mono (R:=Lq) Ze hrow hl2;exact this
  have hil:(Adx i (Adx 256 (0:UInt8))).length=i:=Aet;refine D1 (R:=Lq) 0 rfl rfl hrow2 rfl (Ap.Ep (R:=Lq) (x:=Adx 256 0) rfl ⟨rfl,by simp⟩) Xg (by omega) (by simp;omega) (by simp;omega) (fun v' h' ho'=>?_);rw[←List.replicate_succ'] at ho';obtain⟨a',c',rfl⟩:=ho'.val;rw[Aet] at ho'⊢;(refine Au rfl<|Ai rfl<|Ch ?_);refine A6 0 [.slice a' (i+1) c',.slice none 0 0,vZ 0,vZ (-1)] rfl rfl rfl rfl (Ada rfl) rfl rfl ?_;(refine Aa<|AB<|Ab rfl<|AL rfl rfl (by omega) (by omega)<|Ab rfl<|Aa ?_);exact⟨(i+1,a',c'),by simp only;omega,⟨rfl,rfl,rfl,trivial⟩,hle.trans hl2,e,h',Adb _,ho'⟩
 ·have:i=n:=by omega
  subst this;(refine Ab rfl<|Ab rfl<|AE rfl rfl<|Aa<|Ar rfl (by omega)<|Bg<|Ad<|Am rfl<|Am rfl<|Ab rfl<|Aa<|An ?_);exact Bd [pZ b,vZ 0] ⟨rfl,rfl,trivial⟩ (d':=join (join d' (bx b T [.slice a i c,.slice none 0 0,vZ 0,vZ (-1)])) h) (L':=[]) (Vs.freeze.trans Vs.freeze) ⟨rfl,b,a,c,rfl,(Le.dcs ((Le.Ba _ _).trans (Le.AG _ _))).at (i:=0) rfl⟩
end
end Go.Gk.Chn
end
section
namespace Go.Gk.Chn
open Go Go.Gk Go.Gk.Dev Go.Gk.Cch Go.Gk.Pgr Go.Gk.Node
attribute [local irreducible] gwp gws xwp
def V5(P:Program)(f:FuncId):Prop:=∀{d}{b n c:Nat}{a},DC d b 0 (.slice a (n+2) c)→1≤n→n≤8000→C2 P f [pZ b,vZ 2,vZ n] d (.bool true)
def Jp:A5:=⟨31,[(.tmp 6)],(sR (o1 6 (.mv (.const (.bool false))) .done) (sR (om 8 0<|o1 9 (.nilc 8)<|oj 10 0 9<|ol 11 10<|oL 12 11<|om 7 12 .done) (sR (om 13 1<|ob 14 .geq 13 z0<|om 15 14<|gT 16 15 1<|gT 17 15 7<|oT 18 15 (.bin .leq 16 17)<|gP 19 15 18<|om 20 19<|gT 21 20 2<|oT 22 20 (.bin .geq 21 z1)<|gP 23 20 22<|om 24 23<|gT 25 24 2<|gT 26 24 7<|gT 27 24 1<|oT 28 24 (.bin .sub 26 27)<|oT 29 24 (.bin .leq 25 28)<|gP 30 24 29<|om 6 30 .done) .ret)))⟩
def Acb{P f}(hd:dec P f=some Jp):V5 P f:=by
 intro d b n c a hb hn1 hn2;refine AF hd (Ada rfl) ?_;show gwp P _ _ _ _ _;have h2:(2:Int)≤((n+2:Nat):Int):=by omega
 have h3:(n:Int)≤((n+2:Nat):Int) - 2:=by omega
 (refine Ad<|Ae rfl<|Aa<|Ad<|Am rfl<|Au rfl<|Ai rfl<|Ag rfl (BN (by assumption))<|AK rfl<|Ab rfl<|Aa<|Ad<|Ab rfl<|DV rfl rfl<|Ae rfl<|Bp rfl (by omega)<|Ah rfl<|Ab rfl<|Ah rfl<|Ab rfl<|Ah rfl<|O3 rfl rfl<|AI rfl rfl<|Ae rfl<|Bp rfl (by omega)<|Ah rfl<|Ab rfl<|Ah rfl<|DV rfl rfl<|AI rfl rfl<|Ae rfl<|Bp rfl (by omega)<|Ah rfl<|Ab rfl<|Ah rfl<|Ab rfl<|Ah rfl<|Ab rfl<|Ah rfl<|C6 rfl rfl (by omega) (by omega)<|Ah rfl<|O3 rfl rfl<|AI rfl rfl<|Ae rfl<|Aa<|An ?_);exact BO (v:=.bool (decide ((n:Int)≤((n+2:Nat):Int) - 2))) rfl (Adb _) ⟨congrArg Value.bool (decide_eq_true h3),rfl,rfl⟩
def Wg(P:Program)(f:FuncId):Prop:=∀{d}{b q n c:Nat}{a},DC d b 0 (.slice a (n+2) c)→1≤n→n≤8000→
 Av P f [pZ b,pZ q,vZ 2,vZ n,.slice none 0 0] d [] (Ret fun r _ L'=>L'=[]∧∃v,r=.tuple #[pZ v,vZ 0])
def LW(a0 a1:Nat):A5:=⟨52,[(.tmp 10),(.tmp 11)],(sR (o1 10 (.mv (.const (.pointer none)))<|o1 11 (.mv z0) .done) (.seq (sR (om 14 0<|om 15 2<|om 16 3<|oc 17 a0 [14,15,16]<|o1 18 (.un .not 17) .done) (.cond 18 (sR (o1 10 (.mv (.const (.pointer none)))<|o1 11 (.mv z2) .done) .ret) .skip)) (sR (om 19 0<|om 20 1<|om 21 2<|om 22 3<|o1 23 (.mks 2 24 [(vZ 0),(Bt [])] 22 22)<|o1 24 (.bld [(0,1),(1,1),(2,1),(3,1),(4,1),(5,1)] [(.pointer none),(.pointer none),(vZ 0),(.slice none 0 0),(vZ 0),(vZ 0)] [(0,19),(1,20),(2,21),(3,23)])<|o1 25 (.box 24)<|om 12 25 .done) (.seq (sR (o1 13 (.mv z0) .done) (.block 0 (.loop (.seq (sR (om 26 13<|om 27 4<|oL 28 27<|ob 29 .lss 26 28 .done) (.cond 29 .skip (.exit 0))) (.seq (.block 1 (.seq (sR (om 32 12<|om 33 4<|om 34 13<|oI 35 1 33 34<|ol 36 35<|oc 37 a1 [32,36]<|ob 38 .neq 37 z0 .done) (.cond 38 (sR (o1 10 (.mv (.const (.pointer none)))<|o1 11 (.mv z2) .done) .ret) .skip)) (.reg true (pm 39 12<|p1 40 (.nilc 39)<|p1 41 (.fld 3 40)<|pl 42 41<|pm 43 4<|pm 44 13<|p1 45 (.idx 1 43 44)<|pl 46 45<|pm 47 2<|p1 48 (.bin .sub 46 47)<|p1 49 (.idx 2 42 48)<|p1 50 (.fld 0 49)<|o0 (.st 1 50 z2) .done)))) (rG (om 30 13<|ob 31 .add 30 z1<|om 13 31 .done))))))) (sR (om 51 12<|om 10 51<|o1 11 (.mv z0) .done) .ret)))))⟩
set_option maxRecDepth 4000 in
def AbT{P f f1 f2}(hd:dec P f=some (LW f1 f2))(h1:V5 P f1):Wg P f:=by
 intro d b q n c a hb hn1 hn2;refine AF hd (Ada rfl) ?_;show gwp P _ _ _ _ _;(refine Ad<|Am rfl<|Ab rfl<|Aa<|Af<|Ad<|Am rfl<|Ab rfl<|Ab rfl ?_);refine Bl rfl (h1 hb hn1 hn2) (fun u d1 L1 _ ⟨e1,e2,e3⟩=>?_);subst e1;subst e2;subst e3;(refine Bx rfl<|Aa<|AS rfl<|Ak<|Ad<|Am rfl<|Am rfl<|Ab rfl<|Ab rfl ?_);refine HT (n:=n) (c:=n) rfl rfl (Adi _) (by omega) (by omega) (fun b23 T23=>?_);(refine BR rfl<|Cx rfl (fun _ _=>Am rfl<|Aa<|Af<|Ad<|Ab rfl<|Aa<|Ay ?_));rename_i bb TT;refine CB (α:=Unit) (fun _=>[(4,.slice none 0 0),(12,pZ bb),(13,vZ 0)]) (fun _ _ _=>True) (fun _=>0) () ⟨rfl,rfl,rfl,trivial⟩ trivial ?_;rintro - ρ d' L' -;(refine Af<|Ad<|Ab rfl<|Al rfl<|AK rfl<|AE rfl rfl<|Aa<|Ar rfl (by omega)<|Bg<|Ad<|Am rfl<|Am rfl<|Ab rfl<|Aa<|An ?_);exact CO rfl rfl (Afm _) ⟨rfl,_,rfl⟩
def Vq(P:Program)(f:FuncId):Prop:=∀{d}{b:Nat},Av P f [pZ b,vZ 4] d [] (Ret fun r _ L'=>L'=[]∧∃q,r=.tuple #[pZ q,vZ 0])
def Md:A5:=⟨48,[(.tmp 4),(.tmp 5)],(sR (o1 4 (.mv (.const (.pointer none)))<|o1 5 (.mv z0) .done) (.seq (sR (om 8 1<|ob 9 .lss 8 z1<|om 10 9<|gF 11 10 1<|oF 12 10 (.bin .gtr 11 (kZ 64))<|o1 13 (.pick 10 (.const (.bool true)) 12) .done) (.cond 13 (sR (o1 4 (.mv (.const (.pointer none)))<|o1 5 (.mv z2) .done) .ret) .skip)) (.seq (.reg true (pm 14 0<|pm 15 1<|pm 17 1<|pm 19 1 (.par (o1 20 (.mks 1 16 [(Bt [])] 19 19) .done) (.par (o1 16 (.mks 1 8 [(vZ 0)] 15 15) .done) (o1 18 (.mks 1 1 [(.bool false)] 17 17) .done) .done) (p1 21 (.bld [(0,1),(1,1),(2,1),(3,1),(4,1),(5,1),(6,1),(7,1),(8,1)] [(.pointer none),(.slice none 0 0),(.slice none 0 0),(.slice none 0 0),(.slice none 0 0),(.slice none 0 0),(vZ 0),(vZ 0),(vZ 0)] [(0,14),(2,16),(3,18),(4,20)]) (o1 22 (.box 21) (.bar (pm 6 22 .done))))))) (.seq (sR (o1 7 (.mv z0) .done) (.block 0 (.loop (.seq (sR (om 23 7<|om 24 1<|ob 25 .lss 23 24 .done) (.cond 25 .skip (.exit 0))) (.seq (.block 1 (sR (om 28 6<|om 29 6<|o1 30 (.nilc 29)<|oj 31 1 30<|ol 32 31<|o1 33 (.bsl 1 1 [(vZ 0)] [(0,(kZ (-1)))])<|o1 34 (.app 1 8 [(vZ 0)] 32 33)<|o1 35 (.nilc 28)<|oj 36 1 35<|o0 (.st 1 36 34) .done) (rG (om 37 6<|om 38 6<|o1 39 (.nilc 38)<|oj 40 5 39<|ol 41 40<|om 42 7<|o1 43 (.bsl 1 1 [(vZ 0)] [(0,42)])<|o1 44 (.app 1 8 [(vZ 0)] 41 43)<|o1 45 (.nilc 37)<|oj 46 5 45<|o0 (.st 1 46 44) .done)))) (rG (om 26 7<|ob 27 .add 26 z1<|om 7 27 .done))))))) (sR (om 47 6<|om 4 47<|o1 5 (.mv z0) .done) .ret)))))⟩
set_option maxRecDepth 4000 in
set_option maxHeartbeats 1000000 in
def Ab6{P f}(hd:Kc P f=some Md):Vq P f:=by
 intro d b;refine AF hd (Ada rfl) ?_;show gwp P _ _ _ _ _;(refine Ad<|Am rfl<|Ab rfl<|Aa<|Af<|Ad<|Ab rfl<|AE rfl rfl<|Ae rfl<|Bf rfl (by omega)<|Ah rfl<|Ab rfl<|Ah rfl<|BW rfl rfl<|Aw rfl rfl<|Aa<|Ar rfl (by omega)<|Ak<|Af ?_);refine Bv [] [] rfl ?_;(refine Am rfl<|Ab rfl<|Ab rfl<|Ab rfl ?_);refine GK (α:=Nat) (β:=Nat×Nat) [(1,vZ 4),(14,pZ b)] (fun x=>[(20,.slice (some ⟨x,0,none⟩) 4 4)]) (fun _ _ L=>L=[]) (fun y=>[(16,.slice (some ⟨y.1,0,none⟩) 4 4),(18,.slice (some ⟨y.2,0,none⟩) 4 4)]) (fun _ _ L=>L=[]) [] [] rfl
  (fun _ _ _ _ _ q=>q) (fun _ _ _ _ _ q=>q) (fun _=>rfl) (fun _=>rfl) rfl ⟨rfl,rfl,trivial⟩ ?_ ?_ ?_
 ·refine OL (n:=4) (c:=4) rfl rfl (Adi _) (by omega) (by omega) (fun b20 T20=>?_);(apply Aa);exact⟨_,rfl,b20,⟨rfl,trivial⟩,rfl⟩
 ·refine GK (α:=Nat) (β:=Nat) [] (fun x=>[(16,.slice (some ⟨x,0,none⟩) 4 4)]) (fun _ _ L=>L=[]) (fun y=>[(18,.slice (some ⟨y,0,none⟩) 4 4)]) (fun _ _ L=>L=[]) [] [] rfl
   (fun _ _ _ _ _ q=>q) (fun _ _ _ _ _ q=>q) (fun _=>rfl) (fun _=>rfl) rfl trivial ?_ ?_ ?_
  ·refine OL (n:=4) (c:=4) rfl rfl (Adi _) (by omega) (by omega) (fun b16 T16=>?_);(apply Aa);exact⟨_,rfl,b16,⟨rfl,trivial⟩,rfl⟩
  ·refine OL (n:=4) (c:=4) rfl rfl (Adi _) (by omega) (by omega) (fun b18 T18=>?_);(apply Aa);exact⟨_,rfl,b18,⟨rfl,trivial⟩,rfl⟩
  ·rintro b16 b18 ρ2 d2 M1 M2 hl2 rfl rfl;(apply Aa);exact⟨_,rfl,(b16,b18),⟨rfl,rfl,trivial⟩,rfl⟩
 ·rintro b20 ⟨b16,b18⟩ ρ2 d2 M1 M2 hl2 rfl rfl;refine BR (cs:=[pZ b,.slice none 0 0,.slice (some ⟨b16,0,none⟩) 4 4,.slice (some ⟨b18,0,none⟩) 4 4,.slice (some ⟨b20,0,none⟩) 4 4,.slice none 0 0,vZ 0,vZ 0,vZ 0]) rfl ?_;refine B9 d2 [emp,emp] (Vs.emp.trans Vs.emp) ?_;refine Cx rfl (fun q T=>?_);(refine Ch<|Am rfl<|Aa<|Af<|Ad<|Ab rfl<|Aa<|Ay ?_);refine CB (α:=Nat×Option Addr×Nat×Option Addr×Nat) (fun x=>[(1,vZ 4),(6,pZ q),(7,vZ x.1)])
   (fun x d' L'=>x.1≤4∧∃h1 h5 xs ys,[bx q T [pZ b,.slice x.2.1 x.1 x.2.2.1,.slice (some ⟨b16,0,none⟩) 4 4,.slice (some ⟨b18,0,none⟩) 4 4,.slice (some ⟨b20,0,none⟩) 4 4,.slice x.2.2.2.1 x.1 x.2.2.2.2,vZ 0,vZ 0,vZ 0],h1,h5].Sublist L'∧
    Ap 1 Bb d' (.slice x.2.1 x.1 x.2.2.1) xs h1∧Ap 1 Bb d' (.slice x.2.2.2.1 x.1 x.2.2.2.2) ys h5∧xs.length=x.1∧ys.length=x.1) (fun x=>4 - x.1) (0,none,0,none,0) ⟨rfl,rfl,rfl,trivial⟩ ⟨Aej _,emp,emp,[],[],Adb _,Ap.nil,Ap.nil,rfl,rfl⟩ ?_
  rintro⟨i,a1,c1,a5,c5⟩ ρ d' L' ⟨hi,h1,h5,xs,ys,hsub,r1,r5,x1,y1⟩;simp only at hi hsub r1 r5 x1 y1⊢;apply Af;apply Af;apply AB;refine B9 d' _ (Vs.drop hsub) ?_;by_cases e:i<4
  ·(refine Ab rfl<|Ab rfl<|AE rfl rfl<|Aa<|Ax rfl (by omega)<|Ak<|Af<|Ay<|Ad<|Am rfl<|Am rfl<|Au rfl<|Ai rfl<|Ag rfl (Aj 0 rfl rfl) ?_);refine D5 (v0:=vZ (-1)) rfl rfl (fun b33 T33=>?_);refine D1 (R:=Bb) 1 rfl rfl r1 rfl (Ap.Ep (R:=Bb) (x:= -1) rfl ⟨rfl,by omega,by omega⟩) CX (by omega) (by simp;omega) (by simp;omega) (fun v1 h1' o1=>?_);obtain⟨a1',c1',rfl⟩:=o1.val;rw[Adj,x1] at o1⊢;(refine Au rfl<|Ai rfl ?_);refine A6 0 [pZ b,.slice a1' (i+1) c1',.slice (some ⟨b16,0,none⟩) 4 4,.slice (some ⟨b18,0,none⟩) 4 4,.slice (some ⟨b20,0,none⟩) 4 4,.slice a5 i c5,vZ 0,vZ 0,vZ 0] rfl rfl rfl rfl (Ada rfl) rfl rfl ?_;(refine Aa<|AB<|Am rfl<|Am rfl<|Au rfl<|Ai rfl<|Ag rfl (Aj 0 rfl rfl)<|Ab rfl ?_);refine D5 (v0:=vZ i) rfl rfl (fun b43 T43=>?_);refine D1 (R:=Bb) 2 rfl rfl r5 rfl (Ap.Ep (R:=Bb) (x:=(i:Int)) rfl ⟨rfl,by omega,by omega⟩) CX (by omega) (by simp;omega) (by simp;omega) (fun v5 h5' o5=>?_);obtain⟨a5',c5',rfl⟩:=o5.val;rw[Adj,y1] at o5⊢;(refine Au rfl<|Ai rfl ?_);refine A6 0 [pZ b,.slice a1' (i+1) c1',.slice (some ⟨b16,0,none⟩) 4 4,.slice (some ⟨b18,0,none⟩) 4 4,.slice (some ⟨b20,0,none⟩) 4 4,.slice a5' (i+1) c5',vZ 0,vZ 0,vZ 0] rfl rfl rfl rfl (Ada rfl) rfl rfl ?_;(refine Aa<|AB<|Ab rfl<|AL rfl rfl (by omega) (by omega)<|Ab rfl<|Aa ?_);exact⟨(i+1,a1',c1',a5',c5'),by simp only;omega,⟨rfl,rfl,rfl,trivial⟩,e,h1',h5',_,_,Adb _,o1,o5,by rw[Adj,x1];rfl,by rw[Adj,y1];rfl⟩
  ·have:i=4:=by omega
   subst this;(refine Ab rfl<|Ab rfl<|AE rfl rfl<|Aa<|Ar rfl (by omega)<|Bg<|Ad<|Am rfl<|Am rfl<|Ab rfl<|Aa<|An ?_);exact CO rfl rfl (Afm _) ⟨rfl,q,rfl⟩
def pdN(n:Nat):PD:=⟨2,DK n [],fun _=>[],Adx (n+2) I8,0,0⟩
def OA(P:Program)(f:FuncId):Prop:=∀{d}{n:Nat},1≤n→n≤1000→Av P f [vZ n] d [] (Ret fun r d' L'=>∃b bd bp,r=pZ b∧DC d' b 0 (pZ bp)∧Pg d' (pdN n) (pZ bd) (pZ bp) L')
def KF(a0 a1 a2 a3 a4 a5:Nat):A5:=⟨75,[(.tmp 2)],(sR (o1 2 (.mv (.const (.pointer none))) .done) (sR (om 14 0<|ob 15 .add 14 z2<|oc 16 a0 [15]<|om 13 16<|oe 17 13 0<|oe 18 13 1<|om 3 17<|om 4 18 .done) (sR (om 20 0<|ob 21 .add 20 z2<|oc 22 a1 [21]<|om 19 22<|oe 23 19 0<|oe 24 19 1<|om 5 23<|om 6 24 .done) (.seq (sR (om 25 4<|ob 26 .neq 25 z0<|om 27 26<|gF 28 27 3<|oF 29 27 (.eqp false 28 (.const (.pointer none)))<|o1 30 (.pick 27 (.const (.bool true)) 29)<|om 31 30<|gF 32 31 5<|oF 33 31 (.eqp false 32 (.const (.pointer none)))<|o1 34 (.pick 31 (.const (.bool true)) 33) .done) (.cond 34 (sR (o1 2 (.mv (.const (.pointer none))) .done) .ret) .skip)) (sR (om 36 3<|oc 37 a2 [36,(kZ 4)]<|om 35 37<|oe 38 35 0<|oe 39 35 1<|om 7 38<|om 4 39 .done) (sR (om 41 5<|oc 42 a3 [41,(kZ 4)]<|om 40 42<|oe 43 40 0<|oe 44 40 1<|om 8 43<|om 9 44 .done) (.seq (sR (om 45 4<|ob 46 .neq 45 z0<|om 47 46<|gF 48 47 7<|oF 49 47 (.eqp false 48 (.const (.pointer none)))<|o1 50 (.pick 47 (.const (.bool true)) 49) .done) (.cond 50 (sR (o1 2 (.mv (.const (.pointer none))) .done) .ret) .skip)) (sR (om 52 3<|om 53 7<|om 54 0<|oc 55 a4 [52,53,z2,54,nS]<|om 51 55<|oe 56 51 0<|oe 57 51 1<|om 10 56<|om 4 57 .done) (sR (om 59 5<|om 60 8<|om 61 0<|oc 62 a5 [59,60,z2,61,nS]<|om 58 62<|oe 63 58 0<|oe 64 58 1<|om 11 63<|om 12 64 .done) (.seq (sR (om 65 4<|ob 66 .neq 65 z0<|om 67 66<|gF 68 67 10<|oF 69 67 (.eqp false 68 (.const (.pointer none)))<|o1 70 (.pick 67 (.const (.bool true)) 69) .done) (.cond 70 (sR (o1 2 (.mv (.const (.pointer none))) .done) .ret) .skip)) (sR (om 71 10<|om 72 11<|o1 73 (.bld [(0,1),(1,1)] [(.pointer none),(.pointer none)] [(0,71),(1,72)])<|o1 74 (.box 73)<|om 2 74 .done) .ret)))))))))))⟩
set_option maxRecDepth 4000 in
set_option maxHeartbeats 1000000 in
def Wq{P f f1 f2 f3 f4 f5 f6}(hd:dec P f=some (KF f1 f2 f3 f4 f5 f6))(h1:OF P f1)(h2:VJ P f2)(h3:JR P f3)(h4:Vq P f4)(h5:Tg P f5)(h6:Wg P f6):OA P f:=by
 intro d n hn1 hn2;refine AF hd (Ada rfl) ?_;show gwp P _ _ _ _ _;(refine Ad<|Am rfl<|Aa<|Ad<|Ab rfl<|AL rfl rfl (by omega) (by omega) ?_);refine D4 (h1 (n:=n+2) (by omega) (by omega)) rfl (fun u d1 L1 hl1 ⟨dv,e1,e2,e3⟩=>?_);subst e1;subst e2;obtain⟨bd,rfl⟩:∃b,dv=pZ b:=let ⟨b,_,_,_,_,_,_,h,_⟩:=e3;⟨b,h⟩
 (refine AU rfl<|Ao rfl rfl<|Ao rfl rfl<|Am rfl<|Ab rfl<|Aa<|Ad<|Ab rfl<|AL rfl rfl (by omega) (by omega) ?_);refine DN (A:=[]) (B:=L1) rfl rfl (h2 (n:=n+2) (by omega) (by omega)) (fun u d2 L2 hl2 ⟨q1,br,ar,cr,q2,q3⟩=>?_);subst q1;subst q2;rw[Ael];(refine AU rfl<|Ao rfl rfl<|Ao rfl rfl<|Am rfl<|Ab rfl<|Aa<|Af<|Ad<|Ab rfl<|AN rfl rfl<|Ae rfl<|Bf rfl (by omega)<|Ah rfl<|Am rfl<|Ah rfl<|Dk rfl rfl<|Aw rfl rfl<|Ae rfl<|Ah rfl<|Am rfl<|Ah rfl<|Dk rfl rfl<|Aw rfl rfl<|Aa<|AS rfl<|Ak<|Ad<|Am rfl ?_);refine D4 (h3 (n:=4) (e3.mono hl2) (show 1≤(Adx (n+2) I8).length by rw[Aet];omega) (by omega) (by omega)) rfl (fun u d3 L3 _ ⟨q4,cv,LC,q5,q6,q7⟩=>?_);subst q4;subst q5;subst q6;obtain⟨bc,rfl⟩:∃b,cv=pZ b:=let ⟨b,_,_,_,_,_,_,_,_,h,_⟩:=q7;⟨b,h⟩
 (refine AU rfl<|Ao rfl rfl<|Ao rfl rfl<|Am rfl<|Ab rfl<|Aa<|Ad<|Am rfl ?_);refine DN (A:=[]) (B:=LC++L1) rfl rfl (h4 (b:=br)) (fun u d4 L4 hl4 ⟨p1,bq,p2⟩=>?_);subst p1;subst p2;rw[Ael];(refine AU rfl<|Ao rfl rfl<|Ao rfl rfl<|Am rfl<|Ab rfl<|Aa<|Af<|Ad<|Ab rfl<|AN rfl rfl<|Ae rfl<|Bf rfl (by omega)<|Ah rfl<|Am rfl<|Ah rfl<|Dk rfl rfl<|Aw rfl rfl<|Aa<|AS rfl<|Ak<|Ad<|Am rfl<|Am rfl<|Ab rfl ?_);refine D4 (h5 (frm:=2) (n:=n) (m:=4) (live:=[]) ((e3.mono hl2).mono hl4) (q7.mono hl4) (by omega) (by omega) (by omega) (by rw[Aet];omega) (by rw[Aet];omega) Ahx (fun k hk=>(by cases hk)) (RSl.nil:C5 d4 (.slice none 0 0) [])) rfl (fun u d5 L5 hl5 ⟨pv,g1,g2,g3⟩=>?_);subst g1;obtain⟨bp,rfl⟩:=g3.ptr;(refine AU rfl<|Ao rfl rfl<|Ao rfl rfl<|Am rfl<|Ab rfl<|Aa<|Ad<|Am rfl<|Am rfl<|Ab rfl ?_);refine DN (A:=[]) (B:=L5) rfl rfl (h6 (n:=n) (b:=br) (q:=bq) ((q3.mono hl4).mono hl5) hn1 (by omega)) (fun u d6 L6 hl6 ⟨p1,xv,p2⟩=>?_);subst p1;subst p2;rw[Ael];(refine AU rfl<|Ao rfl rfl<|Ao rfl rfl<|Am rfl<|Ab rfl<|Aa<|Af<|Ad<|Ab rfl<|AN rfl rfl<|Ae rfl<|Bf rfl (by omega)<|Ah rfl<|Am rfl<|Ah rfl<|Dk rfl rfl<|Aw rfl rfl<|Aa<|AS rfl<|Ak<|Ad<|Am rfl<|Am rfl<|BR rfl<|Cx rfl (fun _ _=>Am rfl<|Aa<|An ?_));rename_i bm Tm;exact Bd [pZ bm] ⟨rfl,trivial⟩ (d':=join d6 (bx bm Tm [pZ bp,pZ xv])) (L':=L5) Vs.freeze ⟨bm,bd,bp,rfl,(Le.dcs (Le.Ba _ _)).at (i:=0) rfl,(g3.mono hl6).mono (Le.AG _ _)⟩
end Go.Gk.Chn
end
section
namespace Go.Gk.Tre
open Go Go.Gk Go.Gk.Dev Go.Gk.Cch Go.Gk.Pgr Go.Gk.Chn Go.Gk.Node
attribute [local irreducible] gwp gws xwp
variable{P:Program}{f f1:FuncId}
def ND(P:Program)(f:FuncId):Prop:=∀{d w key},AM d w key→C2 P f [w] d (vZ (BV key))
def JT:A5:=⟨11,[(.tmp 2)],(sR (o1 2 (.mv z0) .done) (.seq (sR (om 3 0<|oL 4 3<|ob 5 .lss 4 z1<|om 6 5<|gF 7 6 0<|oF 8 6 (.len 7)<|oF 9 6 (.bin .gtr 8 (kZ 64))<|o1 10 (.pick 6 (.const (.bool true)) 9) .done) (.cond 10 (sR (o1 2 (.mv z2) .done) .ret) .skip)) (sR (o1 2 (.mv z0) .done) .ret)))⟩
def WE(hd:dec P f=some JT):ND P f:=by
 intro d w key hw;have hwl:=hw.B3;obtain⟨a,c,rfl⟩:=hw.val;refine AF hd (Ada rfl) ?_;show gwp P _ _ _ _ _;by_cases e1:key.length<1
 ·have hF:BV key=2:=by unfold BV;rw[if_pos (.inl e1)]
  rw[hF];(refine Ad<|Ab rfl<|Aa<|Af<|Ad<|Al rfl<|AK rfl<|AE rfl rfl<|Ae rfl<|Bp rfl (by omega)<|Aq rfl<|Aq rfl<|Aq rfl<|AI rfl rfl<|Aa<|Bj rfl<|Ad<|Ab rfl<|Aa<|An ?_);exact BO rfl (Adb _) ⟨rfl,rfl,rfl⟩
 ·by_cases e2:64<key.length
  ·have hF:BV key=2:=by unfold BV;rw[if_pos (.inr e2)]
   rw[hF];(refine Ad<|Ab rfl<|Aa<|Af<|Ad<|Al rfl<|AK rfl<|AE rfl rfl<|Ae rfl<|Bf rfl (by omega)<|Ah rfl<|Al rfl<|Ah rfl<|AK rfl<|Ah rfl<|BW rfl rfl<|Aw rfl rfl<|Aa<|Ax rfl (by omega)<|Ad<|Ab rfl<|Aa<|An ?_);exact BO rfl (Adb _) ⟨rfl,rfl,rfl⟩
  ·have hF:BV key=0:=by unfold BV;rw[if_neg (by omega)]
   rw[hF];(refine Ad<|Ab rfl<|Aa<|Af<|Ad<|Al rfl<|AK rfl<|AE rfl rfl<|Ae rfl<|Bf rfl (by omega)<|Ah rfl<|Al rfl<|Ah rfl<|AK rfl<|Ah rfl<|BW rfl rfl<|Aw rfl rfl<|Aa<|Ar rfl (by omega)<|Ak<|Ad<|Ab rfl<|Aa<|An ?_);exact BO rfl (Adb _) ⟨rfl,rfl,rfl⟩
def P8(P:Program)(f:FuncId):Prop:=∀{d w b}{n:Nat},AM d w b→n≤1000000→Av P f [w,vZ n] d [] (Ret fun v d' L'=>L'=[]∧d'=d∧AM d v (b.take n))
def J2:A5:=⟨13,[(.tmp 4)],(sR (o1 4 (.mv nS) .done) (.seq (sR (om 5 0<|oL 6 5<|om 7 1<|ob 8 .gtr 6 7 .done) (.cond 8 (sR (om 9 0<|om 10 1<|o1 11 (.sl 1 9 none (some 10) none)<|om 4 11 .done) .ret) .skip)) (sR (om 12 0<|om 4 12 .done) .ret)))⟩
def YP(hd:dec P f=some J2):P8 P f:=by
 intro d w b n hw hn;have hwl:=hw.B3;obtain⟨a,c,rfl⟩:=hw.val;refine AF hd (Ada rfl) ?_;show gwp P _ _ _ _ _;by_cases e1:n<b.length
 ·(refine Ad<|Al rfl<|Aa<|Af<|Ad<|Al rfl<|AK rfl<|Ab rfl<|BW rfl rfl<|Aa<|Ax rfl (by omega)<|Ad<|Al rfl<|Ab rfl ?_);refine Po (n:=n) rfl hw rfl rfl (by omega) (fun v11 r11=>?_);obtain⟨a1,c1,rfl⟩:=r11.val;(refine Al rfl<|Aa<|An ?_);exact BO rfl (Adb _) ⟨rfl,rfl,r11⟩
 ·rw[Afh (by omega)];(refine Ad<|Al rfl<|Aa<|Af<|Ad<|Al rfl<|AK rfl<|Ab rfl<|BW rfl rfl<|Aa<|Ar rfl (by omega)<|Ak<|Ad<|Al rfl<|Al rfl<|Aa<|An ?_);exact BO rfl (Adb _) ⟨rfl,rfl,hw⟩
def IM(P:Program)(f:FuncId):Prop:=∀{d}{n:Nat},1≤n→n≤1000→Av P f [vZ n] d [] (Ret fun r d' L'=>∃bt Tt bd bp L2,r=.tuple #[pZ bp,pZ bt]∧L'=tb bt Tt (pZ bp) (-1) 0 0::L2∧Pg d' (pdN n) (pZ bd) (pZ bp) L2)
def Je(a0 a1:Nat):A5:=⟨26,[(.tmp 2),(.tmp 3)],(sR (o1 2 (.mv (.const (.pointer none)))<|o1 3 (.mv (.const (.pointer none))) .done) (sR (om 7 0<|oc 8 a0 [7]<|om 4 8 .done) (.seq (sR (om 9 4<|o1 10 (.eqp false 9 (.const (.pointer none))) .done) (.cond 10 (sR (o1 2 (.mv (.const (.pointer none)))<|o1 3 (.mv (.const (.pointer none))) .done) .ret) .skip)) (sR (om 12 4<|o1 13 (.nilc 12)<|oj 14 0 13<|ol 15 14<|oc 16 a1 [15]<|om 11 16<|oe 17 11 0<|oe 18 11 1<|om 5 17<|om 6 18 .done) (.seq (sR (om 19 6<|ob 20 .neq 19 z0 .done) (.cond 20 (sR (o1 2 (.mv (.const (.pointer none)))<|o1 3 (.mv (.const (.pointer none))) .done) .ret) .skip)) (sR (om 21 4<|o1 22 (.nilc 21)<|oj 23 0 22<|ol 24 23<|om 25 5<|om 2 24<|om 3 25 .done) .ret))))))⟩
def Vr{f2}(hd:dec P f=some (Je f1 f2))(h1:OA P f1)(h2:Ss P f2):IM P f:=by
 intro d n hn1 hn2;refine AF hd (Ada rfl) ?_;show gwp P _ _ _ _ _;(refine Ad<|Am rfl<|Am rfl<|Aa<|Ad<|Ab rfl ?_);refine D4 (h1 (n:=n) hn1 hn2) rfl (fun u d1 L1 hl1 ⟨b,bd,bp,e1,e2,e3⟩=>?_);subst e1;(refine Am rfl<|Aa<|Af<|Ad<|Am rfl<|Dk rfl rfl<|Aa<|AS rfl<|Ak<|Ad<|Am rfl<|Au rfl<|Ai rfl<|Ag rfl (BN (by assumption)) ?_);refine D4 (h2 e3) rfl (fun u d2 L2 hl2 ⟨_,bt,Tt,e4,e5⟩=>?_);subst e4;subst e5;have e2':=e2.mono hl2;(refine AU rfl<|Ao rfl rfl<|Ao rfl rfl<|Am rfl<|Ab rfl<|Aa<|Af<|Ad<|Ab rfl<|AN rfl rfl<|Aa<|Ar rfl (by omega)<|Ak<|Ad<|Am rfl<|Au rfl<|Ai rfl<|Ag rfl (BN (by assumption))<|Am rfl<|Am rfl<|Am rfl<|Aa<|An ?_);exact Bd [pZ bp,pZ bt] ⟨As rfl,As rfl,trivial⟩ (Vs.refl _ _) ⟨bt,Tt,bd,bp,_,rfl,rfl,e3.mono hl2⟩
abbrev KV:=List UInt8×List UInt8
def RKv(_:Ac)(cs:List Value)(x:KV):Prop:=cs=[Bt x.1,Bt x.2]∧x.1.length≤140737488355328∧x.2.length≤140737488355328
def EI:Gp RKv:=fun _ h=>h
def BB:List KV→List UInt8→Nat
 |[],_=>0
 |x::l,key=>if Op.bytesLess x.1 key=true then BB l key+1 else 0
def JK(P:Program)(f:FuncId):Prop:=∀{d w l key},RSl 2 RKv d w l→key.length≤140737488355328→C2 P f [w,Bt key] d (vZ (BB l key:Nat))
def KE:A5:=⟨22,[(.tmp 4)],(sR (o1 4 (.mv z0) .done) (sR (o1 5 (.mv z0) .done) (.seq (.block 0 (.loop (.seq (sR (om 6 5<|om 7 0<|oL 8 7<|ob 9 .lss 6 8<|om 10 9<|gT 11 10 0<|gT 12 10 5<|oT 13 10 (.idx 2 11 12)<|oT 14 10 (.fld 0 13)<|oT 15 10 (.ld none 14)<|gT 16 10 1<|oT 17 10 (.bin .lss 15 16)<|gP 18 10 17 .done) (.cond 18 .skip (.exit 0))) (.block 1 (rG (om 19 5<|ob 20 .add 19 z1<|om 5 20 .done)))))) (sR (om 21 5<|om 4 21 .done) .ret))))⟩
def SE(hd:dec P f=some KE):JK P f:=by
 intro d w l key hw hk;have hwl:=hw.B3;obtain⟨a,c,rfl⟩:=hw.val;refine AF hd (Ada rfl) ?_;show gwp P _ _ _ _ _;(refine Ad<|Ab rfl<|Aa<|Ad<|Ab rfl<|Aa<|Af<|Ay ?_);refine CB (α:=Nat) (fun x=>[(0,.slice a l.length c),(1,Bt key),(5,vZ x)]) (fun x d' L'=>d'=d∧L'=[]∧x≤l.length∧BB l key=x+BB (l.drop x) key) (fun x=>l.length - x) 0 ⟨rfl,rfl,rfl,trivial⟩ ⟨rfl,rfl,Aej _,by simp⟩ ?_;rintro i ρ d' L' ⟨rfl,rfl,hi,hf⟩;simp only at hi hf⊢;by_cases e:i<l.length
 ·rw[Aei e,BB] at hf;(refine Af<|Ad<|Ab rfl<|Al rfl<|AK rfl<|AE rfl rfl<|Ae rfl<|Bp rfl (by omega)<|Ah rfl<|Al rfl<|Ah rfl<|Ab rfl<|Ah rfl ?_);refine BM (m:=i) rfl hw rfl rfl e (fun b o cs hcl hdc ⟨q,q1,q2⟩=>?_);subst q;by_cases e2:Op.bytesLess l[i].1 key=true
  ·rw[if_pos e2] at hf;(refine Ah rfl<|Ai rfl<|Ah rfl<|Ag rfl (Fy (by assumption) rfl)<|Ah rfl<|Eb rfl<|Ah rfl<|FC rfl rfl<|AI rfl rfl<|Aa ?_;apply X6;rfl;(with_reducible assumption);refine Ak<|Ay<|AB<|Ab rfl<|AL rfl rfl (by omega) (by omega)<|Ab rfl<|Aa ?_);exact⟨i+1,by omega,⟨rfl,rfl,rfl,trivial⟩,rfl,rfl,e,by omega⟩
  ·rw[if_neg e2,Nat.add_zero] at hf;(refine Ah rfl<|Ai rfl<|Ah rfl<|Ag rfl (Fy (by assumption) rfl)<|Ah rfl<|Eb rfl<|Ah rfl<|FC rfl rfl<|AI rfl rfl<|Aa ?_);show gwp P _ _ _ _ _;first|refine IL rfl (fun h9=>?_) (fun h9=>?_)|refine Mi rfl (fun h9=>?_) (fun h9=>?_)
   ·exact absurd h9 e2
   ·clear h9 e2;rw[hf];(refine Bg<|Ad<|Ab rfl<|Ab rfl<|Aa<|An ?_);exact BO rfl (Adb _) ⟨rfl,rfl,rfl⟩
 ·have:i=l.length:=by omega
  subst this;rw[Agj,BB] at hf;rw[hf];(refine Af<|Ad<|Ab rfl<|Al rfl<|AK rfl<|AE rfl rfl<|Ae rfl<|Bf rfl (by omega)<|Aq rfl<|Aq rfl<|Aq rfl<|Aq rfl<|Aq rfl<|Aq rfl<|Aq rfl<|Aw rfl rfl<|Aa<|AS rfl<|Bg<|Ad<|Ab rfl<|Ab rfl<|Aa<|An ?_);exact BO rfl (Adb _) ⟨rfl,rfl,rfl⟩
def Ku:FZ RKv:=fun _ _ _ h=>by obtain⟨rfl,_⟩:=h;rfl
def isK(l:List KV)(key:List UInt8):Bool:=decide (BB l key<l.length)&& decide ((l.getD (BB l key) ([],[])).1=key)
def Eo(l:List KV)(key:List UInt8):List UInt8×Bool:=if isK l key=true then((l.getD (BB l key) ([],[])).2,true) else([],false)
def B7(l:List KV)(key:List UInt8):List KV×Bool:=if isK l key=true then(l.take (BB l key)++l.drop (BB l key+1),true) else(l,false)
def Gq:∀(l:List KV) (key:List UInt8),BB l key≤l.length
 |[],_=>Adi _
 |x::l,key=>by
  rw[BB,Adm];have:=Gq l key;by_cases h:Op.bytesLess x.1 key=true
  ·rw[if_pos h];omega
  ·rw[if_neg h];omega
def Qg(P:Program)(f:FuncId):Prop:=∀{d w l key},RSl 2 RKv d w l→key.length≤140737488355328→C2 P f [w,Bt key] d (.tuple #[Bt (Eo l key).1,.bool (Eo l key).2])
def K8(a0:Nat):A5:=⟨28,[(.tmp 4),(.tmp 5)],(sR (o1 4 (.mv (.const (Bt [])))<|o1 5 (.mv (.const (.bool false))) .done) (sR (om 7 0<|om 8 1<|oc 9 a0 [7,8]<|om 6 9 .done) (.seq (sR (om 10 6<|om 11 0<|oL 12 11<|ob 13 .lss 10 12<|om 14 13<|gT 15 14 0<|gT 16 14 6<|oT 17 14 (.idx 2 15 16)<|oT 18 14 (.fld 0 17)<|oT 19 14 (.ld none 18)<|gT 20 14 1<|oT 21 14 (.bin .eql 19 20)<|gP 22 14 21 .done) (.cond 22 (sR (om 23 0<|om 24 6<|oI 25 2 23 24<|oj 26 1 25<|ol 27 26<|om 4 27<|o1 5 (.mv (.const (.bool true))) .done) .ret) .skip)) (sR (o1 4 (.mv (.const (Bt [])))<|o1 5 (.mv (.const (.bool false))) .done) .ret))))⟩
def Yq(hd:dec P f=some (K8 f1))(h1:JK P f1):Qg P f:=by
 intro d w l key hw hk;have hwl:=hw.B3;have hc:=h1 hw hk;have hfl:=Gq l key;obtain⟨i,hi⟩:∃i,BB l key=i:=⟨_,rfl⟩
 rw[hi] at hc hfl;have hIs:isK l key=(decide (i<l.length)&& decide ((l.getD i ([],[])).1=key)):=by unfold isK;rw[hi]
 have hG:Eo l key=if isK l key=true then((l.getD i ([],[])).2,true) else([],false):=by unfold Eo;rw[hi]
 rw[hG,hIs];clear hG hIs hi;obtain⟨a,c,rfl⟩:=hw.val;refine AF hd (Ada rfl) ?_;show gwp P _ _ _ _ _;(refine Ad<|Eb rfl<|Ae rfl<|Aa<|Ad<|Al rfl<|Eb rfl ?_);refine BS rfl hc ?_;by_cases e:i<l.length
 ·have hgd:l.getD i ([],[])=l[i]:=by rw[Adh,Ade e];rfl
  rw[hgd];by_cases e2:l[i].1=key
  ·rw[if_pos (by simp[e,e2])];(refine Ab rfl<|Aa<|Af<|Ad<|Ab rfl<|Al rfl<|AK rfl<|AE rfl rfl<|Ae rfl<|Bp rfl (by omega)<|Ah rfl<|Al rfl<|Ah rfl<|Ab rfl<|Ah rfl ?_);refine BM (m:=i) rfl hw rfl rfl e (fun b o cs hcl hdc ⟨q,q1,q2⟩=>?_);subst q;(refine Ah rfl<|Ai rfl<|Ah rfl<|Ag rfl (Fy (by assumption) rfl)<|Ah rfl<|Eb rfl<|Ah rfl<|RM rfl rfl<|AI rfl rfl<|Aa<|Ax rfl (by omega)<|Ad<|Al rfl<|Ab rfl ?_);refine BM (m:=i) rfl hw rfl rfl e (fun b o cs hcl hdc ⟨q,q1,q2⟩=>?_);subst q;(refine Ai rfl<|Ag rfl (Fy (by assumption) rfl)<|Eb rfl<|Ae rfl<|Aa<|An ?_);exact Bd [Bt l[i].2,.bool true] ⟨As rfl,As rfl,trivial⟩ (Vs.refl _ _) ⟨rfl,rfl,rfl⟩
  ·rw[if_neg (by simp[e2])];(refine Ab rfl<|Aa<|Af<|Ad<|Ab rfl<|Al rfl<|AK rfl<|AE rfl rfl<|Ae rfl<|Bp rfl (by omega)<|Ah rfl<|Al rfl<|Ah rfl<|Ab rfl<|Ah rfl ?_);refine BM (m:=i) rfl hw rfl rfl e (fun b o cs hcl hdc ⟨q,q1,q2⟩=>?_);subst q;(refine Ah rfl<|Ai rfl<|Ah rfl<|Ag rfl (Fy (by assumption) rfl)<|Ah rfl<|Eb rfl<|Ah rfl<|RM rfl rfl<|AI rfl rfl<|Aa<|Ar rfl (by omega)<|Ak<|Ad<|Eb rfl<|Ae rfl<|Aa<|An ?_);exact Bd [Bt [],.bool false] ⟨As rfl,As rfl,trivial⟩ (Vs.refl _ _) ⟨rfl,rfl,rfl⟩
 ·rw[if_neg (by simp[e])];(refine Ab rfl<|Aa<|Af<|Ad<|Ab rfl<|Al rfl<|AK rfl<|AE rfl rfl<|Ae rfl<|Bf rfl (by omega)<|Aq rfl<|Aq rfl<|Aq rfl<|Aq rfl<|Aq rfl<|Aq rfl<|Aq rfl<|Aw rfl rfl<|Aa<|AS rfl<|Ak<|Ad<|Eb rfl<|Ae rfl<|Aa<|An ?_);exact Bd [Bt [],.bool false] ⟨As rfl,As rfl,trivial⟩ (Vs.refl _ _) ⟨rfl,rfl,rfl⟩
def MT(P:Program)(f:FuncId):Prop:=∀{d w l key},RSl 2 RKv d w l→key.length≤140737488355328→l.length≤1000000→
 Av P f [w,Bt key] d [] (Ret fun v d' L'=>L'=[]∧Le d d'∧∃u,v=.tuple #[u,.bool (B7 l key).2]∧RSl 2 RKv d' u (B7 l key).1)
def KX(a0:Nat):A5:=⟨34,[(.tmp 4),(.tmp 5)],(sR (o1 4 (.mv nS)<|o1 5 (.mv (.const (.bool false))) .done) (sR (om 7 0<|om 8 1<|oc 9 a0 [7,8]<|om 6 9 .done) (.seq (sR (om 10 6<|om 11 0<|oL 12 11<|ob 13 .eql 10 12<|om 14 13<|gF 15 14 0<|gF 16 14 6<|oF 17 14 (.idx 2 15 16)<|oF 18 14 (.fld 0 17)<|oF 19 14 (.ld none 18)<|gF 20 14 1<|oF 21 14 (.bin .neq 19 20)<|o1 22 (.pick 14 (.const (.bool true)) 21) .done) (.cond 22 (sR (om 23 0<|om 4 23<|o1 5 (.mv (.const (.bool false))) .done) .ret) .skip)) (.seq (.reg true (pm 25 0<|pm 26 6<|p1 27 (.sl 2 25 none (some 26) none)<|pm 29 0<|pm 30 6<|p1 31 (.bin .add 30 z1)<|p1 32 (.sl 2 29 (some 31) none none)<|o1 24 (.bsl 0 2 [(Bt []),(Bt [])] [])<|o1 28 (.app 2 32 [(Bt []),(Bt [])] 24 27)<|o1 33 (.app 2 32 [(Bt []),(Bt [])] 28 32) (.bar (pm 4 33 (p1 5 (.mv (.const (.bool true))) .done))))) .ret))))⟩
def YA(hd:dec P f=some (KX f1))(h1:JK P f1):MT P f:=by
 intro d w l key hw hk hln;have hwl:=hw.B3;have hc:=h1 hw hk;have hfl:=Gq l key;obtain⟨i,hi⟩:∃i,BB l key=i:=⟨_,rfl⟩
 rw[hi] at hc hfl;have hIs:isK l key=(decide (i<l.length)&& decide ((l.getD i ([],[])).1=key)):=by unfold isK;rw[hi]
 have hG:B7 l key=if isK l key=true then(l.take i++l.drop (i+1),true) else(l,false):=by unfold B7;rw[hi]
 rw[hG,hIs];clear hG hIs hi;obtain⟨a,c,rfl⟩:=hw.val;refine AF hd (Ada rfl) ?_;show gwp P _ _ _ _ _;(refine Ad<|Al rfl<|Ae rfl<|Aa<|Ad<|Al rfl<|Eb rfl ?_);refine BS rfl hc ?_;by_cases e:i<l.length
 ·have hgd:l.getD i ([],[])=l[i]:=by rw[Adh,Ade e];rfl
  rw[hgd];by_cases e2:l[i].1=key
  ·rw[if_pos (by simp[e,e2])];(refine Ab rfl<|Aa<|Af<|Ad<|Ab rfl<|Al rfl<|AK rfl<|AO rfl rfl<|Ae rfl<|Bf rfl (by omega)<|Ah rfl<|Al rfl<|Ah rfl<|Ab rfl<|Ah rfl ?_);refine BM (m:=i) rfl hw rfl rfl e (fun b o cs hcl hdc ⟨q,q1,q2⟩=>?_);subst q;(refine Ah rfl<|Ai rfl<|Ah rfl<|Ag rfl (Fy (by assumption) rfl)<|Ah rfl<|Eb rfl<|Ah rfl<|RL rfl rfl<|Aw rfl rfl<|Aa ?_);show gwp P _ _ _ _ _;first|refine IL rfl (fun h9=>?_) (fun h9=>?_)|refine Mi rfl (fun h9=>?_) (fun h9=>?_)
   ·exact absurd e2 h9
   ·clear h9;(refine Ak<|Af ?_);refine Bu ?_;(refine Al rfl<|Ab rfl ?_);refine Po (n:=i) rfl hw rfl rfl (by omega) (fun v27 r27=>?_);(refine Al rfl<|Ab rfl<|AL rfl rfl (by omega) (by omega) ?_);refine EU (n:=i+1) rfl hw rfl rfl (by omega) (fun v32 r32=>?_);refine Ab9 (R:=RKv) (xs:=l.take i) (ys:=l.drop (i+1)) EI Ku (by omega) rfl r27 r32 (fun _=>rfl) (fun _ _=>rfl) (by simp;omega) (by simp;omega) (fun v0 v1 a c d3 hl3 hr3=>?_);(refine Ch<|Al rfl<|Ae rfl<|Aa<|An ?_);exact Bd [.slice a (l.take i++l.drop (i+1)).length c,.bool true] ⟨As rfl,As rfl,trivial⟩ (Vs.refl _ _) ⟨rfl,hl3,_,rfl,hr3⟩
  ·rw[if_neg (by simp[e2])];(refine Ab rfl<|Aa<|Af<|Ad<|Ab rfl<|Al rfl<|AK rfl<|AO rfl rfl<|Ae rfl<|Bf rfl (by omega)<|Ah rfl<|Al rfl<|Ah rfl<|Ab rfl<|Ah rfl ?_);refine BM (m:=i) rfl hw rfl rfl e (fun b o cs hcl hdc ⟨q,q1,q2⟩=>?_);subst q;(refine Ah rfl<|Ai rfl<|Ah rfl<|Ag rfl (Fy (by assumption) rfl)<|Ah rfl<|Eb rfl<|Ah rfl<|RL rfl rfl<|Aw rfl rfl<|Aa<|Ax rfl (by omega)<|Ad<|Al rfl<|Al rfl<|Ae rfl<|Aa<|An ?_);exact Bd [.slice a l.length c,.bool false] ⟨As rfl,As rfl,trivial⟩ (Vs.refl _ _) ⟨rfl,Le.refl _,_,rfl,hw⟩
 ·rw[if_neg (by simp[e])];(refine Ab rfl<|Aa<|Af<|Ad<|Ab rfl<|Al rfl<|AK rfl<|AO rfl rfl<|Ae rfl<|Bp rfl (by omega)<|Aq rfl<|Aq rfl<|Aq rfl<|Aq rfl<|Aq rfl<|Aq rfl<|Aq rfl<|AI rfl rfl<|Aa<|Bj rfl<|Ad<|Al rfl<|Al rfl<|Ae rfl<|Aa<|An ?_);exact Bd [.slice a l.length c,.bool false] ⟨As rfl,As rfl,trivial⟩ (Vs.refl _ _) ⟨rfl,Le.refl _,_,rfl,hw⟩
def Ez(l:List KV)(key v:List UInt8):List KV:=(B7 l key).1.take (BB (B7 l key).1 key)++[(key,v)]++(B7 l key).1.drop (BB (B7 l key).1 key)
def UI(l:List KV)(key:List UInt8):(B7 l key).1.length≤l.length:=by
 unfold B7;by_cases h:isK l key=true
 ·rw[if_pos h];simp only[Adj,Adz,Adr];omega
 ·rw[if_neg h];exact Adi _
def PM(P:Program)(f:FuncId):Prop:=∀{d w l key v},RSl 2 RKv d w l→key.length≤140737488355328→v.length≤140737488355328→l.length≤1000000→
 Av P f [w,Bt key,Bt v] d [] (Ret fun r d' L'=>L'=[]∧Le d d'∧RSl 2 RKv d' r (Ez l key v))
def Mr(a0 a1:Nat):A5:=⟨31,[(.tmp 6)],(sR (o1 6 (.mv nS) .done) (sR (om 9 0<|om 10 1<|oc 11 a0 [9,10]<|om 8 11<|oe 12 8 0<|oe 13 8 1<|om 0 12 .done) (sR (om 14 0<|om 15 1<|oc 16 a1 [14,15]<|om 7 16 .done) (.seq (.reg true (pm 18 0<|pm 19 7<|p1 20 (.sl 2 18 none (some 19) none)<|pm 22 1<|pm 23 2<|p1 24 (.bld [(0,1),(1,1)] [(Bt []),(Bt [])] [(0,22),(1,23)])<|pm 27 0<|pm 28 7<|p1 29 (.sl 2 27 (some 28) none none) (.par (o1 25 (.bsl 1 2 [(Bt []),(Bt [])] [(0,24)]) .done) (o1 17 (.bsl 0 2 [(Bt []),(Bt [])] []) (o1 21 (.app 2 32 [(Bt []),(Bt [])] 17 20) .done)) (o1 26 (.app 2 32 [(Bt []),(Bt [])] 21 25) (o1 30 (.app 2 32 [(Bt []),(Bt [])] 26 29) (.bar (pm 6 30 .done))))))) .ret))))⟩
set_option maxRecDepth 4000 in
def Zc{f2}(hd:Kc P f=some (Mr f1 f2))(h1:MT P f1)(h2:JK P f2):PM P f:=by
 intro d w l key v hw hk hv hln;have hwl:=hw.B3;have hdl:=UI l key;obtain⟨a,c,rfl⟩:=hw.val;refine AF hd (Ada rfl) ?_;show gwp P _ _ _ _ _;(refine Ad<|Al rfl<|Aa<|Ad<|Al rfl<|Eb rfl ?_);refine D4 (h1 hw hk hln) rfl (fun u d2 L2 hl2 ⟨e1,_,w2,e2,hw2⟩=>?_);subst e1;subst e2;have hc:=h2 hw2 hk;have hfl:=Gq (B7 l key).1 key;unfold Ez;generalize hm:(B7 l key).1=m at hw2 hc hfl hdl⊢;generalize hi:BB m key=i at hc hfl⊢;obtain⟨a2,c2,rfl⟩:=hw2.val;clear hm hi hw;(refine AU rfl<|Ao rfl rfl<|Ao rfl rfl<|Al rfl<|Aa<|Ad<|Al rfl<|Eb rfl ?_);refine BS rfl hc ?_;(refine Ab rfl<|Aa<|Af ?_);refine Bu ?_;(refine Al rfl<|Ab rfl ?_);refine Po (n:=i) rfl hw2 rfl rfl (by omega) (fun v20 r20=>?_);(refine Eb rfl<|Eb rfl<|BR rfl<|Al rfl<|Ab rfl ?_);refine EU (n:=i) rfl hw2 rfl rfl (by omega) (fun v29 r29=>?_);refine GK (α:=Nat×TypeId) (β:=Value×Ac) [(29,v29)]
  (fun x=>[(25,.slice (some ⟨x.1,0,none⟩) 1 1)]) (fun x d L=>L=[bx x.1 x.2 [Bt key,Bt v]])
  (fun y=>[(21,y.1)]) (fun y d L=>Ap 2 RKv d y.1 (m.take i) y.2∧L=[y.2]) [] [] rfl
  (fun x d d' M hl h=>h) (fun y d d' M hl h=>⟨Ap.mono (R:=RKv) EI h.1 hl,h.2⟩) (fun x=>rfl) (fun y=>rfl) rfl ⟨rfl,trivial⟩ ?_ ?_ ?_
 ·refine SY (cs:=[Bt key,Bt v]) rfl rfl rfl (by omega) (fun b25 T25=>?_);refine A9 ?_;exact⟨_,rfl,(b25,T25),⟨rfl,trivial⟩,rfl⟩
 ·refine Abt (R:=RKv) (xs:=m.take i) EI Ku (by omega) r20 (fun _=>rfl) (by simp;omega) (by simp;omega) (fun v0 v1 g1 o1=>?_);refine A9 ?_;exact⟨_,rfl,(v1,g1),⟨rfl,trivial⟩,o1,rfl⟩
 rintro⟨b25,T25⟩ ⟨v21,g21⟩ ρ d5 M1 M2 hl5 hM1 ⟨o21,hM2⟩;subst hM1;subst hM2;refine D1 (R:=RKv) 0 rfl rfl o21 rfl (Ap.Ep (R:=RKv) (x:=(key,v)) rfl ⟨rfl,hk,hv⟩) Ku (by omega) (by simp;omega) (by simp;omega) (fun v26 g26 o26=>?_);refine PW (R:=RKv) (xs:=m.take i++[(key,v)]) (ys:=m.drop i) EI rfl o26 rfl (RSl.src (R:=RKv) (RSl.mono (R:=RKv) EI r29 hl5) Ku (by omega) _) (by omega) (by simp;omega) (by simp;omega) (fun a30 c30 d6 hl6 r30=>?_);(refine Ch<|Al rfl<|Aa<|An ?_);exact BO rfl (Adb _) ⟨rfl,(hl2.trans hl5).trans hl6,r30⟩
end Go.Gk.Tre
end
section
namespace Go.Gk.Tre
open Go Go.Gk Go.Gk.Dev Go.Gk.Cch Go.Gk.Pgr Go.Gk.Chn Go.Gk.Node
variable{n:Az}{b:List KV}{key:List UInt8}{s t:PD}{c c':Nat}{k:Int}
abbrev Lt(a b:List UInt8):Prop:=Op.bytesLess a b=true
def Iz{a}:¬Lt a a:=by simp[Lt,Fi]
def FP{a b c}(h:Lt a b)(k:Lt b c):Lt a c:=Ka h k
def VF{a b}(h:Lt a b):¬Lt b a:=fun k=>Iz (FP h k)
def E4{a b c}(h:¬Lt b a)(k:Lt b c):Lt a c:=by
 rcases JV a b with q|q|q
 ·exact FP q k
 ·rw[q];exact k
 ·exact absurd q h
def Ho{a b c}(h:Lt a b)(k:¬Lt c b):Lt a c:=by
 rcases JV b c with q|q|q
 ·exact FP h q
 ·rw[←q];exact h
 ·exact absurd q k
def Z9{a b}(h:¬Lt a b):a=b∨Lt b a:=by
 rcases JV a b with q|q|q
 ·exact absurd q h
 ·exact .inl q
 ·exact .inr q
def KO(ks:List (List UInt8)):Prop:=(∀k∈ks,1≤k.length∧k.length≤64)∧ks.Pairwise Lt
def QD{ks}:Du ks ks.length=true↔KO ks:=by
 constructor
 ·intro h;refine⟨fun k hk=>?_,Agf.2 fun i j hi hj hij=>KQ h hj hij⟩
  obtain⟨i,hi,rfl⟩:=Aez hk;have:=G0.1 h i hi;simp only[kOk,Adc,decide_eq_true_eq,Adh,Ade hi,Ago] at this;exact this.1
 ·rintro⟨h1,h2⟩;rw[G0];intro k hk;have:=h1 _ (Aec hk);simp only[kOk,Adc,decide_eq_true_eq,Adh,Ade hk,Ago,Afa,beq_iff_eq];refine⟨this,?_⟩
  by_cases e:k=0
  ·exact .inl e
  ·refine .inr ?_;rw[Ade (show k - 1<ks.length by omega)];exact Agf.1 h2 (k - 1) k (by omega) hk (by omega)
def KO.app{a b}:KO (a++b)↔KO a∧KO b∧∀x∈a,∀y∈b,Lt x y:=by
 simp only[KO,List.pairwise_append,Adg];exact⟨fun⟨h,p1,p2,p3⟩=>⟨⟨fun k hk=>h k (.inl hk),p1⟩,⟨fun k hk=>h k (.inr hk),p2⟩,p3⟩,
  fun⟨⟨a1,a2⟩,⟨b1,b2⟩,c⟩=>⟨fun k hk=>hk.elim (a1 k) (b1 k),a2,b2,c⟩⟩
def KO.cons{x b}:KO (x::b)↔(1≤x.length∧x.length≤64)∧KO b∧∀y∈b,Lt x y:=by
 simp only[KO,List.pairwise_cons,Adu];exact⟨fun⟨h,p1,p2⟩=>⟨h x (.inl rfl),⟨fun k hk=>h k (.inr hk),p2⟩,p1⟩,
  fun⟨a,⟨b1,b2⟩,c⟩=>⟨fun k hk=>hk.elim (fun e=>e▸a) (b1 k),c,b2⟩⟩
def KO.nil:KO []:=⟨fun _ h=>(by cases h),List.Pairwise.nil⟩
def Ck{ks vs}:A0 ⟨true,ks,vs,[]⟩=true↔KO ks∧vs.length=ks.length∧∀v∈vs,v.length≤16:=by
 simp only[A0,Adc,if_true,decide_eq_true_eq,Adv,HS,QD];exact⟨fun⟨a,⟨b,_⟩,c⟩=>⟨a,b,c⟩,fun⟨a,b,c⟩=>⟨a,⟨b,rfl⟩,c⟩⟩
def Bs{ks}{cs:List Int}:A0 ⟨false,ks,[],cs⟩=true↔KO ks∧cs.length=ks.length+1∧∀c∈cs,0≤c∧c≤8191:=by
 simp only[A0,Adc,Adk,if_false,decide_eq_true_eq,Adv,Gj,QD];exact⟨fun⟨a,⟨_,b⟩,c⟩=>⟨a,b,c⟩,fun⟨a,b,c⟩=>⟨a,⟨rfl,b⟩,c⟩⟩
def Dy(h:A0 n=true)(hl:n.leaf=true):n=⟨true,n.keys,n.vals,[]⟩:=by
 obtain⟨lf,ks,vs,cs⟩:=n;simp only at hl;subst hl;simp only[A0,Adc,if_true,decide_eq_true_eq] at h;rw[Adn h.2.1.2]
def C9(h:A0 n=true)(hl:n.leaf=false):n=⟨false,n.keys,[],n.kids⟩:=by
 obtain⟨lf,ks,vs,cs⟩:=n;simp only at hl;subst hl;simp only[A0,Adc,Adk,if_false,decide_eq_true_eq] at h;rw[Adn h.2.1.1]
def Cz:List (List UInt8)→Nat
 |[]=>0
 |x::l=>x.length+Cz l
def Cg:∀a b:List (List UInt8),Cz (a++b)=Cz a+Cz b
 |[],b=>by simp[Cz]
 |x::a,b=>by simp only[Aex,Cz,Cg a b];omega
def KW{l:List (List UInt8)}{k:Nat}(h:k<l.length):Cz (l.take (k+1))=Cz (l.take k)+l[k].length:=by
 rw[List.take_succ_eq_append_getElem h,Cg];simp[Cz]
def size_leaf{ks vs}(h:vs.length=ks.length):AY ⟨true,ks,vs,[]⟩=2+2*ks.length+Cz ks+Cz vs:=by
 have key:∀k,k≤ks.length→Bo ⟨true,ks,vs,[]⟩ k=2*k+Cz (ks.take k)+Cz (vs.take k):=by
  intro k;induction k with
  |zero=>intro _;simp[Bo,Cz]
  |succ k ih=>
   intro hk
   rw[Bo,ih (by omega),KW (show k<ks.length by omega),KW (show k<vs.length by omega)]
   simp only[D8,if_true,Dq,Fg,Adh,Ade (show k<ks.length by omega),Ade (show k<vs.length by omega),Ago]
   omega
 have:=key ks.length (Adi _);rw[Afi,←h,Afi,h] at this;simp only[AY,if_true,this];omega
def size_inner{ks}{cs:List Int}:AY ⟨false,ks,[],cs⟩=2+2*cs.length+ks.length+Cz ks:=by
 have key:∀k,k≤ks.length→Bo ⟨false,ks,[],cs⟩ k=k+Cz (ks.take k):=by
  intro k;induction k with
  |zero=>intro _;simp[Bo,Cz]
  |succ k ih=>
   intro hk
   rw[Bo,ih (by omega),KW (show k<ks.length by omega)]
   simp only[D8,Adk,if_false,Dq,Adh,Ade (show k<ks.length by omega),Ago]
   omega
 have:=key ks.length (Adi _);rw[Afi] at this;simp only[AY,Adk,if_false,this];omega
def Qj{l}{n:Nat}(h:∀x∈l,x.length≤n):Cz l≤n*l.length:=by
 induction l with
 |nil=>simp[Cz]
 |cons x l ih=>
  have h1:=ih (fun y hy=>h y (Adp _ hy))
  have h2:=h x (Ado ..)
  simp only[Cz,Adm,Nat.mul_succ];omega
def OR(hs:A0 n=true)(h:256<AY n):Dj n=true:=by
 cases hl:n.leaf with
 |true=>
  have e:=Dy hs hl
  rw[e] at hs h⊢
  obtain⟨h1,h2,h3⟩:=Ck.1 hs
  rw[size_leaf h2] at h
  have k1:=Qj (fun x hx=>(h1.1 x hx).2)
  have k2:=Qj h3
  simp only[Dj,hs,Agg,if_true,decide_eq_true_eq]
  omega
 |false=>
  have e:=C9 hs hl
  rw[e] at hs h⊢
  obtain⟨h1,h2,h3⟩:=Bs.1 hs
  rw[size_inner] at h
  have k1:=Qj (fun x hx=>(h1.1 x hx).2)
  simp only[Dj,hs,Agg,Adk,if_false,decide_eq_true_eq]
  omega
def Hw{ks vs}(hk:KO ks)(key:List UInt8):
  (∃a b,ks=a++key::b∧findD ⟨true,ks,vs,[]⟩ key=(a.length,true)∧(∀x∈a,Lt x key)∧∀x∈b,Lt key x)∨
  (∃a b,ks=a++b∧findD ⟨true,ks,vs,[]⟩ key=(a.length,false)∧(∀x∈a,Lt x key)∧∀x∈b,Lt key x):=by
 have e:ks=ks.takeWhile (Op.bytesLess · key)++ks.dropWhile (Op.bytesLess · key):=(Ahp).symm
 have h1:∀x∈ks.takeWhile (Op.bytesLess · key),Lt x key:=fun x hx=>by
  have:=List.all_takeWhile (p:=(Op.bytesLess · key)) (l:=ks);exact Adv.1 this x hx
 have hl:low ⟨true,ks,vs,[]⟩ key=(ks.takeWhile (Op.bytesLess · key)).length:=rfl
 have hf:findD ⟨true,ks,vs,[]⟩ key=(low ⟨true,ks,vs,[]⟩ key,decide (low ⟨true,ks,vs,[]⟩ key<ks.length)&& decide (ks.getD (low ⟨true,ks,vs,[]⟩ key) []=key)):=rfl
 rw[hf,hl]
 generalize hA:ks.takeWhile (Op.bytesLess · key)=A at*
 cases hB:ks.dropWhile (Op.bytesLess · key) with
 |nil=>
  rw[hB] at e
  refine .inr ⟨A,[],e,?_,h1,fun x hx=>(by cases hx)⟩
  rw[e];simp
 |cons y B=>
  rw[hB] at e
  have hy:¬Lt y key:=by
   have:=List.head?_dropWhile_not (Op.bytesLess · key) ks;rw[hB] at this;simpa [Lt] using this
  have hr:∀x∈B,Lt y x:=by
   rw[e] at hk;exact(KO.cons.1 (KO.app.1 hk).2.1).2.2
  have hg:(A++y::B).getD A.length []=y:=by simp
  rcases Z9 hy with q|q
  ·subst q
   refine .inl ⟨A,B,e,?_,h1,hr⟩
   rw[e,hg];simp
  ·refine .inr ⟨A,y::B,e,?_,h1,fun x hx=>?_⟩
   ·rw[e,hg]
    have:y≠key:=fun h=>Iz (h▸q)
    simp[this]
   ·rcases Adu.1 hx with rfl|hx
    ·exact q
    ·exact FP q (hr x hx)
def GP{ks}{cs:List Int}(hs:A0 ⟨false,ks,[],cs⟩=true)(key:List UInt8):
  ∃a b,ks=a++b∧findD ⟨false,ks,[],cs⟩ key=(a.length,false)∧(∀x∈a,¬Lt key x)∧∀x∈b,Lt key x:=by
 have hk:=(Bs.1 hs).1
 rw[find_eq _ _ hs]
 refine⟨ks.takeWhile (leB · key),ks.dropWhile (leB · key),(Ahp).symm,rfl,fun x hx=>?_,fun x hx=>?_⟩
 ·have:=Adv.1 (List.all_takeWhile (p:=(leB · key)) (l:=ks)) x hx
  simp only[leB,Afa,decide_eq_true_eq] at this
  rcases this with h|h
  ·exact VF h
  ·rw[h];exact Iz
 ·cases hB:ks.dropWhile (leB · key) with
  |nil=>rw[hB] at hx;cases hx
  |cons y B=>
   have hy:Lt key y:=by
    have:=List.head?_dropWhile_not (leB · key) ks;rw[hB] at this;simp only[leB,List.head?_cons,Bool.or_eq_false_iff,decide_eq_false_iff_not] at this;rcases Z9 (a:=y) (b:=key) (by simp[Lt,this.1]) with q|q
    ·exact absurd q this.2
    ·exact q
   have hr:∀x∈B,Lt y x:=by
    rw[←Ahp (p:=(leB · key)) (l:=ks),hB] at hk;exact(KO.cons.1 (KO.app.1 hk).2.1).2.2
   rw[hB] at hx
   rcases Adu.1 hx with rfl|hx
   ·exact hy
   ·exact FP hy (hr x hx)
def I4{a}(h:∀x∈a,Lt x.1 key):BB (a++b) key=a.length+BB b key:=by
 induction a with
 |nil=>simp
 |cons x a ih=>
  rw[Aex,BB,if_pos (h x (Ado ..)),ih (fun y hy=>h y (Adp _ hy)),Adm];omega
def IN{m}(h:∀x∈b,Lt key x.1):BB (m++b) key=BB m key:=by
 induction m with
 |nil=>
  cases b with
  |nil=>rfl
  |cons x b=>
   have:=VF (h x (Ado ..))
   show(if Op.bytesLess x.1 key=true then BB b key+1 else 0)=0
   rw[if_neg this]
 |cons x m ih=>
  rw[Aex,BB,BB,ih]
def DM{a m}(ha:∀x∈a,Lt x.1 key)(hb:∀x∈b,Lt key x.1):isK (a++m++b) key=isK m key:=by
 unfold isK;rw[Adf,I4 ha,IN hb];have hle:=Gq m key;by_cases e:BB m key<m.length
 ·rw[show(a++(m++b)).getD (a.length+BB m key) ([],[])=m.getD (BB m key) ([],[]) by simp[Aha,Aff,Afk e]];simp[e];omega
 ·have e1:BB m key=m.length:=by omega
  rw[e1];cases b with
  |nil=>simp
  |cons x b=>
   have hx:=hb x (Ado ..)
   have:(a++(m++x::b)).getD (a.length+m.length) ([],[])=x:=by simp[Aha]
   rw[this]
   have hne:x.1≠key:=fun h=>Iz (h▸hx)
   simp[hne]
def J5{a m}(ha:∀x∈a,Lt x.1 key)(hb:∀x∈b,Lt key x.1):B7 (a++m++b) key=(a++(B7 m key).1++b,isK m key):=by
 unfold B7;rw[DM ha hb];by_cases h:isK m key=true
 ·have hlt:BB m key<m.length:=by simp only[isK,Adc,decide_eq_true_eq] at h;exact h.1
  rw[if_pos h,if_pos h,h,Adf,I4 ha,IN hb];congr 1;rw[List.take_append,Aii,Afh (show a.length≤a.length+BB m key by omega),Agc (show a.length≤a.length+BB m key+1 by omega),
   show a.length+BB m key - a.length=BB m key by omega,show a.length+BB m key+1 - a.length=BB m key+1 by omega,Agi (by omega),Ahv (by omega)]
  simp
 ·rw[if_neg h,if_neg h];simp only[Afz] at h;rw[h]
def Tp{a m}(ha:∀x∈a,Lt x.1 key)(hb:∀x∈b,Lt key x.1):Eo (a++m++b) key=Eo m key:=by
 unfold Eo;rw[DM ha hb];by_cases h:isK m key=true
 ·have hlt:BB m key<m.length:=by simp only[isK,Adc,decide_eq_true_eq] at h;exact h.1
  rw[if_pos h,if_pos h,Adf,I4 ha,IN hb];congr 2;simp[Aha,Aff,Afk hlt]
 ·rw[if_neg h,if_neg h]
def N6{a m v}(ha:∀x∈a,Lt x.1 key)(hb:∀x∈b,Lt key x.1):Ez (a++m++b) key v=a++Ez m key v++b:=by
 unfold Ez;rw[J5 ha hb];simp only;generalize (B7 m key).1=m;have hle:=Gq m key;rw[show a++m++b=a++(m++b) from Adf ..,I4 ha,IN hb,List.take_append,Aii,Afh (show a.length≤a.length+BB m key by omega),Agc (show a.length≤a.length+BB m key by omega),
   show a.length+BB m key - a.length=BB m key by omega,Agi (by omega),Ahv (by omega)]
 simp
def Ie:isK [] key=false:=rfl
def Y3{v}:Ez [] key v=[(key,v)]:=rfl
def H8{w}:isK [(key,w)] key=true:=by
 simp[isK,BB,Fi]
def NM{w}:(B7 [(key,w)] key).1=[]:=by
 simp[B7,H8,BB,Fi]
def YW{v w}:Ez [(key,w)] key v=[(key,v)]:=by
 unfold Ez;rw[NM];rfl
def Zy{w}:Eo [(key,w)] key=(w,true):=by
 simp[Eo,H8,BB,Fi]
def Gm{l}{x:KV}(h:x∈(B7 l key).1):x∈l:=by
 unfold B7 at h;split at h
 ·rcases Adg.1 h with q|q
  ·exact Aif q
  ·exact Aft q
 ·exact h
def NY{l v}{x:KV}(h:x∈Ez l key v):x=(key,v)∨x∈l:=by
 unfold Ez at h;rcases Adg.1 h with q|q
 ·rcases Adg.1 q with q|q
  ·exact .inr (Gm (Aif q))
  ·exact .inl (Adq.1 q)
 ·exact .inr (Gm (Aft q))
def Tj{l}:(B7 l key).1.length+(if isK l key=true then 1 else 0)=l.length:=by
 unfold B7;by_cases h:isK l key=true
 ·have hlt:BB l key<l.length:=by simp only[isK,Adc,decide_eq_true_eq] at h;exact h.1
  rw[if_pos h,if_pos h];simp only[Adj,Adz,Adr];omega
 ·rw[if_neg h,if_neg h];rfl
def S0{l v}:(Ez l key v).length=l.length+(if isK l key=true then 0 else 1):=by
 have h1:=Tj (l:=l) (key:=key);have h2:=Gq (B7 l key).1 key;unfold Ez;simp only[Adj,Adz,Adr,List.length_singleton];by_cases h:isK l key=true
 ·rw[if_pos h] at h1⊢;omega
 ·rw[if_neg h] at h1⊢;omega
structure Mv (s t:PD) (A B:List Int) (c:Nat):Prop where
 lv:∀k,A4 t k↔(A4 s k∧k∉A)∨k∈B
 nw:∀k∈B,A4 s k→k∈A
 nd:B.Nodup
 st:∀k,A4 s k→k∉A→t.kind k=s.kind k∧t.bytes k=s.bytes k
 fr:s.free≤t.free+c
 gd:Pgr.Good t
def Mv.refl(h:Pgr.Good s):Mv s s [] [] 0:=⟨fun k=>by simp,fun k hk=>(by cases hk),Ahx,fun _ _ _=>⟨rfl,rfl⟩,Adi _,h⟩
def Mv.trans{u}{A B C:List Int}(h:Mv s t A B c)(k:Mv t u B C c'):Mv s u A C (c+c'):=by
 have hx:∀p,A4 s p→p∉A→p∉B:=fun p h1 h2 h3=>h2 (h.nw p h3 h1);refine⟨fun p=>?_,fun p hp hs=>?_,k.nd,fun p hs hA=>?_,by have:=h.fr;have:=k.fr;omega,k.gd⟩
 ·rw[k.lv,h.lv];constructor
  ·rintro(⟨h1|h1,h2⟩|h1)
   ·exact .inl h1
   ·exact absurd h1 h2
   ·exact .inr h1
  ·rintro(h1|h1)
   ·exact .inl ⟨.inl h1,hx p h1.1 h1.2⟩
   ·exact .inr h1
 ·by_cases q:p∈A
  ·exact q
  ·exact absurd (k.nw p hp ((h.lv p).2 (.inl ⟨hs,q⟩))) (hx p hs q)
 ·obtain⟨a1,a2⟩:=h.st p hs hA;obtain⟨b1,b2⟩:=k.st p ((h.lv p).2 (.inl ⟨hs,hA⟩)) (hx p hs hA);exact⟨b1.trans a1,b2.trans a2⟩
def Mv.frame{A B R:List Int}(h:Mv s t A B c)(h1:∀k∈R,A4 s k)(h2:R.Nodup)(h3:∀k∈R,k∉A):Mv s t (A++R) (B++R) c:=by
 refine⟨fun p=>?_,fun p hp hs=>?_,?_,fun p hs hA=>h.st p hs (fun q=>hA (Adw _ q)),h.fr,h.gd⟩
 ·rw[h.lv];simp only[Adg];constructor
  ·rintro(⟨a,b⟩|a)
   ·by_cases q:p∈R
    ·exact .inr (.inr q)
    ·exact .inl ⟨a,fun e=>e.elim b q⟩
   ·exact .inr (.inl a)
  ·rintro(⟨a,b⟩|a|a)
   ·exact .inl ⟨a,fun q=>b (.inl q)⟩
   ·exact .inr a
   ·exact .inl ⟨h1 p a,h3 p a⟩
 ·rcases Adg.1 hp with q|q
  ·exact Adw _ (h.nw p q hs)
  ·exact List.mem_append_right _ q
 ·refine List.nodup_append.2 ⟨h.nd,h2,fun a ha b hb e=>?_⟩;subst e;exact h3 a hb (h.nw a ha (h1 a hb))
def Mv.perm{A B A' B':List Int}(h:Mv s t A B c)(ha:A'.Perm A)(hb:B'.Perm B):Mv s t A' B' c:=
 ⟨fun p=>by rw[h.lv,ha.mem_iff,hb.mem_iff],fun p hp hs=>ha.mem_iff.2 (h.nw p (hb.mem_iff.1 hp) hs),hb.nodup_iff.2 h.nd,fun p hs hA=>h.st p hs (fun q=>hA (ha.mem_iff.2 q)),h.fr,h.gd⟩
def Mv.mono{A B:List Int}(h:Mv s t A B c)(hc:c≤c'):Mv s t A B c':=⟨h.lv,h.nw,h.nd,h.st,by have:=h.fr;omega,h.gd⟩
def Mv.then{u}{A B A' B' R:List Int}(h:Mv s t A B c)(k:Mv t u A' B' c')(hp:(B++R).Perm A')(h1:∀k∈R,A4 s k)(h2:R.Nodup)(h3:∀k∈R,k∉A):Mv s u (A++R) B' (c+c'):=
 (h.frame h1 h2 h3).trans (k.perm hp (Aeq _))
def Zu{i:Nat}{x:Int}{fb:Nat→Sec}(hi:i<s.kinds.length):({s with kinds:=s.kinds.set i x,fb:=fb}:PD).kind k=if k=((s.frm+i:Nat):Int) then x else s.kind k:=by
 unfold PD.kind;simp only[Aen];by_cases e:k=((s.frm+i:Nat):Int)
 ·subst e;rw[if_pos (by omega),if_pos rfl];show(s.kinds.set i x).getD _ 0=x;rw[De hi,if_pos (by omega)]
 ·rw[if_neg e];by_cases q:(s.frm:Int)≤k∧k<(s.frm:Int)+s.kinds.length
  ·rw[if_pos q,if_pos q];show(s.kinds.set i x).getD _ 0=s.kinds.getD _ 0;rw[De hi,if_neg (by omega)]
  ·rw[if_neg q,if_neg q]
def FI(hG:Pgr.Good s)(hk:A4 s k):(s.drop k).2=0∧Mv s (s.drop k).1 [k] [] 0:=by
 obtain⟨x,hx,i,i1,rfl,i2,i3,he⟩:∃x:Int,(x=0∨x=3)∧∃i,i<s.kinds.length∧k=((s.frm+i:Nat):Int)∧(s.kd i=1∨s.kd i=2)∧(k - s.frm).toNat=i∧s.drop k=({s with kinds:=s.kinds.set i x},0):=by
  rcases hk with hk|hk
  ·obtain⟨i,i1,i2,i3,i4⟩:=CA hk (by omega);exact⟨0,.inl rfl,i,i1,i2,.inl i3,i4,by unfold PD.drop;rw[if_pos hk,i4]⟩
  ·obtain⟨i,i1,i2,i3,i4⟩:=CA hk (by omega);exact⟨3,.inr rfl,i,i1,i2,.inr i3,i4,by unfold PD.drop;rw[if_neg (by omega),if_pos hk,i4]⟩
 have hGd:=IZ hG ((s.frm+i:Nat):Int);rw[he] at hGd⊢;have hkind:∀p,({s with kinds:=s.kinds.set i x}:PD).kind p=if p=((s.frm+i:Nat):Int) then x else s.kind p:=fun p=>Zu (fb:=s.fb) i1
 refine⟨rfl,fun p=>?_,fun p hp=>(by cases hp),Ahx,fun p hs hp=>?_,?_,hGd⟩
 ·unfold A4;rw[hkind];by_cases e:p=((s.frm+i:Nat):Int)
  ·subst e;rw[if_pos rfl];rcases hx with rfl|rfl<;>simp
  ·rw[if_neg e];exact⟨fun h=>.inl ⟨h,fun q=>e (Adq.1 q)⟩,fun h=>h.elim And.left (fun q=>by cases q)⟩
 ·have e:p≠((s.frm+i:Nat):Int):=by simpa using hp
  have:=hkind p;rw[if_neg e] at this;refine⟨this,?_⟩
  unfold PD.bytes;rw[this]
 ·have:=NP (s:=s) (i:=i) (x:=x) i1;rw[if_neg (by rw[←GJ i1];omega)] at this;show s.free≤(s.kinds.set i x).countP (·==0)+0;omega
def Tk.mv{l:List Int}(h:Tk s t l)(hG:Pgr.Good t):Mv s t [] l l.length:=by
 refine⟨fun p=>?_,fun p hp hs=>?_,h.nd,fun p hs _=>?_,by have:=h.free;omega,hG⟩
 ·unfold A4;rw[h.kind];by_cases q:p∈l
  ·simp[q]
  ·simp[q]
 ·refine absurd hp (h.not ?_);rcases hs with hs|hs<;>omega
 ·have:p∉l:=h.not (by rcases hs with hs|hs<;>omega);exact⟨by rw[h.kind,if_neg this],h.bytes this⟩
def UG(hG:Pgr.Good s):(s.AX.2.2=0∧Mv s s.AX.1 [] [s.AX.2.1] 1∧s.AX.1.kind s.AX.2.1=1)∨(s.AX.2.2=190∧s.free=0):=by
 rcases (Tk.nil s).take with ⟨h1,h2⟩|⟨h1,_,h3⟩
 ·refine .inl ⟨h1,Tk.mv h2 (FM hG),?_⟩;rw[h2.kind,if_pos (by simp)]
 ·exact .inr ⟨h1,h3⟩
def RZ(hG:Pgr.Good s){b:Sec}(hk:s.kind k=1)(hb:b.length=256):(s.put k b).2=0∧Mv s (s.put k b).1 [k] [k] 0∧(s.put k b).1.bytes k=b∧(s.put k b).1.kind k=1:=by
 have hg:=IA hG k b;have hkd:=fun p=>S2 (k':=p) hk hb;have hby:=fun p=>LF (k':=p) hk hb;refine⟨by unfold PD.put;rw[if_pos hk,if_pos hb],⟨fun p=>?_,fun p hp _=>hp,by simp,fun p hs hp=>⟨hkd p,?_⟩,?_,hg⟩,by rw[hby,if_pos rfl],by rw[hkd];exact hk⟩
 ·unfold A4;rw[hkd];by_cases e:p=k
  ·subst e;simp[hk]
  ·simp[e]
 ·rw[hby,if_neg (by simpa using hp)]
 ·rw[IU hk hb];exact Adi _
structure At (s:PD) (k:Int) (n:Az):Prop where
 liv:A4 s k
 byt:s.bytes k=Cm n
 rgt:Bm n=true
def At.sound(h:At s k n):A0 n=true:=by have:=h.rgt;simp only[Bm,Adc] at this;exact this.1
def At.size(h:At s k n):AY n≤256:=by have:=h.rgt;simp only[Bm,Adc,decide_eq_true_eq] at this;exact this.2
def At.read(h:At s k n):Bk s k=(n,0):=by
 unfold Bk O4 PB;rw[if_pos h.liv,h.byt,Xd h.rgt];rfl
def At.level{x:Int}(h:At s k n)(hl:n.leaf=decide (x=1)):AT s k x=(n,0):=by
 unfold AT;rw[h.read];simp[hl]
def At.stay(h:At s k n)(hs:t.kind k=s.kind k∧t.bytes k=s.bytes k):At t k n:=
 ⟨by unfold A4;rw[hs.1];exact h.liv,by rw[hs.2];exact h.byt,h.rgt⟩
def Cl(hG:Pgr.Good s)(h:A4 s k):0≤k∧k≤8191:=by
 have key:∀x:Int,0≤x→s.kind k=x→0≤k∧k≤8191:=fun x hx hk=>by
  obtain⟨i,i1,rfl, -⟩:=CA hk hx;have:=hG.inn;have:=hG.syn;omega
 rcases h with h|h
 ·exact key 1 (by omega) h
 ·exact key 2 (by omega) h
def MN(hG:Pgr.Good s)(hr:Bm n=true):
  ((Br s (-1) n).2.2=0∧Mv s (Br s (-1) n).1 [] [(Br s (-1) n).2.1] 1∧At (Br s (-1) n).1 (Br s (-1) n).2.1 n)∨((Br s (-1) n).2.2=190∧s.free<1):=by
 have hg:=QB hG (k:= -1) (n:=n)
 unfold Br at*
 rw[if_pos hr,if_neg (by omega)] at*
 rcases UG hG with ⟨h1,h2,h3⟩|⟨h1,h2⟩
 ·rw[if_neg (by omega),if_neg (by omega)] at*
  obtain⟨p1,p2,p3,p4⟩:=RZ h2.gd h3 (FG hr)
  refine .inl ⟨p1,(h2.trans p2).mono (by omega),⟨.inl p4,p3,hr⟩⟩
 ·rw[if_pos (by omega)]
  exact .inr ⟨h1,by omega⟩
def Wo(hG:Pgr.Good s)(hr:Bm n=true)(hk:A4 s k):
  ((Br s k n).2.2=0∧Mv s (Br s k n).1 [k] [(Br s k n).2.1] 1∧At (Br s k n).1 (Br s k n).2.1 n)∨((Br s k n).2.2=190∧s.free<1):=by
 have h0:=(Cl hG hk).1
 unfold Br
 rw[if_pos hr]
 rcases hk with hk|hk
 ·obtain⟨p1,p2,p3,p4⟩:=RZ hG hk (FG hr)
  rw[if_pos ⟨h0,by rw[p1];decide⟩]
  exact .inl ⟨p1,p2.mono (by omega),⟨.inl p4,p3,hr⟩⟩
 ·rw[if_neg (by unfold PD.put;rw[if_neg (by omega)];simp)]
  rcases UG hG with ⟨h1,h2,h3⟩|⟨h1,h2⟩
  ·rw[if_neg (by omega),if_pos h0]
   have hl:A4 s.AX.1 k:=(h2.lv k).2 (.inl ⟨.inr hk,by simp⟩)
   obtain⟨d1,d2⟩:=FI h2.gd hl
   rw[if_neg (by omega)]
   have hne:s.AX.2.1≠k:=fun e=>by
    have:=h2.nw s.AX.2.1 (by simp) (by rw[e];exact .inr hk);cases this
   have hl2:A4 s.AX.1 s.AX.2.1:=.inl h3
   have hk2:(s.AX.1.drop k).1.kind s.AX.2.1=1:=by rw[(d2.st _ hl2 (by simpa using hne)).1];exact h3
   obtain⟨p1,p2,p3,p4⟩:=RZ d2.gd hk2 (FG hr)
   refine .inl ⟨p1,?_,⟨.inl p4,p3,hr⟩⟩
   have m1:=h2.frame (R:=[k]) (by simp;exact .inr hk) (by simp) (by simp)
   have m2:=d2.frame (R:=[s.AX.2.1]) (by simp;exact hl2) (by simp) (by simpa using hne)
   exact((m1.trans (m2.perm (by simpa using Aee _ _ _) (Aeq _))).trans p2).mono (by omega)
  ·rw[if_pos (by omega)]
   exact .inr ⟨h1,by omega⟩
def PY(hG:Pgr.Good s)(hs:A0 n=true)(hh:256<AY n→Pl n)(hk:A4 s k):
  ((AW s k n).2.2=0∧((∃p,(AW s k n).2.1=⟨p, -1,[],AY n⟩∧Mv s (AW s k n).1 [k] [p] 2∧At (AW s k n).1 p n)∨
   (Dj n=true∧Pl n∧∃p q,(AW s k n).2.1=⟨p,q,BD n,256⟩∧0≤q∧Mv s (AW s k n).1 [k] [p,q] 2∧At (AW s k n).1 p (AZ n)∧At (AW s k n).1 q (Bc n))))∨
  ((AW s k n).2.2=190∧s.free<2):=by
 unfold AW
 by_cases hr:Bm n=true
 ·rw[if_pos hr]
  rcases Wo hG hr hk with ⟨h1,h2,h3⟩|⟨h1,h2⟩
  ·exact .inl ⟨h1,.inl ⟨_,rfl,h2.mono (by omega),h3⟩⟩
  ·exact .inr ⟨h1,by omega⟩
 ·have hz:256<AY n:=by
   simp only[Bm,hs,Agg,decide_eq_true_eq] at hr;omega
  have hc:=OR hs hz
  have hH:=hh hz
  rw[if_neg hr,if_pos hc]
  dsimp only
  rcases Wo hG hH.r1 hk with ⟨h1,h2,h3⟩|⟨h1,h2⟩
  ·rw[if_pos h1]
   rcases MN h2.gd hH.r2 with ⟨k1,k2,k3⟩|⟨k1,k2⟩
   ·refine .inl ⟨k1,.inr ⟨hc,hH,_,_,rfl,(Cl k2.gd k3.liv).1,?_,?_,k3⟩⟩
    ·refine((h2.trans (k2.frame (R:=[(Br s k (AZ n)).2.1]) (by simp;exact h3.liv) (by simp) (by simp))).perm (Aeq _) ?_).mono (by omega)
     exact Aee _ _ _
    ·exact h3.stay (k2.st _ h3.liv (by simp))
   ·exact .inr ⟨k1,by have:=h2.fr;omega⟩
  ·rw[if_neg (by omega)]
   exact .inr ⟨h1,by omega⟩
end Go.Gk.Tre
end
