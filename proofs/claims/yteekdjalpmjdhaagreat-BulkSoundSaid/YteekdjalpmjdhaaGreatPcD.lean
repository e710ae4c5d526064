/-
  Our own texts, one behind the other: GkPg1 GkPg2 GkPg3 GkPg4 GkPg5 GkC5 GkPg6 GkPg7 GkPg8 GkPgL GkPgM Gk28 Gk29 Gk40 GkH1 GkH2 GkH3 GkH4 GkH5 GkNode1 GkNode2 GkNode3 GkNode4 GkNode5.
-/
import Derived.Recover
import Derived.BigFrame
import Derived.Test.YteekdjalpmjdhaaGreatPcC
set_option linter.defProp false
set_option linter.unusedVariables false
set_option linter.unusedSimpArgs false
open List.Sublist renaming refl→Afa
open Bool renaming and_eq_true→Afb,false_eq_true→Afh,or_eq_true→Agl,not_eq_true→Ahx,not_eq_false'→Aiv,eq_iff_iff→Akb,false_or→Akc
open List renaming getElem?_eq_getElem→Afc,getD_eq_getElem?_getD→Afd,perm_append_comm→Afi,length_append→Afk,length_cons→Afq,length_take→Aft,replicate→Afu,take_succ_eq_append_getElem→Afw,getElem_mem→Agb,sublist_cons_self→Age,range→Agf,nil_append→Agh,append_nil→Agj,length_replicate→Agk,getElem?_eq_none→Ago,length_map→Agu,perm_append_comm_assoc→Agw,take_length→Agz,map_cons→Ahv,getElem_drop→Akd
open Nat renaming le_refl→Afe,le_of_ble_eq_true→Aff,zero_le→Agd,add_sub_cancel→Ahp,le_trans→Ahq,sub_self→Aiz,le_of_not_lt→Ajp
open List.Perm renaming cons→Afm,swap→Afx
open Option renaming map_eq_some_iff→Agn,map_some→Aij
section
namespace Go.Gk.Pgr
open Go Go.Gk Go.Gk.Dev Go.Gk.Cch Go.Gk.Node
attribute [local irreducible] gwp gws xwp
variable{d d':Aa}{s:PD}{pv:Value}{P:Program}{f f1 f2 f3:FuncId}
abbrev kI(k:Int):Value:=.int .i64 k
abbrev mpI(mb:Nat)(ms:List (Int×Value×Nat))(clk:Nat):Aa:=mp kI id mb ms clk
def Nu(d:Aa)(frm:Nat)(kinds:List Int)(fb:Nat→Sec)(ms:List (Int×Value×Nat)):Prop:=∀i,i<kinds.length→kinds.getD i 0=1→∃v,DV ((frm+i:Nat):Int) ms=some v∧Ay d v (fb i)∧(fb i).length=256
def Nu.mono{frm:Nat}{kinds:List Int}{fb:Nat→Sec}{ms:List (Int×Value×Nat)}(h:Nu d frm kinds fb ms)(hl:Le d d'):Nu d' frm kinds fb ms:=fun i hi hk=>
 let ⟨v,h1,h2,h3⟩:=h i hi hk
 ⟨v,h1,h2.mono hl,h3⟩
def Pg(d:Aa)(s:PD)(dv pv:Value)(L:List Aa):Prop:=
 ∃b T cv bk cp hk mb ms clk c LC LD bd,pv=pZ b∧dv=pZ bd∧
  L=bx b T [dv,cv,vZ s.frm,.slice (some ⟨bk,0,none⟩) s.kinds.length cp,.map (some mb),vZ (wr s.round),vZ (wr s.tc)]::hk::mpI mb ms clk::(LC++LD)∧
  Ai 1 Bh d (.slice (some ⟨bk,0,none⟩) s.kinds.length cp) s.kinds hk∧Nu d s.frm s.kinds s.fb ms∧Ca d c dv cv LC∧Dv d ⟨s.syn,[]⟩ dv LD∧C8 s c∧Good s
def Pg.mono{dv L}(h:Pg d s dv pv L)(hl:Le d d'):Pg d' s dv pv L:=
 let ⟨b,T,cv,bk,cp,hk,mb,ms,clk,c,LC,LD,bd,h1,h2,h3,h4,h5,h6,h7,h8,h9⟩:=h
 ⟨b,T,cv,bk,cp,hk,mb,ms,clk,c,LC,LD,bd,h1,h2,h3,Ai.mono (R:=Bh) Ck h4 hl,h5.mono hl,h6.mono hl,h7.mono hl,h8,h9⟩
def Pg.ptr{dv L}(h:Pg d s dv pv L):∃b,pv=pZ b:=let ⟨b,_,_,_,_,_,_,_,_,_,_,_,_,h1,_⟩:=h;⟨b,h1⟩
def Pg.Fc{dv L}(h:Pg d s dv pv L):Good s:=let ⟨_,_,_,_,_,_,_,_,_,_,_,_,_,_,_,_,_,_,_,_,_,h9⟩:=h;h9
def Pg.mk{b:Nat}{T cv}{bk cp n:Nat}{hk}{mb:Nat}{ms:List (Int×Value×Nat)}{clk:Nat}{c:CD}{LC LD}{bd:Nat}(hn:s.kinds.length=n)
  (h4:Ai 1 Bh d (.slice (some ⟨bk,0,none⟩) n cp) s.kinds hk) (h5:Nu d s.frm s.kinds s.fb ms) (h6:Ca d c (pZ bd) cv LC) (h7:Dv d ⟨s.syn,[]⟩ (pZ bd) LD) (h8:C8 s c) (h9:Good s):
  Pg d s (pZ bd) (pZ b) (bx b T [pZ bd,cv,vZ s.frm,.slice (some ⟨bk,0,none⟩) n cp,.map (some mb),vZ (wr s.round),vZ (wr s.tc)]::hk::mpI mb ms clk::(LC++LD)):=by
 subst hn
 exact⟨b,T,cv,bk,cp,hk,mb,ms,clk,c,LC,LD,bd,Z,Z,Z,h4,h5,h6,h7,h8,h9⟩
def FQ(P:Program)(f:FuncId):Prop:=∀{d}{b bd:Nat}{T l},Ea P f [pZ b] d [bx b T (.pointer (some ⟨bd,0,none⟩)::l)] (.bool false)
def Ng:A9:=⟨12,[(.tmp 2)],(sR (o1 2 (.mv (.const (.bool false))) .done) (sR (om 3 0<|o1 4 (.eqp false 3 (.const (.pointer none)))<|om 5 4<|gF 6 5 0<|oF 7 5 (.nilc 6)<|oF 8 5 (.fld 0 7)<|oF 9 5 (.ld none 8)<|oF 10 5 (.eqp false 9 (.const (.pointer none)))<|o1 11 (.pick 5 (.const (.bool true)) 10)<|om 2 11 .done) .ret))⟩
def Aam(hd:dec P f=some Ng):FQ P f:=by
 intro d b bd T l;refine Bj hd<|Ak<|AV Z<|A3 Z<|CG Z Z<|Ad Z<|Ac Z<|Ag Z<|Ac Z<|Ap Z<|Ac Z<|Am Z<|Ac Z<|c_l Z Z Z<|Ac Z<|CG Z Z<|Aj Z Z<|Cc Z<|LL Z (Afa _)
def HU(frm:Nat)(ks:List Int)(k:Int):Int:=if (frm:Int)≤k∧k<(frm:Int)+ks.length then ks.getD (k - frm).toNat 0 else -1
def Ke(P:Program)(f:FuncId):Prop:=∀{d}{b bk cp frm:Nat}{T x0 x1 x4 x5 x6 hk}{ks:List Int}{k:Int},Ai 1 Bh d (.slice (some ⟨bk,0,none⟩) ks.length cp) ks hk→frm≤8192→
 Ea P f [pZ b,vZ k] d [bx b T [x0,x1,vZ frm,.slice (some ⟨bk,0,none⟩) ks.length cp,x4,x5,x6],hk] (vZ (HU frm ks k))
def Me:A9:=⟨37,[(.tmp 4)],(sR (o1 4 (.mv z0) .done) (.seq (.seq (.reg true (pm 5 1<|pm 6 0<|p1 7 (.nilc 6)<|p1 8 (.fld 2 7)<|pl 9 8<|p1 10 (.bin .lss 5 9)<|pm 11 10 (.op true ⟨(some 12),(some (11,false)),(.mv 1)⟩ (.op true ⟨(some 13),(some (11,false)),(.mv 0)⟩ (.op true ⟨(some 14),(some (11,false)),(.nilc 13)⟩ (.op true ⟨(some 15),(some (11,false)),(.fld 2 14)⟩ (.op true ⟨(some 16),(some (11,false)),(.ld none 15)⟩ (.op true ⟨(some 17),(some (11,false)),(.mv 0)⟩ (.op true ⟨(some 18),(some (11,false)),(.nilc 17)⟩ (.op true ⟨(some 19),(some (11,false)),(.fld 3 18)⟩ (.op true ⟨(some 20),(some (11,false)),(.ld none 19)⟩ (.op true ⟨(some 21),(some (11,false)),(.len 20)⟩ (.op true ⟨(some 22),(some (11,false)),(.bin .add 16 21)⟩ (.op true ⟨(some 23),(some (11,false)),(.bin .geq 12 22)⟩ (p1 24 (.pick 11 (.const (.bool true)) 23) .done))))))))))))))) (.cond 24 (sR (o1 4 (.mv (kZ (-1))) .done) .ret) .skip)) (.seq (.reg true (pm 25 0<|p1 26 (.nilc 25)<|p1 27 (.fld 3 26)<|pl 28 27<|pm 29 1<|pm 30 0<|p1 31 (.nilc 30)<|p1 32 (.fld 2 31)<|pl 33 32<|p1 34 (.bin .sub 29 33)<|p1 35 (.idx 1 28 34)<|pl 36 35 (.bar (pm 4 36 .done)))) .ret)))⟩
def Ab1(hd:dec P f=some Me):Ke P f:=by
 intro d b bk cp frm T x0 x1 x4 x5 x6 hk ks k hg hf;have hlen:=hg.BW;refine Bj hd ?_;by_cases h1:k<frm
 ·(refine AE Z<|By<|Aw<|BI<|Ab Z<|Ag Z<|Ap Z<|Az Z Z Z<|Au Z Z<|Ad Z<|Bx Z<|AQ Z Z<|AQ Z Z<|AQ Z Z<|AQ Z Z<|AQ Z Z<|AQ Z Z<|As Z Z<|A8<|Er Z<|AE Z<|BJ ?_);rw[show HU frm ks k= -1 by unfold HU;rw[if_neg (by omega)]];exact LL Z (Afa _)
 ·by_cases h2:k<(frm:Int)+ks.length
  ·obtain⟨m,hm⟩:∃m:Nat,k=(frm:Int)+m:=⟨(k - frm).toNat,by omega⟩
   subst hm;have hml:m<ks.length:=by omega
   obtain⟨b1,T1,l1,c1,cs,q1,rfl,hcl,hcs,hle,⟨rfl, -, -⟩, -⟩:=Ai.at (by omega) hg hml;cases q1;have c0:=hcs 0 _ Z;rw[show HU frm ks ((frm:Int)+m)=ks[m] by
    unfold HU;rw[if_pos (by omega),show((frm:Int)+m - frm).toNat=m by omega,Afd,Afc hml];rfl]
   refine AE Z<|By<|Aw<|BI<|Ab Z<|Ag Z<|Ap Z<|Az Z Z Z<|Au Z Z<|Ad Z<|Bs Z<|Ac Z<|Ab Z<|Ac Z<|Ag Z<|Ac Z<|Ap Z<|Ac Z<|Am Z<|Ac Z<|c_l Z Z Z<|Ac Z<|Ag Z<|Ac Z<|Ap Z<|Ac Z<|Am Z<|Ac Z<|c_l Z Z Z<|Ac Z<|AA Z<|Ac Z<|A4 Z Z<|Ac Z<|Dk Z Z<|Aj Z Z<|A8<|BM Z<|AH<|Aw<|BI<|Ag Z<|Ap Z<|Az Z Z Z<|Ab Z<|Ag Z<|Ap Z<|Az Z Z Z<|DT Z Z<|BT m Z Z (by omega) hml<|Ah Z (AG 1 Z (by assumption))<|Cw<|AS Z<|LL Z (Afa _)
  ·(refine AE Z<|By<|Aw<|BI<|Ab Z<|Ag Z<|Ap Z<|Az Z Z Z<|Au Z Z<|Ad Z<|Bs Z<|Ac Z<|Ab Z<|Ac Z<|Ag Z<|Ac Z<|Ap Z<|Ac Z<|Am Z<|Ac Z<|c_l Z Z Z<|Ac Z<|Ag Z<|Ac Z<|Ap Z<|Ac Z<|Am Z<|Ac Z<|c_l Z Z Z<|Ac Z<|AA Z<|Ac Z<|A4 Z Z<|Ac Z<|Dk Z Z<|Aj Z Z<|A8<|B2 Z<|AE Z<|BJ ?_);rw[show HU frm ks k= -1 by unfold HU;rw[if_neg (by omega)]];exact LL Z (Afa _)
def Rq(P:Program)(f:FuncId):Prop:=∀{d v}{xs:List Int}{x:Int},RSl 1 Bh d v xs→Dj P f [v,vZ x] d (vZ (match DJ x xs with|some i=>(i:Int)|none=> -1))
def JX:A9:=⟨19,[(.tmp 4)],(sR (o1 4 (.mv z0) .done) (.seq (sR (om 6 0<|oL 7 6<|o1 8 (.mv z0) .done) (.block 0 (.loop (sR (ob 9 .lss 8 7 .done) (.seq (.cond 9 .skip (.exit 0)) (.seq (.block 1 (sR (om 10 8<|om 5 10 .done) (sR (om 11 1<|om 12 0<|om 13 5<|oI 14 1 12 13<|ol 15 14<|ob 16 .eql 11 15 .done) (.cond 16 (sR (om 17 5<|om 4 17 .done) .ret) .skip)))) (rG (ob 18 .add 8 z1<|om 8 18 .done)))))))) (sR (o1 4 (.mv (kZ (-1))) .done) .ret)))⟩
def ZQ(hd:dec P f=some JX):Rq P f:=by
 intro d v xs x hv;have hlen:=hv.BW;refine Bj hd<|AE Z<|BG<|AK<|BX Z (by assumption)<|AU Z<|Aq<|DF (α:=Nat) (fun i=>[(0,v),(1,vZ x),(7,vZ xs.length),(8,vZ i)]) (fun _=>[]) (fun i=>i≤xs.length∧DJ x xs=(DJ x (xs.drop i)).map (·+i)) (fun i=>xs.length - i) 0 ⟨Z,Z,Z,Z,trivial⟩ Z ⟨by omega,by simp⟩ ?_;rintro i ρ ⟨hi,hF⟩;by_cases e:i<xs.length
 ·rw[Vi e] at hF;by_cases hx:x=xs[i]
  ·(refine Ak<|Au Z Z<|By<|B2 Z<|AH<|Aw<|Aq<|AE Z<|A7 Z<|Ab Z<|AK<|Ab Z<|Bq (sz:=1) (R:=Bh) (by rfl) (by assumption) (by rfl) Z (by omega) ?_;rintro _ _ _ _ _ ⟨rfl,_,_⟩;refine Ah Z (BO (by assumption) Z)<|AI Z Z<|A5 Z<|AE Z<|AS Z ?_);rw[if_pos hx,Aij,Nat.zero_add] at hF;refine IF Z ?_;rw[hF]
  ·(refine Ak<|Au Z Z<|By<|B2 Z<|AH<|Aw<|Aq<|AE Z<|A7 Z<|Ab Z<|AK<|Ab Z<|Bq (sz:=1) (R:=Bh) (by rfl) (by assumption) (by rfl) Z (by omega) ?_;rintro _ _ _ _ _ ⟨rfl,_,_⟩;refine Ah Z (BO (by assumption) Z)<|AI Z Z<|AT Z<|Av<|A4 Z Z<|AU Z ?_);rw[if_neg hx,Option.map_map] at hF;exact⟨i+1,by omega,⟨Z,Z,Z,Z,trivial⟩,Z,Z,e,by rw[hF];congr 1;funext z;simp only[Function.comp];omega⟩
 ·(refine Ak<|Au Z Z<|By<|BM Z<|Bl<|AE Z<|BJ ?_);have:DJ x xs=none:=by rw[hF,List.drop_of_length_le (by omega)];rfl
  refine IF Z ?_;rw[this]
def It(P:Program)(f:FuncId):Prop:=∀{d}{mb clk:Nat}{ms:List (Int×Value×Nat)},Le (mpI mb ms clk) d→Ao P f [.map (some mb)] d [] (Ret fun r d' L'=>d'=d∧∃q,r=.map (some q)∧L'=[mpI q ms clk])
def GN(a0:Nat):A9:=⟨9,[(.tmp 2)],(sR (o1 2 (.mv (.const (.map none))) .done) (.seq (sR (om 3 0<|o1 4 (.eqm false 3 (.const (.map none))) .done) (.cond 4 (sR (o1 2 (.mv (.const (.map none))) .done) .ret) .skip)) (sR (om 5 0<|o1 6 (.mki a0 5)<|o1 7 (.mop (.cln 6))<|o1 8 (.tas a0 7)<|om 2 8 .done) .ret)))⟩
def VA{t1:Nat}(hd:dec P f=some (GN t1)):It P f:=by
 intro d mb clk ms hm;refine Bj hd<|Ak<|AK<|BG<|AK<|AdL Z Z<|Be Z<|Ak<|AK<|Ad0<|Aea Z ⟨d,.inl Z,hm _ _ (Db _ _)⟩ (fun q=>?_);refine Aeo Z<|AK<|BJ<|BZ Z (Afa _) ⟨Z,q,Z,Z⟩
def QC(s:PD)(k:Int):HU s.frm s.kinds k=s.kind k:=Z
def I9:O0 0 kI:=AdN
def Gx(P:Program)(f:FuncId):Prop:=∀{d s dv pv L},Pg d s dv pv L→Ao P f [pv] d L (Ret fun r d' L'=>r=.tuple #[vZ s.AX.2.1,vZ s.AX.2.2]∧Pg d' s.AX.1 dv pv L')
def Nc(a0 a1:Nat):A9:=⟨37,[(.tmp 2),(.tmp 3)],(sR (o1 2 (.mv z0)<|o1 3 (.mv z0) .done) (.seq (sR (om 5 0<|oc 6 a0 [5] .done) (.cond 6 (sR (o1 2 (.mv z0)<|o1 3 (.mv z1) .done) .ret) .skip)) (sR (om 7 0<|o1 8 (.nilc 7)<|oj 9 3 8<|ol 10 9<|oc 11 a1 [10,z0]<|om 4 11 .done) (.seq (sR (om 12 4<|ob 13 .lss 12 z0 .done) (.cond 13 (sR (o1 2 (.mv z0)<|o1 3 (.mv (kZ 190)) .done) .ret) .skip)) (sR (om 14 0<|o1 15 (.nilc 14)<|oj 16 3 15<|ol 17 16<|om 18 4<|oI 19 1 17 18<|o0 (.st 1 19 z1) .done) (.seq (.reg true (pm 20 0<|p1 21 (.nilc 20)<|p1 22 (.fld 4 21)<|pl 23 22<|pm 24 0<|p1 25 (.nilc 24)<|p1 26 (.fld 2 25)<|pl 27 26<|pm 28 4<|p1 29 (.bin .add 27 28)<|o1 30 (.mks 1 1 [(.int .u8 0)] (kZ 256) (kZ 256))<|o0 (.mop (.up 0 23 29 30)) .done)) (sR (om 31 0<|o1 32 (.nilc 31)<|oj 33 2 32<|ol 34 33<|om 35 4<|ob 36 .add 34 35<|om 2 36<|o1 3 (.mv z0) .done) .ret)))))))⟩
set_option maxRecDepth 4000 in
def Rj(hd:dec P f=some (Nc f1 f2))(h1:FQ P f1)(h2:Rq P f2):Gx P f:=by
 intro d s dv pv L hp;have hp0:=hp;obtain⟨b,T,cv,bk,cp,hk,mb,ms,clk,c,LC,LD,bd,rfl,rfl,rfl,hg,hm,hC,hD,hc,hG⟩:=hp;have hone:=hG.one;have hlen:=hG.len;have hinn:=hG.inn;have hsyn:=hG.syn;refine Bj hd<|AE Z<|AR Z<|Ag Z<|Di (A:=[_]) (B:=_::_::(LC++LD)) Z Z h1<|Be Z<|A3 Z<|Ap Z<|Az Z Z Z<|NB (A:=[hk]) (B:=_::_::(LC++LD)) (Afx _ _ _) Z (Dj.borrow (fun d1 hl1 hk1=>h2 (x:=0) (Ai.rsl (R:=Bh) hg Ck (by omega) hl1 (hk1 _ (List.mem_singleton.2 Z))))) ?_;cases hq:DJ 0 s.kinds with
 |none=>
  refine Fj (g:=11) (v:=vZ (-1)) Z ?_
  (refine AR Z<|Ab Z<|Au Z Z<|A5 Z<|AE Z<|AS Z ?_)
  have hr:s.AX=(s,0,190):=by unfold PD.AX;rw[hq]
  rw[hr]
  exact CJ Z Z (Afa _) ⟨Z,hp0⟩
 |some i=>
  obtain⟨hi,h0⟩:=GW hq
  have hr:s.AX=(s.Ik i,((s.frm+i:Nat):Int),0):=by unfold PD.AX;rw[hq]
  rw[hr]
  obtain⟨b1,T1,l1,c1,cs,q1,rfl,hcl,hcs,hle, -,hset⟩:=Ai.at (by omega) hg hi
  cases q1
  refine Fj (g:=11) (v:=vZ i) Z ?_
  (refine AR Z<|Ab Z<|Au Z Z<|AT Z<|A3 Z<|Ap Z<|Az Z Z Z<|Ab Z<|BT _ Z Z Z (by omega) ?_)
  refine Bb 1 (patch l1 (i*1) [vZ 1]) Z Z Z Z (by omega) Z Z ?_
  (refine By ?_)
  refine BE [_] _ Z ?_
  (refine Ag Z<|Ap Z<|Az Z Z Z<|Ag Z<|Ap Z<|Az Z Z Z<|Ab Z<|A4 Z Z ?_)
  refine Iv (n:=256) (c:=256) Z Z (Afe _) (by omega) (by omega) (fun bz Tz=>?_)
  refine SB (kE:=kI) (vE:=id) (k:=((s.frm+i:Nat):Int)) I9 2 Z Z ?_ Z ?_
  ·exact int_eq (by omega)
  refine IN ⟨join d (bx bz Tz (BD [.int .u8 0] (256*1))),_::_::_::(LC++LD),(Vs.perm (Afx _ _ _)).trans Vs.freeze,?_⟩
  have hl:Le d (join d (bx bz Tz (BD [.int .u8 0] (256*1)))):=Le.Ar _ _
  have hz:Ay (join d (bx bz Tz (BD [.int .u8 0] (256*1)))) (.slice (some ⟨bz,0,none⟩) 256 256) J0:=
   Ai.rsl (R:=Ax) (sz:=1) (Ai.zero (sz:=1) (z:=[.int .u8 0]) (d:=d) (b:=bz) (T:=Tz) (n:=256) (R:=Ax) (x:=(0:UInt8)) Z (by omega) Z (by omega)) AF (by omega) hl (Le.Bc _ _)
  have hlk:(s.Ik i).kinds.length=s.kinds.length:=by simp[PD.Ik]
  have hP:=Pg.mk (d:=join d (bx bz Tz (BD [.int .u8 0] (256*1)))) (s:=s.Ik i) (b:=b) (T:=T) (cv:=cv) (bk:=bk) (cp:=cp) (mb:=mb) (clk:=QN ((s.frm+i:Nat):Int) clk ms) (c:=c) (LC:=LC) (LD:=LD) (bd:=bd) hlk
   (Ai.mono (R:=Bh) Ck (hset [vZ 1] 1 Z ⟨Z,by decide,by decide⟩) hl) (ms:=GO ((s.frm+i:Nat):Int) (.slice (some ⟨bz,0,none⟩) 256 256) clk ms) (fun j hj hj1=>?_) (hC.mono hl) (hD.mono hl)
   (hc.to Z Z (Og.set (by rw[show s.kinds.getD i 0=0 by rw[Afd,Afc hi,h0];rfl];omega))) (hG.to Z Z (i:=i) (x:=1) Z (by omega) (by omega))
  ·(refine A3 Z<|Ap Z<|Az Z Z Z<|Ab Z<|A4 Z Z<|Ab Z<|AS Z ?_)
   exact CJ (int_eq (show(s.frm:Int)+i=((s.frm+i:Nat):Int) by omega)) Z (Afa _) ⟨Z,hP⟩
  ·show∃v,DV ((s.frm+j:Nat):Int) (GO ((s.frm+i:Nat):Int) (.slice (some ⟨bz,0,none⟩) 256 256) clk ms)=some v∧Ay _ v (E7 s.fb i J0 j)∧(E7 s.fb i J0 j).length=256
   rw[get_put]
   by_cases e:j=i
   ·subst e
    exact⟨_,if_pos Z,by simp only[E7,if_true];exact hz,by simp only[E7,if_true];exact Agk⟩
   ·rw[if_neg (by omega)]
    have hk1:s.kinds.getD j 0=1:=by
     have:(s.kinds.set i 1).getD j 0=1:=hj1;rw[DK hi,if_neg e] at this;exact this
    obtain⟨v,g1,g2,g3⟩:=hm j (by rw[←hlk];exact hj) hk1
    exact⟨v,g1,by simp only[E7,if_neg e];exact g2.mono hl,by simp only[E7,if_neg e];exact g3⟩
def Lo(P:Program)(f:FuncId):Prop:=∀{d s dv pv w L}{k:Int}{b:Sec},Pg d s dv pv L→Ay d w b→Ao P f [pv,vZ k,w] d L (Ret fun r d' L'=>r=vZ (s.put k b).2∧Pg d' (s.put k b).1 dv pv L')
def NX(a0 a1 a2:Nat):A9:=⟨26,[(.tmp 6)],(sR (o1 6 (.mv z0) .done) (.seq (.block 0 (sR (om 8 0<|oc 9 a0 [8]<|om 7 9 .done) (.cond 7 (sR (o1 6 (.mv z1) .done) .ret) (sR (om 11 0<|om 12 1<|oc 13 a1 [11,12]<|ob 14 .neq 13 z1<|om 10 14 .done) (.cond 10 (sR (o1 6 (.mv (kZ 240)) .done) .ret) (sR (om 16 2<|oL 17 16<|ob 18 .neq 17 (kZ 256)<|om 15 18 .done) (.cond 15 (sR (o1 6 (.mv z2) .done) .ret) .skip))))))) (.seq (.reg true (pm 19 0<|p1 20 (.nilc 19)<|p1 21 (.fld 4 20)<|pl 22 21<|pm 23 1<|pm 24 2<|oc 25 a2 [24]<|o0 (.mop (.up 0 22 23 25)) .done)) (sR (o1 6 (.mv z0) .done) .ret))))⟩
set_option maxRecDepth 4000 in
def Adi(hd:dec P f=some (NX f1 f2 f3))(h1:FQ P f1)(h2:Ke P f2)(h3:ER Ax 1 P f3):Lo P f:=by
 intro d s dv pv w L k by_ hp hw;have hp0:=hp;have hwl:=hw.BW;have hw':RSl 1 Ax d w by_:=hw;obtain⟨b,T,cv,bk,cp,hk,mb,ms,clk,c,LC,LD,bd,rfl,rfl,rfl,hg,hm,hC,hD,hc,hG⟩:=hp;have hlen:=hG.len;have hinn:=hG.inn;have hsyn:=hG.syn;refine Bj hd<|AE Z<|By<|Aq<|A3 Z<|Di (A:=[_]) (B:=_::_::(LC++LD)) Z Z h1<|AV Z<|Cn Z<|A3 Z<|Ab Z<|Di (A:=[_,hk]) (B:=_::(LC++LD)) Z Z (h2 (k:=k) hg (by omega)) ?_;rw[QC];by_cases hk1:s.kind k=1
 ·by_cases hb:by_.length=256
  ·obtain⟨i,hi,rfl,hki,hti⟩:=Dm hk1 (by omega);have hr:s.put ((s.frm+i:Nat):Int) by_=({s with fb:=E7 s.fb i by_},0):=by unfold PD.put;rw[if_pos hk1,if_pos hb,hti]
   rw[hr];refine AJ Z Z<|AV Z<|BM Z<|Ak<|AK<|BX Z (by assumption)<|AJ Z Z<|AV Z<|BM Z<|AH<|Aw<|BE [_] (hk::mpI mb ms clk::(LC++LD)) Z<|Ag Z<|Ap Z<|Az Z Z Z<|Ab Z<|AK<|Bz Z (h3 hw' (by omega)) (fun u d2 L2 _ ⟨e1,h,e2,hrow⟩=>?_);subst e1;subst e2;refine SB (kE:=kI) (vE:=id) (k:=((s.frm+i:Nat):Int)) I9 2 Z Z Z Z<|IN ⟨join d2 h,_::_::_::(LC++LD),(Vs.perm (Afx _ _ _)).trans Vs.freeze,?_⟩;have hl:Le d2 (join d2 h):=Le.Ar _ _;have hz:Ay (join d2 h) u by_:=Ai.rsl (R:=Ax) (sz:=1) hrow AF (by omega) hl (Le.Bc _ _);have hP:=Pg.mk (d:=join d2 h) (s:={s with fb:=E7 s.fb i by_}) (b:=b) (T:=T) (cv:=cv) (bk:=bk) (cp:=cp) (mb:=mb) (clk:=QN ((s.frm+i:Nat):Int) clk ms) (c:=c) (LC:=LC) (LD:=LD) (bd:=bd) Z
    (Ai.mono (R:=Bh) Ck hg hl) (ms:=GO ((s.frm+i:Nat):Int) u clk ms) (fun j hj hj1=>?_) (hC.mono hl) (hD.mono hl) (hc.to Z Z (Og.refl _)) (hG.to' Z Z Z)
   ·refine AE Z<|BJ<|BZ Z (Afa _) ⟨Z,hP⟩
   ·show∃v,DV ((s.frm+j:Nat):Int) (GO ((s.frm+i:Nat):Int) u clk ms)=some v∧Ay _ v (E7 s.fb i by_ j)∧(E7 s.fb i by_ j).length=256;rw[get_put];by_cases e:j=i
    ·subst e;exact⟨_,if_pos Z,by simp only[E7,if_true];exact hz,by simp only[E7,if_true];exact hb⟩
    ·rw[if_neg (by omega)];obtain⟨v,g1,g2,g3⟩:=hm j hj hj1;exact⟨v,g1,by simp only[E7,if_neg e];exact g2.mono hl,by simp only[E7,if_neg e];exact g3⟩
  ·have hr:s.put k by_=(s,2):=by unfold PD.put;rw[if_pos hk1,if_neg hb]
   rw[hr];refine AJ Z Z<|AV Z<|BM Z<|Ak<|AK<|BX Z (by assumption)<|AJ Z Z<|AV Z<|B2 Z<|AE Z<|BJ<|BZ Z (Afa _) ⟨Z,hp0⟩
 ·have hr:s.put k by_=(s,240):=by unfold PD.put;rw[if_neg hk1]
  rw[hr];refine AJ Z Z<|AV Z<|B2 Z<|AE Z<|BJ<|BZ Z (Afa _) ⟨Z,hp0⟩
def HF(P:Program)(f:FuncId):Prop:=∀{d s dv pv L}{k:Int},Pg d s dv pv L→Ao P f [pv,vZ k] d L (Ret fun r d' L'=>r=vZ (s.drop k).2∧Pg d' (s.drop k).1 dv pv L')
def Nb(a0 a1:Nat):A9:=⟨41,[(.tmp 4)],(sR (o1 4 (.mv z0) .done) (.seq (sR (om 5 0<|oc 6 a0 [5] .done) (.cond 6 (sR (o1 4 (.mv z1) .done) .ret) .skip)) (.seq (sR (om 7 0<|om 8 1<|oc 9 a1 [7,8] .done) (.block 0 (sR (ob 11 .eql 9 z1<|om 10 11 .done) (.cond 10 (.seq (.reg true (pm 12 0<|p1 13 (.nilc 12)<|p1 14 (.fld 3 13)<|pl 15 14<|pm 16 1<|pm 17 0<|p1 18 (.nilc 17)<|p1 19 (.fld 2 18)<|pl 20 19<|p1 21 (.bin .sub 16 20)<|p1 22 (.idx 1 15 21) (.bar (o0 (.st 1 22 z0) .done)))) (rG (om 23 0<|o1 24 (.nilc 23)<|oj 25 4 24<|ol 26 25<|om 27 1<|o0 (.mop (.del 0 26 27)) .done))) (sR (ob 29 .eql 9 z2<|om 28 29 .done) (.cond 28 (.reg true (pm 30 0<|p1 31 (.nilc 30)<|p1 32 (.fld 3 31)<|pl 33 32<|pm 34 1<|pm 35 0<|p1 36 (.nilc 35)<|p1 37 (.fld 2 36)<|pl 38 37<|p1 39 (.bin .sub 34 38)<|p1 40 (.idx 1 33 39) (.bar (o0 (.st 1 40 (kZ 3)) .done)))) (sR (o1 4 (.mv (kZ 240)) .done) .ret))))))) (sR (o1 4 (.mv z0) .done) .ret))))⟩
set_option maxRecDepth 4000 in
def AcB(hd:dec P f=some (Nb f1 f2))(h1:FQ P f1)(h2:Ke P f2):HF P f:=by
 intro d s dv pv L k hp;have hp0:=hp;obtain⟨b,T,cv,bk,cp,hk,mb,ms,clk,c,LC,LD,bd,rfl,rfl,rfl,hg,hm,hC,hD,hc,hG⟩:=hp;have hlen:=hG.len;have hinn:=hG.inn;have hsyn:=hG.syn;refine Bj hd<|AE Z<|BG<|Ag Z<|Di (A:=[_]) (B:=_::_::(LC++LD)) Z Z h1<|Be Z<|AZ<|Ag Z<|Ab Z<|Di (A:=[_,hk]) (B:=_::(LC++LD)) Z Z (h2 (k:=k) hg (by omega)) ?_;rw[QC];by_cases hk1:s.kind k=1
 ·obtain⟨i,hi,rfl,hki,hti⟩:=Dm hk1 (by omega);have hr:s.drop ((s.frm+i:Nat):Int)=({s with kinds:=s.kinds.set i 0},0):=by unfold PD.drop;rw[if_pos hk1,hti]
  rw[hr];obtain⟨b1,T1,l1,c1,cs,q1,rfl,hcl,hcs,hle, -,hset⟩:=Ai.at (by omega) hg hi;cases q1;refine An<|Aq<|Ak<|AI Z Z<|AV Z<|B2 Z<|Aw<|BE [_] (bx bk T1 l1::mpI mb ms clk::(LC++LD)) Z<|Ag Z<|Ap Z<|Az Z Z Z<|Ab Z<|Ag Z<|Ap Z<|Az Z Z Z<|DT Z Z<|BT i Z Z (by omega) hi ?_;(apply Cw);refine Bb 1 (patch l1 (i*1) [vZ 0]) Z Z Z Z hle Z Z<|IN ⟨d,_::_::_::(LC++LD),Vs.refl _ _,?_⟩;refine Av<|Ag Z<|Ap Z<|Az Z Z Z<|Ab Z<|Ad7 (k:=((s.frm+i:Nat):Int)) I9 2 Z Z Z ?_;have hP:=Pg.mk (d:=d) (s:={s with kinds:=s.kinds.set i 0}) (b:=b) (T:=T) (cv:=cv) (bk:=bk) (cp:=cp) (mb:=mb) (clk:=clk) (c:=c) (LC:=LC) (LD:=LD) (bd:=bd) (n:=s.kinds.length) (by simp)
    (hset [vZ 0] 0 Z ⟨Z,by omega,by omega⟩) (ms:=J2 ((s.frm+i:Nat):Int) ms) (fun j hj hj1=>?_) hC hD (hc.to Z Z (Og.set (by rw[show s.kinds.getD i 0=1 from hki];omega))) (hG.to Z Z Z (by omega) (by omega))
  ·refine Bo<|AS Z<|BZ Z (Afa _) ⟨Z,hP⟩
  ·have hj1':(s.kinds.set i 0).getD j 0=1:=hj1;rw[DK hi] at hj1';by_cases e:j=i
   ·rw[if_pos e] at hj1';cases hj1'
   ·rw[if_neg e] at hj1';obtain⟨v,g1,g2,g3⟩:=hm j (by simpa using hj) hj1';have g0:DV ((s.frm+j:Nat):Int) (J2 ((s.frm+i:Nat):Int) ms)=some v:=by rw[Wd (by omega)];exact g1
    exact⟨v,g0,g2,g3⟩
 ·by_cases hk2:s.kind k=2
  ·obtain⟨i,hi,rfl,hki,hti⟩:=Dm hk2 (by omega);have hr:s.drop ((s.frm+i:Nat):Int)=({s with kinds:=s.kinds.set i 3},0):=by unfold PD.drop;rw[if_neg hk1,if_pos hk2,hti]
   rw[hr];obtain⟨b1,T1,l1,c1,cs,q1,rfl,hcl,hcs,hle, -,hset⟩:=Ai.at (by omega) hg hi;cases q1;refine An<|Aq<|Ak<|AI Z Z<|AV Z<|BM Z<|Ak<|AI Z Z<|AV Z<|B2 Z<|BE [_] (bx bk T1 l1::mpI mb ms clk::(LC++LD)) Z<|Ag Z<|Ap Z<|Az Z Z Z<|Ab Z<|Ag Z<|Ap Z<|Az Z Z Z<|DT Z Z<|BT i Z Z (by omega) hi ?_;(apply Cw);refine Bb 1 (patch l1 (i*1) [vZ 3]) Z Z Z Z hle Z Z<|IN ⟨d,_::_::_::(LC++LD),Vs.refl _ _,?_⟩;have hP:=Pg.mk (d:=d) (s:={s with kinds:=s.kinds.set i 3}) (b:=b) (T:=T) (cv:=cv) (bk:=bk) (cp:=cp) (mb:=mb) (clk:=clk) (c:=c) (LC:=LC) (LD:=LD) (bd:=bd) (n:=s.kinds.length) (by simp)
     (hset [vZ 3] 3 Z ⟨Z,by omega,by omega⟩) (ms:=ms) (fun j hj hj1=>?_) hC hD (hc.to Z Z (Og.set (by rw[show s.kinds.getD i 0=2 from hki];omega))) (hG.to Z Z Z (by omega) (by omega))
   ·refine AE Z<|BJ<|BZ Z (Afa _) ⟨Z,hP⟩
   ·have hj1':(s.kinds.set i 3).getD j 0=1:=hj1;rw[DK hi] at hj1';by_cases e:j=i
    ·rw[if_pos e] at hj1';cases hj1'
    ·rw[if_neg e] at hj1';exact hm j (by simpa using hj) hj1'
  ·have hr:s.drop k=(s,240):=by unfold PD.drop;rw[if_neg hk1,if_neg hk2]
   rw[hr];refine An<|Aq<|Ak<|AI Z Z<|AV Z<|BM Z<|Ak<|AI Z Z<|AV Z<|BM Z<|AE Z<|BJ<|BZ Z (Afa _) ⟨Z,hp0⟩
def AeE(d:Aa)(h:Option Sec)(r:Value):Prop:=match h with|some x=>Ay d r x|none=>r=nV
def F4(P:Program)(f:FuncId):Prop:=∀{d s dv pv L}{k:Int},Pg d s dv pv L→
 Ao P f [pv,vZ k] d L (Ret fun r d' L'=>(∃q,r=.tuple #[q,vZ (match (s.get k).2 with|some _=>0|none=>240)]∧AeE d' (s.get k).2 q)∧Pg d' (s.get k).1 dv pv L')
def N6(a0 a1 a2 a3 a4:Nat):A9:=⟨57,[(.tmp 4),(.tmp 5)],(sR (o1 4 (.mv nS)<|o1 5 (.mv z0) .done) (.seq (sR (om 8 0<|oc 9 a0 [8] .done) (.cond 9 (sR (o1 4 (.mv nS)<|o1 5 (.mv z1) .done) .ret) .skip)) (.seq (sR (om 10 0<|om 11 1<|oc 12 a1 [10,11] .done) (.block 0 (sR (ob 14 .eql 12 z1<|om 13 14 .done) (.cond 13 (sR (om 15 0<|o1 16 (.nilc 15)<|oj 17 6 16<|ol 18 17<|ob 19 .add 18 z1<|o1 20 (.nilc 15)<|oj 21 6 20<|o0 (.st 1 21 19) .done) (sR (om 22 0<|o1 23 (.nilc 22)<|oj 24 4 23<|ol 25 24<|om 26 1<|o1 27 (.mop (.lk 0 nV false 25 26))<|oc 28 a2 [27]<|om 4 28<|o1 5 (.mv z0) .done) .ret)) (sR (ob 30 .eql 12 z2<|om 29 30 .done) (.cond 29 (sR (om 32 0<|o1 33 (.nilc 32)<|oj 34 1 33<|ol 35 34<|om 36 1<|oc 37 a3 [35,36]<|om 31 37<|oe 38 31 0<|oe 39 31 1<|om 6 38<|om 7 39 .done) (.seq (sR (om 40 7<|ob 41 .neq 40 z0 .done) (.cond 41 (sR (om 42 7<|o1 4 (.mv nS)<|om 5 42 .done) .ret) .skip)) (sR (om 43 0<|o1 44 (.nilc 43)<|oj 45 1 44<|ol 46 45<|om 47 1<|oc 48 a4 [46,47] .done) (sR (om 49 0<|o1 50 (.nilc 49)<|oj 51 6 50<|ol 52 51<|ob 53 .add 52 z1<|o1 54 (.nilc 49)<|oj 55 6 54<|o0 (.st 1 55 53) .done) (sR (om 56 6<|om 4 56<|o1 5 (.mv z0) .done) .ret))))) .skip)))))) (sR (o1 4 (.mv nS)<|o1 5 (.mv (kZ 240)) .done) .ret))))⟩
set_option maxRecDepth 4000 in
def AbV{f4 f5}(hd:dec P f=some (N6 f1 f2 f3 f4 f5))(h1:FQ P f1)(h2:Ke P f2)(h3:ER Ax 1 P f3)(h4:M8 P f4)(h5:Js P f5):F4 P f:=by
 intro d s dv pv L k hp;have hp0:=hp;obtain⟨b,T,cv,bk,cp,hk,mb,ms,clk,c,LC,LD,bd,rfl,rfl,rfl,hg,hm,hC,hD,hc,hG⟩:=hp;have hlen:=hG.len;have hinn:=hG.inn;have hsyn:=hG.syn;refine Bj hd<|Br Z<|AR Z<|Ag Z<|Di (A:=[_]) (B:=_::_::(LC++LD)) Z Z h1<|Be Z<|AZ<|Ag Z<|Ab Z<|Di (A:=[_,hk]) (B:=_::(LC++LD)) Z Z (h2 (k:=k) hg (by omega)) ?_;rw[QC];by_cases hk1:s.kind k=1
 ·obtain⟨i,hi,rfl,hki,hti⟩:=Dm hk1 (by omega);have hr:s.get ((s.frm+i:Nat):Int)=({s with tc:=s.tc+1},some (s.fb i)):=by unfold PD.get;rw[if_pos hk1,hti]
  rw[hr];obtain⟨v,g1,g2,g3⟩:=hm i hi hki;refine An<|Aq<|Ak<|AI Z Z<|AV Z<|B2 Z<|A3 Z<|Ap Z<|Az Z Z Z<|KB Z Z<|Ap Z<|Am Z<|Bb 0 [pZ bd,cv,vZ s.frm,.slice (some ⟨bk,0,none⟩) s.kinds.length cp,.map (some mb),vZ (wr s.round),vZ (wr (s.tc+1))] Z Z Z Z (Aff Z) Z Z<|Bo<|Ag Z<|Ap Z<|Az Z Z Z<|Ab Z<|PB (kE:=kI) (vE:=id) (k:=((s.frm+i:Nat):Int)) I9 2 Z Z Z g1<|Bz (vs:=[v]) Z (h3 g2 (by rw[g3];decide)) (fun u d2 L2 _ ⟨q1,h,q2,hrow⟩=>?_);subst q1;subst q2;(refine AK<|AS Z ?_);have hP:=Pg.mk (d:=d2) (s:={s with tc:=s.tc+1}) (b:=b) (T:=T) (cv:=cv) (bk:=bk) (cp:=cp) (mb:=mb) (clk:=clk) (c:=c) (LC:=LC) (LD:=LD) (bd:=bd) Z hg hm hC hD (hc.to Z Z (Og.refl _)) (hG.to' Z Z Z);skip;exact A6 [u,vZ 0] ⟨Z,Z,trivial⟩ (d':=join d2 h) (L':=_::_::_::(LC++LD)) Vs.freeze ⟨⟨_,Z,Ai.rsl (R:=Ax) (sz:=1) hrow AF (by omega) (Le.Ar _ _) (Le.Bc _ _)⟩,hP.mono (Le.Ar _ _)⟩
 ·by_cases hk2:s.kind k=2
  ·obtain⟨i,hi,rfl,hki,hti⟩:=Dm hk2 (by omega);have hr:s.get ((s.frm+i:Nat):Int)=({s with tc:=s.tc+1},some (s.syn.getD (s.frm+i) [])):=by unfold PD.get;rw[if_neg hk1,if_pos hk2];rfl
   rw[hr];obtain⟨c',e1,e2,e3,e4,e5⟩:=hc.get (k:=s.frm+i) (by omega) (by omega) (by omega) (by rw[show s.frm+i - s.frm=i by omega,hki];omega);(refine An<|Aq<|Ak<|AI Z Z<|AV Z<|BM Z<|Ak<|AI Z Z<|AV Z<|B2 Z<|A3 Z<|Ap Z<|Az Z Z Z<|Ab Z ?_);have hcur:Ff.cur ⟨s.syn,[]⟩ (s.frm+i)=s.syn.getD (s.frm+i) []:=Z;refine DO (h4 (k:=s.frm+i) hC hD e2 (show s.frm+i<s.syn.length by omega)) (Afi (l₁:=[_,_,_])) Z (fun u d2 L2 hl2 ⟨LC2,LD2,q1,q2,q3,q4⟩=>?_);rw[hcur,e1] at q2 q4;obtain⟨v,rfl,hv⟩:=q4;subst q1;refine⟨d2,_::_::_::(LC2++LD2),Vs.perm (Afi (l₂:=[_,_,_])),?_⟩
   refine AO Z<|AW Z Z Z Z<|AK<|AR Z<|Ab Z<|AJ Z Z<|AT Z<|A3 Z<|Ap Z<|Az Z Z Z<|Ab Z<|DO (h5 (k:=s.frm+i) q2 e3) (Agw [_,_,_] _ _) Z (fun u d3 L3 hl3 ⟨q5,q6,q7⟩=>?_);subst q5;subst q6;refine⟨d3,_::_::_::(L3++LD2),Vs.perm (Agw _ [_,_,_] _),?_⟩
   refine Bo<|Ag Z<|Ap Z<|Az Z Z Z<|KB Z Z ?_;have hP:=Pg.mk (d:=d3) (s:={s with tc:=s.tc+1}) (b:=b) (T:=T) (cv:=cv) (bk:=bk) (cp:=cp) (mb:=mb) (clk:=clk) (c:=(DI c' (s.frm+i)).1) (LC:=L3) (LD:=LD2) (bd:=bd) Z (Ai.mono (R:=Bh) Ck hg hl2) (hm.mono hl2) q7 q3 (e5.to Z Z (Og.refl _)) (hG.to' Z Z Z);refine Ap Z<|Am Z<|Bb 0 [pZ bd,cv,vZ s.frm,.slice (some ⟨bk,0,none⟩) s.kinds.length cp,.map (some mb),vZ (wr s.round),vZ (wr (s.tc+1))] Z Z Z Z (Aff Z) Z Z<|Bo<|AK<|AK<|AS Z<|CJ Z Z (Afa _) ⟨⟨_,Z,hv⟩,hP⟩
  ·have hr:s.get k=(s,none):=by unfold PD.get;rw[if_neg hk1,if_neg hk2]
   rw[hr];refine An<|Aq<|Ak<|AI Z Z<|AV Z<|BM Z<|Ak<|AI Z Z<|AV Z<|BM Z<|AH<|Br Z<|AS Z<|CJ Z Z (Afa _) ⟨⟨_,Z,Z⟩,hp0⟩
def QD(P:Program)(f:FuncId):Prop:=∀{d s dv pv L},Pg d s dv pv L→Ao P f [pv] d L (Ret fun r d' L'=>r=vZ 0∧d'=d∧Pg d' s.flush dv pv L')
def LW(a0 a1 a2:Nat):A9:=⟨51,[(.tmp 2)],(sR (o1 2 (.mv z0) .done) (.seq (sR (om 6 0<|oc 7 a0 [6] .done) (.cond 7 (sR (o1 2 (.mv z1) .done) .ret) .skip)) (.seq (sR (om 8 0<|o1 9 (.nilc 8)<|oj 10 3 9<|ol 11 10<|oL 12 11<|o1 13 (.mv z0) .done) (.block 0 (.loop (sR (ob 14 .lss 13 12 .done) (.seq (.cond 14 .skip (.exit 0)) (.seq (.block 1 (sR (om 15 13<|oI 16 1 11 13<|ol 17 16<|om 3 15<|om 4 17 .done) (.seq (sR (om 18 4<|ob 19 .neq 18 z1 .done) (.cond 19 (.exit 1) .skip)) (.seq (.reg true (pm 20 0<|p1 21 (.nilc 20)<|p1 22 (.fld 0 21)<|pl 23 22<|pm 24 0<|p1 25 (.nilc 24)<|p1 26 (.fld 2 25)<|pl 27 26<|pm 28 3<|p1 29 (.bin .add 27 28)<|pm 30 0<|p1 31 (.nilc 30)<|p1 32 (.fld 4 31)<|pl 33 32<|pm 34 0<|p1 35 (.nilc 34)<|p1 36 (.fld 2 35)<|pl 37 36<|pm 38 3<|p1 39 (.bin .add 37 38)<|o1 40 (.mop (.lk 0 nV false 33 39))<|oc 41 a1 [23,29,40] (.bar (pm 5 41 .done)))) (sR (om 42 5<|ob 43 .neq 42 z0 .done) (.cond 43 (sR (om 44 5<|om 2 44 .done) .ret) .skip)))))) (rG (ob 45 .add 13 z1<|om 13 45 .done)))))))) (sR (om 46 0<|o1 47 (.nilc 46)<|oj 48 0 47<|ol 49 48<|oc 50 a2 [49]<|om 2 50 .done) .ret))))⟩
set_option maxRecDepth 4000 in
set_option maxHeartbeats 1000000 in
def Abn(hd:dec P f=some (LW f1 f2 f3))(h1:FQ P f1)(h2:OK P f2)(h3:QR P f3):QD P f:=by
 intro d s dv pv L hp;obtain⟨b,T,cv,bk,cp,hk,mb,ms,clk,c,LC,LD,bd,rfl,rfl,rfl,hg,hm,hC,hD,hc,hG⟩:=hp;have hone:=hG.one;have hlen:=hG.len;have hinn:=hG.inn;have hsyn:=hG.syn;refine Bj hd<|AE Z<|BG<|Ag Z<|Di (A:=[_]) (B:=_::_::(LC++LD)) Z Z h1<|Be Z<|AZ<|Ag Z<|Ap Z<|Az Z Z Z<|AA Z<|AU Z<|Aq<|DF (α:=Nat×List Aa) (fun x=>[(0,pZ b),(11,.slice (some ⟨bk,0,none⟩) s.kinds.length cp),(12,vZ s.kinds.length),(13,vZ x.1)])
  (fun x=>bx b T [pZ bd,cv,vZ s.frm,.slice (some ⟨bk,0,none⟩) s.kinds.length cp,.map (some mb),vZ (wr s.round),vZ (wr s.tc)]::hk::mpI mb ms clk::(LC++x.2))
  (fun x=>x.1≤s.kinds.length∧Dv d ⟨s.syn,s.writes x.1⟩ (pZ bd) x.2) (fun x=>s.kinds.length - x.1) (0,LD) ⟨Z,Z,Z,Z,trivial⟩ Z ⟨by simp only;omega,hD⟩ ?_
 rintro⟨i,LD1⟩ ρ ⟨hi,hD1⟩;simp only at hi hD1⊢;by_cases e:i<s.kinds.length
 ·obtain⟨b1,T1,l1,c1,cs,q1,rfl,hcl,hcs,hle,⟨rfl,hb1,hb2⟩, -⟩:=Ai.at (by omega) hg e;cases q1;have c0:=hcs 0 _ Z;have hkd:s.kinds[i]=s.kd i:=(J9 e).symm;by_cases hk1:s.kinds[i]=1
  ·have hw:s.writes (i+1)=s.writes i++[(s.frm+i,s.fb i)]:=by rw[PD.writes,if_pos (by rw[←hkd];exact hk1)]
   obtain⟨v,g1,g2,g3⟩:=hm i e (by rw[←hk1,hkd]);refine Ak<|Au Z Z<|By<|B2 Z<|AH<|Aw<|Aq<|AE Z<|BT _ Z Z Z (by omega)<|Ah Z (AG 1 Z (by assumption))<|Ab Z<|AR Z<|Ab Z<|AJ Z Z<|AT Z<|Aw<|BE [_] (bx bk T1 l1::mpI mb ms clk::(LC++LD1)) Z<|Ag Z<|Ap Z<|Az Z Z Z<|Ag Z<|Ap Z<|Az Z Z Z<|Ab Z<|A4 Z Z<|Ag Z<|Ap Z<|Az Z Z Z<|Ag Z<|Ap Z<|Az Z Z Z<|Ab Z<|A4 Z Z<|PB (kE:=kI) (vE:=id) (k:=((s.frm+i:Nat):Int)) I9 2 Z Z Z g1 ?_;have hwl:=Qs (s:=s) (n:=i);refine DO (h2 (k:=s.frm+i) hD1 (show s.frm+i<s.syn.length by omega) g2 g3 (show(s.writes i).length≤1000000 by omega)) (Afi (l₁:=bx bk T1 l1::mpI mb ms clk::LC)) Z (fun u d2 L2 hl2 ⟨q1,q2,q3⟩=>?_);subst q1;subst q2;refine⟨d2,_::_::(LC++L2),Vs.perm (Afi (l₂:=bx bk T1 l1::mpI mb ms clk::LC)),?_⟩
   (refine Cw<|A7 Z<|Ab Z<|AJ Z Z<|AT Z<|Av<|A4 Z Z<|AU Z ?_);exact⟨(i+1,L2),by simp only;omega,⟨Z,Z,Z,Z,trivial⟩,Z,Z,e,by rw[hw];exact q3⟩
  ·have hw:s.writes (i+1)=s.writes i:=by rw[PD.writes,if_neg (by rw[←hkd];exact hk1),Agj]
   (refine Ak<|Au Z Z<|By<|B2 Z<|AH<|Aw<|Aq<|AE Z<|BT _ Z Z Z (by omega)<|Ah Z (AG 1 Z (by assumption))<|Ab Z<|AR Z<|Ab Z<|AJ Z Z<|A5 Z<|Bl<|Av<|A4 Z Z<|AU Z ?_);exact⟨(i+1,LD1),by simp only;omega,⟨Z,Z,Z,Z,trivial⟩,Z,Z,e,by simp only[hw];exact hD1⟩
 ·have:i=s.kinds.length:=by omega
  subst this;refine Ak<|Au Z Z<|By<|BM Z<|Bl<|A3 Z<|Ap Z<|Az Z Z Z<|DO (h3 hD1 (show 1≤s.syn.length by omega)) (Afi (l₁:=_::_::_::LC)) Z (fun u d2 L2 hl2 ⟨q1,q2,q3⟩=>?_);subst q1;subst q2;refine⟨d2,_::_::_::(LC++L2),Vs.perm (Afi (l₂:=_::_::_::LC)),?_⟩
  have hP:=Pg.mk (d:=d2) (s:=s.flush) (b:=b) (T:=T) (cv:=cv) (bk:=bk) (cp:=cp) (mb:=mb) (ms:=ms) (clk:=clk) (c:=c) (LC:=LC) (LD:=L2) (bd:=bd) Z hg hm hC q3 hc.flush hG.flush;refine AS Z<|BZ Z (Afa _) ⟨Z,Z,hP⟩
def Up(P:Program)(f:FuncId):Prop:=∀{d s dv pv L},Pg d s dv pv L→Ao P f [pv] d L (Ret fun r d' L'=>r=vZ 0∧d'=d∧Pg d' s.done dv pv L')
def Mz(a0 a1:Nat):A9:=⟨57,[(.tmp 2)],(sR (o1 2 (.mv z0) .done) (.seq (sR (om 5 0<|oc 6 a0 [5] .done) (.cond 6 (sR (o1 2 (.mv z1) .done) .ret) .skip)) (.seq (sR (om 7 0<|o1 8 (.nilc 7)<|oj 9 3 8<|ol 10 9<|oL 11 10<|o1 12 (.mv z0) .done) (.block 0 (.loop (sR (ob 13 .lss 12 11 .done) (.seq (.cond 13 .skip (.exit 0)) (.seq (.block 1 (sR (om 14 12<|oI 15 1 10 12<|ol 16 15<|om 3 14<|om 4 16 .done) (sR (om 17 4 .done) (.block 2 (sR (ob 19 .eql 17 (kZ 3)<|om 18 19 .done) (.cond 18 (sR (om 20 0<|o1 21 (.nilc 20)<|oj 22 3 21<|ol 23 22<|om 24 3<|oI 25 1 23 24<|o0 (.st 1 25 z0) .done) (.reg true (pm 26 0<|p1 27 (.nilc 26)<|p1 28 (.fld 1 27)<|pl 29 28<|pm 30 0<|p1 31 (.nilc 30)<|p1 32 (.fld 2 31)<|pl 33 32<|pm 34 3<|p1 35 (.bin .add 33 34)<|oc 36 a1 [29,35] .done))) (sR (ob 38 .eql 17 z1<|om 37 38 .done) (.cond 37 (rG (om 39 0<|o1 40 (.nilc 39)<|oj 41 3 40<|ol 42 41<|om 43 3<|oI 44 1 42 43<|o0 (.st 1 44 z2) .done)) .skip)))))))) (rG (ob 45 .add 12 z1<|om 12 45 .done)))))))) (sR (om 46 0<|o1 47 (.nilc 46)<|oj 48 4 47<|ol 49 48<|o0 (.mop (.clr 49)) .done) (sR (om 50 0<|o1 51 (.nilc 50)<|oj 52 5 51<|ol 53 52<|ob 54 .add 53 z1<|o1 55 (.nilc 50)<|oj 56 5 55<|o0 (.st 1 56 54) .done) (sR (o1 2 (.mv z0) .done) .ret))))))⟩
set_option maxRecDepth 4000 in
set_option maxHeartbeats 1000000 in
def Acr(hd:dec P f=some (Mz f1 f2))(h1:FQ P f1)(h2:Ih P f2):Up P f:=by
 intro d s dv pv L hp;obtain⟨b,T,cv,bk,cp,hk,mb,ms,clk,c,LC,LD,bd,rfl,rfl,rfl,hg,hm,hC,hD,hc,hG⟩:=hp;have hone:=hG.one;have hlen:=hG.len;have hinn:=hG.inn;have hsyn:=hG.syn;refine Bj hd<|AE Z<|BG<|Ag Z<|Di (A:=[_]) (B:=_::_::(LC++LD)) Z Z h1<|Be Z<|AZ<|Ag Z<|Ap Z<|Az Z Z Z<|AA Z<|AU Z<|Aq<|DF (α:=Nat×List Int×Aa×CD×List Aa) (fun x=>[(0,pZ b),(10,.slice (some ⟨bk,0,none⟩) s.kinds.length cp),(11,vZ s.kinds.length),(12,vZ x.1)])
  (fun x=>bx b T [pZ bd,cv,vZ s.frm,.slice (some ⟨bk,0,none⟩) s.kinds.length cp,.map (some mb),vZ (wr s.round),vZ (wr s.tc)]::x.2.2.1::mpI mb ms clk::(x.2.2.2.2++LD))
  (fun x=>x.1≤s.kinds.length∧Mid x.1 s.kinds x.2.1∧Ai 1 Bh d (.slice (some ⟨bk,0,none⟩) s.kinds.length cp) x.2.1 x.2.2.1∧C8 {s with kinds:=x.2.1} x.2.2.2.1∧Ca d x.2.2.2.1 (pZ bd) cv x.2.2.2.2)
  (fun x=>s.kinds.length - x.1) (0,s.kinds,hk,c,LC) ⟨Z,Z,Z,Z,trivial⟩ Z ⟨by simp only;omega,Mid.zero _,hg,hc.og (Og.refl _),hC⟩ ?_
 rintro⟨i,ks,hk1,c1,LC1⟩ ρ ⟨hi,hM,hg1,hc1,hC1⟩;simp only at hi hM hg1 hc1 hC1⊢;have hkl:=hM.1;by_cases e:i<s.kinds.length
 ·have e':i<ks.length:=by omega
  obtain⟨b1,T1,l1,cc,cs,q1,rfl,hcl,hcs,hle,⟨rfl,hb1,hb2⟩,hset⟩:=Ai.at (by omega) hg1 e';rw[hkl] at q1;cases q1;have c0:=hcs 0 _ Z;have hki:ks.getD i 0=ks[i]:=by rw[Afd,Afc e'];rfl
  have hkd:ks[i]=s.kinds.getD i 0:=by rw[←hki,hM.2,if_neg (by omega)]
  by_cases hk3:ks[i]=3
  ·have hn:=hM.next e;rw[show DM (s.kinds.getD i 0)=0 by unfold DM;rw[if_pos (by rw[←hkd];exact hk3)]] at hn;refine Ak<|Au Z Z<|By<|B2 Z<|AH<|Aw<|Aq<|AE Z<|BT _ Z Z Z (by omega)<|Ah Z (AG 1 Z (by assumption))<|Ab Z<|A7 Z<|AU Z<|Aq<|Ak<|AI Z Z<|AV Z<|B2 Z<|A3 Z<|Ap Z<|Az Z Z Z<|Ab Z<|BT _ Z Z Z (by omega)<|Bb 1 (patch l1 (i*1) [vZ 0]) Z Z Z Z hle Z Z ?_;(apply An);refine BE [_] (bx bk T1 (patch l1 (i*1) [vZ 0])::mpI mb ms clk::(LC1++LD)) Z<|Ag Z<|Ap Z<|Az Z Z Z<|Ag Z<|Ap Z<|Az Z Z Z<|Ab Z<|A4 Z Z<|DO (h2 (k:=s.frm+i) hC1 (fun j hj=>Ac6 hc1.inv hj)) (Agw [_,_] LC1 LD) Z (fun u d2 L2 hl2 ⟨q1,q2,q3⟩=>?_);subst q1;subst q2;refine⟨d2,_::_::(L2++LD),Vs.perm (Agw L2 [_,_] LD),?_⟩
   refine IN ⟨d2,_::_::_::(L2++LD),Vs.refl _ _,?_⟩;(refine Av<|A4 Z Z<|AU Z ?_);exact⟨(i+1,ks.set i 0,_,_,L2),by simp only;omega,⟨Z,Z,Z,Z,trivial⟩,Z,Z,e,hn,hset [vZ 0] 0 Z ⟨Z,by omega,by omega⟩,hc1.gone e' (by show ks.getD i 0=3;rw[hki];exact hk3),q3⟩
  ·by_cases hk1:ks[i]=1
   ·have hn:=hM.next e;rw[show DM (s.kinds.getD i 0)=2 by unfold DM;rw[if_neg (by rw[←hkd];exact hk3),if_pos (by rw[←hkd];exact hk1)]] at hn;refine Ak<|Au Z Z<|By<|B2 Z<|AH<|Aw<|Aq<|AE Z<|BT _ Z Z Z (by omega)<|Ah Z (AG 1 Z (by assumption))<|Ab Z<|A7 Z<|AU Z<|Aq<|Ak<|AI Z Z<|AV Z<|BM Z<|Ak<|AI Z Z<|AV Z<|B2 Z<|Av<|Ag Z<|Ap Z<|Az Z Z Z<|Ab Z<|BT _ Z Z Z (by omega)<|Bb 1 (patch l1 (i*1) [vZ 2]) Z Z Z Z hle Z Z<|An<|Av<|A4 Z Z<|AU Z ?_;exact⟨(i+1,ks.set i 2,_,c1,LC1),by simp only;omega,⟨Z,Z,Z,Z,trivial⟩,Z,Z,e,hn,hset [vZ 2] 2 Z ⟨Z,by omega,by omega⟩,hc1.AeF e',hC1⟩
   ·have hn:=hM.same e (by unfold DM;rw[if_neg (by rw[←hkd];exact hk3),if_neg (by rw[←hkd];exact hk1)]);(refine Ak<|Au Z Z<|By<|B2 Z<|AH<|Aw<|Aq<|AE Z<|BT _ Z Z Z (by omega)<|Ah Z (AG 1 Z (by assumption))<|Ab Z<|A7 Z<|AU Z<|Aq<|Ak<|AI Z Z<|AV Z<|BM Z<|Ak<|AI Z Z<|AV Z<|BM Z<|AH<|Av<|A4 Z Z<|AU Z ?_);exact⟨(i+1,ks,_,c1,LC1),by simp only;omega,⟨Z,Z,Z,Z,trivial⟩,Z,Z,e,hn,hg1,hc1,hC1⟩
 ·have hks:=hM.done (by omega);subst hks;refine Ak<|Au Z Z<|By<|BM Z<|Bl<|A3 Z<|Ap Z<|Az Z Z Z<|Ael (kE:=kI) (vE:=id) 2 Z Z<|Bo<|Ag Z<|Ap Z<|Az Z Z Z<|KB Z Z<|Ap Z<|Am Z<|Bb 0 [pZ bd,cv,vZ s.frm,.slice (some ⟨bk,0,none⟩) s.kinds.length cp,.map (some mb),vZ (wr (s.round+1)),vZ (wr s.tc)] Z Z Z Z (Aff Z) Z Z ?_;have hGd:Good s.done:=by
   refine⟨by simpa [PD.done] using hone,by simpa [PD.done] using hlen,by simpa [PD.done] using hinn,hsyn,fun j=>?_⟩
   show 0≤(s.kinds.map DM).getD j 0∧(s.kinds.map DM).getD j 0≤3;rw[getD_map];exact XS (hG.kd j)
  have hP:=Pg.mk (d:=d) (s:=s.done) (b:=b) (T:=T) (cv:=cv) (bk:=bk) (cp:=cp) (mb:=mb) (ms:=[]) (clk:=clk) (c:=c1) (LC:=LC1) (LD:=LD) (bd:=bd) (n:=s.kinds.length) (by simp[PD.done]) hg1 (fun j hj hj1=>by
   have h0:(s.kinds.map DM).getD j 0=1:=hj1;rw[getD_map] at h0;unfold DM at h0;split at h0
   ·cases h0
   ·split at h0
    ·cases h0
    ·contradiction) hC1 hD (hc1.to Z Z (Og.refl _)) hGd
  refine Bo<|AS Z<|BZ Z (Afa _) ⟨Z,Z,hP⟩
def Ui(P:Program)(f:FuncId):Prop:=∀{d s dv pv L},Pg d s dv pv L→Ea P f [pv] d L (vZ s.free)
def MY(a0:Nat):A9:=⟨24,[(.tmp 2)],(sR (o1 2 (.mv z0) .done) (sR (o1 3 (.mv z0) .done) (.seq (sR (om 6 0<|oc 7 a0 [6]<|o1 8 (.un .not 7) .done) (.cond 8 (sR (om 9 0<|o1 10 (.nilc 9)<|oj 11 3 10<|ol 12 11<|oL 13 12<|o1 14 (.mv z0) .done) (.block 0 (.loop (sR (ob 15 .lss 14 13 .done) (.seq (.cond 15 .skip (.exit 0)) (.seq (.block 1 (sR (oI 16 1 12 14<|ol 17 16<|om 5 17 .done) (sR (om 18 5<|ob 19 .eql 18 z0 .done) (.cond 19 (rG (om 20 3<|ob 21 .add 20 z1<|om 3 21 .done)) .skip)))) (rG (ob 22 .add 14 z1<|om 14 22 .done)))))))) .skip)) (sR (om 23 3<|om 2 23 .done) .ret))))⟩
def AcM(hd:dec P f=some (MY f1))(h1:FQ P f1):Ui P f:=by
 intro d s dv pv L hp;obtain⟨b,T,cv,bk,cp,hk,mb,ms,clk,c,LC,LD,bd,rfl,rfl,rfl,hg,hm,hC,hD,hc,hG⟩:=hp;have hlen:=hG.len;have hone:=hG.one;refine Bj hd<|AE Z<|Bo<|AR Z<|Ag Z<|Di (A:=[_]) (B:=_::_::(LC++LD)) Z Z h1<|Bm Z<|B7 Z<|A3 Z<|Ap Z<|Az Z Z Z<|AA Z<|AU Z<|Aq<|DF (α:=Nat) (fun i=>[(3,vZ ((s.kinds.take i).countP (·==0))),(12,.slice (some ⟨bk,0,none⟩) s.kinds.length cp),(13,vZ s.kinds.length),(14,vZ i)])
  (fun i=>bx b T [pZ bd,cv,vZ s.frm,.slice (some ⟨bk,0,none⟩) s.kinds.length cp,.map (some mb),vZ (wr s.round),vZ (wr s.tc)]::hk::mpI mb ms clk::(LC++LD))
  (fun i=>i≤s.kinds.length) (fun i=>s.kinds.length - i) 0 ⟨Z,Z,Z,Z,trivial⟩ Z (by omega) ?_
 rintro i ρ hi;by_cases e:i<s.kinds.length
 ·obtain⟨b1,T1,l1,c1,cs,q1,rfl,hcl,hcs,hle,⟨rfl,hb1,hb2⟩, -⟩:=Ai.at (by omega) hg e;cases q1;have c0:=hcs 0 _ Z;have hn:(s.kinds.take (i+1)).countP (·==0)=(s.kinds.take i).countP (·==0)+(if s.kinds[i]=0 then 1 else 0):=by
   rw[Afw e,List.countP_append];simp[List.countP_cons,List.countP_nil]
  have hcb:(s.kinds.take i).countP (·==0)≤8192:=Ahq List.countP_le_length (by rw[Aft];omega);by_cases h0:s.kinds[i]=0
  ·rw[if_pos h0] at hn;(refine Ak<|Au Z Z<|By<|B2 Z<|AH<|Aw<|Aq<|Ak<|BT _ Z Z Z (by omega)<|Ah Z (AG 1 Z (by assumption))<|A7 Z<|Ab Z<|AI Z Z<|A5 Z<|Av<|Ab Z<|A4 Z Z<|AU Z<|Av<|A4 Z Z<|AU Z ?_);exact⟨i+1,by omega,⟨by show Value.int _ _=Value.int _ _;rw[hn];rfl,Z,Z,Z,trivial⟩,Z,Z,e⟩
  ·rw[if_neg h0] at hn;(refine Ak<|Au Z Z<|By<|B2 Z<|AH<|Aw<|Aq<|Ak<|BT _ Z Z Z (by omega)<|Ah Z (AG 1 Z (by assumption))<|A7 Z<|Ab Z<|AI Z Z<|AT Z<|Av<|A4 Z Z<|AU Z ?_);exact⟨i+1,by omega,⟨by show Value.int _ _=Value.int _ _;rw[hn];rfl,Z,Z,Z,trivial⟩,Z,Z,e⟩
 ·have:i=s.kinds.length:=by omega
  subst this;(refine Ak<|Au Z Z<|By<|BM Z<|Bl<|AE Z<|AS Z ?_);rw[show s.free=(s.kinds.take s.kinds.length).countP (·==0) by rw[Agz];rfl];exact LL Z (Afa _)
def SS(P:Program)(f:FuncId):Prop:=∀{d}{syn:List Sec}{dv cv lv LC LD}{m frm n:Nat}{live:List Nat},Dv d ⟨syn,[]⟩ dv LD→Ca d ⟨Afu m fz,Agf m,0,0,0⟩ dv cv LC→1≤m→m≤64→1≤n→frm+n≤syn.length→syn.length≤8192→live.Nodup→(∀k∈live,k<n)→
 D9 d lv (live.map fun k=>((frm+k:Nat):Int))→Ao P f [dv,cv,vZ frm,vZ n,lv] d (LC++LD) (Ret fun r d' L'=>∃pv,r=.tuple #[pv,vZ 0]∧Le d d'∧Pg d' ⟨frm,Ei n live,fun _=>[],syn,0,0⟩ dv pv L')
def Vz(a0 a1 a2:Nat):A9:=⟨74,[(.tmp 10),(.tmp 11)],(sR (o1 10 (.mv (.const (.pointer none)))<|o1 11 (.mv z0) .done) (sR (om 16 0<|oc 17 a0 [16]<|om 12 17 .done) (.seq (.block 0 (sR (om 19 12<|ob 20 .eql 19 z0<|om 21 20<|gF 22 21 1<|oF 23 21 (.call a1 [22])<|oF 24 21 (.len 23)<|oF 25 21 (.bin .eql 24 z0)<|o1 26 (.pick 21 (.const (.bool true)) 25)<|om 18 26 .done) (.cond 18 (sR (o1 10 (.mv (.const (.pointer none)))<|o1 11 (.mv z1) .done) .ret) (sR (om 28 2<|ob 29 .lss 28 z0<|om 30 29<|gF 31 30 3<|oF 32 30 (.bin .lss 31 z1)<|o1 33 (.pick 30 (.const (.bool true)) 32)<|om 34 33<|gF 35 34 2<|gF 36 34 12<|oF 37 34 (.bin .gtr 35 36)<|o1 38 (.pick 34 (.const (.bool true)) 37)<|om 39 38<|gF 40 39 3<|gF 41 39 12<|gF 42 39 2<|oF 43 39 (.bin .sub 41 42)<|oF 44 39 (.bin .gtr 40 43)<|o1 45 (.pick 39 (.const (.bool true)) 44)<|om 27 45 .done) (.cond 27 (sR (o1 10 (.mv (.const (.pointer none)))<|o1 11 (.mv z2) .done) .ret) .skip))))) (sR (om 46 0<|om 47 1<|om 48 2<|om 49 3<|o1 50 (.mks 1 8 [(vZ 0)] 49 49)<|o1 51 (.mop .mk)<|o1 52 (.bld [(0,1),(1,1),(2,1),(3,1),(4,1),(5,1),(6,1)] [(.pointer none),(.pointer none),(vZ 0),nV,(.map none),(vZ 0),(vZ 0)] [(0,46),(1,47),(2,48),(3,50),(4,51)])<|o1 53 (.box 52)<|om 13 53 .done) (.seq (sR (om 54 4<|oL 55 54<|o1 56 (.mv z0) .done) (.block 1 (.loop (sR (ob 57 .lss 56 55 .done) (.seq (.cond 57 .skip (.exit 1)) (.seq (.block 2 (sR (oI 58 1 54 56<|ol 59 58<|om 15 59 .done) (.seq (sR (om 60 13<|om 61 15<|oc 62 a2 [60,61]<|ob 63 .neq 62 z0 .done) (.cond 63 (sR (o1 10 (.mv (.const (.pointer none)))<|o1 11 (.mv z2) .done) .ret) .skip)) (rG (om 64 13<|o1 65 (.nilc 64)<|oj 66 3 65<|ol 67 66<|om 68 15<|om 69 2<|ob 70 .sub 68 69<|oI 71 1 67 70<|o0 (.st 1 71 z2) .done))))) (rG (ob 72 .add 56 z1<|om 56 72 .done)))))))) (sR (om 73 13<|om 10 73<|o1 11 (.mv z0) .done) .ret))))))⟩
set_option maxRecDepth 4000 in
set_option maxHeartbeats 1000000 in
def AbX(hd:dec P f=some (Vz f1 f2 f3))(h1:I0 P f1)(h2:Kt P f2)(h3:Ke P f3):SS P f:=by
 intro d syn dv cv lv LC LD m frm n live hD hC hm1 hm2 hn hfn hs8 hnd hlv hl;obtain⟨bd,rfl⟩:∃bd,dv=pZ bd:=let ⟨b,_,_,_,_,_,_,h,_⟩:=hD;⟨b,h⟩
 obtain⟨bc,rfl⟩:∃bc,cv=pZ bc:=let ⟨b,_,_,_,_,_,_,_,_,h,_⟩:=hC;⟨b,h⟩
 obtain⟨xs,hxs⟩:∃xs,xs=live.map fun k=>((frm+k:Nat):Int):=⟨_,Z⟩
 rw[←hxs] at hl;have hll:=hl.BW;have hxl:xs.length=live.length:=by rw[hxs,Agu]
 refine Bj hd<|A3 Z<|A7 Z<|Ag Z ?_;have hsz:Ea P f1 [pZ bd] d LD (vZ syn.length):=h1 hD;refine NB (A:=LD) (B:=LC) Afi Z hsz ?_;have hn0:syn.length≠0:=by omega
 refine AU Z<|Aw<|Aq<|AE Z<|AI Z Z<|Ad Z<|Bs Z<|Ac Z<|Ag Z<|Ac Z<|Ek (A:=LC) (B:=LD) Z Z (h2 hC (fun f hf=>by rw[(List.mem_replicate.1 hf).2];decide)) (fun v d1 L1 hl1 ⟨e1,e2⟩=>?_);subst e1;have hhl:(EI ⟨Afu m fz,Agf m,0,0,0⟩).length=m:=by simp[EI]
 obtain⟨ah,ch,rfl⟩:=RSl.val e2;rw[hhl] at e2⊢;have hm0:m≠0:=by omega
 have hC1:=hC.mono hl1;have hD1:=hD.mono hl1;have hl':=RSl.mono (R:=Bh) Ck hl hl1;refine Ac Z<|AA Z<|Ac Z<|AI Z Z<|Aj Z Z<|AV Z<|BM Z<|AE Z<|Au Z Z<|Ad Z<|Bs Z<|Ac Z<|Ab Z<|Ac Z<|Au Z Z<|Aj Z Z<|Ad Z<|Bs Z<|Ac Z<|Ab Z<|Ac Z<|Ab Z<|Ac Z<|Bu Z Z<|Aj Z Z<|Ad Z<|Bs Z<|Ac Z<|Ab Z<|Ac Z<|Ab Z<|Ac Z<|Ab Z<|Ac Z<|DT Z Z<|Ac Z<|Bu Z Z<|Aj Z Z<|AV Z<|BM Z<|AH<|A3 Z<|Ag Z<|Ab Z<|Ab Z<|Iv (n:=n) (c:=n) Z Z (Afe _) (by omega) (by omega) (fun bk T0=>?_);refine AbJ kI (id:Value→Value) (fun mb=>?_);refine BY (cs:=[pZ bd,pZ bc,vZ frm,.slice (some ⟨bk,0,none⟩) n n,.map (some mb),vZ 0,vZ 0]) Z<|CF Z (fun b T=>?_);have hg:Ai 1 Bh d1 (.slice (some ⟨bk,0,none⟩) n n) (Ei n []) (bx bk T0 (BD [vZ 0] (n*1))):=Ai.zero Z (by omega) ⟨Z,by omega,by omega⟩ (by omega);refine B1 d1 (_::bx bk T0 (BD [vZ 0] (n*1))::mpI mb [] 0::(L1++LD)) (Vs.perm (Afm _ (Afx _ _ _)))<|Ag Z<|BG<|AK<|BX Z (by assumption)<|AU Z<|Aq<|DF (α:=Nat×Aa) (fun x=>[(2,vZ frm),(13,pZ b),(54,lv),(55,vZ xs.length),(56,vZ x.1)])
  (fun x=>bx b T [pZ bd,pZ bc,vZ frm,.slice (some ⟨bk,0,none⟩) n n,.map (some mb),vZ 0,vZ 0]::x.2::mpI mb [] 0::(L1++LD))
  (fun x=>x.1≤live.length∧Ai 1 Bh d1 (.slice (some ⟨bk,0,none⟩) n n) (Ei n (live.take x.1)) x.2) (fun x=>live.length - x.1) (0,bx bk T0 (BD [vZ 0] (n*1))) ⟨Z,Z,Z,Z,Z,trivial⟩ Z ⟨by simp only;omega,hg⟩ ?_
 rintro⟨i,hk⟩ ρ ⟨hi,hgi⟩;simp only at hi hgi⊢;have hln:=Hh (n:=n) (l:=live.take i);by_cases e:i<live.length
 ·have hin:live[i]<n:=hlv _ (Agb e);have hnot:live[i]∉live.take i:=fun hm=>by
   obtain⟨j,hj,hjj⟩:=List.getElem_of_mem hm;rw[Aft] at hj;rw[List.getElem_take] at hjj;exact List.pairwise_iff_getElem.1 hnd j i (by omega) e (by omega) hjj
  have h0:(Ei n (live.take i)).getD live[i] 0=0:=by rw[KI,if_neg (fun q=>hnot q.2)]
  obtain⟨b1,T1,l1,c1,cs,q1,rfl,hcl,hcs,hle, -,hset⟩:=Ai.at (by omega) hgi (m:=live[i]) (by omega);rw[hln] at q1;cases q1;have e':i<xs.length:=by omega
  have hxi:xs[i]=((frm+live[i]:Nat):Int):=by subst hxs;simp
  have hnx:Ei n (live.take (i+1))=(Ei n (live.take i)).set live[i] 2:=by rw[Afw e,Wy]
  have hkv:HU frm (Ei n (live.take i)) xs[i]=0:=by
   rw[hxi];unfold HU;rw[hln,if_pos (by omega),show(((frm+live[i]:Nat):Int) - (frm:Int)).toNat=live[i] by omega,h0]
  have hgl:Ai 1 Bh d1 (.slice (some ⟨bk,0,none⟩) (Ei n (live.take i)).length n) (Ei n (live.take i)) (bx bk T1 l1):=by rw[hln];exact hgi
  have hkr:=fun{b:Nat}{T x0 x1 x4 x5 x6}=>h3 (k:=xs[i]) (frm:=frm) (b:=b) (T:=T) (x0:=x0) (x1:=x1) (x4:=x4) (x5:=x5) (x6:=x6) hgl (by omega);rw[hln,hkv] at hkr;(refine Ak<|Au Z Z<|By<|B2 Z<|AH<|Aw<|Aq<|Ak<|Bq (sz:=1) (R:=Bh) (by rfl) (by assumption) (by rfl) Z (by omega) ?_;rintro _ _ _ _ _ ⟨rfl,_,_⟩;refine Ah Z (BO (by assumption) Z)<|AR Z<|Ag Z<|Ab Z ?_);refine Di (A:=[_,_]) (B:=_::(L1++LD)) Z Z hkr<|AJ Z Z<|AT Z<|Av<|Ag Z<|Ap Z<|Az Z Z Z<|Ab Z<|Ab Z<|DT Z Z<|BT live[i] Z Z (by rw[hxi];omega) hin ?_;skip;refine Bb 1 (patch l1 (live[i]*1) [vZ 2]) Z Z Z Z hle Z Z<|An<|Av<|A4 Z Z<|AU Z ?_;exact⟨(i+1,_),by simp only;omega,⟨Z,Z,Z,Z,Z,trivial⟩,Z,Z,e,by rw[hnx];exact hset [vZ 2] 2 Z ⟨Z,by omega,by omega⟩⟩
 ·have:i=live.length:=by omega
  subst this;rw[Agz] at hgi hln;have e':¬live.length<xs.length:=by omega
  (refine Ak<|Au Z Z<|By<|BM Z<|Bl<|A3 Z<|Ag Z<|AS Z ?_);have hP:=Pg.mk (d:=d1) (s:=⟨frm,Ei n live,fun _=>[],syn,0,0⟩) (b:=b) (T:=T) (cv:=pZ bc) (bk:=bk) (cp:=n) (mb:=mb) (clk:=0) (c:=⟨Afu m fz,Agf m,0,0,0⟩) (LC:=L1) (LD:=LD) (bd:=bd) hln
   hgi (ms:=[]) (fun j hj hj1=>by
    have h0:(Ei n live).getD j 0=1:=hj1;rw[KI] at h0;split at h0<;>cases h0) hC1 hD1 (C8.new hm1 hm2) (Good.new hn hfn hs8)
  exact CJ Z Z (Afa _) ⟨_,Z,hl1,hP⟩
def Le.dcs{b:Nat}{T l}(h:Le (bx b T l) d):DCs d b 0 l:=⟨_,_,_,h b _ (Db _ _),fun i u hi=>by simpa using hi⟩
def Vs.AcR{a b c L}:Vs d (a::b::c::L) (join (join (join d a) b) c) L:=Vs.freeze.trans (Vs.freeze.trans Vs.freeze)
def Ai.Yh{v}{xs:List Int}{h}(o:Ai 1 Bh d v xs h):Ai 1 Bh d' v xs h:=let ⟨cs,h1,h2⟩:=o;⟨cs,h1,h2⟩
def Mk(d:Aa)(m:MD)(frm:Nat)(pv v:Value):Prop:=∃bm bk cp mq ms clk,v=pZ bm∧DCs d bm 0 [pv,vZ (wr m.round),.slice (some ⟨bk,0,none⟩) m.kinds.length cp,.map (some mq)]∧RSl 1 Bh d (.slice (some ⟨bk,0,none⟩) m.kinds.length cp) m.kinds∧
 Le (mpI mq ms clk) d∧Nu d frm m.kinds m.fb ms
def Mk.mono{m:MD}{frm:Nat}{v}(h:Mk d m frm pv v)(hl:Le d d'):Mk d' m frm pv v:=
 let ⟨bm,bk,cp,mq,ms,clk,h1,h2,h3,h4,h5⟩:=h
 ⟨bm,bk,cp,mq,ms,clk,h1,h2.mono hl,RSl.mono (R:=Bh) Ck h3 hl,h4.trans hl,h5.mono hl⟩
def Yk(x a b c:Aa)(L:List Aa):(x::a::b::c::L).Perm (a::b::c::x::L):=
 (Afx a x _).trans (Afm _ ((Afx b x _).trans (Afm _ (Afx c x _))))
def Ij(P:Program)(f:FuncId):Prop:=∀{d s dv pv L},Pg d s dv pv L→Ao P f [pv] d L (Ret fun r d' L'=>L'=L∧Le d d'∧Mk d' s.mark s.frm pv r)
def MT(a0 a1 a2:Nat):A9:=⟨22,[(.tmp 2)],(sR (o1 2 (.mv (.const (.pointer none))) .done) (.seq (sR (om 3 0<|oc 4 a0 [3] .done) (.cond 4 (sR (o1 2 (.mv (.const (.pointer none))) .done) .ret) .skip)) (.seq (.reg true (pm 5 0<|pm 6 0<|p1 7 (.nilc 6)<|p1 8 (.fld 5 7)<|pl 9 8<|pm 10 0<|p1 11 (.nilc 10)<|p1 12 (.fld 3 11)<|pl 13 12<|pm 15 0<|p1 16 (.nilc 15)<|p1 17 (.fld 4 16)<|pl 18 17<|oc 14 a1 [13]<|oc 19 a2 [18]<|p1 20 (.bld [(0,1),(1,1),(2,1),(3,1)] [(.pointer none),(vZ 0),nV,(.map none)] [(0,5),(1,9),(2,14),(3,19)])<|o1 21 (.box 20) (.bar (pm 2 21 .done)))) .ret)))⟩
set_option maxRecDepth 4000 in
set_option maxHeartbeats 1000000 in
def AcJ(hd:dec P f=some (MT f1 f2 f3))(h1:FQ P f1)(h2:ER Bh 8 P f2)(h3:It P f3):Ij P f:=by
 intro d s dv pv L hp;obtain⟨b,T,cv,bk,cp,hk,mb,ms,clk,c,LC,LD,bd,rfl,rfl,rfl,hg,hm,hC,hD,hc,hG⟩:=hp;have hlen:=hG.len;have hone:=hG.one;refine Bj hd<|A3 Z<|BG<|Ag Z<|Di (A:=[_]) (B:=_::_::(LC++LD)) Z Z h1<|Be Z<|Aw<|BE [_] (hk::mpI mb ms clk::(LC++LD)) Z<|Ag Z<|Ag Z<|Ap Z<|Az Z Z Z<|Ag Z<|Ap Z<|Az Z Z Z<|Ag Z<|Ap Z<|Az Z Z Z<|Ka (Q:=fun v L'=>∃h,L'=[h]∧Ai 1 Bh d v s.kinds h) Z (fun d1 hl1 hk1=>?_) (fun v L1 ⟨h,e1,hrow⟩=>?_)
 ·exact Ao.Eb (h2 (xs:=s.kinds) (Ai.rsl (R:=Bh) hg Ck (by omega) hl1 (hk1 _ (List.mem_cons_self ..))) (by omega)) (fun r d' L' _ ⟨q1,h,q2,q3⟩=>⟨d',L',Vs.refl _ _,q1,h,q2,Ai.Yh q3⟩)
 subst e1;skip;refine Ka (Q:=fun v L'=>∃q,v=.map (some q)∧L'=[mpI q ms clk]) Z (fun d1 hl1 hk1=>h3 (hk1 _ (by simp))) (fun v1 L1 ⟨q,e1,e2⟩=>?_);subst e1;subst e2;obtain⟨b1,T1,l1,c1,cs,q1, -, -, -, -, -, -⟩:=Ai.at (m:=0) (by omega) hrow (by omega);subst q1;refine BY (cs:=[pZ b,vZ (wr s.round),.slice (some ⟨b1,0,none⟩) s.kinds.length c1,.map (some q)]) Z<|CF Z (fun bm Tm=>?_);refine Cw<|Ag Z<|BJ<|A6 [pZ bm] ⟨Z,trivial⟩ (L':=bx b T [pZ bd,cv,vZ s.frm,.slice (some ⟨bk,0,none⟩) s.kinds.length cp,.map (some mb),vZ (wr s.round),vZ (wr s.tc)]::hk::mpI mb ms clk::(LC++LD))
  ((Vs.perm (Yk _ _ _ _ _)).trans Vs.AcR) ⟨Z,?_,bm,b1,c1,q,ms,clk,Z,?_,?_,?_,?_⟩
 ·exact((Le.Ar _ _).trans (Le.Ar _ _)).trans (Le.Ar _ _)
 ·exact Le.dcs (((Le.Bc _ _).trans (Le.Ar _ _)).trans (Le.Ar _ _))
 ·exact Ai.rsl (R:=Bh) (sz:=1) hrow Ck (by omega) (((Le.Ar _ _).trans (Le.Ar _ _)).trans (Le.Ar _ _)) (Le.Bc _ _)
 ·exact(Le.Bc _ _).trans (Le.Ar _ _)
 ·exact hm.mono (((Le.Ar _ _).trans (Le.Ar _ _)).trans (Le.Ar _ _))
def Acz{a b x e f R}:Vs d (a::b::x::e::f::R) d (x::b::a::R):=
 (Vs.drop (.cons_cons _ (.cons_cons _ (.cons_cons _ (.cons _ (.cons _ (Afa _))))))).trans (Vs.perm ((Afm _ (Afx x b R)).trans ((Afx x a (b::R)).trans (Afm _ (Afx b a R)))))
def Mr(P:Program)(f:FuncId):Prop:=∀{d s dv pv v L}{m:MD},Pg d s dv pv L→Mk d m s.frm pv v→(wr m.round=wr s.round→Og m.kinds s.kinds∧∀i,0≤m.kinds.getD i 0∧m.kinds.getD i 0≤3)→
 Ao P f [pv,v] d L (Ret fun r d' L'=>d'=d∧(wr m.round=wr s.round→r=vZ 0∧Pg d (s.back m) dv pv L')∧(wr m.round≠wr s.round→r=vZ 2∧Pg d s dv pv L'))
def Mm(a0 a1 a2:Nat):A9:=⟨46,[(.tmp 4)],(sR (o1 4 (.mv z0) .done) (.seq (.block 0 (sR (om 6 0<|oc 7 a0 [6]<|om 8 7<|gF 9 8 1<|oF 10 8 (.eqp false 9 (.const (.pointer none)))<|o1 11 (.pick 8 (.const (.bool true)) 10)<|om 5 11 .done) (.cond 5 (sR (o1 4 (.mv z1) .done) .ret) (.seq (.reg true (pm 13 1<|p1 14 (.nilc 13)<|p1 15 (.fld 0 14)<|pl 16 15<|pm 17 0<|p1 18 (.eqp true 16 17)<|pm 19 18 (.op true ⟨(some 20),(some (19,false)),(.mv 1)⟩ (.op true ⟨(some 21),(some (19,false)),(.nilc 20)⟩ (.op true ⟨(some 22),(some (19,false)),(.fld 1 21)⟩ (.op true ⟨(some 23),(some (19,false)),(.ld none 22)⟩ (.op true ⟨(some 24),(some (19,false)),(.mv 0)⟩ (.op true ⟨(some 25),(some (19,false)),(.nilc 24)⟩ (.op true ⟨(some 26),(some (19,false)),(.fld 5 25)⟩ (.op true ⟨(some 27),(some (19,false)),(.ld none 26)⟩ (.op true ⟨(some 28),(some (19,false)),(.bin .neq 23 27)⟩ (p1 29 (.pick 19 (.const (.bool true)) 28) (pm 12 29 .done))))))))))))) (.cond 12 (sR (o1 4 (.mv z2) .done) .ret) .skip))))) (.seq (.reg true (pm 30 0<|pm 31 0<|pm 32 1<|p1 33 (.nilc 32)<|p1 34 (.fld 2 33)<|pl 35 34<|pm 37 1<|p1 38 (.nilc 37)<|p1 39 (.fld 3 38)<|pl 40 39<|oc 36 a1 [35]<|oc 41 a2 [40]<|p1 42 (.nilc 30)<|p1 43 (.fld 3 42)<|o0 (.st 1 43 36)<|p1 44 (.nilc 31)<|p1 45 (.fld 4 44)<|o0 (.st 1 45 41) .done)) (sR (o1 4 (.mv z0) .done) .ret))))⟩
set_option maxRecDepth 4000 in
set_option maxHeartbeats 1000000 in
def AcX(hd:dec P f=some (Mm f1 f2 f3))(h1:FQ P f1)(h2:ER Bh 8 P f2)(h3:It P f3):Mr P f:=by
 intro d s dv pv v L m hp hmk hor;have hp0:=hp;obtain⟨b,T,cv,bk,cp,hk,mb,ms,clk,c,LC,LD,bd,rfl,rfl,rfl,hg,hm,hC,hD,hc,hG⟩:=hp;obtain⟨bm,bmk,mcp,mq,mms,mclk,rfl,hmd,hmr,hml,hmm⟩:=hmk;have hlen:=hG.len;have hone:=hG.one;refine Bj hd<|AE Z<|By<|Aq<|A3 Z<|Di (A:=[_]) (B:=_::_::(LC++LD)) Z Z h1<|Ad Z<|Ac Z<|Ag Z<|Ac Z<|CG Z Z<|Aj Z Z<|AV Z<|Cn Z<|Aw<|BE [_] (hk::mpI mb ms clk::(LC++LD)) Z<|Ag Z<|Ap Z<|Am Z<|Ah Z (Cr (by assumption) Z)<|Ag Z<|AdX Z Z ?_;by_cases hw:wr m.round=wr s.round
 ·obtain⟨hog,hrng⟩:=hor hw;have hol:=hog.1;refine Ad Z<|Ac Z<|Ag Z<|Ac Z<|Ap Z<|Ac Z<|Am Z<|Ac Z<|Ah Z (Cr (by assumption) Z)<|Ac Z<|Ag Z<|Ac Z<|Ap Z<|Ac Z<|Am Z<|Ac Z<|c_l Z Z Z<|Ac Z<|AJ Z Z<|Aj Z Z<|Ad Z<|A8<|BM Z<|AH<|Aw<|BE [] (bx b T [pZ bd,cv,vZ s.frm,.slice (some ⟨bk,0,none⟩) s.kinds.length cp,.map (some mb),vZ (wr s.round),vZ (wr s.tc)]::hk::mpI mb ms clk::(LC++LD)) Z<|Ag Z<|Ag Z<|Ag Z<|Ap Z<|Am Z<|Ah Z (Cr (by assumption) Z)<|Ag Z<|Ap Z<|Am Z<|Ah Z (Cr (by assumption) Z)<|Ka (Q:=fun v L'=>∃h,L'=[h]∧Ai 1 Bh d v m.kinds h) Z (fun d1 hl1 hk1=>Ao.Eb (h2 (xs:=m.kinds) (RSl.mono (R:=Bh) Ck hmr hl1) (by omega)) (fun r d' L' _ ⟨q1,h,q2,q3⟩=>⟨d',L',Vs.refl _ _,q1,h,q2,Ai.Yh q3⟩)) (fun v L1 ⟨h,e1,hrow⟩=>?_);subst e1;refine Ka (Q:=fun v L'=>∃q,v=.map (some q)∧L'=[mpI q mms mclk]) Z (fun d1 hl1 hk1=>h3 (hml.trans hl1)) (fun v1 L1 ⟨q,e1,e2⟩=>?_);subst e1;subst e2;obtain⟨b1,T1,l1,c1,cs,q1, -, -, -, -, -, -⟩:=Ai.at (m:=0) (by omega) hrow (by omega);subst q1;refine Ap Z<|Am Z<|Bb 2 [pZ bd,cv,vZ s.frm,.slice (some ⟨b1,0,none⟩) m.kinds.length c1,.map (some mb),vZ (wr s.round),vZ (wr s.tc)] Z Z Z Z (Aff Z) Z Z<|Ap Z<|Am Z<|Bb 2 [pZ bd,cv,vZ s.frm,.slice (some ⟨b1,0,none⟩) m.kinds.length c1,.map (some q),vZ (wr s.round),vZ (wr s.tc)] Z Z Z Z (Aff Z) Z Z ?_;have hP:=Pg.mk (d:=d) (s:=s.back m) (b:=b) (T:=T) (cv:=cv) (bk:=b1) (cp:=c1) (mb:=q) (ms:=mms) (clk:=mclk) (c:=c) (LC:=LC) (LD:=LD) (bd:=bd) Z hrow hmm hC hD (hc.to Z Z hog)
   ⟨by show 1≤m.kinds.length;omega,by show m.kinds.length≤8192;omega,by show s.frm+m.kinds.length≤s.syn.length;rw[hol];exact hG.inn,hG.syn,hrng⟩
  refine Bo<|AS Z<|A6 [vZ 0] ⟨Z,trivial⟩ Acz ⟨Z,fun _=>⟨Z,hP⟩,fun e=>absurd hw e⟩
 ·refine Ad Z<|Ac Z<|Ag Z<|Ac Z<|Ap Z<|Ac Z<|Am Z<|Ac Z<|Ah Z (Cr (by assumption) Z)<|Ac Z<|Ag Z<|Ac Z<|Ap Z<|Ac Z<|Am Z<|Ac Z<|c_l Z Z Z<|Ac Z<|AJ Z Z<|Aj Z Z<|Ad Z<|A8<|B2 Z<|AE Z<|BJ<|BZ Z (Afa _) ⟨Z,fun e=>absurd e hw,fun _=>⟨Z,hp0⟩⟩
end Go.Gk.Pgr
end
section
namespace Go.Gk.Cch
open Go Go.Gk Go.Gk.Dev
attribute [local irreducible] gwp gws xwp
section
def Cov(d:Aa)(c:CD)(D:Ff)(cv:Value)(L:List Aa):Prop:=∃dv LC LD,L=LC++LD∧Ca d c dv cv LC∧Dv d D dv LD
def Cov.mono{d d'}{c:CD}{D:Ff}{cv L}(h:Cov d c D cv L)(hl:Le d d'):Cov d' c D cv L:=
 let ⟨dv,LC,LD,h1,h2,h3⟩:=h
 ⟨dv,LC,LD,h1,h2.mono hl,h3.mono hl⟩
def Cov.ptr{d}{c:CD}{D:Ff}{cv L}(h:Cov d c D cv L):∃b,cv=pZ b:=by
 obtain⟨dv,LC,LD,rfl,⟨b, -, -, -, -, -, -, -, -,h, -⟩, -⟩:=h;exact⟨b,h⟩
section
variable {P:Program}{f:FuncId}{d:Aa}{c:CD}{D:Ff}{cv:Value}{L:List Aa}{k:Nat}
def M8.cov(h:M8 P f)(hc:Cov d c D cv L)(hp:MR c 4611686018427387904)(hk:k<D.syn.length):
  Ao P f [cv,vZ k] d L (Ret fun r d' L'=>Cov d' (FD (D.cur k) c k).1 D cv L'∧AdR d' r (FD (D.cur k) c k).2):=by
 obtain⟨dv,LC,LD,rfl,h1,h2⟩:=hc
 refine(h h1 h2 hp hk).mono (fun e d' L' hl hr=>?_)
 cases e with
 |returned v=>obtain⟨LC',LD',rfl,g1,g2,g3⟩:=hr;exact⟨⟨dv,LC',LD',Z,g1,g2⟩,g3⟩
 |panicked c=>exact hr
 |outgrown=>exact hr
def MM{args A B R R'}(h:Ao P f args d A (Ret R))(hR:∀v d' A',Le d d'→R v d' A'→R' v d' (A'++B)):Ao P f args d (A++B) (Ret R'):=by
 refine(h.frame B).mono (fun e d' L' hl hr=>?_);obtain⟨A',rfl,hr⟩:=hr;cases e with
 |returned v=>exact hR v d' A' hl hr
 |panicked c=>exact hr
 |outgrown=>exact hr
def Js.cov(h:Js P f)(hc:Cov d c D cv L)(hp:MR c 4611686018427387904):
  Ao P f [cv,vZ k] d L (Ret fun r d' L'=>r=vZ (DI c k).2∧Cov d' (DI c k).1 D cv L'):=by
 obtain⟨dv,LC,LD,rfl,h1,h2⟩:=hc
 exact MM (h (k:=k) h1 hp) (fun v d' A' hl ⟨g1,g2,g3⟩=>⟨g2,dv,A',LD,Z,g3.mono (by rw[g1];exact Le.refl _),h2.mono hl⟩)
def Ih.cov(h:Ih P f)(hc:Cov d c D cv L)(hp:∀i,findF k c.fr=some i→c.free.length<c.fr.length):
  Ao P f [cv,vZ k] d L (Ret fun r d' L'=>r=vZ (DH c k).2∧Cov d' (DH c k).1 D cv L'):=by
 obtain⟨dv,LC,LD,rfl,h1,h2⟩:=hc
 exact MM (h (k:=k) h1 hp) (fun v d' A' hl ⟨g1,g2,g3⟩=>⟨g2,dv,A',LD,Z,g3.mono (by rw[g1];exact Le.refl _),h2.mono hl⟩)
def Kt.cov(h:Kt P f)(hc:Cov d c D cv L)(hs:∀f∈c.fr,f.sec≤8192):Ao P f [cv] d L (Ret fun r d' L'=>L'=L∧D9 d' r (EI c)):=by
 obtain⟨dv,LC,LD,rfl,h1,h2⟩:=hc;exact MM (h h1 hs) (fun v d' A' hl ⟨g1,g2⟩=>⟨by rw[g1],g2⟩)
def YV.cov(h:YV P f)(hc:Cov d c D cv L):Ea P f [cv] d L (vZ (wr c.hits)):=by
 obtain⟨dv,LC,LD,rfl,h1,h2⟩:=hc;exact MM (h h1) (fun v d' A' hl ⟨g1,g2,g3⟩=>⟨g1,g2,by rw[g3]⟩)
def UO.cov(h:UO P f)(hc:Cov d c D cv L):Ea P f [cv] d L (vZ (wr c.miss)):=by
 obtain⟨dv,LC,LD,rfl,h1,h2⟩:=hc;exact MM (h h1) (fun v d' A' hl ⟨g1,g2,g3⟩=>⟨g1,g2,by rw[g3]⟩)
end
end
end Go.Gk.Cch
end
section
namespace Go.Gk.Pgr
open Go Go.Gk Go.Gk.Dev Go.Gk.Cch Go.Gk.Node
section
attribute [local irreducible] gwp gws xwp
end
section
attribute [local irreducible] gwp gws xwp
end
end Go.Gk.Pgr
end
section
namespace Go.Gk.Pgr
open Go Go.Gk Go.Gk.Dev Go.Gk.Cch Go.Gk.Node
attribute [local irreducible] gwp gws xwp
section
section
variable {P:Program}{pan:List PanicEntry→AP}{Qn:Env→AP}{Ls L:List Aa}{ρ:Env}{d:Aa}{s:GS}{t:Nat}{tk:Bool}
end
structure AD where
 kind:Int
 k:Int
 by_:UInt8
abbrev AbG(b:UInt8):Sec:=Afu 256 b
def PD.act(s:PD)(a:AD):PD:=
 if a.kind=0 then(if s.AX.2.2=0 then(s.AX.1.put s.AX.2.1 (AbG a.by_)).1 else s.AX.1)
 else if a.kind=1 then(s.put (2+a.k % 8) (AbG a.by_)).1
 else if a.kind=3 then(s.drop (2+a.k % 8)).1
 else if a.kind=4 then s.flush
 else s
def PD.run(s:PD)(l:List AD):PD:=l.foldl PD.act s
end
end Go.Gk.Pgr
end
section
namespace Go.Gk.Pgr
open Go Go.Gk Go.Gk.Dev Go.Gk.Cch
variable{s t:PD}{i:Nat}{k:Int}{d:Aa}
structure AL (s t:PD):Prop where
 frm:t.frm=s.frm
 len:t.kinds.length=s.kinds.length
 syn:t.syn.length=s.syn.length
 old:∀i,2≤s.kd i→2≤t.kd i
 new:∀i,2≤t.kd i→2≤s.kd i
 sec:∀i,2≤s.kd i→t.syn.getD (s.frm+i) []=s.syn.getD (s.frm+i) []
 round:t.round=s.round
def AL.refl(s:PD):AL s s:=⟨Z,Z,Z,fun _ h=>h,fun _ h=>h,fun _ _=>Z,Z⟩
def AL.trans{u}(h:AL s t)(k:AL t u):AL s u:=
 ⟨k.frm.trans h.frm,k.len.trans h.len,k.syn.trans h.syn,fun i hi=>k.old i (h.old i hi),fun i hi=>h.new i (k.new i hi),fun i hi=>by have:=k.sec i (h.old i hi);rw[h.frm] at this;exact this.trans (h.sec i hi),k.round.trans h.round⟩
def AL.set{x:Int}{fb:Nat→Sec}(h:2≤s.kd i↔2≤x):AL s {s with kinds:=s.kinds.set i x,fb:=fb}:=by
 have key:∀j,2≤s.kd j↔2≤(s.kinds.set i x).getD j 0:=fun j=>by
  by_cases hi:i<s.kinds.length
  ·rw[DK hi];by_cases e:j=i
   ·subst e;rw[if_pos Z];exact h
   ·rw[if_neg e]
  ·rw[List.set_eq_of_length_le (by omega)]
 exact⟨Z,by simp,Z,fun j hj=>(key j).1 hj,fun j hj=>(key j).2 hj,fun _ _=>Z,Z⟩
def AL.fb{fb:Nat→Sec}:AL s {s with fb:=fb}:=⟨Z,Z,Z,fun _ h=>h,fun _ h=>h,fun _ _=>Z,Z⟩
def AL.tc{tc:Nat}:AL s {s with tc:=tc}:=⟨Z,Z,Z,fun _ h=>h,fun _ h=>h,fun _ _=>Z,Z⟩
def AL.AX(s:PD):AL s s.AX.1:=by
 unfold PD.AX;cases h:DJ 0 s.kinds with
 |none=>exact AL.refl s
 |some i=>
  obtain⟨h1,h2⟩:=GW h
  exact AL.set (by rw[J9 h1,h2];decide)
def AL.put(s:PD)(k:Int)(b:Sec):AL s (s.put k b).1:=by
 unfold PD.put;split
 ·split
  ·exact AL.fb
  ·exact AL.refl s
 ·exact AL.refl s
def AL.drop(s:PD)(k:Int):AL s (s.drop k).1:=by
 unfold PD.drop;split
 ·rename_i h;obtain⟨i,h1,rfl,h2,h3⟩:=Dm h (by omega);rw[h3];exact AL.set (by rw[h2];decide)
 ·split
  ·rename_i h;obtain⟨i,h1,rfl,h2,h3⟩:=Dm h (by omega);rw[h3];exact AL.set (by rw[h2];decide)
  ·exact AL.refl s
def UF(h:s.kd i≠1):s.flush.syn.getD (s.frm+i) []=s.syn.getD (s.frm+i) []:=by
 refine MJ (fun w hw e=>?_);obtain⟨j,h4,h5,rfl⟩:=LN hw;simp only at e;rw[show j=i by omega] at h5;exact h h5
def AL.flush(s:PD):AL s s.flush:=⟨Z,Z,Fq _ _,fun _ h=>h,fun _ h=>h,fun i hi=>UF (by omega),Z⟩
def AL.act(s:PD)(a:AD):AL s (s.act a):=by
 unfold PD.act;split
 ·split
  ·exact(AL.AX s).trans (AL.put _ _ _)
  ·exact AL.AX s
 ·split
  ·exact AL.put _ _ _
  ·split
   ·exact AL.drop _ _
   ·split
    ·exact AL.flush s
    ·exact AL.refl s
def AL.run(l:List AD):∀s:PD,AL s (s.run l):=by
 induction l with
 |nil=>exact fun s=>AL.refl s
 |cons a l ih=>exact fun s=>(AL.act s a).trans (ih (s.act a))
def AL.AdF(h:AL s t)(hk:s.kind k=2):t.syn.getD k.toNat []=s.syn.getD k.toNat []:=by
 obtain⟨i,h1,rfl,h2,h3⟩:=Dm hk (by omega);exact h.sec i (by omega)
def Dv.sec{D:Ff}{v L}(h:Dv d D v L){k:Nat}(hk:k<D.syn.length):(D.syn.getD k []).length=256:=by
 obtain⟨b,T,vs,vo,r,hs,ho, -, -,h3, -⟩:=h;obtain⟨cs,h1,h2⟩:=h3;rw[Afd,Afc hk];exact(h2 k hk).2
def Pg.dev{dv pv L}(h:Pg d s dv pv L):∃A LD,L=A++LD∧Dv d ⟨s.syn,[]⟩ dv LD:=by
 obtain⟨b,T,cv,bk,cp,hk,mb,ms,clk,c,LC,LD,bd,h1,h2,h3,h4,h5,h6,h7,h8,h9⟩:=h;exact⟨_::hk::mpI mb ms clk::LC,LD,h3,h7⟩
def AL.og(h:AL s t):Og s.kinds t.kinds:=⟨h.len.symm,fun i=>⟨h.old i,h.new i⟩⟩
def AL.back(h:AL s t):AL s (t.back s.mark):=⟨h.frm,Z,h.syn,fun _ q=>q,fun _ q=>q,h.sec,h.round⟩
def PD.bytes(s:PD)(k:Int):Sec:=if s.kind k=1 then s.fb (k - s.frm).toNat else if s.kind k=2 then s.syn.getD k.toNat [] else []
def PD.I2(s:PD)(k:Int):Int:=if s.kind k=1 then 0 else if s.kind k=2 then 0 else 240
def Nj(h:AL s t)(k:Int):(t.back s.mark).kind k=s.kind k:=by
 unfold PD.kind;rw[show(t.back s.mark).frm=s.frm from h.frm];rfl
def Xx(h:AL s t)(k:Int):(t.back s.mark).bytes k=s.bytes k:=by
 have hk:=Nj h k;unfold PD.bytes;rw[hk];by_cases h1:s.kind k=1
 ·rw[if_pos h1,if_pos h1,show(t.back s.mark).frm=s.frm from h.frm];rfl
 ·rw[if_neg h1,if_neg h1];by_cases h2:s.kind k=2
  ·rw[if_pos h2,if_pos h2];exact h.AdF h2
  ·rw[if_neg h2,if_neg h2]
def eb(x:Int):UInt8:=UInt8.ofNat (x % 256).toNat
def PD.SO(s:PD)(n:Nat):List UInt8:=(Agf n).flatMap fun(k:Nat)=>s.bytes (k:Int)++[eb (s.I2 (k:Int))]
def PD.look(s:PD):List UInt8:=s.SO 12++s.CV.map eb++[eb s.free]
def SY{n:Nat}:PD.bytes {s with tc:=n} k=s.bytes k:=Z
def Aca{n:Nat}:PD.I2 {s with tc:=n} k=s.I2 k:=Z
def JT(h:s.kind k=2):s.bytes k=s.syn.getD k.toNat []:=by unfold PD.bytes;rw[if_neg (by omega),if_pos h]
def F4.at{P f}(h:F4 P f){dv pv L}(hp:Pg d s dv pv L):
  Ao P f [pv,vZ k] d L (Ret fun r d' L'=>∃a c tc,r=.tuple #[.slice a (s.bytes k).length c,vZ (s.I2 k)]∧Ay d' (.slice a (s.bytes k).length c) (s.bytes k)∧Pg d' {s with tc:=tc} dv pv L'):=by
 refine Ao.Eb (h (k:=k) hp) (fun r d' L' _ ⟨⟨q,q1,q2⟩,q3⟩=>⟨d',L',Vs.refl _ _,?_⟩)
 subst q1
 unfold PD.bytes PD.I2
 unfold PD.get at q2 q3⊢
 by_cases h1:s.kind k=1
 ·simp only[if_pos h1] at q2 q3⊢
  obtain⟨a,c,rfl⟩:=RSl.val q2
  exact⟨a,c,_,Z,q2,q3⟩
 ·by_cases h2:s.kind k=2
  ·simp only[if_neg h1,if_pos h2] at q2 q3⊢
   obtain⟨a,c,rfl⟩:=RSl.val q2
   exact⟨a,c,_,Z,q2,q3⟩
  ·simp only[if_neg h1,if_neg h2] at q2 q3⊢
   obtain rfl:q=nV:=q2
   exact⟨none,0,s.tc,Z,RSl.nil,q3⟩
def RE{l:List Sec}{j:Nat}{x:Sec}(hi:i<l.length):(l.set i x).getD j []=if j=i then x else l.getD j []:=by
 simp only[Afd,List.getElem?_set];by_cases e:i=j
 ·subst e;simp[hi]
 ·rw[if_neg e,if_neg (fun h=>e h.symm)]
def LR(hin:s.frm+s.kinds.length≤s.syn.length)(h1:s.kd i=1):∀{n:Nat},n≤s.kinds.length→i<n→(synced (s.writes n) s.syn).getD (s.frm+i) []=s.fb i
 |n+1,hn,hi=>by
  rw[PD.writes];by_cases e:i=n
  ·subst e;rw[if_pos h1,J3,RE (by rw[Fq];omega),if_pos Z]
  ·have ih:=LR hin h1 (n:=n) (by omega) (by omega);split
   ·rw[J3,RE (by rw[Fq];omega),if_neg (by omega)];exact ih
   ·rw[Agj];exact ih
abbrev PD.fin(s:PD):PD:=s.flush.done
def Td:s.fin.kind k=DM (s.kind k):=by
 unfold PD.kind;have h1:s.fin.frm=s.frm:=Z;have h2:s.fin.kinds.length=s.kinds.length:=by simp[PD.fin,PD.done,PD.flush]
 rw[h1,h2];split
 ·show(s.kinds.map DM).getD _ 0=_;rw[getD_map]
 ·rfl
def Sa(hG:Good s):s.fin.bytes k=s.bytes k:=by
 have hk:=Td (s:=s) (k:=k);have hrng:s.kind k= -1∨(0≤s.kind k∧s.kind k≤3):=by
  unfold PD.kind;split
  ·exact .inr (hG.kd _)
  ·exact .inl Z
 have hin:=hG.inn;by_cases h1:s.kind k=1
 ·rw[h1] at hk;have hk2:s.fin.kind k=2:=hk;rw[JT hk2];obtain⟨i,i1,rfl,i2,i3⟩:=Dm h1 (by omega);have:s.bytes ((s.frm+i:Nat):Int)=s.fb i:=by unfold PD.bytes;rw[if_pos h1,i3]
  rw[this];exact LR hin i2 (Afe _) i1
 ·by_cases h2:s.kind k=2
  ·rw[h2] at hk;have hk2:s.fin.kind k=2:=hk;rw[JT hk2,JT h2];obtain⟨i,i1,rfl,i2,i3⟩:=Dm h2 (by omega);exact UF (by omega)
  ·have h3:s.fin.kind k≠1∧s.fin.kind k≠2:=by
    rw[hk];unfold DM;by_cases q:s.kind k=3
    ·rw[if_pos q];omega
    ·rw[if_neg q,if_neg h1];omega
   unfold PD.bytes;rw[if_neg h3.1,if_neg h3.2,if_neg h1,if_neg h2]
def Pg.full{dv pv L}(h:Pg d s dv pv L)(hk:s.kind k=1∨s.kind k=2):(s.bytes k).length=256:=by
 have hG:=h.Fc;obtain⟨A,LD, -,hD⟩:=h.dev;obtain⟨b,T,cv,bk,cp,hkk,mb,ms,clk,c,LC,LD,bd,h1,h2,h3,h4,h5, -⟩:=h;have hin:=hG.inn;rcases hk with hk|hk
 ·obtain⟨i,i1,rfl,i2,i3⟩:=Dm hk (by omega);obtain⟨v, -, -,q⟩:=h5 i i1 i2;unfold PD.bytes;rw[if_pos hk,i3];exact q
 ·obtain⟨i,i1,rfl,i2,i3⟩:=Dm hk (by omega);rw[JT hk];exact Dv.sec hD (show((s.frm+i:Nat):Int).toNat<s.syn.length by omega)
def WA(h1:s.kind k≠1)(h2:s.kind k≠2):s.bytes k=[]:=by unfold PD.bytes;rw[if_neg h1,if_neg h2]
def Adh(hG:Good s):s.fin.kd i=0∨s.fin.kd i=2:=by
 show(s.kinds.map DM).getD i 0=0∨(s.kinds.map DM).getD i 0=2;rw[getD_map];have h:0≤s.kinds.getD i 0∧s.kinds.getD i 0≤3:=hG.kd i;unfold DM;by_cases q:s.kinds.getD i 0=3
 ·rw[if_pos q];omega
 ·rw[if_neg q];by_cases q1:s.kinds.getD i 0=1
  ·rw[if_pos q1];omega
  ·rw[if_neg q1];omega
end Go.Gk.Pgr
end
section
namespace Go.Gk
open Go
variable{n:Nat}{d:Aa}
section
def Nz(X:List Nat)(a0 a:Act):Prop:=∀t,t∉X→a.tmps[t]?=a0.tmps[t]?
def Nz.put{X:List Nat}{a0 a:Act}(h:Nz X a0 a){dst:Option Nat}(hd:∀t,dst=some t→t∈X)(v:Value):Nz X a0 (a.put dst v):=by
 intro t ht;cases dst with
 |none=>exact h t ht
 |some d=>
  have hne:d≠t:=fun e=>ht (e▸hd d Z)
  show(a.tmps.setIfInBounds d v)[t]?=_
  rw[Array.getElem?_setIfInBounds,if_neg hne]
  exact h t ht
def Nz.defer{X:List Nat}{a0 a:Act}(h:Nz X a0 a)(l:List Deferred):Nz X a0 {a with defers:=l}:=h
section
variable {P:Program}{ops:Array Oper}{Q:Exit→Act→World→Prop}{X:List Nat}{a0:Act}
end
def Jy:Code→List Nat
 |.region _ ops _=>ops.toList.filterMap (·.dst)
 |.seq a b=>Jy a++Jy b
 |.cond _ a b=>Jy a++Jy b
 |.block _ a=>Jy a
 |.loop a=>Jy a
 |_=>[]
end
section
structure Lu where
 n:Nat
 res:List Hc
 a:CC
 fd:Nat
 g:FuncId
 caps:List Nat
 c:CC
def MA(n:Nat):List Operand→Option (List Nat)
 |[]=>some []
 |.tmp t::l=>if t<n then(MA n l).map (t:: ·) else none
 |_::_=>none
def Abv:Hc→Nat
 |.tmp t=>t
 |.cell t _=>t
def SA(n:Nat)(ops:List Oper):Option (Nat×FuncId×List Nat):=
 match ops with
 |[o1,o2]=>match o1.dst,o1.op,o1.guard,o2.dst,o2.op,o2.guard with
  |some fd,.makeFunc (.func g) first caps,none,none,.defer ⟨.value (.tmp fd'),args,_⟩,none=>
   if first.size=0∧args.size=0∧fd=fd'∧fd<n then(MA n caps.toList).map fun cs=>(fd,g,cs) else none
  |_,_,_,_,_,_=>none
 |_=>none
def AaH(pr:Bool)(P:Program)(f:FuncId):Option Lu:=
 match P.funcs[f]? with
 |some fn=>
  if fn.name== "runtime.NumGoroutine" || !P.follows .mixedOrders then none else
  match fn.body with
  |some (.seq a (.seq (.region _ ops false) c))=>
   match SA fn.ntmps ops.toList,fn.results.toList.mapM (H3 P fn.ntmps) with
   |some (fd,g,cs),some rs=>if rs.all (fun r=> !(Jy c).contains (Abv r)) then some ⟨fn.ntmps,rs,ET pr P fn.ntmps a,fd,g,cs,ET pr P fn.ntmps c⟩ else none
   |_,_=>none
  |_=>none
 |none=>none
def OX{args}(ha:args.length≤n):({tmps:=args.toArray++Array.replicate (n - args.toArray.size) undef,defers:=[]}:Act)=act n (GP args) []:=by
 simp only[act,Act.mk.injEq,and_true];apply Array.ext
 ·simp at ha⊢;omega
 ·intro i h1 h2;simp only[Array.getElem_ofFn,GP];by_cases hi:i<args.length
  ·rw[Array.getElem_append_left (by simpa using hi)];simp[hi]
  ·rw[Array.getElem_append_right (by simpa using hi)];simp[List.getD,Ago (Ajp hi)]
def Uv{P}{fn:Func}{rs:List Hc}(hr:fn.results.toList.mapM (H3 P n)=some rs){ρ ds L F W}(hOk:Ok (d::(L++F)) W){vs}(h:Hq ρ (HC d L) rs vs):
  (results fn (act n ρ ds).tmps).run P W=.ok (Lh vs) W:=by
 have hl:∀a v,HC d L a v→W.cell? a=some v:=fun a v hc=>hc.cell hOk.head (fun q hq=>hOk.2 q (by simp[hq]))
 have:=HX (P:=P) (n:=n) (ρ:=ρ) (ds:=ds) hl fn.results.toList rs vs hr h
 rw[IG,Array.mapM_eq_mapM_toList]
 simp only[Sem.run_bind,Sem.run_map,this,Result.andThen,Sem.run_pure]
 cases vs with
 |nil=>rfl
 |cons v vs=>cases vs with
  |nil=>rfl
  |cons v' vs=>rfl
def J7{ρ ds}:∀{l}{cs:List Nat},MA n l=some cs→l.map (act n ρ ds).eval=cs.map ρ
 |[],cs,h=>by cases h;rfl
 |.tmp t::l,cs,h=>by
  simp only[MA] at h;split at h<;>try cases h
  rename_i ht;simp only[Agn] at h;obtain⟨cs',h,rfl⟩:=h;have e:(act n ρ ds).eval (.tmp t)=ρ t:=Bn (x:=.tmp t) (by simpa [Et] using ht);simp only[Ahv,e,J7 h]
 |.const _::l,cs,h=>by cases h
 |.global _::l,cs,h=>by cases h
 |.func _::l,cs,h=>by cases h
section
variable {pr:Bool}{P:Program}
def Nn(K:Aa→List Aa→Prop):Co:={n:=fun _=>K,ret:=fun _=>K,ex:=fun _ _ _ _=>False,pan:=fun _ _ _=>False}
def EB(g:FuncId)(caps:List Value):Value:=.func (.func g) #[] caps.toArray
def Qi{ops}{r:Nat×FuncId×List Nat}(h:SA n ops.toList=some r):∃o1 o2 caps ats,ops= #[o1,o2]∧o1.dst=some r.1∧o1.op=.makeFunc (.func r.2.1) #[] caps∧o1.guard=none∧o2.dst=none∧o2.op=.defer ⟨.value (.tmp r.1), #[],ats⟩∧o2.guard=none∧r.1<n∧MA n caps.toList=some r.2.2:=by
 obtain⟨ops⟩:=ops;simp only[SA] at h;split at h<;>try cases h
 rename_i o1 o2;split at h<;>try cases h
 rename_i h1 h2 h3 h4 h5 h6;split at h<;>try cases h
 rename_i hc;obtain⟨k1,k2,k3,k4⟩:=hc;simp only[Agn] at h;obtain⟨cs,hcs,rfl⟩:=h;subst k3;have k1:=Array.eq_empty_of_size_eq_zero k1;have k2:=Array.eq_empty_of_size_eq_zero k2;subst k1;subst k2;exact⟨o1,o2,_,_,by simp_all,h1,h2,h3,h4,h5,h6,k4,hcs⟩
end
end
section
section
variable {pr:Bool}{P:Program}
def LQ{f}{g:A9}(hd:Jk pr P f=some g)(hr:g.res=[]){args}(ha:args.length≤g.n){F W L}{K:Aa→List Aa→Prop}
  (h:gwp P g.code (Nn K) (GP args) d L) (hOk:Ok (d::(L++F)) W):
  CallsD P f args.toArray .returning W fun e u' w'=>(∃r,e=.returned r)∧u'=.returning∧∃d' L',Ok (d'::(L'++F)) w'∧Le d d'∧AL W w'∧K d' L':=by
 simp only[Jk] at hd
 split at hd<;>try cases hd
 rename_i fn hf
 split at hd<;>try cases hd
 rename_i hn
 split at hd<;>try cases hd
 rename_i c hb
 rw[Agn] at hd
 obtain⟨rs,hrs,rfl⟩:=hd
 simp only at hr
 subst hr
 have hz:fn.results.size=0:=by
  have:fn.results.toList.length=0:=by
   cases e:fn.results.toList with
   |nil=>rfl
   |cons r l=>
    rw[e,List.mapM_cons] at hrs
    simp only[Option.bind_eq_bind,Option.bind_eq_some_iff,Option.pure_def] at hrs
    obtain⟨_,_,_,_,hh⟩:=hrs
    cases hh
  simpa using this
 simp only[Agl,not_or,Ahx,Aiv] at hn
 refine callsD_of_wpS hf hb fun c₀ cs hu=>?_
 rw[OX ha]
 refine wpS_of_wp (wp_mono (FU (ds:=[]) (F:=F) (W0:=W) (d0:=d) (by simpa using hn.2) c _ _ d L W h hOk (Le.refl d) (AL.refl W)) ?_)
 have hres:∀(tm:Array Value) (w:World),(results fn tm).run P w=.ok (.tuple #[]) w:=by
  intro tm w;have:fn.results= #[]:=Array.eq_empty_of_size_eq_zero hz;rw[IG,Array.mapM_eq_mapM_toList,this];simp
 intro e a w hq
 cases e with
 |normal=>
  obtain⟨ρ,d',L',rfl,k1,k2,k3,k4⟩:=hq
  exact⟨Z,.returning,by cases c₀;simp_all,_,hres _ _,⟨_,Z⟩,Z,d',L',k1,k2,k3,k4⟩
 |ret=>
  obtain⟨ρ,d',L',rfl,k1,k2,k3,k4⟩:=hq
  exact⟨Z,.returning,by cases c₀;simp_all,_,hres _ _,⟨_,Z⟩,Z,d',L',k1,k2,k3,k4⟩
 |panic c=>obtain⟨_,_,_,_,_,_,hh⟩:=hq;exact hh.elim
 |exit i=>obtain⟨_,_,_,_,_,_,_,hh⟩:=hq;exact hh.elim
 |goto l=>exact hq.elim
 |outgrown=>exact hq.elim
def AeC(P:Program)(res:List Hc)(v:A9)(R:Ending→Aa→List Aa→Prop)(caps:List Value):Co:=
 {n:=fun ρ d L=>gwp P v.code (Nn (C9 res R ρ)) (GP caps) d L,ret:=fun ρ d L=>gwp P v.code (Nn (C9 res R ρ)) (GP caps) d L,ex:=fun _ _ _ _=>False,pan:=fun _ _ _=>False}
def SG(P:Program)(g:Lu)(v:A9)(R:Ending→Aa→List Aa→Prop):Co:=
 {n:=fun ρ d L=>gwp P g.c (AeC P g.res v R (g.caps.map ρ)) (upd ρ g.fd (EB g.g (g.caps.map ρ))) d L,
  ret:=fun _ _ _=>False,ex:=fun _ _ _ _=>False,pan:=fun _ _ _=>False}
def X5{pr':Bool}{f}{g:Lu}{v:A9}(hd:AaH pr P f=some g)(hv:Jk pr' P g.g=some v)(hvr:v.res=[]){args}(ha:args.length≤g.n)(hcl:g.caps.length≤v.n){L R}
  (h:gwp P g.a (SG P g v R) (GP args) d L):Ao P f args d L R:=by
 simp only[AaH] at hd
 split at hd<;>try cases hd
 rename_i fn hf
 split at hd<;>try cases hd
 rename_i hn
 split at hd<;>try cases hd
 rename_i A id ops C hb
 split at hd<;>try cases hd
 rename_i fd gg cs rs hdf hrs
 split at hd<;>cases hd
 rename_i hall
 simp only[Agl,not_or,Ahx,Aiv] at hn
 have hm:P.follows .mixedOrders=true:=by simpa using hn.2
 obtain⟨o1,o2,caps,ats,rfl,h1,h2,h3,h4,h5,h6,h7,h8⟩:=Qi hdf
 simp only at h1 h2 h5 h7 h8 hv hcl ha h
 have hvc:Lm P gg:=by
  have hv':=hv;simp only[Jk] at hv';split at hv'<;>try cases hv'
  rename_i fn' hf';split at hv'<;>try cases hv'
  rename_i hn';split at hv'<;>try cases hv'
  rename_i hb';simp only[Agl,not_or,Ahx,Aiv] at hn';exact⟨fn',hf',by rw[hb'];rfl,hn'.1⟩
 refine⟨⟨fn,hf,by rw[hb];rfl,hn.1⟩,fun F W hOk=>?_⟩
 refine calls_of_wp_defers hf hb ?_
 rw[OX ha]
 refine wp_seq (wp_mono (FU (ds:=[]) (F:=F) (W0:=W) (d0:=d) hm A _ _ d L W h hOk (Le.refl d) (AL.refl W)) ?_)
 intro e a w hq
 cases e with
 |panic c=>obtain⟨_,_,_,_,_,_,hh⟩:=hq;exact hh.elim
 |exit i=>obtain⟨_,_,_,_,_,_,_,hh⟩:=hq;exact hh.elim
 |ret=>obtain⟨_,_,_,_,_,_,_,hh⟩:=hq;exact hh.elim
 |goto l=>exact hq.elim
 |outgrown=>exact hq.elim
 |normal=>
 obtain⟨ρ,d1,L1,rfl,k1,k2,k3,k4⟩:=hq
 simp only[SG] at k4
 refine wp_seq (wp_region ?_)
 have l:Agf (#[o1,o2]:Array Oper).size=[0,1]:=Z
 rw[l]
 have g0:(#[o1,o2]:Array Oper)[0]?=some o1:=Z
 have g1:(#[o1,o2]:Array Oper)[1]?=some o2:=Z
 have e1:∀ys,Region.wanted o1 ys=true:=fun ys=>by simp[Region.wanted,h3]
 have e2:∀ys,Region.wanted o2 ys=true:=fun ys=>by simp[Region.wanted,h6]
 have hcv:caps.map (act fn.ntmps ρ []).eval=(cs.map ρ).toArray:=by
  have:=J7 (ρ:=ρ) (ds:=[]) h8;exact Array.ext' (by rw[Array.toList_map,this])
 have x1:∀w,(execOp (act fn.ntmps ρ []).eval o1).run P w=.ok (.value (EB gg (cs.map ρ))) w:=by
  intro w;simp[execOp,h2,Instr.makeFunc,hcv,EB]
 have hfd:(act fn.ntmps (upd ρ fd (EB gg (cs.map ρ))) []).eval (.tmp fd)=EB gg (cs.map ρ):=by
  rw[Bn (x:=.tmp fd) (by simpa [Et] using h7)];simp[ev,upd]
 have x2:∀w,(execOp (act fn.ntmps (upd ρ fd (EB gg (cs.map ρ))) []).eval o2).run P w=.ok (.defer {target:=.fn (.func gg) (cs.map ρ).toArray,args:= #[]}) w:=by
  intro w;generalize (act fn.ntmps (upd ρ fd (EB gg (cs.map ρ))) []).eval=e at hfd;simp[execOp,h5,resolve,hfd,EB,Deferred.ofValue]
 have p1:(act fn.ntmps ρ []).put o1.dst (EB gg (cs.map ρ))=act fn.ntmps (upd ρ fd (EB gg (cs.map ρ))) []:=by
  rw[h1,FH (d:=some fd) (fun _ e=>by cases e;exact h7)];rfl
 simp only[wpOps_cons,wpOp,g0,e1,if_true]
 refine .inl ?_
 simp only[Oper.wp,x1,Oper.upon,p1,wpOps_cons,wpOp,g1,e2,if_true]
 refine .inl ?_
 simp only[x2,h4]
 show Code.wp P C _ (act fn.ntmps (upd ρ fd (EB gg (cs.map ρ))) [{target:=.fn (.func gg) (cs.map ρ).toArray,args:= #[]}]) w
 have hlen:(cs.map ρ).length≤v.n:=by simpa using hcl
 have hinv:∀w,(invoke (.fn (.func gg) (cs.map ρ).toArray) #[]).run P w=.ok (.enter gg (cs.map ρ).toArray) w:=by
  intro w;simp[invoke,FL hvc]
 generalize hD:(⟨.fn (.func gg) (cs.map ρ).toArray, #[]⟩:Deferred)=D
 refine wp_mono (FU (ds:=[D]) (F:=F) (W0:=W) (d0:=d) hm C _ _ d1 L1 w k4 k1 k2 k3) ?_
 subst hD
 have fin:∀a w,(∃ρ' d' L',a=act fn.ntmps ρ' [⟨.fn (.func gg) (cs.map ρ).toArray, #[]⟩]∧Ok (d'::(L'++F)) w∧Le d d'∧AL W w∧gwp P v.code (Nn (C9 rs R ρ')) (GP (cs.map ρ)) d' L')→
   Leaves P fn a.tmps (fun e W'=>∃d' L',Ok (d'::(L'++F)) W'∧Le d d'∧AL W W'∧R e d' L') a.defers .returning w:=by
  rintro a w ⟨ρ',d',L',rfl,j1,j2,j3,j4⟩
  refine leaves_cons (by simp) (hinv w) ((LQ hv hvr hlen j4 j1).mono ?_)
  rintro e u' w' ⟨⟨r,rfl⟩,rfl,d2,L2,q1,q2,q3,vs,q4,d3,L3,q5,q6⟩
  exact⟨Lh vs,Uv hrs q1 q4,d3,L3,q5.2 F w' q1,(j2.trans q2).trans q5.1,j3.trans q3,q6⟩
 intro e a w hq
 cases e with
 |normal=>exact fin a w hq
 |ret=>exact fin a w hq
 |panic c=>obtain⟨_,_,_,_,_,_,hh⟩:=hq;exact hh.elim
 |exit i=>obtain⟨_,_,_,_,_,_,_,hh⟩:=hq;exact hh.elim
 |goto l=>exact hq.elim
 |outgrown=>exact hq.elim
end
end
end Go.Gk
end
section
namespace Go.Gk.Chn
open Go Go.Gk Go.Gk.Dev Go.Gk.Cch Go.Gk.Pgr Go.Gk.Node
attribute [local irreducible] gwp gws xwp
def Cj(s:PD)(l:List Int):Nat→PD×List Int×Int
 |0=>(s,l,0)
 |n+1=>if s.AX.2.2=0 then Cj s.AX.1 (l++[s.AX.2.1]) n else(s.AX.1,l,s.AX.2.2)
def D7(s:PD)(l:List Int):PD:=l.foldl (fun s k=>(s.drop k).1) s
def BF(s:PD)(n:Nat):PD×List Int×Int:=if (Cj s [] n).2.2=0 then Cj s [] n else(D7 (Cj s [] n).1 (Cj s [] n).2.1,[],(Cj s [] n).2.2)
def RH{s}(hG:Pgr.Good s):0≤s.AX.2.1∧s.AX.2.1≤16384:=by
 unfold PD.AX;cases h:DJ 0 s.kinds with
 |none=>show 0≤(0:Int)∧(0:Int)≤16384;decide
 |some i=>
  obtain⟨h1, -⟩:=GW h
  have:=hG.inn
  have:=hG.syn
  show 0≤((s.frm+i:Nat):Int)∧((s.frm+i:Nat):Int)≤16384
  omega
def NO(P:Program)(f:FuncId):Prop:=∀{d s dv pv L}{n:Nat},Pg d s dv pv L→n≤8192→
 Ao P f [pv,vZ n] d L (Ret fun r d' L'=>Le d d'∧∃v,r=.tuple #[v,vZ (BF s n).2.2]∧D9 d' v (BF s n).2.1∧Pg d' (BF s n).1 dv pv L')
def AaE(d a b c h:Aa)(L:List Aa):Vs d (a::b::c::h::L) (join d h) L:=(Vs.drop (.cons _ (.cons _ (.cons _ (Afa _))))).trans Vs.freeze
def WB{s}{l:List Int}{k:Int}:D7 s (l++[k])=((D7 s l).drop k).1:=by simp[D7]
def Sm(a0 a1:Nat):Lu:=⟨27,[(.cell 4 none),(.cell 5 none)],(rG (o1 2 (.box 0)<|o1 4 (.alo nV)<|o1 5 (.alo (vZ 0)) .done)),8,a0,[5,4,2],(.seq (sR (om 9 1<|o1 10 (.mv z0) .done) (.block 0 (.loop (sR (ob 11 .lss 10 9 .done) (.seq (.cond 11 .skip (.exit 0)) (.seq (.block 1 (sR (ol 13 2<|oc 14 a1 [13]<|om 12 14<|oe 15 12 0<|oe 16 12 1<|om 6 15<|om 7 16 .done) (.seq (sR (om 17 7<|ob 18 .neq 17 z0 .done) (.cond 18 (sR (ol 19 4<|om 20 7<|o0 (.st 1 4 19)<|o0 (.st 1 5 20) .done) .ret) .skip)) (rG (ol 21 4<|om 22 6<|o1 23 (.bsl 1 1 [(vZ 0)] [(0,22)])<|o1 24 (.app 1 8 [(vZ 0)] 21 23)<|o0 (.st 1 4 24) .done))))) (rG (ob 25 .add 10 z1<|om 10 25 .done)))))))) (sR (ol 26 4<|o0 (.st 1 4 26)<|o0 (.st 1 5 z0) .done) .ret))⟩
def JH(a0:Nat):A9:=⟨17,[],(sR (ol 5 0<|ob 6 .neq 5 z0 .done) (.cond 6 (.seq (sR (ol 7 1<|oL 8 7<|o1 9 (.mv z0) .done) (.block 0 (.loop (sR (ob 10 .lss 9 8 .done) (.seq (.cond 10 .skip (.exit 0)) (.seq (.block 1 (sR (oI 11 1 7 9<|ol 12 11<|om 4 12 .done) (rG (ol 13 2<|om 14 4<|oc 15 a0 [13,14] .done)))) (rG (ob 16 .add 9 z1<|om 9 16 .done)))))))) (rG (o0 (.st 1 1 nS) .done))) .skip))⟩
def S0(P:Program)(f:FuncId):Prop:=∃f3,dec P f=some (JH f3)∧HF P f3
def Acv{P f f3}(hd:dec P f=some (JH f3))(h:HF P f3):S0 P f:=⟨f3,hd,h⟩
set_option maxRecDepth 4000 in
set_option maxHeartbeats 1000000 in
def Aaa{P f f1 f2}(hd:AaH false P f=some (Sm f1 f2))(h0:S0 P f1)(h1:Gx P f2):NO P f:=by
 obtain⟨f3,hv,h2⟩:=h0;intro d s dv pv L n hp hn;obtain⟨bp,rfl⟩:=hp.ptr;refine X5 hd hv Z (Aff Z) (Aff Z) ?_;show gwp P _ _ _ _ _;(apply Av);refine Fv Z (fun b2 T2=>?_);refine DD (fun b4 T4=>?_);refine DD (fun b5 T5=>?_);refine GJ ⟨d,bx b5 T5 [vZ 0]::bx b4 T4 [nV]::bx b2 T2 [pZ bp]::emp::L,(Vs.emp (L:=_)).trans (Vs.perm ((Afx _ _ _).trans (Afm _ ((Afx _ _ _).trans (Afm _ (Afx _ _ _)))))),?_⟩;show gwp P _ _ _ _ _;refine AZ<|Ab Z<|AU Z<|Aq<|Cs (α:=Nat×PD×List Int×Option Addr×Nat) (fun x=>[(2,pZ b2),(4,pZ b4),(5,pZ b5),(9,vZ n),(10,vZ x.1)])
  (fun x d' L'=>Le d d'∧x.1≤n∧Cj s [] n=Cj x.2.1 x.2.2.1 (n - x.1)∧x.2.2.1.length=x.1∧∃hv L3,L'=bx b5 T5 [vZ 0]::bx b4 T4 [.slice x.2.2.2.1 x.2.2.1.length x.2.2.2.2]::bx b2 T2 [pZ bp]::hv::L3∧
   Ai 1 Bh d' (.slice x.2.2.2.1 x.2.2.1.length x.2.2.2.2) x.2.2.1 hv∧Pg d' x.2.1 dv (pZ bp) L3)
  (fun x=>n - x.1) (0,s,[],none,0) ⟨Z,Z,Z,Z,Z,trivial⟩ ⟨Le.refl _,Agd _,Z,Z,emp,L,Z,Ai.nil,hp⟩ ?_
 rintro⟨i,s1,l,va,vc⟩ ρ d' L' ⟨hle,hi,hT,hll,hv,L3,rfl,hrow,hp1⟩;simp only at hi hT hll hrow hp1⊢;by_cases e:i<n
 ·have hni:n - i=(n - (i+1))+1:=by omega
  rw[hni,Cj] at hT;refine Ak<|Au Z Z<|By<|B2 Z<|AH<|Aw<|Aq<|Ak<|Ah Z (AG 2 Z Z)<|DO (h1 hp1) (Afi (l₁:=[_,_,_,_])) Z (fun u d2 L2 hl2 ⟨q1,hp2⟩=>?_);subst q1;refine⟨d2,_::_::_::_::L2,Vs.perm (Afi (l₂:=[_,_,_,_])),?_⟩
  have hrow2:Ai 1 Bh d2 (.slice va l.length vc) l hv:=Ai.mono (R:=Bh) Ck hrow hl2;by_cases hz:s1.AX.2.2=0
  ·rw[if_pos hz] at hT;(refine AO Z<|AW Z Z Z Z<|Ab Z<|AR Z<|Ab Z<|AJ Z Z<|AT Z<|Av<|Ah Z (AG 1 Z Z)<|Ab Z ?_);have hrg:=RH hp1.Fc;refine DN (v0:=vZ s1.AX.2.1) Z Z (fun b3 T3=>?_);refine D4 (R:=Bh) 3 Z Z hrow2 Z (Ai.EL (x:=s1.AX.2.1) Z ⟨Z,by omega,by omega⟩) D1 (by omega) (by simp;omega) (by simp;omega) (fun v' h' ho'=>?_);obtain⟨va',vc',rfl⟩:=ho'.val;refine Bb 1 [.slice va' (l++[s1.AX.2.1]).length vc'] Z Z Z Z (Afe _) Z Z<|An<|Av<|A4 Z Z<|AU Z ?_;exact⟨(i+1,s1.AX.1,l++[s1.AX.2.1],va',vc'),by simp only;omega,⟨Z,Z,Z,Z,Z,trivial⟩,hle.trans hl2,e,hT,by simp only[Afk,Afq,List.length_nil];omega,h',L2,Z,ho',hp2⟩
  ·rw[if_neg hz] at hT;refine AO Z<|AW Z Z Z Z<|Ab Z<|AR Z<|Ab Z<|AJ Z Z<|A5 Z<|Ak<|Ah Z (AG 1 Z Z)<|Ab Z<|Bb 1 [.slice va l.length vc] Z Z Z Z (Afe _) Z Z<|Bb 0 [vZ s1.AX.2.2] Z Z Z Z (Afe _) Z Z ?_;have hF:BF s n=(D7 s1.AX.1 l,[],s1.AX.2.2):=by unfold BF;rw[hT,if_neg hz]
   rw[hF];have hbl:(s1.AX.1).kinds.length≤8192:=hp2.Fc.len;(refine BJ<|Ak<|c_l Z Z Z<|AJ Z Z<|A5 Z<|AZ<|Ah Z (AG 1 Z Z)<|AA Z<|AU Z<|Aq ?_);show gwp P _ _ _ _ _;skip;refine Cs (α:=Nat) (fun i=>[(1,pZ b4),(2,pZ b2),(7,.slice va l.length vc),(8,vZ l.length),(9,vZ i)])
    (fun i d' L'=>Le d2 d'∧i≤l.length∧∃L4,L'=bx b5 T5 [vZ s1.AX.2.2]::bx b4 T4 [.slice va l.length vc]::bx b2 T2 [pZ bp]::hv::L4∧Pg d' (D7 s1.AX.1 (l.take i)) dv (pZ bp) L4)
    (fun i=>l.length - i) 0 ⟨Z,Z,Z,Z,Z,trivial⟩ ⟨Le.refl _,Agd _,L2,Z,hp2⟩ ?_
   rintro j ρ d' L' ⟨hle',hj,L4,rfl,hp4⟩;by_cases ej:j<l.length
   ·have hn':D7 s1.AX.1 (l.take (j+1))=((D7 s1.AX.1 (l.take j)).drop l[j]).1:=by rw[Afw ej,WB]
    obtain⟨b1,T1,l1,c1,cs,q1,rfl,hcl,hcs,hle1,⟨rfl,hb1,hb2⟩, -⟩:=Ai.at (by omega) hrow ej;cases q1;have c0:=hcs 0 _ Z;refine Ak<|Au Z Z<|By<|B2 Z<|AH<|Aw<|Aq<|Ak<|BT _ Z Z Z (by omega)<|Ah Z (AG 3 Z (by assumption))<|AU Z<|Av<|Ah Z (AG 2 Z Z)<|Ab Z<|DO (h2 (k:=l[j]) hp4) (Afi (l₁:=[_,_,_,_])) Z (fun u d5 L5 hl5 ⟨q1,hp5⟩=>?_);subst q1;refine⟨d5,_::_::_::_::L5,Vs.perm (Afi (l₂:=[_,_,_,_])),?_⟩
    (refine An<|Av<|A4 Z Z<|AU Z ?_);exact⟨j+1,by omega,⟨Z,Z,Z,Z,Z,trivial⟩,hle'.trans hl5,ej,L5,Z,by rw[hn'];exact hp5⟩
   ·have:j=l.length:=by omega
    subst this;rw[Agz] at hp4;refine Ak<|Au Z Z<|By<|BM Z<|Bl<|Av<|Bb 1 [nV] Z Z Z Z (Afe _) Z Z ?_;(apply An);exact A6 [nV,vZ s1.AX.2.2] ⟨⟨_,_,Z,AG 1 Z Z⟩,⟨_,_,Z,AG 0 Z Z⟩,trivial⟩ (d':=d') (L':=L4) (Vs.drop (.cons _ (.cons _ (.cons _ (.cons _ (Afa _)))))) ⟨(hle.trans hl2).trans hle',_,Z,RSl.nil,hp4⟩
 ·have:i=n:=by omega
  subst this;rw[Aiz,Cj] at hT;have hF:BF s i=(s1,l,0):=by unfold BF;rw[hT,if_pos Z]
  rw[hF];refine Ak<|Au Z Z<|By<|BM Z<|Bl<|Ak<|Ah Z (AG 1 Z Z)<|Bb 1 [.slice va l.length vc] Z Z Z Z (Afe _) Z Z<|Bb 0 [vZ 0] Z Z Z Z (Afe _) Z Z<|BJ<|Ak<|c_l Z Z Z<|AJ Z Z<|AT Z<|A6 [.slice va l.length vc,vZ 0] ⟨⟨_,_,Z,AG 1 Z Z⟩,⟨_,_,Z,AG 0 Z Z⟩,trivial⟩ (d':=join d' hv) (L':=L3) (AaE _ _ _ _ _ _) ⟨hle.trans (Le.Ar _ _),_,Z,Ai.rsl (R:=Bh) (sz:=1) hrow Ck (by omega) (Le.Ar _ _) (Le.Bc _ _),hp1.mono (Le.Ar _ _)⟩
end Go.Gk.Chn
end
section
namespace Go.Gk.Chn
open Go Go.Gk Go.Gk.Dev Go.Gk.Cch Go.Gk.Pgr Go.Gk.Node
variable{f:FuncId}
section
section
variable {P:Program}{pan:List PanicEntry→AP}{Qn:Env→AP}{Ls L:List Aa}{ρ:Env}{d:Aa}{s:GS}{t:Nat}{tk:Bool}
def Zh{x y}{b o n c i:Nat}{T ls w l}{t:Option Nat}(ex:ev ρ x=.slice (some ⟨b,o,none⟩) n c)(ey:ev ρ y=w)(hw:Ay d w l)(hi:L[i]?=some (bx b T ls))(hn:o+n≤ls.length)
  (h:gws P pan Qn s Ls (put ρ t (vZ ((min l.length n:Nat):Int))) d (L.set i (bx b T (patch ls o ((l.take n).map Al))))):gws P pan Qn (.op false ⟨t,none,.mop (.cpy 1 x y)⟩ s) Ls ρ d L:=by
 obtain⟨a,c',b',o',rfl,h2,h3,h4,h5,h6,h7,h8⟩:=hw
 refine⟨d,L,Vs.refl d L,?_⟩
 simp only[gop,gi,mi]
 refine⟨_,n,c,a,l.length,c',(l.take n).map Al,ex,ey,by simp[Nat.min_comm],CZ _,fun e=>?_,fun a' ha j u hu=>?_,.inr ⟨i,b,o,T,ls,Z,hi,by simp;omega,d,_,Vs.refl d _,h⟩⟩
 ·have:l=[]:=List.eq_nil_of_length_eq_zero (by have:=h4 e;omega)
  subst this;simp
 ·rw[List.getElem?_map,List.getElem?_take] at hu
  split at hu
  ·cases q:l[j]? with
   |none=>rw[q] at hu;cases hu
   |some y=>
    rw[q] at hu
    cases hu
    obtain⟨hj,rfl⟩:=List.getElem?_eq_some_iff.1 q
    obtain⟨cs,j1,j2,j3⟩:=h8 j hj
    obtain rfl:=j3
    have ha2:=h2 (by omega)
    rw[ha] at ha2
    cases ha2
    have h9:=j2.at (i:=0) Z
    have h0:HC d (Ls++L++L) ⟨b',o'+j,none⟩ (Al l[j]):=BR (by simpa using h9)
    have ea:(⟨b',o',none⟩:Addr).add j=⟨b',o'+j,none⟩:=by
     unfold Addr.add;simp
    rw[ea];exact h0
  ·cases hu
def JP{x y}{b len:Nat}{kk}(k:Nat)(ex:ev ρ x=pZ b)(ey:ev ρ y=.int kk (k:Nat))(hk:k<len)(h:gws P pan Qn s Ls (upd ρ t (.slice (some ⟨b,k,none⟩) (len - k) (len - k))) d L):
  gws P pan Qn (.op tk ⟨some t,none,.sla len 1 x (some y) none none⟩ s) Ls ρ d L:=by
 refine w_q Z ⟨b,0,k,len,len,ex,?_,Z⟩ ?_
 ·simp only[EA,HH,HB,HM,Option.bind_some,Aij,Option.map_none,ey,bnd]
  have:k≤len:=by omega
  simp[this]
 ·rw[if_neg (by omega)];simpa using h
def K3{x}{b len:Nat}(ex:ev ρ x=pZ b)(hk:0<len)(h:gws P pan Qn s Ls (upd ρ t (.slice (some ⟨b,0,none⟩) len len)) d L):
  gws P pan Qn (.op tk ⟨some t,none,.sla len 1 x none none none⟩ s) Ls ρ d L:=by
 refine w_q Z ⟨b,0,0,len,len,ex,?_,Z⟩ ?_
 ·simp[EA,HH,HB,HM]
 ·rw[if_neg (by omega)];simpa using h
end
attribute [local irreducible] gwp gws xwp
def AN(n:Nat):Nat:=max 1 ((n+253) / 254)
def F9(P:Program)(f:FuncId):Prop:=∀{d}{n:Nat},n≤1000000→Dj P f [vZ n] d (vZ (AN n))
def Sq:A9:=⟨10,[(.tmp 2)],(sR (o1 2 (.mv z0) .done) (.seq (sR (om 3 0<|ob 4 .lss 3 z0 .done) (.cond 4 (sR (o1 2 (.mv z0) .done) .ret) .skip)) (sR (om 5 0<|ob 6 .sub 5 z1<|ob 7 .quo 6 (kZ 254)<|ob 8 .add 7 z1<|o1 9 (.mx2 z1 8)<|om 2 9 .done) .ret)))⟩
def Z5{n:Nat}:max (1:Int) (((n:Int) - 1).tdiv 254+1)=(AN n:Nat):=by
 unfold AN;by_cases h:n=0
 ·subst h;rfl
 ·have h1:((n:Int) - 1).tdiv 254=((n:Int) - 1) / 254:=Int.tdiv_eq_ediv_of_nonneg (by omega);rw[h1];omega
def Aa0{P}(hd:dec P f=some Sq):F9 P f:=by
 intro d n hn;refine Bj hd ?_;have hb: -1≤((n:Int) - 1).tdiv 254∧((n:Int) - 1).tdiv 254≤1000000:=by
  by_cases h:n=0
  ·subst h;decide
  ·rw[Int.tdiv_eq_ediv_of_nonneg (by omega)];omega
 refine AE Z<|BG<|Ab Z<|Au Z Z<|AT Z<|AE Z<|DT Z Z<|Ac9 Z Z (by omega) (by omega) (by omega)<|A4 Z Z<|AbE Z Z<|AS Z<|IF Z ?_;rw[Z5]
def Dw(next:Int)(c:List UInt8):Sec:=UInt8.ofNat (next / 256 % 256).toNat::UInt8.ofNat (next % 256).toNat::(c++Afu (254 - c.length) 0)
def Ir(x y:UInt8){c}(_:c.length≤254):patch (patch (patch Ct 0 [Al x]) 1 [Al y]) 2 (c.map Al)=(x::y::(c++Afu (254 - c.length) 0)).map Al:=by
 have hz:Ct=Al 0::Al 0::Afu 254 (Al 0):=Z;have e1:patch (Al 0::Al 0::Afu 254 (Al 0)) 0 [Al x]=Al x::Al 0::Afu 254 (Al 0):=Z;have e2:patch (Al x::Al 0::Afu 254 (Al 0)) 1 [Al y]=Al x::Al y::Afu 254 (Al 0):=Z;rw[hz,e1,e2];unfold patch;rw[Agu,Nat.add_comm 2];show Al x::Al y::(c.map Al++(Afu 254 (Al 0)).drop c.length)=_;rw[List.drop_replicate,Ahv,Ahv,List.map_append,List.map_replicate]
def BV(b:List UInt8)(i:Nat):List UInt8:=(b.drop (i*254)).take 254
def Dh(s:PD)(l:List Int)(b:List UInt8):Nat→PD
 |0=>s
 |i+1=>((Dh s l b i).put (l.getD i 0) (Dw (l.getD (i+1) 65535) (BV b i))).1
def B0(s:PD)(b:List UInt8):PD×Int×Int:=
 let t:=BF s (AN b.length)
 if t.2.2=0 then(Dh t.1 t.2.1 b t.2.1.length,t.2.1.getD 0 0,0) else(t.1,0,t.2.2)
def My:∀{n:Nat}{s}{l:List Int},(Cj s l n).2.2=0→(Cj s l n).2.1.length=l.length+n
 |0,s,l,_=>rfl
 |n+1,s,l,h=>by
  rw[Cj] at h⊢;split at h
  ·rename_i e;rw[if_pos e,My h];simp;omega
  ·rename_i e;exact absurd h e
def RW{s}{n:Nat}(h:(BF s n).2.2=0):(BF s n).2.1.length=n:=by
 unfold BF at h⊢;split
 ·rename_i e;have:=My (s:=s) e;simpa using this
 ·rename_i e;rw[if_neg e] at h;exact absurd h e
def Mi{n i:Nat}(h:i<AN n):i*254≤n:=by unfold AN at h;omega
def Ql(P:Program)(f:FuncId):Prop:=∀{d s dv pv bv L b},Pg d s dv pv L→Ay d bv b→b.length≤16384→
 Ao P f [pv,bv] d L (Ret fun r d' L'=>Le d d'∧r=.tuple #[vZ (B0 s b).2.1,vZ (B0 s b).2.2]∧Pg d' (B0 s b).1 dv pv L')
def Om(a0 a1 a2:Nat):A9:=⟨64,[(.tmp 4),(.tmp 5)],(sR (o1 4 (.mv z0)<|o1 5 (.mv z0) .done) (.seq (sR (om 12 1<|oL 13 12<|ob 14 .gtr 13 (kZ 16384) .done) (.cond 14 (sR (o1 4 (.mv z0)<|o1 5 (.mv (kZ 3)) .done) .ret) .skip)) (sR (om 16 0<|om 17 1<|oL 18 17<|oc 19 a0 [18]<|oc 20 a1 [16,19]<|om 15 20<|oe 21 15 0<|oe 22 15 1<|om 6 21<|om 7 22 .done) (.seq (sR (om 23 7<|ob 24 .neq 23 z0 .done) (.cond 24 (sR (om 25 7<|o1 4 (.mv z0)<|om 5 25 .done) .ret) .skip)) (.seq (sR (om 26 6<|oL 27 26<|o1 28 (.mv z0) .done) (.block 0 (.loop (sR (ob 29 .lss 28 27 .done) (.seq (.cond 29 .skip (.exit 0)) (.seq (.block 1 (sR (om 30 28<|oI 31 1 26 28<|ol 32 31<|om 8 30<|om 9 32 .done) (sR (o1 10 (.mv (kZ 65535)) .done) (.seq (sR (om 33 8<|ob 34 .add 33 z1<|om 35 6<|oL 36 35<|ob 37 .lss 34 36 .done) (.cond 37 (rG (om 38 6<|om 39 8<|ob 40 .add 39 z1<|oI 41 1 38 40<|ol 42 41<|om 10 42 .done)) .skip)) (sR (o1 11 (.alo (.agg Ct.toArray)) .done) (sR (om 43 10<|ob 44 .shr 43 (.const (.int .u64 8))<|o1 45 (.cvi .u8 44)<|om 46 10<|o1 47 (.cvi .u8 46)<|o1 48 (.idxa 256 1 11 z0)<|o0 (.st 1 48 45)<|o1 49 (.idxa 256 1 11 z1)<|o0 (.st 1 49 47) .done) (.seq (.reg true (p1 50 (.sla 256 1 11 (some z2) none none)<|pm 51 1<|pm 52 8<|p1 53 (.bin .mul 52 (kZ 254))<|p1 54 (.sl 1 51 (some 53) none none)<|o1 55 (.mop (.cpy 1 50 54)) .done)) (rG (om 56 0<|om 57 9<|o1 58 (.sla 256 1 11 none none none)<|oc 59 a2 [56,57,58] .done))))))))) (rG (ob 60 .add 28 z1<|om 28 60 .done)))))))) (sR (om 61 6<|o1 62 (.idx 1 61 z0)<|ol 63 62<|om 4 63<|o1 5 (.mv z0) .done) .ret))))))⟩
set_option maxRecDepth 4000 in
set_option maxHeartbeats 1000000 in
def AcA{P f1 f2 f3}(hd:dec P f=some (Om f1 f2 f3))(h1:F9 P f1)(h2:NO P f2)(h3:Lo P f3):Ql P f:=by
 intro d s dv pv bv L b hp hb hbl;obtain⟨bp,rfl⟩:=hp.ptr;have hpn:1≤AN b.length∧AN b.length≤8192:=by unfold AN;omega
 refine Bj hd<|AE Z<|AR Z<|AK<|BX Z (by assumption)<|Bu Z Z<|AT Z<|A3 Z<|AK<|BX Z (by assumption)<|Bz Z (h1 (n:=b.length) (by omega)) (fun u d1 L1 _ ⟨e1,e2,e3⟩=>?_);subst e1;subst e2;subst e3;rw[Agh];refine CX (h2 hp hpn.2) Z (fun u d2 L2 hl2 ⟨_,v,e1,hv,hp2⟩=>?_);subst e1;by_cases hz:(BF s (AN b.length)).2.2=0
 ·have hF:B0 s b=(Dh (BF s (AN b.length)).1 (BF s (AN b.length)).2.1 b (BF s (AN b.length)).2.1.length,(BF s (AN b.length)).2.1.getD 0 0,0):=by unfold B0;simp only[hz,if_true]
  rw[hF,hz];have hlen:=RW hz;generalize (BF s (AN b.length)).2.1=l at hv hlen;generalize (BF s (AN b.length)).1=t at hp2;have hll:=hv.BW;refine AO Z<|AW Z Z Z Z<|AK<|AR Z<|Ab Z<|AJ Z Z<|AT Z<|AZ<|AK<|BX Z (by assumption)<|AU Z<|Aq<|Cs (α:=Nat) (fun i=>[(0,pZ bp),(1,bv),(6,v),(26,v),(27,vZ l.length),(28,vZ i)])
   (fun i d' L'=>Le d2 d'∧i≤l.length∧Pg d' (Dh t l b i) dv (pZ bp) L') (fun i=>l.length - i) 0 ⟨Z,Z,Z,Z,Z,Z,trivial⟩ ⟨Le.refl _,Agd _,hp2⟩ ?_
  rintro i ρ d' L' ⟨hle,hi,hp'⟩;have hv':=RSl.mono (R:=Bh) Ck hv hle;have hb':=RSl.mono (R:=Ax) AF hb (hl2.trans hle);by_cases e:i<l.length
  ·have him:i*254≤b.length:=Mi (by omega);by_cases en:i+1<l.length
   ·have hput:Dh t l b (i+1)=((Dh t l b i).put l[i] (Dw l[i+1] (BV b i))).1:=by
     rw[Dh,show l.getD i 0=l[i] by rw[Afd,Afc e];rfl,show l.getD (i+1) 65535=l[i+1] by rw[Afd,Afc en];rfl]
    (refine Ak<|Au Z Z<|By<|B2 Z<|AH<|Aw<|Aq<|AE Z<|Bq (sz:=1) (R:=Bh) (by rfl) (by assumption) (by rfl) Z (by omega) ?_;rintro _ _ _ _ _ ⟨rfl,_,_⟩;refine Ah Z (BO (by assumption) Z)<|Ab Z<|A7 Z<|AR Z<|Ab Z<|A4 Z Z<|AK<|BX Z (by assumption)<|Au Z Z<|A5 Z<|Av<|AK<|Ab Z<|A4 Z Z<|Bq (sz:=1) (R:=Bh) (by rfl) (by assumption) (by rfl) Z (by omega) ?_;rintro _ _ _ _ _ ⟨rfl,_,_⟩;refine Ah Z (BO (by assumption) Z)<|A7 Z<|B8 (fun _ _=>Bo<|Ab Z<|GR Z Z (by decide)<|Dt Z<|Ab Z<|Dt Z ?_));rename_i b11 T11;refine H5 0 Z Z Z (by omega)<|Bb 0 (patch Ct 0 [Al (UInt8.ofNat (l[i+1] / 256 % 256).toNat)]) Z Z Z Z (by rw[C6];decide) Z Z ?_;have hl1:(patch Ct 0 [Al (UInt8.ofNat (l[i+1] / 256 % 256).toNat)]).length=256:=by rw[BC (by rw[C6];simp)];exact C6
    refine H5 1 Z Z Z (by omega)<|Bb 0 (patch (patch Ct 0 [Al (UInt8.ofNat (l[i+1] / 256 % 256).toNat)]) 1 [Al (UInt8.ofNat (l[i+1] % 256).toNat)]) Z Z Z Z (by rw[hl1];decide) Z Z ?_;have hl2':(patch (patch Ct 0 [Al (UInt8.ofNat (l[i+1] / 256 % 256).toNat)]) 1 [Al (UInt8.ofNat (l[i+1] % 256).toNat)]).length=256:=by rw[BC (by rw[hl1];simp)];exact hl1
    refine By<|BE [] (bx b11 T11 (patch (patch Ct 0 [Al (UInt8.ofNat (l[i+1] / 256 % 256).toNat)]) 1 [Al (UInt8.ofNat (l[i+1] % 256).toNat)])::L') Z<|JP 2 Z Z (by omega)<|AK<|Ab Z<|JW Z Z (by omega) (by omega)<|Ex (R:=Ax) (sz:=1) (n:=i*254) Z hb' Z (by omega) him (fun w hw=>?_);refine Zh (i:=0) Z Z hw Z (by rw[hl2'];omega) ?_;have hpp:=Ir (UInt8.ofNat (l[i+1] / 256 % 256).toNat) (UInt8.ofNat (l[i+1] % 256).toNat) (c:=BV b i) (by unfold BV;rw[Aft];omega);refine An<|Av<|Ag Z<|Ab Z<|K3 Z (by omega) ?_;have hpl:(Dw l[i+1] (BV b i)).length=256:=by
     have:(BV b i).length≤254:=by unfold BV;rw[Aft];omega
     unfold Dw;simp only[Afq,Afk,Agk];omega
    refine B1 (join d' (bx b11 T11 (patch (patch (patch Ct 0 [Al (UInt8.ofNat (l[i+1] / 256 % 256).toNat)]) 1 [Al (UInt8.ofNat (l[i+1] % 256).toNat)]) 2 ((BV b i).map Al)))) L' Vs.freeze ?_;have hlj:Le d' (join d' (bx b11 T11 (patch (patch (patch Ct 0 [Al (UInt8.ofNat (l[i+1] / 256 % 256).toNat)]) 1 [Al (UInt8.ofNat (l[i+1] % 256).toNat)]) 2 ((BV b i).map Al)))):=Le.Ar _ _;have hB:Ay (join d' (bx b11 T11 (patch (patch (patch Ct 0 [Al (UInt8.ofNat (l[i+1] / 256 % 256).toNat)]) 1 [Al (UInt8.ofNat (l[i+1] % 256).toNat)]) 2 ((BV b i).map Al)))) (.slice (some ⟨b11,0,none⟩) 256 256) (Dw l[i+1] (BV b i)):=
     Ai.rsl (R:=Ax) (sz:=1) (Ai.QE (d:=d') hpp hpl.symm (Ahq (Nat.le_of_eq hpl) (by decide))) AF (by omega) (Le.Ar _ _) (Le.Bc _ _)
    refine CX (h3 (k:=l[i]) (hp'.mono hlj) hB) Z (fun u d5 L5 hl5 ⟨q1,hp5⟩=>?_);(refine An<|Av<|A4 Z Z<|AU Z ?_);exact⟨i+1,by omega,⟨Z,Z,Z,Z,Z,Z,trivial⟩,(hle.trans hlj).trans hl5,e,by rw[hput];exact hp5⟩
   ·have hput:Dh t l b (i+1)=((Dh t l b i).put l[i] (Dw (65535:Int) (BV b i))).1:=by
     rw[Dh,show l.getD i 0=l[i] by rw[Afd,Afc e];rfl,show l.getD (i+1) 65535=(65535:Int) by rw[Afd,Ago (by omega)];rfl]
    (refine Ak<|Au Z Z<|By<|B2 Z<|AH<|Aw<|Aq<|AE Z<|Bq (sz:=1) (R:=Bh) (by rfl) (by assumption) (by rfl) Z (by omega) ?_;rintro _ _ _ _ _ ⟨rfl,_,_⟩;refine Ah Z (BO (by assumption) Z)<|Ab Z<|A7 Z<|AR Z<|Ab Z<|A4 Z Z<|AK<|BX Z (by assumption)<|Au Z Z<|AT Z<|Ak<|B8 (fun _ _=>Bo<|Ab Z<|GR Z Z (by decide)<|Dt Z<|Ab Z<|Dt Z ?_));rename_i b11 T11;refine H5 0 Z Z Z (by omega)<|Bb 0 (patch Ct 0 [Al (UInt8.ofNat ((65535:Int) / 256 % 256).toNat)]) Z Z Z Z (by rw[C6];decide) Z Z ?_;have hl1:(patch Ct 0 [Al (UInt8.ofNat ((65535:Int) / 256 % 256).toNat)]).length=256:=by rw[BC (by rw[C6];simp)];exact C6
    refine H5 1 Z Z Z (by omega)<|Bb 0 (patch (patch Ct 0 [Al (UInt8.ofNat ((65535:Int) / 256 % 256).toNat)]) 1 [Al (UInt8.ofNat ((65535:Int) % 256).toNat)]) Z Z Z Z (by rw[hl1];decide) Z Z ?_;have hl2':(patch (patch Ct 0 [Al (UInt8.ofNat ((65535:Int) / 256 % 256).toNat)]) 1 [Al (UInt8.ofNat ((65535:Int) % 256).toNat)]).length=256:=by rw[BC (by rw[hl1];simp)];exact hl1
    refine By<|BE [] (bx b11 T11 (patch (patch Ct 0 [Al (UInt8.ofNat ((65535:Int) / 256 % 256).toNat)]) 1 [Al (UInt8.ofNat ((65535:Int) % 256).toNat)])::L') Z<|JP 2 Z Z (by omega)<|AK<|Ab Z<|JW Z Z (by omega) (by omega)<|Ex (R:=Ax) (sz:=1) (n:=i*254) Z hb' Z (by omega) him (fun w hw=>?_);refine Zh (i:=0) Z Z hw Z (by rw[hl2'];omega) ?_;have hpp:=Ir (UInt8.ofNat ((65535:Int) / 256 % 256).toNat) (UInt8.ofNat ((65535:Int) % 256).toNat) (c:=BV b i) (by unfold BV;rw[Aft];omega);refine An<|Av<|Ag Z<|Ab Z<|K3 Z (by omega) ?_;have hpl:(Dw (65535:Int) (BV b i)).length=256:=by
     have:(BV b i).length≤254:=by unfold BV;rw[Aft];omega
     unfold Dw;simp only[Afq,Afk,Agk];omega
    refine B1 (join d' (bx b11 T11 (patch (patch (patch Ct 0 [Al (UInt8.ofNat ((65535:Int) / 256 % 256).toNat)]) 1 [Al (UInt8.ofNat ((65535:Int) % 256).toNat)]) 2 ((BV b i).map Al)))) L' Vs.freeze ?_;have hlj:Le d' (join d' (bx b11 T11 (patch (patch (patch Ct 0 [Al (UInt8.ofNat ((65535:Int) / 256 % 256).toNat)]) 1 [Al (UInt8.ofNat ((65535:Int) % 256).toNat)]) 2 ((BV b i).map Al)))):=Le.Ar _ _;have hB:Ay (join d' (bx b11 T11 (patch (patch (patch Ct 0 [Al (UInt8.ofNat ((65535:Int) / 256 % 256).toNat)]) 1 [Al (UInt8.ofNat ((65535:Int) % 256).toNat)]) 2 ((BV b i).map Al)))) (.slice (some ⟨b11,0,none⟩) 256 256) (Dw (65535:Int) (BV b i)):=
     Ai.rsl (R:=Ax) (sz:=1) (Ai.QE (d:=d') hpp hpl.symm (Ahq (Nat.le_of_eq hpl) (by decide))) AF (by omega) (Le.Ar _ _) (Le.Bc _ _)
    refine CX (h3 (k:=l[i]) (hp'.mono hlj) hB) Z (fun u d5 L5 hl5 ⟨q1,hp5⟩=>?_);(refine An<|Av<|A4 Z Z<|AU Z ?_);exact⟨i+1,by omega,⟨Z,Z,Z,Z,Z,Z,trivial⟩,(hle.trans hlj).trans hl5,e,by rw[hput];exact hp5⟩
  ·have:i=l.length:=by omega
   subst this;have h0:0<l.length:=by omega
   have hg0:l.getD 0 0=l[0]:=by rw[Afd,Afc h0];rfl
   rw[hg0];(refine Ak<|Au Z Z<|By<|BM Z<|Bl<|Ak<|AK<|Bq (sz:=1) (R:=Bh) (by rfl) (by assumption) (by rfl) Z (by omega) ?_;rintro _ _ _ _ _ ⟨rfl,_,_⟩;refine Ah Z (BO (by assumption) Z)<|Ab Z<|AS Z ?_);exact CJ Z Z (Afa _) ⟨hl2.trans hle,Z,hp'⟩
 ·have hF:B0 s b=((BF s (AN b.length)).1,0,(BF s (AN b.length)).2.2):=by unfold B0;simp only[hz,if_false]
  rw[hF];refine AO Z<|AW Z Z Z Z<|AK<|AR Z<|Ab Z<|AJ Z Z<|A5 Z<|AE Z<|Ab Z<|AS Z<|CJ Z Z (Afa _) ⟨hl2,Z,hp2⟩
end
section
section
variable {P:Program}{pan:List PanicEntry→AP}{Qn:Env→AP}{Ls L:List Aa}{ρ:Env}{d:Aa}{s:GS}{t:Nat}{tk:Bool}
def or8{a b:Nat}(ha:a<256)(hb:b<256):IntKind.i64.wrap ((BitVec.ofInt 64 ((a*256:Nat):Int)|||BitVec.ofInt 64 (b:Int)).toNat:Int)=((a*256+b:Nat):Int):=by
 have h:(BitVec.ofInt 64 ((a*256:Nat):Int)|||BitVec.ofInt 64 (b:Int)).toNat=a*256+b:=by
  rw[BitVec.toNat_or,BitVec.toNat_ofInt,BitVec.toNat_ofInt];have e1:(((a*256:Nat):Int) % ((2 ^ 64:Nat):Int)).toNat=2 ^ 8*a:=by omega
  have e2:((b:Int) % ((2 ^ 64:Nat):Int)).toNat=b:=by omega
  rw[e1,e2,←Nat.two_pow_add_eq_or_of_lt (by omega)];omega
 rw[h,D3 (by omega) (by omega)]
def Su{x y}{a b:Nat}(ex:ev ρ x=vZ ((a*256:Nat):Int))(ey:ev ρ y=vZ (b:Int))(ha:a<256)(hb:b<256)(h:gws P pan Qn s Ls (upd ρ t (vZ ((a*256+b:Nat):Int))) d L):
  gws P pan Qn (.op tk ⟨some t,none,.bin .or x y⟩ s) Ls ρ d L:=by
 refine w_q Z (show Dz .or (ev ρ x) (ev ρ y)=some (vZ ((a*256+b:Nat):Int)) from ?_) h
 rw[ex,ey]
 exact congrArg (fun z=>some (Value.int .i64 z)) (or8 ha hb)
end
attribute [local irreducible] gwp gws xwp
def Hv(b:Sec):Nat:=(b.getD 0 0).toNat*256+(b.getD 1 0).toNat
def hdF(s:PD)(h:Int):Nat→Int
 |0=>h
 |i+1=>(Hv (s.bytes (hdF s h i)):Nat)
def BB(s:PD)(k:Int):Prop:=s.kind k=1∨s.kind k=2
instance (s:PD) (k:Int):Decidable (BB s k):=inferInstanceAs (Decidable (_∨_))
def OZ{s}{k:Int}(h:BB s k):s.I2 k=0:=by
 unfold PD.I2;by_cases h1:s.kind k=1
 ·rw[if_pos h1]
 ·rw[if_neg h1,if_pos (h.resolve_left h1)]
def Ph{s}{k:Int}(h:¬BB s k):s.I2 k=240∧s.bytes k=[]:=by
 unfold BB at h;have h1:s.kind k≠1:=fun q=>h (.inl q);have h2:s.kind k≠2:=fun q=>h (.inr q);exact⟨by unfold PD.I2;rw[if_neg h1,if_neg h2],WA h1 h2⟩
def _root_.Go.Gk.Pgr.F4.atT{P}(h:F4 P f){d s dv pv L}{k:Int}(hp:Pg d s dv pv L):
  Ao P f [pv,vZ k] d L (Ret fun r d' L'=>∃a c tc,r=.tuple #[.slice a (s.bytes k).length c,vZ (s.I2 k)]∧Ay d' (.slice a (s.bytes k).length c) (s.bytes k)∧Pg d' {s with tc:=tc} dv pv L'∧tc=if BB s k then s.tc+1 else s.tc):=by
 refine Ao.Eb (h (k:=k) hp) (fun r d' L' _ ⟨⟨q,q1,q2⟩,q3⟩=>⟨d',L',Vs.refl _ _,?_⟩)
 subst q1
 unfold PD.bytes PD.I2 BB
 unfold PD.get at q2 q3⊢
 by_cases h1:s.kind k=1
 ·simp only[if_pos h1] at q2 q3⊢
  obtain⟨a,c,rfl⟩:=RSl.val q2
  exact⟨a,c,_,Z,q2,q3,(if_pos (.inl h1)).symm⟩
 ·by_cases h2:s.kind k=2
  ·simp only[if_neg h1,if_pos h2] at q2 q3⊢
   obtain⟨a,c,rfl⟩:=RSl.val q2
   exact⟨a,c,_,Z,q2,q3,(if_pos (.inr h2)).symm⟩
  ·simp only[if_neg h1,if_neg h2] at q2 q3⊢
   obtain rfl:q=nV:=q2
   exact⟨none,0,s.tc,Z,RSl.nil,q3,(if_neg (fun q=>q.elim h1 h2)).symm⟩
def Vk(x:Aa)(A R:List Aa):(A++(x::R)).Perm (R++(x::A)):=List.perm_append_comm.trans List.perm_middle.symm
def Tb(d x:Aa)(A R:List Aa):Vs d (R++(x::A)) d (A++R):=(Vs.perm (List.perm_middle.trans (Afm x Afi))).trans (Vs.drop (Age _ _))
def U2(x:Aa)(A R:List Aa):(R++(x::A)).Perm (x::(A++R)):=List.perm_middle.trans (Afm x Afi)
def Gg(a0 a1:Nat):Hn:=(.mk 39 [] (.seq (.g (rG (ol 7 1<|oc 8 a0 [7]<|o1 9 (.mv z0) .done))) (.block 0 (.loop (.seq (.g (rG (ob 10 .lss 9 8 .done))) (.seq (.g (.cond 10 .skip (.exit 0))) (.seq (.block 1 (.seq (.g (rG (ol 12 2<|ol 13 3<|oc 14 a1 [12,13]<|om 11 14<|oe 15 11 0<|oe 16 11 1<|om 5 15<|om 6 16 .done))) (.seq (.seq (.g (rG (om 17 6<|ob 18 .neq 17 z0 .done))) (.cond 18 (.seq (.yl (om 19 0<|om 20 6<|o1 21 (.un .neg 20) .done) (some 22) 19 [21,nS] .done) (.g .ret)) (.g .skip))) (.seq (.seq (.yl (om 23 0<|ol 24 3<|om 25 5 .done) (some 26) 23 [24,25] (o1 27 (.un .not 26) .done)) (.g (.cond 27 .ret .skip))) (.g (.reg true (pm 28 5<|p1 29 (.idx 1 28 z0)<|pl 30 29<|p1 31 (.cvi .i64 30)<|p1 32 (.bin .shl 31 (.const (.int .u64 8)))<|pm 33 5<|p1 34 (.idx 1 33 z1)<|pl 35 34<|p1 36 (.cvi .i64 35)<|p1 37 (.bin .or 32 36) (.bar (o0 (.st 1 3 37) .done))))))))) (.g (rG (ob 38 .add 9 z1<|om 9 38 .done))))))))))
set_option maxRecDepth 4000 in
set_option maxHeartbeats 1000000 in
def Yn{P f1 f2}(hd:Gf true false P f=some (Gg f1 f2))(h1:F9 P f1)(h2:F4 P f2){s dv pv LP}{bz bq bh l n:Nat}{Th}{h:Int}{rc:Loop}(J:Nat→Aa→List Aa→Prop)(Jf:Loop→Aa→List Aa→Prop){d E}
  (hp:Pg d s dv pv LP) (hz:DC d bz 0 (vZ n)) (hq:DC d bq 0 pv) (hn:n≤16384) (h0:J 0 d E) (hJm:∀{i:Nat}{d d' E},Le d d'→J i d E→J i d' E)
  (hlive:∀i,i<AN n→∀d1 E1 v,Le d d1→J i d1 E1→BB s (hdF s h i)→Ay d1 v (s.bytes (hdF s h i))→Kg P l [vZ (hdF s h i),v] d1 (sg l (.loop rc)::E1)
   (fun u d' L'=>(u=.bool true∧∃E',L'=sg l (.loop rc)::E'∧J (i+1) d' E')∨(u=.bool false∧∃rc' E',L'=sg l (.loop rc')::E'∧Jf rc' d' E')))
  (hdead:∀i,i<AN n→∀d1 E1,Le d d1→J i d1 E1→¬BB s (hdF s h i)→Kg P l [vZ (-240),nV] d1 (sg l (.loop rc)::E1)
   (fun u d' L'=>u=.bool false∧∃rc' E',L'=sg l (.loop rc')::E'∧Jf rc' d' E')):
  Ao P f [.func (.yield l) #[] #[],pZ bz,pZ bq,pZ bh] d (bx bh Th [vZ h]::(LP++(sg l (.loop rc)::E)))
   (Ret fun _ d' L'=>∃LP' E' rc' tc,L'=LP'++(sg l (.loop rc')::E')∧Pg d' {s with tc:=tc} dv pv LP'∧((rc'=rc∧tc=s.tc+AN n∧J (AN n) d' E')∨Jf rc' d' E')):=by
 obtain⟨bp,rfl⟩:=hp.ptr
 have hpn:AN n≤8192:=by unfold AN;omega
 refine Fl hd (Aff Z) ?_
 show xwp P _ _ _ _ _
 (apply Cd;apply x_g;apply Av;apply Ah;rfl;exact BR (by assumption))
 refine Ek (A:=[]) (B:=bx bh Th [vZ h]::(LP++(sg l (.loop rc)::E))) Z Z (h1 (n:=n) (by omega)) (fun u d1 L1 _ ⟨e1,e2,e3⟩=>?_)
 subst e1;subst e2;subst e3
 rw[Agh]
 (refine AU Z ?_;apply He)
 refine Q3 (α:=Nat) (fun i=>[(0,.func (.yield l) #[] #[]),(2,pZ bq),(3,pZ bh),(8,vZ (AN n)),(9,vZ i)])
  (fun i d' L'=>Le d1 d'∧i≤AN n∧∃LP' E' tc,L'=bx bh Th [vZ (hdF s h i)]::(LP'++(sg l (.loop rc)::E'))∧Pg d' {s with tc:=tc} dv (pZ bp) LP'∧tc=s.tc+i∧J i d' E')
  (fun i=>AN n - i) 0 ⟨Z,Z,Z,Z,Z,trivial⟩ ⟨Le.refl _,Agd _,LP,E,s.tc,Z,hp,Z,h0⟩ ?_
 rintro i ρ d' L' ⟨hle,hi,LP',E',tc,rfl,hp',htc,hJ⟩
 have hq':=hq.mono hle
 by_cases e:i<AN n
 ·(apply Cd;apply x_g;apply Av;apply Au;rfl;rfl;apply An;apply Cd;apply x_g;refine EO Z (by omega) ?_;apply AH;apply Cd;apply He;apply Cd;apply x_g;apply Av;apply Ah;rfl;exact BR (by assumption);apply Ah;rfl;exact AG 0 Z Z)
  refine DO (h2.atT (k:=hdF s h i) hp') (Agw [_] LP' _) Z (fun u d7 L7 hl7 ⟨qa,qc,tc',q1,q2,q3,q4⟩=>?_)
  rw[SY,Aca] at q1
  rw[SY] at q2
  subst q1
  refine⟨d7,(sg l (.loop rc)::E')++(bx bh Th [vZ (hdF s h i)]::L7),Vs.perm (Vk _ _ _),?_⟩
  by_cases hlv:BB s (hdF s h i)
  ·rw[OZ hlv]
   (refine AO Z<|AW Z Z Z Z<|Ae Z<|AU Z ?_;apply Cd;apply Cd;apply x_g;refine Av<|Ab Z<|AJ Z Z<|An ?_;apply AbH;rfl;apply x_g;apply AH;apply Cd;apply Cd;apply AaU;apply FZ;rfl)
   refine Ah (v:=vZ (hdF s h i)) Z (AG (T:=Th) (l:=[vZ (hdF s h i)]) (E'.length+1) (by simp[lk]) Z) ?_
   (refine Ae Z<|An ?_)
   refine Q8 _ _ Z Z Z (hlive i e d7 E' _ (hle.trans hl7) (hJm hl7 hJ) hlv q2) (fun u d8 L8 hl8 hr8=>?_)
   rcases hr8 with ⟨rfl,E8,rfl,hJ8⟩|⟨rfl,rc8,E8,rfl,hJ8⟩
   ·refine B1 d8 (bx bh Th [vZ (hdF s h i)]::(L7++(sg l (.loop rc)::E8))) (Vs.perm (U2 _ _ _)) ?_
    have hfl:(s.bytes (hdF s h i)).length=256:=hp.full hlv
    have q8:Ay d8 (.slice qa (s.bytes (hdF s h i)).length qc) (s.bytes (hdF s h i)):=RSl.mono (R:=Ax) AF q2 hl8
    have g0:(s.bytes (hdF s h i)).getD 0 0=(s.bytes (hdF s h i))[0]:=by rw[Afd,Afc (by omega)];rfl
    have g1:(s.bytes (hdF s h i)).getD 1 0=(s.bytes (hdF s h i))[1]:=by rw[Afd,Afc (by omega)];rfl
    have l0:=UInt8.toNat_lt (s.bytes (hdF s h i))[0]
    have l1:=UInt8.toNat_lt (s.bytes (hdF s h i))[1]
    have hnx:hdF s h (i+1)=(((s.bytes (hdF s h i))[0].toNat*256+(s.bytes (hdF s h i))[1].toNat:Nat):Int):=by rw[hdF,Hv,g0,g1]
    (refine Bm Z<|An ?_;apply x_g;refine Cn Z<|AH ?_;apply x_g;refine BI<|Ae Z<|Bq (m:=0) (sz:=1) (R:=Ax) (by rfl) (by assumption) (by rfl) Z (by omega) ?_;rintro _ _ _ _ _ rfl;refine Ah Z (BO (by assumption) Z)<|EP Z (by omega) (by omega) ?_)
    refine TS (a:=(s.bytes (hdF s h i))[0].toNat) Z Z (by omega) ?_
    (refine Ae Z<|Bq (m:=1) (sz:=1) (R:=Ax) (by rfl) (by assumption) (by rfl) Z (by omega) ?_;rintro _ _ _ _ _ rfl;refine Ah Z (BO (by assumption) Z)<|EP Z (by omega) (by omega) ?_)
    refine Su (a:=(s.bytes (hdF s h i))[0].toNat) (b:=(s.bytes (hdF s h i))[1].toNat) Z Z l0 l1 ?_
    (apply Cw)
    refine Bb 0 [vZ (((s.bytes (hdF s h i))[0].toNat*256+(s.bytes (hdF s h i))[1].toNat:Nat):Int)] Z Z Z Z (Afe _) Z Z ?_
    (apply An;apply x_g;refine Av<|A4 Z Z<|AU Z ?_)
    exact⟨i+1,by omega,⟨Z,Z,Z,Z,Z,trivial⟩,(hle.trans hl7).trans hl8,e,L7,E8,tc',by rw[hnx];exact congrArg (List.cons _) (Agj _),q3.mono hl8,by have q4':tc'=tc+1:=q4.trans (if_pos hlv);omega,hJ8⟩
   ·(refine Bm Z<|An ?_;apply x_g;refine Er Z<|DE ?_)
    exact A6 [] trivial (d':=d8) (L':=L7++(sg l (.loop rc8)::E8)) (Tb _ _ _ _) ⟨L7,E8,rc8,_,Z,q3.mono hl8,.inr hJ8⟩
  ·obtain⟨x1,x2⟩:=Ph hlv
   rw[x1]
   (refine AO Z<|AW Z Z Z Z<|Ae Z<|AU Z ?_;apply Cd;apply Cd;apply x_g;refine Av<|Ab Z<|AJ Z Z<|An ?_;apply Aem;rfl;apply Cd;apply AaU;refine FZ Z<|Ab Z<|AbN Z (by omega) (by omega)<|An ?_)
   refine Q8 _ _ Z Z Z (hdead i e d7 E' (hle.trans hl7) (hJm hl7 hJ) hlv) (fun u d8 L8 hl8 hr8=>?_)
   obtain⟨rfl,rc8,E8,rfl,hJ8⟩:=hr8
   (apply An;apply x_g;apply DE)
   exact A6 [] trivial (d':=d8) (L':=L7++(sg l (.loop rc8)::E8)) (Tb _ _ _ _) ⟨L7,E8,rc8,_,Z,q3.mono hl8,.inr hJ8⟩
 ·have:i=AN n:=by omega
  subst this
  (apply Cd;apply x_g;apply Av;apply Au;rfl;rfl;apply An;apply Cd;apply x_g;refine Fs Z (by omega) ?_;apply Bl)
  exact Ed [] trivial (Age _ _) ⟨LP',E',rc,tc,Z,hp',.inl ⟨Z,htc,hJ⟩⟩
def Io(a0:Nat):Hn:=(.mk 8 [(.tmp 6)] (.g (sR (o1 3 (.box 0)<|o1 4 (.box 1)<|o1 5 (.box 2)<|o1 6 (.mv (.const .nilFunc)) .done) (sR (o1 7 (.mkf (.func a0) [] [5,3,4])<|om 6 7 .done) .ret))))
def AaM{P f1}(hd:Gf true false P f=some (Io f1)){d}{b:Nat}{h n:Int}:Ao P f [pZ b,vZ h,vZ n] d [] (Ret fun r d' L'=>∃bz bq bh Th,r=.func (.func f1) #[] #[pZ bz,pZ bq,pZ bh]∧
  DC d' bz 0 (vZ n)∧DC d' bq 0 (pZ b)∧L'=[bx bh Th [vZ h]]):=by
 refine Fl hd (Aff Z) ?_
 show xwp P _ _ _ _ _
 (apply x_g;apply Aw;apply Av)
 refine Fv Z (fun bq Tq=>?_)
 refine Fv Z (fun bh Th=>?_)
 refine Fv Z (fun bz Tz=>?_)
 (refine AK<|Bo<|ND<|FZ Z<|BJ ?_)
 exact A6 [.func (.func f1) #[] #[pZ bz,pZ bq,pZ bh]] ⟨Z,trivial⟩ (d':=join (join d (bx bz Tz [vZ n])) (bx bq Tq [pZ b])) (L':=[bx bh Th [vZ h]])
  ((Vs.perm (Afm _ (Afx _ _ _))).trans (Vs.freeze.trans Vs.freeze)) ⟨bz,bq,bh,Th,Z,(Le.dcs ((Le.Bc _ _).trans (Le.Ar _ _))).at (i:=0) Z,(Le.dcs (Le.Bc _ _)).at (i:=0) Z,Z⟩
end
end Go.Gk.Chn
end
section
namespace Go.Gk.Chn
open Go Go.Gk Go.Gk.Dev Go.Gk.Cch Go.Gk.Pgr Go.Gk.Node
attribute [local irreducible] gwp gws xwp
variable{P:Program}{f f1:FuncId}
def Dx(s:PD)(size n:Nat)(k:Int)(l:List Int)(out:List UInt8):Nat→List Int×List UInt8×Int
 |0=>(l,out,0)
 |m+1=>
  if BB s k then
   if (Hv (s.bytes k)=65535)=(l.length+1=n) then
    if ((s.bytes k).drop (2+min 254 (size - out.length))).all (·==0) then
     Dx s size n (Hv (s.bytes k):Nat) (l++[k]) (out++((s.bytes k).drop 2).take (min 254 (size - out.length))) m
    else([],[],200)
   else([],[],200)
  else([],[],240)
def BU(s:PD)(k:Int)(size:Int):List Int×List UInt8×Int:=if 0≤size∧size≤16384 then Dx s size.toNat (AN size.toNat) k [] [] (AN size.toNat) else([],[],2)
def RJ(s:PD)(n:Nat)(k:Int)(b5 b6 b7 b8 b9 b10:Nat)(T5 T6 T7 T8 T9 T10:TypeId)(i:Nat)(d:Aa)(E:List Aa):Prop:=∃l out la lc oa oc hl ho,
 E=[bx b10 T10 [.slice oa (List.length (α:=UInt8) out) oc],bx b9 T9 [.slice la (List.length (α:=Int) l) lc],bx b8 T8 [vZ 0],bx b7 T7 [nV],bx b6 T6 [nV],bx b5 T5 [vZ n],ho,hl]∧
 Ai 1 Bh d (.slice la l.length lc) l hl∧Ai 1 Ax d (.slice oa out.length oc) out ho∧l.length=i∧out.length≤n∧Dx s n (AN n) k [] [] (AN n)=Dx s n (AN n) (hdF s k i) l out (AN n - i)
def RF(rc:Loop)(s:PD)(n:Nat)(k:Int)(b6 b7 b8:Nat)(T6 T7 T8:TypeId)(rc':Loop)(_:Aa)(E:List Aa):Prop:=
 rc'={rc with state:=.done,pending:=some .ret}∧∃e x y R,Dx s n (AN n) k [] [] (AN n)=([],[],e)∧e≠0∧E=x::y::bx b8 T8 [vZ e]::bx b7 T7 [nV]::bx b6 T6 [nV]::R
def Kv(P:Program)(f:FuncId):Prop:=∀{d s dv pv L}{k size:Int},Pg d s dv pv L→
 Ao P f [pv,vZ k,vZ size] d L (Ret fun r d' L'=>Le d d'∧∃v w tc,r=.tuple #[v,w,vZ (BU s k size).2.2]∧D9 d' v (BU s k size).1∧Ay d' w (BU s k size).2.1∧Pg d' {s with tc:=tc} dv pv L'∧((BU s k size).2.2=0→tc=s.tc+AN size.toNat))
def X3{a m N:Nat}(h:(a=65535)=(m=N)):(true ^^(decide ((a:Int)=65535)==decide ((m:Int)=(N:Int))))=false:=by
 rw[show decide ((a:Int)=65535)=decide (a=65535) from decide_eq_decide.2 (by omega),show decide ((m:Int)=(N:Int))=decide (m=N) from decide_eq_decide.2 (by omega),show decide (a=65535)=decide (m=N) from decide_eq_decide.2 (by rw[h])];simp
def YH{a m N:Nat}(h:¬((a=65535)=(m=N))):(true ^^(decide ((a:Int)=65535)==decide ((m:Int)=(N:Int))))=true:=by
 rw[show decide ((a:Int)=65535)=decide (a=65535) from decide_eq_decide.2 (by omega),show decide ((m:Int)=(N:Int))=decide (m=N) from decide_eq_decide.2 (by omega)];have:decide (a=65535)≠decide (m=N):=fun e=>h (propext (decide_eq_decide.1 e));simp[this]
def Yc(g h:Aa)(E L:List Aa):(g::([h]++(E++L))).Perm (h::(L++(g::E))):=
 (Afx h g (E++L)).trans (Afm h ((Afm g Afi).trans List.perm_middle.symm))
def AcH(d a b c x y z o h:Aa)(L:List Aa):Vs d (a::b::c::x::y::z::o::h::L) (join (join d o) h) L:=
 (Vs.drop (.cons _ (.cons _ (.cons _ (.cons _ (.cons _ (.cons _ (Afa _)))))))).trans (Vs.freeze.trans Vs.freeze)
def Pk(P:Program)(f:FuncId):Prop:=∃f1 f2 f3,Gf true false P f=some (Io f1)∧Gf true false P f1=some (Gg f2 f3)∧F9 P f2∧F4 P f3
def ZY(P:Program)(f:FuncId):Prop:=∃f2 f3,Gf true false P f=some (Gg f2 f3)∧F9 P f2∧F4 P f3
def Aeb{f2 f3}(hd:Gf true false P f=some (Gg f2 f3))(h1:F9 P f2)(h2:F4 P f3):ZY P f:=⟨f2,f3,hd,h1,h2⟩
def Y8(hd:Gf true false P f=some (Io f1))(h:ZY P f1):Pk P f:=let ⟨f2,f3,h1,h2,h3⟩:=h;⟨f1,f2,f3,hd,h1,h2,h3⟩
def UU(a0 a1:Nat):Hn:=(.mk 80 [(.cell 6 none),(.cell 7 none),(.cell 8 none)] (.seq (.g (rG (o1 5 (.box 2)<|o1 6 (.alo nV)<|o1 7 (.alo nV)<|o1 8 (.alo (vZ 0)) .done))) (.seq (.g (sR (ol 17 5<|ob 18 .lss 17 z0<|om 19 18<|oF 20 19 (.ld none 5)<|oF 21 19 (.bin .gtr 20 (kZ 16384))<|o1 22 (.pick 19 (.const (.bool true)) 21) .done) (.cond 22 (sR (o0 (.st 1 6 nS)<|o0 (.st 1 7 nS)<|o0 (.st 1 8 z2) .done) .ret) .skip))) (.seq (.g (rG (o1 9 (.alo nV) .done))) (.seq (.g (rG (o1 10 (.alo nV) .done))) (.seq (.seq (.g (rG (om 23 0<|om 24 1<|ol 25 5<|oc 26 a0 [23,24,25] .done))) (.block 0 (.rf 26 [27,28] (sR (om 11 27 .done) (rG (om 12 28 .done))) (.block 1 (.seq (sR (om 29 12<|o1 30 (.eqs false 29 nS) .done) (.cond 30 (sR (om 31 11<|o1 32 (.un .neg 31)<|o0 (.st 1 6 nS)<|o0 (.st 1 7 nS)<|o0 (.st 1 8 32) .done) .ret) .skip)) (sR (ol 33 9<|om 34 11<|o1 35 (.bsl 1 1 [(vZ 0)] [(0,34)])<|o1 36 (.app 1 8 [(vZ 0)] 33 35)<|o0 (.st 1 9 36) .done) (.seq (.reg true (pm 37 12<|p1 38 (.idx 1 37 z0)<|pl 39 38<|p1 40 (.cvi .i64 39)<|p1 41 (.bin .shl 40 (.const (.int .u64 8)))<|pm 42 12<|p1 43 (.idx 1 42 z1)<|pl 44 43<|p1 45 (.cvi .i64 44)<|p1 46 (.bin .or 41 45) (.bar (pm 13 46 .done)))) (.seq (.seq (.reg true (pm 47 13<|p1 48 (.bin .eql 47 (kZ 65535))<|pl 49 9<|p1 50 (.len 49)<|pl 51 5<|oc 52 a1 [51]<|p1 53 (.bin .eql 50 52)<|p1 54 (.eqb true 48 53) .done)) (.cond 54 (sR (o0 (.st 1 6 nS)<|o0 (.st 1 7 nS)<|o0 (.st 1 8 (kZ 200)) .done) .ret) .skip)) (sR (ol 55 5<|ol 56 10<|oL 57 56<|ob 58 .sub 55 57<|o1 59 (.mn2 (kZ 254) 58)<|om 14 59 .done) (.seq (sR (om 60 12<|om 61 14<|ob 62 .add z2 61<|o1 63 (.sl 1 60 (some 62) none none)<|oL 64 63<|o1 65 (.mv z0) .done) (.block 2 (.loop (sR (ob 66 .lss 65 64 .done) (.seq (.cond 66 .skip (.exit 2)) (.seq (.block 3 (sR (oI 67 1 63 65<|ol 68 67<|om 16 68 .done) (sR (om 69 16<|ob 70 .neq 69 (.const (.int .u8 0)) .done) (.cond 70 (sR (o0 (.st 1 6 nS)<|o0 (.st 1 7 nS)<|o0 (.st 1 8 (kZ 200)) .done) .ret) .skip)))) (rG (ob 71 .add 65 z1<|om 65 71 .done)))))))) (.reg true (pm 73 12<|pm 74 14<|p1 75 (.bin .add z2 74)<|p1 76 (.sl 1 73 (some z2) (some 75) none)<|ol 72 10<|o1 77 (.app 1 1 [(.int .u8 0)] 72 76) (.bar (o0 (.st 1 10 77) .done)))))))))))))) (.g (.seq (.reg true (pl 78 9<|pl 79 10<|o0 (.st 1 6 78)<|o0 (.st 1 7 79)<|o0 (.st 1 8 z0) .done)) .ret))))))))
set_option maxRecDepth 4000 in
set_option maxHeartbeats 2000000 in
def ZH{f2}(hd:Gf false false P f=some (UU f1 f2))(h1:Pk P f1)(h2:F9 P f2):Kv P f:=by
 obtain⟨f3,f4,f5,g1,g2,g3,g4⟩:=h1;intro d s dv pv L k size hp;obtain⟨bp,rfl⟩:=hp.ptr;refine Fl hd (Aff Z) ?_;show xwp P _ _ _ _ _;(apply Cd;apply x_g;apply Av);refine Fv Z (fun b5 T5=>?_);refine DD (fun b6 T6=>?_);refine DD (fun b7 T7=>?_);refine DD (fun b8 T8=>?_);refine GJ ⟨d,bx b8 T8 [vZ 0]::bx b7 T7 [nV]::bx b6 T6 [nV]::bx b5 T5 [vZ size]::L,Vs.refl _ _,?_⟩;by_cases hsz:0≤size∧size≤16384
 ·obtain⟨n,rfl⟩:∃n:Nat,size=n:=⟨size.toNat,by omega⟩
  have hn:n≤16384:=by omega
  have hF:BU s k n=Dx s n (AN n) k [] [] (AN n):=by unfold BU;rw[if_pos hsz];rfl
  rw[hF];(apply Cd;apply x_g;apply Aw;apply Av;apply Ah;rfl;exact AG 3 Z Z;apply Au;rfl;rfl;apply Ad;rfl;refine Is Z (by omega) ?_;apply Ac;rfl;apply Ah;rfl;exact AG 3 Z Z;apply Ac;rfl;apply Bu;rfl;rfl;apply Aj;rfl;rfl;apply An;refine Fs Z (by omega) ?_;apply AH;apply Cd;apply x_g;apply Av;apply DD;intro _ _;apply An;apply Cd;apply x_g;apply Av;apply DD;intro _ _;apply An;apply Cd;apply Cd;apply x_g;apply Av;apply Ag;rfl;apply Ab;rfl;apply Ah;rfl;exact AG 5 Z Z);rename_i b9 T9 b10 T10;refine B1 d (bx b10 T10 [nV]::bx b9 T9 [nV]::bx b8 T8 [vZ 0]::bx b7 T7 [nV]::bx b6 T6 [nV]::bx b5 T5 [vZ n]::emp::emp::L)
   ((Vs.emp.trans Vs.emp).trans (Vs.perm (Agw [emp,emp] [_,_,_,_,_,_] L))) ?_
  refine Ek (A:=[]) (B:=bx b10 T10 [nV]::bx b9 T9 [nV]::bx b8 T8 [vZ 0]::bx b7 T7 [nV]::bx b6 T6 [nV]::bx b5 T5 [vZ n]::emp::emp::L) Z Z (AaM g1 (h:=k) (n:=n)) (fun u d1 L1 hl1 ⟨bz,bq,bh,Th,e1,hz,hq,e2⟩=>?_);subst e1;subst e2;(apply An;apply He);refine Adb Z (fun l rc hrec hst hpd=>?_);refine Ao.reorder (L1:=bx bh Th [vZ k]::(L++(sg l (.loop rc)::[bx b10 T10 [nV],bx b9 T9 [nV],bx b8 T8 [vZ 0],bx b7 T7 [nV],bx b6 T6 [nV],bx b5 T5 [vZ n],emp,emp]))) ?_ (Ao.Eb
   (Yn g2 g3 g4 (rc:=rc) (l:=l) (RJ s n k b5 b6 b7 b8 b9 b10 T5 T6 T7 T8 T9 T10) (RF rc s n k b6 b7 b8 T6 T7 T8) (hp.mono hl1) hz hq hn ?_ ?_ ?_ ?_) ?_)
  ·exact Yc _ _ [_,_,_,_,_,_,_,_] L
  ·exact⟨[],[],none,0,none,0,emp,emp,Z,Ai.nil,Ai.nil,Z,Agd _,Z⟩
  ·rintro i d2 d3 E hle ⟨l1,o1,la,lc,oa,oc,hl,ho,q1,q2,q3,q4,q5,q6⟩;exact⟨l1,o1,la,lc,oa,oc,hl,ho,q1,Ai.mono (R:=Bh) Ck q2 hle,Ai.mono (R:=Ax) AF q3 hle,q4,q5,q6⟩
  ·rintro i hi d2 E2 v hle ⟨l1,o1,la,lc,oa,oc,hl,ho,rfl,q2,q3,q4,q5,q6⟩ hlv hv;refine MG hrec hst Z ?_;have hfl:(s.bytes (hdF s k i)).length=256:=hp.full hlv;have hv0:=hv;obtain⟨va,vc,vb,vo,rfl,w2, -, -, -, -, -,w8⟩:=hv;obtain rfl:va=some ⟨vb,vo,none⟩:=w2 (by omega);have dd0:DCs d2 vb (vo+0*1) [Al (s.bytes (hdF s k i))[0]]:=by
    obtain⟨cs,c1,c2,c3⟩:=w8 0 (by omega);rw[show cs=[Al (s.bytes (hdF s k i))[0]] from c3] at c2;exact c2
   have dd1:DCs d2 vb (vo+1*1) [Al (s.bytes (hdF s k i))[1]]:=by
    obtain⟨cs,c1,c2,c3⟩:=w8 1 (by omega);rw[show cs=[Al (s.bytes (hdF s k i))[1]] from c3] at c2;exact c2
   have hkr:0≤hdF s k i∧hdF s k i≤16384:=by
    have:=hp.Fc.inn;have:=hp.Fc.syn;rcases hlv with q|q<;>(obtain⟨j,j1,j2, -, -⟩:=Dm q (by omega);omega)
   have q4':=q4;have hpn:AN n≤8192:=by unfold AN;omega
   refine AE Z<|An<|Av<|Ae Z<|An<|Aq<|AZ<|Ae Z<|Nh Z Z<|Be Z<|Ak<|Ah Z (AG 1 Z Z)<|Ab Z<|DN (v0:=vZ (hdF s k i)) Z Z (fun b3 T3=>?_);refine D4 (R:=Bh) 7 Z Z q2 Z (Ai.EL (x:=hdF s k i) Z ⟨Z,by omega,by omega⟩) D1 (by omega) (by simp;omega) (by simp;omega) (fun v' h' ho'=>?_);obtain⟨la',lc',rfl⟩:=ho'.val;refine Bb 1 [.slice la' (l1++[hdF s k i]).length lc'] Z Z Z Z (Afe _) Z Z ?_;have g0:(s.bytes (hdF s k i)).getD 0 0=(s.bytes (hdF s k i))[0]:=by rw[Afd,Afc (by omega)];rfl
   have g1':(s.bytes (hdF s k i)).getD 1 0=(s.bytes (hdF s k i))[1]:=by rw[Afd,Afc (by omega)];rfl
   have l0:=UInt8.toNat_lt (s.bytes (hdF s k i))[0];have l1':=UInt8.toNat_lt (s.bytes (hdF s k i))[1];have hlk:Hv (s.bytes (hdF s k i))=(s.bytes (hdF s k i))[0].toNat*256+(s.bytes (hdF s k i))[1].toNat:=by rw[Hv,g0,g1']
   refine By<|BI<|Ae Z<|B3 0 Z Z Z (by omega) (by assumption)<|Ah Z (Cr (by assumption) Z)<|EP Z (by omega) (by omega)<|TS (a:=(s.bytes (hdF s k i))[0].toNat) Z Z (by omega) ?_;(refine Ae Z<|Bq (m:=1) (sz:=1) (R:=Ax) (by rfl) (by assumption) (by rfl) Z (by omega) ?_;rintro _ _ _ _ _ rfl;refine Ah Z (BO (by assumption) Z)<|EP Z (by omega) (by omega) ?_);refine Su (a:=(s.bytes (hdF s k i))[0].toNat) (b:=(s.bytes (hdF s k i))[1].toNat) Z Z l0 l1' ?_;rw[←hlk];refine Cw<|AU Z<|Aw<|Aw<|BI<|Ab Z<|AI Z Z<|Ah Z (AG 1 Z Z)<|AA Z<|Ah Z (AG 5 Z Z)<|Bz Z (h2 (n:=n) (by omega)) (fun u d3 L3 _ ⟨e1,e2,e3⟩=>?_);subst e1;subst e2;subst e3;rw[Agh];have hl1':(l1++[hdF s k i]).length=l1.length+1:=by simp
   have hst':AN n - i=(AN n - (i+1))+1:=by omega
   (refine AI Z Z<|HV Z Z<|A8 ?_);by_cases hh:(Hv (s.bytes (hdF s k i))=65535)=(l1.length+1=AN n)
   ·refine Cn (congrArg Value.bool (X3 (by rw[hl1'];exact hh))) ?_;have ht2:2+min 254 (n - o1.length)≤(s.bytes (hdF s k i)).length:=by omega
    refine AH<|Ak<|Ah Z (AG 5 Z Z)<|c_l Z Z Z<|AA Z<|DT Z Z<|Aeh Z Z<|AR Z<|Ae Z<|Ab Z<|A4 Z Z<|Ex (R:=Ax) (sz:=1) (n:=2+min 254 (n - o1.length)) Z hv0 Z (by omega) ht2 (fun vz hvz=>?_);obtain⟨zs,hzs⟩:∃zs,zs=(s.bytes (hdF s k i)).drop (2+min 254 (n - o1.length)):=⟨_,Z⟩
    rw[←hzs] at hvz;have hzl:=hvz.BW;refine BX Z (by assumption)<|AU Z<|Aq<|DF (α:=Nat) (fun j=>[(6,pZ b6),(7,pZ b7),(8,pZ b8),(10,pZ b10),(12,.slice (some ⟨vb,vo,none⟩) (s.bytes (hdF s k i)).length vc),(14,vZ ((min 254 (n - o1.length):Nat):Int)),(63,vz),(64,vZ zs.length),(65,vZ j)])
     (fun _=>[bx b10 T10 [.slice oa o1.length oc],bx b9 T9 [.slice la' (l1++[hdF s k i]).length lc'],bx b8 T8 [vZ 0],bx b7 T7 [nV],bx b6 T6 [nV],bx b5 T5 [vZ n],ho,h'])
     (fun j=>j≤zs.length∧(zs.take j).all (·==0)=true) (fun j=>zs.length - j) 0 ⟨Z,Z,Z,Z,Z,by show Value.int _ _=Value.int _ _;congr 1;omega,Z,Z,Z,trivial⟩ Z ⟨Agd _,Z⟩ ?_
    rintro j ρ ⟨hj,hja⟩;by_cases ej:j<zs.length
    ·have hjn:(zs.take (j+1)).all (·==0)=((zs.take j).all (·==0)&&(zs[j]==0)):=by rw[Afw ej,List.all_append];simp
     by_cases hz0:zs[j]=0
     ·have hz1:zs[j].toNat=0:=by rw[hz0];rfl
      (refine Ak<|Au Z Z<|By<|B2 Z<|AH<|Aw<|Aq<|Ak<|Bq (sz:=1) (R:=Ax) (by rfl) (by assumption) (by rfl) Z (by omega) ?_;rintro _ _ _ _ _ rfl;refine Ah Z (BO (by assumption) Z)<|A7 Z<|Ab Z<|AJ Z Z<|AT Z<|Av<|A4 Z Z<|AU Z ?_);exact⟨j+1,by omega,⟨Z,Z,Z,Z,Z,Z,Z,Z,Z,trivial⟩,Z,Z,ej,by rw[hjn,hja,hz0];rfl⟩
     ·have hz1:zs[j].toNat≠0:=fun q=>hz0 (UInt8.toNat_inj.1 q);have hrd:Dx s n (AN n) k [] [] (AN n)=([],[],200):=by
       rw[q6,hst',Dx,if_pos hlv,if_pos hh,if_neg];rw[←hzs];intro hall;exact hz0 (by simpa using List.all_eq_true.1 hall _ (Agb ej))
      (refine Ak<|Au Z Z<|By<|B2 Z<|AH<|Aw<|Aq<|Ak<|Bq (sz:=1) (R:=Ax) (by rfl) (by assumption) (by rfl) Z (by omega) ?_;rintro _ _ _ _ _ rfl;refine Ah Z (BO (by assumption) Z)<|A7 Z<|Ab Z<|AJ Z Z<|A5 Z<|Ak ?_);refine Bb 4 [nV] Z Z Z Z (Afe _) Z Z<|Bb 3 [nV] Z Z Z Z (Afe _) Z Z<|Bb 2 [vZ 200] Z Z Z Z (Afe _) Z Z<|BJ<|Or.inr ⟨Z,_,_,Z,Z,200,_,_,_,hrd,(by decide),Z⟩
    ·have:j=zs.length:=by omega
     subst this;rw[Agz,hzs] at hja;have hstep:Dx s n (AN n) k [] [] (AN n)=Dx s n (AN n) (hdF s k (i+1)) (l1++[hdF s k i]) (o1++((s.bytes (hdF s k i)).drop 2).take (min 254 (n - o1.length))) (AN n - (i+1)):=by
      rw[q6,hst',Dx,if_pos hlv,if_pos hh,if_pos hja];rfl
     have htl:(((s.bytes (hdF s k i)).drop 2).take (min 254 (n - o1.length))).length=min 254 (n - o1.length):=by rw[Aft,List.length_drop];omega
     (refine Ak<|Au Z Z<|By<|BM Z<|Bl ?_);show gwp P _ _ _ _ _;skip;refine BE [] [bx b10 T10 [.slice oa o1.length oc],bx b9 T9 [.slice la' (l1++[hdF s k i]).length lc'],bx b8 T8 [vZ 0],bx b7 T7 [nV],bx b6 T6 [nV],bx b5 T5 [vZ n],ho,h'] Z<|Ae Z<|Ab Z<|A4 Z Z<|AcY (R:=Ax) (sz:=1) (n:=2) (m:=2+min 254 (n - o1.length)) Z hv0 Z Z Z (by omega) (by omega) ht2 (fun vm hvm=>?_);rw[Nat.add_sub_cancel_left] at hvm;(apply Ah;rfl;exact AG 0 Z Z);refine FR (R:=Ax) 6 Z Z q3 Z (RSl.src hvm Fx (by omega) _) (by omega) (by rw[htl];omega) (by rw[htl];omega) (fun v'' h'' ho''=>?_);obtain⟨oa',oc',rfl⟩:=ho''.val;(apply Cw);refine Bb 0 [.slice oa' (o1++((s.bytes (hdF s k i)).drop 2).take (min 254 (n - o1.length))).length oc'] Z Z Z Z (Afe _) Z Z ?_;(apply An);exact Or.inl ⟨Z,[bx b10 T10 [.slice oa' (o1++((s.bytes (hdF s k i)).drop 2).take (min 254 (n - o1.length))).length oc'],bx b9 T9 [.slice la' (l1++[hdF s k i]).length lc'],bx b8 T8 [vZ 0],bx b7 T7 [nV],bx b6 T6 [nV],bx b5 T5 [vZ n],h'',h'],by rw[Wg hst hpd];rfl,l1++[hdF s k i],_,la',lc',oa',oc',h',h'',Z,ho',ho'',by rw[hl1',q4],by rw[Afk,htl];omega,hstep⟩
   ·have hrd:Dx s n (AN n) k [] [] (AN n)=([],[],200):=by rw[q6,hst',Dx,if_pos hlv,if_neg hh]
    refine Er (congrArg Value.bool (YH (by rw[hl1'];exact hh)))<|Ak<|Bb 4 [nV] Z Z Z Z (Afe _) Z Z<|Bb 3 [nV] Z Z Z Z (Afe _) Z Z<|Bb 2 [vZ 200] Z Z Z Z (Afe _) Z Z<|BJ<|Or.inr ⟨Z,_,_,Z,Z,200,_,_,_,hrd,(by decide),Z⟩
  ·rintro i hi d2 E2 hle ⟨l1,o1,la,lc,oa,oc,hl,ho,rfl,q2,q3,q4,q5,q6⟩ hlv;refine MG hrec hst Z ?_;have hrd:Dx s n (AN n) k [] [] (AN n)=([],[],240):=by
    rw[q6,show AN n - i=(AN n - (i+1))+1 by omega,Dx,if_neg hlv]
   refine AE Z<|An<|Av<|Ae Z<|An<|Aq<|AZ<|Ae Z<|PY Z Z<|B7 Z<|AE Z<|AbN Z (by omega) (by omega)<|Bb 4 [nV] Z Z Z Z (Afe _) Z Z<|Bb 3 [nV] Z Z Z Z (Afe _) Z Z<|Bb 2 [vZ 240] Z Z Z Z (Afe _) Z Z<|BJ ?_;exact⟨Z,_,_,Z,Z,240,_,_,_,hrd,(by decide),Z⟩
  ·rintro u d3 L3 hl3 ⟨LP',E',rc',tc,rfl,hp3,h⟩;refine⟨d3,sg l (.loop rc')::(E'++LP'),Vs.perm Afi,rc',_,Z,?_⟩
   rcases h with ⟨rfl,htc,l1,o1,la,lc,oa,oc,hl,ho,rfl,q2,q3,q4,q5,q6⟩|⟨rfl,e,x,y,R,hrd,hne,rfl⟩
   ·refine⟨(by rw[hst];intro q;cases q),?_⟩
    rw[hpd];have hll:=q2.BW;rw[Aiz,Dx] at q6;rw[q6];show xwp P _ _ _ _ _;(apply x_g;apply Aw);refine BE [_,_] (bx b8 T8 [vZ 0]::bx b7 T7 [nV]::bx b6 T6 [nV]::bx b5 T5 [vZ n]::ho::hl::LP') Z<|Ah Z (AG 1 Z Z)<|c_l Z Z Z<|Bb 2 [.slice la l1.length lc] Z Z Z Z (Afe _) Z Z ?_;skip;refine Bb 1 [.slice oa o1.length oc] Z Z Z Z (Afe _) Z Z ?_;skip;refine Bb 0 [vZ 0] Z Z Z Z (Afe _) Z Z<|A8<|DE<|A6 [.slice la l1.length lc,.slice oa o1.length oc,vZ 0] ⟨⟨_,_,Z,AG 4 Z Z⟩,⟨_,_,Z,AG 3 Z Z⟩,⟨_,_,Z,AG 2 Z Z⟩,trivial⟩ (d':=join (join d3 ho) hl) (L':=LP') (AcH _ _ _ _ _ _ _ _ _ _)
     ⟨(hl1.trans hl3).trans ((Le.Ar _ _).trans (Le.Ar _ _)),_,_,tc,Z,Ai.rsl (R:=Bh) (sz:=1) q2 Ck (by omega) ((Le.Ar _ _).trans (Le.Ar _ _)) (Le.Bc _ _),
      Ai.rsl (R:=Ax) (sz:=1) q3 AF (by omega) ((Le.Ar _ _).trans (Le.Ar _ _)) ((Le.Bc _ _).trans (Le.Ar _ _)),hp3.mono ((Le.Ar _ _).trans (Le.Ar _ _)),fun _=>htc⟩
   ·refine⟨(by intro q;cases q),?_⟩
    rw[hrd];exact A6 [nV,nV,vZ e] ⟨⟨_,_,Z,AG 4 Z Z⟩,⟨_,_,Z,AG 3 Z Z⟩,⟨_,_,Z,AG 2 Z Z⟩,trivial⟩ (d':=d3) (L':=LP') (Vs.drop (List.sublist_append_right _ _)) ⟨hl1.trans hl3,_,_,tc,Z,RSl.nil,RSl.nil,hp3,fun q=>absurd q hne⟩
 ·have hF:BU s k size=([],[],2):=by unfold BU;rw[if_neg hsz]
  rw[hF];by_cases hneg:size<0
  ·(apply Cd;apply x_g;apply Aw;apply Av;apply Ah;rfl;exact AG 3 Z Z;apply Au;rfl;rfl;apply Ad;rfl;refine Nv Z (by omega) ?_;apply BP;rfl;apply BP;rfl;apply As;rfl;rfl;apply An;apply Er;rfl;apply Aw;apply Av);refine Bb 2 [nV] Z Z Z Z (Afe _) Z Z<|Bb 1 [nV] Z Z Z Z (Afe _) Z Z<|Bb 0 [vZ 2] Z Z Z Z (Afe _) Z Z<|BJ<|A6 [nV,nV,vZ 2] ⟨⟨_,_,Z,AG 2 Z Z⟩,⟨_,_,Z,AG 1 Z Z⟩,⟨_,_,Z,AG 0 Z Z⟩,trivial⟩ (d':=d) (L':=L) (Vs.drop (.cons _ (.cons _ (.cons _ (.cons _ (Afa _)))))) ⟨Le.refl _,_,_,s.tc,Z,RSl.nil,RSl.nil,hp,fun q=>absurd q (by decide)⟩
  ·have hbig:16384<size:=by omega
   (apply Cd;apply x_g;apply Aw;apply Av;apply Ah;rfl;exact AG 3 Z Z;apply Au;rfl;rfl;apply Ad;rfl;refine Is Z (by omega) ?_;apply Ac;rfl;apply Ah;rfl;exact AG 3 Z Z;apply Ac;rfl;apply Bu;rfl;rfl;apply Aj;rfl;rfl;apply An;refine EO Z (by omega) ?_;apply Aw;apply Av);refine Bb 2 [nV] Z Z Z Z (Afe _) Z Z<|Bb 1 [nV] Z Z Z Z (Afe _) Z Z<|Bb 0 [vZ 2] Z Z Z Z (Afe _) Z Z<|BJ<|A6 [nV,nV,vZ 2] ⟨⟨_,_,Z,AG 2 Z Z⟩,⟨_,_,Z,AG 1 Z Z⟩,⟨_,_,Z,AG 0 Z Z⟩,trivial⟩ (d':=d) (L':=L) (Vs.drop (.cons _ (.cons _ (.cons _ (.cons _ (Afa _)))))) ⟨Le.refl _,_,_,s.tc,Z,RSl.nil,RSl.nil,hp,fun q=>absurd q (by decide)⟩
def NP(P:Program)(f:FuncId):Prop:=∀{d s dv pv L}{k size:Int},Pg d s dv pv L→
 Ao P f [pv,vZ k,vZ size] d L (Ret fun r d' L'=>Le d d'∧∃w tc,r=.tuple #[w,vZ (BU s k size).2.2]∧Ay d' w (BU s k size).2.1∧Pg d' {s with tc:=tc} dv pv L'∧((BU s k size).2.2=0→tc=s.tc+AN size.toNat))
def U7(a0:Nat):A9:=⟨21,[(.tmp 6),(.tmp 7)],(sR (o1 6 (.mv nS)<|o1 7 (.mv z0) .done) (sR (om 12 0<|om 13 1<|om 14 2<|oc 15 a0 [12,13,14]<|om 11 15<|oe 16 11 0<|oe 17 11 1<|oe 18 11 2<|om 8 16<|om 9 17<|om 10 18 .done) (sR (om 19 9<|om 20 10<|om 6 19<|om 7 20 .done) .ret)))⟩
def Abi(hd:dec P f=some (U7 f1))(h1:Kv P f1):NP P f:=by
 intro d s dv pv L k size hp;obtain⟨bp,rfl⟩:=hp.ptr;refine Bj hd<|Br Z<|A7 Z<|Ag Z<|Ab Z<|Ab Z<|CX (h1 (k:=k) (size:=size) hp) Z (fun u d2 L2 hl2 ⟨_,v,w,tc,e1,hv,hw,hp2,htc⟩=>?_);subst e1;refine AO Z<|AW Z Z Z Z<|Dl Z Z<|AK<|AK<|A7 Z<|AK<|Ab Z<|AK<|AS Z<|CJ Z Z (Afa _) ⟨hl2,w,tc,Z,hw,hp2,htc⟩
def Rl(P:Program)(f:FuncId):Prop:=∀{d s dv pv L}{k size:Int},Pg d s dv pv L→
 Ao P f [pv,vZ k,vZ size] d L (Ret fun r d' L'=>Le d d'∧∃w tc,r=.tuple #[w,vZ (BU s k size).2.2]∧D9 d' w (BU s k size).1∧Pg d' {s with tc:=tc} dv pv L')
def UA(a0:Nat):A9:=⟨21,[(.tmp 6),(.tmp 7)],(sR (o1 6 (.mv nS)<|o1 7 (.mv z0) .done) (sR (om 12 0<|om 13 1<|om 14 2<|oc 15 a0 [12,13,14]<|om 11 15<|oe 16 11 0<|oe 17 11 1<|oe 18 11 2<|om 8 16<|om 9 17<|om 10 18 .done) (sR (om 19 8<|om 20 10<|om 6 19<|om 7 20 .done) .ret)))⟩
def Aa8(hd:dec P f=some (UA f1))(h1:Kv P f1):Rl P f:=by
 intro d s dv pv L k size hp;obtain⟨bp,rfl⟩:=hp.ptr;refine Bj hd<|Br Z<|A7 Z<|Ag Z<|Ab Z<|Ab Z<|CX (h1 (k:=k) (size:=size) hp) Z (fun u d2 L2 hl2 ⟨_,v,w,tc,e1,hv,hw,hp2,htc⟩=>?_);subst e1;refine AO Z<|AW Z Z Z Z<|Dl Z Z<|AK<|AK<|A7 Z<|AK<|Ab Z<|AK<|AS Z<|CJ Z Z (Afa _) ⟨hl2,v,tc,Z,hv,hp2⟩
def Ee(s:PD):List Int→PD×Int
 |[]=>(s,0)
 |k::l=>if (s.drop k).2=0 then Ee (s.drop k).1 l else((s.drop k).1,(s.drop k).2)
def Eu(s:PD)(k size:Int):PD×Int:=if (BU s k size).2.2=0 then Ee s (BU s k size).1 else(s,(BU s k size).2.2)
def Nx(P:Program)(f:FuncId):Prop:=∀{d s dv pv L}{k size:Int},Pg d s dv pv L→
 Ao P f [pv,vZ k,vZ size] d L (Ret fun r d' L'=>Le d d'∧r=vZ (Eu s k size).2∧∃tc,Pg d' {(Eu s k size).1 with tc:=tc} dv pv L')
def VY{s:PD}{n:Nat}{k:Int}:PD.drop {s with tc:=n} k=({(s.drop k).1 with tc:=n},(s.drop k).2):=by
 unfold PD.drop;show(if s.kind k=1 then _ else if s.kind k=2 then _ else _)=_;by_cases h1:s.kind k=1
 ·simp only[if_pos h1]
 ·by_cases h2:s.kind k=2
  ·simp only[if_neg h1,if_pos h2]
  ·simp only[if_neg h1,if_neg h2]
def S5(a0 a1:Nat):A9:=⟨37,[(.tmp 6)],(sR (o1 6 (.mv z0) .done) (sR (om 14 0<|om 15 1<|om 16 2<|oc 17 a0 [14,15,16]<|om 13 17<|oe 18 13 0<|oe 19 13 1<|oe 20 13 2<|om 7 18<|om 8 19<|om 9 20 .done) (.seq (sR (om 21 9<|ob 22 .neq 21 z0 .done) (.cond 22 (sR (om 23 9<|om 6 23 .done) .ret) .skip)) (.seq (sR (om 24 7<|oL 25 24<|o1 26 (.mv z0) .done) (.block 0 (.loop (sR (ob 27 .lss 26 25 .done) (.seq (.cond 27 .skip (.exit 0)) (.seq (.block 1 (sR (oI 28 1 24 26<|ol 29 28<|om 11 29 .done) (sR (om 30 0<|om 31 11<|oc 32 a1 [30,31]<|om 12 32 .done) (sR (om 33 12<|ob 34 .neq 33 z0 .done) (.cond 34 (sR (om 35 12<|om 6 35 .done) .ret) .skip))))) (rG (ob 36 .add 26 z1<|om 26 36 .done)))))))) (sR (o1 6 (.mv z0) .done) .ret)))))⟩
set_option maxRecDepth 4000 in
def AaO{f2}(hd:dec P f=some (S5 f1 f2))(h1:Kv P f1)(h2:HF P f2):Nx P f:=by
 intro d s dv pv L k size hp;obtain⟨bp,rfl⟩:=hp.ptr;refine Bj hd<|AE Z<|Bo<|Ag Z<|Ab Z<|Ab Z<|CX (h1 (k:=k) (size:=size) hp) Z (fun u d2 L2 hl2 ⟨_,v,w,tc,e1,hv,hw,hp2,htc⟩=>?_);subst e1;by_cases hz:(BU s k size).2.2=0
 ·have hF:Eu s k size=Ee s (BU s k size).1:=by unfold Eu;rw[if_pos hz]
  rw[hF];generalize (BU s k size).1=l at hv;have hll:=hv.BW;refine AO Z<|AW Z Z Z Z<|Dl Z Z<|AK<|AK<|AR Z<|Ab Z<|AJ Z Z<|AT Z<|AZ<|AK<|BX Z (by assumption)<|AU Z<|Aq<|Cs (α:=Nat×PD) (fun x=>[(0,pZ bp),(24,v),(25,vZ l.length),(26,vZ x.1)])
   (fun x d' L'=>Le d2 d'∧x.1≤l.length∧Ee s l=Ee x.2 (l.drop x.1)∧Pg d' {x.2 with tc:=tc} dv (pZ bp) L') (fun x=>l.length - x.1) (0,s) ⟨Z,Z,Z,Z,trivial⟩ ⟨Le.refl _,Agd _,Z,hp2⟩ ?_
  rintro⟨i,s1⟩ ρ d' L' ⟨hle,hi,hD,hp'⟩;simp only at hi hD hp'⊢;have hv':=RSl.mono (R:=Bh) Ck hv hle;by_cases e:i<l.length
  ·rw[List.drop_eq_getElem_cons e,Ee] at hD;(refine Ak<|Au Z Z<|By<|B2 Z<|AH<|Aw<|Aq<|Ak<|Bq (sz:=1) (R:=Bh) (by rfl) (by assumption) (by rfl) Z (by omega) ?_;rintro _ _ _ _ _ ⟨rfl,_,_⟩;refine Ah Z (BO (by assumption) Z)<|A7 Z<|Ag Z<|Ab Z ?_);refine CX (h2 (k:=l[i]) hp') Z (fun u d3 L3 hl3 ⟨q1,q2⟩=>?_);rw[VY] at q1 q2;subst q1;by_cases hd0:(s1.drop l[i]).2=0
   ·rw[if_pos hd0] at hD;(refine A7 Z<|Ab Z<|AJ Z Z<|AT Z<|Av<|A4 Z Z<|AU Z ?_);exact⟨(i+1,(s1.drop l[i]).1),by simp only;omega,⟨Z,Z,Z,Z,trivial⟩,hle.trans hl3,e,hD,q2⟩
   ·rw[if_neg hd0] at hD;rw[hD];refine A7 Z<|Ab Z<|AJ Z Z<|A5 Z<|AE Z<|AS Z<|BZ Z (Afa _) ⟨(hl2.trans hle).trans hl3,Z,tc,q2⟩
  ·have:i=l.length:=by omega
   subst this;rw[List.drop_length,Ee] at hD;rw[hD];refine Ak<|Au Z Z<|By<|BM Z<|Bl<|AE Z<|BJ<|BZ Z (Afa _) ⟨hl2.trans hle,Z,tc,hp'⟩
 ·have hF:Eu s k size=(s,(BU s k size).2.2):=by unfold Eu;rw[if_neg hz]
  rw[hF];refine AO Z<|AW Z Z Z Z<|Dl Z Z<|AK<|AK<|AR Z<|Ab Z<|AJ Z Z<|A5 Z<|AE Z<|AS Z<|BZ Z (Afa _) ⟨hl2,Z,tc,hp2⟩
end Go.Gk.Chn
end
section
namespace Go.Gk.Node
open Go Go.Gk
attribute [local irreducible] gwp gws
variable{P:Program}{f f1:FuncId}{α:Type}
structure AB where
 leaf:Bool
 keys:List (List UInt8)
 vals:List (List UInt8)
 kids:List Int
def Cz(d:Aa)(cs:List Value)(n:AB):Prop:=
 ∃kv vv iv,cs=[.bool n.leaf,kv,vv,iv]∧DG d kv n.keys∧DG d vv n.vals∧D9 d iv n.kids
def DW(n:AB)(i:Nat):Nat:=(n.keys.getD i []).length
def FJ(n:AB)(i:Nat):Nat:=(n.vals.getD i []).length
def EJ(n:AB)(i:Nat):Nat:=if n.leaf then 2+DW n i+FJ n i else 1+DW n i
def PI(P:Program)(f:FuncId):Prop:=∀{d cs}{n:AB},Cz d cs n→∀i:Nat,i<n.keys.length→Dj P f [.agg cs.toArray,vZ i] d (vZ (EJ n i))
def OP:A9:=⟨44,[(.tmp 4)],(sR (o1 2 (.box 0)<|o1 4 (.mv z0) .done) (.seq (sR (oj 5 0 2<|ol 6 5<|om 7 6<|gT 8 7 1<|oT 9 7 (.fld 2 2)<|oT 10 7 (.ld none 9)<|oT 11 7 (.len 10)<|oT 12 7 (.bin .lss 8 11)<|gP 13 7 12 .done) (.cond 13 (.seq (.reg true (p1 14 (.fld 1 2)<|pl 15 14<|pm 16 1<|p1 17 (.idx 1 15 16)<|pl 18 17<|p1 19 (.len 18)<|p1 20 (.bin .add z2 19)<|p1 21 (.fld 2 2)<|pl 22 21<|pm 23 1<|p1 24 (.idx 1 22 23)<|pl 25 24<|p1 26 (.len 25)<|p1 27 (.bin .add 20 26) (.bar (pm 4 27 .done)))) .ret) .skip)) (.seq (sR (oj 28 0 2<|ol 29 28 .done) (.cond 29 (sR (oj 30 1 2<|ol 31 30<|om 32 1<|oI 33 1 31 32<|ol 34 33<|oL 35 34<|ob 36 .add z2 35<|om 4 36 .done) .ret) .skip)) (sR (oj 37 1 2<|ol 38 37<|om 39 1<|oI 40 1 38 39<|ol 41 40<|oL 42 41<|ob 43 .add z1 42<|om 4 43 .done) .ret))))⟩
def Ack(hd:dec P f=some OP):PI P f:=by
 intro d cs n hn i hi;obtain⟨lf,ks,vs,is⟩:=n;obtain⟨kv,vv,iv,rfl,hk,hv,hiv⟩:∃kv vv iv,cs=[.bool lf,kv,vv,iv]∧DG d kv ks∧DG d vv vs∧D9 d iv is:=hn;simp only at hi;refine Dp hd (Aff Z) ?_;obtain⟨ka,kc,kb,ko,rfl,kA,kS,kN,kl,km,kB,kx⟩:=hk;obtain⟨va,vc,vb,vo,rfl,vA,vS,vN,vl,vm,vB,vx⟩:=hv;obtain⟨c0,hc0,hD0,⟨u0,rfl,hu0⟩⟩:=kx i hi;replace hD0:=hD0.one;obtain⟨ua,uc,ub,uo,rfl,uA,uS,uN,ul,um,uB,ux⟩:=hu0;dsimp only[EJ,DW,FJ] at*;have hkl:(ks.getD i []).length=ks[i].length:=by simp[hi]
 rw[hkl];cases lf
 ·show gwp P _ _ _ _ _;(refine Ak<|CF Z (fun _ _=>AR Z<|Az Z Z Z<|Ad Z<|AQ Z Z<|AQ Z Z<|BP Z<|Aj Z Z<|Be Z<|AZ<|Az Z Z Z<|Be Z<|Ak<|Az Z Z Z<|Ab Z ?_);apply B3;rfl;rfl;rfl;omega;assumption;refine Ah Z (BR (by assumption))<|AA Z<|A4 Z Z<|AS Z ?_);(apply IF;rfl);simp
 ·by_cases hv:i<vs.length
  ·obtain⟨c1,hc1,hD1,⟨u1,rfl,hu1⟩⟩:=vx i hv;replace hD1:=hD1.one;obtain⟨wa,wc,wb,wo,rfl,wA,wS,wN,wl,wm,wB,wx⟩:=hu1;show gwp P _ _ _ _ _;(refine Ak<|CF Z (fun _ _=>AR Z<|Az Z Z Z<|Ad Z<|Ac Z<|Ab Z<|Ac Z<|Am Z<|Ac Z<|c_l Z Z Z<|Ac Z<|AA Z<|Ac Z<|Au Z Z<|As Z Z<|A5 Z<|Aw<|BI<|Az Z Z Z<|Ab Z ?_);apply B3;rfl;rfl;rfl;omega;assumption;refine Ah Z (BR (by assumption))<|AA Z<|A4 Z Z<|Az Z Z Z<|Ab Z ?_;apply B3;rfl;rfl;rfl;omega;assumption;refine Ah Z (BR (by assumption))<|AA Z<|A4 Z Z<|Cw<|AS Z ?_);(apply IF;rfl);simp[hv]
  ·show gwp P _ _ _ _ _;(refine Ak<|CF Z (fun _ _=>AR Z<|Az Z Z Z<|Ad Z<|Ac Z<|Ab Z<|Ac Z<|Am Z<|Ac Z<|c_l Z Z Z<|Ac Z<|AA Z<|Ac Z<|Au Z Z<|As Z Z<|AT Z<|AZ<|Az Z Z Z<|B7 Z<|Ak<|Az Z Z Z<|Ab Z ?_);apply B3;rfl;rfl;rfl;omega;assumption;refine Ah Z (BR (by assumption))<|AA Z<|A4 Z Z<|AS Z ?_);(apply IF;rfl);simp[Ago (Ajp hv)]
def BK(n:AB):Nat→Nat
 |0=>0
 |k+1=>BK n k+EJ n k
def Hi(n:AB):∀{k m:Nat},k≤m→BK n k≤BK n m:=by
 intro k m h;induction h with
 |refl=>exact Afe _
 |step _ ih=>simp only[BK];omega
def Bf(n:AB):Nat:=2+(if n.leaf then 0 else 2*n.kids.length)+BK n n.keys.length
def Mt(P:Program)(f:FuncId):Prop:=∀{d cs}{n:AB},Cz d cs n→Bf n≤1000000000000→Dj P f [.agg cs.toArray] d (vZ (Bf n))
def Vq(a0:Nat):A9:=⟨27,[(.tmp 2)],(sR (o1 1 (.box 0)<|o1 2 (.mv z0) .done) (sR (o1 3 (.mv z2) .done) (.seq (sR (oj 5 0 1<|ol 6 5<|o1 7 (.un .not 6) .done) (.cond 7 (rG (om 8 3<|oj 9 3 1<|ol 10 9<|oL 11 10<|ob 12 .mul z2 11<|ob 13 .add 8 12<|om 3 13 .done)) .skip)) (.seq (sR (oj 14 1 1<|ol 15 14<|oL 16 15<|o1 17 (.mv z0) .done) (.block 0 (.loop (sR (ob 18 .lss 17 16 .done) (.seq (.cond 18 .skip (.exit 0)) (.seq (.block 1 (sR (om 19 17<|om 4 19 .done) (rG (om 20 3<|o1 21 (.ld (some 4) 1)<|om 22 4<|oc 23 a0 [21,22]<|ob 24 .add 20 23<|om 3 24 .done)))) (rG (ob 25 .add 17 z1<|om 17 25 .done)))))))) (sR (om 26 3<|om 2 26 .done) .ret)))))⟩
def Ach{fc}(hd:dec P f=some (Vq fc))(hc:PI P fc):Mt P f:=by
 intro d cs n hn hb;have hn':=hn;obtain⟨lf,ks,vs,is⟩:=n;obtain⟨kv,vv,iv,rfl,hk,hv,hiv⟩:∃kv vv iv,cs=[.bool lf,kv,vv,iv]∧DG d kv ks∧DG d vv vs∧D9 d iv is:=hn;refine Dp hd (Aff Z) ?_;obtain⟨ka,kc,kb,ko,rfl,kA,kS,kN,kl,km,kB,kx⟩:=hk;obtain⟨ia,ic,ib,io,rfl,iA,iS,iN,il,im,iB,ix⟩:=hiv;have hm:∀k,k≤ks.length→BK ⟨lf,ks,vs,is⟩ k≤BK ⟨lf,ks,vs,is⟩ ks.length:=fun k hk=>Hi _ hk;simp only[Bf] at hb⊢;show gwp P _ _ _ _ _;cases lf
 ·obtain⟨z,hz⟩:∃z,z=2+(if false then 0 else 2*is.length):=⟨_,Z⟩
  simp only[Afh,if_false] at hz hb;(refine Ak<|CF Z (fun _ _=>A7 Z<|AR Z<|Az Z Z Z<|Bm Z<|B7 Z<|Av<|Ab Z<|Az Z Z Z<|AA Z<|JW Z Z (by omega) (by omega)<|A4 Z Z<|AR Z<|Az Z Z Z<|AA Z<|AU Z<|Aq ?_));rename_i b T;refine DF (α:=Nat) (fun k=>[(1,pZ b),(3,vZ (z+BK ⟨false,ks,vs,is⟩ k:Nat)),(16,vZ ks.length),(17,vZ k)])
   (fun _=>[bx b T [.bool false,.slice ka ks.length kc,vv,.slice ia is.length ic]]) (fun k=>k≤ks.length) (fun k=>ks.length - k) 0 ⟨Z,int_eq (by simp[BK,hz]),Z,Z,trivial⟩ Z (Agd _) ?_
  intro k ρ hk;have h1:=hm k hk;by_cases h:k<ks.length
  ·have h2:=hm (k+1) h;simp only[BK] at h1 h2 hb;refine Ak<|Au Z Z<|By<|B2 Z<|AH<|Aw<|Aq<|AE Z<|AU Z<|Av<|Ab Z<|Bk 0 Z Z Z<|Ab Z<|BH Z (hc hn' k h)<|A4 Z Z<|AU Z<|Av<|A4 Z Z<|AU Z ?_;exact⟨k+1,by omega,⟨Z,int_eq (by simp[BK];omega),Z,Z,trivial⟩,Z,Z,h⟩
  ·have e:k=ks.length:=by omega
   subst e;(refine Ak<|Au Z Z<|By<|BM Z<|Bl<|AE Z<|AS Z ?_);(apply IF;rfl);simp;omega
 ·obtain⟨z,hz⟩:∃z,z=2+(if true then 0 else 2*is.length):=⟨_,Z⟩
  simp only[if_true] at hz hb;(refine Ak<|CF Z (fun _ _=>A7 Z<|AR Z<|Az Z Z Z<|Bm Z<|Be Z<|AZ<|Az Z Z Z<|AA Z<|AU Z<|Aq ?_));rename_i b T;refine DF (α:=Nat) (fun k=>[(1,pZ b),(3,vZ (z+BK ⟨true,ks,vs,is⟩ k:Nat)),(16,vZ ks.length),(17,vZ k)])
   (fun _=>[bx b T [.bool true,.slice ka ks.length kc,vv,.slice ia is.length ic]]) (fun k=>k≤ks.length) (fun k=>ks.length - k) 0 ⟨Z,int_eq (by simp[BK,hz]),Z,Z,trivial⟩ Z (Agd _) ?_
  intro k ρ hk;have h1:=hm k hk;by_cases h:k<ks.length
  ·have h2:=hm (k+1) h;simp only[BK] at h1 h2 hb;refine Ak<|Au Z Z<|By<|B2 Z<|AH<|Aw<|Aq<|AE Z<|AU Z<|Av<|Ab Z<|Bk 0 Z Z Z<|Ab Z<|BH Z (hc hn' k h)<|A4 Z Z<|AU Z<|Av<|A4 Z Z<|AU Z ?_;exact⟨k+1,by omega,⟨Z,int_eq (by simp[BK];omega),Z,Z,trivial⟩,Z,Z,h⟩
  ·have e:k=ks.length:=by omega
   subst e;(refine Ak<|Au Z Z<|By<|BM Z<|Bl<|AE Z<|AS Z ?_);(apply IF;rfl);simp;omega
def kOk(ks:List (List UInt8))(i:Nat):Bool:=decide (1≤(ks.getD i []).length)&& decide ((ks.getD i []).length≤64)&&(i==0||Op.bytesLess (ks.getD (i - 1) []) (ks.getD i []))
def D5(ks:List (List UInt8)):Nat→Bool
 |0=>true
 |k+1=>D5 ks k && kOk ks k
def I5{ks}{k:Nat}(h:kOk ks k=false):∀{m:Nat},k<m→D5 ks m=false:=by
 intro m hm;induction hm with
 |refl=>simp[D5,h]
 |step _ ih=>simp[D5,ih]
def ID(v:List UInt8):Bool:=decide (v.length≤16)
def GZ(k:Int):Bool:=decide (0≤k∧k≤8191)
def Bd(n:AB):Bool:=D5 n.keys n.keys.length &&(if n.leaf then decide (n.vals.length=n.keys.length)&& decide (n.kids.length=0)&& n.vals.all ID
 else decide (n.vals.length=0)&& decide (n.kids.length=n.keys.length+1)&& n.kids.all GZ)
def Ny(P:Program)(f:FuncId):Prop:=∀{d cs}{n:AB},Cz d cs n→Dj P f [.agg cs.toArray] d (.bool (Bd n))
def F6(P:Program)(f:FuncId):Prop:=∀{α:Type}{R:Aa→List Value→α→Prop}{d:Aa}{v:Value}{xs:List α}{g:FuncId}{p:α→Bool},RSl 1 R d v xs→(∀u x,R d [u] x→Dj P g [u] d (.bool (p x)))→
 Ao P f [v,.func (.func g) #[] #[]] d [] (Ret fun r d' L'=>∃z:Int,r=vZ z∧(0≤z↔xs.any p=true)∧d'=d∧L'=[])
def E4(P:Program)(f:FuncId):Prop:=∀{α:Type}{R:Aa→List Value→α→Prop}{d:Aa}{v:Value}{xs:List α}{g:FuncId}{p:α→Bool},RSl 1 R d v xs→(∀u x,R d [u] x→Dj P g [u] d (.bool (p x)))→
 Dj P f [v,.func (.func g) #[] #[]] d (.bool (xs.any p))
def Gn(P:Program)(f:FuncId):Prop:=∀{d u v a b},Ay d u a→Ay d v b→Dj P f [u,v] d (vZ (Lib.compareBytes a b))
def Uf{p:α→Bool}{xs:List α}{i:Nat}(hi:i<xs.length)(h:(xs.take i).any p=false)(hx:p xs[i]=false):(xs.take (i+1)).any p=false:=by
 rw[Afw hi,List.any_append,h];simp[hx]
def YJ{p:α→Bool}{xs:List α}{i:Nat}(hi:i<xs.length)(hx:p xs[i]=true):xs.any p=true:=List.any_eq_true.2 ⟨xs[i],Agb hi,hx⟩
def HJ:A9:=⟨19,[(.tmp 4)],(sR (o1 4 (.mv z0) .done) (.seq (sR (om 6 0<|oL 7 6<|o1 8 (.mv z0) .done) (.block 0 (.loop (sR (ob 9 .lss 8 7 .done) (.seq (.cond 9 .skip (.exit 0)) (.seq (.block 1 (sR (om 10 8<|om 5 10 .done) (sR (om 11 1<|om 12 0<|om 13 5<|oI 14 1 12 13<|ol 15 14<|o1 16 (.callv 11 [15]) .done) (.cond 16 (sR (om 17 5<|om 4 17 .done) .ret) .skip)))) (rG (ob 18 .add 8 z1<|om 8 18 .done)))))))) (sR (o1 4 (.mv (kZ (-1))) .done) .ret)))⟩
def Mb(hd:dec P f=some HJ):F6 P f:=by
 intro α R d v xs g p hv hp;refine Dp hd (Aff Z) ?_;obtain⟨xa,xc,xb,xo,rfl,xA,xS,xN,xl,xm,xB,xx⟩:=hv;show gwp P _ _ _ _ _;refine AE Z<|BG<|Ae Z<|AA Z<|AU Z<|Aq<|DF (α:=Nat) (fun k=>[(0,.slice xa xs.length xc),(1,.func (.func g) #[] #[]),(7,vZ xs.length),(8,vZ k)])
  (fun _=>[]) (fun k=>k≤xs.length∧(xs.take k).any p=false) (fun k=>xs.length - k) 0 ⟨Z,Z,Z,Z,trivial⟩ Z ⟨Agd _,by simp⟩ ?_
 rintro k ρ ⟨hle,hk⟩;by_cases h:k<xs.length
 ·obtain⟨c0,hc0,hD0,hR0⟩:=xx k h;obtain⟨u,rfl⟩:∃u,c0=[u]:=by
   match c0,hc0 with|[u],_=>exact⟨u,Z⟩
  replace hD0:=hD0.one;(refine Ak<|Au Z Z<|By<|B2 Z<|AH<|Aw<|Aq<|AE Z<|A7 Z<|FZ Z<|Ae Z<|Ab Z ?_;apply B3;rfl;rfl;rfl;omega;assumption;apply Ah;rfl;exact BR (by assumption));refine V9 Z Z (hp u _ hR0) ?_;cases hx:p xs[k] with
  |true=>
   (refine B7 Z<|AE Z<|AS Z ?_)
   exact KX Z ⟨k,Z,by simp[YJ h hx],Z,Z⟩
  |false=>
   (refine Be Z<|Av<|A4 Z Z<|AU Z ?_)
   exact⟨k+1,by omega,⟨Z,Z,Z,int_eq (by omega),trivial⟩,Z,Z,by omega,Uf h hk hx⟩
 ·have e:k=xs.length:=by omega
  subst e;rw[Agz] at hk;refine Ak<|Au Z Z<|By<|BM Z<|Bl<|AE Z<|BJ<|KX Z ⟨-1,Z,by simp[hk],Z,Z⟩
def Hm(a0:Nat):A9:=⟨9,[(.tmp 4)],(sR (o1 4 (.mv (.const (.bool false))) .done) (sR (om 5 0<|om 6 1<|oc 7 a0 [5,6]<|ob 8 .geq 7 z0<|om 4 8 .done) .ret))⟩
def J5(hd:dec P f=some (Hm f1))(h1:F6 P f1):E4 P f:=by
 intro α R d v xs g p hv hp;refine Bj hd<|Ak<|AV Z<|Ak<|AK<|FZ Z<|Bz Z (h1 hv hp) (fun r d' L' _ ⟨z,hr,hz,hd',hL⟩=>?_);subst hr;subst hd';subst hL;(refine Dk Z Z<|Cc Z ?_);(apply Fa;rfl);cases h:xs.any p
 ·have:¬0≤z:=fun h0=>by rw[hz.1 h0] at h;cases h
  simpa using this
 ·simpa using hz.2 h
def Ip:A9:=⟨19,[(.tmp 4)],(sR (o1 4 (.mv z0) .done) (.seq (sR (om 6 0<|oL 7 6<|o1 8 (.mv z0) .done) (.block 0 (.loop (sR (ob 9 .lss 8 7 .done) (.seq (.cond 9 .skip (.exit 0)) (.seq (.block 1 (sR (om 10 8<|om 5 10 .done) (sR (om 11 1<|om 12 0<|om 13 5<|oI 14 1 12 13<|ol 15 14<|o1 16 (.callv 11 [15]) .done) (.cond 16 (sR (om 17 5<|om 4 17 .done) .ret) .skip)))) (rG (ob 18 .add 8 z1<|om 8 18 .done)))))))) (sR (o1 4 (.mv (kZ (-1))) .done) .ret)))⟩
def N4(hd:dec P f=some Ip):F6 P f:=by
 intro α R d v xs g p hv hp;refine Dp hd (Aff Z) ?_;obtain⟨xa,xc,xb,xo,rfl,xA,xS,xN,xl,xm,xB,xx⟩:=hv;show gwp P _ _ _ _ _;refine AE Z<|BG<|Ae Z<|AA Z<|AU Z<|Aq<|DF (α:=Nat) (fun k=>[(0,.slice xa xs.length xc),(1,.func (.func g) #[] #[]),(7,vZ xs.length),(8,vZ k)])
  (fun _=>[]) (fun k=>k≤xs.length∧(xs.take k).any p=false) (fun k=>xs.length - k) 0 ⟨Z,Z,Z,Z,trivial⟩ Z ⟨Agd _,by simp⟩ ?_
 rintro k ρ ⟨hle,hk⟩;by_cases h:k<xs.length
 ·obtain⟨c0,hc0,hD0,hR0⟩:=xx k h;obtain⟨u,rfl⟩:∃u,c0=[u]:=by
   match c0,hc0 with|[u],_=>exact⟨u,Z⟩
  replace hD0:=hD0.one;(refine Ak<|Au Z Z<|By<|B2 Z<|AH<|Aw<|Aq<|AE Z<|A7 Z<|FZ Z<|Ae Z<|Ab Z ?_;apply B3;rfl;rfl;rfl;omega;assumption;apply Ah;rfl;exact BR (by assumption));refine V9 Z Z (hp u _ hR0) ?_;cases hx:p xs[k] with
  |true=>
   (refine B7 Z<|AE Z<|AS Z ?_)
   exact KX Z ⟨k,Z,by simp[YJ h hx],Z,Z⟩
  |false=>
   (refine Be Z<|Av<|A4 Z Z<|AU Z ?_)
   exact⟨k+1,by omega,⟨Z,Z,Z,int_eq (by omega),trivial⟩,Z,Z,by omega,Uf h hk hx⟩
 ·have e:k=xs.length:=by omega
  subst e;rw[Agz] at hk;refine Ak<|Au Z Z<|By<|BM Z<|Bl<|AE Z<|BJ<|KX Z ⟨-1,Z,by simp[hk],Z,Z⟩
def HG(a0:Nat):A9:=⟨9,[(.tmp 4)],(sR (o1 4 (.mv (.const (.bool false))) .done) (sR (om 5 0<|om 6 1<|oc 7 a0 [5,6]<|ob 8 .geq 7 z0<|om 4 8 .done) .ret))⟩
def K1(hd:dec P f=some (HG f1))(h1:F6 P f1):E4 P f:=by
 intro α R d v xs g p hv hp;refine Bj hd<|Ak<|AV Z<|Ak<|AK<|FZ Z<|Bz Z (h1 hv hp) (fun r d' L' _ ⟨z,hr,hz,hd',hL⟩=>?_);subst hr;subst hd';subst hL;(refine Dk Z Z<|Cc Z ?_);(apply Fa;rfl);cases h:xs.any p
 ·have:¬0≤z:=fun h0=>by rw[hz.1 h0] at h;cases h
  simpa using this
 ·simpa using hz.2 h
def PW:A9:=⟨8,[(.tmp 4)],(sR (o1 4 (.mv z0) .done) (sR (om 5 0<|om 6 1<|o1 7 (.bcmp 5 6)<|om 4 7 .done) .ret))⟩
def Xt(hd:dec P f=some PW):Gn P f:=by
 intro d u v a b hu hv;refine Bj hd<|AE Z<|Bo<|AK<|AK<|Ac4 Z Z (by assumption) (by assumption)<|AS Z ?_;(apply IF;rfl);rfl
def Kp:A9:=⟨6,[(.tmp 2)],(sR (o1 2 (.mv (.const (.bool false))) .done) (sR (om 3 0<|oL 4 3<|ob 5 .gtr 4 (kZ 16)<|om 2 5 .done) .ret))⟩
def Yq(hd:dec P f=some Kp){d u l}(hu:RBs d [u] l):Dj P f [u] d (.bool (!ID l)):=by
 obtain⟨u',e,hu⟩:=hu;cases e;refine Bj hd<|Ak<|AV Z<|Ak<|AK<|BX Z (by assumption)<|Bu Z Z<|Cc Z ?_;(apply Fa;rfl);(rw[Akb];simp[ID];omega)
def Kl:A9:=⟨9,[(.tmp 2)],(sR (o1 2 (.mv (.const (.bool false))) .done) (sR (om 3 0<|ob 4 .lss 3 z0<|om 5 4<|gF 6 5 0<|oF 7 5 (.bin .geq 6 (kZ 8192))<|o1 8 (.pick 5 (.const (.bool true)) 7)<|om 2 8 .done) .ret))⟩
def YI(hd:dec P f=some Kl){d u}{k:Int}(hu:Bh d [u] k):Dj P f [u] d (.bool (!GZ k)):=by
 obtain⟨e,h1,h2⟩:=hu;cases e;refine Bj hd ?_;by_cases h:k<0
 ·(refine Ak<|AV Z<|AE Z<|Au Z Z<|Ad Z<|Bx Z<|AQ Z Z<|As Z Z<|Cc Z ?_);(apply Fa;rfl);(rw[Akb];simp[GZ];omega)
 ·by_cases h':k≥8192
  ·(refine Ak<|AV Z<|AE Z<|Au Z Z<|Ad Z<|Bs Z<|Ac Z<|Ab Z<|Ac Z<|Dk Z Z<|Aj Z Z<|Cc Z ?_);(apply Fa;rfl);(rw[Akb];simp[GZ];omega)
  ·(refine Ak<|AV Z<|AE Z<|Au Z Z<|Ad Z<|Bs Z<|Ac Z<|Ab Z<|Ac Z<|Dk Z Z<|Aj Z Z<|Cc Z ?_);(apply Fa;rfl);(rw[Akb];simp[GZ];omega)
def Tp(a0 a1 a2 a3 a4:Nat):A9:=⟨78,[(.tmp 2)],(sR (o1 1 (.box 0)<|o1 2 (.mv (.const (.bool false))) .done) (.seq (sR (oj 5 1 1<|ol 6 5<|oL 7 6<|o1 8 (.mv z0) .done) (.block 0 (.loop (sR (ob 9 .lss 8 7 .done) (.seq (.cond 9 .skip (.exit 0)) (.seq (.block 1 (sR (om 10 8<|oI 11 1 6 8<|ol 12 11<|om 3 10<|om 4 12 .done) (sR (om 13 4<|oL 14 13<|ob 15 .lss 14 z1<|om 16 15<|gF 17 16 4<|oF 18 16 (.len 17)<|oF 19 16 (.bin .gtr 18 (kZ 64))<|o1 20 (.pick 16 (.const (.bool true)) 19)<|om 21 20<|gF 22 21 3<|oF 23 21 (.bin .gtr 22 z0)<|gF 24 21 23<|oT 25 24 (.fld 1 1)<|oT 26 24 (.ld none 25)<|gT 27 24 3<|oT 28 24 (.bin .sub 27 z1)<|oT 29 24 (.idx 1 26 28)<|oT 30 24 (.ld none 29)<|gT 31 24 4<|oT 32 24 (.call a0 [30,31])<|oT 33 24 (.bin .geq 32 z0)<|oF 34 21 (.pick 24 33 (.const (.bool false)))<|o1 35 (.pick 21 (.const (.bool true)) 34) .done) (.cond 35 (sR (o1 2 (.mv (.const (.bool false))) .done) .ret) .skip)))) (rG (ob 36 .add 8 z1<|om 8 36 .done)))))))) (.seq (sR (oj 37 0 1<|ol 38 37 .done) (.cond 38 (sR (oj 39 2 1<|ol 40 39<|oL 41 40<|oj 42 1 1<|ol 43 42<|oL 44 43<|ob 45 .eql 41 44<|om 46 45<|oT 47 46 (.fld 3 1)<|oT 48 46 (.ld none 47)<|oT 49 46 (.len 48)<|oT 50 46 (.bin .eql 49 z0)<|gP 51 46 50<|om 52 51<|oT 53 52 (.fld 2 1)<|oT 54 52 (.ld none 53)<|oT 55 52 (.call a1 [54,(.func a2)])<|oT 56 52 (.un .not 55)<|gP 57 52 56<|om 2 57 .done) .ret) .skip)) (sR (oj 58 2 1<|ol 59 58<|oL 60 59<|ob 61 .eql 60 z0<|om 62 61<|oT 63 62 (.fld 3 1)<|oT 64 62 (.ld none 63)<|oT 65 62 (.len 64)<|oT 66 62 (.fld 1 1)<|oT 67 62 (.ld none 66)<|oT 68 62 (.len 67)<|oT 69 62 (.bin .add 68 z1)<|oT 70 62 (.bin .eql 65 69)<|gP 71 62 70<|om 72 71<|oT 73 72 (.fld 3 1)<|oT 74 72 (.ld none 73)<|oT 75 72 (.call a3 [74,(.func a4)])<|oT 76 72 (.un .not 75)<|gP 77 72 76<|om 2 77 .done) .ret))))⟩
def Aae{f2 f3 f4 f5}(hd:dec P f=some (Tp f1 f2 f3 f4 f5))(h1:Gn P f1)(h2:E4 P f2)(h3:dec P f3=some Kp)(h4:E4 P f4)(h5:dec P f5=some Kl):Ny P f:=by
 intro d cs n hn;obtain⟨lf,ks,vs,is⟩:=n;obtain⟨kv,vv,iv,rfl,hk,hv,hiv⟩:∃kv vv iv,cs=[.bool lf,kv,vv,iv]∧DG d kv ks∧DG d vv vs∧D9 d iv is:=hn;refine Dp hd (Aff Z) ?_;have hv':=hv;have hiv':=hiv;obtain⟨ka,kc,kb,ko,rfl,kA,kS,kN,kl,km,kB,kx⟩:=hk;show gwp P _ _ _ _ _;(refine Ak<|CF Z (fun _ _=>AV Z<|AZ<|Az Z Z Z<|AA Z<|AU Z<|Aq ?_));rename_i b T;refine DF (α:=Nat) (fun k=>[(1,pZ b),(6,.slice ka ks.length kc),(7,vZ ks.length),(8,vZ k)])
  (fun _=>[bx b T [.bool lf,.slice ka ks.length kc,vv,iv]]) (fun k=>k≤ks.length∧D5 ks k=true) (fun k=>ks.length - k) 0 ⟨Z,Z,Z,Z,trivial⟩ Z ⟨Agd _,Z⟩ ?_
 rintro k ρ ⟨hle,hok⟩;by_cases h:k<ks.length
 ·obtain⟨c0,hc0,hD0,⟨u0,rfl,hu0⟩⟩:=kx k h;replace hD0:=hD0.one;have hkl:ks.getD k []=ks[k]:=by simp[h]
  have hnext:kOk ks k=true→∃x',ks.length - x'<ks.length - k∧x'=k+1∧(x'≤ks.length∧D5 ks x'=true):=fun hk=>⟨k+1,by omega,Z,by omega,by simp[D5,hok,hk]⟩
  by_cases h1':ks[k].length<1
  ·have hf:kOk ks k=false:=by rw[kOk,hkl];simp;omega
   (refine Ak<|Au Z Z<|By<|B2 Z<|AH<|Aw<|Aq<|AE Z ?_;apply B3;rfl;rfl;rfl;omega;assumption;refine Ah Z (BR (by assumption))<|Ab Z<|AK<|Bo<|AK<|BX Z (by assumption)<|Au Z Z<|Ad Z<|Bx Z<|AQ Z Z<|BP Z<|As Z Z<|Ad Z<|AQ Z Z<|BP Z<|Cp Z<|Cp Z<|Cp Z<|Cp Z<|Cp Z<|Cp Z<|Cp Z<|Cp Z<|Cp Z<|BP Z<|As Z Z<|B7 Z<|Ak<|Cc Z ?_);(apply Fa;rfl);simp[Bd,I5 hf h]
  ·by_cases h2':ks[k].length>64
   ·have hf:kOk ks k=false:=by rw[kOk,hkl];simp;omega
    (refine Ak<|Au Z Z<|By<|B2 Z<|AH<|Aw<|Aq<|AE Z ?_;apply B3;rfl;rfl;rfl;omega;assumption;refine Ah Z (BR (by assumption))<|Ab Z<|AK<|Bo<|AK<|BX Z (by assumption)<|Au Z Z<|Ad Z<|Bs Z<|Ac Z<|AK<|Ac Z<|BX Z (by assumption)<|Ac Z<|Bu Z Z<|Aj Z Z<|Ad Z<|Bx Z<|AQ Z Z<|BP Z<|Cp Z<|Cp Z<|Cp Z<|Cp Z<|Cp Z<|Cp Z<|Cp Z<|Cp Z<|Cp Z<|BP Z<|As Z Z<|B7 Z<|Ak<|Cc Z ?_);(apply Fa;rfl);simp[Bd,I5 hf h]
   ·cases k with
    |zero=>
     (refine Ak<|Au Z Z<|By<|B2 Z<|AH<|Aw<|Aq<|AE Z ?_;apply B3;rfl;rfl;rfl;omega;assumption;refine Ah Z (BR (by assumption))<|Ab Z<|AK<|Bo<|AK<|BX Z (by assumption)<|Au Z Z<|Ad Z<|Bs Z<|Ac Z<|AK<|Ac Z<|BX Z (by assumption)<|Ac Z<|Bu Z Z<|Aj Z Z<|Ad Z<|Bs Z<|Ac Z<|Ab Z<|Ac Z<|Bu Z Z<|Ac Z<|Ad Z<|AQ Z Z<|AQ Z Z<|AQ Z Z<|AQ Z Z<|BP Z<|Ac Z<|Aj Z Z<|Aj Z Z<|Be Z<|Av<|A4 Z Z<|AU Z ?_)
     obtain⟨x',e1,rfl,e2⟩:=hnext (by rw[kOk,hkl];simp;omega)
     exact⟨_,e1,⟨Z,Z,Z,int_eq (by omega),trivial⟩,Z,Z,e2⟩
    |succ j=>
     obtain⟨c1,hc1,hD1,⟨u1,rfl,hu1⟩⟩:=kx j (by omega)
     replace hD1:=hD1.one
     have hjl:ks.getD j []=ks[j]:=by simp[show j<ks.length by omega]
     have hc:=Gl ks[j] ks[j+1]
     cases hb:Op.bytesLess ks[j] ks[j+1] with
     |true=>
      have hb':Lib.compareBytes ks[j] ks[j+1]<0:=hc.2 hb
      (refine Ak<|Au Z Z<|By<|B2 Z<|AH<|Aw<|Aq<|AE Z ?_;apply B3;rfl;rfl;rfl;omega;assumption;refine Ah Z (BR (by assumption))<|Ab Z<|AK<|Bo<|AK<|BX Z (by assumption)<|Au Z Z<|Ad Z<|Bs Z<|Ac Z<|AK<|Ac Z<|BX Z (by assumption)<|Ac Z<|Bu Z Z<|Aj Z Z<|Ad Z<|Bs Z<|Ac Z<|Ab Z<|Ac Z<|Bu Z Z<|Ac Z<|Ad Z<|Bx Z<|Ac Z<|Am Z<|Ac Z<|c_l Z Z Z<|Ac Z<|Ab Z<|Ac Z<|DT Z Z<|Ac Z ?_)
      refine B3 j Z Z (by omega) (by omega) kA ?_
      (refine Ac Z<|Ah Z (BR (by assumption))<|Ac Z<|AK<|Ac Z ?_)
      refine BH Z (h1 hu1 hu0) ?_
      (refine Ac Z<|Dk Z Z<|Ac Z<|As Z Z<|Aj Z Z<|AT Z<|Av<|A4 Z Z<|AU Z ?_)
      obtain⟨x',e1,rfl,e2⟩:=hnext (by rw[kOk,hkl,Ahp,hjl,hb];simp;omega)
      exact⟨_,e1,⟨Z,Z,Z,int_eq (by omega),trivial⟩,Z,Z,e2⟩
     |false=>
      have hb':¬Lib.compareBytes ks[j] ks[j+1]<0:=fun h0=>by rw[hc.1 h0] at hb;cases hb
      have hf:kOk ks (j+1)=false:=by rw[kOk,hkl,Ahp,hjl,hb];simp
      (refine Ak<|Au Z Z<|By<|B2 Z<|AH<|Aw<|Aq<|AE Z ?_;apply B3;rfl;rfl;rfl;omega;assumption;refine Ah Z (BR (by assumption))<|Ab Z<|AK<|Bo<|AK<|BX Z (by assumption)<|Au Z Z<|Ad Z<|Bs Z<|Ac Z<|AK<|Ac Z<|BX Z (by assumption)<|Ac Z<|Bu Z Z<|Aj Z Z<|Ad Z<|Bs Z<|Ac Z<|Ab Z<|Ac Z<|Bu Z Z<|Ac Z<|Ad Z<|Bx Z<|Ac Z<|Am Z<|Ac Z<|c_l Z Z Z<|Ac Z<|Ab Z<|Ac Z<|DT Z Z<|Ac Z ?_)
      refine B3 j Z Z (by omega) (by omega) kA ?_
      (refine Ac Z<|Ah Z (BR (by assumption))<|Ac Z<|AK<|Ac Z ?_)
      refine BH Z (h1 hu1 hu0) ?_
      (refine Ac Z<|Dk Z Z<|Ac Z<|As Z Z<|Aj Z Z<|A5 Z<|Ak<|Cc Z ?_)
      (apply Fa;rfl)
      simp[Bd,I5 hf h]
 ·have e:k=ks.length:=by omega
  subst e;have ea:∀l:List (List UInt8),(!l.any fun v=> !ID v)=l.all ID:=fun l=>by simp[List.any_eq_not_all_not]
  have ei:∀l:List Int,(!l.any fun v=> !GZ v)=l.all GZ:=fun l=>by simp[List.any_eq_not_all_not]
  cases lf
  ·by_cases h1':vs.length=0
   ·by_cases h2':is.length=ks.length+1
    ·refine Ak<|Au Z Z<|By<|BM Z<|Bl<|AZ<|Az Z Z Z<|Be Z<|Ak<|Az Z Z Z<|BX Z (by assumption)<|AI Z Z<|Ad Z<|Bx Z<|Ac Z<|Am Z<|Ac Z<|c_l Z Z Z<|Ac Z<|BX Z (by assumption)<|Ac Z<|Am Z<|Ac Z<|c_l Z Z Z<|Ac Z<|AA Z<|Ac Z<|A4 Z Z<|Ac Z<|AI Z Z<|As Z Z<|Ad Z<|Bx Z<|Ac Z<|Am Z<|Ac Z<|c_l Z Z Z<|Ac Z<|BH Z (h4 hiv' (fun u x hx=>YI h5 hx))<|Ac Z<|Bm Z<|As Z Z<|Cc Z ?_;(apply Fa;rfl);rw[ei];simp[Bd,hok,h1',h2']
    ·(refine Ak<|Au Z Z<|By<|BM Z<|Bl<|AZ<|Az Z Z Z<|Be Z<|Ak<|Az Z Z Z<|BX Z (by assumption)<|AI Z Z<|Ad Z<|Bx Z<|Ac Z<|Am Z<|Ac Z<|c_l Z Z Z<|Ac Z<|BX Z (by assumption)<|Ac Z<|Am Z<|Ac Z<|c_l Z Z Z<|Ac Z<|AA Z<|Ac Z<|A4 Z Z<|Ac Z<|AI Z Z<|As Z Z<|Ad Z<|Bs Z<|AQ Z Z<|AQ Z Z<|Aj Z Z<|Cc Z ?_);(apply Fa;rfl);(first|(simp[Bd,hok,h1',h2'];done)|(simp[Bd,hok,h1',h2'];omega))
   ·(refine Ak<|Au Z Z<|By<|BM Z<|Bl<|AZ<|Az Z Z Z<|Be Z<|Ak<|Az Z Z Z<|BX Z (by assumption)<|AI Z Z<|Ad Z<|Bs Z<|AQ Z Z<|AQ Z Z<|AQ Z Z<|AQ Z Z<|Aj Z Z<|Ad Z<|AQ Z Z<|AQ Z Z<|Aj Z Z<|Cc Z ?_);(apply Fa;rfl);(first|(simp[Bd,hok,h1'];done)|(simp[Bd,hok,h1'];omega))
  ·by_cases h2':vs.length=ks.length
   ·by_cases h1':is.length=0
    ·refine Ak<|Au Z Z<|By<|BM Z<|Bl<|AZ<|Az Z Z Z<|B7 Z<|Ak<|Az Z Z Z<|BX Z (by assumption)<|Az Z Z Z<|AA Z<|AI Z Z<|Ad Z<|Bx Z<|Ac Z<|Am Z<|Ac Z<|c_l Z Z Z<|Ac Z<|BX Z (by assumption)<|Ac Z<|AI Z Z<|As Z Z<|Ad Z<|Bx Z<|Ac Z<|Am Z<|Ac Z<|c_l Z Z Z<|Ac Z<|BH Z (h2 hv' (fun u x hx=>Yq h3 hx))<|Ac Z<|Bm Z<|As Z Z<|Cc Z ?_;(apply Fa;rfl);rw[ea];simp[Bd,hok,h1',h2']
    ·(refine Ak<|Au Z Z<|By<|BM Z<|Bl<|AZ<|Az Z Z Z<|B7 Z<|Ak<|Az Z Z Z<|BX Z (by assumption)<|Az Z Z Z<|AA Z<|AI Z Z<|Ad Z<|Bx Z<|Ac Z<|Am Z<|Ac Z<|c_l Z Z Z<|Ac Z<|BX Z (by assumption)<|Ac Z<|AI Z Z<|As Z Z<|Ad Z<|Bs Z<|AQ Z Z<|AQ Z Z<|Aj Z Z<|Cc Z ?_);(apply Fa;rfl);(first|(simp[Bd,hok,h1',h2'];done)|(simp[Bd,hok,h1',h2'];omega))
   ·(refine Ak<|Au Z Z<|By<|BM Z<|Bl<|AZ<|Az Z Z Z<|B7 Z<|Ak<|Az Z Z Z<|BX Z (by assumption)<|Az Z Z Z<|AA Z<|AI Z Z<|Ad Z<|Bs Z<|AQ Z Z<|AQ Z Z<|Aj Z Z<|Ad Z<|AQ Z Z<|AQ Z Z<|Aj Z Z<|Cc Z ?_);(apply Fa;rfl);(first|(simp[Bd,hok,h2'];done)|(simp[Bd,hok,h2'];omega))
def Bt(n:AB):Bool:=Bd n && decide (Bf n≤256)
def IV(P:Program)(f:FuncId):Prop:=∀{d cs}{n:AB},Cz d cs n→Bf n≤1000000000000→Dj P f [.agg cs.toArray] d (.bool (Bt n))
def SW(a0 a1:Nat):A9:=⟨10,[(.tmp 2)],(sR (o1 1 (.box 0)<|o1 2 (.mv (.const (.bool false))) .done) (sR (o1 3 (.ld (some 4) 1)<|oc 4 a0 [3]<|om 5 4<|oT 6 5 (.ld (some 4) 1)<|oT 7 5 (.call a1 [6])<|oT 8 5 (.bin .leq 7 (kZ 256))<|gP 9 5 8<|om 2 9 .done) .ret))⟩
def OJ{f2}(hd:dec P f=some (SW f1 f2))(h1:Ny P f1)(h2:Mt P f2):IV P f:=by
 intro d cs n hn hb;refine Dp hd (Aff Z) ?_;have hn':=hn;obtain⟨kv,vv,iv,rfl,hk,hv,hiv⟩:∃kv vv iv,cs=[.bool n.leaf,kv,vv,iv]∧DG d kv n.keys∧DG d vv n.vals∧D9 d iv n.kids:=hn;show gwp P _ _ _ _ _;(refine Ak<|CF Z (fun _ _=>AV Z<|Ak<|Bk 0 Z Z Z ?_));refine BH Z (h1 hn') ?_;cases hs:Bd n with
 |false=>
  (refine Ad Z<|AQ Z Z<|BP Z<|Aj Z Z<|Cc Z ?_)
  (apply Fa;rfl)
  simp[Bt,hs]
 |true=>
  (refine Ad Z<|Ac Z<|Bk 0 Z Z Z<|Ac Z ?_)
  refine BH Z (h2 hn' hb) ?_
  (refine Ac Z<|G3 Z Z<|As Z Z<|Cc Z ?_)
  (apply Fa;rfl)
  (rw[Akb];simp[Bt,hs];omega)
def Jh{α:Type}{p:α→Bool}:∀{l:List α}{i:Nat},i≤l.length→(∀j (h:j<l.length),j<i→p l[j]=true)→(∀h:i<l.length,p l[i]=false)→(l.takeWhile p).length=i
 |[],i,hi,_,_=>by simp at hi;subst hi;rfl
 |a::l,0,_,_,h=>by
  have:=h (by simp);simp at this;simp[List.takeWhile,this]
 |a::l,i+1,hi,h1,h2=>by
  have ha:p a=true:=h1 0 (by simp) (by omega);have:=Jh (p:=p) (l:=l) (i:=i) (by simpa using hi) (fun j h hj=>by have:=h1 (j+1) (by simpa using h) (by omega);simpa using this) (fun h=>by have:=h2 (by simpa using h);simpa using this);simp[List.takeWhile,ha,this]
def AbR{p:α→Bool}:∀{l:List α}{j:Nat}(hj:j<l.length),j<(l.takeWhile p).length→p l[j]=true
 |[],j,hj,_=>by simp at hj
 |a::l,j,hj,h=>by
  simp only[List.takeWhile_cons] at h;by_cases ha:p a=true
  ·cases j with
   |zero=>exact ha
   |succ j=>simp only[ha,if_true,Afq] at h;exact AbR (l:=l) (by simpa using hj) (by omega)
  ·simp[ha] at h
def VS{p:α→Bool}:∀{l:List α}{i:Nat}(_:i=(l.takeWhile p).length) (hi:i<l.length),p l[i]=false
 |[],i,_,hi=>by simp at hi
 |a::l,i,e,hi=>by
  simp only[List.takeWhile_cons] at e;by_cases ha:p a=true
  ·simp only[ha,if_true,Afq] at e;subst e;exact VS (l:=l) Z (by simpa using hi)
  ·simp[ha] at e;subst e;simpa using ha
def Sv{α:Type}{p:α→Bool}:∀(l:List α),(l.takeWhile p).length≤l.length
 |[]=>by simp
 |a::l=>by
  simp only[List.takeWhile];split
  ·have:=Sv (p:=p) l;simp;omega
  ·simp
def QA{α:Type}{p:α→Bool}(x:α):∀(l:List α),((l++[x]).takeWhile p).length=if (l.takeWhile p).length=l.length∧p x=true then l.length+1 else(l.takeWhile p).length
 |[]=>by cases h:p x<;>simp[List.takeWhile,h]
 |a::l=>by
  have ih:=QA (p:=p) x l;simp only[List.cons_append,List.takeWhile_cons];by_cases h:p a=true
  ·simp only[h,if_true,Afq,ih,Nat.add_right_cancel_iff];split<;>rfl
  ·simp[h]
def leB(a b:List UInt8):Bool:=Op.bytesLess a b||decide (a=b)
def Nr(P:Program)(f:FuncId):Prop:=∀{d u v a b},Ay d u a→Ay d v b→Dj P f [u,v] d (.bool (decide (a=b)))
def Sl:A9:=⟨10,[(.tmp 4)],(sR (o1 4 (.mv (.const (.bool false))) .done) (sR (om 5 0<|o1 6 (.b2s 5)<|om 7 1<|o1 8 (.b2s 7)<|ob 9 .eql 6 8<|om 4 9 .done) .ret))⟩
def Aau(hd:dec P f=some Sl):Nr P f:=by
 intro d u v a b hu hv;refine Bj hd<|Ak<|AV Z<|Ak<|AK<|Bv Z (by assumption)<|AK<|Bv Z (by assumption)<|Qq Z Z<|Cc Z ?_;(apply Fa;rfl);rfl
def low(n:AB)(key:List UInt8):Nat:=(n.keys.takeWhile (Op.bytesLess · key)).length
def findD(n:AB)(key:List UInt8):Nat×Bool:=
 if n.leaf then(low n key,decide (low n key<n.keys.length)&& decide (n.keys.getD (low n key) []=key)) else(low n key+((n.keys.drop (low n key)).takeWhile (fun k=>decide (k=key))).length,false)
def GQ(n:AB)(key:List UInt8):Nat×Bool:=
 if n.leaf then(low n key,decide (low n key<n.keys.length)&& decide (n.keys.getD (low n key) []=key)) else((n.keys.takeWhile (leB · key)).length,false)
def I6(P:Program)(f:FuncId)(F:AB→List UInt8→Nat×Bool):Prop:=∀{d cs}{n:AB}{v key},Cz d cs n→Ay d v key→
 Dj P f [.agg cs.toArray,v] d (.tuple #[vZ (F n key).1,.bool (F n key).2])
def Vt(a0 a1:Nat):A9:=⟨60,[(.tmp 4),(.tmp 5)],(sR (o1 2 (.box 0)<|o1 4 (.mv z0)<|o1 5 (.mv (.const (.bool false))) .done) (sR (o1 6 (.mv z0) .done) (.seq (.block 0 (.loop (.seq (sR (om 8 6<|oj 9 1 2<|ol 10 9<|oL 11 10<|ob 12 .lss 8 11<|om 13 12<|oT 14 13 (.fld 1 2)<|oT 15 13 (.ld none 14)<|gT 16 13 6<|oT 17 13 (.idx 1 15 16)<|oT 18 13 (.ld none 17)<|gT 19 13 1<|oT 20 13 (.call a0 [18,19])<|oT 21 13 (.bin .lss 20 z0)<|gP 22 13 21 .done) (.cond 22 .skip (.exit 0))) (.block 1 (rG (om 23 6<|ob 24 .add 23 z1<|om 6 24 .done)))))) (sR (om 25 6<|oj 26 1 2<|ol 27 26<|oL 28 27<|ob 29 .lss 25 28<|om 30 29<|oT 31 30 (.fld 1 2)<|oT 32 30 (.ld none 31)<|gT 33 30 6<|oT 34 30 (.idx 1 32 33)<|oT 35 30 (.ld none 34)<|gT 36 30 1<|oT 37 30 (.call a1 [35,36])<|gP 38 30 37<|om 7 38 .done) (.seq (sR (oj 39 0 2<|ol 40 39 .done) (.cond 40 (sR (om 41 6<|om 42 7<|om 4 41<|om 5 42 .done) .ret) .skip)) (.seq (.block 2 (.loop (.seq (sR (om 43 6<|oj 44 1 2<|ol 45 44<|oL 46 45<|ob 47 .lss 43 46<|om 48 47<|oT 49 48 (.fld 1 2)<|oT 50 48 (.ld none 49)<|gT 51 48 6<|oT 52 48 (.idx 1 50 51)<|oT 53 48 (.ld none 52)<|gT 54 48 1<|oT 55 48 (.call a1 [53,54])<|gP 56 48 55 .done) (.cond 56 .skip (.exit 2))) (.block 3 (rG (om 57 6<|ob 58 .add 57 z1<|om 6 58 .done)))))) (sR (om 59 6<|om 4 59<|o1 5 (.mv (.const (.bool false))) .done) .ret)))))))⟩
def Acw{f2}(hd:dec P f=some (Vt f1 f2))(h1:Gn P f1)(h2:Nr P f2):I6 P f findD:=by
 intro d cs n v key hn hkey;obtain⟨lf,ks,vs,is⟩:=n;obtain⟨kv,vv,iv,rfl,hk,hv,hiv⟩:∃kv vv iv,cs=[.bool lf,kv,vv,iv]∧DG d kv ks∧DG d vv vs∧D9 d iv is:=hn;refine Dp hd (Aff Z) ?_;obtain⟨ka,kc,kb,ko,rfl,kA,kS,kN,kl,km,kB,kx⟩:=hk;show gwp P _ _ _ _ _;(refine Ak<|CF Z (fun _ _=>Ab Z<|AV Z<|AE Z<|By<|Aq ?_));rename_i b T;refine DF (α:=Nat) (fun k=>[(1,v),(2,pZ b),(6,vZ k)])
  (fun _=>[bx b T [.bool lf,.slice ka ks.length kc,vv,iv]]) (fun k=>k≤ks.length∧∀j (h:j<ks.length),j<k→Op.bytesLess ks[j] key=true) (fun k=>ks.length - k) 0 ⟨Z,Z,Z,trivial⟩ Z ⟨Agd _,fun j _ h=>by omega⟩ ?_
 rintro k ρ ⟨hle,hlt⟩;have hstop:(∀h:k<ks.length,Op.bytesLess ks[k] key=false)→low ⟨lf,ks,vs,is⟩ key=k:=fun h=>Jh hle hlt h;by_cases h:k<ks.length
 ·obtain⟨c0,hc0,hD0,⟨u0,rfl,hu0⟩⟩:=kx k h;replace hD0:=hD0.one;have hc:=Gl ks[k] key;cases hb:Op.bytesLess ks[k] key with
  |true=>
   have hb':Lib.compareBytes ks[k] key<0:=hc.2 hb
   (refine AZ<|Ab Z<|Az Z Z Z<|AA Z<|Au Z Z<|Ad Z<|Bx Z<|Ac Z<|Am Z<|Ac Z<|c_l Z Z Z<|Ac Z<|Ab Z<|Ac Z ?_;apply B3;rfl;rfl;rfl;omega;assumption;refine Ac Z<|Ah Z (BR (by assumption))<|Ac Z<|AK<|Ac Z ?_)
   refine BH Z (h1 hu0 hkey) ?_
   (refine Ac Z<|Au Z Z<|As Z Z<|A5 Z<|AH<|Aq<|Av<|Ab Z<|A4 Z Z<|AU Z ?_)
   refine⟨k+1,by omega,⟨Z,Z,int_eq (by omega),trivial⟩,Z,Z,by omega,fun j hj hjk=>?_⟩
   by_cases e:j=k
   ·subst e;exact hb
   ·exact hlt j hj (by omega)
  |false=>
   have hb':¬Lib.compareBytes ks[k] key<0:=fun h0=>by rw[hc.1 h0] at hb;cases hb
   have hl:=hstop (fun _=>hb)
   cases lf
   ·(refine AZ<|Ab Z<|Az Z Z Z<|AA Z<|Au Z Z<|Ad Z<|Bx Z<|Ac Z<|Am Z<|Ac Z<|c_l Z Z Z<|Ac Z<|Ab Z<|Ac Z ?_;apply B3;rfl;rfl;rfl;omega;assumption;refine Ac Z<|Ah Z (BR (by assumption))<|Ac Z<|AK<|Ac Z ?_)
    refine BH Z (h1 hu0 hkey) ?_
    (refine Ac Z<|Au Z Z<|As Z Z<|EY Z<|Bl<|AE Z<|Az Z Z Z<|AA Z<|Au Z Z<|Ad Z<|Bx Z<|Ac Z<|Am Z<|Ac Z<|c_l Z Z Z<|Ac Z<|Ab Z<|Ac Z ?_;apply B3;rfl;rfl;rfl;omega;assumption;refine Ac Z<|Ah Z (BR (by assumption))<|Ac Z<|AK<|Ac Z ?_)
    refine BH Z (h2 hu0 hkey) ?_
    (refine As Z Z<|AV Z<|AZ<|Az Z Z Z<|Be Z<|Aw<|Aq ?_)
    refine DF (α:=Nat) (fun j=>[(1,v),(2,pZ b),(6,vZ j)])
     (fun _=>[bx b T [.bool false,.slice ka ks.length kc,vv,iv]]) (fun j=>k≤j∧j≤ks.length∧∀m (h:m<ks.length),k≤m→m<j→ks[m]=key) (fun j=>ks.length - j) k ⟨Z,Z,int_eq (by omega),trivial⟩ Z ⟨Afe _,by omega,fun m _ h1 h2=>by omega⟩ ?_
    rintro j ρ ⟨hkj,hjl,hje⟩
    have hfin:(∀h:j<ks.length,¬ks[j]=key)→findD ⟨false,ks,vs,is⟩ key=(j,false):=fun hs=>by
     have:((ks.drop k).takeWhile (fun k=>decide (k=key))).length=j - k:=Jh (by simp;omega) (fun m hm hmj=>by
      have:=hje (k+m) (by simp at hm;omega) (by omega) (by omega);simpa using this) (fun hm=>by
      have:=hs (by simp at hm;omega);simp only[Akd,show k+(j - k)=j by omega];simpa using this)
     simp only[findD,hl,Afh,if_false,this];rw[show k+(j - k)=j by omega]
    by_cases h7:j<ks.length
    ·obtain⟨c1,hc1,hD1,⟨u1,rfl,hu1⟩⟩:=kx j h7
     replace hD1:=hD1.one
     by_cases h8:ks[j]=key
     ·have h9:decide (ks[j]=key)=true:=by simp[h8]
      (refine AZ<|Ab Z<|Az Z Z Z<|AA Z<|Au Z Z<|Ad Z<|Bx Z<|Ac Z<|Am Z<|Ac Z<|c_l Z Z Z<|Ac Z<|Ab Z<|Ac Z ?_;apply B3;rfl;rfl;rfl;omega;assumption;refine Ac Z<|Ah Z (BR (by assumption))<|Ac Z<|AK<|Ac Z ?_)
      refine BH Z (h2 hu1 hkey) ?_
      (refine As Z Z<|A5 Z<|AH<|Aq<|Av<|Ab Z<|A4 Z Z<|AU Z ?_)
      refine⟨j+1,by omega,⟨Z,Z,int_eq (by omega),trivial⟩,Z,Z,by omega,by omega,fun m hm h1' h2'=>?_⟩
      by_cases e:m=j
      ·subst e;exact h8
      ·exact hje m hm h1' (by omega)
     ·have h9:decide (ks[j]=key)=false:=by simp[h8]
      (refine AZ<|Ab Z<|Az Z Z Z<|AA Z<|Au Z Z<|Ad Z<|Bx Z<|Ac Z<|Am Z<|Ac Z<|c_l Z Z Z<|Ac Z<|Ab Z<|Ac Z ?_;apply B3;rfl;rfl;rfl;omega;assumption;refine Ac Z<|Ah Z (BR (by assumption))<|Ac Z<|AK<|Ac Z ?_)
      refine BH Z (h2 hu1 hkey) ?_
      (refine As Z Z<|EY Z<|Bl<|AE Z<|Ab Z<|Cc Z ?_)
      refine SC Z Z ⟨?_,Z,Z⟩
      (rw[hfin (fun _=>h8)];rfl)
    ·have e':j=ks.length:=by omega
     subst e'
     (refine AZ<|Ab Z<|Az Z Z Z<|AA Z<|Au Z Z<|Ad Z<|Bs Z<|AQ Z Z<|AQ Z Z<|AQ Z Z<|BP Z<|Aj Z Z<|Jq Z<|Bl<|AE Z<|Ab Z<|Cc Z ?_)
     refine SC Z Z ⟨?_,Z,Z⟩
     (rw[hfin (fun h=>absurd h (Nat.lt_irrefl _))];rfl)
   ·(refine AZ<|Ab Z<|Az Z Z Z<|AA Z<|Au Z Z<|Ad Z<|Bx Z<|Ac Z<|Am Z<|Ac Z<|c_l Z Z Z<|Ac Z<|Ab Z<|Ac Z ?_;apply B3;rfl;rfl;rfl;omega;assumption;refine Ac Z<|Ah Z (BR (by assumption))<|Ac Z<|AK<|Ac Z ?_)
    refine BH Z (h1 hu0 hkey) ?_
    (refine Ac Z<|Au Z Z<|As Z Z<|EY Z<|Bl<|AE Z<|Az Z Z Z<|AA Z<|Au Z Z<|Ad Z<|Bx Z<|Ac Z<|Am Z<|Ac Z<|c_l Z Z Z<|Ac Z<|Ab Z<|Ac Z ?_;apply B3;rfl;rfl;rfl;omega;assumption;refine Ac Z<|Ah Z (BR (by assumption))<|Ac Z<|AK<|Ac Z ?_)
    refine BH Z (h2 hu0 hkey) ?_
    (refine As Z Z<|AV Z<|AZ<|Az Z Z Z<|B7 Z<|AE Z<|Ad Z<|Ab Z<|Cc Z ?_)
    apply Kn
    rfl
    rfl
    ·simp[findD,hl]
    ·simp[findD,hl,h]
 ·have e:k=ks.length:=by omega
  subst e;have hl:=hstop (fun h=>absurd h (Nat.lt_irrefl _));cases lf
  ·refine AZ<|Ab Z<|Az Z Z Z<|AA Z<|Au Z Z<|Ad Z<|Bs Z<|AQ Z Z<|AQ Z Z<|AQ Z Z<|AQ Z Z<|Aj Z Z<|Jq Z<|Bl<|AE Z<|Az Z Z Z<|AA Z<|Au Z Z<|Ad Z<|Bs Z<|AQ Z Z<|AQ Z Z<|AQ Z Z<|BP Z<|Aj Z Z<|AV Z<|AZ<|Az Z Z Z<|Be Z<|Aw<|Aq<|DF (α:=Unit) (fun j=>[(1,v),(2,pZ b),(6,vZ ks.length)])
    (fun _=>[bx b T [.bool false,.slice ka ks.length kc,vv,iv]]) (fun _=>True) (fun _=>0) () ⟨Z,Z,Z,trivial⟩ Z trivial ?_
   intro _ ρ _;(refine AZ<|Ab Z<|Az Z Z Z<|AA Z<|Au Z Z<|Ad Z<|Bs Z<|AQ Z Z<|AQ Z Z<|AQ Z Z<|BP Z<|Aj Z Z<|Jq Z<|Bl<|AE Z<|Ab Z<|Cc Z ?_);apply Kn;rfl;rfl
   ·simp[findD,hl]
   ·simp[findD,hl]
  ·(refine AZ<|Ab Z<|Az Z Z Z<|AA Z<|Au Z Z<|Ad Z<|Bs Z<|AQ Z Z<|AQ Z Z<|AQ Z Z<|AQ Z Z<|Aj Z Z<|Jq Z<|Bl<|AE Z<|Az Z Z Z<|AA Z<|Au Z Z<|Ad Z<|Bs Z<|AQ Z Z<|AQ Z Z<|AQ Z Z<|BP Z<|Aj Z Z<|AV Z<|AZ<|Az Z Z Z<|B7 Z<|AE Z<|Ad Z<|Ab Z<|Cc Z ?_);apply Kn;rfl;rfl
   ·simp[findD,hl]
   ·simp[findD,hl]
def Mc:A9:=⟨70,[(.tmp 4),(.tmp 5)],(sR (o1 2 (.box 0)<|o1 4 (.mv z0)<|o1 5 (.mv (.const (.bool false))) .done) (sR (o1 6 (.mv z0) .done) (sR (o1 7 (.mv z0) .done) (sR (o1 8 (.mv (.const (.bool false))) .done) (.seq (sR (o1 9 (.mv z0) .done) (.block 0 (.loop (.seq (sR (om 10 9<|oj 11 1 2<|ol 12 11<|oL 13 12<|ob 14 .lss 10 13 .done) (.cond 14 .skip (.exit 0))) (.seq (.block 1 (.seq (.seq (.reg true (p1 17 (.fld 1 2)<|pl 18 17<|pm 19 9<|p1 20 (.idx 1 18 19)<|pl 21 20<|p1 22 (.b2s 21)<|pm 23 1<|p1 24 (.b2s 23)<|p1 25 (.bin .lss 22 24)<|pm 26 25 (.op true ⟨(some 27),(some (26,true)),(.mv 6)⟩ (.op true ⟨(some 28),(some (26,true)),(.mv 9)⟩ (.op true ⟨(some 29),(some (26,true)),(.bin .eql 27 28)⟩ (p1 30 (.pick 26 29 (.const (.bool false))) .done)))))) (.cond 30 (rG (om 31 6<|ob 32 .add 31 z1<|om 6 32 .done)) .skip)) (.seq (.reg true (p1 33 (.fld 1 2)<|pl 34 33<|pm 35 9<|p1 36 (.idx 1 34 35)<|pl 37 36<|p1 38 (.b2s 37)<|pm 39 1<|p1 40 (.b2s 39)<|p1 41 (.bin .leq 38 40)<|pm 42 41 (.op true ⟨(some 43),(some (42,true)),(.mv 7)⟩ (.op true ⟨(some 44),(some (42,true)),(.mv 9)⟩ (.op true ⟨(some 45),(some (42,true)),(.bin .eql 43 44)⟩ (p1 46 (.pick 42 45 (.const (.bool false))) .done)))))) (.cond 46 (rG (om 47 7<|ob 48 .add 47 z1<|om 7 48 .done)) .skip)))) (rG (om 15 9<|ob 16 .add 15 z1<|om 9 16 .done))))))) (.seq (sR (oj 49 0 2<|ol 50 49 .done) (.cond 50 (.seq (.reg true (pm 51 6<|p1 52 (.fld 1 2)<|pl 53 52<|p1 54 (.len 53)<|p1 55 (.bin .lss 51 54)<|pm 56 55 (.op true ⟨(some 57),(some (56,true)),(.fld 1 2)⟩ (.op true ⟨(some 58),(some (56,true)),(.ld none 57)⟩ (.op true ⟨(some 59),(some (56,true)),(.mv 6)⟩ (.op true ⟨(some 60),(some (56,true)),(.idx 1 58 59)⟩ (.op true ⟨(some 61),(some (56,true)),(.ld none 60)⟩ (.op true ⟨(some 62),(some (56,true)),(.b2s 61)⟩ (.op true ⟨(some 63),(some (56,true)),(.mv 1)⟩ (.op true ⟨(some 64),(some (56,true)),(.b2s 63)⟩ (.op true ⟨(some 65),(some (56,true)),(.bin .eql 62 64)⟩ (p1 66 (.pick 56 65 (.const (.bool false))) (.bar (pm 8 66 .done)))))))))))))) (sR (om 67 6<|om 68 8<|om 4 67<|om 5 68 .done) .ret)) .skip)) (sR (om 69 7<|om 4 69<|o1 5 (.mv (.const (.bool false))) .done) .ret)))))))⟩
set_option maxHeartbeats 2000000 in
def S9(hd:dec P f=some Mc):I6 P f GQ:=by
 intro d cs n v key hn hkey;obtain⟨lf,ks,vs,is⟩:=n;obtain⟨kv,vv,iv,rfl,hk,hv,hiv⟩:∃kv vv iv,cs=[.bool lf,kv,vv,iv]∧DG d kv ks∧DG d vv vs∧D9 d iv is:=hn;refine Dp hd (Aff Z) ?_;obtain⟨ka,kc,kb,ko,rfl,kA,kS,kN,kl,km,kB,kx⟩:=hk;show gwp P _ _ _ _ _;(refine Ak<|CF Z (fun _ _=>Ab Z<|AV Z<|AE Z<|Bo<|A7 Z<|AV Z<|AZ<|AU Z<|Aq ?_));rename_i b T;have hlow:∀k,k≤ks.length→((ks.take k).takeWhile (Op.bytesLess · key)).length≤k:=fun k hk=>by have:=Sv (p:=(Op.bytesLess · key)) (ks.take k);simp at this;omega
 have hnot:∀k,k≤ks.length→((ks.take k).takeWhile (leB · key)).length≤k:=fun k hk=>by have:=Sv (p:=(leB · key)) (ks.take k);simp at this;omega
 refine DF (α:=Nat) (fun k=>[(1,v),(2,pZ b),(6,vZ ((ks.take k).takeWhile (Op.bytesLess · key)).length),(7,vZ ((ks.take k).takeWhile (leB · key)).length),(8,.bool false),(9,vZ k)])
  (fun _=>[bx b T [.bool lf,.slice ka ks.length kc,vv,iv]]) (fun k=>k≤ks.length) (fun k=>ks.length - k) 0 ⟨Z,Z,Z,Z,Z,Z,trivial⟩ Z (Agd _) ?_
 intro k ρ hle;by_cases h:k<ks.length
 ·obtain⟨c0,hc0,hD0,⟨u0,rfl,hu0⟩⟩:=kx k h;replace hD0:=hD0.one;have e1:=QA (p:=(Op.bytesLess · key)) ks[k] (ks.take k);have e2:=QA (p:=(leB · key)) ks[k] (ks.take k);rw[←Afw h] at e1 e2;have hl1:=hlow k (by omega);have hl2:=hnot k (by omega);have htl:(ks.take k).length=k:=by simp;omega
  rw[htl] at e1 e2;obtain⟨A,hA⟩:∃A,A=((ks.take k).takeWhile (Op.bytesLess · key)).length:=⟨_,Z⟩
  obtain⟨B,hB⟩:∃B,B=((ks.take k).takeWhile (leB · key)).length:=⟨_,Z⟩
  rw[←hA] at e1 hl1⊢;rw[←hB] at e2 hl2⊢;have done:∀(x y z:Int) (A' B':Nat),x=A'→y=B'→A'=(if A=k∧Op.bytesLess ks[k] key=true then k+1 else A)→B'=(if B=k∧leB ks[k] key=true then k+1 else B)→
    x=((ks.take (k+1)).takeWhile (Op.bytesLess · key)).length∧y=((ks.take (k+1)).takeWhile (leB · key)).length:=fun x y z A' B' hx hy h1 h2=>by rw[hx,hy,h1,h2,←e1,←e2];exact⟨Z,Z⟩
  cases hb:Op.bytesLess ks[k] key with
  |true=>
   have hl4:(Op.bytesLess ks[k] key||decide (ks[k]=key))=true:=by simp[hb]
   have hl3:leB ks[k] key=true:=hl4
   by_cases hAk:A=k
   ·by_cases hBk:B=k
    ·(refine AZ<|Ab Z<|Az Z Z Z<|AA Z<|Au Z Z<|A5 Z<|AH<|Aw<|Aq<|Aw<|Aw<|BI<|Az Z Z Z<|Ab Z ?_;apply B3;rfl;rfl;rfl;omega;assumption;refine Ah Z (BR (by assumption))<|Bv Z (by assumption)<|AK<|Bv Z (by assumption)<|Gj Z Z<|Ad Z ?_;apply G6;rfl;(with_reducible assumption);refine Ac Z<|Ab Z<|Ac Z<|Ab Z<|Ac Z<|AI Z Z<|As Z Z<|A8<|B2 Z<|Av<|Ab Z<|A4 Z Z<|AU Z<|Aw<|BI<|Az Z Z Z<|Ab Z ?_;apply B3;rfl;rfl;rfl;omega;assumption;refine Ah Z (BR (by assumption))<|Bv Z (by assumption)<|AK<|Bv Z (by assumption)<|G2 Z Z<|Ad Z ?_;apply G6;rfl;(with_reducible assumption);refine Ac Z<|Ab Z<|Ac Z<|Ab Z<|Ac Z<|AI Z Z<|As Z Z<|A8<|B2 Z<|Av<|Ab Z<|A4 Z Z<|AU Z<|Av<|Ab Z<|A4 Z Z<|AU Z ?_)
     obtain⟨f1,f2⟩:=done _ _ 0 (k+1) (k+1) Z Z (by simp[hAk,hb]) (by simp[hBk,hl3])
     exact⟨k+1,by omega,⟨Z,Z,int_eq (by omega),int_eq (by omega),Z,int_eq (by omega),trivial⟩,Z,Z,h⟩
    ·(refine AZ<|Ab Z<|Az Z Z Z<|AA Z<|Au Z Z<|A5 Z<|AH<|Aw<|Aq<|Aw<|Aw<|BI<|Az Z Z Z<|Ab Z ?_;apply B3;rfl;rfl;rfl;omega;assumption;refine Ah Z (BR (by assumption))<|Bv Z (by assumption)<|AK<|Bv Z (by assumption)<|Gj Z Z<|Ad Z ?_;apply G6;rfl;(with_reducible assumption);refine Ac Z<|Ab Z<|Ac Z<|Ab Z<|Ac Z<|AI Z Z<|As Z Z<|A8<|B2 Z<|Av<|Ab Z<|A4 Z Z<|AU Z<|Aw<|BI<|Az Z Z Z<|Ab Z ?_;apply B3;rfl;rfl;rfl;omega;assumption;refine Ah Z (BR (by assumption))<|Bv Z (by assumption)<|AK<|Bv Z (by assumption)<|G2 Z Z<|Ad Z ?_;apply G6;rfl;(with_reducible assumption);refine Ac Z<|Ab Z<|Ac Z<|Ab Z<|Ac Z<|AI Z Z<|As Z Z<|A8<|BM Z<|AH<|Av<|Ab Z<|A4 Z Z<|AU Z ?_)
     obtain⟨f1,f2⟩:=done _ _ 0 (k+1) (B) Z Z (by simp[hAk,hb]) (by simp[hBk,hl3])
     exact⟨k+1,by omega,⟨Z,Z,int_eq (by omega),int_eq (by omega),Z,int_eq (by omega),trivial⟩,Z,Z,h⟩
   ·by_cases hBk:B=k
    ·(refine AZ<|Ab Z<|Az Z Z Z<|AA Z<|Au Z Z<|A5 Z<|AH<|Aw<|Aq<|Aw<|Aw<|BI<|Az Z Z Z<|Ab Z ?_;apply B3;rfl;rfl;rfl;omega;assumption;refine Ah Z (BR (by assumption))<|Bv Z (by assumption)<|AK<|Bv Z (by assumption)<|Gj Z Z<|Ad Z ?_;apply G6;rfl;(with_reducible assumption);refine Ac Z<|Ab Z<|Ac Z<|Ab Z<|Ac Z<|AI Z Z<|As Z Z<|A8<|BM Z<|AH<|Aw<|BI<|Az Z Z Z<|Ab Z ?_;apply B3;rfl;rfl;rfl;omega;assumption;refine Ah Z (BR (by assumption))<|Bv Z (by assumption)<|AK<|Bv Z (by assumption)<|G2 Z Z<|Ad Z ?_;apply G6;rfl;(with_reducible assumption);refine Ac Z<|Ab Z<|Ac Z<|Ab Z<|Ac Z<|AI Z Z<|As Z Z<|A8<|B2 Z<|Av<|Ab Z<|A4 Z Z<|AU Z<|Av<|Ab Z<|A4 Z Z<|AU Z ?_)
     obtain⟨f1,f2⟩:=done _ _ 0 (A) (k+1) Z Z (by simp[hAk,hb]) (by simp[hBk,hl3])
     exact⟨k+1,by omega,⟨Z,Z,int_eq (by omega),int_eq (by omega),Z,int_eq (by omega),trivial⟩,Z,Z,h⟩
    ·(refine AZ<|Ab Z<|Az Z Z Z<|AA Z<|Au Z Z<|A5 Z<|AH<|Aw<|Aq<|Aw<|Aw<|BI<|Az Z Z Z<|Ab Z ?_;apply B3;rfl;rfl;rfl;omega;assumption;refine Ah Z (BR (by assumption))<|Bv Z (by assumption)<|AK<|Bv Z (by assumption)<|Gj Z Z<|Ad Z ?_;apply G6;rfl;(with_reducible assumption);refine Ac Z<|Ab Z<|Ac Z<|Ab Z<|Ac Z<|AI Z Z<|As Z Z<|A8<|BM Z<|AH<|Aw<|BI<|Az Z Z Z<|Ab Z ?_;apply B3;rfl;rfl;rfl;omega;assumption;refine Ah Z (BR (by assumption))<|Bv Z (by assumption)<|AK<|Bv Z (by assumption)<|G2 Z Z<|Ad Z ?_;apply G6;rfl;(with_reducible assumption);refine Ac Z<|Ab Z<|Ac Z<|Ab Z<|Ac Z<|AI Z Z<|As Z Z<|A8<|BM Z<|AH<|Av<|Ab Z<|A4 Z Z<|AU Z ?_)
     obtain⟨f1,f2⟩:=done _ _ 0 (A) (B) Z Z (by simp[hAk,hb]) (by simp[hBk,hl3])
     exact⟨k+1,by omega,⟨Z,Z,int_eq (by omega),int_eq (by omega),Z,int_eq (by omega),trivial⟩,Z,Z,h⟩
  |false=>
   by_cases he:ks[k]=key
   ·have hl4:(Op.bytesLess ks[k] key||decide (ks[k]=key))=true:=by simp[he]
    have hl3:leB ks[k] key=true:=hl4
    by_cases hAk:A=k
    ·by_cases hBk:B=k
     ·(refine AZ<|Ab Z<|Az Z Z Z<|AA Z<|Au Z Z<|A5 Z<|AH<|Aw<|Aq<|Aw<|Aw<|BI<|Az Z Z Z<|Ab Z ?_;apply B3;rfl;rfl;rfl;omega;assumption;refine Ah Z (BR (by assumption))<|Bv Z (by assumption)<|AK<|Bv Z (by assumption)<|Gj Z Z<|Ad Z ?_;apply G5;rfl;(with_reducible assumption);refine AQ Z Z<|BP Z<|Aj Z Z<|A8<|Cn Z<|AH<|Aw<|BI<|Az Z Z Z<|Ab Z ?_;apply B3;rfl;rfl;rfl;omega;assumption;refine Ah Z (BR (by assumption))<|Bv Z (by assumption)<|AK<|Bv Z (by assumption)<|G2 Z Z<|Ad Z ?_;apply G6;rfl;(with_reducible assumption);refine Ac Z<|Ab Z<|Ac Z<|Ab Z<|Ac Z<|AI Z Z<|As Z Z<|A8<|B2 Z<|Av<|Ab Z<|A4 Z Z<|AU Z<|Av<|Ab Z<|A4 Z Z<|AU Z ?_)
      obtain⟨f1,f2⟩:=done _ _ 0 (A) (k+1) Z Z (by simp[hAk,hb]) (by simp[hBk,hl3])
      exact⟨k+1,by omega,⟨Z,Z,int_eq (by omega),int_eq (by omega),Z,int_eq (by omega),trivial⟩,Z,Z,h⟩
     ·(refine AZ<|Ab Z<|Az Z Z Z<|AA Z<|Au Z Z<|A5 Z<|AH<|Aw<|Aq<|Aw<|Aw<|BI<|Az Z Z Z<|Ab Z ?_;apply B3;rfl;rfl;rfl;omega;assumption;refine Ah Z (BR (by assumption))<|Bv Z (by assumption)<|AK<|Bv Z (by assumption)<|Gj Z Z<|Ad Z ?_;apply G5;rfl;(with_reducible assumption);refine AQ Z Z<|BP Z<|Aj Z Z<|A8<|Cn Z<|AH<|Aw<|BI<|Az Z Z Z<|Ab Z ?_;apply B3;rfl;rfl;rfl;omega;assumption;refine Ah Z (BR (by assumption))<|Bv Z (by assumption)<|AK<|Bv Z (by assumption)<|G2 Z Z<|Ad Z ?_;apply G6;rfl;(with_reducible assumption);refine Ac Z<|Ab Z<|Ac Z<|Ab Z<|Ac Z<|AI Z Z<|As Z Z<|A8<|BM Z<|AH<|Av<|Ab Z<|A4 Z Z<|AU Z ?_)
      obtain⟨f1,f2⟩:=done _ _ 0 (A) (B) Z Z (by simp[hAk,hb]) (by simp[hBk,hl3])
      exact⟨k+1,by omega,⟨Z,Z,int_eq (by omega),int_eq (by omega),Z,int_eq (by omega),trivial⟩,Z,Z,h⟩
    ·by_cases hBk:B=k
     ·(refine AZ<|Ab Z<|Az Z Z Z<|AA Z<|Au Z Z<|A5 Z<|AH<|Aw<|Aq<|Aw<|Aw<|BI<|Az Z Z Z<|Ab Z ?_;apply B3;rfl;rfl;rfl;omega;assumption;refine Ah Z (BR (by assumption))<|Bv Z (by assumption)<|AK<|Bv Z (by assumption)<|Gj Z Z<|Ad Z ?_;apply G5;rfl;(with_reducible assumption);refine AQ Z Z<|BP Z<|Aj Z Z<|A8<|Cn Z<|AH<|Aw<|BI<|Az Z Z Z<|Ab Z ?_;apply B3;rfl;rfl;rfl;omega;assumption;refine Ah Z (BR (by assumption))<|Bv Z (by assumption)<|AK<|Bv Z (by assumption)<|G2 Z Z<|Ad Z ?_;apply G6;rfl;(with_reducible assumption);refine Ac Z<|Ab Z<|Ac Z<|Ab Z<|Ac Z<|AI Z Z<|As Z Z<|A8<|B2 Z<|Av<|Ab Z<|A4 Z Z<|AU Z<|Av<|Ab Z<|A4 Z Z<|AU Z ?_)
      obtain⟨f1,f2⟩:=done _ _ 0 (A) (k+1) Z Z (by simp[hAk,hb]) (by simp[hBk,hl3])
      exact⟨k+1,by omega,⟨Z,Z,int_eq (by omega),int_eq (by omega),Z,int_eq (by omega),trivial⟩,Z,Z,h⟩
     ·(refine AZ<|Ab Z<|Az Z Z Z<|AA Z<|Au Z Z<|A5 Z<|AH<|Aw<|Aq<|Aw<|Aw<|BI<|Az Z Z Z<|Ab Z ?_;apply B3;rfl;rfl;rfl;omega;assumption;refine Ah Z (BR (by assumption))<|Bv Z (by assumption)<|AK<|Bv Z (by assumption)<|Gj Z Z<|Ad Z ?_;apply G5;rfl;(with_reducible assumption);refine AQ Z Z<|BP Z<|Aj Z Z<|A8<|Cn Z<|AH<|Aw<|BI<|Az Z Z Z<|Ab Z ?_;apply B3;rfl;rfl;rfl;omega;assumption;refine Ah Z (BR (by assumption))<|Bv Z (by assumption)<|AK<|Bv Z (by assumption)<|G2 Z Z<|Ad Z ?_;apply G6;rfl;(with_reducible assumption);refine Ac Z<|Ab Z<|Ac Z<|Ab Z<|Ac Z<|AI Z Z<|As Z Z<|A8<|BM Z<|AH<|Av<|Ab Z<|A4 Z Z<|AU Z ?_)
      obtain⟨f1,f2⟩:=done _ _ 0 (A) (B) Z Z (by simp[hAk,hb]) (by simp[hBk,hl3])
      exact⟨k+1,by omega,⟨Z,Z,int_eq (by omega),int_eq (by omega),Z,int_eq (by omega),trivial⟩,Z,Z,h⟩
   ·have hl4:(Op.bytesLess ks[k] key||decide (ks[k]=key))=false:=by simp[he,hb]
    have hl3:leB ks[k] key=false:=hl4
    by_cases hAk:A=k
    ·by_cases hBk:B=k
     ·(refine AZ<|Ab Z<|Az Z Z Z<|AA Z<|Au Z Z<|A5 Z<|AH<|Aw<|Aq<|Aw<|Aw<|BI<|Az Z Z Z<|Ab Z ?_;apply B3;rfl;rfl;rfl;omega;assumption;refine Ah Z (BR (by assumption))<|Bv Z (by assumption)<|AK<|Bv Z (by assumption)<|Gj Z Z<|Ad Z ?_;apply G5;rfl;(with_reducible assumption);refine AQ Z Z<|BP Z<|Aj Z Z<|A8<|Cn Z<|AH<|Aw<|BI<|Az Z Z Z<|Ab Z ?_;apply B3;rfl;rfl;rfl;omega;assumption;refine Ah Z (BR (by assumption))<|Bv Z (by assumption)<|AK<|Bv Z (by assumption)<|G2 Z Z<|Ad Z ?_;apply G5;rfl;(with_reducible assumption);refine AQ Z Z<|BP Z<|Aj Z Z<|A8<|Cn Z<|AH<|Av<|Ab Z<|A4 Z Z<|AU Z ?_)
      obtain⟨f1,f2⟩:=done _ _ 0 (A) (B) Z Z (by simp[hAk,hb]) (by simp[hBk,hl3])
      exact⟨k+1,by omega,⟨Z,Z,int_eq (by omega),int_eq (by omega),Z,int_eq (by omega),trivial⟩,Z,Z,h⟩
     ·(refine AZ<|Ab Z<|Az Z Z Z<|AA Z<|Au Z Z<|A5 Z<|AH<|Aw<|Aq<|Aw<|Aw<|BI<|Az Z Z Z<|Ab Z ?_;apply B3;rfl;rfl;rfl;omega;assumption;refine Ah Z (BR (by assumption))<|Bv Z (by assumption)<|AK<|Bv Z (by assumption)<|Gj Z Z<|Ad Z ?_;apply G5;rfl;(with_reducible assumption);refine AQ Z Z<|BP Z<|Aj Z Z<|A8<|Cn Z<|AH<|Aw<|BI<|Az Z Z Z<|Ab Z ?_;apply B3;rfl;rfl;rfl;omega;assumption;refine Ah Z (BR (by assumption))<|Bv Z (by assumption)<|AK<|Bv Z (by assumption)<|G2 Z Z<|Ad Z ?_;apply G5;rfl;(with_reducible assumption);refine AQ Z Z<|BP Z<|Aj Z Z<|A8<|Cn Z<|AH<|Av<|Ab Z<|A4 Z Z<|AU Z ?_)
      obtain⟨f1,f2⟩:=done _ _ 0 (A) (B) Z Z (by simp[hAk,hb]) (by simp[hBk,hl3])
      exact⟨k+1,by omega,⟨Z,Z,int_eq (by omega),int_eq (by omega),Z,int_eq (by omega),trivial⟩,Z,Z,h⟩
    ·by_cases hBk:B=k
     ·(refine AZ<|Ab Z<|Az Z Z Z<|AA Z<|Au Z Z<|A5 Z<|AH<|Aw<|Aq<|Aw<|Aw<|BI<|Az Z Z Z<|Ab Z ?_;apply B3;rfl;rfl;rfl;omega;assumption;refine Ah Z (BR (by assumption))<|Bv Z (by assumption)<|AK<|Bv Z (by assumption)<|Gj Z Z<|Ad Z ?_;apply G5;rfl;(with_reducible assumption);refine AQ Z Z<|BP Z<|Aj Z Z<|A8<|Cn Z<|AH<|Aw<|BI<|Az Z Z Z<|Ab Z ?_;apply B3;rfl;rfl;rfl;omega;assumption;refine Ah Z (BR (by assumption))<|Bv Z (by assumption)<|AK<|Bv Z (by assumption)<|G2 Z Z<|Ad Z ?_;apply G5;rfl;(with_reducible assumption);refine AQ Z Z<|BP Z<|Aj Z Z<|A8<|Cn Z<|AH<|Av<|Ab Z<|A4 Z Z<|AU Z ?_)
      obtain⟨f1,f2⟩:=done _ _ 0 (A) (B) Z Z (by simp[hAk,hb]) (by simp[hBk,hl3])
      exact⟨k+1,by omega,⟨Z,Z,int_eq (by omega),int_eq (by omega),Z,int_eq (by omega),trivial⟩,Z,Z,h⟩
     ·(refine AZ<|Ab Z<|Az Z Z Z<|AA Z<|Au Z Z<|A5 Z<|AH<|Aw<|Aq<|Aw<|Aw<|BI<|Az Z Z Z<|Ab Z ?_;apply B3;rfl;rfl;rfl;omega;assumption;refine Ah Z (BR (by assumption))<|Bv Z (by assumption)<|AK<|Bv Z (by assumption)<|Gj Z Z<|Ad Z ?_;apply G5;rfl;(with_reducible assumption);refine AQ Z Z<|BP Z<|Aj Z Z<|A8<|Cn Z<|AH<|Aw<|BI<|Az Z Z Z<|Ab Z ?_;apply B3;rfl;rfl;rfl;omega;assumption;refine Ah Z (BR (by assumption))<|Bv Z (by assumption)<|AK<|Bv Z (by assumption)<|G2 Z Z<|Ad Z ?_;apply G5;rfl;(with_reducible assumption);refine AQ Z Z<|BP Z<|Aj Z Z<|A8<|Cn Z<|AH<|Av<|Ab Z<|A4 Z Z<|AU Z ?_)
      obtain⟨f1,f2⟩:=done _ _ 0 (A) (B) Z Z (by simp[hAk,hb]) (by simp[hBk,hl3])
      exact⟨k+1,by omega,⟨Z,Z,int_eq (by omega),int_eq (by omega),Z,int_eq (by omega),trivial⟩,Z,Z,h⟩
 ·have e:k=ks.length:=by omega
  subst e;rw[Agz];have hl:∃A,A=low ⟨lf,ks,vs,is⟩ key:=⟨_,Z⟩
  have hlk:=hlow ks.length (Afe _);rw[Agz] at hlk;obtain⟨A,hA⟩:∃A,A=(ks.takeWhile (Op.bytesLess · key)).length:=⟨_,Z⟩
  rw[←hA] at hlk⊢;have hA':low ⟨lf,ks,vs,is⟩ key=A:=hA.symm;cases lf
  ·(refine AZ<|Ab Z<|Az Z Z Z<|AA Z<|Au Z Z<|EY Z<|Bl<|AZ<|Az Z Z Z<|Be Z<|AE Z<|Ab Z<|Cc Z ?_);apply Kn;rfl;rfl
   ·simp[GQ]
   ·simp[GQ]
  ·by_cases h:A<ks.length
   ·obtain⟨c0,hc0,hD0,⟨u0,rfl,hu0⟩⟩:=kx A h;replace hD0:=hD0.one;(refine AZ<|Ab Z<|Az Z Z Z<|AA Z<|Au Z Z<|EY Z<|Bl<|AZ<|Az Z Z Z<|B7 Z<|Aw<|BI<|Ab Z<|Az Z Z Z<|AA Z<|Au Z Z<|Ad Z<|Bx Z<|Ac Z<|Am Z<|Ac Z<|c_l Z Z Z<|Ac Z<|Ab Z<|Ac Z ?_;apply B3;rfl;rfl;rfl;omega;assumption;refine Ac Z<|Ah Z (BR (by assumption))<|Ac Z<|Bv Z (by assumption)<|Ac Z<|AK<|Ac Z<|Bv Z (by assumption)<|Ac Z<|Qq Z Z<|As Z Z<|Cw<|AV Z<|AE Z<|Ad Z<|Ab Z<|Cc Z ?_);apply Kn;rfl;rfl
    ·simp[GQ,hA']
    ·simp[GQ,hA',h]
   ·(refine AZ<|Ab Z<|Az Z Z Z<|AA Z<|Au Z Z<|EY Z<|Bl<|AZ<|Az Z Z Z<|B7 Z<|Aw<|BI<|Ab Z<|Az Z Z Z<|AA Z<|Au Z Z<|Ad Z<|Bs Z<|AQ Z Z<|AQ Z Z<|AQ Z Z<|AQ Z Z<|BP Z<|Aj Z Z<|Cw<|AV Z<|AE Z<|Ad Z<|Ab Z<|Cc Z ?_);apply Kn;rfl;rfl
    ·simp[GQ,hA']
    ·(first|(simp[GQ,hA',h];done)|(simp[GQ,hA',h];omega))
def M4{ks}:∀{m k:Nat},D5 ks m=true→k<m→kOk ks k=true
 |0,_,_,h=>by omega
 |m+1,k,h,hk=>by
  simp only[D5,Afb] at h;by_cases e:k=m
  ·subst e;exact h.2
  ·exact M4 h.1 (by omega)
def MZ{ks}(h:D5 ks ks.length=true):∀{j i:Nat}(hj:j<ks.length) (hi:i<j),Op.bytesLess (ks[i]'(by omega)) ks[j]=true:=by
 intro j;induction j with
 |zero=>intro i _ hi;omega
 |succ j ih=>
  intro i hj hi
  have hk:=M4 h hj
  simp only[kOk,Afb,Agl,beq_iff_eq,Ahp] at hk
  have h1:Op.bytesLess ks[j] ks[j+1]=true:=by
   rcases hk.2 with e|e
   ·omega
   ·simpa [show j<ks.length by omega,hj] using e
  by_cases e:i=j
  ·subst e;exact h1
  ·exact K8 (ih (by omega) (by omega)) h1
def find_eq(n:AB)(key:List UInt8)(h:Bd n=true):findD n key=GQ n key:=by
 obtain⟨lf,ks,vs,is⟩:=n;unfold findD GQ;cases lf with
 |true=>rfl
 |false=>
  simp only[Afh,if_false,Prod.mk.injEq,and_true]
  have hk:D5 ks ks.length=true:=by simp only[Bd,Afb] at h;exact h.1
  have rise:=fun{j i:Nat}(hj:j<ks.length) (hi:i<j)=>MZ hk hj hi
  have hl:low ⟨false,ks,vs,is⟩ key≤ks.length:=Sv ks
  obtain⟨A,hA⟩:∃A,A=low ⟨false,ks,vs,is⟩ key:=⟨_,Z⟩
  rw[←hA] at hl⊢
  have below:∀j (hj:j<ks.length),j<A→Op.bytesLess ks[j] key=true:=fun j hj hjA=>AbR (p:=(Op.bytesLess · key)) hj (by rw[hA] at hjA;exact hjA)
  have stop:∀h:A<ks.length,Op.bytesLess ks[A] key=false:=fun h=>VS (p:=(Op.bytesLess · key)) hA h
  have les:∀{a b},Op.bytesLess a b=true→leB a b=true:=fun h=>by simp[leB,h]
  by_cases he:∃h:A<ks.length,ks[A]=key
  ·obtain⟨h,he⟩:=he
   have h1:((ks.drop A).takeWhile (fun k=>decide (k=key))).length=1:=Jh (by simp;omega) (fun m hm hm1=>by
    obtain rfl:m=0:=by omega
    simpa using he) (fun hm=>by
    have hm':A+1<ks.length:=by simp at hm;omega
    have:=rise hm' (i:=A) (by omega);rw[he] at this;simp only[Akd,decide_eq_false_iff_not];intro e;rw[e,Fp] at this;cases this)
   have h2:(ks.takeWhile (leB · key)).length=A+1:=Jh h (fun j hj hjA=>by
    by_cases e:j=A
    ·subst e;simp[leB,he]
    ·exact les (below j hj (by omega))) (fun hm=>by
    have:=rise hm (i:=A) (by omega);rw[he] at this;have h3:=ZM this;simp only[leB,h3,Akc,decide_eq_false_iff_not];intro e;rw[e,Fp] at this;cases this)
   rw[h1,h2]
  ·have h1:((ks.drop A).takeWhile (fun k=>decide (k=key))).length=0:=Jh (by omega) (fun m _ hm=>by omega) (fun hm=>by
    have hm':A<ks.length:=by simp at hm;omega
    simp only[Akd,decide_eq_false_iff_not,Nat.add_zero];intro e;exact he ⟨hm',e⟩)
   have h2:(ks.takeWhile (leB · key)).length=A:=Jh hl (fun j hj hjA=>les (below j hj hjA)) (fun hm=>by
    simp only[leB,stop hm,Akc,decide_eq_false_iff_not];intro e;exact he ⟨hm,e⟩)
   rw[h1,h2];rfl
end Go.Gk.Node
end
