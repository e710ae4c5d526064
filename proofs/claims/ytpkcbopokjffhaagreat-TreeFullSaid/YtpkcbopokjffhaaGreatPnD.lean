/-
  Our own texts, one behind the other: GkPg1 GkPg2 GkPg3 GkPg4 GkPg5 GkC5 GkPg6 GkPg7 GkPg8 GkPgL GkPgM Gk28 Gk29 Gk40 GkH1 GkH2 GkH3 GkH4 GkH5 GkNode1 GkNode2 GkNode3 GkNode4.
-/
import Derived.Recover
import Derived.BigFrame
import Derived.Test.YtpkcbopokjffhaaGreatPnC
open Nat renaming le_of_ble_eq_true→Aca,le_refl→Ach,zero_le→Adg,zero_add→Aeh,add_sub_cancel→Aet,sub_self→Afy,le_trans→Agk,le_of_not_lt→Ahe
open List.Sublist renaming refl→Acb
open Bool renaming false_eq_true→Aci,or_eq_true→Adx,not_eq_true→Aev,not_eq_false'→Afu,eq_iff_iff→Agx
open List renaming getElem?_eq_getElem→Ace,getD_eq_getElem?_getD→Acf,perm_append_comm→Ack,length_append→Acl,length_drop→Acn,all_eq_true→Acq,replicate→Acr,length_cons→Acs,mem_cons_self→Acu,mem_singleton→Acv,length_take→Acw,take_succ_eq_append_getElem→Acx,sublist_cons_self→Acz,getElem_mem→Ada,range→Ade,drop_eq_getElem_cons→Adi,sublist_append_right→Adm,length_replicate→Adn,getElem?_eq_none→Adq,nil_append→Adr,append_nil→Ads,length_map→Adw,perm_append_comm_assoc→Ady,take_length→Aeg,getElem_of_mem→Aei,length_nil→Aen,drop_of_length_le→Aex,pairwise_iff_getElem→Afc,set_eq_of_length_le→Afh,map_cons→Afj,map_append→Afk,drop_length→Afv,getD→Afw,mapM_cons→Ahb
open List.Perm renaming cons→Aco,swap→Adc
open Option renaming bind_eq_some_iff→Adl,map_eq_some_iff→Ado,bind_some→Adz,map_some→Aeq,bind_eq_bind→Ahh
section
namespace Go.Gk.Pgr
open Go Go.Gk Go.Gk.Dev Go.Gk.Cch Go.Gk.Node
attribute [local irreducible] gwp gws xwp
abbrev kI(k:Int):Value:=.int .i64 k
abbrev mpI(mb:Nat) (ms:List (Int×Value×Nat)) (clk:Nat):Ac:=mp kI id mb ms clk
def LA(d:Ac) (frm:Nat) (kinds:List Int) (fb:Nat→Sec) (ms:List (Int×Value×Nat)):Prop:=∀i,i<kinds.length→kinds.getD i 0=1→∃v,Ez ((frm+i:Nat):Int) ms=some v∧AK d v (fb i)∧(fb i).length=256
theorem LA.mono{d d':Ac}{frm:Nat}{kinds:List Int}{fb:Nat→Sec}{ms:List (Int×Value×Nat)} (h:LA d frm kinds fb ms) (hl:Le d d'):LA d' frm kinds fb ms:=fun i hi hk=>
 let ⟨v,h1,h2,h3⟩:=h i hi hk
 ⟨v,h1,h2.mono hl,h3⟩
def Pg(d:Ac) (s:PD) (dv pv:Value) (L:List Ac):Prop:=
 ∃b T cv bk cp hk mb ms clk c LC LD bd,pv=.pointer (some ⟨b,0,none⟩)∧dv=.pointer (some ⟨bd,0,none⟩)∧
  L=bx b T [dv,cv,.int .i64 s.frm,.slice (some ⟨bk,0,none⟩) s.kinds.length cp,.map (some mb),.int .i64 (wr s.round),.int .i64 (wr s.tc)]::hk::mpI mb ms clk::(LC++LD)∧
  Aq 1 Bg d (.slice (some ⟨bk,0,none⟩) s.kinds.length cp) s.kinds hk∧LA d s.frm s.kinds s.fb ms∧Ca d c dv cv LC∧Dv d ⟨s.syn,[]⟩ dv LD∧Cw s c∧Good s
theorem Pg.mono{d d':Ac}{s:PD}{dv pv:Value}{L:List Ac} (h:Pg d s dv pv L) (hl:Le d d'):Pg d' s dv pv L:=
 let ⟨b,T,cv,bk,cp,hk,mb,ms,clk,c,LC,LD,bd,h1,h2,h3,h4,h5,h6,h7,h8,h9⟩:=h
 ⟨b,T,cv,bk,cp,hk,mb,ms,clk,c,LC,LD,bd,h1,h2,h3,Aq.mono (R:=Bg) B8 h4 hl,h5.mono hl,h6.mono hl,h7.mono hl,h8,h9⟩
theorem Pg.ptr{d:Ac}{s:PD}{dv pv:Value}{L:List Ac} (h:Pg d s dv pv L):∃b,pv=.pointer (some ⟨b,0,none⟩):=let ⟨b,_,_,_,_,_,_,_,_,_,_,_,_,h1,_⟩:=h;⟨b,h1⟩
theorem Pg.EY{d:Ac}{s:PD}{dv pv:Value}{L:List Ac} (h:Pg d s dv pv L):Good s:=let ⟨_,_,_,_,_,_,_,_,_,_,_,_,_,_,_,_,_,_,_,_,_,h9⟩:=h;h9
theorem Pg.mk{d:Ac}{s:PD}{b:Nat}{T:TypeId}{cv:Value}{bk cp n:Nat}{hk:Ac}{mb:Nat}{ms:List (Int×Value×Nat)}{clk:Nat}{c:CD}{LC LD:List Ac}{bd:Nat} (hn:s.kinds.length=n)
  (h4:Aq 1 Bg d (.slice (some ⟨bk,0,none⟩) n cp) s.kinds hk) (h5:LA d s.frm s.kinds s.fb ms) (h6:Ca d c (.pointer (some ⟨bd,0,none⟩)) cv LC) (h7:Dv d ⟨s.syn,[]⟩ (.pointer (some ⟨bd,0,none⟩)) LD) (h8:Cw s c) (h9:Good s):
  Pg d s (.pointer (some ⟨bd,0,none⟩)) (.pointer (some ⟨b,0,none⟩)) (bx b T [.pointer (some ⟨bd,0,none⟩),cv,.int .i64 s.frm,.slice (some ⟨bk,0,none⟩) n cp,.map (some mb),.int .i64 (wr s.round),.int .i64 (wr s.tc)]::hk::mpI mb ms clk::(LC++LD)):=by
 subst hn
 exact⟨b,T,cv,bk,cp,hk,mb,ms,clk,c,LC,LD,bd,rfl,rfl,rfl,h4,h5,h6,h7,h8,h9⟩
def ET(P:Program) (f:FuncId):Prop:=∀{d:Ac}{b bd:Nat}{T:TypeId}{l:List Value},CS P f [.pointer (some ⟨b,0,none⟩)] d [bx b T (.pointer (some ⟨bd,0,none⟩)::l)] (.bool false)
def KI:AY:=⟨12,[(.tmp 2)],(sR (o1 2 (.mv (.const (.bool false))) .done) (sR (om 3 0<|o1 4 (.eqp false (tP 3) (.const (.pointer none)))<|om 5 4<|gF 6 5 0<|oF 7 5 (.nilc (tP 6))<|oF 8 5 (.fld 0 (tP 7))<|oF 9 5 (.ld none (tP 8))<|oF 10 5 (.eqp false (tP 9) (.const (.pointer none)))<|o1 11 (.pick (tP 5) (.const (.bool true)) (tP 10))<|om 2 11 .done) .ret))⟩
theorem XW{P:Program}{f:FuncId} (hd:dec P f=some KI):ET P f:=by
 intro d b bd T l
 refine AG hd (Aca rfl) ?_
 show gwp P _ _ _ _ _
 (refine Ad<|Ae rfl<|Aa<|Ad<|Al rfl<|C7 rfl rfl<|Ae rfl<|Af rfl<|Al rfl<|Af rfl<|Au rfl<|Af rfl<|Ai rfl<|Af rfl<|Ag rfl (Aj 0 rfl rfl)<|Af rfl<|C7 rfl rfl<|As rfl rfl<|Ae rfl<|Aa<|An ?_)
 exact JO rfl (Acb _)
def GP(frm:Nat) (ks:List Int) (k:Int):Int:=if (frm:Int)≤k∧k<(frm:Int)+ks.length then ks.getD (k - frm).toNat 0 else -1
def IV(P:Program) (f:FuncId):Prop:=∀{d:Ac}{b bk cp frm:Nat}{T:TypeId}{x0 x1 x4 x5 x6:Value}{hk:Ac}{ks:List Int}{k:Int},Aq 1 Bg d (.slice (some ⟨bk,0,none⟩) ks.length cp) ks hk→frm≤8192→
 CS P f [.pointer (some ⟨b,0,none⟩),.int .i64 k] d [bx b T [x0,x1,.int .i64 frm,.slice (some ⟨bk,0,none⟩) ks.length cp,x4,x5,x6],hk] (.int .i64 (GP frm ks k))
def K8:AY:=⟨37,[(.tmp 4)],(sR (o1 4 (.mv (kZ 0)) .done) (.seq (.seq (.reg true (pm 5 1<|pm 6 0<|p1 7 (.nilc (tP 6))<|p1 8 (.fld 2 (tP 7))<|pl 9 8<|p1 10 (.bin .lss (tP 5) (tP 9))<|pm 11 10 (.op true ⟨(some 12),(some (11,false)),(.mv (tP 1))⟩ (.op true ⟨(some 13),(some (11,false)),(.mv (tP 0))⟩ (.op true ⟨(some 14),(some (11,false)),(.nilc (tP 13))⟩ (.op true ⟨(some 15),(some (11,false)),(.fld 2 (tP 14))⟩ (.op true ⟨(some 16),(some (11,false)),(.ld none (tP 15))⟩ (.op true ⟨(some 17),(some (11,false)),(.mv (tP 0))⟩ (.op true ⟨(some 18),(some (11,false)),(.nilc (tP 17))⟩ (.op true ⟨(some 19),(some (11,false)),(.fld 3 (tP 18))⟩ (.op true ⟨(some 20),(some (11,false)),(.ld none (tP 19))⟩ (.op true ⟨(some 21),(some (11,false)),(.len (tP 20))⟩ (.op true ⟨(some 22),(some (11,false)),(.bin .add (tP 16) (tP 21))⟩ (.op true ⟨(some 23),(some (11,false)),(.bin .geq (tP 12) (tP 22))⟩ (p1 24 (.pick (tP 11) (.const (.bool true)) (tP 23)) .done))))))))))))))) (.cond (tP 24) (sR (o1 4 (.mv (kZ (-1))) .done) .ret) .skip)) (.seq (.reg true (pm 25 0<|p1 26 (.nilc (tP 25))<|p1 27 (.fld 3 (tP 26))<|pl 28 27<|pm 29 1<|pm 30 0<|p1 31 (.nilc (tP 30))<|p1 32 (.fld 2 (tP 31))<|pl 33 32<|p1 34 (.bin .sub (tP 29) (tP 33))<|p1 35 (.idx 1 (tP 28) (tP 34))<|pl 36 35 (.bar (pm 4 36 .done)))) .ret)))⟩
theorem Zm{P:Program}{f:FuncId} (hd:dec P f=some K8):IV P f:=by
 intro d b bk cp frm T x0 x1 x4 x5 x6 hk ks k hg hf
 have hlen:=hg.BZ
 refine AG hd (Aca rfl) ?_
 show gwp P _ _ _ _ _
 by_cases h1:k<frm
 ·(refine Ad<|Ab rfl<|Aa<|Ah<|Ah<|Bs<|Ab rfl<|Al rfl<|Au rfl<|Ai rfl<|Ag rfl (Aj 0 rfl rfl)<|AE rfl rfl<|Ae rfl<|Be rfl (by omega)<|Ap rfl<|Ap rfl<|Ap rfl<|Ap rfl<|Ap rfl<|Ap rfl<|Ap rfl<|Ap rfl<|Ap rfl<|Ap rfl<|Ap rfl<|Ap rfl<|AF rfl rfl<|A5<|Bh rfl<|Ad<|Ab rfl<|Aa<|An ?_)
  rw [show GP frm ks k= -1 by unfold GP;rw [if_neg (by omega)]]
  exact JO rfl (Acb _)
 ·by_cases h2:k<(frm:Int)+ks.length
  ·obtain⟨m,hm⟩:∃m:Nat,k=(frm:Int)+m:=⟨(k - frm).toNat,by omega⟩
   subst hm
   have hml:m<ks.length:=by omega
   obtain⟨b1,T1,l1,c1,cs,q1,rfl,hcl,hcs,hle,⟨rfl, -, -⟩, -⟩:=Aq.at (by omega) hg hml
   cases q1
   have c0:=hcs 0 _ rfl
   rw [show GP frm ks ((frm:Int)+m)=ks[m] by
    unfold GP;rw [if_pos (by omega),show((frm:Int)+m - frm).toNat=m by omega,Acf,Ace hml];rfl]
   (refine Ad<|Ab rfl<|Aa<|Ah<|Ah<|Bs<|Ab rfl<|Al rfl<|Au rfl<|Ai rfl<|Ag rfl (Aj 0 rfl rfl)<|AE rfl rfl<|Ae rfl<|Bc rfl (by omega)<|Af rfl<|Ab rfl<|Af rfl<|Al rfl<|Af rfl<|Au rfl<|Af rfl<|Ai rfl<|Af rfl<|Ag rfl (Aj 0 rfl rfl)<|Af rfl<|Al rfl<|Af rfl<|Au rfl<|Af rfl<|Ai rfl<|Af rfl<|Ag rfl (Aj 0 rfl rfl)<|Af rfl<|AN rfl<|Af rfl<|AO rfl rfl (by omega) (by omega)<|Af rfl<|DG rfl rfl<|As rfl rfl<|A5<|Ar rfl (by omega)<|Ak<|Ah<|Bs<|Al rfl<|Au rfl<|Ai rfl<|Ag rfl (Aj 0 rfl rfl)<|Ab rfl<|Al rfl<|Au rfl<|Ai rfl<|Ag rfl (Aj 0 rfl rfl)<|CX rfl rfl (by omega) (by omega) ?_)
   refine Bx m rfl rfl (by omega) hml ?_
   (refine Ag rfl (Aj 1 rfl (by assumption))<|B5<|Ab rfl<|Aa<|An ?_)
   exact JO rfl (Acb _)
  ·(refine Ad<|Ab rfl<|Aa<|Ah<|Ah<|Bs<|Ab rfl<|Al rfl<|Au rfl<|Ai rfl<|Ag rfl (Aj 0 rfl rfl)<|AE rfl rfl<|Ae rfl<|Bc rfl (by omega)<|Af rfl<|Ab rfl<|Af rfl<|Al rfl<|Af rfl<|Au rfl<|Af rfl<|Ai rfl<|Af rfl<|Ag rfl (Aj 0 rfl rfl)<|Af rfl<|Al rfl<|Af rfl<|Au rfl<|Af rfl<|Ai rfl<|Af rfl<|Ag rfl (Aj 0 rfl rfl)<|Af rfl<|AN rfl<|Af rfl<|AO rfl rfl (by omega) (by omega)<|Af rfl<|DG rfl rfl<|As rfl rfl<|A5<|Ax rfl (by omega)<|Ad<|Ab rfl<|Aa<|An ?_)
   rw [show GP frm ks k= -1 by unfold GP;rw [if_neg (by omega)]]
   exact JO rfl (Acb _)
def Pn(P:Program) (f:FuncId):Prop:=∀{d:Ac}{v:Value}{xs:List Int}{x:Int},RSl 1 Bg d v xs→CQ P f [v,.int .i64 x] d (.int .i64 (match CY x xs with|some i=>(i:Int)|none=> -1))
def IE:AY:=⟨19,[(.tmp 4)],(sR (o1 4 (.mv (kZ 0)) .done) (.seq (sR (om 6 0<|oL 7 6<|o1 8 (.mv (kZ 0)) .done) (.block 0 (.loop (sR (ob 9 .lss (tP 8) (tP 7) .done) (.seq (.cond (tP 9) .skip (.exit 0)) (.seq (.block 1 (sR (om 10 8<|om 5 10 .done) (sR (om 11 1<|om 12 0<|om 13 5<|oI 14 1 12 13<|ol 15 14<|ob 16 .eql (tP 11) (tP 15) .done) (.cond (tP 16) (sR (om 17 5<|om 4 17 .done) .ret) .skip)))) (rG (ob 18 .add (tP 8) (kZ 1)<|om 8 18 .done)))))))) (sR (o1 4 (.mv (kZ (-1))) .done) .ret)))⟩
theorem W5{P:Program}{f:FuncId} (hd:dec P f=some IE):Pn P f:=by
 intro d v xs x hv
 have hlen:=hv.BZ
 refine AG hd (Aca rfl) ?_
 show gwp P _ _ _ _ _
 (refine Ad<|Ab rfl<|Aa<|Ah<|Ad<|AL<|BG rfl (by assumption)<|Ab rfl<|Aa<|Az ?_)
 refine CU (α:=Nat) (fun i=>[(0,v),(1,.int .i64 x),(7,.int .i64 xs.length),(8,.int .i64 i)]) (fun _=>[]) (fun i=>i≤xs.length∧CY x xs=(CY x (xs.drop i)).map (·+i)) (fun i=>xs.length - i) 0 ⟨rfl,rfl,rfl,rfl,trivial⟩ rfl ⟨by omega,by simp⟩ ?_
 rintro i ρ ⟨hi,hF⟩
 by_cases e:i<xs.length
 ·rw [SN e] at hF
  by_cases hx:x=xs[i]
  ·(refine Ad<|AE rfl rfl<|Aa<|Ah<|Ax rfl (by omega)<|Ak<|Ah<|Az<|Ad<|Ab rfl<|Ab rfl<|Aa<|Ad<|Ab rfl<|AL<|Ab rfl<|BL (sz:=1) (R:=Bg) (by rfl) (by assumption) (by rfl) rfl (by omega) ?_;rintro _ _ _ _ _ ⟨rfl,_,_⟩;refine Ag rfl (B7 (by assumption) rfl)<|AJ rfl rfl<|Aa<|Ax rfl (by omega)<|Ad<|Ab rfl<|Ab rfl<|Aa<|An ?_)
   rw [if_pos hx,Aeq,Aeh] at hF
   refine Hg rfl ?_
   rw [hF]
  ·(refine Ad<|AE rfl rfl<|Aa<|Ah<|Ax rfl (by omega)<|Ak<|Ah<|Az<|Ad<|Ab rfl<|Ab rfl<|Aa<|Ad<|Ab rfl<|AL<|Ab rfl<|BL (sz:=1) (R:=Bg) (by rfl) (by assumption) (by rfl) rfl (by omega) ?_;rintro _ _ _ _ _ ⟨rfl,_,_⟩;refine Ag rfl (B7 (by assumption) rfl)<|AJ rfl rfl<|Aa<|Ar rfl (by omega)<|Ak<|AA<|AO rfl rfl (by omega) (by omega)<|Ab rfl<|Aa ?_)
   rw [if_neg hx,Option.map_map] at hF
   exact⟨i+1,by omega,⟨rfl,rfl,rfl,rfl,trivial⟩,rfl,rfl,e,by rw [hF];congr 1;funext z;simp only [Function.comp];omega⟩
 ·(refine Ad<|AE rfl rfl<|Aa<|Ah<|Ar rfl (by omega)<|Bj<|Ad<|Ab rfl<|Aa<|An ?_)
  have:CY x xs=none:=by rw [hF,Aex (by omega)];rfl
  refine Hg rfl ?_
  rw [this]
def Hp(P:Program) (f:FuncId):Prop:=∀{d:Ac}{mb clk:Nat}{ms:List (Int×Value×Nat)},Le (mpI mb ms clk) d→Aw P f [.map (some mb)] d [] (Ret fun r d' L'=>d'=d∧∃q,r=.map (some q)∧L'=[mpI q ms clk])
def FJ(a0:Nat):AY:=⟨9,[(.tmp 2)],(sR (o1 2 (.mv (.const (.map none))) .done) (.seq (sR (om 3 0<|o1 4 (.eqm false (tP 3) (.const (.map none))) .done) (.cond (tP 4) (sR (o1 2 (.mv (.const (.map none))) .done) .ret) .skip)) (sR (om 5 0<|o1 6 (.mki a0 (tP 5))<|o1 7 (.mop (.cln (tP 6)))<|o1 8 (.tas a0 (tP 7))<|om 2 8 .done) .ret)))⟩
theorem SH{P:Program}{f:FuncId}{t1:Nat} (hd:dec P f=some (FJ t1)):Hp P f:=by
 intro d mb clk ms hm
 refine AG hd (Aca rfl) ?_
 show gwp P _ _ _ _ _
 (refine Ad<|AL<|Aa<|Ah<|Ad<|AL ?_)
 refine AaK rfl rfl ?_
 (refine Aa<|AS rfl<|Ak<|Ad<|AL<|Aa8 ?_)
 refine Abu rfl ⟨d,.inl rfl,hm _ _ (CA _ _)⟩ (fun q=>?_)
 refine Aa4 rfl ?_
 (refine AL<|Aa<|An ?_)
 exact BE rfl (Acb _) ⟨rfl,q,rfl,rfl⟩
theorem OY(s:PD) (k:Int):GP s.frm s.kinds k=s.kind k:=rfl
theorem Rw:Pu 0 kI:=AaQ
def FO(P:Program) (f:FuncId):Prop:=∀{d:Ac}{s:PD}{dv pv:Value}{L:List Ac},Pg d s dv pv L→Aw P f [pv] d L (Ret fun r d' L'=>r=.tuple #[.int .i64 s.AV.2.1,.int .i64 s.AV.2.2]∧Pg d' s.AV.1 dv pv L')
def KM(a0 a1:Nat):AY:=⟨37,[(.tmp 2),(.tmp 3)],(sR (o1 2 (.mv (kZ 0))<|o1 3 (.mv (kZ 0)) .done) (.seq (sR (om 5 0<|oc 6 a0 [(tP 5)] .done) (.cond (tP 6) (sR (o1 2 (.mv (kZ 0))<|o1 3 (.mv (kZ 1)) .done) .ret) .skip)) (sR (om 7 0<|o1 8 (.nilc (tP 7))<|oj 9 3 8<|ol 10 9<|oc 11 a1 [(tP 10),(kZ 0)]<|om 4 11 .done) (.seq (sR (om 12 4<|ob 13 .lss (tP 12) (kZ 0) .done) (.cond (tP 13) (sR (o1 2 (.mv (kZ 0))<|o1 3 (.mv (kZ 190)) .done) .ret) .skip)) (sR (om 14 0<|o1 15 (.nilc (tP 14))<|oj 16 3 15<|ol 17 16<|om 18 4<|oI 19 1 17 18<|o0 (.st 1 (tP 19) (kZ 1)) .done) (.seq (.reg true (pm 20 0<|p1 21 (.nilc (tP 20))<|p1 22 (.fld 4 (tP 21))<|pl 23 22<|pm 24 0<|p1 25 (.nilc (tP 24))<|p1 26 (.fld 2 (tP 25))<|pl 27 26<|pm 28 4<|p1 29 (.bin .add (tP 27) (tP 28))<|o1 30 (.mks 1 1 [(.int .u8 0)] (kZ 256) (kZ 256))<|o0 (.mop (.up 0 (tP 23) (tP 29) (tP 30))) .done)) (sR (om 31 0<|o1 32 (.nilc (tP 31))<|oj 33 2 32<|ol 34 33<|om 35 4<|ob 36 .add (tP 34) (tP 35)<|om 2 36<|o1 3 (.mv (kZ 0)) .done) .ret)))))))⟩
set_option maxRecDepth 4000 in
theorem Px{P:Program}{f f1 f2:FuncId} (hd:dec P f=some (KM f1 f2)) (h1:ET P f1) (h2:Pn P f2):FO P f:=by
 intro d s dv pv L hp
 have hp0:=hp
 obtain⟨b,T,cv,bk,cp,hk,mb,ms,clk,c,LC,LD,bd,rfl,rfl,rfl,hg,hm,hC,hD,hc,hG⟩:=hp
 have hone:=hG.one
 have hlen:=hG.len
 have hinn:=hG.inn
 have hsyn:=hG.syn
 refine AG hd (Aca rfl) ?_
 show gwp P _ _ _ _ _
 (refine Ad<|Ab rfl<|Ab rfl<|Aa<|Ah<|Ad<|Al rfl ?_)
 refine CK (A:=[_]) (B:=_::_::(LC++LD)) rfl rfl h1 ?_
 (refine Aa<|AS rfl<|Ak<|Ad<|Al rfl<|Au rfl<|Ai rfl<|Ag rfl (Aj 0 rfl rfl) ?_)
 refine LS (A:=[hk]) (B:=_::_::(LC++LD)) (Adc _ _ _) rfl (CQ.borrow (fun d1 hl1 hk1=>h2 (x:=0) (Aq.rsl (R:=Bg) hg B8 (by omega) hl1 (hk1 _ (Acv.2 rfl))))) ?_
 cases hq:CY 0 s.kinds with
 |none=>
  refine E6 (g:=11) (v:=.int .i64 (-1)) rfl ?_
  (refine Ab rfl<|Aa<|Ah<|Ad<|Ab rfl<|AE rfl rfl<|Aa<|Ax rfl (by omega)<|Ad<|Ab rfl<|Ab rfl<|Aa<|An ?_)
  have hr:s.AV=(s,0,190):=by unfold PD.AV;rw [hq]
  rw [hr]
  exact CF rfl rfl (Acb _) ⟨rfl,hp0⟩
 |some i=>
  obtain⟨hi,h0⟩:=FN hq
  have hr:s.AV=(s.G1 i,((s.frm+i:Nat):Int),0):=by unfold PD.AV;rw [hq]
  rw [hr]
  obtain⟨b1,T1,l1,c1,cs,q1,rfl,hcl,hcs,hle, -,hset⟩:=Aq.at (by omega) hg hi
  cases q1
  refine E6 (g:=11) (v:=.int .i64 i) rfl ?_
  (refine Ab rfl<|Aa<|Ah<|Ad<|Ab rfl<|AE rfl rfl<|Aa<|Ar rfl (by omega)<|Ak<|Ad<|Al rfl<|Au rfl<|Ai rfl<|Ag rfl (Aj 0 rfl rfl)<|Ab rfl<|Bx _ rfl rfl rfl (by omega) ?_)
  refine AZ 1 (patch l1 (i*1) [.int .i64 1]) rfl rfl rfl rfl (by omega) rfl rfl ?_
  (refine Aa<|Ah ?_)
  refine Bv [_] _ rfl ?_
  (refine Al rfl<|Au rfl<|Ai rfl<|Ag rfl (Aj 0 rfl rfl)<|Al rfl<|Au rfl<|Ai rfl<|Ag rfl (Aj 0 rfl rfl)<|Ab rfl<|AO rfl rfl (by omega) (by omega) ?_)
  refine Hn (n:=256) (c:=256) rfl rfl (Ach _) (by omega) (by omega) (fun bz Tz=>?_)
  refine YC (kE:=kI) (vE:=id) (k:=((s.frm+i:Nat):Int)) Rw 2 rfl rfl ?_ rfl ?_
  ·exact int_eq (by omega)
  refine Hw ⟨join d (bx bz Tz (Bp [.int .u8 0] (256*1))),_::_::_::(LC++LD),(Vs.perm (Adc _ _ _)).trans Vs.freeze,?_⟩
  have hl:Le d (join d (bx bz Tz (Bp [.int .u8 0] (256*1)))):=Le.AH _ _
  have hz:AK (join d (bx bz Tz (Bp [.int .u8 0] (256*1)))) (.slice (some ⟨bz,0,none⟩) 256 256) II:=
   Aq.rsl (R:=AM) (sz:=1) (Aq.zero (sz:=1) (z:=[.int .u8 0]) (d:=d) (b:=bz) (T:=Tz) (n:=256) (R:=AM) (x:=(0:UInt8)) rfl (by omega) rfl (by omega)) AW (by omega) hl (Le.A6 _ _)
  have hlk:(s.G1 i).kinds.length=s.kinds.length:=by simp [PD.G1]
  have hP:=Pg.mk (d:=join d (bx bz Tz (Bp [.int .u8 0] (256*1)))) (s:=s.G1 i) (b:=b) (T:=T) (cv:=cv) (bk:=bk) (cp:=cp) (mb:=mb) (clk:=O5 ((s.frm+i:Nat):Int) clk ms) (c:=c) (LC:=LC) (LD:=LD) (bd:=bd) hlk
   (Aq.mono (R:=Bg) B8 (hset [.int .i64 1] 1 rfl ⟨rfl,by decide,by decide⟩) hl) (ms:=GG ((s.frm+i:Nat):Int) (.slice (some ⟨bz,0,none⟩) 256 256) clk ms) (fun j hj hj1=>?_) (hC.mono hl) (hD.mono hl)
   (hc.to rfl rfl (Og.set (by rw [show s.kinds.getD i 0=0 by rw [Acf,Ace hi,h0];rfl];omega))) (hG.to rfl rfl (i:=i) (x:=1) rfl (by omega) (by omega))
  ·(refine Ad<|Al rfl<|Au rfl<|Ai rfl<|Ag rfl (Aj 0 rfl rfl)<|Ab rfl<|AO rfl rfl (by omega) (by omega)<|Ab rfl<|Ab rfl<|Aa<|An ?_)
   exact CF (int_eq (show(s.frm:Int)+i=((s.frm+i:Nat):Int) by omega)) rfl (Acb _) ⟨rfl,hP⟩
  ·show∃v,Ez ((s.frm+j:Nat):Int) (GG ((s.frm+i:Nat):Int) (.slice (some ⟨bz,0,none⟩) 256 256) clk ms)=some v∧AK _ v (Ef s.fb i II j)∧(Ef s.fb i II j).length=256
   rw [get_put]
   by_cases e:j=i
   ·subst e
    exact⟨_,if_pos rfl,by simp only [Ef,if_true];exact hz,by simp only [Ef,if_true];exact Adn⟩
   ·rw [if_neg (by omega)]
    have hk1:s.kinds.getD j 0=1:=by
     have:(s.kinds.set i 1).getD j 0=1:=hj1
     rw [C1 hi,if_neg e] at this;exact this
    obtain⟨v,g1,g2,g3⟩:=hm j (by rw [←hlk];exact hj) hk1
    exact⟨v,g1,by simp only [Ef,if_neg e];exact g2.mono hl,by simp only [Ef,if_neg e];exact g3⟩
def NZ(P:Program) (f:FuncId):Prop:=∀{d:Ac}{s:PD}{dv pv w:Value}{L:List Ac}{k:Int}{b:Sec},Pg d s dv pv L→AK d w b→Aw P f [pv,.int .i64 k,w] d L (Ret fun r d' L'=>r=.int .i64 (s.put k b).2∧Pg d' (s.put k b).1 dv pv L')
def Ml(a0 a1 a2:Nat):AY:=⟨26,[(.tmp 6)],(sR (o1 6 (.mv (kZ 0)) .done) (.seq (.block 0 (sR (om 8 0<|oc 9 a0 [(tP 8)]<|om 7 9 .done) (.cond (tP 7) (sR (o1 6 (.mv (kZ 1)) .done) .ret) (sR (om 11 0<|om 12 1<|oc 13 a1 [(tP 11),(tP 12)]<|ob 14 .neq (tP 13) (kZ 1)<|om 10 14 .done) (.cond (tP 10) (sR (o1 6 (.mv (kZ 240)) .done) .ret) (sR (om 16 2<|oL 17 16<|ob 18 .neq (tP 17) (kZ 256)<|om 15 18 .done) (.cond (tP 15) (sR (o1 6 (.mv (kZ 2)) .done) .ret) .skip))))))) (.seq (.reg true (pm 19 0<|p1 20 (.nilc (tP 19))<|p1 21 (.fld 4 (tP 20))<|pl 22 21<|pm 23 1<|pm 24 2<|oc 25 a2 [(tP 24)]<|o0 (.mop (.up 0 (tP 22) (tP 23) (tP 25))) .done)) (sR (o1 6 (.mv (kZ 0)) .done) .ret))))⟩
set_option maxRecDepth 4000 in
theorem Aac{P:Program}{f f1 f2 f3:FuncId} (hd:dec P f=some (Ml f1 f2 f3)) (h1:ET P f1) (h2:IV P f2) (h3:D3 AM 1 P f3):NZ P f:=by
 intro d s dv pv w L k by_ hp hw
 have hp0:=hp
 have hwl:=hw.BZ
 have hw':RSl 1 AM d w by_:=hw
 obtain⟨b,T,cv,bk,cp,hk,mb,ms,clk,c,LC,LD,bd,rfl,rfl,rfl,hg,hm,hC,hD,hc,hG⟩:=hp
 have hlen:=hG.len
 have hinn:=hG.inn
 have hsyn:=hG.syn
 refine AG hd (Aca rfl) ?_
 show gwp P _ _ _ _ _
 (refine Ad<|Ab rfl<|Aa<|Ah<|Az<|Ad<|Al rfl ?_)
 refine CK (A:=[_]) (B:=_::_::(LC++LD)) rfl rfl h1 ?_
 (refine Ae rfl<|Aa<|AS rfl<|Ad<|Al rfl<|Ab rfl ?_)
 refine CK (A:=[_,hk]) (B:=_::(LC++LD)) rfl rfl (h2 (k:=k) hg (by omega)) ?_
 rw [OY]
 by_cases hk1:s.kind k=1
 ·by_cases hb:by_.length=256
  ·obtain⟨i,hi,rfl,hki,hti⟩:=CM hk1 (by omega)
   have hr:s.put ((s.frm+i:Nat):Int) by_=({s with fb:=Ef s.fb i by_},0):=by unfold PD.put;rw [if_pos hk1,if_pos hb,hti]
   rw [hr]
   (refine AQ rfl rfl<|Ae rfl<|Aa<|Ar rfl (by omega)<|Ad<|AL<|BG rfl (by assumption)<|AQ rfl rfl<|Ae rfl<|Aa<|Ar rfl (by omega)<|Ak<|Ah ?_)
   refine Bv [_] (hk::mpI mb ms clk::(LC++LD)) rfl ?_
   (refine Al rfl<|Au rfl<|Ai rfl<|Ag rfl (Aj 0 rfl rfl)<|Ab rfl<|AL ?_)
   refine Bi rfl (h3 hw' (by omega)) (fun u d2 L2 _ ⟨e1,h,e2,hrow⟩=>?_)
   subst e1;subst e2
   refine YC (kE:=kI) (vE:=id) (k:=((s.frm+i:Nat):Int)) Rw 2 rfl rfl rfl rfl ?_
   refine Hw ⟨join d2 h,_::_::_::(LC++LD),(Vs.perm (Adc _ _ _)).trans Vs.freeze,?_⟩
   have hl:Le d2 (join d2 h):=Le.AH _ _
   have hz:AK (join d2 h) u by_:=Aq.rsl (R:=AM) (sz:=1) hrow AW (by omega) hl (Le.A6 _ _)
   have hP:=Pg.mk (d:=join d2 h) (s:={s with fb:=Ef s.fb i by_}) (b:=b) (T:=T) (cv:=cv) (bk:=bk) (cp:=cp) (mb:=mb) (clk:=O5 ((s.frm+i:Nat):Int) clk ms) (c:=c) (LC:=LC) (LD:=LD) (bd:=bd) rfl
    (Aq.mono (R:=Bg) B8 hg hl) (ms:=GG ((s.frm+i:Nat):Int) u clk ms) (fun j hj hj1=>?_) (hC.mono hl) (hD.mono hl) (hc.to rfl rfl (Og.refl _)) (hG.to' rfl rfl rfl)
   ·(refine Ad<|Ab rfl<|Aa<|An ?_)
    exact BE rfl (Acb _) ⟨rfl,hP⟩
   ·show∃v,Ez ((s.frm+j:Nat):Int) (GG ((s.frm+i:Nat):Int) u clk ms)=some v∧AK _ v (Ef s.fb i by_ j)∧(Ef s.fb i by_ j).length=256
    rw [get_put]
    by_cases e:j=i
    ·subst e
     exact⟨_,if_pos rfl,by simp only [Ef,if_true];exact hz,by simp only [Ef,if_true];exact hb⟩
    ·rw [if_neg (by omega)]
     obtain⟨v,g1,g2,g3⟩:=hm j hj hj1
     exact⟨v,g1,by simp only [Ef,if_neg e];exact g2.mono hl,by simp only [Ef,if_neg e];exact g3⟩
  ·have hr:s.put k by_=(s,2):=by unfold PD.put;rw [if_pos hk1,if_neg hb]
   rw [hr]
   (refine AQ rfl rfl<|Ae rfl<|Aa<|Ar rfl (by omega)<|Ad<|AL<|BG rfl (by assumption)<|AQ rfl rfl<|Ae rfl<|Aa<|Ax rfl (by omega)<|Ad<|Ab rfl<|Aa<|An ?_)
   exact BE rfl (Acb _) ⟨rfl,hp0⟩
 ·have hr:s.put k by_=(s,240):=by unfold PD.put;rw [if_neg hk1]
  rw [hr]
  (refine AQ rfl rfl<|Ae rfl<|Aa<|Ax rfl (by omega)<|Ad<|Ab rfl<|Aa<|An ?_)
  exact BE rfl (Acb _) ⟨rfl,hp0⟩
def Gv(P:Program) (f:FuncId):Prop:=∀{d:Ac}{s:PD}{dv pv:Value}{L:List Ac}{k:Int},Pg d s dv pv L→Aw P f [pv,.int .i64 k] d L (Ret fun r d' L'=>r=.int .i64 (s.drop k).2∧Pg d' (s.drop k).1 dv pv L')
def Ku(a0 a1:Nat):AY:=⟨41,[(.tmp 4)],(sR (o1 4 (.mv (kZ 0)) .done) (.seq (sR (om 5 0<|oc 6 a0 [(tP 5)] .done) (.cond (tP 6) (sR (o1 4 (.mv (kZ 1)) .done) .ret) .skip)) (.seq (sR (om 7 0<|om 8 1<|oc 9 a1 [(tP 7),(tP 8)] .done) (.block 0 (sR (ob 11 .eql (tP 9) (kZ 1)<|om 10 11 .done) (.cond (tP 10) (.seq (.reg true (pm 12 0<|p1 13 (.nilc (tP 12))<|p1 14 (.fld 3 (tP 13))<|pl 15 14<|pm 16 1<|pm 17 0<|p1 18 (.nilc (tP 17))<|p1 19 (.fld 2 (tP 18))<|pl 20 19<|p1 21 (.bin .sub (tP 16) (tP 20))<|p1 22 (.idx 1 (tP 15) (tP 21)) (.bar (o0 (.st 1 (tP 22) (kZ 0)) .done)))) (rG (om 23 0<|o1 24 (.nilc (tP 23))<|oj 25 4 24<|ol 26 25<|om 27 1<|o0 (.mop (.del 0 (tP 26) (tP 27))) .done))) (sR (ob 29 .eql (tP 9) (kZ 2)<|om 28 29 .done) (.cond (tP 28) (.reg true (pm 30 0<|p1 31 (.nilc (tP 30))<|p1 32 (.fld 3 (tP 31))<|pl 33 32<|pm 34 1<|pm 35 0<|p1 36 (.nilc (tP 35))<|p1 37 (.fld 2 (tP 36))<|pl 38 37<|p1 39 (.bin .sub (tP 34) (tP 38))<|p1 40 (.idx 1 (tP 33) (tP 39)) (.bar (o0 (.st 1 (tP 40) (kZ 3)) .done)))) (sR (o1 4 (.mv (kZ 240)) .done) .ret))))))) (sR (o1 4 (.mv (kZ 0)) .done) .ret))))⟩
set_option maxRecDepth 4000 in
theorem Zo{P:Program}{f f1 f2:FuncId} (hd:dec P f=some (Ku f1 f2)) (h1:ET P f1) (h2:IV P f2):Gv P f:=by
 intro d s dv pv L k hp
 have hp0:=hp
 obtain⟨b,T,cv,bk,cp,hk,mb,ms,clk,c,LC,LD,bd,rfl,rfl,rfl,hg,hm,hC,hD,hc,hG⟩:=hp
 have hlen:=hG.len
 have hinn:=hG.inn
 have hsyn:=hG.syn
 refine AG hd (Aca rfl) ?_
 show gwp P _ _ _ _ _
 (refine Ad<|Ab rfl<|Aa<|Ah<|Ad<|Al rfl ?_)
 refine CK (A:=[_]) (B:=_::_::(LC++LD)) rfl rfl h1 ?_
 (refine Aa<|AS rfl<|Ak<|Ah<|Ad<|Al rfl<|Ab rfl ?_)
 refine CK (A:=[_,hk]) (B:=_::(LC++LD)) rfl rfl (h2 (k:=k) hg (by omega)) ?_
 rw [OY]
 by_cases hk1:s.kind k=1
 ·obtain⟨i,hi,rfl,hki,hti⟩:=CM hk1 (by omega)
  have hr:s.drop ((s.frm+i:Nat):Int)=({s with kinds:=s.kinds.set i 0},0):=by unfold PD.drop;rw [if_pos hk1,hti]
  rw [hr]
  obtain⟨b1,T1,l1,c1,cs,q1,rfl,hcl,hcs,hle, -,hset⟩:=Aq.at (by omega) hg hi
  cases q1
  (refine Aa<|Az<|Ad<|AJ rfl rfl<|Ae rfl<|Aa<|Ax rfl (by omega)<|Ah ?_)
  refine Bv [_] (bx bk T1 l1::mpI mb ms clk::(LC++LD)) rfl ?_
  (refine Al rfl<|Au rfl<|Ai rfl<|Ag rfl (Aj 0 rfl rfl)<|Ab rfl<|Al rfl<|Au rfl<|Ai rfl<|Ag rfl (Aj 0 rfl rfl)<|CX rfl rfl (by omega) (by omega) ?_)
  refine Bx i rfl rfl (by omega) hi ?_
  (apply B5)
  refine AZ 1 (patch l1 (i*1) [.int .i64 0]) rfl rfl rfl rfl hle rfl rfl ?_
  refine Hw ⟨d,_::_::_::(LC++LD),Vs.refl _ _,?_⟩
  (refine AA<|Al rfl<|Au rfl<|Ai rfl<|Ag rfl (Aj 0 rfl rfl)<|Ab rfl ?_)
  refine Aa3 (k:=((s.frm+i:Nat):Int)) Rw 2 rfl rfl rfl ?_
  have hP:=Pg.mk (d:=d) (s:={s with kinds:=s.kinds.set i 0}) (b:=b) (T:=T) (cv:=cv) (bk:=bk) (cp:=cp) (mb:=mb) (clk:=clk) (c:=c) (LC:=LC) (LD:=LD) (bd:=bd) (n:=s.kinds.length) (by simp)
    (hset [.int .i64 0] 0 rfl ⟨rfl,by omega,by omega⟩) (ms:=ID ((s.frm+i:Nat):Int) ms) (fun j hj hj1=>?_) hC hD (hc.to rfl rfl (Og.set (by rw [show s.kinds.getD i 0=1 from hki];omega))) (hG.to rfl rfl rfl (by omega) (by omega))
  ·(refine Aa<|Ad<|Ab rfl<|Aa<|An ?_)
   exact BE rfl (Acb _) ⟨rfl,hP⟩
  ·have hj1':(s.kinds.set i 0).getD j 0=1:=hj1
   rw [C1 hi] at hj1'
   by_cases e:j=i
   ·rw [if_pos e] at hj1';cases hj1'
   ·rw [if_neg e] at hj1'
    obtain⟨v,g1,g2,g3⟩:=hm j (by simpa using hj) hj1'
    have g0:Ez ((s.frm+j:Nat):Int) (ID ((s.frm+i:Nat):Int) ms)=some v:=by rw [TU (by omega)];exact g1
    exact⟨v,g0,g2,g3⟩
 ·by_cases hk2:s.kind k=2
  ·obtain⟨i,hi,rfl,hki,hti⟩:=CM hk2 (by omega)
   have hr:s.drop ((s.frm+i:Nat):Int)=({s with kinds:=s.kinds.set i 3},0):=by unfold PD.drop;rw [if_neg hk1,if_pos hk2,hti]
   rw [hr]
   obtain⟨b1,T1,l1,c1,cs,q1,rfl,hcl,hcs,hle, -,hset⟩:=Aq.at (by omega) hg hi
   cases q1
   (refine Aa<|Az<|Ad<|AJ rfl rfl<|Ae rfl<|Aa<|Ar rfl (by omega)<|Ad<|AJ rfl rfl<|Ae rfl<|Aa<|Ax rfl (by omega) ?_)
   refine Bv [_] (bx bk T1 l1::mpI mb ms clk::(LC++LD)) rfl ?_
   (refine Al rfl<|Au rfl<|Ai rfl<|Ag rfl (Aj 0 rfl rfl)<|Ab rfl<|Al rfl<|Au rfl<|Ai rfl<|Ag rfl (Aj 0 rfl rfl)<|CX rfl rfl (by omega) (by omega) ?_)
   refine Bx i rfl rfl (by omega) hi ?_
   (apply B5)
   refine AZ 1 (patch l1 (i*1) [.int .i64 3]) rfl rfl rfl rfl hle rfl rfl ?_
   refine Hw ⟨d,_::_::_::(LC++LD),Vs.refl _ _,?_⟩
   have hP:=Pg.mk (d:=d) (s:={s with kinds:=s.kinds.set i 3}) (b:=b) (T:=T) (cv:=cv) (bk:=bk) (cp:=cp) (mb:=mb) (clk:=clk) (c:=c) (LC:=LC) (LD:=LD) (bd:=bd) (n:=s.kinds.length) (by simp)
     (hset [.int .i64 3] 3 rfl ⟨rfl,by omega,by omega⟩) (ms:=ms) (fun j hj hj1=>?_) hC hD (hc.to rfl rfl (Og.set (by rw [show s.kinds.getD i 0=2 from hki];omega))) (hG.to rfl rfl rfl (by omega) (by omega))
   ·(refine Ad<|Ab rfl<|Aa<|An ?_)
    exact BE rfl (Acb _) ⟨rfl,hP⟩
   ·have hj1':(s.kinds.set i 3).getD j 0=1:=hj1
    rw [C1 hi] at hj1'
    by_cases e:j=i
    ·rw [if_pos e] at hj1';cases hj1'
    ·rw [if_neg e] at hj1'
     exact hm j (by simpa using hj) hj1'
  ·have hr:s.drop k=(s,240):=by unfold PD.drop;rw [if_neg hk1,if_neg hk2]
   rw [hr]
   (refine Aa<|Az<|Ad<|AJ rfl rfl<|Ae rfl<|Aa<|Ar rfl (by omega)<|Ad<|AJ rfl rfl<|Ae rfl<|Aa<|Ar rfl (by omega)<|Ad<|Ab rfl<|Aa<|An ?_)
   exact BE rfl (Acb _) ⟨rfl,hp0⟩
def AbJ(d:Ac) (h:Option Sec) (r:Value):Prop:=match h with|some x=>AK d r x|none=>r=.slice none 0 0
def Fl(P:Program) (f:FuncId):Prop:=∀{d:Ac}{s:PD}{dv pv:Value}{L:List Ac}{k:Int},Pg d s dv pv L→
 Aw P f [pv,.int .i64 k] d L (Ret fun r d' L'=>(∃q,r=.tuple #[q,.int .i64 (match (s.get k).2 with|some _=>0|none=>240)]∧AbJ d' (s.get k).2 q)∧Pg d' (s.get k).1 dv pv L')
def Mh(a0 a1 a2 a3 a4:Nat):AY:=⟨57,[(.tmp 4),(.tmp 5)],(sR (o1 4 (.mv nS)<|o1 5 (.mv (kZ 0)) .done) (.seq (sR (om 8 0<|oc 9 a0 [(tP 8)] .done) (.cond (tP 9) (sR (o1 4 (.mv nS)<|o1 5 (.mv (kZ 1)) .done) .ret) .skip)) (.seq (sR (om 10 0<|om 11 1<|oc 12 a1 [(tP 10),(tP 11)] .done) (.block 0 (sR (ob 14 .eql (tP 12) (kZ 1)<|om 13 14 .done) (.cond (tP 13) (sR (om 15 0<|o1 16 (.nilc (tP 15))<|oj 17 6 16<|ol 18 17<|ob 19 .add (tP 18) (kZ 1)<|o1 20 (.nilc (tP 15))<|oj 21 6 20<|o0 (.st 1 (tP 21) (tP 19)) .done) (sR (om 22 0<|o1 23 (.nilc (tP 22))<|oj 24 4 23<|ol 25 24<|om 26 1<|o1 27 (.mop (.lk 0 (.slice none 0 0) false (tP 25) (tP 26)))<|oc 28 a2 [(tP 27)]<|om 4 28<|o1 5 (.mv (kZ 0)) .done) .ret)) (sR (ob 30 .eql (tP 12) (kZ 2)<|om 29 30 .done) (.cond (tP 29) (sR (om 32 0<|o1 33 (.nilc (tP 32))<|oj 34 1 33<|ol 35 34<|om 36 1<|oc 37 a3 [(tP 35),(tP 36)]<|om 31 37<|oe 38 31 0<|oe 39 31 1<|om 6 38<|om 7 39 .done) (.seq (sR (om 40 7<|ob 41 .neq (tP 40) (kZ 0) .done) (.cond (tP 41) (sR (om 42 7<|o1 4 (.mv nS)<|om 5 42 .done) .ret) .skip)) (sR (om 43 0<|o1 44 (.nilc (tP 43))<|oj 45 1 44<|ol 46 45<|om 47 1<|oc 48 a4 [(tP 46),(tP 47)] .done) (sR (om 49 0<|o1 50 (.nilc (tP 49))<|oj 51 6 50<|ol 52 51<|ob 53 .add (tP 52) (kZ 1)<|o1 54 (.nilc (tP 49))<|oj 55 6 54<|o0 (.st 1 (tP 55) (tP 53)) .done) (sR (om 56 6<|om 4 56<|o1 5 (.mv (kZ 0)) .done) .ret))))) .skip)))))) (sR (o1 4 (.mv nS)<|o1 5 (.mv (kZ 240)) .done) .ret))))⟩
set_option maxRecDepth 4000 in
theorem Zk{P:Program}{f f1 f2 f3 f4 f5:FuncId} (hd:dec P f=some (Mh f1 f2 f3 f4 f5)) (h1:ET P f1) (h2:IV P f2) (h3:D3 AM 1 P f3) (h4:Kq P f4) (h5:HX P f5):Fl P f:=by
 intro d s dv pv L k hp
 have hp0:=hp
 obtain⟨b,T,cv,bk,cp,hk,mb,ms,clk,c,LC,LD,bd,rfl,rfl,rfl,hg,hm,hC,hD,hc,hG⟩:=hp
 have hlen:=hG.len
 have hinn:=hG.inn
 have hsyn:=hG.syn
 refine AG hd (Aca rfl) ?_
 show gwp P _ _ _ _ _
 (refine Ad<|Am rfl<|Ab rfl<|Aa<|Ah<|Ad<|Al rfl ?_)
 refine CK (A:=[_]) (B:=_::_::(LC++LD)) rfl rfl h1 ?_
 (refine Aa<|AS rfl<|Ak<|Ah<|Ad<|Al rfl<|Ab rfl ?_)
 refine CK (A:=[_,hk]) (B:=_::(LC++LD)) rfl rfl (h2 (k:=k) hg (by omega)) ?_
 rw [OY]
 by_cases hk1:s.kind k=1
 ·obtain⟨i,hi,rfl,hki,hti⟩:=CM hk1 (by omega)
  have hr:s.get ((s.frm+i:Nat):Int)=({s with tc:=s.tc+1},some (s.fb i)):=by unfold PD.get;rw [if_pos hk1,hti]
  rw [hr]
  obtain⟨v,g1,g2,g3⟩:=hm i hi hki
  (refine Aa<|Az<|Ad<|AJ rfl rfl<|Ae rfl<|Aa<|Ax rfl (by omega)<|Ad<|Al rfl<|Au rfl<|Ai rfl<|Ag rfl (Aj 0 rfl rfl) ?_)
  refine Kx rfl rfl ?_
  (refine Au rfl<|Ai rfl ?_)
  refine AZ 0 [.pointer (some ⟨bd,0,none⟩),cv,.int .i64 s.frm,.slice (some ⟨bk,0,none⟩) s.kinds.length cp,.map (some mb),.int .i64 (wr s.round),.int .i64 (wr (s.tc+1))] rfl rfl rfl rfl (Aca rfl) rfl rfl ?_
  (refine Aa<|Ad<|Al rfl<|Au rfl<|Ai rfl<|Ag rfl (Aj 0 rfl rfl)<|Ab rfl ?_)
  refine YN (kE:=kI) (vE:=id) (k:=((s.frm+i:Nat):Int)) Rw 2 rfl rfl rfl g1 ?_
  refine Bi (vs:=[v]) rfl (h3 g2 (by rw [g3];decide)) (fun u d2 L2 _ ⟨q1,h,q2,hrow⟩=>?_)
  subst q1;subst q2
  (refine AL<|Ab rfl<|Aa<|An ?_)
  have hP:=Pg.mk (d:=d2) (s:={s with tc:=s.tc+1}) (b:=b) (T:=T) (cv:=cv) (bk:=bk) (cp:=cp) (mb:=mb) (clk:=clk) (c:=c) (LC:=LC) (LD:=LD) (bd:=bd) rfl hg hm hC hD (hc.to rfl rfl (Og.refl _)) (hG.to' rfl rfl rfl)
  skip
  exact Ba [u,.int .i64 0] ⟨rfl,rfl,trivial⟩ (d':=join d2 h) (L':=_::_::_::(LC++LD)) Vs.freeze ⟨⟨_,rfl,Aq.rsl (R:=AM) (sz:=1) hrow AW (by omega) (Le.AH _ _) (Le.A6 _ _)⟩,hP.mono (Le.AH _ _)⟩
 ·by_cases hk2:s.kind k=2
  ·obtain⟨i,hi,rfl,hki,hti⟩:=CM hk2 (by omega)
   have hr:s.get ((s.frm+i:Nat):Int)=({s with tc:=s.tc+1},some (s.syn.getD (s.frm+i) [])):=by unfold PD.get;rw [if_neg hk1,if_pos hk2];rfl
   rw [hr]
   obtain⟨c',e1,e2,e3,e4,e5⟩:=hc.get (k:=s.frm+i) (by omega) (by omega) (by omega) (by rw [show s.frm+i - s.frm=i by omega,hki];omega)
   (refine Aa<|Az<|Ad<|AJ rfl rfl<|Ae rfl<|Aa<|Ar rfl (by omega)<|Ad<|AJ rfl rfl<|Ae rfl<|Aa<|Ax rfl (by omega)<|Ad<|Al rfl<|Au rfl<|Ai rfl<|Ag rfl (Aj 0 rfl rfl)<|Ab rfl ?_)
   have hcur:Eo.cur ⟨s.syn,[]⟩ (s.frm+i)=s.syn.getD (s.frm+i) []:=rfl
   refine C4 (h4 (k:=s.frm+i) hC hD e2 (show s.frm+i<s.syn.length by omega)) (Ack (l₁:=[_,_,_])) rfl (fun u d2 L2 hl2 ⟨LC2,LD2,q1,q2,q3,q4⟩=>?_)
   rw [hcur,e1] at q2 q4
   obtain⟨v,rfl,hv⟩:=q4
   subst q1
   refine⟨d2,_::_::_::(LC2++LD2),Vs.perm (Ack (l₂:=[_,_,_])),?_⟩
   (refine AU rfl<|Ao rfl rfl<|Ao rfl rfl<|AL<|Ab rfl<|Aa<|Ah<|Ad<|Ab rfl<|AQ rfl rfl<|Aa<|Ar rfl (by omega)<|Ak<|Ad<|Al rfl<|Au rfl<|Ai rfl<|Ag rfl (Aj 0 rfl rfl)<|Ab rfl ?_)
   refine C4 (h5 (k:=s.frm+i) q2 e3) (Ady [_,_,_] _ _) rfl (fun u d3 L3 hl3 ⟨q5,q6,q7⟩=>?_)
   subst q5;subst q6
   refine⟨d3,_::_::_::(L3++LD2),Vs.perm (Ady _ [_,_,_] _),?_⟩
   (refine Aa<|Ad<|Al rfl<|Au rfl<|Ai rfl<|Ag rfl (Aj 0 rfl rfl) ?_)
   refine Kx rfl rfl ?_
   have hP:=Pg.mk (d:=d3) (s:={s with tc:=s.tc+1}) (b:=b) (T:=T) (cv:=cv) (bk:=bk) (cp:=cp) (mb:=mb) (clk:=clk) (c:=(CZ c' (s.frm+i)).1) (LC:=L3) (LD:=LD2) (bd:=bd) rfl (Aq.mono (R:=Bg) B8 hg hl2) (hm.mono hl2) q7 q3 (e5.to rfl rfl (Og.refl _)) (hG.to' rfl rfl rfl)
   (refine Au rfl<|Ai rfl ?_)
   refine AZ 0 [.pointer (some ⟨bd,0,none⟩),cv,.int .i64 s.frm,.slice (some ⟨bk,0,none⟩) s.kinds.length cp,.map (some mb),.int .i64 (wr s.round),.int .i64 (wr (s.tc+1))] rfl rfl rfl rfl (Aca rfl) rfl rfl ?_
   (refine Aa<|Ad<|AL<|AL<|Ab rfl<|Aa<|An ?_)
   exact CF rfl rfl (Acb _) ⟨⟨_,rfl,hv⟩,hP⟩
  ·have hr:s.get k=(s,none):=by unfold PD.get;rw [if_neg hk1,if_neg hk2]
   rw [hr]
   (refine Aa<|Az<|Ad<|AJ rfl rfl<|Ae rfl<|Aa<|Ar rfl (by omega)<|Ad<|AJ rfl rfl<|Ae rfl<|Aa<|Ar rfl (by omega)<|Ak<|Ad<|Am rfl<|Ab rfl<|Aa<|An ?_)
   exact CF rfl rfl (Acb _) ⟨⟨_,rfl,rfl⟩,hp0⟩
def OW(P:Program) (f:FuncId):Prop:=∀{d:Ac}{s:PD}{dv pv:Value}{L:List Ac},Pg d s dv pv L→Aw P f [pv] d L (Ret fun r d' L'=>r=.int .i64 0∧d'=d∧Pg d' s.flush dv pv L')
def J4(a0 a1 a2:Nat):AY:=⟨51,[(.tmp 2)],(sR (o1 2 (.mv (kZ 0)) .done) (.seq (sR (om 6 0<|oc 7 a0 [(tP 6)] .done) (.cond (tP 7) (sR (o1 2 (.mv (kZ 1)) .done) .ret) .skip)) (.seq (sR (om 8 0<|o1 9 (.nilc (tP 8))<|oj 10 3 9<|ol 11 10<|oL 12 11<|o1 13 (.mv (kZ 0)) .done) (.block 0 (.loop (sR (ob 14 .lss (tP 13) (tP 12) .done) (.seq (.cond (tP 14) .skip (.exit 0)) (.seq (.block 1 (sR (om 15 13<|oI 16 1 11 13<|ol 17 16<|om 3 15<|om 4 17 .done) (.seq (sR (om 18 4<|ob 19 .neq (tP 18) (kZ 1) .done) (.cond (tP 19) (.exit 1) .skip)) (.seq (.reg true (pm 20 0<|p1 21 (.nilc (tP 20))<|p1 22 (.fld 0 (tP 21))<|pl 23 22<|pm 24 0<|p1 25 (.nilc (tP 24))<|p1 26 (.fld 2 (tP 25))<|pl 27 26<|pm 28 3<|p1 29 (.bin .add (tP 27) (tP 28))<|pm 30 0<|p1 31 (.nilc (tP 30))<|p1 32 (.fld 4 (tP 31))<|pl 33 32<|pm 34 0<|p1 35 (.nilc (tP 34))<|p1 36 (.fld 2 (tP 35))<|pl 37 36<|pm 38 3<|p1 39 (.bin .add (tP 37) (tP 38))<|o1 40 (.mop (.lk 0 (.slice none 0 0) false (tP 33) (tP 39)))<|oc 41 a1 [(tP 23),(tP 29),(tP 40)] (.bar (pm 5 41 .done)))) (sR (om 42 5<|ob 43 .neq (tP 42) (kZ 0) .done) (.cond (tP 43) (sR (om 44 5<|om 2 44 .done) .ret) .skip)))))) (rG (ob 45 .add (tP 13) (kZ 1)<|om 13 45 .done)))))))) (sR (om 46 0<|o1 47 (.nilc (tP 46))<|oj 48 0 47<|ol 49 48<|oc 50 a2 [(tP 49)]<|om 2 50 .done) .ret))))⟩
set_option maxRecDepth 4000 in
set_option maxHeartbeats 1000000 in
theorem WZ{P:Program}{f f1 f2 f3:FuncId} (hd:dec P f=some (J4 f1 f2 f3)) (h1:ET P f1) (h2:MU P f2) (h3:OV P f3):OW P f:=by
 intro d s dv pv L hp
 obtain⟨b,T,cv,bk,cp,hk,mb,ms,clk,c,LC,LD,bd,rfl,rfl,rfl,hg,hm,hC,hD,hc,hG⟩:=hp
 have hone:=hG.one
 have hlen:=hG.len
 have hinn:=hG.inn
 have hsyn:=hG.syn
 refine AG hd (Aca rfl) ?_
 show gwp P _ _ _ _ _
 (refine Ad<|Ab rfl<|Aa<|Ah<|Ad<|Al rfl ?_)
 refine CK (A:=[_]) (B:=_::_::(LC++LD)) rfl rfl h1 ?_
 (refine Aa<|AS rfl<|Ak<|Ah<|Ad<|Al rfl<|Au rfl<|Ai rfl<|Ag rfl (Aj 0 rfl rfl)<|AN rfl<|Ab rfl<|Aa<|Az ?_)
 refine CU (α:=Nat×List Ac) (fun x=>[(0,.pointer (some ⟨b,0,none⟩)),(11,.slice (some ⟨bk,0,none⟩) s.kinds.length cp),(12,.int .i64 s.kinds.length),(13,.int .i64 x.1)])
  (fun x=>bx b T [.pointer (some ⟨bd,0,none⟩),cv,.int .i64 s.frm,.slice (some ⟨bk,0,none⟩) s.kinds.length cp,.map (some mb),.int .i64 (wr s.round),.int .i64 (wr s.tc)]::hk::mpI mb ms clk::(LC++x.2))
  (fun x=>x.1≤s.kinds.length∧Dv d ⟨s.syn,s.writes x.1⟩ (.pointer (some ⟨bd,0,none⟩)) x.2) (fun x=>s.kinds.length - x.1) (0,LD) ⟨rfl,rfl,rfl,rfl,trivial⟩ rfl ⟨by simp only;omega,hD⟩ ?_
 rintro⟨i,LD1⟩ ρ ⟨hi,hD1⟩
 simp only at hi hD1⊢
 by_cases e:i<s.kinds.length
 ·obtain⟨b1,T1,l1,c1,cs,q1,rfl,hcl,hcs,hle,⟨rfl,hb1,hb2⟩, -⟩:=Aq.at (by omega) hg e
  cases q1
  have c0:=hcs 0 _ rfl
  have hkd:s.kinds[i]=s.kd i:=(Jd e).symm
  by_cases hk1:s.kinds[i]=1
  ·have hw:s.writes (i+1)=s.writes i++[(s.frm+i,s.fb i)]:=by rw [PD.writes,if_pos (by rw [←hkd];exact hk1)]
   obtain⟨v,g1,g2,g3⟩:=hm i e (by rw [←hk1,hkd])
   (refine Ad<|AE rfl rfl<|Aa<|Ah<|Ax rfl (by omega)<|Ak<|Ah<|Az<|Ad<|Ab rfl<|Bx _ rfl rfl rfl (by omega)<|Ag rfl (Aj 1 rfl (by assumption))<|Ab rfl<|Ab rfl<|Aa<|Ah<|Ad<|Ab rfl<|AQ rfl rfl<|Aa<|Ar rfl (by omega)<|Ak<|Ah ?_)
   refine Bv [_] (bx bk T1 l1::mpI mb ms clk::(LC++LD1)) rfl ?_
   (refine Al rfl<|Au rfl<|Ai rfl<|Ag rfl (Aj 0 rfl rfl)<|Al rfl<|Au rfl<|Ai rfl<|Ag rfl (Aj 0 rfl rfl)<|Ab rfl<|AO rfl rfl (by omega) (by omega)<|Al rfl<|Au rfl<|Ai rfl<|Ag rfl (Aj 0 rfl rfl)<|Al rfl<|Au rfl<|Ai rfl<|Ag rfl (Aj 0 rfl rfl)<|Ab rfl<|AO rfl rfl (by omega) (by omega) ?_)
   refine YN (kE:=kI) (vE:=id) (k:=((s.frm+i:Nat):Int)) Rw 2 rfl rfl rfl g1 ?_
   have hwl:=N0 (s:=s) (n:=i)
   refine C4 (h2 (k:=s.frm+i) hD1 (show s.frm+i<s.syn.length by omega) g2 g3 (show(s.writes i).length≤1000000 by omega)) (Ack (l₁:=bx bk T1 l1::mpI mb ms clk::LC)) rfl (fun u d2 L2 hl2 ⟨q1,q2,q3⟩=>?_)
   subst q1;subst q2
   refine⟨d2,_::_::(LC++L2),Vs.perm (Ack (l₂:=bx bk T1 l1::mpI mb ms clk::LC)),?_⟩
   (refine B5<|Ab rfl<|Aa<|Ad<|Ab rfl<|AQ rfl rfl<|Aa<|Ar rfl (by omega)<|Ak<|AA<|AO rfl rfl (by omega) (by omega)<|Ab rfl<|Aa ?_)
   exact⟨(i+1,L2),by simp only;omega,⟨rfl,rfl,rfl,rfl,trivial⟩,rfl,rfl,e,by rw [hw];exact q3⟩
  ·have hw:s.writes (i+1)=s.writes i:=by rw [PD.writes,if_neg (by rw [←hkd];exact hk1),Ads]
   (refine Ad<|AE rfl rfl<|Aa<|Ah<|Ax rfl (by omega)<|Ak<|Ah<|Az<|Ad<|Ab rfl<|Bx _ rfl rfl rfl (by omega)<|Ag rfl (Aj 1 rfl (by assumption))<|Ab rfl<|Ab rfl<|Aa<|Ah<|Ad<|Ab rfl<|AQ rfl rfl<|Aa<|Ax rfl (by omega)<|Bj<|AA<|AO rfl rfl (by omega) (by omega)<|Ab rfl<|Aa ?_)
   exact⟨(i+1,LD1),by simp only;omega,⟨rfl,rfl,rfl,rfl,trivial⟩,rfl,rfl,e,by simp only [hw];exact hD1⟩
 ·have:i=s.kinds.length:=by omega
  subst this
  (refine Ad<|AE rfl rfl<|Aa<|Ah<|Ar rfl (by omega)<|Bj<|Ad<|Al rfl<|Au rfl<|Ai rfl<|Ag rfl (Aj 0 rfl rfl) ?_)
  refine C4 (h3 hD1 (show 1≤s.syn.length by omega)) (Ack (l₁:=_::_::_::LC)) rfl (fun u d2 L2 hl2 ⟨q1,q2,q3⟩=>?_)
  subst q1;subst q2
  refine⟨d2,_::_::_::(LC++L2),Vs.perm (Ack (l₂:=_::_::_::LC)),?_⟩
  have hP:=Pg.mk (d:=d2) (s:=s.flush) (b:=b) (T:=T) (cv:=cv) (bk:=bk) (cp:=cp) (mb:=mb) (ms:=ms) (clk:=clk) (c:=c) (LC:=LC) (LD:=L2) (bd:=bd) rfl hg hm hC q3 hc.flush hG.flush
  (refine Ab rfl<|Aa<|An ?_)
  exact BE rfl (Acb _) ⟨rfl,rfl,hP⟩
def Q7(P:Program) (f:FuncId):Prop:=∀{d:Ac}{s:PD}{dv pv:Value}{L:List Ac},Pg d s dv pv L→Aw P f [pv] d L (Ret fun r d' L'=>r=.int .i64 0∧d'=d∧Pg d' s.done dv pv L')
def Kr(a0 a1:Nat):AY:=⟨57,[(.tmp 2)],(sR (o1 2 (.mv (kZ 0)) .done) (.seq (sR (om 5 0<|oc 6 a0 [(tP 5)] .done) (.cond (tP 6) (sR (o1 2 (.mv (kZ 1)) .done) .ret) .skip)) (.seq (sR (om 7 0<|o1 8 (.nilc (tP 7))<|oj 9 3 8<|ol 10 9<|oL 11 10<|o1 12 (.mv (kZ 0)) .done) (.block 0 (.loop (sR (ob 13 .lss (tP 12) (tP 11) .done) (.seq (.cond (tP 13) .skip (.exit 0)) (.seq (.block 1 (sR (om 14 12<|oI 15 1 10 12<|ol 16 15<|om 3 14<|om 4 16 .done) (sR (om 17 4 .done) (.block 2 (sR (ob 19 .eql (tP 17) (kZ 3)<|om 18 19 .done) (.cond (tP 18) (sR (om 20 0<|o1 21 (.nilc (tP 20))<|oj 22 3 21<|ol 23 22<|om 24 3<|oI 25 1 23 24<|o0 (.st 1 (tP 25) (kZ 0)) .done) (.reg true (pm 26 0<|p1 27 (.nilc (tP 26))<|p1 28 (.fld 1 (tP 27))<|pl 29 28<|pm 30 0<|p1 31 (.nilc (tP 30))<|p1 32 (.fld 2 (tP 31))<|pl 33 32<|pm 34 3<|p1 35 (.bin .add (tP 33) (tP 34))<|oc 36 a1 [(tP 29),(tP 35)] .done))) (sR (ob 38 .eql (tP 17) (kZ 1)<|om 37 38 .done) (.cond (tP 37) (rG (om 39 0<|o1 40 (.nilc (tP 39))<|oj 41 3 40<|ol 42 41<|om 43 3<|oI 44 1 42 43<|o0 (.st 1 (tP 44) (kZ 2)) .done)) .skip)))))))) (rG (ob 45 .add (tP 12) (kZ 1)<|om 12 45 .done)))))))) (sR (om 46 0<|o1 47 (.nilc (tP 46))<|oj 48 4 47<|ol 49 48<|o0 (.mop (.clr (tP 49))) .done) (sR (om 50 0<|o1 51 (.nilc (tP 50))<|oj 52 5 51<|ol 53 52<|ob 54 .add (tP 53) (kZ 1)<|o1 55 (.nilc (tP 50))<|oj 56 5 55<|o0 (.st 1 (tP 56) (tP 54)) .done) (sR (o1 2 (.mv (kZ 0)) .done) .ret))))))⟩
set_option maxRecDepth 4000 in
set_option maxHeartbeats 1000000 in
theorem ZV{P:Program}{f f1 f2:FuncId} (hd:dec P f=some (Kr f1 f2)) (h1:ET P f1) (h2:G0 P f2):Q7 P f:=by
 intro d s dv pv L hp
 obtain⟨b,T,cv,bk,cp,hk,mb,ms,clk,c,LC,LD,bd,rfl,rfl,rfl,hg,hm,hC,hD,hc,hG⟩:=hp
 have hone:=hG.one
 have hlen:=hG.len
 have hinn:=hG.inn
 have hsyn:=hG.syn
 refine AG hd (Aca rfl) ?_
 show gwp P _ _ _ _ _
 (refine Ad<|Ab rfl<|Aa<|Ah<|Ad<|Al rfl ?_)
 refine CK (A:=[_]) (B:=_::_::(LC++LD)) rfl rfl h1 ?_
 (refine Aa<|AS rfl<|Ak<|Ah<|Ad<|Al rfl<|Au rfl<|Ai rfl<|Ag rfl (Aj 0 rfl rfl)<|AN rfl<|Ab rfl<|Aa<|Az ?_)
 refine CU (α:=Nat×List Int×Ac×CD×List Ac) (fun x=>[(0,.pointer (some ⟨b,0,none⟩)),(10,.slice (some ⟨bk,0,none⟩) s.kinds.length cp),(11,.int .i64 s.kinds.length),(12,.int .i64 x.1)])
  (fun x=>bx b T [.pointer (some ⟨bd,0,none⟩),cv,.int .i64 s.frm,.slice (some ⟨bk,0,none⟩) s.kinds.length cp,.map (some mb),.int .i64 (wr s.round),.int .i64 (wr s.tc)]::x.2.2.1::mpI mb ms clk::(x.2.2.2.2++LD))
  (fun x=>x.1≤s.kinds.length∧Mid x.1 s.kinds x.2.1∧Aq 1 Bg d (.slice (some ⟨bk,0,none⟩) s.kinds.length cp) x.2.1 x.2.2.1∧Cw {s with kinds:=x.2.1} x.2.2.2.1∧Ca d x.2.2.2.1 (.pointer (some ⟨bd,0,none⟩)) cv x.2.2.2.2)
  (fun x=>s.kinds.length - x.1) (0,s.kinds,hk,c,LC) ⟨rfl,rfl,rfl,rfl,trivial⟩ rfl ⟨by simp only;omega,Mid.zero _,hg,hc.og (Og.refl _),hC⟩ ?_
 rintro⟨i,ks,hk1,c1,LC1⟩ ρ ⟨hi,hM,hg1,hc1,hC1⟩
 simp only at hi hM hg1 hc1 hC1⊢
 have hkl:=hM.1
 by_cases e:i<s.kinds.length
 ·have e':i<ks.length:=by omega
  obtain⟨b1,T1,l1,cc,cs,q1,rfl,hcl,hcs,hle,⟨rfl,hb1,hb2⟩,hset⟩:=Aq.at (by omega) hg1 e'
  rw [hkl] at q1
  cases q1
  have c0:=hcs 0 _ rfl
  have hki:ks.getD i 0=ks[i]:=by rw [Acf,Ace e'];rfl
  have hkd:ks[i]=s.kinds.getD i 0:=by rw [←hki,hM.2,if_neg (by omega)]
  by_cases hk3:ks[i]=3
  ·have hn:=hM.next e
   rw [show C3 (s.kinds.getD i 0)=0 by unfold C3;rw [if_pos (by rw [←hkd];exact hk3)]] at hn
   (refine Ad<|AE rfl rfl<|Aa<|Ah<|Ax rfl (by omega)<|Ak<|Ah<|Az<|Ad<|Ab rfl<|Bx _ rfl rfl rfl (by omega)<|Ag rfl (Aj 1 rfl (by assumption))<|Ab rfl<|Ab rfl<|Aa<|Ad<|Ab rfl<|Aa<|Az<|Ad<|AJ rfl rfl<|Ae rfl<|Aa<|Ax rfl (by omega)<|Ad<|Al rfl<|Au rfl<|Ai rfl<|Ag rfl (Aj 0 rfl rfl)<|Ab rfl<|Bx _ rfl rfl rfl (by omega) ?_)
   refine AZ 1 (patch l1 (i*1) [.int .i64 0]) rfl rfl rfl rfl hle rfl rfl ?_
   (apply Aa)
   refine Bv [_] (bx bk T1 (patch l1 (i*1) [.int .i64 0])::mpI mb ms clk::(LC1++LD)) rfl ?_
   (refine Al rfl<|Au rfl<|Ai rfl<|Ag rfl (Aj 0 rfl rfl)<|Al rfl<|Au rfl<|Ai rfl<|Ag rfl (Aj 0 rfl rfl)<|Ab rfl<|AO rfl rfl (by omega) (by omega) ?_)
   refine C4 (h2 (k:=s.frm+i) hC1 (fun j hj=>Zc hc1.inv hj)) (Ady [_,_] LC1 LD) rfl (fun u d2 L2 hl2 ⟨q1,q2,q3⟩=>?_)
   subst q1;subst q2
   refine⟨d2,_::_::(L2++LD),Vs.perm (Ady L2 [_,_] LD),?_⟩
   refine Hw ⟨d2,_::_::_::(L2++LD),Vs.refl _ _,?_⟩
   (refine AA<|AO rfl rfl (by omega) (by omega)<|Ab rfl<|Aa ?_)
   exact⟨(i+1,ks.set i 0,_,_,L2),by simp only;omega,⟨rfl,rfl,rfl,rfl,trivial⟩,rfl,rfl,e,hn,hset [.int .i64 0] 0 rfl ⟨rfl,by omega,by omega⟩,hc1.gone e' (by show ks.getD i 0=3;rw [hki];exact hk3),q3⟩
  ·by_cases hk1:ks[i]=1
   ·have hn:=hM.next e
    rw [show C3 (s.kinds.getD i 0)=2 by unfold C3;rw [if_neg (by rw [←hkd];exact hk3),if_pos (by rw [←hkd];exact hk1)]] at hn
    (refine Ad<|AE rfl rfl<|Aa<|Ah<|Ax rfl (by omega)<|Ak<|Ah<|Az<|Ad<|Ab rfl<|Bx _ rfl rfl rfl (by omega)<|Ag rfl (Aj 1 rfl (by assumption))<|Ab rfl<|Ab rfl<|Aa<|Ad<|Ab rfl<|Aa<|Az<|Ad<|AJ rfl rfl<|Ae rfl<|Aa<|Ar rfl (by omega)<|Ad<|AJ rfl rfl<|Ae rfl<|Aa<|Ax rfl (by omega)<|AA<|Al rfl<|Au rfl<|Ai rfl<|Ag rfl (Aj 0 rfl rfl)<|Ab rfl<|Bx _ rfl rfl rfl (by omega) ?_)
    refine AZ 1 (patch l1 (i*1) [.int .i64 2]) rfl rfl rfl rfl hle rfl rfl ?_
    (refine Aa<|AA<|AO rfl rfl (by omega) (by omega)<|Ab rfl<|Aa ?_)
    exact⟨(i+1,ks.set i 2,_,c1,LC1),by simp only;omega,⟨rfl,rfl,rfl,rfl,trivial⟩,rfl,rfl,e,hn,hset [.int .i64 2] 2 rfl ⟨rfl,by omega,by omega⟩,hc1.AbG e',hC1⟩
   ·have hn:=hM.same e (by unfold C3;rw [if_neg (by rw [←hkd];exact hk3),if_neg (by rw [←hkd];exact hk1)])
    (refine Ad<|AE rfl rfl<|Aa<|Ah<|Ax rfl (by omega)<|Ak<|Ah<|Az<|Ad<|Ab rfl<|Bx _ rfl rfl rfl (by omega)<|Ag rfl (Aj 1 rfl (by assumption))<|Ab rfl<|Ab rfl<|Aa<|Ad<|Ab rfl<|Aa<|Az<|Ad<|AJ rfl rfl<|Ae rfl<|Aa<|Ar rfl (by omega)<|Ad<|AJ rfl rfl<|Ae rfl<|Aa<|Ar rfl (by omega)<|Ak<|AA<|AO rfl rfl (by omega) (by omega)<|Ab rfl<|Aa ?_)
    exact⟨(i+1,ks,_,c1,LC1),by simp only;omega,⟨rfl,rfl,rfl,rfl,trivial⟩,rfl,rfl,e,hn,hg1,hc1,hC1⟩
 ·have hks:=hM.done (by omega)
  subst hks
  (refine Ad<|AE rfl rfl<|Aa<|Ah<|Ar rfl (by omega)<|Bj<|Ad<|Al rfl<|Au rfl<|Ai rfl<|Ag rfl (Aj 0 rfl rfl) ?_)
  refine Abq (kE:=kI) (vE:=id) 2 rfl rfl ?_
  (refine Aa<|Ad<|Al rfl<|Au rfl<|Ai rfl<|Ag rfl (Aj 0 rfl rfl) ?_)
  refine Kx rfl rfl ?_
  (refine Au rfl<|Ai rfl ?_)
  refine AZ 0 [.pointer (some ⟨bd,0,none⟩),cv,.int .i64 s.frm,.slice (some ⟨bk,0,none⟩) s.kinds.length cp,.map (some mb),.int .i64 (wr (s.round+1)),.int .i64 (wr s.tc)] rfl rfl rfl rfl (Aca rfl) rfl rfl ?_
  have hGd:Good s.done:=by
   refine⟨by simpa [PD.done] using hone,by simpa [PD.done] using hlen,by simpa [PD.done] using hinn,hsyn,fun j=>?_⟩
   show 0≤(s.kinds.map C3).getD j 0∧(s.kinds.map C3).getD j 0≤3
   rw [getD_map]
   exact WJ (hG.kd j)
  have hP:=Pg.mk (d:=d) (s:=s.done) (b:=b) (T:=T) (cv:=cv) (bk:=bk) (cp:=cp) (mb:=mb) (ms:=[]) (clk:=clk) (c:=c1) (LC:=LC1) (LD:=LD) (bd:=bd) (n:=s.kinds.length) (by simp [PD.done]) hg1 (fun j hj hj1=>by
   have h0:(s.kinds.map C3).getD j 0=1:=hj1
   rw [getD_map] at h0
   unfold C3 at h0
   split at h0
   ·cases h0
   ·split at h0
    ·cases h0
    ·contradiction) hC1 hD (hc1.to rfl rfl (Og.refl _)) hGd
  (refine Aa<|Ad<|Ab rfl<|Aa<|An ?_)
  exact BE rfl (Acb _) ⟨rfl,rfl,hP⟩
def Ld(P:Program) (f:FuncId):Prop:=∀{d:Ac}{s:PD}{dv pv:Value}{L:List Ac},Pg d s dv pv L→CS P f [pv] d L (.int .i64 s.free)
def KP(a0:Nat):AY:=⟨24,[(.tmp 2)],(sR (o1 2 (.mv (kZ 0)) .done) (sR (o1 3 (.mv (kZ 0)) .done) (.seq (sR (om 6 0<|oc 7 a0 [(tP 6)]<|o1 8 (.un .not (tP 7)) .done) (.cond (tP 8) (sR (om 9 0<|o1 10 (.nilc (tP 9))<|oj 11 3 10<|ol 12 11<|oL 13 12<|o1 14 (.mv (kZ 0)) .done) (.block 0 (.loop (sR (ob 15 .lss (tP 14) (tP 13) .done) (.seq (.cond (tP 15) .skip (.exit 0)) (.seq (.block 1 (sR (oI 16 1 12 14<|ol 17 16<|om 5 17 .done) (sR (om 18 5<|ob 19 .eql (tP 18) (kZ 0) .done) (.cond (tP 19) (rG (om 20 3<|ob 21 .add (tP 20) (kZ 1)<|om 3 21 .done)) .skip)))) (rG (ob 22 .add (tP 14) (kZ 1)<|om 14 22 .done)))))))) .skip)) (sR (om 23 3<|om 2 23 .done) .ret))))⟩
theorem Zi{P:Program}{f f1:FuncId} (hd:dec P f=some (KP f1)) (h1:ET P f1):Ld P f:=by
 intro d s dv pv L hp
 obtain⟨b,T,cv,bk,cp,hk,mb,ms,clk,c,LC,LD,bd,rfl,rfl,rfl,hg,hm,hC,hD,hc,hG⟩:=hp
 have hlen:=hG.len
 have hone:=hG.one
 refine AG hd (Aca rfl) ?_
 show gwp P _ _ _ _ _
 (refine Ad<|Ab rfl<|Aa<|Ad<|Ab rfl<|Aa<|Ah<|Ad<|Al rfl ?_)
 refine CK (A:=[_]) (B:=_::_::(LC++LD)) rfl rfl h1 ?_
 (refine Bu rfl<|Aa<|Bh rfl<|Ad<|Al rfl<|Au rfl<|Ai rfl<|Ag rfl (Aj 0 rfl rfl)<|AN rfl<|Ab rfl<|Aa<|Az ?_)
 refine CU (α:=Nat) (fun i=>[(3,.int .i64 ((s.kinds.take i).countP (·==0))),(12,.slice (some ⟨bk,0,none⟩) s.kinds.length cp),(13,.int .i64 s.kinds.length),(14,.int .i64 i)])
  (fun i=>bx b T [.pointer (some ⟨bd,0,none⟩),cv,.int .i64 s.frm,.slice (some ⟨bk,0,none⟩) s.kinds.length cp,.map (some mb),.int .i64 (wr s.round),.int .i64 (wr s.tc)]::hk::mpI mb ms clk::(LC++LD))
  (fun i=>i≤s.kinds.length) (fun i=>s.kinds.length - i) 0 ⟨rfl,rfl,rfl,rfl,trivial⟩ rfl (by omega) ?_
 rintro i ρ hi
 by_cases e:i<s.kinds.length
 ·obtain⟨b1,T1,l1,c1,cs,q1,rfl,hcl,hcs,hle,⟨rfl,hb1,hb2⟩, -⟩:=Aq.at (by omega) hg e
  cases q1
  have c0:=hcs 0 _ rfl
  have hn:(s.kinds.take (i+1)).countP (·==0)=(s.kinds.take i).countP (·==0)+(if s.kinds[i]=0 then 1 else 0):=by
   rw [Acx e,List.countP_append];simp [List.countP_cons,List.countP_nil]
  have hcb:(s.kinds.take i).countP (·==0)≤8192:=Agk List.countP_le_length (by rw [Acw];omega)
  by_cases h0:s.kinds[i]=0
  ·rw [if_pos h0] at hn
   (refine Ad<|AE rfl rfl<|Aa<|Ah<|Ax rfl (by omega)<|Ak<|Ah<|Az<|Ad<|Bx _ rfl rfl rfl (by omega)<|Ag rfl (Aj 1 rfl (by assumption))<|Ab rfl<|Aa<|Ad<|Ab rfl<|AJ rfl rfl<|Aa<|Ax rfl (by omega)<|AA<|Ab rfl<|AO rfl rfl (by omega) (by omega)<|Ab rfl<|Aa<|AA<|AO rfl rfl (by omega) (by omega)<|Ab rfl<|Aa ?_)
   exact⟨i+1,by omega,⟨by show Value.int _ _=Value.int _ _;rw [hn];rfl,rfl,rfl,rfl,trivial⟩,rfl,rfl,e⟩
  ·rw [if_neg h0] at hn
   (refine Ad<|AE rfl rfl<|Aa<|Ah<|Ax rfl (by omega)<|Ak<|Ah<|Az<|Ad<|Bx _ rfl rfl rfl (by omega)<|Ag rfl (Aj 1 rfl (by assumption))<|Ab rfl<|Aa<|Ad<|Ab rfl<|AJ rfl rfl<|Aa<|Ar rfl (by omega)<|Ak<|AA<|AO rfl rfl (by omega) (by omega)<|Ab rfl<|Aa ?_)
   exact⟨i+1,by omega,⟨by show Value.int _ _=Value.int _ _;rw [hn];rfl,rfl,rfl,rfl,trivial⟩,rfl,rfl,e⟩
 ·have:i=s.kinds.length:=by omega
  subst this
  (refine Ad<|AE rfl rfl<|Aa<|Ah<|Ar rfl (by omega)<|Bj<|Ad<|Ab rfl<|Ab rfl<|Aa<|An ?_)
  rw [show s.free=(s.kinds.take s.kinds.length).countP (·==0) by rw [Aeg];rfl]
  exact JO rfl (Acb _)
def R8(P:Program) (f:FuncId):Prop:=∀{d:Ac}{syn:List Sec}{dv cv lv:Value}{LC LD:List Ac}{m frm n:Nat}{live:List Nat},Dv d ⟨syn,[]⟩ dv LD→Ca d ⟨Acr m fz,Ade m,0,0,0⟩ dv cv LC→1≤m→m≤64→1≤n→frm+n≤syn.length→syn.length≤8192→live.Nodup→(∀k∈live,k<n)→
 Dt d lv (live.map fun k=>((frm+k:Nat):Int))→Aw P f [dv,cv,.int .i64 frm,.int .i64 n,lv] d (LC++LD) (Ret fun r d' L'=>∃pv,r=.tuple #[pv,.int .i64 0]∧Le d d'∧Pg d' ⟨frm,Dw n live,fun _=>[],syn,0,0⟩ dv pv L')
def SO(a0 a1 a2:Nat):AY:=⟨74,[(.tmp 10),(.tmp 11)],(sR (o1 10 (.mv (.const (.pointer none)))<|o1 11 (.mv (kZ 0)) .done) (sR (om 16 0<|oc 17 a0 [(tP 16)]<|om 12 17 .done) (.seq (.block 0 (sR (om 19 12<|ob 20 .eql (tP 19) (kZ 0)<|om 21 20<|gF 22 21 1<|oF 23 21 (.call a1 [(tP 22)])<|oF 24 21 (.len (tP 23))<|oF 25 21 (.bin .eql (tP 24) (kZ 0))<|o1 26 (.pick (tP 21) (.const (.bool true)) (tP 25))<|om 18 26 .done) (.cond (tP 18) (sR (o1 10 (.mv (.const (.pointer none)))<|o1 11 (.mv (kZ 1)) .done) .ret) (sR (om 28 2<|ob 29 .lss (tP 28) (kZ 0)<|om 30 29<|gF 31 30 3<|oF 32 30 (.bin .lss (tP 31) (kZ 1))<|o1 33 (.pick (tP 30) (.const (.bool true)) (tP 32))<|om 34 33<|gF 35 34 2<|gF 36 34 12<|oF 37 34 (.bin .gtr (tP 35) (tP 36))<|o1 38 (.pick (tP 34) (.const (.bool true)) (tP 37))<|om 39 38<|gF 40 39 3<|gF 41 39 12<|gF 42 39 2<|oF 43 39 (.bin .sub (tP 41) (tP 42))<|oF 44 39 (.bin .gtr (tP 40) (tP 43))<|o1 45 (.pick (tP 39) (.const (.bool true)) (tP 44))<|om 27 45 .done) (.cond (tP 27) (sR (o1 10 (.mv (.const (.pointer none)))<|o1 11 (.mv (kZ 2)) .done) .ret) .skip))))) (sR (om 46 0<|om 47 1<|om 48 2<|om 49 3<|o1 50 (.mks 1 8 [(.int .i64 0)] (tP 49) (tP 49))<|o1 51 (.mop .mk)<|o1 52 (.bld [(0,1),(1,1),(2,1),(3,1),(4,1),(5,1),(6,1)] [(.pointer none),(.pointer none),(.int .i64 0),(.slice none 0 0),(.map none),(.int .i64 0),(.int .i64 0)] [(0,(tP 46)),(1,(tP 47)),(2,(tP 48)),(3,(tP 50)),(4,(tP 51))])<|o1 53 (.box (tP 52))<|om 13 53 .done) (.seq (sR (om 54 4<|oL 55 54<|o1 56 (.mv (kZ 0)) .done) (.block 1 (.loop (sR (ob 57 .lss (tP 56) (tP 55) .done) (.seq (.cond (tP 57) .skip (.exit 1)) (.seq (.block 2 (sR (oI 58 1 54 56<|ol 59 58<|om 15 59 .done) (.seq (sR (om 60 13<|om 61 15<|oc 62 a2 [(tP 60),(tP 61)]<|ob 63 .neq (tP 62) (kZ 0) .done) (.cond (tP 63) (sR (o1 10 (.mv (.const (.pointer none)))<|o1 11 (.mv (kZ 2)) .done) .ret) .skip)) (rG (om 64 13<|o1 65 (.nilc (tP 64))<|oj 66 3 65<|ol 67 66<|om 68 15<|om 69 2<|ob 70 .sub (tP 68) (tP 69)<|oI 71 1 67 70<|o0 (.st 1 (tP 71) (kZ 2)) .done))))) (rG (ob 72 .add (tP 56) (kZ 1)<|om 56 72 .done)))))))) (sR (om 73 13<|om 10 73<|o1 11 (.mv (kZ 0)) .done) .ret))))))⟩
set_option maxRecDepth 4000 in
set_option maxHeartbeats 1000000 in
theorem ZN{P:Program}{f f1 f2 f3:FuncId} (hd:dec P f=some (SO f1 f2 f3)) (h1:Hz P f1) (h2:IY P f2) (h3:IV P f3):R8 P f:=by
 intro d syn dv cv lv LC LD m frm n live hD hC hm1 hm2 hn hfn hs8 hnd hlv hl
 obtain⟨bd,rfl⟩:∃bd,dv=.pointer (some ⟨bd,0,none⟩):=let ⟨b,_,_,_,_,_,_,h,_⟩:=hD;⟨b,h⟩
 obtain⟨bc,rfl⟩:∃bc,cv=.pointer (some ⟨bc,0,none⟩):=let ⟨b,_,_,_,_,_,_,_,_,h,_⟩:=hC;⟨b,h⟩
 obtain⟨xs,hxs⟩:∃xs,xs=live.map fun k=>((frm+k:Nat):Int):=⟨_,rfl⟩
 rw [←hxs] at hl
 have hll:=hl.BZ
 have hxl:xs.length=live.length:=by rw [hxs,Adw]
 refine AG hd (Aca rfl) ?_
 show gwp P _ _ _ _ _
 (refine Ad<|Al rfl<|Ab rfl<|Aa<|Ad<|Al rfl ?_)
 have hsz:CS P f1 [.pointer (some ⟨bd,0,none⟩)] d LD (.int .i64 syn.length):=h1 hD
 refine LS (A:=LD) (B:=LC) Ack rfl hsz ?_
 have hn0:syn.length≠0:=by omega
 (refine Ab rfl<|Aa<|Ah<|Az<|Ad<|Ab rfl<|AJ rfl rfl<|Ae rfl<|Bc rfl (by omega)<|Af rfl<|Al rfl<|Af rfl ?_)
 refine Dx (A:=LC) (B:=LD) rfl rfl (h2 hC (fun f hf=>by rw [(List.mem_replicate.1 hf).2];decide)) (fun v d1 L1 hl1 ⟨e1,e2⟩=>?_)
 subst e1
 have hhl:(DW ⟨Acr m fz,Ade m,0,0,0⟩).length=m:=by simp [DW]
 obtain⟨ah,ch,rfl⟩:=RSl.val e2
 rw [hhl] at e2⊢
 have hm0:m≠0:=by omega
 have hC1:=hC.mono hl1
 have hD1:=hD.mono hl1
 have hl':=RSl.mono (R:=Bg) B8 hl hl1
 (refine Af rfl<|AN rfl<|Af rfl<|AJ rfl rfl<|As rfl rfl<|Ae rfl<|Aa<|Ar rfl (by omega)<|Ad<|Ab rfl<|AE rfl rfl<|Ae rfl<|Bc rfl (by omega)<|Af rfl<|Ab rfl<|Af rfl<|AE rfl rfl<|As rfl rfl<|Ae rfl<|Bc rfl (by omega)<|Af rfl<|Ab rfl<|Af rfl<|Ab rfl<|Af rfl<|BQ rfl rfl<|As rfl rfl<|Ae rfl<|Bc rfl (by omega)<|Af rfl<|Ab rfl<|Af rfl<|Ab rfl<|Af rfl<|Ab rfl<|Af rfl<|CX rfl rfl (by omega) (by omega)<|Af rfl<|BQ rfl rfl<|As rfl rfl<|Ae rfl<|Aa<|Ar rfl (by omega)<|Ak<|Ad<|Al rfl<|Al rfl<|Ab rfl<|Ab rfl ?_)
 refine Hn (n:=n) (c:=n) rfl rfl (Ach _) (by omega) (by omega) (fun bk T0=>?_)
 refine Aa2 kI (id:Value→Value) (fun mb=>?_)
 refine BJ (cs:=[.pointer (some ⟨bd,0,none⟩),.pointer (some ⟨bc,0,none⟩),.int .i64 frm,.slice (some ⟨bk,0,none⟩) n n,.map (some mb),.int .i64 0,.int .i64 0]) rfl ?_
 refine Cr rfl (fun b T=>?_)
 have hg:Aq 1 Bg d1 (.slice (some ⟨bk,0,none⟩) n n) (Dw n []) (bx bk T0 (Bp [.int .i64 0] (n*1))):=Aq.zero rfl (by omega) ⟨rfl,by omega,by omega⟩ (by omega)
 refine Cd d1 (_::bx bk T0 (Bp [.int .i64 0] (n*1))::mpI mb [] 0::(L1++LD)) (Vs.perm (Aco _ (Adc _ _ _))) ?_
 (refine Al rfl<|Aa<|Ah<|Ad<|AL<|BG rfl (by assumption)<|Ab rfl<|Aa<|Az ?_)
 refine CU (α:=Nat×Ac) (fun x=>[(2,.int .i64 frm),(13,.pointer (some ⟨b,0,none⟩)),(54,lv),(55,.int .i64 xs.length),(56,.int .i64 x.1)])
  (fun x=>bx b T [.pointer (some ⟨bd,0,none⟩),.pointer (some ⟨bc,0,none⟩),.int .i64 frm,.slice (some ⟨bk,0,none⟩) n n,.map (some mb),.int .i64 0,.int .i64 0]::x.2::mpI mb [] 0::(L1++LD))
  (fun x=>x.1≤live.length∧Aq 1 Bg d1 (.slice (some ⟨bk,0,none⟩) n n) (Dw n (live.take x.1)) x.2) (fun x=>live.length - x.1) (0,bx bk T0 (Bp [.int .i64 0] (n*1))) ⟨rfl,rfl,rfl,rfl,rfl,trivial⟩ rfl ⟨by simp only;omega,hg⟩ ?_
 rintro⟨i,hk⟩ ρ ⟨hi,hgi⟩
 simp only at hi hgi⊢
 have hln:=Gh (n:=n) (l:=live.take i)
 by_cases e:i<live.length
 ·have hin:live[i]<n:=hlv _ (Ada e)
  have hnot:live[i]∉live.take i:=fun hm=>by
   obtain⟨j,hj,hjj⟩:=Aei hm
   rw [Acw] at hj
   rw [List.getElem_take] at hjj
   exact Afc.1 hnd j i (by omega) e (by omega) hjj
  have h0:(Dw n (live.take i)).getD live[i] 0=0:=by rw [Jn,if_neg (fun q=>hnot q.2)]
  obtain⟨b1,T1,l1,c1,cs,q1,rfl,hcl,hcs,hle, -,hset⟩:=Aq.at (by omega) hgi (m:=live[i]) (by omega)
  rw [hln] at q1
  cases q1
  have e':i<xs.length:=by omega
  have hxi:xs[i]=((frm+live[i]:Nat):Int):=by subst hxs;simp
  have hnx:Dw n (live.take (i+1))=(Dw n (live.take i)).set live[i] 2:=by rw [Acx e,U0]
  have hkv:GP frm (Dw n (live.take i)) xs[i]=0:=by
   rw [hxi]
   unfold GP
   rw [hln,if_pos (by omega),show(((frm+live[i]:Nat):Int) - (frm:Int)).toNat=live[i] by omega,h0]
  have hgl:Aq 1 Bg d1 (.slice (some ⟨bk,0,none⟩) (Dw n (live.take i)).length n) (Dw n (live.take i)) (bx bk T1 l1):=by rw [hln];exact hgi
  have hkr:=fun{b:Nat}{T:TypeId}{x0 x1 x4 x5 x6:Value}=>h3 (k:=xs[i]) (frm:=frm) (b:=b) (T:=T) (x0:=x0) (x1:=x1) (x4:=x4) (x5:=x5) (x6:=x6) hgl (by omega)
  rw [hln,hkv] at hkr
  (refine Ad<|AE rfl rfl<|Aa<|Ah<|Ax rfl (by omega)<|Ak<|Ah<|Az<|Ad<|BL (sz:=1) (R:=Bg) (by rfl) (by assumption) (by rfl) rfl (by omega) ?_;rintro _ _ _ _ _ ⟨rfl,_,_⟩;refine Ag rfl (B7 (by assumption) rfl)<|Ab rfl<|Aa<|Ah<|Ad<|Al rfl<|Ab rfl ?_)
  refine CK (A:=[_,_]) (B:=_::(L1++LD)) rfl rfl hkr ?_
  (refine AQ rfl rfl<|Aa<|Ar rfl (by omega)<|Ak<|AA<|Al rfl<|Au rfl<|Ai rfl<|Ag rfl (Aj 0 rfl rfl)<|Ab rfl<|Ab rfl<|CX rfl rfl (by omega) (by omega) ?_)
  refine Bx live[i] rfl rfl (by rw [hxi];omega) hin ?_
  skip
  refine AZ 1 (patch l1 (live[i]*1) [.int .i64 2]) rfl rfl rfl rfl hle rfl rfl ?_
  (refine Aa<|AA<|AO rfl rfl (by omega) (by omega)<|Ab rfl<|Aa ?_)
  exact⟨(i+1,_),by simp only;omega,⟨rfl,rfl,rfl,rfl,rfl,trivial⟩,rfl,rfl,e,by rw [hnx];exact hset [.int .i64 2] 2 rfl ⟨rfl,by omega,by omega⟩⟩
 ·have:i=live.length:=by omega
  subst this
  rw [Aeg] at hgi hln
  have e':¬live.length<xs.length:=by omega
  (refine Ad<|AE rfl rfl<|Aa<|Ah<|Ar rfl (by omega)<|Bj<|Ad<|Al rfl<|Al rfl<|Ab rfl<|Aa<|An ?_)
  have hP:=Pg.mk (d:=d1) (s:=⟨frm,Dw n live,fun _=>[],syn,0,0⟩) (b:=b) (T:=T) (cv:=.pointer (some ⟨bc,0,none⟩)) (bk:=bk) (cp:=n) (mb:=mb) (clk:=0) (c:=⟨Acr m fz,Ade m,0,0,0⟩) (LC:=L1) (LD:=LD) (bd:=bd) hln
   hgi (ms:=[]) (fun j hj hj1=>by
    have h0:(Dw n live).getD j 0=1:=hj1
    rw [Jn] at h0
    split at h0<;>cases h0) hC1 hD1 (Cw.new hm1 hm2) (Good.new hn hfn hs8)
  exact CF rfl rfl (Acb _) ⟨_,rfl,hl1,hP⟩
theorem Le.dcs{d:Ac}{b:Nat}{T:TypeId}{l:List Value} (h:Le (bx b T l) d):DCs d b 0 l:=⟨_,_,_,h b _ (CA _ _),fun i u hi=>by simpa using hi⟩
theorem Vs.Y4{d a b c:Ac}{L:List Ac}:Vs d (a::b::c::L) (join (join (join d a) b) c) L:=Vs.freeze.trans (Vs.freeze.trans Vs.freeze)
theorem Aq.Wl{d d':Ac}{v:Value}{xs:List Int}{h:Ac} (o:Aq 1 Bg d v xs h):Aq 1 Bg d' v xs h:=let ⟨cs,h1,h2⟩:=o;⟨cs,h1,h2⟩
def Mk(d:Ac) (m:MD) (frm:Nat) (pv v:Value):Prop:=∃bm bk cp mq ms clk,v=.pointer (some ⟨bm,0,none⟩)∧DCs d bm 0 [pv,.int .i64 (wr m.round),.slice (some ⟨bk,0,none⟩) m.kinds.length cp,.map (some mq)]∧RSl 1 Bg d (.slice (some ⟨bk,0,none⟩) m.kinds.length cp) m.kinds∧
 Le (mpI mq ms clk) d∧LA d frm m.kinds m.fb ms
theorem Mk.mono{d d':Ac}{m:MD}{frm:Nat}{pv v:Value} (h:Mk d m frm pv v) (hl:Le d d'):Mk d' m frm pv v:=
 let ⟨bm,bk,cp,mq,ms,clk,h1,h2,h3,h4,h5⟩:=h
 ⟨bm,bk,cp,mq,ms,clk,h1,h2.mono hl,RSl.mono (R:=Bg) B8 h3 hl,h4.trans hl,h5.mono hl⟩
theorem V4(x a b c:Ac) (L:List Ac):(x::a::b::c::L).Perm (a::b::c::x::L):=
 (Adc a x _).trans (Aco _ ((Adc b x _).trans (Aco _ (Adc c x _))))
def Ks(P:Program) (f:FuncId):Prop:=∀{d:Ac}{s:PD}{dv pv:Value}{L:List Ac},Pg d s dv pv L→Aw P f [pv] d L (Ret fun r d' L'=>L'=L∧Le d d'∧Mk d' s.mark s.frm pv r)
def KJ(a0 a1 a2:Nat):AY:=⟨22,[(.tmp 2)],(sR (o1 2 (.mv (.const (.pointer none))) .done) (.seq (sR (om 3 0<|oc 4 a0 [(tP 3)] .done) (.cond (tP 4) (sR (o1 2 (.mv (.const (.pointer none))) .done) .ret) .skip)) (.seq (.reg true (pm 5 0<|pm 6 0<|p1 7 (.nilc (tP 6))<|p1 8 (.fld 5 (tP 7))<|pl 9 8<|pm 10 0<|p1 11 (.nilc (tP 10))<|p1 12 (.fld 3 (tP 11))<|pl 13 12<|pm 15 0<|p1 16 (.nilc (tP 15))<|p1 17 (.fld 4 (tP 16))<|pl 18 17<|oc 14 a1 [(tP 13)]<|oc 19 a2 [(tP 18)]<|p1 20 (.bld [(0,1),(1,1),(2,1),(3,1)] [(.pointer none),(.int .i64 0),(.slice none 0 0),(.map none)] [(0,(tP 5)),(1,(tP 9)),(2,(tP 14)),(3,(tP 19))])<|o1 21 (.box (tP 20)) (.bar (pm 2 21 .done)))) .ret)))⟩
set_option maxRecDepth 4000 in
set_option maxHeartbeats 1000000 in
theorem Y8{P:Program}{f f1 f2 f3:FuncId} (hd:dec P f=some (KJ f1 f2 f3)) (h1:ET P f1) (h2:D3 Bg 8 P f2) (h3:Hp P f3):Ks P f:=by
 intro d s dv pv L hp
 obtain⟨b,T,cv,bk,cp,hk,mb,ms,clk,c,LC,LD,bd,rfl,rfl,rfl,hg,hm,hC,hD,hc,hG⟩:=hp
 have hlen:=hG.len
 have hone:=hG.one
 refine AG hd (Aca rfl) ?_
 show gwp P _ _ _ _ _
 (refine Ad<|Al rfl<|Aa<|Ah<|Ad<|Al rfl ?_)
 refine CK (A:=[_]) (B:=_::_::(LC++LD)) rfl rfl h1 ?_
 (refine Aa<|AS rfl<|Ak<|Ah ?_)
 refine Bv [_] (hk::mpI mb ms clk::(LC++LD)) rfl ?_
 (refine Al rfl<|Al rfl<|Au rfl<|Ai rfl<|Ag rfl (Aj 0 rfl rfl)<|Al rfl<|Au rfl<|Ai rfl<|Ag rfl (Aj 0 rfl rfl)<|Al rfl<|Au rfl<|Ai rfl<|Ag rfl (Aj 0 rfl rfl) ?_)
 refine IX (Q:=fun v L'=>∃h,L'=[h]∧Aq 1 Bg d v s.kinds h) rfl (fun d1 hl1 hk1=>?_) (fun v L1 ⟨h,e1,hrow⟩=>?_)
 ·exact Aw.D1 (h2 (xs:=s.kinds) (Aq.rsl (R:=Bg) hg B8 (by omega) hl1 (hk1 _ (Acu ..))) (by omega)) (fun r d' L' _ ⟨q1,h,q2,q3⟩=>⟨d',L',Vs.refl _ _,q1,h,q2,Aq.Wl q3⟩)
 subst e1
 skip
 refine IX (Q:=fun v L'=>∃q,v=.map (some q)∧L'=[mpI q ms clk]) rfl (fun d1 hl1 hk1=>h3 (hk1 _ (by simp))) (fun v1 L1 ⟨q,e1,e2⟩=>?_)
 subst e1;subst e2
 obtain⟨b1,T1,l1,c1,cs,q1, -, -, -, -, -, -⟩:=Aq.at (m:=0) (by omega) hrow (by omega)
 subst q1
 refine BJ (cs:=[.pointer (some ⟨b,0,none⟩),.int .i64 (wr s.round),.slice (some ⟨b1,0,none⟩) s.kinds.length c1,.map (some q)]) rfl ?_
 refine Cr rfl (fun bm Tm=>?_)
 (refine B5<|Al rfl<|Aa<|An ?_)
 refine Ba [.pointer (some ⟨bm,0,none⟩)] ⟨rfl,trivial⟩ (L':=bx b T [.pointer (some ⟨bd,0,none⟩),cv,.int .i64 s.frm,.slice (some ⟨bk,0,none⟩) s.kinds.length cp,.map (some mb),.int .i64 (wr s.round),.int .i64 (wr s.tc)]::hk::mpI mb ms clk::(LC++LD))
  ((Vs.perm (V4 _ _ _ _ _)).trans Vs.Y4) ⟨rfl,?_,bm,b1,c1,q,ms,clk,rfl,?_,?_,?_,?_⟩
 ·exact((Le.AH _ _).trans (Le.AH _ _)).trans (Le.AH _ _)
 ·exact Le.dcs (((Le.A6 _ _).trans (Le.AH _ _)).trans (Le.AH _ _))
 ·exact Aq.rsl (R:=Bg) (sz:=1) hrow B8 (by omega) (((Le.AH _ _).trans (Le.AH _ _)).trans (Le.AH _ _)) (Le.A6 _ _)
 ·exact(Le.A6 _ _).trans (Le.AH _ _)
 ·exact hm.mono (((Le.AH _ _).trans (Le.AH _ _)).trans (Le.AH _ _))
theorem ZJ{d a b x e f:Ac}{R:List Ac}:Vs d (a::b::x::e::f::R) d (x::b::a::R):=
 (Vs.drop (.cons_cons _ (.cons_cons _ (.cons_cons _ (.cons _ (.cons _ (Acb _))))))).trans (Vs.perm ((Aco _ (Adc x b R)).trans ((Adc x a (b::R)).trans (Aco _ (Adc b a R)))))
def K7(P:Program) (f:FuncId):Prop:=∀{d:Ac}{s:PD}{dv pv v:Value}{L:List Ac}{m:MD},Pg d s dv pv L→Mk d m s.frm pv v→(wr m.round=wr s.round→Og m.kinds s.kinds∧∀i,0≤m.kinds.getD i 0∧m.kinds.getD i 0≤3)→
 Aw P f [pv,v] d L (Ret fun r d' L'=>d'=d∧(wr m.round=wr s.round→r=.int .i64 0∧Pg d (s.back m) dv pv L')∧(wr m.round≠wr s.round→r=.int .i64 2∧Pg d s dv pv L'))
def K5(a0 a1 a2:Nat):AY:=⟨46,[(.tmp 4)],(sR (o1 4 (.mv (kZ 0)) .done) (.seq (.block 0 (sR (om 6 0<|oc 7 a0 [(tP 6)]<|om 8 7<|gF 9 8 1<|oF 10 8 (.eqp false (tP 9) (.const (.pointer none)))<|o1 11 (.pick (tP 8) (.const (.bool true)) (tP 10))<|om 5 11 .done) (.cond (tP 5) (sR (o1 4 (.mv (kZ 1)) .done) .ret) (.seq (.reg true (pm 13 1<|p1 14 (.nilc (tP 13))<|p1 15 (.fld 0 (tP 14))<|pl 16 15<|pm 17 0<|p1 18 (.eqp true (tP 16) (tP 17))<|pm 19 18 (.op true ⟨(some 20),(some (19,false)),(.mv (tP 1))⟩ (.op true ⟨(some 21),(some (19,false)),(.nilc (tP 20))⟩ (.op true ⟨(some 22),(some (19,false)),(.fld 1 (tP 21))⟩ (.op true ⟨(some 23),(some (19,false)),(.ld none (tP 22))⟩ (.op true ⟨(some 24),(some (19,false)),(.mv (tP 0))⟩ (.op true ⟨(some 25),(some (19,false)),(.nilc (tP 24))⟩ (.op true ⟨(some 26),(some (19,false)),(.fld 5 (tP 25))⟩ (.op true ⟨(some 27),(some (19,false)),(.ld none (tP 26))⟩ (.op true ⟨(some 28),(some (19,false)),(.bin .neq (tP 23) (tP 27))⟩ (p1 29 (.pick (tP 19) (.const (.bool true)) (tP 28)) (pm 12 29 .done))))))))))))) (.cond (tP 12) (sR (o1 4 (.mv (kZ 2)) .done) .ret) .skip))))) (.seq (.reg true (pm 30 0<|pm 31 0<|pm 32 1<|p1 33 (.nilc (tP 32))<|p1 34 (.fld 2 (tP 33))<|pl 35 34<|pm 37 1<|p1 38 (.nilc (tP 37))<|p1 39 (.fld 3 (tP 38))<|pl 40 39<|oc 36 a1 [(tP 35)]<|oc 41 a2 [(tP 40)]<|p1 42 (.nilc (tP 30))<|p1 43 (.fld 3 (tP 42))<|o0 (.st 1 (tP 43) (tP 36))<|p1 44 (.nilc (tP 31))<|p1 45 (.fld 4 (tP 44))<|o0 (.st 1 (tP 45) (tP 41)) .done)) (sR (o1 4 (.mv (kZ 0)) .done) .ret))))⟩
set_option maxRecDepth 4000 in
set_option maxHeartbeats 1000000 in
theorem ZX{P:Program}{f f1 f2 f3:FuncId} (hd:dec P f=some (K5 f1 f2 f3)) (h1:ET P f1) (h2:D3 Bg 8 P f2) (h3:Hp P f3):K7 P f:=by
 intro d s dv pv v L m hp hmk hor
 have hp0:=hp
 obtain⟨b,T,cv,bk,cp,hk,mb,ms,clk,c,LC,LD,bd,rfl,rfl,rfl,hg,hm,hC,hD,hc,hG⟩:=hp
 obtain⟨bm,bmk,mcp,mq,mms,mclk,rfl,hmd,hmr,hml,hmm⟩:=hmk
 have hlen:=hG.len
 have hone:=hG.one
 refine AG hd (Aca rfl) ?_
 show gwp P _ _ _ _ _
 (refine Ad<|Ab rfl<|Aa<|Ah<|Az<|Ad<|Al rfl ?_)
 refine CK (A:=[_]) (B:=_::_::(LC++LD)) rfl rfl h1 ?_
 (refine Ae rfl<|Af rfl<|Al rfl<|Af rfl<|C7 rfl rfl<|As rfl rfl<|Ae rfl<|Aa<|AS rfl<|Ah ?_)
 refine Bv [_] (hk::mpI mb ms clk::(LC++LD)) rfl ?_
 (refine Al rfl<|Au rfl<|Ai rfl<|Ag rfl (Ff (by assumption) rfl)<|Al rfl ?_)
 refine AaB rfl rfl ?_
 by_cases hw:wr m.round=wr s.round
 ·obtain⟨hog,hrng⟩:=hor hw
  have hol:=hog.1
  (refine Ae rfl<|Af rfl<|Al rfl<|Af rfl<|Au rfl<|Af rfl<|Ai rfl<|Af rfl<|Ag rfl (Ff (by assumption) rfl)<|Af rfl<|Al rfl<|Af rfl<|Au rfl<|Af rfl<|Ai rfl<|Af rfl<|Ag rfl (Aj 0 rfl rfl)<|Af rfl<|AQ rfl rfl<|As rfl rfl<|Ae rfl<|A5<|Ar rfl (by omega)<|Ak<|Ah ?_)
  refine Bv [] (bx b T [.pointer (some ⟨bd,0,none⟩),cv,.int .i64 s.frm,.slice (some ⟨bk,0,none⟩) s.kinds.length cp,.map (some mb),.int .i64 (wr s.round),.int .i64 (wr s.tc)]::hk::mpI mb ms clk::(LC++LD)) rfl ?_
  (refine Al rfl<|Al rfl<|Al rfl<|Au rfl<|Ai rfl<|Ag rfl (Ff (by assumption) rfl)<|Al rfl<|Au rfl<|Ai rfl<|Ag rfl (Ff (by assumption) rfl) ?_)
  refine IX (Q:=fun v L'=>∃h,L'=[h]∧Aq 1 Bg d v m.kinds h) rfl (fun d1 hl1 hk1=>Aw.D1 (h2 (xs:=m.kinds) (RSl.mono (R:=Bg) B8 hmr hl1) (by omega)) (fun r d' L' _ ⟨q1,h,q2,q3⟩=>⟨d',L',Vs.refl _ _,q1,h,q2,Aq.Wl q3⟩)) (fun v L1 ⟨h,e1,hrow⟩=>?_)
  subst e1
  refine IX (Q:=fun v L'=>∃q,v=.map (some q)∧L'=[mpI q mms mclk]) rfl (fun d1 hl1 hk1=>h3 (hml.trans hl1)) (fun v1 L1 ⟨q,e1,e2⟩=>?_)
  subst e1;subst e2
  obtain⟨b1,T1,l1,c1,cs,q1, -, -, -, -, -, -⟩:=Aq.at (m:=0) (by omega) hrow (by omega)
  subst q1
  (refine Au rfl<|Ai rfl ?_)
  refine AZ 2 [.pointer (some ⟨bd,0,none⟩),cv,.int .i64 s.frm,.slice (some ⟨b1,0,none⟩) m.kinds.length c1,.map (some mb),.int .i64 (wr s.round),.int .i64 (wr s.tc)] rfl rfl rfl rfl (Aca rfl) rfl rfl ?_
  (refine Au rfl<|Ai rfl ?_)
  refine AZ 2 [.pointer (some ⟨bd,0,none⟩),cv,.int .i64 s.frm,.slice (some ⟨b1,0,none⟩) m.kinds.length c1,.map (some q),.int .i64 (wr s.round),.int .i64 (wr s.tc)] rfl rfl rfl rfl (Aca rfl) rfl rfl ?_
  have hP:=Pg.mk (d:=d) (s:=s.back m) (b:=b) (T:=T) (cv:=cv) (bk:=b1) (cp:=c1) (mb:=q) (ms:=mms) (clk:=mclk) (c:=c) (LC:=LC) (LD:=LD) (bd:=bd) rfl hrow hmm hC hD (hc.to rfl rfl hog)
   ⟨by show 1≤m.kinds.length;omega,by show m.kinds.length≤8192;omega,by show s.frm+m.kinds.length≤s.syn.length;rw [hol];exact hG.inn,hG.syn,hrng⟩
  (refine Aa<|Ad<|Ab rfl<|Aa<|An ?_)
  exact Ba [.int .i64 0] ⟨rfl,trivial⟩ ZJ ⟨rfl,fun _=>⟨rfl,hP⟩,fun e=>absurd hw e⟩
 ·(refine Ae rfl<|Af rfl<|Al rfl<|Af rfl<|Au rfl<|Af rfl<|Ai rfl<|Af rfl<|Ag rfl (Ff (by assumption) rfl)<|Af rfl<|Al rfl<|Af rfl<|Au rfl<|Af rfl<|Ai rfl<|Af rfl<|Ag rfl (Aj 0 rfl rfl)<|Af rfl<|AQ rfl rfl<|As rfl rfl<|Ae rfl<|A5<|Ax rfl (by omega)<|Ad<|Ab rfl<|Aa<|An ?_)
  exact BE rfl (Acb _) ⟨rfl,fun e=>absurd e hw,fun _=>⟨rfl,hp0⟩⟩
end Go.Gk.Pgr
end
section
namespace Go.Gk.Cch
open Go Go.Gk Go.Gk.Dev
attribute [local irreducible] gwp gws xwp
section
def Cov(d:Ac) (c:CD) (D:Eo) (cv:Value) (L:List Ac):Prop:=∃dv LC LD,L=LC++LD∧Ca d c dv cv LC∧Dv d D dv LD
theorem Cov.mono{d d':Ac}{c:CD}{D:Eo}{cv:Value}{L:List Ac} (h:Cov d c D cv L) (hl:Le d d'):Cov d' c D cv L:=
 let ⟨dv,LC,LD,h1,h2,h3⟩:=h
 ⟨dv,LC,LD,h1,h2.mono hl,h3.mono hl⟩
theorem Cov.ptr{d:Ac}{c:CD}{D:Eo}{cv:Value}{L:List Ac} (h:Cov d c D cv L):∃b,cv=.pointer (some ⟨b,0,none⟩):=by
 obtain⟨dv,LC,LD,rfl,⟨b, -, -, -, -, -, -, -, -,h, -⟩, -⟩:=h
 exact⟨b,h⟩
section
variable {P:Program}{f:FuncId}{d:Ac}{c:CD}{D:Eo}{cv:Value}{L:List Ac}{k:Nat}
theorem Kq.cov(h:Kq P f) (hc:Cov d c D cv L) (hp:KN c 4611686018427387904) (hk:k<D.syn.length):
  Aw P f [cv,.int .i64 k] d L (Ret fun r d' L'=>Cov d' (Eh (D.cur k) c k).1 D cv L'∧AaU d' r (Eh (D.cur k) c k).2):=by
 obtain⟨dv,LC,LD,rfl,h1,h2⟩:=hc
 refine(h h1 h2 hp hk).mono (fun e d' L' hl hr=>?_)
 cases e with
 |returned v=>obtain⟨LC',LD',rfl,g1,g2,g3⟩:=hr;exact⟨⟨dv,LC',LD',rfl,g1,g2⟩,g3⟩
 |panicked c=>exact hr
 |outgrown=>exact hr
theorem Kl{args:List Value}{A B:List Ac}{R R':Value→Ac→List Ac→Prop} (h:Aw P f args d A (Ret R)) (hR:∀v d' A',Le d d'→R v d' A'→R' v d' (A'++B)):Aw P f args d (A++B) (Ret R'):=by
 refine(h.frame B).mono (fun e d' L' hl hr=>?_)
 obtain⟨A',rfl,hr⟩:=hr
 cases e with
 |returned v=>exact hR v d' A' hl hr
 |panicked c=>exact hr
 |outgrown=>exact hr
theorem HX.cov(h:HX P f) (hc:Cov d c D cv L) (hp:KN c 4611686018427387904):
  Aw P f [cv,.int .i64 k] d L (Ret fun r d' L'=>r=.int .i64 (CZ c k).2∧Cov d' (CZ c k).1 D cv L'):=by
 obtain⟨dv,LC,LD,rfl,h1,h2⟩:=hc
 exact Kl (h (k:=k) h1 hp) (fun v d' A' hl ⟨g1,g2,g3⟩=>⟨g2,dv,A',LD,rfl,g3.mono (by rw [g1];exact Le.refl _),h2.mono hl⟩)
theorem G0.cov(h:G0 P f) (hc:Cov d c D cv L) (hp:∀i,findF k c.fr=some i→c.free.length<c.fr.length):
  Aw P f [cv,.int .i64 k] d L (Ret fun r d' L'=>r=.int .i64 (CW c k).2∧Cov d' (CW c k).1 D cv L'):=by
 obtain⟨dv,LC,LD,rfl,h1,h2⟩:=hc
 exact Kl (h (k:=k) h1 hp) (fun v d' A' hl ⟨g1,g2,g3⟩=>⟨g2,dv,A',LD,rfl,g3.mono (by rw [g1];exact Le.refl _),h2.mono hl⟩)
theorem IY.cov(h:IY P f) (hc:Cov d c D cv L) (hs:∀f∈c.fr,f.sec≤8192):Aw P f [cv] d L (Ret fun r d' L'=>L'=L∧Dt d' r (DW c)):=by
 obtain⟨dv,LC,LD,rfl,h1,h2⟩:=hc
 exact Kl (h h1 hs) (fun v d' A' hl ⟨g1,g2⟩=>⟨by rw [g1],g2⟩)
theorem Wt.cov(h:Wt P f) (hc:Cov d c D cv L):CS P f [cv] d L (.int .i64 (wr c.hits)):=by
 obtain⟨dv,LC,LD,rfl,h1,h2⟩:=hc
 exact Kl (h h1) (fun v d' A' hl ⟨g1,g2,g3⟩=>⟨g1,g2,by rw [g3]⟩)
theorem RH.cov(h:RH P f) (hc:Cov d c D cv L):CS P f [cv] d L (.int .i64 (wr c.miss)):=by
 obtain⟨dv,LC,LD,rfl,h1,h2⟩:=hc
 exact Kl (h h1) (fun v d' A' hl ⟨g1,g2,g3⟩=>⟨g1,g2,by rw [g3]⟩)
end
end
end Go.Gk.Cch
end
section
namespace Go.Gk.Pgr
open Go Go.Gk Go.Gk.Dev Go.Gk.Cch Go.Gk.Node
section
attribute [local irreducible] gwp gws xwp
end
section
attribute [local irreducible] gwp gws xwp
end
end Go.Gk.Pgr
end
section
namespace Go.Gk.Pgr
open Go Go.Gk Go.Gk.Dev Go.Gk.Cch Go.Gk.Node
attribute [local irreducible] gwp gws xwp
section
section
variable {P:Program}{pan:List PanicEntry→AR}{Qn:Env→AR}{Ls L:List Ac}{ρ:Env}{d:Ac}{s:GS}{t:Nat}{tk:Bool}
end
structure AD where
 kind:Int
 k:Int
 by_:UInt8
abbrev YE(b:UInt8):Sec:=Acr 256 b
def PD.act(s:PD) (a:AD):PD:=
 if a.kind=0 then(if s.AV.2.2=0 then(s.AV.1.put s.AV.2.1 (YE a.by_)).1 else s.AV.1)
 else if a.kind=1 then(s.put (2+a.k % 8) (YE a.by_)).1
 else if a.kind=3 then(s.drop (2+a.k % 8)).1
 else if a.kind=4 then s.flush
 else s
def PD.run(s:PD) (l:List AD):PD:=l.foldl PD.act s
end
end Go.Gk.Pgr
end
section
namespace Go.Gk.Pgr
open Go Go.Gk Go.Gk.Dev Go.Gk.Cch
structure AI (s t:PD):Prop where
 frm:t.frm=s.frm
 len:t.kinds.length=s.kinds.length
 syn:t.syn.length=s.syn.length
 old:∀i,2≤s.kd i→2≤t.kd i
 new:∀i,2≤t.kd i→2≤s.kd i
 sec:∀i,2≤s.kd i→t.syn.getD (s.frm+i) []=s.syn.getD (s.frm+i) []
 round:t.round=s.round
theorem AI.refl(s:PD):AI s s:=⟨rfl,rfl,rfl,fun _ h=>h,fun _ h=>h,fun _ _=>rfl,rfl⟩
theorem AI.trans{s t u:PD} (h:AI s t) (k:AI t u):AI s u:=
 ⟨k.frm.trans h.frm,k.len.trans h.len,k.syn.trans h.syn,fun i hi=>k.old i (h.old i hi),fun i hi=>h.new i (k.new i hi),fun i hi=>by have:=k.sec i (h.old i hi);rw [h.frm] at this;exact this.trans (h.sec i hi),k.round.trans h.round⟩
theorem AI.set{s:PD}{i:Nat}{x:Int}{fb:Nat→Sec} (h:2≤s.kd i↔2≤x):AI s {s with kinds:=s.kinds.set i x,fb:=fb}:=by
 have key:∀j,2≤s.kd j↔2≤(s.kinds.set i x).getD j 0:=fun j=>by
  by_cases hi:i<s.kinds.length
  ·rw [C1 hi]
   by_cases e:j=i
   ·subst e;rw [if_pos rfl];exact h
   ·rw [if_neg e]
  ·rw [Afh (by omega)]
 exact⟨rfl,by simp,rfl,fun j hj=>(key j).1 hj,fun j hj=>(key j).2 hj,fun _ _=>rfl,rfl⟩
theorem AI.fb{s:PD}{fb:Nat→Sec}:AI s {s with fb:=fb}:=⟨rfl,rfl,rfl,fun _ h=>h,fun _ h=>h,fun _ _=>rfl,rfl⟩
theorem AI.tc{s:PD}{tc:Nat}:AI s {s with tc:=tc}:=⟨rfl,rfl,rfl,fun _ h=>h,fun _ h=>h,fun _ _=>rfl,rfl⟩
theorem AI.AV(s:PD):AI s s.AV.1:=by
 unfold PD.AV
 cases h:CY 0 s.kinds with
 |none=>exact AI.refl s
 |some i=>
  obtain⟨h1,h2⟩:=FN h
  exact AI.set (by rw [Jd h1,h2];decide)
theorem AI.put(s:PD) (k:Int) (b:Sec):AI s (s.put k b).1:=by
 unfold PD.put
 split
 ·split
  ·exact AI.fb
  ·exact AI.refl s
 ·exact AI.refl s
theorem AI.drop(s:PD) (k:Int):AI s (s.drop k).1:=by
 unfold PD.drop
 split
 ·rename_i h
  obtain⟨i,h1,rfl,h2,h3⟩:=CM h (by omega)
  rw [h3]
  exact AI.set (by rw [h2];decide)
 ·split
  ·rename_i h
   obtain⟨i,h1,rfl,h2,h3⟩:=CM h (by omega)
   rw [h3]
   exact AI.set (by rw [h2];decide)
  ·exact AI.refl s
theorem Rn{s:PD}{i:Nat} (h:s.kd i≠1):s.flush.syn.getD (s.frm+i) []=s.syn.getD (s.frm+i) []:=by
 refine Kw (fun w hw e=>?_)
 obtain⟨j,h4,h5,rfl⟩:=Jk hw
 simp only at e
 rw [show j=i by omega] at h5
 exact h h5
theorem AI.flush(s:PD):AI s s.flush:=⟨rfl,rfl,Ev _ _,fun _ h=>h,fun _ h=>h,fun i hi=>Rn (by omega),rfl⟩
theorem AI.act(s:PD) (a:AD):AI s (s.act a):=by
 unfold PD.act
 split
 ·split
  ·exact(AI.AV s).trans (AI.put _ _ _)
  ·exact AI.AV s
 ·split
  ·exact AI.put _ _ _
  ·split
   ·exact AI.drop _ _
   ·split
    ·exact AI.flush s
    ·exact AI.refl s
theorem AI.run(l:List AD):∀s:PD,AI s (s.run l):=by
 induction l with
 |nil=>exact fun s=>AI.refl s
 |cons a l ih=>exact fun s=>(AI.act s a).trans (ih (s.act a))
theorem AI.AaS{s t:PD} (h:AI s t) {k:Int} (hk:s.kind k=2):t.syn.getD k.toNat []=s.syn.getD k.toNat []:=by
 obtain⟨i,h1,rfl,h2,h3⟩:=CM hk (by omega)
 exact h.sec i (by omega)
theorem Dv.sec{d:Ac}{D:Eo}{v:Value}{L:List Ac} (h:Dv d D v L) {k:Nat} (hk:k<D.syn.length):(D.syn.getD k []).length=256:=by
 obtain⟨b,T,vs,vo,r,hs,ho, -, -,h3, -⟩:=h
 obtain⟨cs,h1,h2⟩:=h3
 rw [Acf,Ace hk]
 exact(h2 k hk).2
theorem Pg.dev{d:Ac}{s:PD}{dv pv:Value}{L:List Ac} (h:Pg d s dv pv L):∃A LD,L=A++LD∧Dv d ⟨s.syn,[]⟩ dv LD:=by
 obtain⟨b,T,cv,bk,cp,hk,mb,ms,clk,c,LC,LD,bd,h1,h2,h3,h4,h5,h6,h7,h8,h9⟩:=h
 exact⟨_::hk::mpI mb ms clk::LC,LD,h3,h7⟩
theorem AI.og{s t:PD} (h:AI s t):Og s.kinds t.kinds:=⟨h.len.symm,fun i=>⟨h.old i,h.new i⟩⟩
theorem AI.back{s t:PD} (h:AI s t):AI s (t.back s.mark):=⟨h.frm,rfl,h.syn,fun _ q=>q,fun _ q=>q,h.sec,h.round⟩
def PD.bytes(s:PD) (k:Int):Sec:=if s.kind k=1 then s.fb (k - s.frm).toNat else if s.kind k=2 then s.syn.getD k.toNat [] else []
def PD.HU(s:PD) (k:Int):Int:=if s.kind k=1 then 0 else if s.kind k=2 then 0 else 240
theorem K2{s t:PD} (h:AI s t) (k:Int):(t.back s.mark).kind k=s.kind k:=by
 unfold PD.kind
 rw [show(t.back s.mark).frm=s.frm from h.frm];rfl
theorem Uk{s t:PD} (h:AI s t) (k:Int):(t.back s.mark).bytes k=s.bytes k:=by
 have hk:=K2 h k
 unfold PD.bytes
 rw [hk]
 by_cases h1:s.kind k=1
 ·rw [if_pos h1,if_pos h1,show(t.back s.mark).frm=s.frm from h.frm];rfl
 ·rw [if_neg h1,if_neg h1]
  by_cases h2:s.kind k=2
  ·rw [if_pos h2,if_pos h2];exact h.AaS h2
  ·rw [if_neg h2,if_neg h2]
def eb(x:Int):UInt8:=UInt8.ofNat (x % 256).toNat
def PD.Abz(s:PD) (n:Nat):List UInt8:=(Ade n).flatMap fun(k:Nat)=>s.bytes (k:Int)++[eb (s.HU (k:Int))]
def PD.look(s:PD):List UInt8:=s.Abz 12++s.Cp.map eb++[eb s.free]
theorem RC{s:PD}{n:Nat}{k:Int}:PD.bytes {s with tc:=n} k=s.bytes k:=rfl
theorem Zy{s:PD}{n:Nat}{k:Int}:PD.HU {s with tc:=n} k=s.HU k:=rfl
theorem Ih{s:PD}{k:Int} (h:s.kind k=2):s.bytes k=s.syn.getD k.toNat []:=by unfold PD.bytes;rw [if_neg (by omega),if_pos h]
theorem Fl.at{P:Program}{f:FuncId} (h:Fl P f) {d:Ac}{s:PD}{dv pv:Value}{L:List Ac}{k:Int} (hp:Pg d s dv pv L):
  Aw P f [pv,.int .i64 k] d L (Ret fun r d' L'=>∃a c tc,r=.tuple #[.slice a (s.bytes k).length c,.int .i64 (s.HU k)]∧AK d' (.slice a (s.bytes k).length c) (s.bytes k)∧Pg d' {s with tc:=tc} dv pv L'):=by
 refine Aw.D1 (h (k:=k) hp) (fun r d' L' _ ⟨⟨q,q1,q2⟩,q3⟩=>⟨d',L',Vs.refl _ _,?_⟩)
 subst q1
 unfold PD.bytes PD.HU
 unfold PD.get at q2 q3⊢
 by_cases h1:s.kind k=1
 ·simp only [if_pos h1] at q2 q3⊢
  obtain⟨a,c,rfl⟩:=RSl.val q2
  exact⟨a,c,_,rfl,q2,q3⟩
 ·by_cases h2:s.kind k=2
  ·simp only [if_neg h1,if_pos h2] at q2 q3⊢
   obtain⟨a,c,rfl⟩:=RSl.val q2
   exact⟨a,c,_,rfl,q2,q3⟩
  ·simp only [if_neg h1,if_neg h2] at q2 q3⊢
   obtain rfl:q=.slice none 0 0:=q2
   exact⟨none,0,s.tc,rfl,RSl.nil,q3⟩
theorem PA{l:List Sec}{i j:Nat}{x:Sec} (hi:i<l.length):(l.set i x).getD j []=if j=i then x else l.getD j []:=by
 simp only [Acf,List.getElem?_set]
 by_cases e:i=j
 ·subst e;simp [hi]
 ·rw [if_neg e,if_neg (fun h=>e h.symm)]
theorem J2{s:PD} (hin:s.frm+s.kinds.length≤s.syn.length) {i:Nat} (h1:s.kd i=1):∀{n:Nat},n≤s.kinds.length→i<n→(synced (s.writes n) s.syn).getD (s.frm+i) []=s.fb i
 |n+1,hn,hi=>by
  rw [PD.writes]
  by_cases e:i=n
  ·subst e
   rw [if_pos h1,IK,PA (by rw [Ev];omega),if_pos rfl]
  ·have ih:=J2 hin h1 (n:=n) (by omega) (by omega)
   split
   ·rw [IK,PA (by rw [Ev];omega),if_neg (by omega)];exact ih
   ·rw [Ads];exact ih
abbrev PD.fin(s:PD):PD:=s.flush.done
theorem RI{s:PD}{k:Int}:s.fin.kind k=C3 (s.kind k):=by
 unfold PD.kind
 have h1:s.fin.frm=s.frm:=rfl
 have h2:s.fin.kinds.length=s.kinds.length:=by simp [PD.fin,PD.done,PD.flush]
 rw [h1,h2]
 split
 ·show(s.kinds.map C3).getD _ 0=_
  rw [getD_map]
 ·rfl
theorem Qc{s:PD} (hG:Good s) {k:Int}:s.fin.bytes k=s.bytes k:=by
 have hk:=RI (s:=s) (k:=k)
 have hrng:s.kind k= -1∨(0≤s.kind k∧s.kind k≤3):=by
  unfold PD.kind
  split
  ·exact .inr (hG.kd _)
  ·exact .inl rfl
 have hin:=hG.inn
 by_cases h1:s.kind k=1
 ·rw [h1] at hk
  have hk2:s.fin.kind k=2:=hk
  rw [Ih hk2]
  obtain⟨i,i1,rfl,i2,i3⟩:=CM h1 (by omega)
  have:s.bytes ((s.frm+i:Nat):Int)=s.fb i:=by unfold PD.bytes;rw [if_pos h1,i3]
  rw [this]
  exact J2 hin i2 (Ach _) i1
 ·by_cases h2:s.kind k=2
  ·rw [h2] at hk
   have hk2:s.fin.kind k=2:=hk
   rw [Ih hk2,Ih h2]
   obtain⟨i,i1,rfl,i2,i3⟩:=CM h2 (by omega)
   exact Rn (by omega)
  ·have h3:s.fin.kind k≠1∧s.fin.kind k≠2:=by
    rw [hk];unfold C3
    by_cases q:s.kind k=3
    ·rw [if_pos q];omega
    ·rw [if_neg q,if_neg h1];omega
   unfold PD.bytes
   rw [if_neg h3.1,if_neg h3.2,if_neg h1,if_neg h2]
theorem Pg.full{d:Ac}{s:PD}{dv pv:Value}{L:List Ac} (h:Pg d s dv pv L) {k:Int} (hk:s.kind k=1∨s.kind k=2):(s.bytes k).length=256:=by
 have hG:=h.EY
 obtain⟨A,LD, -,hD⟩:=h.dev
 obtain⟨b,T,cv,bk,cp,hkk,mb,ms,clk,c,LC,LD,bd,h1,h2,h3,h4,h5, -⟩:=h
 have hin:=hG.inn
 rcases hk with hk|hk
 ·obtain⟨i,i1,rfl,i2,i3⟩:=CM hk (by omega)
  obtain⟨v, -, -,q⟩:=h5 i i1 i2
  unfold PD.bytes;rw [if_pos hk,i3];exact q
 ·obtain⟨i,i1,rfl,i2,i3⟩:=CM hk (by omega)
  rw [Ih hk]
  exact Dv.sec hD (show((s.frm+i:Nat):Int).toNat<s.syn.length by omega)
theorem Uu{s:PD}{k:Int} (h1:s.kind k≠1) (h2:s.kind k≠2):s.bytes k=[]:=by unfold PD.bytes;rw [if_neg h1,if_neg h2]
theorem AaR{s:PD} (hG:Good s) {i:Nat}:s.fin.kd i=0∨s.fin.kd i=2:=by
 show(s.kinds.map C3).getD i 0=0∨(s.kinds.map C3).getD i 0=2
 rw [getD_map]
 have h:0≤s.kinds.getD i 0∧s.kinds.getD i 0≤3:=hG.kd i
 unfold C3
 by_cases q:s.kinds.getD i 0=3
 ·rw [if_pos q];omega
 ·rw [if_neg q]
  by_cases q1:s.kinds.getD i 0=1
  ·rw [if_pos q1];omega
  ·rw [if_neg q1];omega
end Go.Gk.Pgr
end
section
namespace Go.Gk
open Go
section
def LL(X:List Nat) (a0 a:Act):Prop:=∀t,t∉X→a.tmps[t]?=a0.tmps[t]?
theorem LL.put{X:List Nat}{a0 a:Act} (h:LL X a0 a) {dst:Option Nat} (hd:∀t,dst=some t→t∈X) (v:Value):LL X a0 (a.put dst v):=by
 intro t ht
 cases dst with
 |none=>exact h t ht
 |some d=>
  have hne:d≠t:=fun e=>ht (e▸hd d rfl)
  show(a.tmps.setIfInBounds d v)[t]?=_
  rw [Array.getElem?_setIfInBounds,if_neg hne]
  exact h t ht
theorem LL.defer{X:List Nat}{a0 a:Act} (h:LL X a0 a) (l:List Deferred):LL X a0 {a with defers:=l}:=h
section
variable {P:Program}{ops:Array Oper}{Q:Exit→Act→World→Prop}{X:List Nat}{a0:Act}
end
def Im:Code→List Nat
 |.region _ ops _=>ops.toList.filterMap (·.dst)
 |.seq a b=>Im a++Im b
 |.cond _ a b=>Im a++Im b
 |.block _ a=>Im a
 |.loop a=>Im a
 |_=>[]
end
section
structure JP where
 n:Nat
 res:List F5
 a:Ck
 fd:Nat
 g:FuncId
 caps:List Nat
 c:Ck
def KY(n:Nat):List Operand→Option (List Nat)
 |[]=>some []
 |.tmp t::l=>if t<n then(KY n l).map (t:: ·) else none
 |_::_=>none
def YY:F5→Nat
 |.tmp t=>t
 |.cell t _=>t
def QJ(n:Nat) (ops:List Oper):Option (Nat×FuncId×List Nat):=
 match ops with
 |[o1,o2]=>match o1.dst,o1.op,o1.guard,o2.dst,o2.op,o2.guard with
  |some fd,.makeFunc (.func g) first caps,none,none,.defer ⟨.value (.tmp fd'),args,_⟩,none=>
   if first.size=0∧args.size=0∧fd=fd'∧fd<n then(KY n caps.toList).map fun cs=>(fd,g,cs) else none
  |_,_,_,_,_,_=>none
 |_=>none
def XC(pr:Bool) (P:Program) (f:FuncId):Option JP:=
 match P.funcs[f]? with
 |some fn=>
  if fn.name== "runtime.NumGoroutine" || !P.follows .mixedOrders then none else
  match fn.body with
  |some (.seq a (.seq (.region _ ops false) c))=>
   match QJ fn.ntmps ops.toList,fn.results.toList.mapM (G7 P fn.ntmps) with
   |some (fd,g,cs),some rs=>if rs.all (fun r=> !(Im c).contains (YY r)) then some ⟨fn.ntmps,rs,D6 pr P fn.ntmps a,fd,g,cs,D6 pr P fn.ntmps c⟩ else none
   |_,_=>none
  |_=>none
 |none=>none
theorem Nc{args:List Value}{n:Nat} (ha:args.length≤n):({tmps:=args.toArray++Array.replicate (n - args.toArray.size) undef,defers:=[]}:Act)=act n (F4 args) []:=by
 simp only [act,Act.mk.injEq,and_true]
 apply Array.ext
 ·simp at ha⊢;omega
 ·intro i h1 h2
  simp only [Array.getElem_ofFn,F4]
  by_cases hi:i<args.length
  ·rw [Array.getElem_append_left (by simpa using hi)];simp [hi]
  ·rw [Array.getElem_append_right (by simpa using hi)];simp [Afw,Adq (Ahe hi)]
theorem RG{P:Program}{n:Nat}{fn:Func}{rs:List F5} (hr:fn.results.toList.mapM (G7 P n)=some rs) {ρ:Env}{ds:List Deferred}{d:Ac}{L F:List Ac}{W:World} (hOk:Ok (d::(L++F)) W) {vs:List Value} (h:GA ρ (HC d L) rs vs):
  (results fn (act n ρ ds).tmps).run P W=.ok (Jm vs) W:=by
 have hl:∀a v,HC d L a v→W.cell? a=some v:=fun a v hc=>hc.cell hOk.head (fun q hq=>hOk.2 q (by simp [hq]))
 have:=GV (P:=P) (n:=n) (ρ:=ρ) (ds:=ds) hl fn.results.toList rs vs hr h
 rw [Hl,Array.mapM_eq_mapM_toList]
 simp only [Sem.run_bind,Sem.run_map,this,Result.andThen,Sem.run_pure]
 cases vs with
 |nil=>rfl
 |cons v vs=>cases vs with
  |nil=>rfl
  |cons v' vs=>rfl
theorem IB{n:Nat}{ρ:Env}{ds:List Deferred}:∀{l:List Operand}{cs:List Nat},KY n l=some cs→l.map (act n ρ ds).eval=cs.map ρ
 |[],cs,h=>by cases h;rfl
 |.tmp t::l,cs,h=>by
  simp only [KY] at h
  split at h<;>try cases h
  rename_i ht
  simp only [Ado] at h
  obtain⟨cs',h,rfl⟩:=h
  have e:(act n ρ ds).eval (.tmp t)=ρ t:=A9 (x:=.tmp t) (by simpa [DM] using ht)
  simp only [Afj,e,IB h]
 |.const _::l,cs,h=>by cases h
 |.global _::l,cs,h=>by cases h
 |.func _::l,cs,h=>by cases h
section
variable {pr:Bool}{P:Program}
def Ky(K:Ac→List Ac→Prop):B2:={n:=fun _=>K,ret:=fun _=>K,ex:=fun _ _ _ _=>False,pan:=fun _ _ _=>False}
def DT(g:FuncId) (caps:List Value):Value:=.func (.func g) #[] caps.toArray
theorem N9{n:Nat}{ops:Array Oper}{r:Nat×FuncId×List Nat} (h:QJ n ops.toList=some r):∃o1 o2 caps ats,ops= #[o1,o2]∧o1.dst=some r.1∧o1.op=.makeFunc (.func r.2.1) #[] caps∧o1.guard=none∧o2.dst=none∧o2.op=.defer ⟨.value (.tmp r.1), #[],ats⟩∧o2.guard=none∧r.1<n∧KY n caps.toList=some r.2.2:=by
 obtain⟨ops⟩:=ops
 simp only [QJ] at h
 split at h<;>try cases h
 rename_i o1 o2
 split at h<;>try cases h
 rename_i h1 h2 h3 h4 h5 h6
 split at h<;>try cases h
 rename_i hc
 obtain⟨k1,k2,k3,k4⟩:=hc
 simp only [Ado] at h
 obtain⟨cs,hcs,rfl⟩:=h
 subst k3
 have k1:=Array.eq_empty_of_size_eq_zero k1
 have k2:=Array.eq_empty_of_size_eq_zero k2
 subst k1;subst k2
 exact⟨o1,o2,_,_,by simp_all,h1,h2,h3,h4,h5,h6,k4,hcs⟩
end
end
section
section
variable {pr:Bool}{P:Program}
theorem JZ{f:FuncId}{g:AY} (hd:IL pr P f=some g) (hr:g.res=[]) {args:List Value} (ha:args.length≤g.n) {F:List Ac}{W:World}{d:Ac}{L:List Ac}{K:Ac→List Ac→Prop}
  (h:gwp P g.code (Ky K) (F4 args) d L) (hOk:Ok (d::(L++F)) W):
  CallsD P f args.toArray .returning W fun e u' w'=>(∃r,e=.returned r)∧u'=.returning∧∃d' L',Ok (d'::(L'++F)) w'∧Le d d'∧AI W w'∧K d' L':=by
 simp only [IL] at hd
 split at hd<;>try cases hd
 rename_i fn hf
 split at hd<;>try cases hd
 rename_i hn
 split at hd<;>try cases hd
 rename_i c hb
 rw [Ado] at hd
 obtain⟨rs,hrs,rfl⟩:=hd
 simp only at hr
 subst hr
 have hz:fn.results.size=0:=by
  have:fn.results.toList.length=0:=by
   cases e:fn.results.toList with
   |nil=>rfl
   |cons r l=>
    rw [e,Ahb] at hrs
    simp only [Ahh,Adl,Option.pure_def] at hrs
    obtain⟨_,_,_,_,hh⟩:=hrs
    cases hh
  simpa using this
 simp only [Adx,not_or,Aev,Afu] at hn
 refine callsD_of_wpS hf hb fun c₀ cs hu=>?_
 rw [Nc ha]
 refine wpS_of_wp (wp_mono (EW (ds:=[]) (F:=F) (W0:=W) (d0:=d) (by simpa using hn.2) c _ _ d L W h hOk (Le.refl d) (AI.refl W)) ?_)
 have hres:∀(tm:Array Value) (w:World),(results fn tm).run P w=.ok (.tuple #[]) w:=by
  intro tm w
  have:fn.results= #[]:=Array.eq_empty_of_size_eq_zero hz
  rw [Hl,Array.mapM_eq_mapM_toList,this];simp
 intro e a w hq
 cases e with
 |normal=>
  obtain⟨ρ,d',L',rfl,k1,k2,k3,k4⟩:=hq
  exact⟨rfl,.returning,by cases c₀;simp_all,_,hres _ _,⟨_,rfl⟩,rfl,d',L',k1,k2,k3,k4⟩
 |ret=>
  obtain⟨ρ,d',L',rfl,k1,k2,k3,k4⟩:=hq
  exact⟨rfl,.returning,by cases c₀;simp_all,_,hres _ _,⟨_,rfl⟩,rfl,d',L',k1,k2,k3,k4⟩
 |panic c=>obtain⟨_,_,_,_,_,_,hh⟩:=hq;exact hh.elim
 |exit i=>obtain⟨_,_,_,_,_,_,_,hh⟩:=hq;exact hh.elim
 |goto l=>exact hq.elim
 |outgrown=>exact hq.elim
def AbK(P:Program) (res:List F5) (v:AY) (R:Ending→Ac→List Ac→Prop) (caps:List Value):B2:=
 {n:=fun ρ d L=>gwp P v.code (Ky (Cy res R ρ)) (F4 caps) d L,ret:=fun ρ d L=>gwp P v.code (Ky (Cy res R ρ)) (F4 caps) d L,ex:=fun _ _ _ _=>False,pan:=fun _ _ _=>False}
def Qw(P:Program) (g:JP) (v:AY) (R:Ending→Ac→List Ac→Prop):B2:=
 {n:=fun ρ d L=>gwp P g.c (AbK P g.res v R (g.caps.map ρ)) (upd ρ g.fd (DT g.g (g.caps.map ρ))) d L,
  ret:=fun _ _ _=>False,ex:=fun _ _ _ _=>False,pan:=fun _ _ _=>False}
theorem Vi{pr':Bool}{f:FuncId}{g:JP}{v:AY} (hd:XC pr P f=some g) (hv:IL pr' P g.g=some v) (hvr:v.res=[]) {args:List Value} (ha:args.length≤g.n) (hcl:g.caps.length≤v.n) {d:Ac}{L:List Ac}{R:Ending→Ac→List Ac→Prop}
  (h:gwp P g.a (Qw P g v R) (F4 args) d L):Aw P f args d L R:=by
 simp only [XC] at hd
 split at hd<;>try cases hd
 rename_i fn hf
 split at hd<;>try cases hd
 rename_i hn
 split at hd<;>try cases hd
 rename_i A id ops C hb
 split at hd<;>try cases hd
 rename_i fd gg cs rs hdf hrs
 split at hd<;>cases hd
 rename_i hall
 simp only [Adx,not_or,Aev,Afu] at hn
 have hm:P.follows .mixedOrders=true:=by simpa using hn.2
 obtain⟨o1,o2,caps,ats,rfl,h1,h2,h3,h4,h5,h6,h7,h8⟩:=N9 hdf
 simp only at h1 h2 h5 h7 h8 hv hcl ha h
 have hvc:JH P gg:=by
  have hv':=hv
  simp only [IL] at hv'
  split at hv'<;>try cases hv'
  rename_i fn' hf'
  split at hv'<;>try cases hv'
  rename_i hn'
  split at hv'<;>try cases hv'
  rename_i hb'
  simp only [Adx,not_or,Aev,Afu] at hn'
  exact⟨fn',hf',by rw [hb'];rfl,hn'.1⟩
 refine⟨⟨fn,hf,by rw [hb];rfl,hn.1⟩,fun F W hOk=>?_⟩
 refine calls_of_wp_defers hf hb ?_
 rw [Nc ha]
 refine wp_seq (wp_mono (EW (ds:=[]) (F:=F) (W0:=W) (d0:=d) hm A _ _ d L W h hOk (Le.refl d) (AI.refl W)) ?_)
 intro e a w hq
 cases e with
 |panic c=>obtain⟨_,_,_,_,_,_,hh⟩:=hq;exact hh.elim
 |exit i=>obtain⟨_,_,_,_,_,_,_,hh⟩:=hq;exact hh.elim
 |ret=>obtain⟨_,_,_,_,_,_,_,hh⟩:=hq;exact hh.elim
 |goto l=>exact hq.elim
 |outgrown=>exact hq.elim
 |normal=>
 obtain⟨ρ,d1,L1,rfl,k1,k2,k3,k4⟩:=hq
 simp only [Qw] at k4
 refine wp_seq (wp_region ?_)
 have l:Ade (#[o1,o2]:Array Oper).size=[0,1]:=rfl
 rw [l]
 have g0:(#[o1,o2]:Array Oper)[0]?=some o1:=rfl
 have g1:(#[o1,o2]:Array Oper)[1]?=some o2:=rfl
 have e1:∀ys,Region.wanted o1 ys=true:=fun ys=>by simp [Region.wanted,h3]
 have e2:∀ys,Region.wanted o2 ys=true:=fun ys=>by simp [Region.wanted,h6]
 have hcv:caps.map (act fn.ntmps ρ []).eval=(cs.map ρ).toArray:=by
  have:=IB (ρ:=ρ) (ds:=[]) h8
  exact Array.ext' (by rw [Array.toList_map,this])
 have x1:∀w,(execOp (act fn.ntmps ρ []).eval o1).run P w=.ok (.value (DT gg (cs.map ρ))) w:=by
  intro w;simp [execOp,h2,Instr.makeFunc,hcv,DT]
 have hfd:(act fn.ntmps (upd ρ fd (DT gg (cs.map ρ))) []).eval (.tmp fd)=DT gg (cs.map ρ):=by
  rw [A9 (x:=.tmp fd) (by simpa [DM] using h7)];simp [ev,upd]
 have x2:∀w,(execOp (act fn.ntmps (upd ρ fd (DT gg (cs.map ρ))) []).eval o2).run P w=.ok (.defer {target:=.fn (.func gg) (cs.map ρ).toArray,args:= #[]}) w:=by
  intro w
  generalize (act fn.ntmps (upd ρ fd (DT gg (cs.map ρ))) []).eval=e at hfd
  simp [execOp,h5,resolve,hfd,DT,Deferred.ofValue]
 have p1:(act fn.ntmps ρ []).put o1.dst (DT gg (cs.map ρ))=act fn.ntmps (upd ρ fd (DT gg (cs.map ρ))) []:=by
  rw [h1,EM (d:=some fd) (fun _ e=>by cases e;exact h7)];rfl
 simp only [wpOps_cons,wpOp,g0,e1,if_true]
 refine .inl ?_
 simp only [Oper.wp,x1,Oper.upon,p1,wpOps_cons,wpOp,g1,e2,if_true]
 refine .inl ?_
 simp only [x2,h4]
 show Code.wp P C _ (act fn.ntmps (upd ρ fd (DT gg (cs.map ρ))) [{target:=.fn (.func gg) (cs.map ρ).toArray,args:= #[]}]) w
 have hlen:(cs.map ρ).length≤v.n:=by simpa using hcl
 have hinv:∀w,(invoke (.fn (.func gg) (cs.map ρ).toArray) #[]).run P w=.ok (.enter gg (cs.map ρ).toArray) w:=by
  intro w;simp [invoke,EN hvc]
 generalize hD:(⟨.fn (.func gg) (cs.map ρ).toArray, #[]⟩:Deferred)=D
 refine wp_mono (EW (ds:=[D]) (F:=F) (W0:=W) (d0:=d) hm C _ _ d1 L1 w k4 k1 k2 k3) ?_
 subst hD
 have fin:∀a w,(∃ρ' d' L',a=act fn.ntmps ρ' [⟨.fn (.func gg) (cs.map ρ).toArray, #[]⟩]∧Ok (d'::(L'++F)) w∧Le d d'∧AI W w∧gwp P v.code (Ky (Cy rs R ρ')) (F4 (cs.map ρ)) d' L')→
   Leaves P fn a.tmps (fun e W'=>∃d' L',Ok (d'::(L'++F)) W'∧Le d d'∧AI W W'∧R e d' L') a.defers .returning w:=by
  rintro a w ⟨ρ',d',L',rfl,j1,j2,j3,j4⟩
  refine leaves_cons (by simp) (hinv w) ((JZ hv hvr hlen j4 j1).mono ?_)
  rintro e u' w' ⟨⟨r,rfl⟩,rfl,d2,L2,q1,q2,q3,vs,q4,d3,L3,q5,q6⟩
  exact⟨Jm vs,RG hrs q1 q4,d3,L3,q5.2 F w' q1,(j2.trans q2).trans q5.1,j3.trans q3,q6⟩
 intro e a w hq
 cases e with
 |normal=>exact fin a w hq
 |ret=>exact fin a w hq
 |panic c=>obtain⟨_,_,_,_,_,_,hh⟩:=hq;exact hh.elim
 |exit i=>obtain⟨_,_,_,_,_,_,_,hh⟩:=hq;exact hh.elim
 |goto l=>exact hq.elim
 |outgrown=>exact hq.elim
end
end
end Go.Gk
end
section
namespace Go.Gk.Chn
open Go Go.Gk Go.Gk.Dev Go.Gk.Cch Go.Gk.Pgr Go.Gk.Node
attribute [local irreducible] gwp gws xwp
def BR(s:PD) (l:List Int):Nat→PD×List Int×Int
 |0=>(s,l,0)
 |n+1=>if s.AV.2.2=0 then BR s.AV.1 (l++[s.AV.2.1]) n else(s.AV.1,l,s.AV.2.2)
def Dk(s:PD) (l:List Int):PD:=l.foldl (fun s k=>(s.drop k).1) s
def Bz(s:PD) (n:Nat):PD×List Int×Int:=if (BR s [] n).2.2=0 then BR s [] n else(Dk (BR s [] n).1 (BR s [] n).2.1,[],(BR s [] n).2.2)
theorem PZ{s:PD} (hG:Pgr.Good s):0≤s.AV.2.1∧s.AV.2.1≤16384:=by
 unfold PD.AV
 cases h:CY 0 s.kinds with
 |none=>show 0≤(0:Int)∧(0:Int)≤16384;decide
 |some i=>
  obtain⟨h1, -⟩:=FN h
  have:=hG.inn
  have:=hG.syn
  show 0≤((s.frm+i:Nat):Int)∧((s.frm+i:Nat):Int)≤16384
  omega
def OK(P:Program) (f:FuncId):Prop:=∀{d:Ac}{s:PD}{dv pv:Value}{L:List Ac}{n:Nat},Pg d s dv pv L→n≤8192→
 Aw P f [pv,.int .i64 n] d L (Ret fun r d' L'=>Le d d'∧∃v,r=.tuple #[v,.int .i64 (Bz s n).2.2]∧Dt d' v (Bz s n).2.1∧Pg d' (Bz s n).1 dv pv L')
theorem X3(d a b c h:Ac) (L:List Ac):Vs d (a::b::c::h::L) (join d h) L:=(Vs.drop (.cons _ (.cons _ (.cons _ (Acb _))))).trans Vs.freeze
theorem U6{s:PD}{l:List Int}{k:Int}:Dk s (l++[k])=((Dk s l).drop k).1:=by simp [Dk]
def Qs(a0 a1:Nat):JP:=⟨27,[(.cell 4 none),(.cell 5 none)],(rG (o1 2 (.box (tP 0))<|o1 4 (.alo (.slice none 0 0))<|o1 5 (.alo (.int .i64 0)) .done)),8,a0,[5,4,2],(.seq (sR (om 9 1<|o1 10 (.mv (kZ 0)) .done) (.block 0 (.loop (sR (ob 11 .lss (tP 10) (tP 9) .done) (.seq (.cond (tP 11) .skip (.exit 0)) (.seq (.block 1 (sR (ol 13 2<|oc 14 a1 [(tP 13)]<|om 12 14<|oe 15 12 0<|oe 16 12 1<|om 6 15<|om 7 16 .done) (.seq (sR (om 17 7<|ob 18 .neq (tP 17) (kZ 0) .done) (.cond (tP 18) (sR (ol 19 4<|om 20 7<|o0 (.st 1 (tP 4) (tP 19))<|o0 (.st 1 (tP 5) (tP 20)) .done) .ret) .skip)) (rG (ol 21 4<|om 22 6<|o1 23 (.bsl 1 1 [(.int .i64 0)] [(0,(tP 22))])<|o1 24 (.app 1 8 [(.int .i64 0)] (tP 21) (tP 23))<|o0 (.st 1 (tP 4) (tP 24)) .done))))) (rG (ob 25 .add (tP 10) (kZ 1)<|om 10 25 .done)))))))) (sR (ol 26 4<|o0 (.st 1 (tP 4) (tP 26))<|o0 (.st 1 (tP 5) (kZ 0)) .done) .ret))⟩
def Iw(a0:Nat):AY:=⟨17,[],(sR (ol 5 0<|ob 6 .neq (tP 5) (kZ 0) .done) (.cond (tP 6) (.seq (sR (ol 7 1<|oL 8 7<|o1 9 (.mv (kZ 0)) .done) (.block 0 (.loop (sR (ob 10 .lss (tP 9) (tP 8) .done) (.seq (.cond (tP 10) .skip (.exit 0)) (.seq (.block 1 (sR (oI 11 1 7 9<|ol 12 11<|om 4 12 .done) (rG (ol 13 2<|om 14 4<|oc 15 a0 [(tP 13),(tP 14)] .done)))) (rG (ob 16 .add (tP 9) (kZ 1)<|om 9 16 .done)))))))) (rG (o0 (.st 1 (tP 1) nS) .done))) .skip))⟩
def Sq(P:Program) (f:FuncId):Prop:=∃f3,dec P f=some (Iw f3)∧Gv P f3
theorem Zu{P:Program}{f f3:FuncId} (hd:dec P f=some (Iw f3)) (h:Gv P f3):Sq P f:=⟨f3,hd,h⟩
set_option maxRecDepth 4000 in
set_option maxHeartbeats 1000000 in
theorem XF{P:Program}{f f1 f2:FuncId} (hd:XC false P f=some (Qs f1 f2)) (h0:Sq P f1) (h1:FO P f2):OK P f:=by
 obtain⟨f3,hv,h2⟩:=h0
 intro d s dv pv L n hp hn
 obtain⟨bp,rfl⟩:=hp.ptr
 refine Vi hd hv rfl (Aca rfl) (Aca rfl) ?_
 show gwp P _ _ _ _ _
 (apply AA)
 refine Fc rfl (fun b2 T2=>?_)
 refine DI (fun b4 T4=>?_)
 refine DI (fun b5 T5=>?_)
 refine FF ⟨d,bx b5 T5 [.int .i64 0]::bx b4 T4 [.slice none 0 0]::bx b2 T2 [.pointer (some ⟨bp,0,none⟩)]::emp::L,(Vs.emp (L:=_)).trans (Vs.perm ((Adc _ _ _).trans (Aco _ ((Adc _ _ _).trans (Aco _ (Adc _ _ _)))))),?_⟩
 show gwp P _ _ _ _ _
 (refine Ah<|Ad<|Ab rfl<|Ab rfl<|Aa<|Az ?_)
 refine CL (α:=Nat×PD×List Int×Option Addr×Nat) (fun x=>[(2,.pointer (some ⟨b2,0,none⟩)),(4,.pointer (some ⟨b4,0,none⟩)),(5,.pointer (some ⟨b5,0,none⟩)),(9,.int .i64 n),(10,.int .i64 x.1)])
  (fun x d' L'=>Le d d'∧x.1≤n∧BR s [] n=BR x.2.1 x.2.2.1 (n - x.1)∧x.2.2.1.length=x.1∧∃hv L3,L'=bx b5 T5 [.int .i64 0]::bx b4 T4 [.slice x.2.2.2.1 x.2.2.1.length x.2.2.2.2]::bx b2 T2 [.pointer (some ⟨bp,0,none⟩)]::hv::L3∧
   Aq 1 Bg d' (.slice x.2.2.2.1 x.2.2.1.length x.2.2.2.2) x.2.2.1 hv∧Pg d' x.2.1 dv (.pointer (some ⟨bp,0,none⟩)) L3)
  (fun x=>n - x.1) (0,s,[],none,0) ⟨rfl,rfl,rfl,rfl,rfl,trivial⟩ ⟨Le.refl _,Adg _,rfl,rfl,emp,L,rfl,Aq.nil,hp⟩ ?_
 rintro⟨i,s1,l,va,vc⟩ ρ d' L' ⟨hle,hi,hT,hll,hv,L3,rfl,hrow,hp1⟩
 simp only at hi hT hll hrow hp1⊢
 by_cases e:i<n
 ·have hni:n - i=(n - (i+1))+1:=by omega
  rw [hni,BR] at hT
  (refine Ad<|AE rfl rfl<|Aa<|Ah<|Ax rfl (by omega)<|Ak<|Ah<|Az<|Ad<|Ag rfl (Aj 2 rfl rfl) ?_)
  refine C4 (h1 hp1) (Ack (l₁:=[_,_,_,_])) rfl (fun u d2 L2 hl2 ⟨q1,hp2⟩=>?_)
  subst q1
  refine⟨d2,_::_::_::_::L2,Vs.perm (Ack (l₂:=[_,_,_,_])),?_⟩
  have hrow2:Aq 1 Bg d2 (.slice va l.length vc) l hv:=Aq.mono (R:=Bg) B8 hrow hl2
  by_cases hz:s1.AV.2.2=0
  ·rw [if_pos hz] at hT
   (refine AU rfl<|Ao rfl rfl<|Ao rfl rfl<|Ab rfl<|Ab rfl<|Aa<|Ah<|Ad<|Ab rfl<|AQ rfl rfl<|Aa<|Ar rfl (by omega)<|Ak<|AA<|Ag rfl (Aj 1 rfl rfl)<|Ab rfl ?_)
   have hrg:=PZ hp1.EY
   refine Ea (v0:=.int .i64 s1.AV.2.1) rfl rfl (fun b3 T3=>?_)
   refine D9 (R:=Bg) 3 rfl rfl hrow2 rfl (Aq.Em (x:=s1.AV.2.1) rfl ⟨rfl,by omega,by omega⟩) Dg (by omega) (by simp;omega) (by simp;omega) (fun v' h' ho'=>?_)
   obtain⟨va',vc',rfl⟩:=ho'.val
   refine AZ 1 [.slice va' (l++[s1.AV.2.1]).length vc'] rfl rfl rfl rfl (Ach _) rfl rfl ?_
   (refine Aa<|AA<|AO rfl rfl (by omega) (by omega)<|Ab rfl<|Aa ?_)
   exact⟨(i+1,s1.AV.1,l++[s1.AV.2.1],va',vc'),by simp only;omega,⟨rfl,rfl,rfl,rfl,rfl,trivial⟩,hle.trans hl2,e,hT,by simp only [Acl,Acs,Aen];omega,h',L2,rfl,ho',hp2⟩
  ·rw [if_neg hz] at hT
   (refine AU rfl<|Ao rfl rfl<|Ao rfl rfl<|Ab rfl<|Ab rfl<|Aa<|Ah<|Ad<|Ab rfl<|AQ rfl rfl<|Aa<|Ax rfl (by omega)<|Ad<|Ag rfl (Aj 1 rfl rfl)<|Ab rfl ?_)
   refine AZ 1 [.slice va l.length vc] rfl rfl rfl rfl (Ach _) rfl rfl ?_
   refine AZ 0 [.int .i64 s1.AV.2.2] rfl rfl rfl rfl (Ach _) rfl rfl ?_
   have hF:Bz s n=(Dk s1.AV.1 l,[],s1.AV.2.2):=by unfold Bz;rw [hT,if_neg hz]
   rw [hF]
   have hbl:(s1.AV.1).kinds.length≤8192:=hp2.EY.len
   (refine Aa<|An<|Ad<|Ag rfl (Aj 0 rfl rfl)<|AQ rfl rfl<|Aa<|Ax rfl (by omega)<|Ah<|Ad<|Ag rfl (Aj 1 rfl rfl)<|AN rfl<|Ab rfl<|Aa<|Az ?_)
   show gwp P _ _ _ _ _
   skip
   refine CL (α:=Nat) (fun i=>[(1,.pointer (some ⟨b4,0,none⟩)),(2,.pointer (some ⟨b2,0,none⟩)),(7,.slice va l.length vc),(8,.int .i64 l.length),(9,.int .i64 i)])
    (fun i d' L'=>Le d2 d'∧i≤l.length∧∃L4,L'=bx b5 T5 [.int .i64 s1.AV.2.2]::bx b4 T4 [.slice va l.length vc]::bx b2 T2 [.pointer (some ⟨bp,0,none⟩)]::hv::L4∧Pg d' (Dk s1.AV.1 (l.take i)) dv (.pointer (some ⟨bp,0,none⟩)) L4)
    (fun i=>l.length - i) 0 ⟨rfl,rfl,rfl,rfl,rfl,trivial⟩ ⟨Le.refl _,Adg _,L2,rfl,hp2⟩ ?_
   rintro j ρ d' L' ⟨hle',hj,L4,rfl,hp4⟩
   by_cases ej:j<l.length
   ·have hn':Dk s1.AV.1 (l.take (j+1))=((Dk s1.AV.1 (l.take j)).drop l[j]).1:=by rw [Acx ej,U6]
    obtain⟨b1,T1,l1,c1,cs,q1,rfl,hcl,hcs,hle1,⟨rfl,hb1,hb2⟩, -⟩:=Aq.at (by omega) hrow ej
    cases q1
    have c0:=hcs 0 _ rfl
    (refine Ad<|AE rfl rfl<|Aa<|Ah<|Ax rfl (by omega)<|Ak<|Ah<|Az<|Ad<|Bx _ rfl rfl rfl (by omega)<|Ag rfl (Aj 3 rfl (by assumption))<|Ab rfl<|Aa<|AA<|Ag rfl (Aj 2 rfl rfl)<|Ab rfl ?_)
    refine C4 (h2 (k:=l[j]) hp4) (Ack (l₁:=[_,_,_,_])) rfl (fun u d5 L5 hl5 ⟨q1,hp5⟩=>?_)
    subst q1
    refine⟨d5,_::_::_::_::L5,Vs.perm (Ack (l₂:=[_,_,_,_])),?_⟩
    (refine Aa<|AA<|AO rfl rfl (by omega) (by omega)<|Ab rfl<|Aa ?_)
    exact⟨j+1,by omega,⟨rfl,rfl,rfl,rfl,rfl,trivial⟩,hle'.trans hl5,ej,L5,rfl,by rw [hn'];exact hp5⟩
   ·have:j=l.length:=by omega
    subst this
    rw [Aeg] at hp4
    (refine Ad<|AE rfl rfl<|Aa<|Ah<|Ar rfl (by omega)<|Bj<|AA ?_)
    refine AZ 1 [.slice none 0 0] rfl rfl rfl rfl (Ach _) rfl rfl ?_
    (apply Aa)
    exact Ba [.slice none 0 0,.int .i64 s1.AV.2.2] ⟨⟨_,_,rfl,Aj 1 rfl rfl⟩,⟨_,_,rfl,Aj 0 rfl rfl⟩,trivial⟩ (d':=d') (L':=L4) (Vs.drop (.cons _ (.cons _ (.cons _ (.cons _ (Acb _)))))) ⟨(hle.trans hl2).trans hle',_,rfl,RSl.nil,hp4⟩
 ·have:i=n:=by omega
  subst this
  rw [Afy,BR] at hT
  have hF:Bz s i=(s1,l,0):=by unfold Bz;rw [hT,if_pos rfl]
  rw [hF]
  (refine Ad<|AE rfl rfl<|Aa<|Ah<|Ar rfl (by omega)<|Bj<|Ad<|Ag rfl (Aj 1 rfl rfl) ?_)
  refine AZ 1 [.slice va l.length vc] rfl rfl rfl rfl (Ach _) rfl rfl ?_
  refine AZ 0 [.int .i64 0] rfl rfl rfl rfl (Ach _) rfl rfl ?_
  (refine Aa<|An<|Ad<|Ag rfl (Aj 0 rfl rfl)<|AQ rfl rfl<|Aa<|Ar rfl (by omega)<|Ak ?_)
  exact Ba [.slice va l.length vc,.int .i64 0] ⟨⟨_,_,rfl,Aj 1 rfl rfl⟩,⟨_,_,rfl,Aj 0 rfl rfl⟩,trivial⟩ (d':=join d' hv) (L':=L3) (X3 _ _ _ _ _ _) ⟨hle.trans (Le.AH _ _),_,rfl,Aq.rsl (R:=Bg) (sz:=1) hrow B8 (by omega) (Le.AH _ _) (Le.A6 _ _),hp1.mono (Le.AH _ _)⟩
end Go.Gk.Chn
end
section
namespace Go.Gk.Chn
open Go Go.Gk Go.Gk.Dev Go.Gk.Cch Go.Gk.Pgr Go.Gk.Node
section
section
variable {P:Program}{pan:List PanicEntry→AR}{Qn:Env→AR}{Ls L:List Ac}{ρ:Env}{d:Ac}{s:GS}{t:Nat}{tk:Bool}
theorem P0{x y:Operand}{b len:Nat}{kk:IntKind} (k:Nat) (ex:ev ρ x=.pointer (some ⟨b,0,none⟩)) (ey:ev ρ y=.int kk (k:Nat)) (hk:k<len) (h:gws P pan Qn s Ls (upd ρ t (.slice (some ⟨b,k,none⟩) (len - k) (len - k))) d L):
  gws P pan Qn (.op tk ⟨some t,none,.sla len 1 x (some y) none none⟩ s) Ls ρ d L:=by
 refine w_q rfl ⟨b,0,k,len,len,ex,?_,rfl⟩ ?_
 ·simp only [DP,GC,Gw,GM,Adz,Aeq,Option.map_none,ey,bnd]
  have:k≤len:=by omega
  simp [this]
 ·rw [if_neg (by omega)];simpa using h
theorem Sv{x:Operand}{b len:Nat} (ex:ev ρ x=.pointer (some ⟨b,0,none⟩)) (hk:0<len) (h:gws P pan Qn s Ls (upd ρ t (.slice (some ⟨b,0,none⟩) len len)) d L):
  gws P pan Qn (.op tk ⟨some t,none,.sla len 1 x none none none⟩ s) Ls ρ d L:=by
 refine w_q rfl ⟨b,0,0,len,len,ex,?_,rfl⟩ ?_
 ·simp [DP,GC,Gw,GM]
 ·rw [if_neg (by omega)];simpa using h
end
attribute [local irreducible] gwp gws xwp
def AP(n:Nat):Nat:=max 1 ((n+253) / 254)
def FD(P:Program) (f:FuncId):Prop:=∀{d:Ac}{n:Nat},n≤1000000→CQ P f [.int .i64 n] d (.int .i64 (AP n))
def Qr:AY:=⟨10,[(.tmp 2)],(sR (o1 2 (.mv (kZ 0)) .done) (.seq (sR (om 3 0<|ob 4 .lss (tP 3) (kZ 0) .done) (.cond (tP 4) (sR (o1 2 (.mv (kZ 0)) .done) .ret) .skip)) (sR (om 5 0<|ob 6 .sub (tP 5) (kZ 1)<|ob 7 .quo (tP 6) (kZ 254)<|ob 8 .add (tP 7) (kZ 1)<|o1 9 (.mx2 (kZ 1) (tP 8))<|om 2 9 .done) .ret)))⟩
theorem Xl{n:Nat}:max (1:Int) (((n:Int) - 1).tdiv 254+1)=(AP n:Nat):=by
 unfold AP
 by_cases h:n=0
 ·subst h;rfl
 ·have h1:((n:Int) - 1).tdiv 254=((n:Int) - 1) / 254:=Int.tdiv_eq_ediv_of_nonneg (by omega)
  rw [h1];omega
theorem Yo{P:Program}{f:FuncId} (hd:dec P f=some Qr):FD P f:=by
 intro d n hn
 refine AG hd (Aca rfl) ?_
 show gwp P _ _ _ _ _
 have hb: -1≤((n:Int) - 1).tdiv 254∧((n:Int) - 1).tdiv 254≤1000000:=by
  by_cases h:n=0
  ·subst h;decide
  ·rw [Int.tdiv_eq_ediv_of_nonneg (by omega)];omega
 (refine Ad<|Ab rfl<|Aa<|Ah<|Ad<|Ab rfl<|AE rfl rfl<|Aa<|Ar rfl (by omega)<|Ak<|Ad<|Ab rfl<|CX rfl rfl (by omega) (by omega)<|Aap rfl rfl (by omega) (by omega) (by omega)<|AO rfl rfl (by omega) (by omega)<|YB rfl rfl<|Ab rfl<|Aa<|An ?_)
 refine Hg rfl ?_
 rw [Xl]
def DY(next:Int) (c:List UInt8):Sec:=UInt8.ofNat (next / 256 % 256).toNat::UInt8.ofNat (next % 256).toNat::(c++Acr (254 - c.length) 0)
theorem Oz(x y:UInt8) {c:List UInt8} (_:c.length≤254):patch (patch (patch CP 0 [Ay x]) 1 [Ay y]) 2 (c.map Ay)=(x::y::(c++Acr (254 - c.length) 0)).map Ay:=by
 have hz:CP=Ay 0::Ay 0::Acr 254 (Ay 0):=rfl
 have e1:patch (Ay 0::Ay 0::Acr 254 (Ay 0)) 0 [Ay x]=Ay x::Ay 0::Acr 254 (Ay 0):=rfl
 have e2:patch (Ay x::Ay 0::Acr 254 (Ay 0)) 1 [Ay y]=Ay x::Ay y::Acr 254 (Ay 0):=rfl
 rw [hz,e1,e2]
 unfold patch
 rw [Adw,Nat.add_comm 2]
 show Ay x::Ay y::(c.map Ay++(Acr 254 (Ay 0)).drop c.length)=_
 rw [List.drop_replicate,Afj,Afj,Afk,List.map_replicate]
def Cl(b:List UInt8) (i:Nat):List UInt8:=(b.drop (i*254)).take 254
def Dp(s:PD) (l:List Int) (b:List UInt8):Nat→PD
 |0=>s
 |i+1=>((Dp s l b i).put (l.getD i 0) (DY (l.getD (i+1) 65535) (Cl b i))).1
def B3(s:PD) (b:List UInt8):PD×Int×Int:=
 let t:=Bz s (AP b.length)
 if t.2.2=0 then(Dp t.1 t.2.1 b t.2.1.length,t.2.1.getD 0 0,0) else(t.1,0,t.2.2)
theorem Lq:∀{n:Nat}{s:PD}{l:List Int},(BR s l n).2.2=0→(BR s l n).2.1.length=l.length+n
 |0,s,l,_=>rfl
 |n+1,s,l,h=>by
  rw [BR] at h⊢
  split at h
  ·rename_i e
   rw [if_pos e,Lq h];simp;omega
  ·rename_i e
   exact absurd h e
theorem Vv{s:PD}{n:Nat} (h:(Bz s n).2.2=0):(Bz s n).2.1.length=n:=by
 unfold Bz at h⊢
 split
 ·rename_i e
  have:=Lq (s:=s) e
  simpa using this
 ·rename_i e
  rw [if_neg e] at h
  exact absurd h e
theorem Qa{n i:Nat} (h:i<AP n):i*254≤n:=by unfold AP at h;omega
def SS(a0 a1 a2:Nat):AY:=⟨64,[(.tmp 4),(.tmp 5)],(sR (o1 4 (.mv (kZ 0))<|o1 5 (.mv (kZ 0)) .done) (.seq (sR (om 12 1<|oL 13 12<|ob 14 .gtr (tP 13) (kZ 16384) .done) (.cond (tP 14) (sR (o1 4 (.mv (kZ 0))<|o1 5 (.mv (kZ 3)) .done) .ret) .skip)) (sR (om 16 0<|om 17 1<|oL 18 17<|oc 19 a0 [(tP 18)]<|oc 20 a1 [(tP 16),(tP 19)]<|om 15 20<|oe 21 15 0<|oe 22 15 1<|om 6 21<|om 7 22 .done) (.seq (sR (om 23 7<|ob 24 .neq (tP 23) (kZ 0) .done) (.cond (tP 24) (sR (om 25 7<|o1 4 (.mv (kZ 0))<|om 5 25 .done) .ret) .skip)) (.seq (sR (om 26 6<|oL 27 26<|o1 28 (.mv (kZ 0)) .done) (.block 0 (.loop (sR (ob 29 .lss (tP 28) (tP 27) .done) (.seq (.cond (tP 29) .skip (.exit 0)) (.seq (.block 1 (sR (om 30 28<|oI 31 1 26 28<|ol 32 31<|om 8 30<|om 9 32 .done) (sR (o1 10 (.mv (kZ 65535)) .done) (.seq (sR (om 33 8<|ob 34 .add (tP 33) (kZ 1)<|om 35 6<|oL 36 35<|ob 37 .lss (tP 34) (tP 36) .done) (.cond (tP 37) (rG (om 38 6<|om 39 8<|ob 40 .add (tP 39) (kZ 1)<|oI 41 1 38 40<|ol 42 41<|om 10 42 .done)) .skip)) (sR (o1 11 (.alo (.agg CP.toArray)) .done) (sR (om 43 10<|ob 44 .shr (tP 43) (.const (.int .u64 8))<|o1 45 (.cvi .u8 (tP 44))<|om 46 10<|o1 47 (.cvi .u8 (tP 46))<|o1 48 (.idxa 256 1 (tP 11) (kZ 0))<|o0 (.st 1 (tP 48) (tP 45))<|o1 49 (.idxa 256 1 (tP 11) (kZ 1))<|o0 (.st 1 (tP 49) (tP 47)) .done) (.seq (.reg true (p1 50 (.sla 256 1 (tP 11) (some (kZ 2)) none none)<|pm 51 1<|pm 52 8<|p1 53 (.bin .mul (tP 52) (kZ 254))<|p1 54 (.sl 1 (tP 51) (some (tP 53)) none none)<|o1 55 (.mop (.cpy 1 (tP 50) (tP 54))) .done)) (rG (om 56 0<|om 57 9<|o1 58 (.sla 256 1 (tP 11) none none none)<|oc 59 a2 [(tP 56),(tP 57),(tP 58)] .done))))))))) (rG (ob 60 .add (tP 28) (kZ 1)<|om 28 60 .done)))))))) (sR (om 61 6<|o1 62 (.idx 1 (tP 61) (kZ 0))<|ol 63 62<|om 4 63<|o1 5 (.mv (kZ 0)) .done) .ret))))))⟩
end
section
section
variable {P:Program}{pan:List PanicEntry→AR}{Qn:Env→AR}{Ls L:List Ac}{ρ:Env}{d:Ac}{s:GS}{t:Nat}{tk:Bool}
theorem or8{a b:Nat} (ha:a<256) (hb:b<256):IntKind.i64.wrap ((BitVec.ofInt 64 ((a*256:Nat):Int)|||BitVec.ofInt 64 (b:Int)).toNat:Int)=((a*256+b:Nat):Int):=by
 have h:(BitVec.ofInt 64 ((a*256:Nat):Int)|||BitVec.ofInt 64 (b:Int)).toNat=a*256+b:=by
  rw [BitVec.toNat_or,BitVec.toNat_ofInt,BitVec.toNat_ofInt]
  have e1:(((a*256:Nat):Int) % ((2 ^ 64:Nat):Int)).toNat=2 ^ 8*a:=by omega
  have e2:((b:Int) % ((2 ^ 64:Nat):Int)).toNat=b:=by omega
  rw [e1,e2,←Nat.two_pow_add_eq_or_of_lt (by omega)]
  omega
 rw [h,DD (by omega) (by omega)]
theorem Qu{x y:Operand}{a b:Nat} (ex:ev ρ x=.int .i64 ((a*256:Nat):Int)) (ey:ev ρ y=.int .i64 (b:Int)) (ha:a<256) (hb:b<256) (h:gws P pan Qn s Ls (upd ρ t (.int .i64 ((a*256+b:Nat):Int))) d L):
  gws P pan Qn (.op tk ⟨some t,none,.bin .or x y⟩ s) Ls ρ d L:=by
 refine w_q rfl (show CV .or (ev ρ x) (ev ρ y)=some (.int .i64 ((a*256+b:Nat):Int)) from ?_) h
 rw [ex,ey]
 exact congrArg (fun z=>some (Value.int .i64 z)) (or8 ha hb)
end
attribute [local irreducible] gwp gws xwp
def Gm(b:Sec):Nat:=(b.getD 0 0).toNat*256+(b.getD 1 0).toNat
def hdF(s:PD) (h:Int):Nat→Int
 |0=>h
 |i+1=>(Gm (s.bytes (hdF s h i)):Nat)
def Bk(s:PD) (k:Int):Prop:=s.kind k=1∨s.kind k=2
instance (s:PD) (k:Int):Decidable (Bk s k):=inferInstanceAs (Decidable (_∨_))
theorem Rj{s:PD}{k:Int} (h:Bk s k):s.HU k=0:=by
 unfold PD.HU
 by_cases h1:s.kind k=1
 ·rw [if_pos h1]
 ·rw [if_neg h1,if_pos (h.resolve_left h1)]
theorem Sy{s:PD}{k:Int} (h:¬Bk s k):s.HU k=240∧s.bytes k=[]:=by
 unfold Bk at h
 have h1:s.kind k≠1:=fun q=>h (.inl q)
 have h2:s.kind k≠2:=fun q=>h (.inr q)
 exact⟨by unfold PD.HU;rw [if_neg h1,if_neg h2],Uu h1 h2⟩
theorem _root_.Go.Gk.Pgr.Fl.atT{P:Program}{f:FuncId} (h:Fl P f) {d:Ac}{s:PD}{dv pv:Value}{L:List Ac}{k:Int} (hp:Pg d s dv pv L):
  Aw P f [pv,.int .i64 k] d L (Ret fun r d' L'=>∃a c tc,r=.tuple #[.slice a (s.bytes k).length c,.int .i64 (s.HU k)]∧AK d' (.slice a (s.bytes k).length c) (s.bytes k)∧Pg d' {s with tc:=tc} dv pv L'∧tc=if Bk s k then s.tc+1 else s.tc):=by
 refine Aw.D1 (h (k:=k) hp) (fun r d' L' _ ⟨⟨q,q1,q2⟩,q3⟩=>⟨d',L',Vs.refl _ _,?_⟩)
 subst q1
 unfold PD.bytes PD.HU Bk
 unfold PD.get at q2 q3⊢
 by_cases h1:s.kind k=1
 ·simp only [if_pos h1] at q2 q3⊢
  obtain⟨a,c,rfl⟩:=RSl.val q2
  exact⟨a,c,_,rfl,q2,q3,(if_pos (.inl h1)).symm⟩
 ·by_cases h2:s.kind k=2
  ·simp only [if_neg h1,if_pos h2] at q2 q3⊢
   obtain⟨a,c,rfl⟩:=RSl.val q2
   exact⟨a,c,_,rfl,q2,q3,(if_pos (.inr h2)).symm⟩
  ·simp only [if_neg h1,if_neg h2] at q2 q3⊢
   obtain rfl:q=.slice none 0 0:=q2
   exact⟨none,0,s.tc,rfl,RSl.nil,q3,(if_neg (fun q=>q.elim h1 h2)).symm⟩
theorem S2(x:Ac) (A R:List Ac):(A++(x::R)).Perm (R++(x::A)):=List.perm_append_comm.trans List.perm_middle.symm
theorem RX(d x:Ac) (A R:List Ac):Vs d (R++(x::A)) d (A++R):=(Vs.perm (List.perm_middle.trans (Aco x Ack))).trans (Vs.drop (Acz _ _))
theorem SJ(x:Ac) (A R:List Ac):(R++(x::A)).Perm (x::(A++R)):=List.perm_middle.trans (Aco x Ack)
def Fg(a0 a1:Nat):Gz:=(.mk 39 [] (.seq (.g (rG (ol 7 1<|oc 8 a0 [(tP 7)]<|o1 9 (.mv (kZ 0)) .done))) (.block 0 (.loop (.seq (.g (rG (ob 10 .lss (tP 9) (tP 8) .done))) (.seq (.g (.cond (tP 10) .skip (.exit 0))) (.seq (.block 1 (.seq (.g (rG (ol 12 2<|ol 13 3<|oc 14 a1 [(tP 12),(tP 13)]<|om 11 14<|oe 15 11 0<|oe 16 11 1<|om 5 15<|om 6 16 .done))) (.seq (.seq (.g (rG (om 17 6<|ob 18 .neq (tP 17) (kZ 0) .done))) (.cond (tP 18) (.seq (.yl (om 19 0<|om 20 6<|o1 21 (.un .neg (tP 20)) .done) (some 22) (tP 19) [(tP 21),nS] .done) (.g .ret)) (.g .skip))) (.seq (.seq (.yl (om 23 0<|ol 24 3<|om 25 5 .done) (some 26) (tP 23) [(tP 24),(tP 25)] (o1 27 (.un .not (tP 26)) .done)) (.g (.cond (tP 27) .ret .skip))) (.g (.reg true (pm 28 5<|p1 29 (.idx 1 (tP 28) (kZ 0))<|pl 30 29<|p1 31 (.cvi .i64 (tP 30))<|p1 32 (.bin .shl (tP 31) (.const (.int .u64 8)))<|pm 33 5<|p1 34 (.idx 1 (tP 33) (kZ 1))<|pl 35 34<|p1 36 (.cvi .i64 (tP 35))<|p1 37 (.bin .or (tP 32) (tP 36)) (.bar (o0 (.st 1 (tP 3) (tP 37)) .done))))))))) (.g (rG (ob 38 .add (tP 9) (kZ 1)<|om 9 38 .done))))))))))
set_option maxRecDepth 4000 in
set_option maxHeartbeats 1000000 in
theorem WD{P:Program}{f f1 f2:FuncId} (hd:Fb true false P f=some (Fg f1 f2)) (h1:FD P f1) (h2:Fl P f2) {s:PD}{dv pv:Value}{LP:List Ac}{bz bq bh l n:Nat}{Th:TypeId}{h:Int}{rc:Loop} (J:Nat→Ac→List Ac→Prop) (Jf:Loop→Ac→List Ac→Prop) {d:Ac}{E:List Ac}
  (hp:Pg d s dv pv LP) (hz:DC d bz 0 (.int .i64 n)) (hq:DC d bq 0 pv) (hn:n≤16384) (h0:J 0 d E) (hJm:∀{i:Nat}{d d':Ac}{E:List Ac},Le d d'→J i d E→J i d' E)
  (hlive:∀i,i<AP n→∀d1 E1 v,Le d d1→J i d1 E1→Bk s (hdF s h i)→AK d1 v (s.bytes (hdF s h i))→I4 P l [.int .i64 (hdF s h i),v] d1 (sg l (.loop rc)::E1)
   (fun u d' L'=>(u=.bool true∧∃E',L'=sg l (.loop rc)::E'∧J (i+1) d' E')∨(u=.bool false∧∃rc' E',L'=sg l (.loop rc')::E'∧Jf rc' d' E')))
  (hdead:∀i,i<AP n→∀d1 E1,Le d d1→J i d1 E1→¬Bk s (hdF s h i)→I4 P l [.int .i64 (-240),.slice none 0 0] d1 (sg l (.loop rc)::E1)
   (fun u d' L'=>u=.bool false∧∃rc' E',L'=sg l (.loop rc')::E'∧Jf rc' d' E')):
  Aw P f [.func (.yield l) #[] #[],.pointer (some ⟨bz,0,none⟩),.pointer (some ⟨bq,0,none⟩),.pointer (some ⟨bh,0,none⟩)] d (bx bh Th [.int .i64 h]::(LP++(sg l (.loop rc)::E)))
   (Ret fun _ d' L'=>∃LP' E' rc' tc,L'=LP'++(sg l (.loop rc')::E')∧Pg d' {s with tc:=tc} dv pv LP'∧((rc'=rc∧tc=s.tc+AP n∧J (AP n) d' E')∨Jf rc' d' E')):=by
 obtain⟨bp,rfl⟩:=hp.ptr
 have hpn:AP n≤8192:=by unfold AP;omega
 refine Eu hd (Aca rfl) ?_
 show xwp P _ _ _ _ _
 (apply BI;apply x_g;apply AA;apply Ag;rfl;exact BF (by assumption))
 refine Dx (A:=[]) (B:=bx bh Th [.int .i64 h]::(LP++(sg l (.loop rc)::E))) rfl rfl (h1 (n:=n) (by omega)) (fun u d1 L1 _ ⟨e1,e2,e3⟩=>?_)
 subst e1;subst e2;subst e3
 rw [Adr]
 (refine Ab rfl<|Aa ?_;apply Gc)
 refine O4 (α:=Nat) (fun i=>[(0,.func (.yield l) #[] #[]),(2,.pointer (some ⟨bq,0,none⟩)),(3,.pointer (some ⟨bh,0,none⟩)),(8,.int .i64 (AP n)),(9,.int .i64 i)])
  (fun i d' L'=>Le d1 d'∧i≤AP n∧∃LP' E' tc,L'=bx bh Th [.int .i64 (hdF s h i)]::(LP'++(sg l (.loop rc)::E'))∧Pg d' {s with tc:=tc} dv (.pointer (some ⟨bp,0,none⟩)) LP'∧tc=s.tc+i∧J i d' E')
  (fun i=>AP n - i) 0 ⟨rfl,rfl,rfl,rfl,rfl,trivial⟩ ⟨Le.refl _,Adg _,LP,E,s.tc,rfl,hp,rfl,h0⟩ ?_
 rintro i ρ d' L' ⟨hle,hi,LP',E',tc,rfl,hp',htc,hJ⟩
 have hq':=hq.mono hle
 by_cases e:i<AP n
 ·(apply BI;apply x_g;apply AA;apply AE;rfl;rfl;apply Aa;apply BI;apply x_g;refine Ax rfl (by omega) ?_;apply Ak;apply BI;apply Gc;apply BI;apply x_g;apply AA;apply Ag;rfl;exact BF (by assumption);apply Ag;rfl;exact Aj 0 rfl rfl)
  refine C4 (h2.atT (k:=hdF s h i) hp') (Ady [_] LP' _) rfl (fun u d7 L7 hl7 ⟨qa,qc,tc',q1,q2,q3,q4⟩=>?_)
  rw [RC,Zy] at q1
  rw [RC] at q2
  subst q1
  refine⟨d7,(sg l (.loop rc)::E')++(bx bh Th [.int .i64 (hdF s h i)]::L7),Vs.perm (S2 _ _ _),?_⟩
  by_cases hlv:Bk s (hdF s h i)
  ·rw [Rj hlv]
   (refine AU rfl<|Ao rfl rfl<|Ao rfl rfl<|Am rfl<|Ab rfl<|Aa ?_;apply BI;apply BI;apply x_g;refine AA<|Ab rfl<|AQ rfl rfl<|Aa ?_;apply YD;rfl;apply x_g;apply Ak;apply BI;apply BI;apply XT;apply FB;rfl)
   refine Ag (v:=.int .i64 (hdF s h i)) rfl (Aj (T:=Th) (l:=[.int .i64 (hdF s h i)]) (E'.length+1) (by simp [lk]) rfl) ?_
   (refine Am rfl<|Aa ?_)
   refine Pt _ _ rfl rfl rfl (hlive i e d7 E' _ (hle.trans hl7) (hJm hl7 hJ) hlv q2) (fun u d8 L8 hl8 hr8=>?_)
   rcases hr8 with ⟨rfl,E8,rfl,hJ8⟩|⟨rfl,rc8,E8,rfl,hJ8⟩
   ·refine Cd d8 (bx bh Th [.int .i64 (hdF s h i)]::(L7++(sg l (.loop rc)::E8))) (Vs.perm (SJ _ _ _)) ?_
    have hfl:(s.bytes (hdF s h i)).length=256:=hp.full hlv
    have q8:AK d8 (.slice qa (s.bytes (hdF s h i)).length qc) (s.bytes (hdF s h i)):=RSl.mono (R:=AM) AW q2 hl8
    have g0:(s.bytes (hdF s h i)).getD 0 0=(s.bytes (hdF s h i))[0]:=by rw [Acf,Ace (by omega)];rfl
    have g1:(s.bytes (hdF s h i)).getD 1 0=(s.bytes (hdF s h i))[1]:=by rw [Acf,Ace (by omega)];rfl
    have l0:=UInt8.toNat_lt (s.bytes (hdF s h i))[0]
    have l1:=UInt8.toNat_lt (s.bytes (hdF s h i))[1]
    have hnx:hdF s h (i+1)=(((s.bytes (hdF s h i))[0].toNat*256+(s.bytes (hdF s h i))[1].toNat:Nat):Int):=by rw [hdF,Gm,g0,g1]
    (refine Bu rfl<|Aa ?_;apply x_g;refine AS rfl<|Ak ?_;apply x_g;refine Bs<|Am rfl<|BL (m:=0) (sz:=1) (R:=AM) (by rfl) (by assumption) (by rfl) rfl (by omega) ?_;rintro _ _ _ _ _ rfl;refine Ag rfl (B7 (by assumption) rfl)<|DZ rfl (by omega) (by omega) ?_)
    refine Rh (a:=(s.bytes (hdF s h i))[0].toNat) rfl rfl (by omega) ?_
    (refine Am rfl<|BL (m:=1) (sz:=1) (R:=AM) (by rfl) (by assumption) (by rfl) rfl (by omega) ?_;rintro _ _ _ _ _ rfl;refine Ag rfl (B7 (by assumption) rfl)<|DZ rfl (by omega) (by omega) ?_)
    refine Qu (a:=(s.bytes (hdF s h i))[0].toNat) (b:=(s.bytes (hdF s h i))[1].toNat) rfl rfl l0 l1 ?_
    (apply B5)
    refine AZ 0 [.int .i64 (((s.bytes (hdF s h i))[0].toNat*256+(s.bytes (hdF s h i))[1].toNat:Nat):Int)] rfl rfl rfl rfl (Ach _) rfl rfl ?_
    (apply Aa;apply x_g;refine AA<|AO rfl rfl (by omega) (by omega)<|Ab rfl<|Aa ?_)
    exact⟨i+1,by omega,⟨rfl,rfl,rfl,rfl,rfl,trivial⟩,(hle.trans hl7).trans hl8,e,L7,E8,tc',by rw [hnx];exact congrArg (List.cons _) (Ads _),q3.mono hl8,by have q4':tc'=tc+1:=q4.trans (if_pos hlv);omega,hJ8⟩
   ·(refine Bu rfl<|Aa ?_;apply x_g;refine Bh rfl<|An ?_)
    exact Ba [] trivial (d':=d8) (L':=L7++(sg l (.loop rc8)::E8)) (RX _ _ _ _) ⟨L7,E8,rc8,_,rfl,q3.mono hl8,.inr hJ8⟩
  ·obtain⟨x1,x2⟩:=Sy hlv
   rw [x1]
   (refine AU rfl<|Ao rfl rfl<|Ao rfl rfl<|Am rfl<|Ab rfl<|Aa ?_;apply BI;apply BI;apply x_g;refine AA<|Ab rfl<|AQ rfl rfl<|Aa ?_;apply Aby;rfl;apply BI;apply XT;refine FB rfl<|Ab rfl<|YU rfl (by omega) (by omega)<|Aa ?_)
   refine Pt _ _ rfl rfl rfl (hdead i e d7 E' (hle.trans hl7) (hJm hl7 hJ) hlv) (fun u d8 L8 hl8 hr8=>?_)
   obtain⟨rfl,rc8,E8,rfl,hJ8⟩:=hr8
   (apply Aa;apply x_g;apply An)
   exact Ba [] trivial (d':=d8) (L':=L7++(sg l (.loop rc8)::E8)) (RX _ _ _ _) ⟨L7,E8,rc8,_,rfl,q3.mono hl8,.inr hJ8⟩
 ·have:i=AP n:=by omega
  subst this
  (apply BI;apply x_g;apply AA;apply AE;rfl;rfl;apply Aa;apply BI;apply x_g;refine Ar rfl (by omega) ?_;apply Bj)
  exact EF [] trivial (Acz _ _) ⟨LP',E',rc,tc,rfl,hp',.inl ⟨rfl,htc,hJ⟩⟩
def Hb(a0:Nat):Gz:=(.mk 8 [(.tmp 6)] (.g (sR (o1 3 (.box (tP 0))<|o1 4 (.box (tP 1))<|o1 5 (.box (tP 2))<|o1 6 (.mv (.const .nilFunc)) .done) (sR (o1 7 (.mkf (.func a0) [] [(tP 5),(tP 3),(tP 4)])<|om 6 7 .done) .ret))))
theorem XD{P:Program}{f f1:FuncId} (hd:Fb true false P f=some (Hb f1)) {d:Ac}{b:Nat}{h n:Int}:Aw P f [.pointer (some ⟨b,0,none⟩),.int .i64 h,.int .i64 n] d [] (Ret fun r d' L'=>∃bz bq bh Th,r=.func (.func f1) #[] #[.pointer (some ⟨bz,0,none⟩),.pointer (some ⟨bq,0,none⟩),.pointer (some ⟨bh,0,none⟩)]∧
  DC d' bz 0 (.int .i64 n)∧DC d' bq 0 (.pointer (some ⟨b,0,none⟩))∧L'=[bx bh Th [.int .i64 h]]):=by
 refine Eu hd (Aca rfl) ?_
 show xwp P _ _ _ _ _
 (apply x_g;apply Ah;apply AA)
 refine Fc rfl (fun bq Tq=>?_)
 refine Fc rfl (fun bh Th=>?_)
 refine Fc rfl (fun bz Tz=>?_)
 (refine AL<|Aa<|Ad<|N4<|FB rfl<|Aa<|An ?_)
 exact Ba [.func (.func f1) #[] #[.pointer (some ⟨bz,0,none⟩),.pointer (some ⟨bq,0,none⟩),.pointer (some ⟨bh,0,none⟩)]] ⟨rfl,trivial⟩ (d':=join (join d (bx bz Tz [.int .i64 n])) (bx bq Tq [.pointer (some ⟨b,0,none⟩)])) (L':=[bx bh Th [.int .i64 h]])
  ((Vs.perm (Aco _ (Adc _ _ _))).trans (Vs.freeze.trans Vs.freeze)) ⟨bz,bq,bh,Th,rfl,(Le.dcs ((Le.A6 _ _).trans (Le.AH _ _))).at (i:=0) rfl,(Le.dcs (Le.A6 _ _)).at (i:=0) rfl,rfl⟩
end
end Go.Gk.Chn
end
section
namespace Go.Gk.Chn
open Go Go.Gk Go.Gk.Dev Go.Gk.Cch Go.Gk.Pgr Go.Gk.Node
attribute [local irreducible] gwp gws xwp
def Dl(s:PD) (size n:Nat) (k:Int) (l:List Int) (out:List UInt8):Nat→List Int×List UInt8×Int
 |0=>(l,out,0)
 |m+1=>
  if Bk s k then
   if (Gm (s.bytes k)=65535)=(l.length+1=n) then
    if ((s.bytes k).drop (2+min 254 (size - out.length))).all (·==0) then
     Dl s size n (Gm (s.bytes k):Nat) (l++[k]) (out++((s.bytes k).drop 2).take (min 254 (size - out.length))) m
    else([],[],200)
   else([],[],200)
  else([],[],240)
def BH(s:PD) (k:Int) (size:Int):List Int×List UInt8×Int:=if 0≤size∧size≤16384 then Dl s size.toNat (AP size.toNat) k [] [] (AP size.toNat) else([],[],2)
def RJ(s:PD) (n:Nat) (k:Int) (b5 b6 b7 b8 b9 b10:Nat) (T5 T6 T7 T8 T9 T10:TypeId) (i:Nat) (d:Ac) (E:List Ac):Prop:=∃l out la lc oa oc hl ho,
 E=[bx b10 T10 [.slice oa (List.length (α:=UInt8) out) oc],bx b9 T9 [.slice la (List.length (α:=Int) l) lc],bx b8 T8 [.int .i64 0],bx b7 T7 [.slice none 0 0],bx b6 T6 [.slice none 0 0],bx b5 T5 [.int .i64 n],ho,hl]∧
 Aq 1 Bg d (.slice la l.length lc) l hl∧Aq 1 AM d (.slice oa out.length oc) out ho∧l.length=i∧out.length≤n∧Dl s n (AP n) k [] [] (AP n)=Dl s n (AP n) (hdF s k i) l out (AP n - i)
def RF(rc:Loop) (s:PD) (n:Nat) (k:Int) (b6 b7 b8:Nat) (T6 T7 T8:TypeId) (rc':Loop) (_:Ac) (E:List Ac):Prop:=
 rc'={rc with state:=.done,pending:=some .ret}∧∃e x y R,Dl s n (AP n) k [] [] (AP n)=([],[],e)∧e≠0∧E=x::y::bx b8 T8 [.int .i64 e]::bx b7 T7 [.slice none 0 0]::bx b6 T6 [.slice none 0 0]::R
def Lu(P:Program) (f:FuncId):Prop:=∀{d:Ac}{s:PD}{dv pv:Value}{L:List Ac}{k size:Int},Pg d s dv pv L→
 Aw P f [pv,.int .i64 k,.int .i64 size] d L (Ret fun r d' L'=>Le d d'∧∃v w tc,r=.tuple #[v,w,.int .i64 (BH s k size).2.2]∧Dt d' v (BH s k size).1∧AK d' w (BH s k size).2.1∧Pg d' {s with tc:=tc} dv pv L'∧((BH s k size).2.2=0→tc=s.tc+AP size.toNat))
theorem WV{a m N:Nat} (h:(a=65535)=(m=N)):(true ^^(decide ((a:Int)=65535)==decide ((m:Int)=(N:Int))))=false:=by
 rw [show decide ((a:Int)=65535)=decide (a=65535) from decide_eq_decide.2 (by omega),show decide ((m:Int)=(N:Int))=decide (m=N) from decide_eq_decide.2 (by omega),show decide (a=65535)=decide (m=N) from decide_eq_decide.2 (by rw [h])]
 simp
theorem Vx{a m N:Nat} (h:¬((a=65535)=(m=N))):(true ^^(decide ((a:Int)=65535)==decide ((m:Int)=(N:Int))))=true:=by
 rw [show decide ((a:Int)=65535)=decide (a=65535) from decide_eq_decide.2 (by omega),show decide ((m:Int)=(N:Int))=decide (m=N) from decide_eq_decide.2 (by omega)]
 have:decide (a=65535)≠decide (m=N):=fun e=>h (propext (decide_eq_decide.1 e))
 simp [this]
theorem Wc(g h:Ac) (E L:List Ac):(g::([h]++(E++L))).Perm (h::(L++(g::E))):=
 (Adc h g (E++L)).trans (Aco h ((Aco g Ack).trans List.perm_middle.symm))
theorem ZE(d a b c x y z o h:Ac) (L:List Ac):Vs d (a::b::c::x::y::z::o::h::L) (join (join d o) h) L:=
 (Vs.drop (.cons _ (.cons _ (.cons _ (.cons _ (.cons _ (.cons _ (Acb _)))))))).trans (Vs.freeze.trans Vs.freeze)
def Nt(P:Program) (f:FuncId):Prop:=∃f1 f2 f3,Fb true false P f=some (Hb f1)∧Fb true false P f1=some (Fg f2 f3)∧FD P f2∧Fl P f3
def Xe(P:Program) (f:FuncId):Prop:=∃f2 f3,Fb true false P f=some (Fg f2 f3)∧FD P f2∧Fl P f3
theorem Abe{P:Program}{f f2 f3:FuncId} (hd:Fb true false P f=some (Fg f2 f3)) (h1:FD P f2) (h2:Fl P f3):Xe P f:=⟨f2,f3,hd,h1,h2⟩
theorem Wk{P:Program}{f f1:FuncId} (hd:Fb true false P f=some (Hb f1)) (h:Xe P f1):Nt P f:=let ⟨f2,f3,h1,h2,h3⟩:=h;⟨f1,f2,f3,hd,h1,h2,h3⟩
def QP(a0 a1:Nat):Gz:=(.mk 80 [(.cell 6 none),(.cell 7 none),(.cell 8 none)] (.seq (.g (rG (o1 5 (.box (tP 2))<|o1 6 (.alo (.slice none 0 0))<|o1 7 (.alo (.slice none 0 0))<|o1 8 (.alo (.int .i64 0)) .done))) (.seq (.g (sR (ol 17 5<|ob 18 .lss (tP 17) (kZ 0)<|om 19 18<|oF 20 19 (.ld none (tP 5))<|oF 21 19 (.bin .gtr (tP 20) (kZ 16384))<|o1 22 (.pick (tP 19) (.const (.bool true)) (tP 21)) .done) (.cond (tP 22) (sR (o0 (.st 1 (tP 6) nS)<|o0 (.st 1 (tP 7) nS)<|o0 (.st 1 (tP 8) (kZ 2)) .done) .ret) .skip))) (.seq (.g (rG (o1 9 (.alo (.slice none 0 0)) .done))) (.seq (.g (rG (o1 10 (.alo (.slice none 0 0)) .done))) (.seq (.seq (.g (rG (om 23 0<|om 24 1<|ol 25 5<|oc 26 a0 [(tP 23),(tP 24),(tP 25)] .done))) (.block 0 (.rf (tP 26) [27,28] (sR (om 11 27 .done) (rG (om 12 28 .done))) (.block 1 (.seq (sR (om 29 12<|o1 30 (.eqs false (tP 29) nS) .done) (.cond (tP 30) (sR (om 31 11<|o1 32 (.un .neg (tP 31))<|o0 (.st 1 (tP 6) nS)<|o0 (.st 1 (tP 7) nS)<|o0 (.st 1 (tP 8) (tP 32)) .done) .ret) .skip)) (sR (ol 33 9<|om 34 11<|o1 35 (.bsl 1 1 [(.int .i64 0)] [(0,(tP 34))])<|o1 36 (.app 1 8 [(.int .i64 0)] (tP 33) (tP 35))<|o0 (.st 1 (tP 9) (tP 36)) .done) (.seq (.reg true (pm 37 12<|p1 38 (.idx 1 (tP 37) (kZ 0))<|pl 39 38<|p1 40 (.cvi .i64 (tP 39))<|p1 41 (.bin .shl (tP 40) (.const (.int .u64 8)))<|pm 42 12<|p1 43 (.idx 1 (tP 42) (kZ 1))<|pl 44 43<|p1 45 (.cvi .i64 (tP 44))<|p1 46 (.bin .or (tP 41) (tP 45)) (.bar (pm 13 46 .done)))) (.seq (.seq (.reg true (pm 47 13<|p1 48 (.bin .eql (tP 47) (kZ 65535))<|pl 49 9<|p1 50 (.len (tP 49))<|pl 51 5<|oc 52 a1 [(tP 51)]<|p1 53 (.bin .eql (tP 50) (tP 52))<|p1 54 (.eqb true (tP 48) (tP 53)) .done)) (.cond (tP 54) (sR (o0 (.st 1 (tP 6) nS)<|o0 (.st 1 (tP 7) nS)<|o0 (.st 1 (tP 8) (kZ 200)) .done) .ret) .skip)) (sR (ol 55 5<|ol 56 10<|oL 57 56<|ob 58 .sub (tP 55) (tP 57)<|o1 59 (.mn2 (kZ 254) (tP 58))<|om 14 59 .done) (.seq (sR (om 60 12<|om 61 14<|ob 62 .add (kZ 2) (tP 61)<|o1 63 (.sl 1 (tP 60) (some (tP 62)) none none)<|oL 64 63<|o1 65 (.mv (kZ 0)) .done) (.block 2 (.loop (sR (ob 66 .lss (tP 65) (tP 64) .done) (.seq (.cond (tP 66) .skip (.exit 2)) (.seq (.block 3 (sR (oI 67 1 63 65<|ol 68 67<|om 16 68 .done) (sR (om 69 16<|ob 70 .neq (tP 69) (.const (.int .u8 0)) .done) (.cond (tP 70) (sR (o0 (.st 1 (tP 6) nS)<|o0 (.st 1 (tP 7) nS)<|o0 (.st 1 (tP 8) (kZ 200)) .done) .ret) .skip)))) (rG (ob 71 .add (tP 65) (kZ 1)<|om 65 71 .done)))))))) (.reg true (pm 73 12<|pm 74 14<|p1 75 (.bin .add (kZ 2) (tP 74))<|p1 76 (.sl 1 (tP 73) (some (kZ 2)) (some (tP 75)) none)<|ol 72 10<|o1 77 (.app 1 1 [(.int .u8 0)] (tP 72) (tP 76)) (.bar (o0 (.st 1 (tP 10) (tP 77)) .done)))))))))))))) (.g (.seq (.reg true (pl 78 9<|pl 79 10<|o0 (.st 1 (tP 6) (tP 78))<|o0 (.st 1 (tP 7) (tP 79))<|o0 (.st 1 (tP 8) (kZ 0)) .done)) .ret))))))))
set_option maxRecDepth 4000 in
set_option maxHeartbeats 2000000 in
theorem Xr{P:Program}{f f1 f2:FuncId} (hd:Fb false false P f=some (QP f1 f2)) (h1:Nt P f1) (h2:FD P f2):Lu P f:=by
 obtain⟨f3,f4,f5,g1,g2,g3,g4⟩:=h1
 intro d s dv pv L k size hp
 obtain⟨bp,rfl⟩:=hp.ptr
 refine Eu hd (Aca rfl) ?_
 show xwp P _ _ _ _ _
 (apply BI;apply x_g;apply AA)
 refine Fc rfl (fun b5 T5=>?_)
 refine DI (fun b6 T6=>?_)
 refine DI (fun b7 T7=>?_)
 refine DI (fun b8 T8=>?_)
 refine FF ⟨d,bx b8 T8 [.int .i64 0]::bx b7 T7 [.slice none 0 0]::bx b6 T6 [.slice none 0 0]::bx b5 T5 [.int .i64 size]::L,Vs.refl _ _,?_⟩
 by_cases hsz:0≤size∧size≤16384
 ·obtain⟨n,rfl⟩:∃n:Nat,size=n:=⟨size.toNat,by omega⟩
  have hn:n≤16384:=by omega
  have hF:BH s k n=Dl s n (AP n) k [] [] (AP n):=by unfold BH;rw [if_pos hsz];rfl
  rw [hF]
  (apply BI;apply x_g;apply Ah;apply AA;apply Ag;rfl;exact Aj 3 rfl rfl;apply AE;rfl;rfl;apply Ae;rfl;refine Bc rfl (by omega) ?_;apply Af;rfl;apply Ag;rfl;exact Aj 3 rfl rfl;apply Af;rfl;apply BQ;rfl;rfl;apply As;rfl;rfl;apply Aa;refine Ar rfl (by omega) ?_;apply Ak;apply BI;apply x_g;apply AA;apply DI;intro _ _;apply Aa;apply BI;apply x_g;apply AA;apply DI;intro _ _;apply Aa;apply BI;apply BI;apply x_g;apply AA;apply Al;rfl;apply Ab;rfl;apply Ag;rfl;exact Aj 5 rfl rfl)
  rename_i b9 T9 b10 T10
  refine Cd d (bx b10 T10 [.slice none 0 0]::bx b9 T9 [.slice none 0 0]::bx b8 T8 [.int .i64 0]::bx b7 T7 [.slice none 0 0]::bx b6 T6 [.slice none 0 0]::bx b5 T5 [.int .i64 n]::emp::emp::L)
   ((Vs.emp.trans Vs.emp).trans (Vs.perm (Ady [emp,emp] [_,_,_,_,_,_] L))) ?_
  refine Dx (A:=[]) (B:=bx b10 T10 [.slice none 0 0]::bx b9 T9 [.slice none 0 0]::bx b8 T8 [.int .i64 0]::bx b7 T7 [.slice none 0 0]::bx b6 T6 [.slice none 0 0]::bx b5 T5 [.int .i64 n]::emp::emp::L) rfl rfl (XD g1 (h:=k) (n:=n)) (fun u d1 L1 hl1 ⟨bz,bq,bh,Th,e1,hz,hq,e2⟩=>?_)
  subst e1;subst e2
  (apply Aa;apply Gc)
  refine Aal rfl (fun l rc hrec hst hpd=>?_)
  refine Aw.reorder (L1:=bx bh Th [.int .i64 k]::(L++(sg l (.loop rc)::[bx b10 T10 [.slice none 0 0],bx b9 T9 [.slice none 0 0],bx b8 T8 [.int .i64 0],bx b7 T7 [.slice none 0 0],bx b6 T6 [.slice none 0 0],bx b5 T5 [.int .i64 n],emp,emp]))) ?_ (Aw.D1
   (WD g2 g3 g4 (rc:=rc) (l:=l) (RJ s n k b5 b6 b7 b8 b9 b10 T5 T6 T7 T8 T9 T10) (RF rc s n k b6 b7 b8 T6 T7 T8) (hp.mono hl1) hz hq hn ?_ ?_ ?_ ?_) ?_)
  ·exact Wc _ _ [_,_,_,_,_,_,_,_] L
  ·exact⟨[],[],none,0,none,0,emp,emp,rfl,Aq.nil,Aq.nil,rfl,Adg _,rfl⟩
  ·rintro i d2 d3 E hle ⟨l1,o1,la,lc,oa,oc,hl,ho,q1,q2,q3,q4,q5,q6⟩
   exact⟨l1,o1,la,lc,oa,oc,hl,ho,q1,Aq.mono (R:=Bg) B8 q2 hle,Aq.mono (R:=AM) AW q3 hle,q4,q5,q6⟩
  ·rintro i hi d2 E2 v hle ⟨l1,o1,la,lc,oa,oc,hl,ho,rfl,q2,q3,q4,q5,q6⟩ hlv hv
   refine K1 hrec hst rfl ?_
   have hfl:(s.bytes (hdF s k i)).length=256:=hp.full hlv
   have hv0:=hv
   obtain⟨va,vc,vb,vo,rfl,w2, -, -, -, -, -,w8⟩:=hv
   obtain rfl:va=some ⟨vb,vo,none⟩:=w2 (by omega)
   have dd0:DCs d2 vb (vo+0*1) [Ay (s.bytes (hdF s k i))[0]]:=by
    obtain⟨cs,c1,c2,c3⟩:=w8 0 (by omega)
    rw [show cs=[Ay (s.bytes (hdF s k i))[0]] from c3] at c2;exact c2
   have dd1:DCs d2 vb (vo+1*1) [Ay (s.bytes (hdF s k i))[1]]:=by
    obtain⟨cs,c1,c2,c3⟩:=w8 1 (by omega)
    rw [show cs=[Ay (s.bytes (hdF s k i))[1]] from c3] at c2;exact c2
   have hkr:0≤hdF s k i∧hdF s k i≤16384:=by
    have:=hp.EY.inn
    have:=hp.EY.syn
    rcases hlv with q|q<;>(obtain⟨j,j1,j2, -, -⟩:=CM q (by omega);omega)
   have q4':=q4
   have hpn:AP n≤8192:=by unfold AP;omega
   (refine Ad<|Ab rfl<|Aa<|AA<|Am rfl<|Aa<|Az<|Ah<|Ad<|Am rfl<|RN rfl rfl<|Aa<|AS rfl<|Ak<|Ad<|Ag rfl (Aj 1 rfl rfl)<|Ab rfl ?_)
   refine Ea (v0:=.int .i64 (hdF s k i)) rfl rfl (fun b3 T3=>?_)
   refine D9 (R:=Bg) 7 rfl rfl q2 rfl (Aq.Em (x:=hdF s k i) rfl ⟨rfl,by omega,by omega⟩) Dg (by omega) (by simp;omega) (by simp;omega) (fun v' h' ho'=>?_)
   obtain⟨la',lc',rfl⟩:=ho'.val
   refine AZ 1 [.slice la' (l1++[hdF s k i]).length lc'] rfl rfl rfl rfl (Ach _) rfl rfl ?_
   have g0:(s.bytes (hdF s k i)).getD 0 0=(s.bytes (hdF s k i))[0]:=by rw [Acf,Ace (by omega)];rfl
   have g1':(s.bytes (hdF s k i)).getD 1 0=(s.bytes (hdF s k i))[1]:=by rw [Acf,Ace (by omega)];rfl
   have l0:=UInt8.toNat_lt (s.bytes (hdF s k i))[0]
   have l1':=UInt8.toNat_lt (s.bytes (hdF s k i))[1]
   have hlk:Gm (s.bytes (hdF s k i))=(s.bytes (hdF s k i))[0].toNat*256+(s.bytes (hdF s k i))[1].toNat:=by rw [Gm,g0,g1']
   (refine Aa<|Ah<|Bs<|Am rfl<|BA 0 rfl rfl rfl (by omega) (by assumption)<|Ag rfl (Ff (by assumption) rfl)<|DZ rfl (by omega) (by omega) ?_)
   refine Rh (a:=(s.bytes (hdF s k i))[0].toNat) rfl rfl (by omega) ?_
   (refine Am rfl<|BL (m:=1) (sz:=1) (R:=AM) (by rfl) (by assumption) (by rfl) rfl (by omega) ?_;rintro _ _ _ _ _ rfl;refine Ag rfl (B7 (by assumption) rfl)<|DZ rfl (by omega) (by omega) ?_)
   refine Qu (a:=(s.bytes (hdF s k i))[0].toNat) (b:=(s.bytes (hdF s k i))[1].toNat) rfl rfl l0 l1' ?_
   rw [←hlk]
   (refine B5<|Ab rfl<|Aa<|Ah<|Ah<|Bs<|Ab rfl<|AJ rfl rfl<|Ag rfl (Aj 1 rfl rfl)<|AN rfl<|Ag rfl (Aj 5 rfl rfl) ?_)
   refine Bi rfl (h2 (n:=n) (by omega)) (fun u d3 L3 _ ⟨e1,e2,e3⟩=>?_)
   subst e1;subst e2;subst e3
   rw [Adr]
   have hl1':(l1++[hdF s k i]).length=l1.length+1:=by simp
   have hst':AP n - i=(AP n - (i+1))+1:=by omega
   (refine AJ rfl rfl<|Io rfl rfl<|A5 ?_)
   by_cases hh:(Gm (s.bytes (hdF s k i))=65535)=(l1.length+1=AP n)
   ·refine AS (congrArg Value.bool (WV (by rw [hl1'];exact hh))) ?_
    have ht2:2+min 254 (n - o1.length)≤(s.bytes (hdF s k i)).length:=by omega
    (refine Ak<|Ad<|Ag rfl (Aj 5 rfl rfl)<|Ag rfl (Aj 0 rfl rfl)<|AN rfl<|CX rfl rfl (by omega) (by omega)<|Abd rfl rfl<|Ab rfl<|Aa<|Ah<|Ad<|Am rfl<|Ab rfl<|AO rfl rfl (by omega) (by omega) ?_)
    refine EC (R:=AM) (sz:=1) (n:=2+min 254 (n - o1.length)) rfl hv0 rfl (by omega) ht2 (fun vz hvz=>?_)
    obtain⟨zs,hzs⟩:∃zs,zs=(s.bytes (hdF s k i)).drop (2+min 254 (n - o1.length)):=⟨_,rfl⟩
    rw [←hzs] at hvz
    have hzl:=hvz.BZ
    (refine BG rfl (by assumption)<|Ab rfl<|Aa<|Az ?_)
    refine CU (α:=Nat) (fun j=>[(6,.pointer (some ⟨b6,0,none⟩)),(7,.pointer (some ⟨b7,0,none⟩)),(8,.pointer (some ⟨b8,0,none⟩)),(10,.pointer (some ⟨b10,0,none⟩)),(12,.slice (some ⟨vb,vo,none⟩) (s.bytes (hdF s k i)).length vc),(14,.int .i64 ((min 254 (n - o1.length):Nat):Int)),(63,vz),(64,.int .i64 zs.length),(65,.int .i64 j)])
     (fun _=>[bx b10 T10 [.slice oa o1.length oc],bx b9 T9 [.slice la' (l1++[hdF s k i]).length lc'],bx b8 T8 [.int .i64 0],bx b7 T7 [.slice none 0 0],bx b6 T6 [.slice none 0 0],bx b5 T5 [.int .i64 n],ho,h'])
     (fun j=>j≤zs.length∧(zs.take j).all (·==0)=true) (fun j=>zs.length - j) 0 ⟨rfl,rfl,rfl,rfl,rfl,by show Value.int _ _=Value.int _ _;congr 1;omega,rfl,rfl,rfl,trivial⟩ rfl ⟨Adg _,rfl⟩ ?_
    rintro j ρ ⟨hj,hja⟩
    by_cases ej:j<zs.length
    ·have hjn:(zs.take (j+1)).all (·==0)=((zs.take j).all (·==0)&&(zs[j]==0)):=by rw [Acx ej,List.all_append];simp
     by_cases hz0:zs[j]=0
     ·have hz1:zs[j].toNat=0:=by rw [hz0];rfl
      (refine Ad<|AE rfl rfl<|Aa<|Ah<|Ax rfl (by omega)<|Ak<|Ah<|Az<|Ad<|BL (sz:=1) (R:=AM) (by rfl) (by assumption) (by rfl) rfl (by omega) ?_;rintro _ _ _ _ _ rfl;refine Ag rfl (B7 (by assumption) rfl)<|Ab rfl<|Aa<|Ad<|Ab rfl<|AQ rfl rfl<|Aa<|Ar rfl (by omega)<|Ak<|AA<|AO rfl rfl (by omega) (by omega)<|Ab rfl<|Aa ?_)
      exact⟨j+1,by omega,⟨rfl,rfl,rfl,rfl,rfl,rfl,rfl,rfl,rfl,trivial⟩,rfl,rfl,ej,by rw [hjn,hja,hz0];rfl⟩
     ·have hz1:zs[j].toNat≠0:=fun q=>hz0 (UInt8.toNat_inj.1 q)
      have hrd:Dl s n (AP n) k [] [] (AP n)=([],[],200):=by
       rw [q6,hst',Dl,if_pos hlv,if_pos hh,if_neg]
       rw [←hzs]
       intro hall
       exact hz0 (by simpa using Acq.1 hall _ (Ada ej))
      (refine Ad<|AE rfl rfl<|Aa<|Ah<|Ax rfl (by omega)<|Ak<|Ah<|Az<|Ad<|BL (sz:=1) (R:=AM) (by rfl) (by assumption) (by rfl) rfl (by omega) ?_;rintro _ _ _ _ _ rfl;refine Ag rfl (B7 (by assumption) rfl)<|Ab rfl<|Aa<|Ad<|Ab rfl<|AQ rfl rfl<|Aa<|Ax rfl (by omega)<|Ad ?_)
      refine AZ 4 [.slice none 0 0] rfl rfl rfl rfl (Ach _) rfl rfl ?_
      refine AZ 3 [.slice none 0 0] rfl rfl rfl rfl (Ach _) rfl rfl ?_
      refine AZ 2 [.int .i64 200] rfl rfl rfl rfl (Ach _) rfl rfl ?_
      (refine Aa<|An ?_)
      exact Or.inr ⟨rfl,_,_,rfl,rfl,200,_,_,_,hrd,(by decide),rfl⟩
    ·have:j=zs.length:=by omega
     subst this
     rw [Aeg,hzs] at hja
     have hstep:Dl s n (AP n) k [] [] (AP n)=Dl s n (AP n) (hdF s k (i+1)) (l1++[hdF s k i]) (o1++((s.bytes (hdF s k i)).drop 2).take (min 254 (n - o1.length))) (AP n - (i+1)):=by
      rw [q6,hst',Dl,if_pos hlv,if_pos hh,if_pos hja];rfl
     have htl:(((s.bytes (hdF s k i)).drop 2).take (min 254 (n - o1.length))).length=min 254 (n - o1.length):=by rw [Acw,Acn];omega
     (refine Ad<|AE rfl rfl<|Aa<|Ah<|Ar rfl (by omega)<|Bj ?_)
     show gwp P _ _ _ _ _
     skip
     refine Bv [] [bx b10 T10 [.slice oa o1.length oc],bx b9 T9 [.slice la' (l1++[hdF s k i]).length lc'],bx b8 T8 [.int .i64 0],bx b7 T7 [.slice none 0 0],bx b6 T6 [.slice none 0 0],bx b5 T5 [.int .i64 n],ho,h'] rfl ?_
     (refine Am rfl<|Ab rfl<|AO rfl rfl (by omega) (by omega) ?_)
     refine Z7 (R:=AM) (sz:=1) (n:=2) (m:=2+min 254 (n - o1.length)) rfl hv0 rfl rfl rfl (by omega) (by omega) ht2 (fun vm hvm=>?_)
     rw [Nat.add_sub_cancel_left] at hvm
     (apply Ag;rfl;exact Aj 0 rfl rfl)
     refine ER (R:=AM) 6 rfl rfl q3 rfl (RSl.src hvm Gj (by omega) _) (by omega) (by rw [htl];omega) (by rw [htl];omega) (fun v'' h'' ho''=>?_)
     obtain⟨oa',oc',rfl⟩:=ho''.val
     (apply B5)
     refine AZ 0 [.slice oa' (o1++((s.bytes (hdF s k i)).drop 2).take (min 254 (n - o1.length))).length oc'] rfl rfl rfl rfl (Ach _) rfl rfl ?_
     (apply Aa)
     exact Or.inl ⟨rfl,[bx b10 T10 [.slice oa' (o1++((s.bytes (hdF s k i)).drop 2).take (min 254 (n - o1.length))).length oc'],bx b9 T9 [.slice la' (l1++[hdF s k i]).length lc'],bx b8 T8 [.int .i64 0],bx b7 T7 [.slice none 0 0],bx b6 T6 [.slice none 0 0],bx b5 T5 [.int .i64 n],h'',h'],by rw [TJ hst hpd];rfl,l1++[hdF s k i],_,la',lc',oa',oc',h',h'',rfl,ho',ho'',by rw [hl1',q4],by rw [Acl,htl];omega,hstep⟩
   ·have hrd:Dl s n (AP n) k [] [] (AP n)=([],[],200):=by rw [q6,hst',Dl,if_pos hlv,if_neg hh]
    refine Bh (congrArg Value.bool (Vx (by rw [hl1'];exact hh))) ?_
    (refine Ad ?_)
    refine AZ 4 [.slice none 0 0] rfl rfl rfl rfl (Ach _) rfl rfl ?_
    refine AZ 3 [.slice none 0 0] rfl rfl rfl rfl (Ach _) rfl rfl ?_
    refine AZ 2 [.int .i64 200] rfl rfl rfl rfl (Ach _) rfl rfl ?_
    (refine Aa<|An ?_)
    exact Or.inr ⟨rfl,_,_,rfl,rfl,200,_,_,_,hrd,(by decide),rfl⟩
  ·rintro i hi d2 E2 hle ⟨l1,o1,la,lc,oa,oc,hl,ho,rfl,q2,q3,q4,q5,q6⟩ hlv
   refine K1 hrec hst rfl ?_
   have hrd:Dl s n (AP n) k [] [] (AP n)=([],[],240):=by
    rw [q6,show AP n - i=(AP n - (i+1))+1 by omega,Dl,if_neg hlv]
   (refine Ad<|Ab rfl<|Aa<|AA<|Am rfl<|Aa<|Az<|Ah<|Ad<|Am rfl<|Rx rfl rfl<|Aa<|Bh rfl<|Ad<|Ab rfl<|YU rfl (by omega) (by omega) ?_)
   refine AZ 4 [.slice none 0 0] rfl rfl rfl rfl (Ach _) rfl rfl ?_
   refine AZ 3 [.slice none 0 0] rfl rfl rfl rfl (Ach _) rfl rfl ?_
   refine AZ 2 [.int .i64 240] rfl rfl rfl rfl (Ach _) rfl rfl ?_
   (refine Aa<|An ?_)
   exact⟨rfl,_,_,rfl,rfl,240,_,_,_,hrd,(by decide),rfl⟩
  ·rintro u d3 L3 hl3 ⟨LP',E',rc',tc,rfl,hp3,h⟩
   refine⟨d3,sg l (.loop rc')::(E'++LP'),Vs.perm Ack,rc',_,rfl,?_⟩
   rcases h with ⟨rfl,htc,l1,o1,la,lc,oa,oc,hl,ho,rfl,q2,q3,q4,q5,q6⟩|⟨rfl,e,x,y,R,hrd,hne,rfl⟩
   ·refine⟨(by rw [hst];intro q;cases q),?_⟩
    rw [hpd]
    have hll:=q2.BZ
    rw [Afy,Dl] at q6
    rw [q6]
    show xwp P _ _ _ _ _
    (apply x_g;apply Ah)
    refine Bv [_,_] (bx b8 T8 [.int .i64 0]::bx b7 T7 [.slice none 0 0]::bx b6 T6 [.slice none 0 0]::bx b5 T5 [.int .i64 n]::ho::hl::LP') rfl ?_
    (refine Ag rfl (Aj 1 rfl rfl)<|Ag rfl (Aj 0 rfl rfl) ?_)
    refine AZ 2 [.slice la l1.length lc] rfl rfl rfl rfl (Ach _) rfl rfl ?_
    skip
    refine AZ 1 [.slice oa o1.length oc] rfl rfl rfl rfl (Ach _) rfl rfl ?_
    skip
    refine AZ 0 [.int .i64 0] rfl rfl rfl rfl (Ach _) rfl rfl ?_
    (refine A5<|An ?_)
    exact Ba [.slice la l1.length lc,.slice oa o1.length oc,.int .i64 0] ⟨⟨_,_,rfl,Aj 4 rfl rfl⟩,⟨_,_,rfl,Aj 3 rfl rfl⟩,⟨_,_,rfl,Aj 2 rfl rfl⟩,trivial⟩ (d':=join (join d3 ho) hl) (L':=LP') (ZE _ _ _ _ _ _ _ _ _ _)
     ⟨(hl1.trans hl3).trans ((Le.AH _ _).trans (Le.AH _ _)),_,_,tc,rfl,Aq.rsl (R:=Bg) (sz:=1) q2 B8 (by omega) ((Le.AH _ _).trans (Le.AH _ _)) (Le.A6 _ _),
      Aq.rsl (R:=AM) (sz:=1) q3 AW (by omega) ((Le.AH _ _).trans (Le.AH _ _)) ((Le.A6 _ _).trans (Le.AH _ _)),hp3.mono ((Le.AH _ _).trans (Le.AH _ _)),fun _=>htc⟩
   ·refine⟨(by intro q;cases q),?_⟩
    rw [hrd]
    exact Ba [.slice none 0 0,.slice none 0 0,.int .i64 e] ⟨⟨_,_,rfl,Aj 4 rfl rfl⟩,⟨_,_,rfl,Aj 3 rfl rfl⟩,⟨_,_,rfl,Aj 2 rfl rfl⟩,trivial⟩ (d':=d3) (L':=LP') (Vs.drop (Adm _ _)) ⟨hl1.trans hl3,_,_,tc,rfl,RSl.nil,RSl.nil,hp3,fun q=>absurd q hne⟩
 ·have hF:BH s k size=([],[],2):=by unfold BH;rw [if_neg hsz]
  rw [hF]
  by_cases hneg:size<0
  ·(apply BI;apply x_g;apply Ah;apply AA;apply Ag;rfl;exact Aj 3 rfl rfl;apply AE;rfl;rfl;apply Ae;rfl;refine Be rfl (by omega) ?_;apply Ap;rfl;apply Ap;rfl;apply AF;rfl;rfl;apply Aa;apply Bh;rfl;apply Ah;apply AA)
   refine AZ 2 [.slice none 0 0] rfl rfl rfl rfl (Ach _) rfl rfl ?_
   refine AZ 1 [.slice none 0 0] rfl rfl rfl rfl (Ach _) rfl rfl ?_
   refine AZ 0 [.int .i64 2] rfl rfl rfl rfl (Ach _) rfl rfl ?_
   (refine Aa<|An ?_)
   exact Ba [.slice none 0 0,.slice none 0 0,.int .i64 2] ⟨⟨_,_,rfl,Aj 2 rfl rfl⟩,⟨_,_,rfl,Aj 1 rfl rfl⟩,⟨_,_,rfl,Aj 0 rfl rfl⟩,trivial⟩ (d':=d) (L':=L) (Vs.drop (.cons _ (.cons _ (.cons _ (.cons _ (Acb _)))))) ⟨Le.refl _,_,_,s.tc,rfl,RSl.nil,RSl.nil,hp,fun q=>absurd q (by decide)⟩
  ·have hbig:16384<size:=by omega
   (apply BI;apply x_g;apply Ah;apply AA;apply Ag;rfl;exact Aj 3 rfl rfl;apply AE;rfl;rfl;apply Ae;rfl;refine Bc rfl (by omega) ?_;apply Af;rfl;apply Ag;rfl;exact Aj 3 rfl rfl;apply Af;rfl;apply BQ;rfl;rfl;apply As;rfl;rfl;apply Aa;refine Ax rfl (by omega) ?_;apply Ah;apply AA)
   refine AZ 2 [.slice none 0 0] rfl rfl rfl rfl (Ach _) rfl rfl ?_
   refine AZ 1 [.slice none 0 0] rfl rfl rfl rfl (Ach _) rfl rfl ?_
   refine AZ 0 [.int .i64 2] rfl rfl rfl rfl (Ach _) rfl rfl ?_
   (refine Aa<|An ?_)
   exact Ba [.slice none 0 0,.slice none 0 0,.int .i64 2] ⟨⟨_,_,rfl,Aj 2 rfl rfl⟩,⟨_,_,rfl,Aj 1 rfl rfl⟩,⟨_,_,rfl,Aj 0 rfl rfl⟩,trivial⟩ (d':=d) (L':=L) (Vs.drop (.cons _ (.cons _ (.cons _ (.cons _ (Acb _)))))) ⟨Le.refl _,_,_,s.tc,rfl,RSl.nil,RSl.nil,hp,fun q=>absurd q (by decide)⟩
def OJ(P:Program) (f:FuncId):Prop:=∀{d:Ac}{s:PD}{dv pv:Value}{L:List Ac}{k size:Int},Pg d s dv pv L→
 Aw P f [pv,.int .i64 k,.int .i64 size] d L (Ret fun r d' L'=>Le d d'∧∃w tc,r=.tuple #[w,.int .i64 (BH s k size).2.2]∧AK d' w (BH s k size).2.1∧Pg d' {s with tc:=tc} dv pv L'∧((BH s k size).2.2=0→tc=s.tc+AP size.toNat))
def SV(a0:Nat):AY:=⟨21,[(.tmp 6),(.tmp 7)],(sR (o1 6 (.mv nS)<|o1 7 (.mv (kZ 0)) .done) (sR (om 12 0<|om 13 1<|om 14 2<|oc 15 a0 [(tP 12),(tP 13),(tP 14)]<|om 11 15<|oe 16 11 0<|oe 17 11 1<|oe 18 11 2<|om 8 16<|om 9 17<|om 10 18 .done) (sR (om 19 9<|om 20 10<|om 6 19<|om 7 20 .done) .ret)))⟩
theorem Xj{P:Program}{f f1:FuncId} (hd:dec P f=some (SV f1)) (h1:Lu P f1):OJ P f:=by
 intro d s dv pv L k size hp
 obtain⟨bp,rfl⟩:=hp.ptr
 refine AG hd (Aca rfl) ?_
 show gwp P _ _ _ _ _
 (refine Ad<|Am rfl<|Ab rfl<|Aa<|Ad<|Al rfl<|Ab rfl<|Ab rfl ?_)
 refine D2 (h1 (k:=k) (size:=size) hp) rfl (fun u d2 L2 hl2 ⟨_,v,w,tc,e1,hv,hw,hp2,htc⟩=>?_)
 subst e1
 (refine AU rfl<|Ao rfl rfl<|Ao rfl rfl<|Ao rfl rfl<|AL<|AL<|Ab rfl<|Aa<|Ad<|AL<|Ab rfl<|AL<|Ab rfl<|Aa<|An ?_)
 exact CF rfl rfl (Acb _) ⟨hl2,w,tc,rfl,hw,hp2,htc⟩
def Dq(s:PD):List Int→PD×Int
 |[]=>(s,0)
 |k::l=>if (s.drop k).2=0 then Dq (s.drop k).1 l else((s.drop k).1,(s.drop k).2)
def DK(s:PD) (k size:Int):PD×Int:=if (BH s k size).2.2=0 then Dq s (BH s k size).1 else(s,(BH s k size).2.2)
def LR(P:Program) (f:FuncId):Prop:=∀{d:Ac}{s:PD}{dv pv:Value}{L:List Ac}{k size:Int},Pg d s dv pv L→
 Aw P f [pv,.int .i64 k,.int .i64 size] d L (Ret fun r d' L'=>Le d d'∧r=.int .i64 (DK s k size).2∧∃tc,Pg d' {(DK s k size).1 with tc:=tc} dv pv L')
theorem S8{s:PD}{n:Nat}{k:Int}:PD.drop {s with tc:=n} k=({(s.drop k).1 with tc:=n},(s.drop k).2):=by
 unfold PD.drop
 show(if s.kind k=1 then _ else if s.kind k=2 then _ else _)=_
 by_cases h1:s.kind k=1
 ·simp only [if_pos h1]
 ·by_cases h2:s.kind k=2
  ·simp only [if_neg h1,if_pos h2]
  ·simp only [if_neg h1,if_neg h2]
def Sd(a0 a1:Nat):AY:=⟨37,[(.tmp 6)],(sR (o1 6 (.mv (kZ 0)) .done) (sR (om 14 0<|om 15 1<|om 16 2<|oc 17 a0 [(tP 14),(tP 15),(tP 16)]<|om 13 17<|oe 18 13 0<|oe 19 13 1<|oe 20 13 2<|om 7 18<|om 8 19<|om 9 20 .done) (.seq (sR (om 21 9<|ob 22 .neq (tP 21) (kZ 0) .done) (.cond (tP 22) (sR (om 23 9<|om 6 23 .done) .ret) .skip)) (.seq (sR (om 24 7<|oL 25 24<|o1 26 (.mv (kZ 0)) .done) (.block 0 (.loop (sR (ob 27 .lss (tP 26) (tP 25) .done) (.seq (.cond (tP 27) .skip (.exit 0)) (.seq (.block 1 (sR (oI 28 1 24 26<|ol 29 28<|om 11 29 .done) (sR (om 30 0<|om 31 11<|oc 32 a1 [(tP 30),(tP 31)]<|om 12 32 .done) (sR (om 33 12<|ob 34 .neq (tP 33) (kZ 0) .done) (.cond (tP 34) (sR (om 35 12<|om 6 35 .done) .ret) .skip))))) (rG (ob 36 .add (tP 26) (kZ 1)<|om 26 36 .done)))))))) (sR (o1 6 (.mv (kZ 0)) .done) .ret)))))⟩
set_option maxRecDepth 4000 in
theorem Yz{P:Program}{f f1 f2:FuncId} (hd:dec P f=some (Sd f1 f2)) (h1:Lu P f1) (h2:Gv P f2):LR P f:=by
 intro d s dv pv L k size hp
 obtain⟨bp,rfl⟩:=hp.ptr
 refine AG hd (Aca rfl) ?_
 show gwp P _ _ _ _ _
 (refine Ad<|Ab rfl<|Aa<|Ad<|Al rfl<|Ab rfl<|Ab rfl ?_)
 refine D2 (h1 (k:=k) (size:=size) hp) rfl (fun u d2 L2 hl2 ⟨_,v,w,tc,e1,hv,hw,hp2,htc⟩=>?_)
 subst e1
 by_cases hz:(BH s k size).2.2=0
 ·have hF:DK s k size=Dq s (BH s k size).1:=by unfold DK;rw [if_pos hz]
  rw [hF]
  generalize (BH s k size).1=l at hv
  have hll:=hv.BZ
  (refine AU rfl<|Ao rfl rfl<|Ao rfl rfl<|Ao rfl rfl<|AL<|AL<|Ab rfl<|Aa<|Ah<|Ad<|Ab rfl<|AQ rfl rfl<|Aa<|Ar rfl (by omega)<|Ak<|Ah<|Ad<|AL<|BG rfl (by assumption)<|Ab rfl<|Aa<|Az ?_)
  refine CL (α:=Nat×PD) (fun x=>[(0,.pointer (some ⟨bp,0,none⟩)),(24,v),(25,.int .i64 l.length),(26,.int .i64 x.1)])
   (fun x d' L'=>Le d2 d'∧x.1≤l.length∧Dq s l=Dq x.2 (l.drop x.1)∧Pg d' {x.2 with tc:=tc} dv (.pointer (some ⟨bp,0,none⟩)) L') (fun x=>l.length - x.1) (0,s) ⟨rfl,rfl,rfl,rfl,trivial⟩ ⟨Le.refl _,Adg _,rfl,hp2⟩ ?_
  rintro⟨i,s1⟩ ρ d' L' ⟨hle,hi,hD,hp'⟩
  simp only at hi hD hp'⊢
  have hv':=RSl.mono (R:=Bg) B8 hv hle
  by_cases e:i<l.length
  ·rw [Adi e,Dq] at hD
   (refine Ad<|AE rfl rfl<|Aa<|Ah<|Ax rfl (by omega)<|Ak<|Ah<|Az<|Ad<|BL (sz:=1) (R:=Bg) (by rfl) (by assumption) (by rfl) rfl (by omega) ?_;rintro _ _ _ _ _ ⟨rfl,_,_⟩;refine Ag rfl (B7 (by assumption) rfl)<|Ab rfl<|Aa<|Ad<|Al rfl<|Ab rfl ?_)
   refine D2 (h2 (k:=l[i]) hp') rfl (fun u d3 L3 hl3 ⟨q1,q2⟩=>?_)
   rw [S8] at q1 q2
   subst q1
   by_cases hd0:(s1.drop l[i]).2=0
   ·rw [if_pos hd0] at hD
    (refine Ab rfl<|Aa<|Ad<|Ab rfl<|AQ rfl rfl<|Aa<|Ar rfl (by omega)<|Ak<|AA<|AO rfl rfl (by omega) (by omega)<|Ab rfl<|Aa ?_)
    exact⟨(i+1,(s1.drop l[i]).1),by simp only;omega,⟨rfl,rfl,rfl,rfl,trivial⟩,hle.trans hl3,e,hD,q2⟩
   ·rw [if_neg hd0] at hD
    rw [hD]
    (refine Ab rfl<|Aa<|Ad<|Ab rfl<|AQ rfl rfl<|Aa<|Ax rfl (by omega)<|Ad<|Ab rfl<|Ab rfl<|Aa<|An ?_)
    exact BE rfl (Acb _) ⟨(hl2.trans hle).trans hl3,rfl,tc,q2⟩
  ·have:i=l.length:=by omega
   subst this
   rw [Afv,Dq] at hD
   rw [hD]
   (refine Ad<|AE rfl rfl<|Aa<|Ah<|Ar rfl (by omega)<|Bj<|Ad<|Ab rfl<|Aa<|An ?_)
   exact BE rfl (Acb _) ⟨hl2.trans hle,rfl,tc,hp'⟩
 ·have hF:DK s k size=(s,(BH s k size).2.2):=by unfold DK;rw [if_neg hz]
  rw [hF]
  (refine AU rfl<|Ao rfl rfl<|Ao rfl rfl<|Ao rfl rfl<|AL<|AL<|Ab rfl<|Aa<|Ah<|Ad<|Ab rfl<|AQ rfl rfl<|Aa<|Ax rfl (by omega)<|Ad<|Ab rfl<|Ab rfl<|Aa<|An ?_)
  exact BE rfl (Acb _) ⟨hl2,rfl,tc,hp2⟩
end Go.Gk.Chn
end
section
namespace Go.Gk.Node
open Go Go.Gk
attribute [local irreducible] gwp gws
structure AB where
 leaf:Bool
 keys:List (List UInt8)
 vals:List (List UInt8)
 kids:List Int
def Cz(d:Ac) (cs:List Value) (n:AB):Prop:=
 ∃kv vv iv,cs=[.bool n.leaf,kv,vv,iv]∧C5 d kv n.keys∧C5 d vv n.vals∧Dt d iv n.kids
def Dd(n:AB) (i:Nat):Nat:=(n.keys.getD i []).length
def EP(n:AB) (i:Nat):Nat:=(n.vals.getD i []).length
def DV(n:AB) (i:Nat):Nat:=if n.leaf then 2+Dd n i+EP n i else 1+Dd n i
def NP(P:Program) (f:FuncId):Prop:=∀{d:Ac}{cs:List Value}{n:AB},Cz d cs n→∀i:Nat,i<n.keys.length→CQ P f [.agg cs.toArray,.int .i64 i] d (.int .i64 (DV n i))
def MO:AY:=⟨44,[(.tmp 4)],(sR (o1 2 (.box (tP 0))<|o1 4 (.mv (kZ 0)) .done) (.seq (sR (oj 5 0 2<|ol 6 5<|om 7 6<|gT 8 7 1<|oT 9 7 (.fld 2 (tP 2))<|oT 10 7 (.ld none (tP 9))<|oT 11 7 (.len (tP 10))<|oT 12 7 (.bin .lss (tP 8) (tP 11))<|gP 13 7 12 .done) (.cond (tP 13) (.seq (.reg true (p1 14 (.fld 1 (tP 2))<|pl 15 14<|pm 16 1<|p1 17 (.idx 1 (tP 15) (tP 16))<|pl 18 17<|p1 19 (.len (tP 18))<|p1 20 (.bin .add (kZ 2) (tP 19))<|p1 21 (.fld 2 (tP 2))<|pl 22 21<|pm 23 1<|p1 24 (.idx 1 (tP 22) (tP 23))<|pl 25 24<|p1 26 (.len (tP 25))<|p1 27 (.bin .add (tP 20) (tP 26)) (.bar (pm 4 27 .done)))) .ret) .skip)) (.seq (sR (oj 28 0 2<|ol 29 28 .done) (.cond (tP 29) (sR (oj 30 1 2<|ol 31 30<|om 32 1<|oI 33 1 31 32<|ol 34 33<|oL 35 34<|ob 36 .add (kZ 2) (tP 35)<|om 4 36 .done) .ret) .skip)) (sR (oj 37 1 2<|ol 38 37<|om 39 1<|oI 40 1 38 39<|ol 41 40<|oL 42 41<|ob 43 .add (kZ 1) (tP 42)<|om 4 43 .done) .ret))))⟩
theorem Zg{P:Program}{f:FuncId} (hd:dec P f=some MO):NP P f:=by
 intro d cs n hn i hi
 obtain⟨lf,ks,vs,is⟩:=n
 obtain⟨kv,vv,iv,rfl,hk,hv,hiv⟩:∃kv vv iv,cs=[.bool lf,kv,vv,iv]∧C5 d kv ks∧C5 d vv vs∧Dt d iv is:=hn
 simp only at hi
 refine AG hd (Aca rfl) ?_
 obtain⟨ka,kc,kb,ko,rfl,kA,kS,kN,kl,km,kB,kx⟩:=hk
 obtain⟨va,vc,vb,vo,rfl,vA,vS,vN,vl,vm,vB,vx⟩:=hv
 obtain⟨c0,hc0,hD0,⟨u0,rfl,hu0⟩⟩:=kx i hi
 replace hD0:=hD0.one
 obtain⟨ua,uc,ub,uo,rfl,uA,uS,uN,ul,um,uB,ux⟩:=hu0
 dsimp only [DV,Dd,EP] at*
 have hkl:(ks.getD i []).length=ks[i].length:=by simp [hi]
 rw [hkl]
 cases lf
 ·show gwp P _ _ _ _ _
  (refine Ad<|Cr rfl (fun _ _=>Ab rfl<|Aa<|Ah<|Ad<|Ai rfl<|Ag rfl (Aj 0 rfl rfl)<|Ae rfl<|Ap rfl<|Ap rfl<|Ap rfl<|Ap rfl<|Ap rfl<|As rfl rfl<|Aa<|AS rfl<|Ak<|Ah<|Ad<|Ai rfl<|Ag rfl (Aj 0 rfl rfl)<|Aa<|AS rfl<|Ak<|Ad<|Ai rfl<|Ag rfl (Aj 0 rfl rfl)<|Ab rfl ?_);apply BA;rfl;rfl;rfl;omega;assumption;refine Ag rfl (BF (by assumption))<|AN rfl<|AO rfl rfl (by omega) (by omega)<|Ab rfl<|Aa<|An ?_)
  (apply Hg;rfl)
  simp
 ·by_cases hv:i<vs.length
  ·obtain⟨c1,hc1,hD1,⟨u1,rfl,hu1⟩⟩:=vx i hv
   replace hD1:=hD1.one
   obtain⟨wa,wc,wb,wo,rfl,wA,wS,wN,wl,wm,wB,wx⟩:=hu1
   show gwp P _ _ _ _ _
   (refine Ad<|Cr rfl (fun _ _=>Ab rfl<|Aa<|Ah<|Ad<|Ai rfl<|Ag rfl (Aj 0 rfl rfl)<|Ae rfl<|Af rfl<|Ab rfl<|Af rfl<|Ai rfl<|Af rfl<|Ag rfl (Aj 0 rfl rfl)<|Af rfl<|AN rfl<|Af rfl<|AE rfl rfl<|AF rfl rfl<|Aa<|Ax rfl (by omega)<|Ah<|Bs<|Ai rfl<|Ag rfl (Aj 0 rfl rfl)<|Ab rfl ?_);apply BA;rfl;rfl;rfl;omega;assumption;refine Ag rfl (BF (by assumption))<|AN rfl<|AO rfl rfl (by omega) (by omega)<|Ai rfl<|Ag rfl (Aj 0 rfl rfl)<|Ab rfl ?_;apply BA;rfl;rfl;rfl;omega;assumption;refine Ag rfl (BF (by assumption))<|AN rfl<|AO rfl rfl (by omega) (by omega)<|B5<|Ab rfl<|Aa<|An ?_)
   (apply Hg;rfl)
   simp [hv]
  ·show gwp P _ _ _ _ _
   (refine Ad<|Cr rfl (fun _ _=>Ab rfl<|Aa<|Ah<|Ad<|Ai rfl<|Ag rfl (Aj 0 rfl rfl)<|Ae rfl<|Af rfl<|Ab rfl<|Af rfl<|Ai rfl<|Af rfl<|Ag rfl (Aj 0 rfl rfl)<|Af rfl<|AN rfl<|Af rfl<|AE rfl rfl<|AF rfl rfl<|Aa<|Ar rfl (by omega)<|Ak<|Ah<|Ad<|Ai rfl<|Ag rfl (Aj 0 rfl rfl)<|Aa<|Bh rfl<|Ad<|Ai rfl<|Ag rfl (Aj 0 rfl rfl)<|Ab rfl ?_);apply BA;rfl;rfl;rfl;omega;assumption;refine Ag rfl (BF (by assumption))<|AN rfl<|AO rfl rfl (by omega) (by omega)<|Ab rfl<|Aa<|An ?_)
   (apply Hg;rfl)
   simp [Adq (Ahe hv)]
def Bl(n:AB):Nat→Nat
 |0=>0
 |k+1=>Bl n k+DV n k
theorem Gf(n:AB):∀{k m:Nat},k≤m→Bl n k≤Bl n m:=by
 intro k m h
 induction h with
 |refl=>exact Ach _
 |step _ ih=>simp only [Bl];omega
def A3(n:AB):Nat:=2+(if n.leaf then 0 else 2*n.kids.length)+Bl n n.keys.length
def KB(P:Program) (f:FuncId):Prop:=∀{d:Ac}{cs:List Value}{n:AB},Cz d cs n→A3 n≤1000000000000→CQ P f [.agg cs.toArray] d (.int .i64 (A3 n))
def SZ(a0:Nat):AY:=⟨27,[(.tmp 2)],(sR (o1 1 (.box (tP 0))<|o1 2 (.mv (kZ 0)) .done) (sR (o1 3 (.mv (kZ 2)) .done) (.seq (sR (oj 5 0 1<|ol 6 5<|o1 7 (.un .not (tP 6)) .done) (.cond (tP 7) (rG (om 8 3<|oj 9 3 1<|ol 10 9<|oL 11 10<|ob 12 .mul (kZ 2) (tP 11)<|ob 13 .add (tP 8) (tP 12)<|om 3 13 .done)) .skip)) (.seq (sR (oj 14 1 1<|ol 15 14<|oL 16 15<|o1 17 (.mv (kZ 0)) .done) (.block 0 (.loop (sR (ob 18 .lss (tP 17) (tP 16) .done) (.seq (.cond (tP 18) .skip (.exit 0)) (.seq (.block 1 (sR (om 19 17<|om 4 19 .done) (rG (om 20 3<|o1 21 (.ld (some 4) (tP 1))<|om 22 4<|oc 23 a0 [(tP 21),(tP 22)]<|ob 24 .add (tP 20) (tP 23)<|om 3 24 .done)))) (rG (ob 25 .add (tP 17) (kZ 1)<|om 17 25 .done)))))))) (sR (om 26 3<|om 2 26 .done) .ret)))))⟩
theorem Zh{P:Program}{f fc:FuncId} (hd:dec P f=some (SZ fc)) (hc:NP P fc):KB P f:=by
 intro d cs n hn hb
 have hn':=hn
 obtain⟨lf,ks,vs,is⟩:=n
 obtain⟨kv,vv,iv,rfl,hk,hv,hiv⟩:∃kv vv iv,cs=[.bool lf,kv,vv,iv]∧C5 d kv ks∧C5 d vv vs∧Dt d iv is:=hn
 refine AG hd (Aca rfl) ?_
 obtain⟨ka,kc,kb,ko,rfl,kA,kS,kN,kl,km,kB,kx⟩:=hk
 obtain⟨ia,ic,ib,io,rfl,iA,iS,iN,il,im,iB,ix⟩:=hiv
 have hm:∀k,k≤ks.length→Bl ⟨lf,ks,vs,is⟩ k≤Bl ⟨lf,ks,vs,is⟩ ks.length:=fun k hk=>Gf _ hk
 simp only [A3] at hb⊢
 show gwp P _ _ _ _ _
 cases lf
 ·obtain⟨z,hz⟩:∃z,z=2+(if false then 0 else 2*is.length):=⟨_,rfl⟩
  simp only [Aci,if_false] at hz hb
  (refine Ad<|Cr rfl (fun _ _=>Ab rfl<|Aa<|Ad<|Ab rfl<|Aa<|Ah<|Ad<|Ai rfl<|Ag rfl (Aj 0 rfl rfl)<|Bu rfl<|Aa<|Bh rfl<|AA<|Ab rfl<|Ai rfl<|Ag rfl (Aj 0 rfl rfl)<|AN rfl<|LU rfl rfl (by omega) (by omega)<|AO rfl rfl (by omega) (by omega)<|Ab rfl<|Aa<|Ah<|Ad<|Ai rfl<|Ag rfl (Aj 0 rfl rfl)<|AN rfl<|Ab rfl<|Aa<|Az ?_))
  rename_i b T
  refine CU (α:=Nat) (fun k=>[(1,.pointer (some ⟨b,0,none⟩)),(3,.int .i64 (z+Bl ⟨false,ks,vs,is⟩ k:Nat)),(16,.int .i64 ks.length),(17,.int .i64 k)])
   (fun _=>[bx b T [.bool false,.slice ka ks.length kc,vv,.slice ia is.length ic]]) (fun k=>k≤ks.length) (fun k=>ks.length - k) 0 ⟨rfl,int_eq (by simp [Bl,hz]),rfl,rfl,trivial⟩ rfl (Adg _) ?_
  intro k ρ hk
  have h1:=hm k hk
  by_cases h:k<ks.length
  ·have h2:=hm (k+1) h
   simp only [Bl] at h1 h2 hb
   (refine Ad<|AE rfl rfl<|Aa<|Ah<|Ax rfl (by omega)<|Ak<|Ah<|Az<|Ad<|Ab rfl<|Ab rfl<|Aa<|AA<|Ab rfl<|Bf 0 rfl rfl rfl<|Ab rfl ?_)
   refine BS rfl (hc hn' k h) ?_
   (refine AO rfl rfl (by omega) (by omega)<|Ab rfl<|Aa<|AA<|AO rfl rfl (by omega) (by omega)<|Ab rfl<|Aa ?_)
   exact⟨k+1,by omega,⟨rfl,int_eq (by simp [Bl];omega),rfl,rfl,trivial⟩,rfl,rfl,h⟩
  ·have e:k=ks.length:=by omega
   subst e
   (refine Ad<|AE rfl rfl<|Aa<|Ah<|Ar rfl (by omega)<|Bj<|Ad<|Ab rfl<|Ab rfl<|Aa<|An ?_)
   (apply Hg;rfl)
   simp;omega
 ·obtain⟨z,hz⟩:∃z,z=2+(if true then 0 else 2*is.length):=⟨_,rfl⟩
  simp only [if_true] at hz hb
  (refine Ad<|Cr rfl (fun _ _=>Ab rfl<|Aa<|Ad<|Ab rfl<|Aa<|Ah<|Ad<|Ai rfl<|Ag rfl (Aj 0 rfl rfl)<|Bu rfl<|Aa<|AS rfl<|Ak<|Ah<|Ad<|Ai rfl<|Ag rfl (Aj 0 rfl rfl)<|AN rfl<|Ab rfl<|Aa<|Az ?_))
  rename_i b T
  refine CU (α:=Nat) (fun k=>[(1,.pointer (some ⟨b,0,none⟩)),(3,.int .i64 (z+Bl ⟨true,ks,vs,is⟩ k:Nat)),(16,.int .i64 ks.length),(17,.int .i64 k)])
   (fun _=>[bx b T [.bool true,.slice ka ks.length kc,vv,.slice ia is.length ic]]) (fun k=>k≤ks.length) (fun k=>ks.length - k) 0 ⟨rfl,int_eq (by simp [Bl,hz]),rfl,rfl,trivial⟩ rfl (Adg _) ?_
  intro k ρ hk
  have h1:=hm k hk
  by_cases h:k<ks.length
  ·have h2:=hm (k+1) h
   simp only [Bl] at h1 h2 hb
   (refine Ad<|AE rfl rfl<|Aa<|Ah<|Ax rfl (by omega)<|Ak<|Ah<|Az<|Ad<|Ab rfl<|Ab rfl<|Aa<|AA<|Ab rfl<|Bf 0 rfl rfl rfl<|Ab rfl ?_)
   refine BS rfl (hc hn' k h) ?_
   (refine AO rfl rfl (by omega) (by omega)<|Ab rfl<|Aa<|AA<|AO rfl rfl (by omega) (by omega)<|Ab rfl<|Aa ?_)
   exact⟨k+1,by omega,⟨rfl,int_eq (by simp [Bl];omega),rfl,rfl,trivial⟩,rfl,rfl,h⟩
  ·have e:k=ks.length:=by omega
   subst e
   (refine Ad<|AE rfl rfl<|Aa<|Ah<|Ar rfl (by omega)<|Bj<|Ad<|Ab rfl<|Ab rfl<|Aa<|An ?_)
   (apply Hg;rfl)
   simp;omega
def kOk(ks:List (List UInt8)) (i:Nat):Bool:=decide (1≤(ks.getD i []).length)&& decide ((ks.getD i []).length≤64)&&(i==0||Op.bytesLess (ks.getD (i - 1) []) (ks.getD i []))
def Dh(ks:List (List UInt8)):Nat→Bool
 |0=>true
 |k+1=>Dh ks k && kOk ks k
theorem HK{ks:List (List UInt8)}{k:Nat} (h:kOk ks k=false):∀{m:Nat},k<m→Dh ks m=false:=by
 intro m hm
 induction hm with
 |refl=>simp [Dh,h]
 |step _ ih=>simp [Dh,ih]
def Hj(v:List UInt8):Bool:=decide (v.length≤16)
def F0(k:Int):Bool:=decide (0≤k∧k≤8191)
def A4(n:AB):Bool:=Dh n.keys n.keys.length &&(if n.leaf then decide (n.vals.length=n.keys.length)&& decide (n.kids.length=0)&& n.vals.all Hj
 else decide (n.vals.length=0)&& decide (n.kids.length=n.keys.length+1)&& n.kids.all F0)
def LG(P:Program) (f:FuncId):Prop:=∀{d:Ac}{cs:List Value}{n:AB},Cz d cs n→CQ P f [.agg cs.toArray] d (.bool (A4 n))
def E5(P:Program) (f:FuncId):Prop:=∀{α:Type}{R:Ac→List Value→α→Prop}{d:Ac}{v:Value}{xs:List α}{g:FuncId}{p:α→Bool},RSl 1 R d v xs→(∀u x,R d [u] x→CQ P g [u] d (.bool (p x)))→
 Aw P f [v,.func (.func g) #[] #[]] d [] (Ret fun r d' L'=>∃z:Int,r=.int .i64 z∧(0≤z↔xs.any p=true)∧d'=d∧L'=[])
def Ee(P:Program) (f:FuncId):Prop:=∀{α:Type}{R:Ac→List Value→α→Prop}{d:Ac}{v:Value}{xs:List α}{g:FuncId}{p:α→Bool},RSl 1 R d v xs→(∀u x,R d [u] x→CQ P g [u] d (.bool (p x)))→
 CQ P f [v,.func (.func g) #[] #[]] d (.bool (xs.any p))
def Ik(P:Program) (f:FuncId):Prop:=∀{d:Ac}{u v:Value}{a b:List UInt8},AK d u a→AK d v b→CQ P f [u,v] d (.int .i64 (Lib.compareBytes a b))
theorem QV{α:Type}{p:α→Bool}{xs:List α}{i:Nat} (hi:i<xs.length) (h:(xs.take i).any p=false) (hx:p xs[i]=false):(xs.take (i+1)).any p=false:=by
 rw [Acx hi,List.any_append,h];simp [hx]
theorem WS{α:Type}{p:α→Bool}{xs:List α}{i:Nat} (hi:i<xs.length) (hx:p xs[i]=true):xs.any p=true:=List.any_eq_true.2 ⟨xs[i],Ada hi,hx⟩
def GJ:AY:=⟨19,[(.tmp 4)],(sR (o1 4 (.mv (kZ 0)) .done) (.seq (sR (om 6 0<|oL 7 6<|o1 8 (.mv (kZ 0)) .done) (.block 0 (.loop (sR (ob 9 .lss (tP 8) (tP 7) .done) (.seq (.cond (tP 9) .skip (.exit 0)) (.seq (.block 1 (sR (om 10 8<|om 5 10 .done) (sR (om 11 1<|om 12 0<|om 13 5<|oI 14 1 12 13<|ol 15 14<|o1 16 (.callv (tP 11) [(tP 15)]) .done) (.cond (tP 16) (sR (om 17 5<|om 4 17 .done) .ret) .skip)))) (rG (ob 18 .add (tP 8) (kZ 1)<|om 8 18 .done)))))))) (sR (o1 4 (.mv (kZ (-1))) .done) .ret)))⟩
theorem Ka{P:Program}{f:FuncId} (hd:dec P f=some GJ):E5 P f:=by
 intro α R d v xs g p hv hp
 refine AG hd (Aca rfl) ?_
 obtain⟨xa,xc,xb,xo,rfl,xA,xS,xN,xl,xm,xB,xx⟩:=hv
 show gwp P _ _ _ _ _
 (refine Ad<|Ab rfl<|Aa<|Ah<|Ad<|Am rfl<|AN rfl<|Ab rfl<|Aa<|Az ?_)
 refine CU (α:=Nat) (fun k=>[(0,.slice xa xs.length xc),(1,.func (.func g) #[] #[]),(7,.int .i64 xs.length),(8,.int .i64 k)])
  (fun _=>[]) (fun k=>k≤xs.length∧(xs.take k).any p=false) (fun k=>xs.length - k) 0 ⟨rfl,rfl,rfl,rfl,trivial⟩ rfl ⟨Adg _,by simp⟩ ?_
 rintro k ρ ⟨hle,hk⟩
 by_cases h:k<xs.length
 ·obtain⟨c0,hc0,hD0,hR0⟩:=xx k h
  obtain⟨u,rfl⟩:∃u,c0=[u]:=by
   match c0,hc0 with|[u],_=>exact⟨u,rfl⟩
  replace hD0:=hD0.one
  (refine Ad<|AE rfl rfl<|Aa<|Ah<|Ax rfl (by omega)<|Ak<|Ah<|Az<|Ad<|Ab rfl<|Ab rfl<|Aa<|Ad<|FB rfl<|Am rfl<|Ab rfl ?_;apply BA;rfl;rfl;rfl;omega;assumption;apply Ag;rfl;exact BF (by assumption))
  refine S7 rfl rfl (hp u _ hR0) ?_
  cases hx:p xs[k] with
  |true=>
   (refine Aa<|Bh rfl<|Ad<|Ab rfl<|Ab rfl<|Aa<|An ?_)
   exact JI rfl ⟨k,rfl,by simp [WS h hx],rfl,rfl⟩
  |false=>
   (refine Aa<|AS rfl<|Ak<|AA<|AO rfl rfl (by omega) (by omega)<|Ab rfl<|Aa ?_)
   exact⟨k+1,by omega,⟨rfl,rfl,rfl,int_eq (by omega),trivial⟩,rfl,rfl,by omega,QV h hk hx⟩
 ·have e:k=xs.length:=by omega
  subst e
  rw [Aeg] at hk
  (refine Ad<|AE rfl rfl<|Aa<|Ah<|Ar rfl (by omega)<|Bj<|Ad<|Ab rfl<|Aa<|An ?_)
  exact JI rfl ⟨-1,rfl,by simp [hk],rfl,rfl⟩
def Gi(a0:Nat):AY:=⟨9,[(.tmp 4)],(sR (o1 4 (.mv (.const (.bool false))) .done) (sR (om 5 0<|om 6 1<|oc 7 a0 [(tP 5),(tP 6)]<|ob 8 .geq (tP 7) (kZ 0)<|om 4 8 .done) .ret))⟩
theorem IJ{P:Program}{f f1:FuncId} (hd:dec P f=some (Gi f1)) (h1:E5 P f1):Ee P f:=by
 intro α R d v xs g p hv hp
 refine AG hd (Aca rfl) ?_
 show gwp P _ _ _ _ _
 (refine Ad<|Ae rfl<|Aa<|Ad<|AL<|FB rfl ?_)
 refine Bi rfl (h1 hv hp) (fun r d' L' _ ⟨z,hr,hz,hd',hL⟩=>?_)
 subst hr;subst hd';subst hL
 (refine DG rfl rfl<|Ae rfl<|Aa<|An ?_)
 (apply Ek;rfl)
 cases h:xs.any p
 ·have:¬0≤z:=fun h0=>by rw [hz.1 h0] at h;cases h
  simpa using this
 ·simpa using hz.2 h
def Hd:AY:=⟨19,[(.tmp 4)],(sR (o1 4 (.mv (kZ 0)) .done) (.seq (sR (om 6 0<|oL 7 6<|o1 8 (.mv (kZ 0)) .done) (.block 0 (.loop (sR (ob 9 .lss (tP 8) (tP 7) .done) (.seq (.cond (tP 9) .skip (.exit 0)) (.seq (.block 1 (sR (om 10 8<|om 5 10 .done) (sR (om 11 1<|om 12 0<|om 13 5<|oI 14 1 12 13<|ol 15 14<|o1 16 (.callv (tP 11) [(tP 15)]) .done) (.cond (tP 16) (sR (om 17 5<|om 4 17 .done) .ret) .skip)))) (rG (ob 18 .add (tP 8) (kZ 1)<|om 8 18 .done)))))))) (sR (o1 4 (.mv (kZ (-1))) .done) .ret)))⟩
theorem Mi{P:Program}{f:FuncId} (hd:dec P f=some Hd):E5 P f:=by
 intro α R d v xs g p hv hp
 refine AG hd (Aca rfl) ?_
 obtain⟨xa,xc,xb,xo,rfl,xA,xS,xN,xl,xm,xB,xx⟩:=hv
 show gwp P _ _ _ _ _
 (refine Ad<|Ab rfl<|Aa<|Ah<|Ad<|Am rfl<|AN rfl<|Ab rfl<|Aa<|Az ?_)
 refine CU (α:=Nat) (fun k=>[(0,.slice xa xs.length xc),(1,.func (.func g) #[] #[]),(7,.int .i64 xs.length),(8,.int .i64 k)])
  (fun _=>[]) (fun k=>k≤xs.length∧(xs.take k).any p=false) (fun k=>xs.length - k) 0 ⟨rfl,rfl,rfl,rfl,trivial⟩ rfl ⟨Adg _,by simp⟩ ?_
 rintro k ρ ⟨hle,hk⟩
 by_cases h:k<xs.length
 ·obtain⟨c0,hc0,hD0,hR0⟩:=xx k h
  obtain⟨u,rfl⟩:∃u,c0=[u]:=by
   match c0,hc0 with|[u],_=>exact⟨u,rfl⟩
  replace hD0:=hD0.one
  (refine Ad<|AE rfl rfl<|Aa<|Ah<|Ax rfl (by omega)<|Ak<|Ah<|Az<|Ad<|Ab rfl<|Ab rfl<|Aa<|Ad<|FB rfl<|Am rfl<|Ab rfl ?_;apply BA;rfl;rfl;rfl;omega;assumption;apply Ag;rfl;exact BF (by assumption))
  refine S7 rfl rfl (hp u _ hR0) ?_
  cases hx:p xs[k] with
  |true=>
   (refine Aa<|Bh rfl<|Ad<|Ab rfl<|Ab rfl<|Aa<|An ?_)
   exact JI rfl ⟨k,rfl,by simp [WS h hx],rfl,rfl⟩
  |false=>
   (refine Aa<|AS rfl<|Ak<|AA<|AO rfl rfl (by omega) (by omega)<|Ab rfl<|Aa ?_)
   exact⟨k+1,by omega,⟨rfl,rfl,rfl,int_eq (by omega),trivial⟩,rfl,rfl,by omega,QV h hk hx⟩
 ·have e:k=xs.length:=by omega
  subst e
  rw [Aeg] at hk
  (refine Ad<|AE rfl rfl<|Aa<|Ah<|Ar rfl (by omega)<|Bj<|Ad<|Ab rfl<|Aa<|An ?_)
  exact JI rfl ⟨-1,rfl,by simp [hk],rfl,rfl⟩
def GB(a0:Nat):AY:=⟨9,[(.tmp 4)],(sR (o1 4 (.mv (.const (.bool false))) .done) (sR (om 5 0<|om 6 1<|oc 7 a0 [(tP 5),(tP 6)]<|ob 8 .geq (tP 7) (kZ 0)<|om 4 8 .done) .ret))⟩
theorem Jy{P:Program}{f f1:FuncId} (hd:dec P f=some (GB f1)) (h1:E5 P f1):Ee P f:=by
 intro α R d v xs g p hv hp
 refine AG hd (Aca rfl) ?_
 show gwp P _ _ _ _ _
 (refine Ad<|Ae rfl<|Aa<|Ad<|AL<|FB rfl ?_)
 refine Bi rfl (h1 hv hp) (fun r d' L' _ ⟨z,hr,hz,hd',hL⟩=>?_)
 subst hr;subst hd';subst hL
 (refine DG rfl rfl<|Ae rfl<|Aa<|An ?_)
 (apply Ek;rfl)
 cases h:xs.any p
 ·have:¬0≤z:=fun h0=>by rw [hz.1 h0] at h;cases h
  simpa using this
 ·simpa using hz.2 h
def N5:AY:=⟨8,[(.tmp 4)],(sR (o1 4 (.mv (kZ 0)) .done) (sR (om 5 0<|om 6 1<|o1 7 (.bcmp (tP 5) (tP 6))<|om 4 7 .done) .ret))⟩
theorem Uc{P:Program}{f:FuncId} (hd:dec P f=some N5):Ik P f:=by
 intro d u v a b hu hv
 refine AG hd (Aca rfl) ?_
 show gwp P _ _ _ _ _
 (refine Ad<|Ab rfl<|Aa<|Ad<|AL<|AL<|Y7 rfl rfl (by assumption) (by assumption)<|Ab rfl<|Aa<|An ?_)
 (apply Hg;rfl)
 rfl
def IT:AY:=⟨6,[(.tmp 2)],(sR (o1 2 (.mv (.const (.bool false))) .done) (sR (om 3 0<|oL 4 3<|ob 5 .gtr (tP 4) (kZ 16)<|om 2 5 .done) .ret))⟩
theorem Wh{P:Program}{f:FuncId} (hd:dec P f=some IT) {d:Ac}{u:Value}{l:List UInt8} (hu:RBs d [u] l):CQ P f [u] d (.bool (!Hj l)):=by
 obtain⟨u',e,hu⟩:=hu
 cases e
 refine AG hd (Aca rfl) ?_
 show gwp P _ _ _ _ _
 (refine Ad<|Ae rfl<|Aa<|Ad<|AL<|BG rfl (by assumption)<|BQ rfl rfl<|Ae rfl<|Aa<|An ?_)
 (apply Ek;rfl)
 (rw [Agx];simp [Hj];omega)
def IQ:AY:=⟨9,[(.tmp 2)],(sR (o1 2 (.mv (.const (.bool false))) .done) (sR (om 3 0<|ob 4 .lss (tP 3) (kZ 0)<|om 5 4<|gF 6 5 0<|oF 7 5 (.bin .geq (tP 6) (kZ 8192))<|o1 8 (.pick (tP 5) (.const (.bool true)) (tP 7))<|om 2 8 .done) .ret))⟩
theorem Vg{P:Program}{f:FuncId} (hd:dec P f=some IQ) {d:Ac}{u:Value}{k:Int} (hu:Bg d [u] k):CQ P f [u] d (.bool (!F0 k)):=by
 obtain⟨e,h1,h2⟩:=hu
 cases e
 refine AG hd (Aca rfl) ?_
 show gwp P _ _ _ _ _
 by_cases h:k<0
 ·(refine Ad<|Ae rfl<|Aa<|Ad<|Ab rfl<|AE rfl rfl<|Ae rfl<|Be rfl (by omega)<|Ap rfl<|Ap rfl<|AF rfl rfl<|Ae rfl<|Aa<|An ?_)
  (apply Ek;rfl)
  (rw [Agx];simp [F0];omega)
 ·by_cases h':k≥8192
  ·(refine Ad<|Ae rfl<|Aa<|Ad<|Ab rfl<|AE rfl rfl<|Ae rfl<|Bc rfl (by omega)<|Af rfl<|Ab rfl<|Af rfl<|DG rfl rfl<|As rfl rfl<|Ae rfl<|Aa<|An ?_)
   (apply Ek;rfl)
   (rw [Agx];simp [F0];omega)
  ·(refine Ad<|Ae rfl<|Aa<|Ad<|Ab rfl<|AE rfl rfl<|Ae rfl<|Bc rfl (by omega)<|Af rfl<|Ab rfl<|Af rfl<|DG rfl rfl<|As rfl rfl<|Ae rfl<|Aa<|An ?_)
   (apply Ek;rfl)
   (rw [Agx];simp [F0];omega)
def QU(a0 a1 a2 a3 a4:Nat):AY:=⟨78,[(.tmp 2)],(sR (o1 1 (.box (tP 0))<|o1 2 (.mv (.const (.bool false))) .done) (.seq (sR (oj 5 1 1<|ol 6 5<|oL 7 6<|o1 8 (.mv (kZ 0)) .done) (.block 0 (.loop (sR (ob 9 .lss (tP 8) (tP 7) .done) (.seq (.cond (tP 9) .skip (.exit 0)) (.seq (.block 1 (sR (om 10 8<|oI 11 1 6 8<|ol 12 11<|om 3 10<|om 4 12 .done) (sR (om 13 4<|oL 14 13<|ob 15 .lss (tP 14) (kZ 1)<|om 16 15<|gF 17 16 4<|oF 18 16 (.len (tP 17))<|oF 19 16 (.bin .gtr (tP 18) (kZ 64))<|o1 20 (.pick (tP 16) (.const (.bool true)) (tP 19))<|om 21 20<|gF 22 21 3<|oF 23 21 (.bin .gtr (tP 22) (kZ 0))<|gF 24 21 23<|oT 25 24 (.fld 1 (tP 1))<|oT 26 24 (.ld none (tP 25))<|gT 27 24 3<|oT 28 24 (.bin .sub (tP 27) (kZ 1))<|oT 29 24 (.idx 1 (tP 26) (tP 28))<|oT 30 24 (.ld none (tP 29))<|gT 31 24 4<|oT 32 24 (.call a0 [(tP 30),(tP 31)])<|oT 33 24 (.bin .geq (tP 32) (kZ 0))<|oF 34 21 (.pick (tP 24) (tP 33) (.const (.bool false)))<|o1 35 (.pick (tP 21) (.const (.bool true)) (tP 34)) .done) (.cond (tP 35) (sR (o1 2 (.mv (.const (.bool false))) .done) .ret) .skip)))) (rG (ob 36 .add (tP 8) (kZ 1)<|om 8 36 .done)))))))) (.seq (sR (oj 37 0 1<|ol 38 37 .done) (.cond (tP 38) (sR (oj 39 2 1<|ol 40 39<|oL 41 40<|oj 42 1 1<|ol 43 42<|oL 44 43<|ob 45 .eql (tP 41) (tP 44)<|om 46 45<|oT 47 46 (.fld 3 (tP 1))<|oT 48 46 (.ld none (tP 47))<|oT 49 46 (.len (tP 48))<|oT 50 46 (.bin .eql (tP 49) (kZ 0))<|gP 51 46 50<|om 52 51<|oT 53 52 (.fld 2 (tP 1))<|oT 54 52 (.ld none (tP 53))<|oT 55 52 (.call a1 [(tP 54),(.func a2)])<|oT 56 52 (.un .not (tP 55))<|gP 57 52 56<|om 2 57 .done) .ret) .skip)) (sR (oj 58 2 1<|ol 59 58<|oL 60 59<|ob 61 .eql (tP 60) (kZ 0)<|om 62 61<|oT 63 62 (.fld 3 (tP 1))<|oT 64 62 (.ld none (tP 63))<|oT 65 62 (.len (tP 64))<|oT 66 62 (.fld 1 (tP 1))<|oT 67 62 (.ld none (tP 66))<|oT 68 62 (.len (tP 67))<|oT 69 62 (.bin .add (tP 68) (kZ 1))<|oT 70 62 (.bin .eql (tP 65) (tP 69))<|gP 71 62 70<|om 72 71<|oT 73 72 (.fld 3 (tP 1))<|oT 74 72 (.ld none (tP 73))<|oT 75 72 (.call a3 [(tP 74),(.func a4)])<|oT 76 72 (.un .not (tP 75))<|gP 77 72 76<|om 2 77 .done) .ret))))⟩
theorem Xx{P:Program}{f f1 f2 f3 f4 f5:FuncId} (hd:dec P f=some (QU f1 f2 f3 f4 f5)) (h1:Ik P f1) (h2:Ee P f2) (h3:dec P f3=some IT) (h4:Ee P f4) (h5:dec P f5=some IQ):LG P f:=by
 intro d cs n hn
 obtain⟨lf,ks,vs,is⟩:=n
 obtain⟨kv,vv,iv,rfl,hk,hv,hiv⟩:∃kv vv iv,cs=[.bool lf,kv,vv,iv]∧C5 d kv ks∧C5 d vv vs∧Dt d iv is:=hn
 refine AG hd (Aca rfl) ?_
 have hv':=hv
 have hiv':=hiv
 obtain⟨ka,kc,kb,ko,rfl,kA,kS,kN,kl,km,kB,kx⟩:=hk
 show gwp P _ _ _ _ _
 (refine Ad<|Cr rfl (fun _ _=>Ae rfl<|Aa<|Ah<|Ad<|Ai rfl<|Ag rfl (Aj 0 rfl rfl)<|AN rfl<|Ab rfl<|Aa<|Az ?_))
 rename_i b T
 refine CU (α:=Nat) (fun k=>[(1,.pointer (some ⟨b,0,none⟩)),(6,.slice ka ks.length kc),(7,.int .i64 ks.length),(8,.int .i64 k)])
  (fun _=>[bx b T [.bool lf,.slice ka ks.length kc,vv,iv]]) (fun k=>k≤ks.length∧Dh ks k=true) (fun k=>ks.length - k) 0 ⟨rfl,rfl,rfl,rfl,trivial⟩ rfl ⟨Adg _,rfl⟩ ?_
 rintro k ρ ⟨hle,hok⟩
 by_cases h:k<ks.length
 ·obtain⟨c0,hc0,hD0,⟨u0,rfl,hu0⟩⟩:=kx k h
  replace hD0:=hD0.one
  have hkl:ks.getD k []=ks[k]:=by simp [h]
  have hnext:kOk ks k=true→∃x',ks.length - x'<ks.length - k∧x'=k+1∧(x'≤ks.length∧Dh ks x'=true):=fun hk=>⟨k+1,by omega,rfl,by omega,by simp [Dh,hok,hk]⟩
  by_cases h1':ks[k].length<1
  ·have hf:kOk ks k=false:=by rw [kOk,hkl];simp;omega
   (refine Ad<|AE rfl rfl<|Aa<|Ah<|Ax rfl (by omega)<|Ak<|Ah<|Az<|Ad<|Ab rfl ?_;apply BA;rfl;rfl;rfl;omega;assumption;refine Ag rfl (BF (by assumption))<|Ab rfl<|AL<|Aa<|Ad<|AL<|BG rfl (by assumption)<|AE rfl rfl<|Ae rfl<|Be rfl (by omega)<|Ap rfl<|Ap rfl<|Ap rfl<|AF rfl rfl<|Ae rfl<|Ap rfl<|Ap rfl<|Ap rfl<|DF rfl<|DF rfl<|DF rfl<|DF rfl<|DF rfl<|DF rfl<|DF rfl<|DF rfl<|DF rfl<|Ap rfl<|AF rfl rfl<|Aa<|Bh rfl<|Ad<|Ae rfl<|Aa<|An ?_)
   (apply Ek;rfl)
   simp [A4,HK hf h]
  ·by_cases h2':ks[k].length>64
   ·have hf:kOk ks k=false:=by rw [kOk,hkl];simp;omega
    (refine Ad<|AE rfl rfl<|Aa<|Ah<|Ax rfl (by omega)<|Ak<|Ah<|Az<|Ad<|Ab rfl ?_;apply BA;rfl;rfl;rfl;omega;assumption;refine Ag rfl (BF (by assumption))<|Ab rfl<|AL<|Aa<|Ad<|AL<|BG rfl (by assumption)<|AE rfl rfl<|Ae rfl<|Bc rfl (by omega)<|Af rfl<|AL<|Af rfl<|BG rfl (by assumption)<|Af rfl<|BQ rfl rfl<|As rfl rfl<|Ae rfl<|Be rfl (by omega)<|Ap rfl<|Ap rfl<|Ap rfl<|DF rfl<|DF rfl<|DF rfl<|DF rfl<|DF rfl<|DF rfl<|DF rfl<|DF rfl<|DF rfl<|Ap rfl<|AF rfl rfl<|Aa<|Bh rfl<|Ad<|Ae rfl<|Aa<|An ?_)
    (apply Ek;rfl)
    simp [A4,HK hf h]
   ·cases k with
    |zero=>
     (refine Ad<|AE rfl rfl<|Aa<|Ah<|Ax rfl (by omega)<|Ak<|Ah<|Az<|Ad<|Ab rfl ?_;apply BA;rfl;rfl;rfl;omega;assumption;refine Ag rfl (BF (by assumption))<|Ab rfl<|AL<|Aa<|Ad<|AL<|BG rfl (by assumption)<|AE rfl rfl<|Ae rfl<|Bc rfl (by omega)<|Af rfl<|AL<|Af rfl<|BG rfl (by assumption)<|Af rfl<|BQ rfl rfl<|As rfl rfl<|Ae rfl<|Bc rfl (by omega)<|Af rfl<|Ab rfl<|Af rfl<|BQ rfl rfl<|Af rfl<|Ae rfl<|Ap rfl<|Ap rfl<|Ap rfl<|Ap rfl<|Ap rfl<|Ap rfl<|Ap rfl<|Ap rfl<|Ap rfl<|Af rfl<|As rfl rfl<|As rfl rfl<|Aa<|AS rfl<|Ak<|AA<|AO rfl rfl (by omega) (by omega)<|Ab rfl<|Aa ?_)
     obtain⟨x',e1,rfl,e2⟩:=hnext (by rw [kOk,hkl];simp;omega)
     exact⟨_,e1,⟨rfl,rfl,rfl,int_eq (by omega),trivial⟩,rfl,rfl,e2⟩
    |succ j=>
     obtain⟨c1,hc1,hD1,⟨u1,rfl,hu1⟩⟩:=kx j (by omega)
     replace hD1:=hD1.one
     have hjl:ks.getD j []=ks[j]:=by simp [show j<ks.length by omega]
     have hc:=RP ks[j] ks[j+1]
     cases hb:Op.bytesLess ks[j] ks[j+1] with
     |true=>
      have hb':Lib.compareBytes ks[j] ks[j+1]<0:=hc.2 hb
      (refine Ad<|AE rfl rfl<|Aa<|Ah<|Ax rfl (by omega)<|Ak<|Ah<|Az<|Ad<|Ab rfl ?_;apply BA;rfl;rfl;rfl;omega;assumption;refine Ag rfl (BF (by assumption))<|Ab rfl<|AL<|Aa<|Ad<|AL<|BG rfl (by assumption)<|AE rfl rfl<|Ae rfl<|Bc rfl (by omega)<|Af rfl<|AL<|Af rfl<|BG rfl (by assumption)<|Af rfl<|BQ rfl rfl<|As rfl rfl<|Ae rfl<|Bc rfl (by omega)<|Af rfl<|Ab rfl<|Af rfl<|BQ rfl rfl<|Af rfl<|Ae rfl<|Be rfl (by omega)<|Af rfl<|Ai rfl<|Af rfl<|Ag rfl (Aj 0 rfl rfl)<|Af rfl<|Ab rfl<|Af rfl<|CX rfl rfl (by omega) (by omega)<|Af rfl ?_)
      refine BA j rfl rfl (by omega) (by omega) kA ?_
      (refine Af rfl<|Ag rfl (BF (by assumption))<|Af rfl<|AL<|Af rfl ?_)
      refine BS rfl (h1 hu1 hu0) ?_
      (refine Af rfl<|DG rfl rfl<|Af rfl<|AF rfl rfl<|As rfl rfl<|Aa<|Ar rfl (by omega)<|Ak<|AA<|AO rfl rfl (by omega) (by omega)<|Ab rfl<|Aa ?_)
      obtain⟨x',e1,rfl,e2⟩:=hnext (by rw [kOk,hkl,Aet,hjl,hb];simp;omega)
      exact⟨_,e1,⟨rfl,rfl,rfl,int_eq (by omega),trivial⟩,rfl,rfl,e2⟩
     |false=>
      have hb':¬Lib.compareBytes ks[j] ks[j+1]<0:=fun h0=>by rw [hc.1 h0] at hb;cases hb
      have hf:kOk ks (j+1)=false:=by rw [kOk,hkl,Aet,hjl,hb];simp
      (refine Ad<|AE rfl rfl<|Aa<|Ah<|Ax rfl (by omega)<|Ak<|Ah<|Az<|Ad<|Ab rfl ?_;apply BA;rfl;rfl;rfl;omega;assumption;refine Ag rfl (BF (by assumption))<|Ab rfl<|AL<|Aa<|Ad<|AL<|BG rfl (by assumption)<|AE rfl rfl<|Ae rfl<|Bc rfl (by omega)<|Af rfl<|AL<|Af rfl<|BG rfl (by assumption)<|Af rfl<|BQ rfl rfl<|As rfl rfl<|Ae rfl<|Bc rfl (by omega)<|Af rfl<|Ab rfl<|Af rfl<|BQ rfl rfl<|Af rfl<|Ae rfl<|Be rfl (by omega)<|Af rfl<|Ai rfl<|Af rfl<|Ag rfl (Aj 0 rfl rfl)<|Af rfl<|Ab rfl<|Af rfl<|CX rfl rfl (by omega) (by omega)<|Af rfl ?_)
      refine BA j rfl rfl (by omega) (by omega) kA ?_
      (refine Af rfl<|Ag rfl (BF (by assumption))<|Af rfl<|AL<|Af rfl ?_)
      refine BS rfl (h1 hu1 hu0) ?_
      (refine Af rfl<|DG rfl rfl<|Af rfl<|AF rfl rfl<|As rfl rfl<|Aa<|Ax rfl (by omega)<|Ad<|Ae rfl<|Aa<|An ?_)
      (apply Ek;rfl)
      simp [A4,HK hf h]
 ·have e:k=ks.length:=by omega
  subst e
  have ea:∀l:List (List UInt8),(!l.any fun v=> !Hj v)=l.all Hj:=fun l=>by simp [List.any_eq_not_all_not]
  have ei:∀l:List Int,(!l.any fun v=> !F0 v)=l.all F0:=fun l=>by simp [List.any_eq_not_all_not]
  cases lf
  ·by_cases h1':vs.length=0
   ·by_cases h2':is.length=ks.length+1
    ·(refine Ad<|AE rfl rfl<|Aa<|Ah<|Ar rfl (by omega)<|Bj<|Ah<|Ad<|Ai rfl<|Ag rfl (Aj 0 rfl rfl)<|Aa<|AS rfl<|Ak<|Ad<|Ai rfl<|Ag rfl (Aj 0 rfl rfl)<|BG rfl (by assumption)<|AJ rfl rfl<|Ae rfl<|Be rfl (by omega)<|Af rfl<|Ai rfl<|Af rfl<|Ag rfl (Aj 0 rfl rfl)<|Af rfl<|BG rfl (by assumption)<|Af rfl<|Ai rfl<|Af rfl<|Ag rfl (Aj 0 rfl rfl)<|Af rfl<|AN rfl<|Af rfl<|AO rfl rfl (by omega) (by omega)<|Af rfl<|AJ rfl rfl<|AF rfl rfl<|Ae rfl<|Be rfl (by omega)<|Af rfl<|Ai rfl<|Af rfl<|Ag rfl (Aj 0 rfl rfl)<|Af rfl ?_)
     refine BS rfl (h4 hiv' (fun u x hx=>Vg h5 hx)) ?_
     (refine Af rfl<|Bu rfl<|AF rfl rfl<|Ae rfl<|Aa<|An ?_)
     (apply Ek;rfl)
     rw [ei]
     simp [A4,hok,h1',h2']
    ·(refine Ad<|AE rfl rfl<|Aa<|Ah<|Ar rfl (by omega)<|Bj<|Ah<|Ad<|Ai rfl<|Ag rfl (Aj 0 rfl rfl)<|Aa<|AS rfl<|Ak<|Ad<|Ai rfl<|Ag rfl (Aj 0 rfl rfl)<|BG rfl (by assumption)<|AJ rfl rfl<|Ae rfl<|Be rfl (by omega)<|Af rfl<|Ai rfl<|Af rfl<|Ag rfl (Aj 0 rfl rfl)<|Af rfl<|BG rfl (by assumption)<|Af rfl<|Ai rfl<|Af rfl<|Ag rfl (Aj 0 rfl rfl)<|Af rfl<|AN rfl<|Af rfl<|AO rfl rfl (by omega) (by omega)<|Af rfl<|AJ rfl rfl<|AF rfl rfl<|Ae rfl<|Bc rfl (by omega)<|Ap rfl<|Ap rfl<|Ap rfl<|Ap rfl<|As rfl rfl<|Ae rfl<|Aa<|An ?_)
     (apply Ek;rfl)
     (first|(simp [A4,hok,h1',h2'];done)|(simp [A4,hok,h1',h2'];omega))
   ·(refine Ad<|AE rfl rfl<|Aa<|Ah<|Ar rfl (by omega)<|Bj<|Ah<|Ad<|Ai rfl<|Ag rfl (Aj 0 rfl rfl)<|Aa<|AS rfl<|Ak<|Ad<|Ai rfl<|Ag rfl (Aj 0 rfl rfl)<|BG rfl (by assumption)<|AJ rfl rfl<|Ae rfl<|Bc rfl (by omega)<|Ap rfl<|Ap rfl<|Ap rfl<|Ap rfl<|Ap rfl<|Ap rfl<|Ap rfl<|Ap rfl<|As rfl rfl<|Ae rfl<|Ap rfl<|Ap rfl<|Ap rfl<|Ap rfl<|As rfl rfl<|Ae rfl<|Aa<|An ?_)
    (apply Ek;rfl)
    (first|(simp [A4,hok,h1'];done)|(simp [A4,hok,h1'];omega))
  ·by_cases h2':vs.length=ks.length
   ·by_cases h1':is.length=0
    ·(refine Ad<|AE rfl rfl<|Aa<|Ah<|Ar rfl (by omega)<|Bj<|Ah<|Ad<|Ai rfl<|Ag rfl (Aj 0 rfl rfl)<|Aa<|Bh rfl<|Ad<|Ai rfl<|Ag rfl (Aj 0 rfl rfl)<|BG rfl (by assumption)<|Ai rfl<|Ag rfl (Aj 0 rfl rfl)<|AN rfl<|AJ rfl rfl<|Ae rfl<|Be rfl (by omega)<|Af rfl<|Ai rfl<|Af rfl<|Ag rfl (Aj 0 rfl rfl)<|Af rfl<|BG rfl (by assumption)<|Af rfl<|AJ rfl rfl<|AF rfl rfl<|Ae rfl<|Be rfl (by omega)<|Af rfl<|Ai rfl<|Af rfl<|Ag rfl (Aj 0 rfl rfl)<|Af rfl ?_)
     refine BS rfl (h2 hv' (fun u x hx=>Wh h3 hx)) ?_
     (refine Af rfl<|Bu rfl<|AF rfl rfl<|Ae rfl<|Aa<|An ?_)
     (apply Ek;rfl)
     rw [ea]
     simp [A4,hok,h1',h2']
    ·(refine Ad<|AE rfl rfl<|Aa<|Ah<|Ar rfl (by omega)<|Bj<|Ah<|Ad<|Ai rfl<|Ag rfl (Aj 0 rfl rfl)<|Aa<|Bh rfl<|Ad<|Ai rfl<|Ag rfl (Aj 0 rfl rfl)<|BG rfl (by assumption)<|Ai rfl<|Ag rfl (Aj 0 rfl rfl)<|AN rfl<|AJ rfl rfl<|Ae rfl<|Be rfl (by omega)<|Af rfl<|Ai rfl<|Af rfl<|Ag rfl (Aj 0 rfl rfl)<|Af rfl<|BG rfl (by assumption)<|Af rfl<|AJ rfl rfl<|AF rfl rfl<|Ae rfl<|Bc rfl (by omega)<|Ap rfl<|Ap rfl<|Ap rfl<|Ap rfl<|As rfl rfl<|Ae rfl<|Aa<|An ?_)
     (apply Ek;rfl)
     (first|(simp [A4,hok,h1',h2'];done)|(simp [A4,hok,h1',h2'];omega))
   ·(refine Ad<|AE rfl rfl<|Aa<|Ah<|Ar rfl (by omega)<|Bj<|Ah<|Ad<|Ai rfl<|Ag rfl (Aj 0 rfl rfl)<|Aa<|Bh rfl<|Ad<|Ai rfl<|Ag rfl (Aj 0 rfl rfl)<|BG rfl (by assumption)<|Ai rfl<|Ag rfl (Aj 0 rfl rfl)<|AN rfl<|AJ rfl rfl<|Ae rfl<|Bc rfl (by omega)<|Ap rfl<|Ap rfl<|Ap rfl<|Ap rfl<|As rfl rfl<|Ae rfl<|Ap rfl<|Ap rfl<|Ap rfl<|Ap rfl<|As rfl rfl<|Ae rfl<|Aa<|An ?_)
    (apply Ek;rfl)
    (first|(simp [A4,hok,h2'];done)|(simp [A4,hok,h2'];omega))
def By(n:AB):Bool:=A4 n && decide (A3 n≤256)
def IU(P:Program) (f:FuncId):Prop:=∀{d:Ac}{cs:List Value}{n:AB},Cz d cs n→A3 n≤1000000000000→CQ P f [.agg cs.toArray] d (.bool (By n))
def R0(a0 a1:Nat):AY:=⟨10,[(.tmp 2)],(sR (o1 1 (.box (tP 0))<|o1 2 (.mv (.const (.bool false))) .done) (sR (o1 3 (.ld (some 4) (tP 1))<|oc 4 a0 [(tP 3)]<|om 5 4<|oT 6 5 (.ld (some 4) (tP 1))<|oT 7 5 (.call a1 [(tP 6)])<|oT 8 5 (.bin .leq (tP 7) (kZ 256))<|gP 9 5 8<|om 2 9 .done) .ret))⟩
theorem NH{P:Program}{f f1 f2:FuncId} (hd:dec P f=some (R0 f1 f2)) (h1:LG P f1) (h2:KB P f2):IU P f:=by
 intro d cs n hn hb
 refine AG hd (Aca rfl) ?_
 have hn':=hn
 obtain⟨kv,vv,iv,rfl,hk,hv,hiv⟩:∃kv vv iv,cs=[.bool n.leaf,kv,vv,iv]∧C5 d kv n.keys∧C5 d vv n.vals∧Dt d iv n.kids:=hn
 show gwp P _ _ _ _ _
 (refine Ad<|Cr rfl (fun _ _=>Ae rfl<|Aa<|Ad<|Bf 0 rfl rfl rfl ?_))
 refine BS rfl (h1 hn') ?_
 cases hs:A4 n with
 |false=>
  (refine Ae rfl<|Ap rfl<|Ap rfl<|Ap rfl<|As rfl rfl<|Ae rfl<|Aa<|An ?_)
  (apply Ek;rfl)
  simp [By,hs]
 |true=>
  (refine Ae rfl<|Af rfl<|Bf 0 rfl rfl rfl<|Af rfl ?_)
  refine BS rfl (h2 hn' hb) ?_
  (refine Af rfl<|N7 rfl rfl<|AF rfl rfl<|Ae rfl<|Aa<|An ?_)
  (apply Ek;rfl)
  (rw [Agx];simp [By,hs];omega)
end Go.Gk.Node
end
