/-
  Our own texts, one behind the other: GkPg1 GkPg2 GkPg3 GkPg4 GkPg5 GkC5 GkPg6 GkPg7 GkPg8 GkPgL GkPgM Gk28 Gk29 Gk40 GkH1 GkH2 GkH3 GkH4 GkH5 GkNode1 GkNode2 GkNode3 GkNode4.
-/
import Derived.Recover
import Derived.BigFrame
import Derived.Test.YtpkcbopokjffhaaGreatPoC
open Nat renaming le_of_ble_eq_true→Aca,le_refl→Ach,zero_le→Adf,zero_add→Aeh,add_sub_cancel→Aet,sub_self→Afy,le_trans→Agk,le_of_not_lt→Ahe
open List.Sublist renaming refl→Acb
open Bool renaming false_eq_true→Acj,or_eq_true→Adr,not_eq_true→Aev,not_eq_false'→Afu,eq_iff_iff→Agx
open List renaming getElem?_eq_getElem→Ace,getD_eq_getElem?_getD→Acf,perm_append_comm→Aci,length_append→Acl,length_drop→Aco,all_eq_true→Acq,replicate→Acr,length_cons→Acs,mem_cons_self→Acu,mem_singleton→Acv,length_take→Acw,take_succ_eq_append_getElem→Acx,sublist_cons_self→Acz,getElem_mem→Ada,range→Ade,drop_eq_getElem_cons→Adi,sublist_append_right→Adm,length_replicate→Adn,getElem?_eq_none→Adq,append_nil→Ads,nil_append→Adt,length_map→Adx,perm_append_comm_assoc→Ady,take_length→Aeg,getElem_of_mem→Aei,length_nil→Ael,drop_of_length_le→Aex,pairwise_iff_getElem→Afc,set_eq_of_length_le→Afh,map_cons→Afj,map_append→Afk,drop_length→Afv,getD→Afw,mapM_cons→Ahb
open List.Perm renaming cons→Acn,swap→Adc
open Option renaming bind_eq_some_iff→Adl,map_eq_some_iff→Ado,bind_some→Adz,map_some→Aeq,bind_eq_bind→Ahh
section
namespace Go.Gk.Pgr
open Go Go.Gk Go.Gk.Dev Go.Gk.Cch Go.Gk.Node
attribute [local irreducible] gwp gws xwp
abbrev kI(k:Int):Value:=.int .i64 k
abbrev mpI(mb:Nat) (ms:List (Int×Value×Nat)) (clk:Nat):Ac:=mp kI id mb ms clk
def LZ(d:Ac) (frm:Nat) (kinds:List Int) (fb:Nat→Sec) (ms:List (Int×Value×Nat)):Prop:=∀i,i<kinds.length→kinds.getD i 0=1→∃v,EG ((frm+i:Nat):Int) ms=some v∧AM d v (fb i)∧(fb i).length=256
theorem LZ.mono{d d':Ac}{frm:Nat}{kinds:List Int}{fb:Nat→Sec}{ms:List (Int×Value×Nat)} (h:LZ d frm kinds fb ms) (hl:Le d d'):LZ d' frm kinds fb ms:=fun i hi hk=>
 let ⟨v,h1,h2,h3⟩:=h i hi hk
 ⟨v,h1,h2.mono hl,h3⟩
def Pg(d:Ac) (s:PD) (dv pv:Value) (L:List Ac):Prop:=
 ∃b T cv bk cp hk mb ms clk c LC LD bd,pv=.pointer (some ⟨b,0,none⟩)∧dv=.pointer (some ⟨bd,0,none⟩)∧
  L=bx b T [dv,cv,.int .i64 s.frm,.slice (some ⟨bk,0,none⟩) s.kinds.length cp,.map (some mb),.int .i64 (wr s.round),.int .i64 (wr s.tc)]::hk::mpI mb ms clk::(LC++LD)∧
  As 1 Bi d (.slice (some ⟨bk,0,none⟩) s.kinds.length cp) s.kinds hk∧LZ d s.frm s.kinds s.fb ms∧Ca d c dv cv LC∧Dv d ⟨s.syn,[]⟩ dv LD∧Cz s c∧Good s
theorem Pg.mono{d d':Ac}{s:PD}{dv pv:Value}{L:List Ac} (h:Pg d s dv pv L) (hl:Le d d'):Pg d' s dv pv L:=
 let ⟨b,T,cv,bk,cp,hk,mb,ms,clk,c,LC,LD,bd,h1,h2,h3,h4,h5,h6,h7,h8,h9⟩:=h
 ⟨b,T,cv,bk,cp,hk,mb,ms,clk,c,LC,LD,bd,h1,h2,h3,As.mono (R:=Bi) Cb h4 hl,h5.mono hl,h6.mono hl,h7.mono hl,h8,h9⟩
theorem Pg.ptr{d:Ac}{s:PD}{dv pv:Value}{L:List Ac} (h:Pg d s dv pv L):∃b,pv=.pointer (some ⟨b,0,none⟩):=let ⟨b,_,_,_,_,_,_,_,_,_,_,_,_,h1,_⟩:=h;⟨b,h1⟩
theorem Pg.E0{d:Ac}{s:PD}{dv pv:Value}{L:List Ac} (h:Pg d s dv pv L):Good s:=let ⟨_,_,_,_,_,_,_,_,_,_,_,_,_,_,_,_,_,_,_,_,_,h9⟩:=h;h9
theorem Pg.mk{d:Ac}{s:PD}{b:Nat}{T:TypeId}{cv:Value}{bk cp n:Nat}{hk:Ac}{mb:Nat}{ms:List (Int×Value×Nat)}{clk:Nat}{c:CD}{LC LD:List Ac}{bd:Nat} (hn:s.kinds.length=n)
  (h4:As 1 Bi d (.slice (some ⟨bk,0,none⟩) n cp) s.kinds hk) (h5:LZ d s.frm s.kinds s.fb ms) (h6:Ca d c (.pointer (some ⟨bd,0,none⟩)) cv LC) (h7:Dv d ⟨s.syn,[]⟩ (.pointer (some ⟨bd,0,none⟩)) LD) (h8:Cz s c) (h9:Good s):
  Pg d s (.pointer (some ⟨bd,0,none⟩)) (.pointer (some ⟨b,0,none⟩)) (bx b T [.pointer (some ⟨bd,0,none⟩),cv,.int .i64 s.frm,.slice (some ⟨bk,0,none⟩) n cp,.map (some mb),.int .i64 (wr s.round),.int .i64 (wr s.tc)]::hk::mpI mb ms clk::(LC++LD)):=by
 subst hn
 exact⟨b,T,cv,bk,cp,hk,mb,ms,clk,c,LC,LD,bd,rfl,rfl,rfl,h4,h5,h6,h7,h8,h9⟩
def EN(P:Program) (f:FuncId):Prop:=∀{d:Ac}{b bd:Nat}{T:TypeId}{l:List Value},CW P f [.pointer (some ⟨b,0,none⟩)] d [bx b T (.pointer (some ⟨bd,0,none⟩)::l)] (.bool false)
def Kl:AY:=⟨12,[(.tmp 2)],(sR (o1 2 (.mv (.const (.bool false))) .done) (sR (om 3 0<|o1 4 (.eqp false (tP 3) (.const (.pointer none)))<|om 5 4<|gF 6 5 0<|oF 7 5 (.nilc (tP 6))<|oF 8 5 (.fld 0 (tP 7))<|oF 9 5 (.ld none (tP 8))<|oF 10 5 (.eqp false (tP 9) (.const (.pointer none)))<|o1 11 (.pick (tP 5) (.const (.bool true)) (tP 10))<|om 2 11 .done) .ret))⟩
theorem X6{P:Program}{f:FuncId} (hd:dec P f=some Kl):EN P f:=by
 intro d b bd T l
 refine AG hd (Aca rfl) ?_
 show gwp P _ _ _ _ _
 (refine Ad<|Ae rfl<|Aa<|Ad<|Ak rfl<|Cu rfl rfl<|Ae rfl<|Af rfl<|Ak rfl<|Af rfl<|Av rfl<|Af rfl<|Ai rfl<|Af rfl<|Ag rfl (Aj 0 rfl rfl)<|Af rfl<|Cu rfl rfl<|Aq rfl rfl<|Ae rfl<|Aa<|Ao ?_)
 exact JI rfl (Acb _)
def GZ(frm:Nat) (ks:List Int) (k:Int):Int:=if (frm:Int)≤k∧k<(frm:Int)+ks.length then ks.getD (k - frm).toNat 0 else -1
def I4(P:Program) (f:FuncId):Prop:=∀{d:Ac}{b bk cp frm:Nat}{T:TypeId}{x0 x1 x4 x5 x6:Value}{hk:Ac}{ks:List Int}{k:Int},As 1 Bi d (.slice (some ⟨bk,0,none⟩) ks.length cp) ks hk→frm≤8192→
 CW P f [.pointer (some ⟨b,0,none⟩),.int .i64 k] d [bx b T [x0,x1,.int .i64 frm,.slice (some ⟨bk,0,none⟩) ks.length cp,x4,x5,x6],hk] (.int .i64 (GZ frm ks k))
def K9:AY:=⟨37,[(.tmp 4)],(sR (o1 4 (.mv (kZ 0)) .done) (.seq (.seq (.reg true (pm 5 1<|pm 6 0<|p1 7 (.nilc (tP 6))<|p1 8 (.fld 2 (tP 7))<|pl 9 8<|p1 10 (.bin .lss (tP 5) (tP 9))<|pm 11 10 (.op true ⟨(some 12),(some (11,false)),(.mv (tP 1))⟩ (.op true ⟨(some 13),(some (11,false)),(.mv (tP 0))⟩ (.op true ⟨(some 14),(some (11,false)),(.nilc (tP 13))⟩ (.op true ⟨(some 15),(some (11,false)),(.fld 2 (tP 14))⟩ (.op true ⟨(some 16),(some (11,false)),(.ld none (tP 15))⟩ (.op true ⟨(some 17),(some (11,false)),(.mv (tP 0))⟩ (.op true ⟨(some 18),(some (11,false)),(.nilc (tP 17))⟩ (.op true ⟨(some 19),(some (11,false)),(.fld 3 (tP 18))⟩ (.op true ⟨(some 20),(some (11,false)),(.ld none (tP 19))⟩ (.op true ⟨(some 21),(some (11,false)),(.len (tP 20))⟩ (.op true ⟨(some 22),(some (11,false)),(.bin .add (tP 16) (tP 21))⟩ (.op true ⟨(some 23),(some (11,false)),(.bin .geq (tP 12) (tP 22))⟩ (p1 24 (.pick (tP 11) (.const (.bool true)) (tP 23)) .done))))))))))))))) (.cond (tP 24) (sR (o1 4 (.mv (kZ (-1))) .done) .ret) .skip)) (.seq (.reg true (pm 25 0<|p1 26 (.nilc (tP 25))<|p1 27 (.fld 3 (tP 26))<|pl 28 27<|pm 29 1<|pm 30 0<|p1 31 (.nilc (tP 30))<|p1 32 (.fld 2 (tP 31))<|pl 33 32<|p1 34 (.bin .sub (tP 29) (tP 33))<|p1 35 (.idx 1 (tP 28) (tP 34))<|pl 36 35 (.bar (pm 4 36 .done)))) .ret)))⟩
theorem Zs{P:Program}{f:FuncId} (hd:dec P f=some K9):I4 P f:=by
 intro d b bk cp frm T x0 x1 x4 x5 x6 hk ks k hg hf
 have hlen:=hg.BW
 refine AG hd (Aca rfl) ?_
 show gwp P _ _ _ _ _
 by_cases h1:k<frm
 ·(refine Ad<|Ab rfl<|Aa<|Ah<|Ah<|Bv<|Ab rfl<|Ak rfl<|Av rfl<|Ai rfl<|Ag rfl (Aj 0 rfl rfl)<|AA rfl rfl<|Ae rfl<|Bd rfl (by omega)<|An rfl<|An rfl<|An rfl<|An rfl<|An rfl<|An rfl<|An rfl<|An rfl<|An rfl<|An rfl<|An rfl<|An rfl<|AB rfl rfl<|A8<|Be rfl<|Ad<|Ab rfl<|Aa<|Ao ?_)
  rw [show GZ frm ks k= -1 by unfold GZ;rw [if_neg (by omega)]]
  exact JI rfl (Acb _)
 ·by_cases h2:k<(frm:Int)+ks.length
  ·obtain⟨m,hm⟩:∃m:Nat,k=(frm:Int)+m:=⟨(k - frm).toNat,by omega⟩
   subst hm
   have hml:m<ks.length:=by omega
   obtain⟨b1,T1,l1,c1,cs,q1,rfl,hcl,hcs,hle,⟨rfl, -, -⟩, -⟩:=As.at (by omega) hg hml
   cases q1
   have c0:=hcs 0 _ rfl
   rw [show GZ frm ks ((frm:Int)+m)=ks[m] by
    unfold GZ;rw [if_pos (by omega),show((frm:Int)+m - frm).toNat=m by omega,Acf,Ace hml];rfl]
   (refine Ad<|Ab rfl<|Aa<|Ah<|Ah<|Bv<|Ab rfl<|Ak rfl<|Av rfl<|Ai rfl<|Ag rfl (Aj 0 rfl rfl)<|AA rfl rfl<|Ae rfl<|AZ rfl (by omega)<|Af rfl<|Ab rfl<|Af rfl<|Ak rfl<|Af rfl<|Av rfl<|Af rfl<|Ai rfl<|Af rfl<|Ag rfl (Aj 0 rfl rfl)<|Af rfl<|Ak rfl<|Af rfl<|Av rfl<|Af rfl<|Ai rfl<|Af rfl<|Ag rfl (Aj 0 rfl rfl)<|Af rfl<|AL rfl<|Af rfl<|AN rfl rfl (by omega) (by omega)<|Af rfl<|DL rfl rfl<|Aq rfl rfl<|A8<|Ar rfl (by omega)<|Al<|Ah<|Bv<|Ak rfl<|Av rfl<|Ai rfl<|Ag rfl (Aj 0 rfl rfl)<|Ab rfl<|Ak rfl<|Av rfl<|Ai rfl<|Ag rfl (Aj 0 rfl rfl)<|CY rfl rfl (by omega) (by omega) ?_)
   refine Bx m rfl rfl (by omega) hml ?_
   (refine Ag rfl (Aj 1 rfl (by assumption))<|B4<|Ab rfl<|Aa<|Ao ?_)
   exact JI rfl (Acb _)
  ·(refine Ad<|Ab rfl<|Aa<|Ah<|Ah<|Bv<|Ab rfl<|Ak rfl<|Av rfl<|Ai rfl<|Ag rfl (Aj 0 rfl rfl)<|AA rfl rfl<|Ae rfl<|AZ rfl (by omega)<|Af rfl<|Ab rfl<|Af rfl<|Ak rfl<|Af rfl<|Av rfl<|Af rfl<|Ai rfl<|Af rfl<|Ag rfl (Aj 0 rfl rfl)<|Af rfl<|Ak rfl<|Af rfl<|Av rfl<|Af rfl<|Ai rfl<|Af rfl<|Ag rfl (Aj 0 rfl rfl)<|Af rfl<|AL rfl<|Af rfl<|AN rfl rfl (by omega) (by omega)<|Af rfl<|DL rfl rfl<|Aq rfl rfl<|A8<|Ay rfl (by omega)<|Ad<|Ab rfl<|Aa<|Ao ?_)
   rw [show GZ frm ks k= -1 by unfold GZ;rw [if_neg (by omega)]]
   exact JI rfl (Acb _)
def O7(P:Program) (f:FuncId):Prop:=∀{d:Ac}{v:Value}{xs:List Int}{x:Int},RSl 1 Bi d v xs→CT P f [v,.int .i64 x] d (.int .i64 (match C2 x xs with|some i=>(i:Int)|none=> -1))
def IP:AY:=⟨19,[(.tmp 4)],(sR (o1 4 (.mv (kZ 0)) .done) (.seq (sR (om 6 0<|oL 7 6<|o1 8 (.mv (kZ 0)) .done) (.block 0 (.loop (sR (ob 9 .lss (tP 8) (tP 7) .done) (.seq (.cond (tP 9) .skip (.exit 0)) (.seq (.block 1 (sR (om 10 8<|om 5 10 .done) (sR (om 11 1<|om 12 0<|om 13 5<|oI 14 1 12 13<|ol 15 14<|ob 16 .eql (tP 11) (tP 15) .done) (.cond (tP 16) (sR (om 17 5<|om 4 17 .done) .ret) .skip)))) (rG (ob 18 .add (tP 8) (kZ 1)<|om 8 18 .done)))))))) (sR (o1 4 (.mv (kZ (-1))) .done) .ret)))⟩
theorem YB{P:Program}{f:FuncId} (hd:dec P f=some IP):O7 P f:=by
 intro d v xs x hv
 have hlen:=hv.BW
 refine AG hd (Aca rfl) ?_
 show gwp P _ _ _ _ _
 (refine Ad<|Ab rfl<|Aa<|Ah<|Ad<|AK<|BE rfl (by assumption)<|Ab rfl<|Aa<|Ax ?_)
 refine CZ (α:=Nat) (fun i=>[(0,v),(1,.int .i64 x),(7,.int .i64 xs.length),(8,.int .i64 i)]) (fun _=>[]) (fun i=>i≤xs.length∧C2 x xs=(C2 x (xs.drop i)).map (·+i)) (fun i=>xs.length - i) 0 ⟨rfl,rfl,rfl,rfl,trivial⟩ rfl ⟨by omega,by simp⟩ ?_
 rintro i ρ ⟨hi,hF⟩
 by_cases e:i<xs.length
 ·rw [S0 e] at hF
  by_cases hx:x=xs[i]
  ·(refine Ad<|AA rfl rfl<|Aa<|Ah<|Ay rfl (by omega)<|Al<|Ah<|Ax<|Ad<|Ab rfl<|Ab rfl<|Aa<|Ad<|Ab rfl<|AK<|Ab rfl<|BH (sz:=1) (R:=Bi) (by rfl) (by assumption) (by rfl) rfl (by omega) ?_;rintro _ _ _ _ _ ⟨rfl,_,_⟩;refine Ag rfl (B5 (by assumption) rfl)<|AJ rfl rfl<|Aa<|Ay rfl (by omega)<|Ad<|Ab rfl<|Ab rfl<|Aa<|Ao ?_)
   rw [if_pos hx,Aeq,Aeh] at hF
   refine Hm rfl ?_
   rw [hF]
  ·(refine Ad<|AA rfl rfl<|Aa<|Ah<|Ay rfl (by omega)<|Al<|Ah<|Ax<|Ad<|Ab rfl<|Ab rfl<|Aa<|Ad<|Ab rfl<|AK<|Ab rfl<|BH (sz:=1) (R:=Bi) (by rfl) (by assumption) (by rfl) rfl (by omega) ?_;rintro _ _ _ _ _ ⟨rfl,_,_⟩;refine Ag rfl (B5 (by assumption) rfl)<|AJ rfl rfl<|Aa<|Ar rfl (by omega)<|Al<|AE<|AN rfl rfl (by omega) (by omega)<|Ab rfl<|Aa ?_)
   rw [if_neg hx,Option.map_map] at hF
   exact⟨i+1,by omega,⟨rfl,rfl,rfl,rfl,trivial⟩,rfl,rfl,e,by rw [hF];congr 1;funext z;simp only [Function.comp];omega⟩
 ·(refine Ad<|AA rfl rfl<|Aa<|Ah<|Ar rfl (by omega)<|Bh<|Ad<|Ab rfl<|Aa<|Ao ?_)
  have:C2 x xs=none:=by rw [hF,Aex (by omega)];rfl
  refine Hm rfl ?_
  rw [this]
def Hu(P:Program) (f:FuncId):Prop:=∀{d:Ac}{mb clk:Nat}{ms:List (Int×Value×Nat)},Le (mpI mb ms clk) d→Aw P f [.map (some mb)] d [] (Ret fun r d' L'=>d'=d∧∃q,r=.map (some q)∧L'=[mpI q ms clk])
def FK(a0:Nat):AY:=⟨9,[(.tmp 2)],(sR (o1 2 (.mv (.const (.map none))) .done) (.seq (sR (om 3 0<|o1 4 (.eqm false (tP 3) (.const (.map none))) .done) (.cond (tP 4) (sR (o1 2 (.mv (.const (.map none))) .done) .ret) .skip)) (sR (om 5 0<|o1 6 (.mki a0 (tP 5))<|o1 7 (.mop (.cln (tP 6)))<|o1 8 (.tas a0 (tP 7))<|om 2 8 .done) .ret)))⟩
theorem S7{P:Program}{f:FuncId}{t1:Nat} (hd:dec P f=some (FK t1)):Hu P f:=by
 intro d mb clk ms hm
 refine AG hd (Aca rfl) ?_
 show gwp P _ _ _ _ _
 (refine Ad<|AK<|Aa<|Ah<|Ad<|AK ?_)
 refine AaS rfl rfl ?_
 (refine Aa<|AR rfl<|Al<|Ad<|AK<|Abp ?_)
 refine Aby rfl ⟨d,.inl rfl,hm _ _ (Cy _ _)⟩ (fun q=>?_)
 refine Abh rfl ?_
 (refine AK<|Aa<|Ao ?_)
 exact BG rfl (Acb _) ⟨rfl,q,rfl,rfl⟩
theorem OT(s:PD) (k:Int):GZ s.frm s.kinds k=s.kind k:=rfl
theorem QN:Pn 0 kI:=Aaq
def FM(P:Program) (f:FuncId):Prop:=∀{d:Ac}{s:PD}{dv pv:Value}{L:List Ac},Pg d s dv pv L→Aw P f [pv] d L (Ret fun r d' L'=>r=.tuple #[.int .i64 s.AV.2.1,.int .i64 s.AV.2.2]∧Pg d' s.AV.1 dv pv L')
def KC(a0 a1:Nat):AY:=⟨37,[(.tmp 2),(.tmp 3)],(sR (o1 2 (.mv (kZ 0))<|o1 3 (.mv (kZ 0)) .done) (.seq (sR (om 5 0<|oc 6 a0 [(tP 5)] .done) (.cond (tP 6) (sR (o1 2 (.mv (kZ 0))<|o1 3 (.mv (kZ 1)) .done) .ret) .skip)) (sR (om 7 0<|o1 8 (.nilc (tP 7))<|oj 9 3 8<|ol 10 9<|oc 11 a1 [(tP 10),(kZ 0)]<|om 4 11 .done) (.seq (sR (om 12 4<|ob 13 .lss (tP 12) (kZ 0) .done) (.cond (tP 13) (sR (o1 2 (.mv (kZ 0))<|o1 3 (.mv (kZ 190)) .done) .ret) .skip)) (sR (om 14 0<|o1 15 (.nilc (tP 14))<|oj 16 3 15<|ol 17 16<|om 18 4<|oI 19 1 17 18<|o0 (.st 1 (tP 19) (kZ 1)) .done) (.seq (.reg true (pm 20 0<|p1 21 (.nilc (tP 20))<|p1 22 (.fld 4 (tP 21))<|pl 23 22<|pm 24 0<|p1 25 (.nilc (tP 24))<|p1 26 (.fld 2 (tP 25))<|pl 27 26<|pm 28 4<|p1 29 (.bin .add (tP 27) (tP 28))<|o1 30 (.mks 1 1 [(.int .u8 0)] (kZ 256) (kZ 256))<|o0 (.mop (.up 0 (tP 23) (tP 29) (tP 30))) .done)) (sR (om 31 0<|o1 32 (.nilc (tP 31))<|oj 33 2 32<|ol 34 33<|om 35 4<|ob 36 .add (tP 34) (tP 35)<|om 2 36<|o1 3 (.mv (kZ 0)) .done) .ret)))))))⟩
set_option maxRecDepth 4000 in
theorem OX{P:Program}{f f1 f2:FuncId} (hd:dec P f=some (KC f1 f2)) (h1:EN P f1) (h2:O7 P f2):FM P f:=by
 intro d s dv pv L hp
 have hp0:=hp
 obtain⟨b,T,cv,bk,cp,hk,mb,ms,clk,c,LC,LD,bd,rfl,rfl,rfl,hg,hm,hC,hD,hc,hG⟩:=hp
 have hone:=hG.one
 have hlen:=hG.len
 have hinn:=hG.inn
 have hsyn:=hG.syn
 refine AG hd (Aca rfl) ?_
 show gwp P _ _ _ _ _
 (refine Ad<|Ab rfl<|Ab rfl<|Aa<|Ah<|Ad<|Ak rfl ?_)
 refine CM (A:=[_]) (B:=_::_::(LC++LD)) rfl rfl h1 ?_
 (refine Aa<|AR rfl<|Al<|Ad<|Ak rfl<|Av rfl<|Ai rfl<|Ag rfl (Aj 0 rfl rfl) ?_)
 refine LX (A:=[hk]) (B:=_::_::(LC++LD)) (Adc _ _ _) rfl (CT.borrow (fun d1 hl1 hk1=>h2 (x:=0) (As.rsl (R:=Bi) hg Cb (by omega) hl1 (hk1 _ (Acv.2 rfl))))) ?_
 cases hq:C2 0 s.kinds with
 |none=>
  refine Fc (g:=11) (v:=.int .i64 (-1)) rfl ?_
  (refine Ab rfl<|Aa<|Ah<|Ad<|Ab rfl<|AA rfl rfl<|Aa<|Ay rfl (by omega)<|Ad<|Ab rfl<|Ab rfl<|Aa<|Ao ?_)
  have hr:s.AV=(s,0,190):=by unfold PD.AV;rw [hq]
  rw [hr]
  exact CF rfl rfl (Acb _) ⟨rfl,hp0⟩
 |some i=>
  obtain⟨hi,h0⟩:=FP hq
  have hr:s.AV=(s.G9 i,((s.frm+i:Nat):Int),0):=by unfold PD.AV;rw [hq]
  rw [hr]
  obtain⟨b1,T1,l1,c1,cs,q1,rfl,hcl,hcs,hle, -,hset⟩:=As.at (by omega) hg hi
  cases q1
  refine Fc (g:=11) (v:=.int .i64 i) rfl ?_
  (refine Ab rfl<|Aa<|Ah<|Ad<|Ab rfl<|AA rfl rfl<|Aa<|Ar rfl (by omega)<|Al<|Ad<|Ak rfl<|Av rfl<|Ai rfl<|Ag rfl (Aj 0 rfl rfl)<|Ab rfl<|Bx _ rfl rfl rfl (by omega) ?_)
  refine A0 1 (patch l1 (i*1) [.int .i64 1]) rfl rfl rfl rfl (by omega) rfl rfl ?_
  (refine Aa<|Ah ?_)
  refine Br [_] _ rfl ?_
  (refine Ak rfl<|Av rfl<|Ai rfl<|Ag rfl (Aj 0 rfl rfl)<|Ak rfl<|Av rfl<|Ai rfl<|Ag rfl (Aj 0 rfl rfl)<|Ab rfl<|AN rfl rfl (by omega) (by omega) ?_)
  refine Hp (n:=256) (c:=256) rfl rfl (Ach _) (by omega) (by omega) (fun bz Tz=>?_)
  refine YD (kE:=kI) (vE:=id) (k:=((s.frm+i:Nat):Int)) QN 2 rfl rfl ?_ rfl ?_
  ·exact int_eq (by omega)
  refine HF ⟨join d (bx bz Tz (Bp [.int .u8 0] (256*1))),_::_::_::(LC++LD),(Vs.perm (Adc _ _ _)).trans Vs.freeze,?_⟩
  have hl:Le d (join d (bx bz Tz (Bp [.int .u8 0] (256*1)))):=Le.AI _ _
  have hz:AM (join d (bx bz Tz (Bp [.int .u8 0] (256*1)))) (.slice (some ⟨bz,0,none⟩) 256 256) IF:=
   As.rsl (R:=AP) (sz:=1) (As.zero (sz:=1) (z:=[.int .u8 0]) (d:=d) (b:=bz) (T:=Tz) (n:=256) (R:=AP) (x:=(0:UInt8)) rfl (by omega) rfl (by omega)) AX (by omega) hl (Le.A9 _ _)
  have hlk:(s.G9 i).kinds.length=s.kinds.length:=by simp [PD.G9]
  have hP:=Pg.mk (d:=join d (bx bz Tz (Bp [.int .u8 0] (256*1)))) (s:=s.G9 i) (b:=b) (T:=T) (cv:=cv) (bk:=bk) (cp:=cp) (mb:=mb) (clk:=Pr ((s.frm+i:Nat):Int) clk ms) (c:=c) (LC:=LC) (LD:=LD) (bd:=bd) hlk
   (As.mono (R:=Bi) Cb (hset [.int .i64 1] 1 rfl ⟨rfl,by decide,by decide⟩) hl) (ms:=GQ ((s.frm+i:Nat):Int) (.slice (some ⟨bz,0,none⟩) 256 256) clk ms) (fun j hj hj1=>?_) (hC.mono hl) (hD.mono hl)
   (hc.to rfl rfl (Og.set (by rw [show s.kinds.getD i 0=0 by rw [Acf,Ace hi,h0];rfl];omega))) (hG.to rfl rfl (i:=i) (x:=1) rfl (by omega) (by omega))
  ·(refine Ad<|Ak rfl<|Av rfl<|Ai rfl<|Ag rfl (Aj 0 rfl rfl)<|Ab rfl<|AN rfl rfl (by omega) (by omega)<|Ab rfl<|Ab rfl<|Aa<|Ao ?_)
   exact CF (int_eq (show(s.frm:Int)+i=((s.frm+i:Nat):Int) by omega)) rfl (Acb _) ⟨rfl,hP⟩
  ·show∃v,EG ((s.frm+j:Nat):Int) (GQ ((s.frm+i:Nat):Int) (.slice (some ⟨bz,0,none⟩) 256 256) clk ms)=some v∧AM _ v (El s.fb i IF j)∧(El s.fb i IF j).length=256
   rw [get_put]
   by_cases e:j=i
   ·subst e
    exact⟨_,if_pos rfl,by simp only [El,if_true];exact hz,by simp only [El,if_true];exact Adn⟩
   ·rw [if_neg (by omega)]
    have hk1:s.kinds.getD j 0=1:=by
     have:(s.kinds.set i 1).getD j 0=1:=hj1
     rw [C5 hi,if_neg e] at this;exact this
    obtain⟨v,g1,g2,g3⟩:=hm j (by rw [←hlk];exact hj) hk1
    exact⟨v,g1,by simp only [El,if_neg e];exact g2.mono hl,by simp only [El,if_neg e];exact g3⟩
def Oy(P:Program) (f:FuncId):Prop:=∀{d:Ac}{s:PD}{dv pv w:Value}{L:List Ac}{k:Int}{b:Sec},Pg d s dv pv L→AM d w b→Aw P f [pv,.int .i64 k,w] d L (Ret fun r d' L'=>r=.int .i64 (s.put k b).2∧Pg d' (s.put k b).1 dv pv L')
def Mm(a0 a1 a2:Nat):AY:=⟨26,[(.tmp 6)],(sR (o1 6 (.mv (kZ 0)) .done) (.seq (.block 0 (sR (om 8 0<|oc 9 a0 [(tP 8)]<|om 7 9 .done) (.cond (tP 7) (sR (o1 6 (.mv (kZ 1)) .done) .ret) (sR (om 11 0<|om 12 1<|oc 13 a1 [(tP 11),(tP 12)]<|ob 14 .neq (tP 13) (kZ 1)<|om 10 14 .done) (.cond (tP 10) (sR (o1 6 (.mv (kZ 240)) .done) .ret) (sR (om 16 2<|oL 17 16<|ob 18 .neq (tP 17) (kZ 256)<|om 15 18 .done) (.cond (tP 15) (sR (o1 6 (.mv (kZ 2)) .done) .ret) .skip))))))) (.seq (.reg true (pm 19 0<|p1 20 (.nilc (tP 19))<|p1 21 (.fld 4 (tP 20))<|pl 22 21<|pm 23 1<|pm 24 2<|oc 25 a2 [(tP 24)]<|o0 (.mop (.up 0 (tP 22) (tP 23) (tP 25))) .done)) (sR (o1 6 (.mv (kZ 0)) .done) .ret))))⟩
set_option maxRecDepth 4000 in
theorem Aak{P:Program}{f f1 f2 f3:FuncId} (hd:dec P f=some (Mm f1 f2 f3)) (h1:EN P f1) (h2:I4 P f2) (h3:DZ AP 1 P f3):Oy P f:=by
 intro d s dv pv w L k by_ hp hw
 have hp0:=hp
 have hwl:=hw.BW
 have hw':RSl 1 AP d w by_:=hw
 obtain⟨b,T,cv,bk,cp,hk,mb,ms,clk,c,LC,LD,bd,rfl,rfl,rfl,hg,hm,hC,hD,hc,hG⟩:=hp
 have hlen:=hG.len
 have hinn:=hG.inn
 have hsyn:=hG.syn
 refine AG hd (Aca rfl) ?_
 show gwp P _ _ _ _ _
 (refine Ad<|Ab rfl<|Aa<|Ah<|Ax<|Ad<|Ak rfl ?_)
 refine CM (A:=[_]) (B:=_::_::(LC++LD)) rfl rfl h1 ?_
 (refine Ae rfl<|Aa<|AR rfl<|Ad<|Ak rfl<|Ab rfl ?_)
 refine CM (A:=[_,hk]) (B:=_::(LC++LD)) rfl rfl (h2 (k:=k) hg (by omega)) ?_
 rw [OT]
 by_cases hk1:s.kind k=1
 ·by_cases hb:by_.length=256
  ·obtain⟨i,hi,rfl,hki,hti⟩:=CO hk1 (by omega)
   have hr:s.put ((s.frm+i:Nat):Int) by_=({s with fb:=El s.fb i by_},0):=by unfold PD.put;rw [if_pos hk1,if_pos hb,hti]
   rw [hr]
   (refine AO rfl rfl<|Ae rfl<|Aa<|Ar rfl (by omega)<|Ad<|AK<|BE rfl (by assumption)<|AO rfl rfl<|Ae rfl<|Aa<|Ar rfl (by omega)<|Al<|Ah ?_)
   refine Br [_] (hk::mpI mb ms clk::(LC++LD)) rfl ?_
   (refine Ak rfl<|Av rfl<|Ai rfl<|Ag rfl (Aj 0 rfl rfl)<|Ab rfl<|AK ?_)
   refine Bk rfl (h3 hw' (by omega)) (fun u d2 L2 _ ⟨e1,h,e2,hrow⟩=>?_)
   subst e1;subst e2
   refine YD (kE:=kI) (vE:=id) (k:=((s.frm+i:Nat):Int)) QN 2 rfl rfl rfl rfl ?_
   refine HF ⟨join d2 h,_::_::_::(LC++LD),(Vs.perm (Adc _ _ _)).trans Vs.freeze,?_⟩
   have hl:Le d2 (join d2 h):=Le.AI _ _
   have hz:AM (join d2 h) u by_:=As.rsl (R:=AP) (sz:=1) hrow AX (by omega) hl (Le.A9 _ _)
   have hP:=Pg.mk (d:=join d2 h) (s:={s with fb:=El s.fb i by_}) (b:=b) (T:=T) (cv:=cv) (bk:=bk) (cp:=cp) (mb:=mb) (clk:=Pr ((s.frm+i:Nat):Int) clk ms) (c:=c) (LC:=LC) (LD:=LD) (bd:=bd) rfl
    (As.mono (R:=Bi) Cb hg hl) (ms:=GQ ((s.frm+i:Nat):Int) u clk ms) (fun j hj hj1=>?_) (hC.mono hl) (hD.mono hl) (hc.to rfl rfl (Og.refl _)) (hG.to' rfl rfl rfl)
   ·(refine Ad<|Ab rfl<|Aa<|Ao ?_)
    exact BG rfl (Acb _) ⟨rfl,hP⟩
   ·show∃v,EG ((s.frm+j:Nat):Int) (GQ ((s.frm+i:Nat):Int) u clk ms)=some v∧AM _ v (El s.fb i by_ j)∧(El s.fb i by_ j).length=256
    rw [get_put]
    by_cases e:j=i
    ·subst e
     exact⟨_,if_pos rfl,by simp only [El,if_true];exact hz,by simp only [El,if_true];exact hb⟩
    ·rw [if_neg (by omega)]
     obtain⟨v,g1,g2,g3⟩:=hm j hj hj1
     exact⟨v,g1,by simp only [El,if_neg e];exact g2.mono hl,by simp only [El,if_neg e];exact g3⟩
  ·have hr:s.put k by_=(s,2):=by unfold PD.put;rw [if_pos hk1,if_neg hb]
   rw [hr]
   (refine AO rfl rfl<|Ae rfl<|Aa<|Ar rfl (by omega)<|Ad<|AK<|BE rfl (by assumption)<|AO rfl rfl<|Ae rfl<|Aa<|Ay rfl (by omega)<|Ad<|Ab rfl<|Aa<|Ao ?_)
   exact BG rfl (Acb _) ⟨rfl,hp0⟩
 ·have hr:s.put k by_=(s,240):=by unfold PD.put;rw [if_neg hk1]
  rw [hr]
  (refine AO rfl rfl<|Ae rfl<|Aa<|Ay rfl (by omega)<|Ad<|Ab rfl<|Aa<|Ao ?_)
  exact BG rfl (Acb _) ⟨rfl,hp0⟩
def Gt(P:Program) (f:FuncId):Prop:=∀{d:Ac}{s:PD}{dv pv:Value}{L:List Ac}{k:Int},Pg d s dv pv L→Aw P f [pv,.int .i64 k] d L (Ret fun r d' L'=>r=.int .i64 (s.drop k).2∧Pg d' (s.drop k).1 dv pv L')
def Ki(a0 a1:Nat):AY:=⟨41,[(.tmp 4)],(sR (o1 4 (.mv (kZ 0)) .done) (.seq (sR (om 5 0<|oc 6 a0 [(tP 5)] .done) (.cond (tP 6) (sR (o1 4 (.mv (kZ 1)) .done) .ret) .skip)) (.seq (sR (om 7 0<|om 8 1<|oc 9 a1 [(tP 7),(tP 8)] .done) (.block 0 (sR (ob 11 .eql (tP 9) (kZ 1)<|om 10 11 .done) (.cond (tP 10) (.seq (.reg true (pm 12 0<|p1 13 (.nilc (tP 12))<|p1 14 (.fld 3 (tP 13))<|pl 15 14<|pm 16 1<|pm 17 0<|p1 18 (.nilc (tP 17))<|p1 19 (.fld 2 (tP 18))<|pl 20 19<|p1 21 (.bin .sub (tP 16) (tP 20))<|p1 22 (.idx 1 (tP 15) (tP 21)) (.bar (o0 (.st 1 (tP 22) (kZ 0)) .done)))) (rG (om 23 0<|o1 24 (.nilc (tP 23))<|oj 25 4 24<|ol 26 25<|om 27 1<|o0 (.mop (.del 0 (tP 26) (tP 27))) .done))) (sR (ob 29 .eql (tP 9) (kZ 2)<|om 28 29 .done) (.cond (tP 28) (.reg true (pm 30 0<|p1 31 (.nilc (tP 30))<|p1 32 (.fld 3 (tP 31))<|pl 33 32<|pm 34 1<|pm 35 0<|p1 36 (.nilc (tP 35))<|p1 37 (.fld 2 (tP 36))<|pl 38 37<|p1 39 (.bin .sub (tP 34) (tP 38))<|p1 40 (.idx 1 (tP 33) (tP 39)) (.bar (o0 (.st 1 (tP 40) (kZ 3)) .done)))) (sR (o1 4 (.mv (kZ 240)) .done) .ret))))))) (sR (o1 4 (.mv (kZ 0)) .done) .ret))))⟩
set_option maxRecDepth 4000 in
theorem ZB{P:Program}{f f1 f2:FuncId} (hd:dec P f=some (Ki f1 f2)) (h1:EN P f1) (h2:I4 P f2):Gt P f:=by
 intro d s dv pv L k hp
 have hp0:=hp
 obtain⟨b,T,cv,bk,cp,hk,mb,ms,clk,c,LC,LD,bd,rfl,rfl,rfl,hg,hm,hC,hD,hc,hG⟩:=hp
 have hlen:=hG.len
 have hinn:=hG.inn
 have hsyn:=hG.syn
 refine AG hd (Aca rfl) ?_
 show gwp P _ _ _ _ _
 (refine Ad<|Ab rfl<|Aa<|Ah<|Ad<|Ak rfl ?_)
 refine CM (A:=[_]) (B:=_::_::(LC++LD)) rfl rfl h1 ?_
 (refine Aa<|AR rfl<|Al<|Ah<|Ad<|Ak rfl<|Ab rfl ?_)
 refine CM (A:=[_,hk]) (B:=_::(LC++LD)) rfl rfl (h2 (k:=k) hg (by omega)) ?_
 rw [OT]
 by_cases hk1:s.kind k=1
 ·obtain⟨i,hi,rfl,hki,hti⟩:=CO hk1 (by omega)
  have hr:s.drop ((s.frm+i:Nat):Int)=({s with kinds:=s.kinds.set i 0},0):=by unfold PD.drop;rw [if_pos hk1,hti]
  rw [hr]
  obtain⟨b1,T1,l1,c1,cs,q1,rfl,hcl,hcs,hle, -,hset⟩:=As.at (by omega) hg hi
  cases q1
  (refine Aa<|Ax<|Ad<|AJ rfl rfl<|Ae rfl<|Aa<|Ay rfl (by omega)<|Ah ?_)
  refine Br [_] (bx bk T1 l1::mpI mb ms clk::(LC++LD)) rfl ?_
  (refine Ak rfl<|Av rfl<|Ai rfl<|Ag rfl (Aj 0 rfl rfl)<|Ab rfl<|Ak rfl<|Av rfl<|Ai rfl<|Ag rfl (Aj 0 rfl rfl)<|CY rfl rfl (by omega) (by omega) ?_)
  refine Bx i rfl rfl (by omega) hi ?_
  (apply B4)
  refine A0 1 (patch l1 (i*1) [.int .i64 0]) rfl rfl rfl rfl hle rfl rfl ?_
  refine HF ⟨d,_::_::_::(LC++LD),Vs.refl _ _,?_⟩
  (refine AE<|Ak rfl<|Av rfl<|Ai rfl<|Ag rfl (Aj 0 rfl rfl)<|Ab rfl ?_)
  refine Abq (k:=((s.frm+i:Nat):Int)) QN 2 rfl rfl rfl ?_
  have hP:=Pg.mk (d:=d) (s:={s with kinds:=s.kinds.set i 0}) (b:=b) (T:=T) (cv:=cv) (bk:=bk) (cp:=cp) (mb:=mb) (clk:=clk) (c:=c) (LC:=LC) (LD:=LD) (bd:=bd) (n:=s.kinds.length) (by simp)
    (hset [.int .i64 0] 0 rfl ⟨rfl,by omega,by omega⟩) (ms:=IH ((s.frm+i:Nat):Int) ms) (fun j hj hj1=>?_) hC hD (hc.to rfl rfl (Og.set (by rw [show s.kinds.getD i 0=1 from hki];omega))) (hG.to rfl rfl rfl (by omega) (by omega))
  ·(refine Aa<|Ad<|Ab rfl<|Aa<|Ao ?_)
   exact BG rfl (Acb _) ⟨rfl,hP⟩
  ·have hj1':(s.kinds.set i 0).getD j 0=1:=hj1
   rw [C5 hi] at hj1'
   by_cases e:j=i
   ·rw [if_pos e] at hj1';cases hj1'
   ·rw [if_neg e] at hj1'
    obtain⟨v,g1,g2,g3⟩:=hm j (by simpa using hj) hj1'
    have g0:EG ((s.frm+j:Nat):Int) (IH ((s.frm+i:Nat):Int) ms)=some v:=by rw [TS (by omega)];exact g1
    exact⟨v,g0,g2,g3⟩
 ·by_cases hk2:s.kind k=2
  ·obtain⟨i,hi,rfl,hki,hti⟩:=CO hk2 (by omega)
   have hr:s.drop ((s.frm+i:Nat):Int)=({s with kinds:=s.kinds.set i 3},0):=by unfold PD.drop;rw [if_neg hk1,if_pos hk2,hti]
   rw [hr]
   obtain⟨b1,T1,l1,c1,cs,q1,rfl,hcl,hcs,hle, -,hset⟩:=As.at (by omega) hg hi
   cases q1
   (refine Aa<|Ax<|Ad<|AJ rfl rfl<|Ae rfl<|Aa<|Ar rfl (by omega)<|Ad<|AJ rfl rfl<|Ae rfl<|Aa<|Ay rfl (by omega) ?_)
   refine Br [_] (bx bk T1 l1::mpI mb ms clk::(LC++LD)) rfl ?_
   (refine Ak rfl<|Av rfl<|Ai rfl<|Ag rfl (Aj 0 rfl rfl)<|Ab rfl<|Ak rfl<|Av rfl<|Ai rfl<|Ag rfl (Aj 0 rfl rfl)<|CY rfl rfl (by omega) (by omega) ?_)
   refine Bx i rfl rfl (by omega) hi ?_
   (apply B4)
   refine A0 1 (patch l1 (i*1) [.int .i64 3]) rfl rfl rfl rfl hle rfl rfl ?_
   refine HF ⟨d,_::_::_::(LC++LD),Vs.refl _ _,?_⟩
   have hP:=Pg.mk (d:=d) (s:={s with kinds:=s.kinds.set i 3}) (b:=b) (T:=T) (cv:=cv) (bk:=bk) (cp:=cp) (mb:=mb) (clk:=clk) (c:=c) (LC:=LC) (LD:=LD) (bd:=bd) (n:=s.kinds.length) (by simp)
     (hset [.int .i64 3] 3 rfl ⟨rfl,by omega,by omega⟩) (ms:=ms) (fun j hj hj1=>?_) hC hD (hc.to rfl rfl (Og.set (by rw [show s.kinds.getD i 0=2 from hki];omega))) (hG.to rfl rfl rfl (by omega) (by omega))
   ·(refine Ad<|Ab rfl<|Aa<|Ao ?_)
    exact BG rfl (Acb _) ⟨rfl,hP⟩
   ·have hj1':(s.kinds.set i 3).getD j 0=1:=hj1
    rw [C5 hi] at hj1'
    by_cases e:j=i
    ·rw [if_pos e] at hj1';cases hj1'
    ·rw [if_neg e] at hj1'
     exact hm j (by simpa using hj) hj1'
  ·have hr:s.drop k=(s,240):=by unfold PD.drop;rw [if_neg hk1,if_neg hk2]
   rw [hr]
   (refine Aa<|Ax<|Ad<|AJ rfl rfl<|Ae rfl<|Aa<|Ar rfl (by omega)<|Ad<|AJ rfl rfl<|Ae rfl<|Aa<|Ar rfl (by omega)<|Ad<|Ab rfl<|Aa<|Ao ?_)
   exact BG rfl (Acb _) ⟨rfl,hp0⟩
def AbM(d:Ac) (h:Option Sec) (r:Value):Prop:=match h with|some x=>AM d r x|none=>r=.slice none 0 0
def Fq(P:Program) (f:FuncId):Prop:=∀{d:Ac}{s:PD}{dv pv:Value}{L:List Ac}{k:Int},Pg d s dv pv L→
 Aw P f [pv,.int .i64 k] d L (Ret fun r d' L'=>(∃q,r=.tuple #[q,.int .i64 (match (s.get k).2 with|some _=>0|none=>240)]∧AbM d' (s.get k).2 q)∧Pg d' (s.get k).1 dv pv L')
def Mt(a0 a1 a2 a3 a4:Nat):AY:=⟨57,[(.tmp 4),(.tmp 5)],(sR (o1 4 (.mv nS)<|o1 5 (.mv (kZ 0)) .done) (.seq (sR (om 8 0<|oc 9 a0 [(tP 8)] .done) (.cond (tP 9) (sR (o1 4 (.mv nS)<|o1 5 (.mv (kZ 1)) .done) .ret) .skip)) (.seq (sR (om 10 0<|om 11 1<|oc 12 a1 [(tP 10),(tP 11)] .done) (.block 0 (sR (ob 14 .eql (tP 12) (kZ 1)<|om 13 14 .done) (.cond (tP 13) (sR (om 15 0<|o1 16 (.nilc (tP 15))<|oj 17 6 16<|ol 18 17<|ob 19 .add (tP 18) (kZ 1)<|o1 20 (.nilc (tP 15))<|oj 21 6 20<|o0 (.st 1 (tP 21) (tP 19)) .done) (sR (om 22 0<|o1 23 (.nilc (tP 22))<|oj 24 4 23<|ol 25 24<|om 26 1<|o1 27 (.mop (.lk 0 (.slice none 0 0) false (tP 25) (tP 26)))<|oc 28 a2 [(tP 27)]<|om 4 28<|o1 5 (.mv (kZ 0)) .done) .ret)) (sR (ob 30 .eql (tP 12) (kZ 2)<|om 29 30 .done) (.cond (tP 29) (sR (om 32 0<|o1 33 (.nilc (tP 32))<|oj 34 1 33<|ol 35 34<|om 36 1<|oc 37 a3 [(tP 35),(tP 36)]<|om 31 37<|oe 38 31 0<|oe 39 31 1<|om 6 38<|om 7 39 .done) (.seq (sR (om 40 7<|ob 41 .neq (tP 40) (kZ 0) .done) (.cond (tP 41) (sR (om 42 7<|o1 4 (.mv nS)<|om 5 42 .done) .ret) .skip)) (sR (om 43 0<|o1 44 (.nilc (tP 43))<|oj 45 1 44<|ol 46 45<|om 47 1<|oc 48 a4 [(tP 46),(tP 47)] .done) (sR (om 49 0<|o1 50 (.nilc (tP 49))<|oj 51 6 50<|ol 52 51<|ob 53 .add (tP 52) (kZ 1)<|o1 54 (.nilc (tP 49))<|oj 55 6 54<|o0 (.st 1 (tP 55) (tP 53)) .done) (sR (om 56 6<|om 4 56<|o1 5 (.mv (kZ 0)) .done) .ret))))) .skip)))))) (sR (o1 4 (.mv nS)<|o1 5 (.mv (kZ 240)) .done) .ret))))⟩
set_option maxRecDepth 4000 in
theorem ZF{P:Program}{f f1 f2 f3 f4 f5:FuncId} (hd:dec P f=some (Mt f1 f2 f3 f4 f5)) (h1:EN P f1) (h2:I4 P f2) (h3:DZ AP 1 P f3) (h4:KE P f4) (h5:HS P f5):Fq P f:=by
 intro d s dv pv L k hp
 have hp0:=hp
 obtain⟨b,T,cv,bk,cp,hk,mb,ms,clk,c,LC,LD,bd,rfl,rfl,rfl,hg,hm,hC,hD,hc,hG⟩:=hp
 have hlen:=hG.len
 have hinn:=hG.inn
 have hsyn:=hG.syn
 refine AG hd (Aca rfl) ?_
 show gwp P _ _ _ _ _
 (refine Ad<|Am rfl<|Ab rfl<|Aa<|Ah<|Ad<|Ak rfl ?_)
 refine CM (A:=[_]) (B:=_::_::(LC++LD)) rfl rfl h1 ?_
 (refine Aa<|AR rfl<|Al<|Ah<|Ad<|Ak rfl<|Ab rfl ?_)
 refine CM (A:=[_,hk]) (B:=_::(LC++LD)) rfl rfl (h2 (k:=k) hg (by omega)) ?_
 rw [OT]
 by_cases hk1:s.kind k=1
 ·obtain⟨i,hi,rfl,hki,hti⟩:=CO hk1 (by omega)
  have hr:s.get ((s.frm+i:Nat):Int)=({s with tc:=s.tc+1},some (s.fb i)):=by unfold PD.get;rw [if_pos hk1,hti]
  rw [hr]
  obtain⟨v,g1,g2,g3⟩:=hm i hi hki
  (refine Aa<|Ax<|Ad<|AJ rfl rfl<|Ae rfl<|Aa<|Ay rfl (by omega)<|Ad<|Ak rfl<|Av rfl<|Ai rfl<|Ag rfl (Aj 0 rfl rfl) ?_)
  refine K4 rfl rfl ?_
  (refine Av rfl<|Ai rfl ?_)
  refine A0 0 [.pointer (some ⟨bd,0,none⟩),cv,.int .i64 s.frm,.slice (some ⟨bk,0,none⟩) s.kinds.length cp,.map (some mb),.int .i64 (wr s.round),.int .i64 (wr (s.tc+1))] rfl rfl rfl rfl (Aca rfl) rfl rfl ?_
  (refine Aa<|Ad<|Ak rfl<|Av rfl<|Ai rfl<|Ag rfl (Aj 0 rfl rfl)<|Ab rfl ?_)
  refine YJ (kE:=kI) (vE:=id) (k:=((s.frm+i:Nat):Int)) QN 2 rfl rfl rfl g1 ?_
  refine Bk (vs:=[v]) rfl (h3 g2 (by rw [g3];decide)) (fun u d2 L2 _ ⟨q1,h,q2,hrow⟩=>?_)
  subst q1;subst q2
  (refine AK<|Ab rfl<|Aa<|Ao ?_)
  have hP:=Pg.mk (d:=d2) (s:={s with tc:=s.tc+1}) (b:=b) (T:=T) (cv:=cv) (bk:=bk) (cp:=cp) (mb:=mb) (clk:=clk) (c:=c) (LC:=LC) (LD:=LD) (bd:=bd) rfl hg hm hC hD (hc.to rfl rfl (Og.refl _)) (hG.to' rfl rfl rfl)
  skip
  exact A7 [u,.int .i64 0] ⟨rfl,rfl,trivial⟩ (d':=join d2 h) (L':=_::_::_::(LC++LD)) Vs.freeze ⟨⟨_,rfl,As.rsl (R:=AP) (sz:=1) hrow AX (by omega) (Le.AI _ _) (Le.A9 _ _)⟩,hP.mono (Le.AI _ _)⟩
 ·by_cases hk2:s.kind k=2
  ·obtain⟨i,hi,rfl,hki,hti⟩:=CO hk2 (by omega)
   have hr:s.get ((s.frm+i:Nat):Int)=({s with tc:=s.tc+1},some (s.syn.getD (s.frm+i) [])):=by unfold PD.get;rw [if_neg hk1,if_pos hk2];rfl
   rw [hr]
   obtain⟨c',e1,e2,e3,e4,e5⟩:=hc.get (k:=s.frm+i) (by omega) (by omega) (by omega) (by rw [show s.frm+i - s.frm=i by omega,hki];omega)
   (refine Aa<|Ax<|Ad<|AJ rfl rfl<|Ae rfl<|Aa<|Ar rfl (by omega)<|Ad<|AJ rfl rfl<|Ae rfl<|Aa<|Ay rfl (by omega)<|Ad<|Ak rfl<|Av rfl<|Ai rfl<|Ag rfl (Aj 0 rfl rfl)<|Ab rfl ?_)
   have hcur:Et.cur ⟨s.syn,[]⟩ (s.frm+i)=s.syn.getD (s.frm+i) []:=rfl
   refine CU (h4 (k:=s.frm+i) hC hD e2 (show s.frm+i<s.syn.length by omega)) (Aci (l₁:=[_,_,_])) rfl (fun u d2 L2 hl2 ⟨LC2,LD2,q1,q2,q3,q4⟩=>?_)
   rw [hcur,e1] at q2 q4
   obtain⟨v,rfl,hv⟩:=q4
   subst q1
   refine⟨d2,_::_::_::(LC2++LD2),Vs.perm (Aci (l₂:=[_,_,_])),?_⟩
   (refine AU rfl<|Ap rfl rfl<|Ap rfl rfl<|AK<|Ab rfl<|Aa<|Ah<|Ad<|Ab rfl<|AO rfl rfl<|Aa<|Ar rfl (by omega)<|Al<|Ad<|Ak rfl<|Av rfl<|Ai rfl<|Ag rfl (Aj 0 rfl rfl)<|Ab rfl ?_)
   refine CU (h5 (k:=s.frm+i) q2 e3) (Ady [_,_,_] _ _) rfl (fun u d3 L3 hl3 ⟨q5,q6,q7⟩=>?_)
   subst q5;subst q6
   refine⟨d3,_::_::_::(L3++LD2),Vs.perm (Ady _ [_,_,_] _),?_⟩
   (refine Aa<|Ad<|Ak rfl<|Av rfl<|Ai rfl<|Ag rfl (Aj 0 rfl rfl) ?_)
   refine K4 rfl rfl ?_
   have hP:=Pg.mk (d:=d3) (s:={s with tc:=s.tc+1}) (b:=b) (T:=T) (cv:=cv) (bk:=bk) (cp:=cp) (mb:=mb) (clk:=clk) (c:=(C3 c' (s.frm+i)).1) (LC:=L3) (LD:=LD2) (bd:=bd) rfl (As.mono (R:=Bi) Cb hg hl2) (hm.mono hl2) q7 q3 (e5.to rfl rfl (Og.refl _)) (hG.to' rfl rfl rfl)
   (refine Av rfl<|Ai rfl ?_)
   refine A0 0 [.pointer (some ⟨bd,0,none⟩),cv,.int .i64 s.frm,.slice (some ⟨bk,0,none⟩) s.kinds.length cp,.map (some mb),.int .i64 (wr s.round),.int .i64 (wr (s.tc+1))] rfl rfl rfl rfl (Aca rfl) rfl rfl ?_
   (refine Aa<|Ad<|AK<|AK<|Ab rfl<|Aa<|Ao ?_)
   exact CF rfl rfl (Acb _) ⟨⟨_,rfl,hv⟩,hP⟩
  ·have hr:s.get k=(s,none):=by unfold PD.get;rw [if_neg hk1,if_neg hk2]
   rw [hr]
   (refine Aa<|Ax<|Ad<|AJ rfl rfl<|Ae rfl<|Aa<|Ar rfl (by omega)<|Ad<|AJ rfl rfl<|Ae rfl<|Aa<|Ar rfl (by omega)<|Al<|Ad<|Am rfl<|Ab rfl<|Aa<|Ao ?_)
   exact CF rfl rfl (Acb _) ⟨⟨_,rfl,rfl⟩,hp0⟩
def I2(P:Program) (f:FuncId):Prop:=∀{d:Ac}{s:PD}{dv pv:Value}{L:List Ac},Pg d s dv pv L→Aw P f [pv] d L (Ret fun r d' L'=>r=.int .i64 0∧d'=d∧Pg d' s.flush dv pv L')
def Kb(a0 a1 a2:Nat):AY:=⟨51,[(.tmp 2)],(sR (o1 2 (.mv (kZ 0)) .done) (.seq (sR (om 6 0<|oc 7 a0 [(tP 6)] .done) (.cond (tP 7) (sR (o1 2 (.mv (kZ 1)) .done) .ret) .skip)) (.seq (sR (om 8 0<|o1 9 (.nilc (tP 8))<|oj 10 3 9<|ol 11 10<|oL 12 11<|o1 13 (.mv (kZ 0)) .done) (.block 0 (.loop (sR (ob 14 .lss (tP 13) (tP 12) .done) (.seq (.cond (tP 14) .skip (.exit 0)) (.seq (.block 1 (sR (om 15 13<|oI 16 1 11 13<|ol 17 16<|om 3 15<|om 4 17 .done) (.seq (sR (om 18 4<|ob 19 .neq (tP 18) (kZ 1) .done) (.cond (tP 19) (.exit 1) .skip)) (.seq (.reg true (pm 20 0<|p1 21 (.nilc (tP 20))<|p1 22 (.fld 0 (tP 21))<|pl 23 22<|pm 24 0<|p1 25 (.nilc (tP 24))<|p1 26 (.fld 2 (tP 25))<|pl 27 26<|pm 28 3<|p1 29 (.bin .add (tP 27) (tP 28))<|pm 30 0<|p1 31 (.nilc (tP 30))<|p1 32 (.fld 4 (tP 31))<|pl 33 32<|pm 34 0<|p1 35 (.nilc (tP 34))<|p1 36 (.fld 2 (tP 35))<|pl 37 36<|pm 38 3<|p1 39 (.bin .add (tP 37) (tP 38))<|o1 40 (.mop (.lk 0 (.slice none 0 0) false (tP 33) (tP 39)))<|oc 41 a1 [(tP 23),(tP 29),(tP 40)] (.bar (pm 5 41 .done)))) (sR (om 42 5<|ob 43 .neq (tP 42) (kZ 0) .done) (.cond (tP 43) (sR (om 44 5<|om 2 44 .done) .ret) .skip)))))) (rG (ob 45 .add (tP 13) (kZ 1)<|om 13 45 .done)))))))) (sR (om 46 0<|o1 47 (.nilc (tP 46))<|oj 48 0 47<|ol 49 48<|oc 50 a2 [(tP 49)]<|om 2 50 .done) .ret))))⟩
set_option maxRecDepth 4000 in
set_option maxHeartbeats 1000000 in
theorem Yj{P:Program}{f f1 f2 f3:FuncId} (hd:dec P f=some (Kb f1 f2 f3)) (h1:EN P f1) (h2:Nx P f2) (h3:OW P f3):I2 P f:=by
 intro d s dv pv L hp
 obtain⟨b,T,cv,bk,cp,hk,mb,ms,clk,c,LC,LD,bd,rfl,rfl,rfl,hg,hm,hC,hD,hc,hG⟩:=hp
 have hone:=hG.one
 have hlen:=hG.len
 have hinn:=hG.inn
 have hsyn:=hG.syn
 refine AG hd (Aca rfl) ?_
 show gwp P _ _ _ _ _
 (refine Ad<|Ab rfl<|Aa<|Ah<|Ad<|Ak rfl ?_)
 refine CM (A:=[_]) (B:=_::_::(LC++LD)) rfl rfl h1 ?_
 (refine Aa<|AR rfl<|Al<|Ah<|Ad<|Ak rfl<|Av rfl<|Ai rfl<|Ag rfl (Aj 0 rfl rfl)<|AL rfl<|Ab rfl<|Aa<|Ax ?_)
 refine CZ (α:=Nat×List Ac) (fun x=>[(0,.pointer (some ⟨b,0,none⟩)),(11,.slice (some ⟨bk,0,none⟩) s.kinds.length cp),(12,.int .i64 s.kinds.length),(13,.int .i64 x.1)])
  (fun x=>bx b T [.pointer (some ⟨bd,0,none⟩),cv,.int .i64 s.frm,.slice (some ⟨bk,0,none⟩) s.kinds.length cp,.map (some mb),.int .i64 (wr s.round),.int .i64 (wr s.tc)]::hk::mpI mb ms clk::(LC++x.2))
  (fun x=>x.1≤s.kinds.length∧Dv d ⟨s.syn,s.writes x.1⟩ (.pointer (some ⟨bd,0,none⟩)) x.2) (fun x=>s.kinds.length - x.1) (0,LD) ⟨rfl,rfl,rfl,rfl,trivial⟩ rfl ⟨by simp only;omega,hD⟩ ?_
 rintro⟨i,LD1⟩ ρ ⟨hi,hD1⟩
 simp only at hi hD1⊢
 by_cases e:i<s.kinds.length
 ·obtain⟨b1,T1,l1,c1,cs,q1,rfl,hcl,hcs,hle,⟨rfl,hb1,hb2⟩, -⟩:=As.at (by omega) hg e
  cases q1
  have c0:=hcs 0 _ rfl
  have hkd:s.kinds[i]=s.kd i:=(I7 e).symm
  by_cases hk1:s.kinds[i]=1
  ·have hw:s.writes (i+1)=s.writes i++[(s.frm+i,s.fb i)]:=by rw [PD.writes,if_pos (by rw [←hkd];exact hk1)]
   obtain⟨v,g1,g2,g3⟩:=hm i e (by rw [←hk1,hkd])
   (refine Ad<|AA rfl rfl<|Aa<|Ah<|Ay rfl (by omega)<|Al<|Ah<|Ax<|Ad<|Ab rfl<|Bx _ rfl rfl rfl (by omega)<|Ag rfl (Aj 1 rfl (by assumption))<|Ab rfl<|Ab rfl<|Aa<|Ah<|Ad<|Ab rfl<|AO rfl rfl<|Aa<|Ar rfl (by omega)<|Al<|Ah ?_)
   refine Br [_] (bx bk T1 l1::mpI mb ms clk::(LC++LD1)) rfl ?_
   (refine Ak rfl<|Av rfl<|Ai rfl<|Ag rfl (Aj 0 rfl rfl)<|Ak rfl<|Av rfl<|Ai rfl<|Ag rfl (Aj 0 rfl rfl)<|Ab rfl<|AN rfl rfl (by omega) (by omega)<|Ak rfl<|Av rfl<|Ai rfl<|Ag rfl (Aj 0 rfl rfl)<|Ak rfl<|Av rfl<|Ai rfl<|Ag rfl (Aj 0 rfl rfl)<|Ab rfl<|AN rfl rfl (by omega) (by omega) ?_)
   refine YJ (kE:=kI) (vE:=id) (k:=((s.frm+i:Nat):Int)) QN 2 rfl rfl rfl g1 ?_
   have hwl:=NJ (s:=s) (n:=i)
   refine CU (h2 (k:=s.frm+i) hD1 (show s.frm+i<s.syn.length by omega) g2 g3 (show(s.writes i).length≤1000000 by omega)) (Aci (l₁:=bx bk T1 l1::mpI mb ms clk::LC)) rfl (fun u d2 L2 hl2 ⟨q1,q2,q3⟩=>?_)
   subst q1;subst q2
   refine⟨d2,_::_::(LC++L2),Vs.perm (Aci (l₂:=bx bk T1 l1::mpI mb ms clk::LC)),?_⟩
   (refine B4<|Ab rfl<|Aa<|Ad<|Ab rfl<|AO rfl rfl<|Aa<|Ar rfl (by omega)<|Al<|AE<|AN rfl rfl (by omega) (by omega)<|Ab rfl<|Aa ?_)
   exact⟨(i+1,L2),by simp only;omega,⟨rfl,rfl,rfl,rfl,trivial⟩,rfl,rfl,e,by rw [hw];exact q3⟩
  ·have hw:s.writes (i+1)=s.writes i:=by rw [PD.writes,if_neg (by rw [←hkd];exact hk1),Ads]
   (refine Ad<|AA rfl rfl<|Aa<|Ah<|Ay rfl (by omega)<|Al<|Ah<|Ax<|Ad<|Ab rfl<|Bx _ rfl rfl rfl (by omega)<|Ag rfl (Aj 1 rfl (by assumption))<|Ab rfl<|Ab rfl<|Aa<|Ah<|Ad<|Ab rfl<|AO rfl rfl<|Aa<|Ay rfl (by omega)<|Bh<|AE<|AN rfl rfl (by omega) (by omega)<|Ab rfl<|Aa ?_)
   exact⟨(i+1,LD1),by simp only;omega,⟨rfl,rfl,rfl,rfl,trivial⟩,rfl,rfl,e,by simp only [hw];exact hD1⟩
 ·have:i=s.kinds.length:=by omega
  subst this
  (refine Ad<|AA rfl rfl<|Aa<|Ah<|Ar rfl (by omega)<|Bh<|Ad<|Ak rfl<|Av rfl<|Ai rfl<|Ag rfl (Aj 0 rfl rfl) ?_)
  refine CU (h3 hD1 (show 1≤s.syn.length by omega)) (Aci (l₁:=_::_::_::LC)) rfl (fun u d2 L2 hl2 ⟨q1,q2,q3⟩=>?_)
  subst q1;subst q2
  refine⟨d2,_::_::_::(LC++L2),Vs.perm (Aci (l₂:=_::_::_::LC)),?_⟩
  have hP:=Pg.mk (d:=d2) (s:=s.flush) (b:=b) (T:=T) (cv:=cv) (bk:=bk) (cp:=cp) (mb:=mb) (ms:=ms) (clk:=clk) (c:=c) (LC:=LC) (LD:=L2) (bd:=bd) rfl hg hm hC q3 hc.flush hG.flush
  (refine Ab rfl<|Aa<|Ao ?_)
  exact BG rfl (Acb _) ⟨rfl,rfl,hP⟩
def Ku(P:Program) (f:FuncId):Prop:=∀{d:Ac}{s:PD}{dv pv:Value}{L:List Ac},Pg d s dv pv L→Aw P f [pv] d L (Ret fun r d' L'=>r=.int .i64 0∧d'=d∧Pg d' s.done dv pv L')
def Lq(a0 a1:Nat):AY:=⟨57,[(.tmp 2)],(sR (o1 2 (.mv (kZ 0)) .done) (.seq (sR (om 5 0<|oc 6 a0 [(tP 5)] .done) (.cond (tP 6) (sR (o1 2 (.mv (kZ 1)) .done) .ret) .skip)) (.seq (sR (om 7 0<|o1 8 (.nilc (tP 7))<|oj 9 3 8<|ol 10 9<|oL 11 10<|o1 12 (.mv (kZ 0)) .done) (.block 0 (.loop (sR (ob 13 .lss (tP 12) (tP 11) .done) (.seq (.cond (tP 13) .skip (.exit 0)) (.seq (.block 1 (sR (om 14 12<|oI 15 1 10 12<|ol 16 15<|om 3 14<|om 4 16 .done) (sR (om 17 4 .done) (.block 2 (sR (ob 19 .eql (tP 17) (kZ 3)<|om 18 19 .done) (.cond (tP 18) (sR (om 20 0<|o1 21 (.nilc (tP 20))<|oj 22 3 21<|ol 23 22<|om 24 3<|oI 25 1 23 24<|o0 (.st 1 (tP 25) (kZ 0)) .done) (.reg true (pm 26 0<|p1 27 (.nilc (tP 26))<|p1 28 (.fld 1 (tP 27))<|pl 29 28<|pm 30 0<|p1 31 (.nilc (tP 30))<|p1 32 (.fld 2 (tP 31))<|pl 33 32<|pm 34 3<|p1 35 (.bin .add (tP 33) (tP 34))<|oc 36 a1 [(tP 29),(tP 35)] .done))) (sR (ob 38 .eql (tP 17) (kZ 1)<|om 37 38 .done) (.cond (tP 37) (rG (om 39 0<|o1 40 (.nilc (tP 39))<|oj 41 3 40<|ol 42 41<|om 43 3<|oI 44 1 42 43<|o0 (.st 1 (tP 44) (kZ 2)) .done)) .skip)))))))) (rG (ob 45 .add (tP 12) (kZ 1)<|om 12 45 .done)))))))) (sR (om 46 0<|o1 47 (.nilc (tP 46))<|oj 48 4 47<|ol 49 48<|o0 (.mop (.clr (tP 49))) .done) (sR (om 50 0<|o1 51 (.nilc (tP 50))<|oj 52 5 51<|ol 53 52<|ob 54 .add (tP 53) (kZ 1)<|o1 55 (.nilc (tP 50))<|oj 56 5 55<|o0 (.st 1 (tP 56) (tP 54)) .done) (sR (o1 2 (.mv (kZ 0)) .done) .ret))))))⟩
set_option maxRecDepth 4000 in
set_option maxHeartbeats 1000000 in
theorem Z6{P:Program}{f f1 f2:FuncId} (hd:dec P f=some (Lq f1 f2)) (h1:EN P f1) (h2:Ha P f2):Ku P f:=by
 intro d s dv pv L hp
 obtain⟨b,T,cv,bk,cp,hk,mb,ms,clk,c,LC,LD,bd,rfl,rfl,rfl,hg,hm,hC,hD,hc,hG⟩:=hp
 have hone:=hG.one
 have hlen:=hG.len
 have hinn:=hG.inn
 have hsyn:=hG.syn
 refine AG hd (Aca rfl) ?_
 show gwp P _ _ _ _ _
 (refine Ad<|Ab rfl<|Aa<|Ah<|Ad<|Ak rfl ?_)
 refine CM (A:=[_]) (B:=_::_::(LC++LD)) rfl rfl h1 ?_
 (refine Aa<|AR rfl<|Al<|Ah<|Ad<|Ak rfl<|Av rfl<|Ai rfl<|Ag rfl (Aj 0 rfl rfl)<|AL rfl<|Ab rfl<|Aa<|Ax ?_)
 refine CZ (α:=Nat×List Int×Ac×CD×List Ac) (fun x=>[(0,.pointer (some ⟨b,0,none⟩)),(10,.slice (some ⟨bk,0,none⟩) s.kinds.length cp),(11,.int .i64 s.kinds.length),(12,.int .i64 x.1)])
  (fun x=>bx b T [.pointer (some ⟨bd,0,none⟩),cv,.int .i64 s.frm,.slice (some ⟨bk,0,none⟩) s.kinds.length cp,.map (some mb),.int .i64 (wr s.round),.int .i64 (wr s.tc)]::x.2.2.1::mpI mb ms clk::(x.2.2.2.2++LD))
  (fun x=>x.1≤s.kinds.length∧Mid x.1 s.kinds x.2.1∧As 1 Bi d (.slice (some ⟨bk,0,none⟩) s.kinds.length cp) x.2.1 x.2.2.1∧Cz {s with kinds:=x.2.1} x.2.2.2.1∧Ca d x.2.2.2.1 (.pointer (some ⟨bd,0,none⟩)) cv x.2.2.2.2)
  (fun x=>s.kinds.length - x.1) (0,s.kinds,hk,c,LC) ⟨rfl,rfl,rfl,rfl,trivial⟩ rfl ⟨by simp only;omega,Mid.zero _,hg,hc.og (Og.refl _),hC⟩ ?_
 rintro⟨i,ks,hk1,c1,LC1⟩ ρ ⟨hi,hM,hg1,hc1,hC1⟩
 simp only at hi hM hg1 hc1 hC1⊢
 have hkl:=hM.1
 by_cases e:i<s.kinds.length
 ·have e':i<ks.length:=by omega
  obtain⟨b1,T1,l1,cc,cs,q1,rfl,hcl,hcs,hle,⟨rfl,hb1,hb2⟩,hset⟩:=As.at (by omega) hg1 e'
  rw [hkl] at q1
  cases q1
  have c0:=hcs 0 _ rfl
  have hki:ks.getD i 0=ks[i]:=by rw [Acf,Ace e'];rfl
  have hkd:ks[i]=s.kinds.getD i 0:=by rw [←hki,hM.2,if_neg (by omega)]
  by_cases hk3:ks[i]=3
  ·have hn:=hM.next e
   rw [show C7 (s.kinds.getD i 0)=0 by unfold C7;rw [if_pos (by rw [←hkd];exact hk3)]] at hn
   (refine Ad<|AA rfl rfl<|Aa<|Ah<|Ay rfl (by omega)<|Al<|Ah<|Ax<|Ad<|Ab rfl<|Bx _ rfl rfl rfl (by omega)<|Ag rfl (Aj 1 rfl (by assumption))<|Ab rfl<|Ab rfl<|Aa<|Ad<|Ab rfl<|Aa<|Ax<|Ad<|AJ rfl rfl<|Ae rfl<|Aa<|Ay rfl (by omega)<|Ad<|Ak rfl<|Av rfl<|Ai rfl<|Ag rfl (Aj 0 rfl rfl)<|Ab rfl<|Bx _ rfl rfl rfl (by omega) ?_)
   refine A0 1 (patch l1 (i*1) [.int .i64 0]) rfl rfl rfl rfl hle rfl rfl ?_
   (apply Aa)
   refine Br [_] (bx bk T1 (patch l1 (i*1) [.int .i64 0])::mpI mb ms clk::(LC1++LD)) rfl ?_
   (refine Ak rfl<|Av rfl<|Ai rfl<|Ag rfl (Aj 0 rfl rfl)<|Ak rfl<|Av rfl<|Ai rfl<|Ag rfl (Aj 0 rfl rfl)<|Ab rfl<|AN rfl rfl (by omega) (by omega) ?_)
   refine CU (h2 (k:=s.frm+i) hC1 (fun j hj=>Z2 hc1.inv hj)) (Ady [_,_] LC1 LD) rfl (fun u d2 L2 hl2 ⟨q1,q2,q3⟩=>?_)
   subst q1;subst q2
   refine⟨d2,_::_::(L2++LD),Vs.perm (Ady L2 [_,_] LD),?_⟩
   refine HF ⟨d2,_::_::_::(L2++LD),Vs.refl _ _,?_⟩
   (refine AE<|AN rfl rfl (by omega) (by omega)<|Ab rfl<|Aa ?_)
   exact⟨(i+1,ks.set i 0,_,_,L2),by simp only;omega,⟨rfl,rfl,rfl,rfl,trivial⟩,rfl,rfl,e,hn,hset [.int .i64 0] 0 rfl ⟨rfl,by omega,by omega⟩,hc1.gone e' (by show ks.getD i 0=3;rw [hki];exact hk3),q3⟩
  ·by_cases hk1:ks[i]=1
   ·have hn:=hM.next e
    rw [show C7 (s.kinds.getD i 0)=2 by unfold C7;rw [if_neg (by rw [←hkd];exact hk3),if_pos (by rw [←hkd];exact hk1)]] at hn
    (refine Ad<|AA rfl rfl<|Aa<|Ah<|Ay rfl (by omega)<|Al<|Ah<|Ax<|Ad<|Ab rfl<|Bx _ rfl rfl rfl (by omega)<|Ag rfl (Aj 1 rfl (by assumption))<|Ab rfl<|Ab rfl<|Aa<|Ad<|Ab rfl<|Aa<|Ax<|Ad<|AJ rfl rfl<|Ae rfl<|Aa<|Ar rfl (by omega)<|Ad<|AJ rfl rfl<|Ae rfl<|Aa<|Ay rfl (by omega)<|AE<|Ak rfl<|Av rfl<|Ai rfl<|Ag rfl (Aj 0 rfl rfl)<|Ab rfl<|Bx _ rfl rfl rfl (by omega) ?_)
    refine A0 1 (patch l1 (i*1) [.int .i64 2]) rfl rfl rfl rfl hle rfl rfl ?_
    (refine Aa<|AE<|AN rfl rfl (by omega) (by omega)<|Ab rfl<|Aa ?_)
    exact⟨(i+1,ks.set i 2,_,c1,LC1),by simp only;omega,⟨rfl,rfl,rfl,rfl,trivial⟩,rfl,rfl,e,hn,hset [.int .i64 2] 2 rfl ⟨rfl,by omega,by omega⟩,hc1.AbP e',hC1⟩
   ·have hn:=hM.same e (by unfold C7;rw [if_neg (by rw [←hkd];exact hk3),if_neg (by rw [←hkd];exact hk1)])
    (refine Ad<|AA rfl rfl<|Aa<|Ah<|Ay rfl (by omega)<|Al<|Ah<|Ax<|Ad<|Ab rfl<|Bx _ rfl rfl rfl (by omega)<|Ag rfl (Aj 1 rfl (by assumption))<|Ab rfl<|Ab rfl<|Aa<|Ad<|Ab rfl<|Aa<|Ax<|Ad<|AJ rfl rfl<|Ae rfl<|Aa<|Ar rfl (by omega)<|Ad<|AJ rfl rfl<|Ae rfl<|Aa<|Ar rfl (by omega)<|Al<|AE<|AN rfl rfl (by omega) (by omega)<|Ab rfl<|Aa ?_)
    exact⟨(i+1,ks,_,c1,LC1),by simp only;omega,⟨rfl,rfl,rfl,rfl,trivial⟩,rfl,rfl,e,hn,hg1,hc1,hC1⟩
 ·have hks:=hM.done (by omega)
  subst hks
  (refine Ad<|AA rfl rfl<|Aa<|Ah<|Ar rfl (by omega)<|Bh<|Ad<|Ak rfl<|Av rfl<|Ai rfl<|Ag rfl (Aj 0 rfl rfl) ?_)
  refine AbE (kE:=kI) (vE:=id) 2 rfl rfl ?_
  (refine Aa<|Ad<|Ak rfl<|Av rfl<|Ai rfl<|Ag rfl (Aj 0 rfl rfl) ?_)
  refine K4 rfl rfl ?_
  (refine Av rfl<|Ai rfl ?_)
  refine A0 0 [.pointer (some ⟨bd,0,none⟩),cv,.int .i64 s.frm,.slice (some ⟨bk,0,none⟩) s.kinds.length cp,.map (some mb),.int .i64 (wr (s.round+1)),.int .i64 (wr s.tc)] rfl rfl rfl rfl (Aca rfl) rfl rfl ?_
  have hGd:Good s.done:=by
   refine⟨by simpa [PD.done] using hone,by simpa [PD.done] using hlen,by simpa [PD.done] using hinn,hsyn,fun j=>?_⟩
   show 0≤(s.kinds.map C7).getD j 0∧(s.kinds.map C7).getD j 0≤3
   rw [getD_map]
   exact WB (hG.kd j)
  have hP:=Pg.mk (d:=d) (s:=s.done) (b:=b) (T:=T) (cv:=cv) (bk:=bk) (cp:=cp) (mb:=mb) (ms:=[]) (clk:=clk) (c:=c1) (LC:=LC1) (LD:=LD) (bd:=bd) (n:=s.kinds.length) (by simp [PD.done]) hg1 (fun j hj hj1=>by
   have h0:(s.kinds.map C7).getD j 0=1:=hj1
   rw [getD_map] at h0
   unfold C7 at h0
   split at h0
   ·cases h0
   ·split at h0
    ·cases h0
    ·contradiction) hC1 hD (hc1.to rfl rfl (Og.refl _)) hGd
  (refine Aa<|Ad<|Ab rfl<|Aa<|Ao ?_)
  exact BG rfl (Acb _) ⟨rfl,rfl,hP⟩
def NS(P:Program) (f:FuncId):Prop:=∀{d:Ac}{s:PD}{dv pv:Value}{L:List Ac},Pg d s dv pv L→CW P f [pv] d L (.int .i64 s.free)
def Kw(a0:Nat):AY:=⟨24,[(.tmp 2)],(sR (o1 2 (.mv (kZ 0)) .done) (sR (o1 3 (.mv (kZ 0)) .done) (.seq (sR (om 6 0<|oc 7 a0 [(tP 6)]<|o1 8 (.un .not (tP 7)) .done) (.cond (tP 8) (sR (om 9 0<|o1 10 (.nilc (tP 9))<|oj 11 3 10<|ol 12 11<|oL 13 12<|o1 14 (.mv (kZ 0)) .done) (.block 0 (.loop (sR (ob 15 .lss (tP 14) (tP 13) .done) (.seq (.cond (tP 15) .skip (.exit 0)) (.seq (.block 1 (sR (oI 16 1 12 14<|ol 17 16<|om 5 17 .done) (sR (om 18 5<|ob 19 .eql (tP 18) (kZ 0) .done) (.cond (tP 19) (rG (om 20 3<|ob 21 .add (tP 20) (kZ 1)<|om 3 21 .done)) .skip)))) (rG (ob 22 .add (tP 14) (kZ 1)<|om 14 22 .done)))))))) .skip)) (sR (om 23 3<|om 2 23 .done) .ret))))⟩
theorem Z3{P:Program}{f f1:FuncId} (hd:dec P f=some (Kw f1)) (h1:EN P f1):NS P f:=by
 intro d s dv pv L hp
 obtain⟨b,T,cv,bk,cp,hk,mb,ms,clk,c,LC,LD,bd,rfl,rfl,rfl,hg,hm,hC,hD,hc,hG⟩:=hp
 have hlen:=hG.len
 have hone:=hG.one
 refine AG hd (Aca rfl) ?_
 show gwp P _ _ _ _ _
 (refine Ad<|Ab rfl<|Aa<|Ad<|Ab rfl<|Aa<|Ah<|Ad<|Ak rfl ?_)
 refine CM (A:=[_]) (B:=_::_::(LC++LD)) rfl rfl h1 ?_
 (refine Bj rfl<|Aa<|Be rfl<|Ad<|Ak rfl<|Av rfl<|Ai rfl<|Ag rfl (Aj 0 rfl rfl)<|AL rfl<|Ab rfl<|Aa<|Ax ?_)
 refine CZ (α:=Nat) (fun i=>[(3,.int .i64 ((s.kinds.take i).countP (·==0))),(12,.slice (some ⟨bk,0,none⟩) s.kinds.length cp),(13,.int .i64 s.kinds.length),(14,.int .i64 i)])
  (fun i=>bx b T [.pointer (some ⟨bd,0,none⟩),cv,.int .i64 s.frm,.slice (some ⟨bk,0,none⟩) s.kinds.length cp,.map (some mb),.int .i64 (wr s.round),.int .i64 (wr s.tc)]::hk::mpI mb ms clk::(LC++LD))
  (fun i=>i≤s.kinds.length) (fun i=>s.kinds.length - i) 0 ⟨rfl,rfl,rfl,rfl,trivial⟩ rfl (by omega) ?_
 rintro i ρ hi
 by_cases e:i<s.kinds.length
 ·obtain⟨b1,T1,l1,c1,cs,q1,rfl,hcl,hcs,hle,⟨rfl,hb1,hb2⟩, -⟩:=As.at (by omega) hg e
  cases q1
  have c0:=hcs 0 _ rfl
  have hn:(s.kinds.take (i+1)).countP (·==0)=(s.kinds.take i).countP (·==0)+(if s.kinds[i]=0 then 1 else 0):=by
   rw [Acx e,List.countP_append];simp [List.countP_cons,List.countP_nil]
  have hcb:(s.kinds.take i).countP (·==0)≤8192:=Agk List.countP_le_length (by rw [Acw];omega)
  by_cases h0:s.kinds[i]=0
  ·rw [if_pos h0] at hn
   (refine Ad<|AA rfl rfl<|Aa<|Ah<|Ay rfl (by omega)<|Al<|Ah<|Ax<|Ad<|Bx _ rfl rfl rfl (by omega)<|Ag rfl (Aj 1 rfl (by assumption))<|Ab rfl<|Aa<|Ad<|Ab rfl<|AJ rfl rfl<|Aa<|Ay rfl (by omega)<|AE<|Ab rfl<|AN rfl rfl (by omega) (by omega)<|Ab rfl<|Aa<|AE<|AN rfl rfl (by omega) (by omega)<|Ab rfl<|Aa ?_)
   exact⟨i+1,by omega,⟨by show Value.int _ _=Value.int _ _;rw [hn];rfl,rfl,rfl,rfl,trivial⟩,rfl,rfl,e⟩
  ·rw [if_neg h0] at hn
   (refine Ad<|AA rfl rfl<|Aa<|Ah<|Ay rfl (by omega)<|Al<|Ah<|Ax<|Ad<|Bx _ rfl rfl rfl (by omega)<|Ag rfl (Aj 1 rfl (by assumption))<|Ab rfl<|Aa<|Ad<|Ab rfl<|AJ rfl rfl<|Aa<|Ar rfl (by omega)<|Al<|AE<|AN rfl rfl (by omega) (by omega)<|Ab rfl<|Aa ?_)
   exact⟨i+1,by omega,⟨by show Value.int _ _=Value.int _ _;rw [hn];rfl,rfl,rfl,rfl,trivial⟩,rfl,rfl,e⟩
 ·have:i=s.kinds.length:=by omega
  subst this
  (refine Ad<|AA rfl rfl<|Aa<|Ah<|Ar rfl (by omega)<|Bh<|Ad<|Ab rfl<|Ab rfl<|Aa<|Ao ?_)
  rw [show s.free=(s.kinds.take s.kinds.length).countP (·==0) by rw [Aeg];rfl]
  exact JI rfl (Acb _)
def R4(P:Program) (f:FuncId):Prop:=∀{d:Ac}{syn:List Sec}{dv cv lv:Value}{LC LD:List Ac}{m frm n:Nat}{live:List Nat},Dv d ⟨syn,[]⟩ dv LD→Ca d ⟨Acr m fz,Ade m,0,0,0⟩ dv cv LC→1≤m→m≤64→1≤n→frm+n≤syn.length→syn.length≤8192→live.Nodup→(∀k∈live,k<n)→
 Dz d lv (live.map fun k=>((frm+k:Nat):Int))→Aw P f [dv,cv,.int .i64 frm,.int .i64 n,lv] d (LC++LD) (Ret fun r d' L'=>∃pv,r=.tuple #[pv,.int .i64 0]∧Le d d'∧Pg d' ⟨frm,Dt n live,fun _=>[],syn,0,0⟩ dv pv L')
def SW(a0 a1 a2:Nat):AY:=⟨74,[(.tmp 10),(.tmp 11)],(sR (o1 10 (.mv (.const (.pointer none)))<|o1 11 (.mv (kZ 0)) .done) (sR (om 16 0<|oc 17 a0 [(tP 16)]<|om 12 17 .done) (.seq (.block 0 (sR (om 19 12<|ob 20 .eql (tP 19) (kZ 0)<|om 21 20<|gF 22 21 1<|oF 23 21 (.call a1 [(tP 22)])<|oF 24 21 (.len (tP 23))<|oF 25 21 (.bin .eql (tP 24) (kZ 0))<|o1 26 (.pick (tP 21) (.const (.bool true)) (tP 25))<|om 18 26 .done) (.cond (tP 18) (sR (o1 10 (.mv (.const (.pointer none)))<|o1 11 (.mv (kZ 1)) .done) .ret) (sR (om 28 2<|ob 29 .lss (tP 28) (kZ 0)<|om 30 29<|gF 31 30 3<|oF 32 30 (.bin .lss (tP 31) (kZ 1))<|o1 33 (.pick (tP 30) (.const (.bool true)) (tP 32))<|om 34 33<|gF 35 34 2<|gF 36 34 12<|oF 37 34 (.bin .gtr (tP 35) (tP 36))<|o1 38 (.pick (tP 34) (.const (.bool true)) (tP 37))<|om 39 38<|gF 40 39 3<|gF 41 39 12<|gF 42 39 2<|oF 43 39 (.bin .sub (tP 41) (tP 42))<|oF 44 39 (.bin .gtr (tP 40) (tP 43))<|o1 45 (.pick (tP 39) (.const (.bool true)) (tP 44))<|om 27 45 .done) (.cond (tP 27) (sR (o1 10 (.mv (.const (.pointer none)))<|o1 11 (.mv (kZ 2)) .done) .ret) .skip))))) (sR (om 46 0<|om 47 1<|om 48 2<|om 49 3<|o1 50 (.mks 1 8 [(.int .i64 0)] (tP 49) (tP 49))<|o1 51 (.mop .mk)<|o1 52 (.bld [(0,1),(1,1),(2,1),(3,1),(4,1),(5,1),(6,1)] [(.pointer none),(.pointer none),(.int .i64 0),(.slice none 0 0),(.map none),(.int .i64 0),(.int .i64 0)] [(0,(tP 46)),(1,(tP 47)),(2,(tP 48)),(3,(tP 50)),(4,(tP 51))])<|o1 53 (.box (tP 52))<|om 13 53 .done) (.seq (sR (om 54 4<|oL 55 54<|o1 56 (.mv (kZ 0)) .done) (.block 1 (.loop (sR (ob 57 .lss (tP 56) (tP 55) .done) (.seq (.cond (tP 57) .skip (.exit 1)) (.seq (.block 2 (sR (oI 58 1 54 56<|ol 59 58<|om 15 59 .done) (.seq (sR (om 60 13<|om 61 15<|oc 62 a2 [(tP 60),(tP 61)]<|ob 63 .neq (tP 62) (kZ 0) .done) (.cond (tP 63) (sR (o1 10 (.mv (.const (.pointer none)))<|o1 11 (.mv (kZ 2)) .done) .ret) .skip)) (rG (om 64 13<|o1 65 (.nilc (tP 64))<|oj 66 3 65<|ol 67 66<|om 68 15<|om 69 2<|ob 70 .sub (tP 68) (tP 69)<|oI 71 1 67 70<|o0 (.st 1 (tP 71) (kZ 2)) .done))))) (rG (ob 72 .add (tP 56) (kZ 1)<|om 56 72 .done)))))))) (sR (om 73 13<|om 10 73<|o1 11 (.mv (kZ 0)) .done) .ret))))))⟩
set_option maxRecDepth 4000 in
set_option maxHeartbeats 1000000 in
theorem Z4{P:Program}{f f1 f2 f3:FuncId} (hd:dec P f=some (SW f1 f2 f3)) (h1:HE P f1) (h2:I9 P f2) (h3:I4 P f3):R4 P f:=by
 intro d syn dv cv lv LC LD m frm n live hD hC hm1 hm2 hn hfn hs8 hnd hlv hl
 obtain⟨bd,rfl⟩:∃bd,dv=.pointer (some ⟨bd,0,none⟩):=let ⟨b,_,_,_,_,_,_,h,_⟩:=hD;⟨b,h⟩
 obtain⟨bc,rfl⟩:∃bc,cv=.pointer (some ⟨bc,0,none⟩):=let ⟨b,_,_,_,_,_,_,_,_,h,_⟩:=hC;⟨b,h⟩
 obtain⟨xs,hxs⟩:∃xs,xs=live.map fun k=>((frm+k:Nat):Int):=⟨_,rfl⟩
 rw [←hxs] at hl
 have hll:=hl.BW
 have hxl:xs.length=live.length:=by rw [hxs,Adx]
 refine AG hd (Aca rfl) ?_
 show gwp P _ _ _ _ _
 (refine Ad<|Ak rfl<|Ab rfl<|Aa<|Ad<|Ak rfl ?_)
 have hsz:CW P f1 [.pointer (some ⟨bd,0,none⟩)] d LD (.int .i64 syn.length):=h1 hD
 refine LX (A:=LD) (B:=LC) Aci rfl hsz ?_
 have hn0:syn.length≠0:=by omega
 (refine Ab rfl<|Aa<|Ah<|Ax<|Ad<|Ab rfl<|AJ rfl rfl<|Ae rfl<|AZ rfl (by omega)<|Af rfl<|Ak rfl<|Af rfl ?_)
 refine DD (A:=LC) (B:=LD) rfl rfl (h2 hC (fun f hf=>by rw [(List.mem_replicate.1 hf).2];decide)) (fun v d1 L1 hl1 ⟨e1,e2⟩=>?_)
 subst e1
 have hhl:(DT ⟨Acr m fz,Ade m,0,0,0⟩).length=m:=by simp [DT]
 obtain⟨ah,ch,rfl⟩:=RSl.val e2
 rw [hhl] at e2⊢
 have hm0:m≠0:=by omega
 have hC1:=hC.mono hl1
 have hD1:=hD.mono hl1
 have hl':=RSl.mono (R:=Bi) Cb hl hl1
 (refine Af rfl<|AL rfl<|Af rfl<|AJ rfl rfl<|Aq rfl rfl<|Ae rfl<|Aa<|Ar rfl (by omega)<|Ad<|Ab rfl<|AA rfl rfl<|Ae rfl<|AZ rfl (by omega)<|Af rfl<|Ab rfl<|Af rfl<|AA rfl rfl<|Aq rfl rfl<|Ae rfl<|AZ rfl (by omega)<|Af rfl<|Ab rfl<|Af rfl<|Ab rfl<|Af rfl<|BS rfl rfl<|Aq rfl rfl<|Ae rfl<|AZ rfl (by omega)<|Af rfl<|Ab rfl<|Af rfl<|Ab rfl<|Af rfl<|Ab rfl<|Af rfl<|CY rfl rfl (by omega) (by omega)<|Af rfl<|BS rfl rfl<|Aq rfl rfl<|Ae rfl<|Aa<|Ar rfl (by omega)<|Al<|Ad<|Ak rfl<|Ak rfl<|Ab rfl<|Ab rfl ?_)
 refine Hp (n:=n) (c:=n) rfl rfl (Ach _) (by omega) (by omega) (fun bk T0=>?_)
 refine Abe kI (id:Value→Value) (fun mb=>?_)
 refine BI (cs:=[.pointer (some ⟨bd,0,none⟩),.pointer (some ⟨bc,0,none⟩),.int .i64 frm,.slice (some ⟨bk,0,none⟩) n n,.map (some mb),.int .i64 0,.int .i64 0]) rfl ?_
 refine Cc rfl (fun b T=>?_)
 have hg:As 1 Bi d1 (.slice (some ⟨bk,0,none⟩) n n) (Dt n []) (bx bk T0 (Bp [.int .i64 0] (n*1))):=As.zero rfl (by omega) ⟨rfl,by omega,by omega⟩ (by omega)
 refine B9 d1 (_::bx bk T0 (Bp [.int .i64 0] (n*1))::mpI mb [] 0::(L1++LD)) (Vs.perm (Acn _ (Adc _ _ _))) ?_
 (refine Ak rfl<|Aa<|Ah<|Ad<|AK<|BE rfl (by assumption)<|Ab rfl<|Aa<|Ax ?_)
 refine CZ (α:=Nat×Ac) (fun x=>[(2,.int .i64 frm),(13,.pointer (some ⟨b,0,none⟩)),(54,lv),(55,.int .i64 xs.length),(56,.int .i64 x.1)])
  (fun x=>bx b T [.pointer (some ⟨bd,0,none⟩),.pointer (some ⟨bc,0,none⟩),.int .i64 frm,.slice (some ⟨bk,0,none⟩) n n,.map (some mb),.int .i64 0,.int .i64 0]::x.2::mpI mb [] 0::(L1++LD))
  (fun x=>x.1≤live.length∧As 1 Bi d1 (.slice (some ⟨bk,0,none⟩) n n) (Dt n (live.take x.1)) x.2) (fun x=>live.length - x.1) (0,bx bk T0 (Bp [.int .i64 0] (n*1))) ⟨rfl,rfl,rfl,rfl,rfl,trivial⟩ rfl ⟨by simp only;omega,hg⟩ ?_
 rintro⟨i,hk⟩ ρ ⟨hi,hgi⟩
 simp only at hi hgi⊢
 have hln:=Gc (n:=n) (l:=live.take i)
 by_cases e:i<live.length
 ·have hin:live[i]<n:=hlv _ (Ada e)
  have hnot:live[i]∉live.take i:=fun hm=>by
   obtain⟨j,hj,hjj⟩:=Aei hm
   rw [Acw] at hj
   rw [List.getElem_take] at hjj
   exact Afc.1 hnd j i (by omega) e (by omega) hjj
  have h0:(Dt n (live.take i)).getD live[i] 0=0:=by rw [Jq,if_neg (fun q=>hnot q.2)]
  obtain⟨b1,T1,l1,c1,cs,q1,rfl,hcl,hcs,hle, -,hset⟩:=As.at (by omega) hgi (m:=live[i]) (by omega)
  rw [hln] at q1
  cases q1
  have e':i<xs.length:=by omega
  have hxi:xs[i]=((frm+live[i]:Nat):Int):=by subst hxs;simp
  have hnx:Dt n (live.take (i+1))=(Dt n (live.take i)).set live[i] 2:=by rw [Acx e,UA]
  have hkv:GZ frm (Dt n (live.take i)) xs[i]=0:=by
   rw [hxi]
   unfold GZ
   rw [hln,if_pos (by omega),show(((frm+live[i]:Nat):Int) - (frm:Int)).toNat=live[i] by omega,h0]
  have hgl:As 1 Bi d1 (.slice (some ⟨bk,0,none⟩) (Dt n (live.take i)).length n) (Dt n (live.take i)) (bx bk T1 l1):=by rw [hln];exact hgi
  have hkr:=fun{b:Nat}{T:TypeId}{x0 x1 x4 x5 x6:Value}=>h3 (k:=xs[i]) (frm:=frm) (b:=b) (T:=T) (x0:=x0) (x1:=x1) (x4:=x4) (x5:=x5) (x6:=x6) hgl (by omega)
  rw [hln,hkv] at hkr
  (refine Ad<|AA rfl rfl<|Aa<|Ah<|Ay rfl (by omega)<|Al<|Ah<|Ax<|Ad<|BH (sz:=1) (R:=Bi) (by rfl) (by assumption) (by rfl) rfl (by omega) ?_;rintro _ _ _ _ _ ⟨rfl,_,_⟩;refine Ag rfl (B5 (by assumption) rfl)<|Ab rfl<|Aa<|Ah<|Ad<|Ak rfl<|Ab rfl ?_)
  refine CM (A:=[_,_]) (B:=_::(L1++LD)) rfl rfl hkr ?_
  (refine AO rfl rfl<|Aa<|Ar rfl (by omega)<|Al<|AE<|Ak rfl<|Av rfl<|Ai rfl<|Ag rfl (Aj 0 rfl rfl)<|Ab rfl<|Ab rfl<|CY rfl rfl (by omega) (by omega) ?_)
  refine Bx live[i] rfl rfl (by rw [hxi];omega) hin ?_
  skip
  refine A0 1 (patch l1 (live[i]*1) [.int .i64 2]) rfl rfl rfl rfl hle rfl rfl ?_
  (refine Aa<|AE<|AN rfl rfl (by omega) (by omega)<|Ab rfl<|Aa ?_)
  exact⟨(i+1,_),by simp only;omega,⟨rfl,rfl,rfl,rfl,rfl,trivial⟩,rfl,rfl,e,by rw [hnx];exact hset [.int .i64 2] 2 rfl ⟨rfl,by omega,by omega⟩⟩
 ·have:i=live.length:=by omega
  subst this
  rw [Aeg] at hgi hln
  have e':¬live.length<xs.length:=by omega
  (refine Ad<|AA rfl rfl<|Aa<|Ah<|Ar rfl (by omega)<|Bh<|Ad<|Ak rfl<|Ak rfl<|Ab rfl<|Aa<|Ao ?_)
  have hP:=Pg.mk (d:=d1) (s:=⟨frm,Dt n live,fun _=>[],syn,0,0⟩) (b:=b) (T:=T) (cv:=.pointer (some ⟨bc,0,none⟩)) (bk:=bk) (cp:=n) (mb:=mb) (clk:=0) (c:=⟨Acr m fz,Ade m,0,0,0⟩) (LC:=L1) (LD:=LD) (bd:=bd) hln
   hgi (ms:=[]) (fun j hj hj1=>by
    have h0:(Dt n live).getD j 0=1:=hj1
    rw [Jq] at h0
    split at h0<;>cases h0) hC1 hD1 (Cz.new hm1 hm2) (Good.new hn hfn hs8)
  exact CF rfl rfl (Acb _) ⟨_,rfl,hl1,hP⟩
theorem Le.dcs{d:Ac}{b:Nat}{T:TypeId}{l:List Value} (h:Le (bx b T l) d):DCs d b 0 l:=⟨_,_,_,h b _ (Cy _ _),fun i u hi=>by simpa using hi⟩
theorem Vs.ZD{d a b c:Ac}{L:List Ac}:Vs d (a::b::c::L) (join (join (join d a) b) c) L:=Vs.freeze.trans (Vs.freeze.trans Vs.freeze)
theorem As.VT{d d':Ac}{v:Value}{xs:List Int}{h:Ac} (o:As 1 Bi d v xs h):As 1 Bi d' v xs h:=let ⟨cs,h1,h2⟩:=o;⟨cs,h1,h2⟩
def Mk(d:Ac) (m:MD) (frm:Nat) (pv v:Value):Prop:=∃bm bk cp mq ms clk,v=.pointer (some ⟨bm,0,none⟩)∧DCs d bm 0 [pv,.int .i64 (wr m.round),.slice (some ⟨bk,0,none⟩) m.kinds.length cp,.map (some mq)]∧RSl 1 Bi d (.slice (some ⟨bk,0,none⟩) m.kinds.length cp) m.kinds∧
 Le (mpI mq ms clk) d∧LZ d frm m.kinds m.fb ms
theorem Mk.mono{d d':Ac}{m:MD}{frm:Nat}{pv v:Value} (h:Mk d m frm pv v) (hl:Le d d'):Mk d' m frm pv v:=
 let ⟨bm,bk,cp,mq,ms,clk,h1,h2,h3,h4,h5⟩:=h
 ⟨bm,bk,cp,mq,ms,clk,h1,h2.mono hl,RSl.mono (R:=Bi) Cb h3 hl,h4.trans hl,h5.mono hl⟩
theorem WO(x a b c:Ac) (L:List Ac):(x::a::b::c::L).Perm (a::b::c::x::L):=
 (Adc a x _).trans (Acn _ ((Adc b x _).trans (Acn _ (Adc c x _))))
def G4(P:Program) (f:FuncId):Prop:=∀{d:Ac}{s:PD}{dv pv:Value}{L:List Ac},Pg d s dv pv L→Aw P f [pv] d L (Ret fun r d' L'=>L'=L∧Le d d'∧Mk d' s.mark s.frm pv r)
def Kh(a0 a1 a2:Nat):AY:=⟨22,[(.tmp 2)],(sR (o1 2 (.mv (.const (.pointer none))) .done) (.seq (sR (om 3 0<|oc 4 a0 [(tP 3)] .done) (.cond (tP 4) (sR (o1 2 (.mv (.const (.pointer none))) .done) .ret) .skip)) (.seq (.reg true (pm 5 0<|pm 6 0<|p1 7 (.nilc (tP 6))<|p1 8 (.fld 5 (tP 7))<|pl 9 8<|pm 10 0<|p1 11 (.nilc (tP 10))<|p1 12 (.fld 3 (tP 11))<|pl 13 12<|pm 15 0<|p1 16 (.nilc (tP 15))<|p1 17 (.fld 4 (tP 16))<|pl 18 17<|oc 14 a1 [(tP 13)]<|oc 19 a2 [(tP 18)]<|p1 20 (.bld [(0,1),(1,1),(2,1),(3,1)] [(.pointer none),(.int .i64 0),(.slice none 0 0),(.map none)] [(0,(tP 5)),(1,(tP 9)),(2,(tP 14)),(3,(tP 19))])<|o1 21 (.box (tP 20)) (.bar (pm 2 21 .done)))) .ret)))⟩
set_option maxRecDepth 4000 in
set_option maxHeartbeats 1000000 in
theorem ZU{P:Program}{f f1 f2 f3:FuncId} (hd:dec P f=some (Kh f1 f2 f3)) (h1:EN P f1) (h2:DZ Bi 8 P f2) (h3:Hu P f3):G4 P f:=by
 intro d s dv pv L hp
 obtain⟨b,T,cv,bk,cp,hk,mb,ms,clk,c,LC,LD,bd,rfl,rfl,rfl,hg,hm,hC,hD,hc,hG⟩:=hp
 have hlen:=hG.len
 have hone:=hG.one
 refine AG hd (Aca rfl) ?_
 show gwp P _ _ _ _ _
 (refine Ad<|Ak rfl<|Aa<|Ah<|Ad<|Ak rfl ?_)
 refine CM (A:=[_]) (B:=_::_::(LC++LD)) rfl rfl h1 ?_
 (refine Aa<|AR rfl<|Al<|Ah ?_)
 refine Br [_] (hk::mpI mb ms clk::(LC++LD)) rfl ?_
 (refine Ak rfl<|Ak rfl<|Av rfl<|Ai rfl<|Ag rfl (Aj 0 rfl rfl)<|Ak rfl<|Av rfl<|Ai rfl<|Ag rfl (Aj 0 rfl rfl)<|Ak rfl<|Av rfl<|Ai rfl<|Ag rfl (Aj 0 rfl rfl) ?_)
 refine Jd (Q:=fun v L'=>∃h,L'=[h]∧As 1 Bi d v s.kinds h) rfl (fun d1 hl1 hk1=>?_) (fun v L1 ⟨h,e1,hrow⟩=>?_)
 ·exact Aw.Dr (h2 (xs:=s.kinds) (As.rsl (R:=Bi) hg Cb (by omega) hl1 (hk1 _ (Acu ..))) (by omega)) (fun r d' L' _ ⟨q1,h,q2,q3⟩=>⟨d',L',Vs.refl _ _,q1,h,q2,As.VT q3⟩)
 subst e1
 skip
 refine Jd (Q:=fun v L'=>∃q,v=.map (some q)∧L'=[mpI q ms clk]) rfl (fun d1 hl1 hk1=>h3 (hk1 _ (by simp))) (fun v1 L1 ⟨q,e1,e2⟩=>?_)
 subst e1;subst e2
 obtain⟨b1,T1,l1,c1,cs,q1, -, -, -, -, -, -⟩:=As.at (m:=0) (by omega) hrow (by omega)
 subst q1
 refine BI (cs:=[.pointer (some ⟨b,0,none⟩),.int .i64 (wr s.round),.slice (some ⟨b1,0,none⟩) s.kinds.length c1,.map (some q)]) rfl ?_
 refine Cc rfl (fun bm Tm=>?_)
 (refine B4<|Ak rfl<|Aa<|Ao ?_)
 refine A7 [.pointer (some ⟨bm,0,none⟩)] ⟨rfl,trivial⟩ (L':=bx b T [.pointer (some ⟨bd,0,none⟩),cv,.int .i64 s.frm,.slice (some ⟨bk,0,none⟩) s.kinds.length cp,.map (some mb),.int .i64 (wr s.round),.int .i64 (wr s.tc)]::hk::mpI mb ms clk::(LC++LD))
  ((Vs.perm (WO _ _ _ _ _)).trans Vs.ZD) ⟨rfl,?_,bm,b1,c1,q,ms,clk,rfl,?_,?_,?_,?_⟩
 ·exact((Le.AI _ _).trans (Le.AI _ _)).trans (Le.AI _ _)
 ·exact Le.dcs (((Le.A9 _ _).trans (Le.AI _ _)).trans (Le.AI _ _))
 ·exact As.rsl (R:=Bi) (sz:=1) hrow Cb (by omega) (((Le.AI _ _).trans (Le.AI _ _)).trans (Le.AI _ _)) (Le.A9 _ _)
 ·exact(Le.A9 _ _).trans (Le.AI _ _)
 ·exact hm.mono (((Le.AI _ _).trans (Le.AI _ _)).trans (Le.AI _ _))
theorem ZX{d a b x e f:Ac}{R:List Ac}:Vs d (a::b::x::e::f::R) d (x::b::a::R):=
 (Vs.drop (.cons_cons _ (.cons_cons _ (.cons_cons _ (.cons _ (.cons _ (Acb _))))))).trans (Vs.perm ((Acn _ (Adc x b R)).trans ((Adc x a (b::R)).trans (Acn _ (Adc b a R)))))
def HZ(P:Program) (f:FuncId):Prop:=∀{d:Ac}{s:PD}{dv pv v:Value}{L:List Ac}{m:MD},Pg d s dv pv L→Mk d m s.frm pv v→(wr m.round=wr s.round→Og m.kinds s.kinds∧∀i,0≤m.kinds.getD i 0∧m.kinds.getD i 0≤3)→
 Aw P f [pv,v] d L (Ret fun r d' L'=>d'=d∧(wr m.round=wr s.round→r=.int .i64 0∧Pg d (s.back m) dv pv L')∧(wr m.round≠wr s.round→r=.int .i64 2∧Pg d s dv pv L'))
def Lm(a0 a1 a2:Nat):AY:=⟨46,[(.tmp 4)],(sR (o1 4 (.mv (kZ 0)) .done) (.seq (.block 0 (sR (om 6 0<|oc 7 a0 [(tP 6)]<|om 8 7<|gF 9 8 1<|oF 10 8 (.eqp false (tP 9) (.const (.pointer none)))<|o1 11 (.pick (tP 8) (.const (.bool true)) (tP 10))<|om 5 11 .done) (.cond (tP 5) (sR (o1 4 (.mv (kZ 1)) .done) .ret) (.seq (.reg true (pm 13 1<|p1 14 (.nilc (tP 13))<|p1 15 (.fld 0 (tP 14))<|pl 16 15<|pm 17 0<|p1 18 (.eqp true (tP 16) (tP 17))<|pm 19 18 (.op true ⟨(some 20),(some (19,false)),(.mv (tP 1))⟩ (.op true ⟨(some 21),(some (19,false)),(.nilc (tP 20))⟩ (.op true ⟨(some 22),(some (19,false)),(.fld 1 (tP 21))⟩ (.op true ⟨(some 23),(some (19,false)),(.ld none (tP 22))⟩ (.op true ⟨(some 24),(some (19,false)),(.mv (tP 0))⟩ (.op true ⟨(some 25),(some (19,false)),(.nilc (tP 24))⟩ (.op true ⟨(some 26),(some (19,false)),(.fld 5 (tP 25))⟩ (.op true ⟨(some 27),(some (19,false)),(.ld none (tP 26))⟩ (.op true ⟨(some 28),(some (19,false)),(.bin .neq (tP 23) (tP 27))⟩ (p1 29 (.pick (tP 19) (.const (.bool true)) (tP 28)) (pm 12 29 .done))))))))))))) (.cond (tP 12) (sR (o1 4 (.mv (kZ 2)) .done) .ret) .skip))))) (.seq (.reg true (pm 30 0<|pm 31 0<|pm 32 1<|p1 33 (.nilc (tP 32))<|p1 34 (.fld 2 (tP 33))<|pl 35 34<|pm 37 1<|p1 38 (.nilc (tP 37))<|p1 39 (.fld 3 (tP 38))<|pl 40 39<|oc 36 a1 [(tP 35)]<|oc 41 a2 [(tP 40)]<|p1 42 (.nilc (tP 30))<|p1 43 (.fld 3 (tP 42))<|o0 (.st 1 (tP 43) (tP 36))<|p1 44 (.nilc (tP 31))<|p1 45 (.fld 4 (tP 44))<|o0 (.st 1 (tP 45) (tP 41)) .done)) (sR (o1 4 (.mv (kZ 0)) .done) .ret))))⟩
set_option maxRecDepth 4000 in
set_option maxHeartbeats 1000000 in
theorem ZE{P:Program}{f f1 f2 f3:FuncId} (hd:dec P f=some (Lm f1 f2 f3)) (h1:EN P f1) (h2:DZ Bi 8 P f2) (h3:Hu P f3):HZ P f:=by
 intro d s dv pv v L m hp hmk hor
 have hp0:=hp
 obtain⟨b,T,cv,bk,cp,hk,mb,ms,clk,c,LC,LD,bd,rfl,rfl,rfl,hg,hm,hC,hD,hc,hG⟩:=hp
 obtain⟨bm,bmk,mcp,mq,mms,mclk,rfl,hmd,hmr,hml,hmm⟩:=hmk
 have hlen:=hG.len
 have hone:=hG.one
 refine AG hd (Aca rfl) ?_
 show gwp P _ _ _ _ _
 (refine Ad<|Ab rfl<|Aa<|Ah<|Ax<|Ad<|Ak rfl ?_)
 refine CM (A:=[_]) (B:=_::_::(LC++LD)) rfl rfl h1 ?_
 (refine Ae rfl<|Af rfl<|Ak rfl<|Af rfl<|Cu rfl rfl<|Aq rfl rfl<|Ae rfl<|Aa<|AR rfl<|Ah ?_)
 refine Br [_] (hk::mpI mb ms clk::(LC++LD)) rfl ?_
 (refine Ak rfl<|Av rfl<|Ai rfl<|Ag rfl (Eb (by assumption) rfl)<|Ak rfl ?_)
 refine AaX rfl rfl ?_
 by_cases hw:wr m.round=wr s.round
 ·obtain⟨hog,hrng⟩:=hor hw
  have hol:=hog.1
  (refine Ae rfl<|Af rfl<|Ak rfl<|Af rfl<|Av rfl<|Af rfl<|Ai rfl<|Af rfl<|Ag rfl (Eb (by assumption) rfl)<|Af rfl<|Ak rfl<|Af rfl<|Av rfl<|Af rfl<|Ai rfl<|Af rfl<|Ag rfl (Aj 0 rfl rfl)<|Af rfl<|AO rfl rfl<|Aq rfl rfl<|Ae rfl<|A8<|Ar rfl (by omega)<|Al<|Ah ?_)
  refine Br [] (bx b T [.pointer (some ⟨bd,0,none⟩),cv,.int .i64 s.frm,.slice (some ⟨bk,0,none⟩) s.kinds.length cp,.map (some mb),.int .i64 (wr s.round),.int .i64 (wr s.tc)]::hk::mpI mb ms clk::(LC++LD)) rfl ?_
  (refine Ak rfl<|Ak rfl<|Ak rfl<|Av rfl<|Ai rfl<|Ag rfl (Eb (by assumption) rfl)<|Ak rfl<|Av rfl<|Ai rfl<|Ag rfl (Eb (by assumption) rfl) ?_)
  refine Jd (Q:=fun v L'=>∃h,L'=[h]∧As 1 Bi d v m.kinds h) rfl (fun d1 hl1 hk1=>Aw.Dr (h2 (xs:=m.kinds) (RSl.mono (R:=Bi) Cb hmr hl1) (by omega)) (fun r d' L' _ ⟨q1,h,q2,q3⟩=>⟨d',L',Vs.refl _ _,q1,h,q2,As.VT q3⟩)) (fun v L1 ⟨h,e1,hrow⟩=>?_)
  subst e1
  refine Jd (Q:=fun v L'=>∃q,v=.map (some q)∧L'=[mpI q mms mclk]) rfl (fun d1 hl1 hk1=>h3 (hml.trans hl1)) (fun v1 L1 ⟨q,e1,e2⟩=>?_)
  subst e1;subst e2
  obtain⟨b1,T1,l1,c1,cs,q1, -, -, -, -, -, -⟩:=As.at (m:=0) (by omega) hrow (by omega)
  subst q1
  (refine Av rfl<|Ai rfl ?_)
  refine A0 2 [.pointer (some ⟨bd,0,none⟩),cv,.int .i64 s.frm,.slice (some ⟨b1,0,none⟩) m.kinds.length c1,.map (some mb),.int .i64 (wr s.round),.int .i64 (wr s.tc)] rfl rfl rfl rfl (Aca rfl) rfl rfl ?_
  (refine Av rfl<|Ai rfl ?_)
  refine A0 2 [.pointer (some ⟨bd,0,none⟩),cv,.int .i64 s.frm,.slice (some ⟨b1,0,none⟩) m.kinds.length c1,.map (some q),.int .i64 (wr s.round),.int .i64 (wr s.tc)] rfl rfl rfl rfl (Aca rfl) rfl rfl ?_
  have hP:=Pg.mk (d:=d) (s:=s.back m) (b:=b) (T:=T) (cv:=cv) (bk:=b1) (cp:=c1) (mb:=q) (ms:=mms) (clk:=mclk) (c:=c) (LC:=LC) (LD:=LD) (bd:=bd) rfl hrow hmm hC hD (hc.to rfl rfl hog)
   ⟨by show 1≤m.kinds.length;omega,by show m.kinds.length≤8192;omega,by show s.frm+m.kinds.length≤s.syn.length;rw [hol];exact hG.inn,hG.syn,hrng⟩
  (refine Aa<|Ad<|Ab rfl<|Aa<|Ao ?_)
  exact A7 [.int .i64 0] ⟨rfl,trivial⟩ ZX ⟨rfl,fun _=>⟨rfl,hP⟩,fun e=>absurd hw e⟩
 ·(refine Ae rfl<|Af rfl<|Ak rfl<|Af rfl<|Av rfl<|Af rfl<|Ai rfl<|Af rfl<|Ag rfl (Eb (by assumption) rfl)<|Af rfl<|Ak rfl<|Af rfl<|Av rfl<|Af rfl<|Ai rfl<|Af rfl<|Ag rfl (Aj 0 rfl rfl)<|Af rfl<|AO rfl rfl<|Aq rfl rfl<|Ae rfl<|A8<|Ay rfl (by omega)<|Ad<|Ab rfl<|Aa<|Ao ?_)
  exact BG rfl (Acb _) ⟨rfl,fun e=>absurd e hw,fun _=>⟨rfl,hp0⟩⟩
end Go.Gk.Pgr
end
section
namespace Go.Gk.Cch
open Go Go.Gk Go.Gk.Dev
attribute [local irreducible] gwp gws xwp
section
def Cov(d:Ac) (c:CD) (D:Et) (cv:Value) (L:List Ac):Prop:=∃dv LC LD,L=LC++LD∧Ca d c dv cv LC∧Dv d D dv LD
theorem Cov.mono{d d':Ac}{c:CD}{D:Et}{cv:Value}{L:List Ac} (h:Cov d c D cv L) (hl:Le d d'):Cov d' c D cv L:=
 let ⟨dv,LC,LD,h1,h2,h3⟩:=h
 ⟨dv,LC,LD,h1,h2.mono hl,h3.mono hl⟩
theorem Cov.ptr{d:Ac}{c:CD}{D:Et}{cv:Value}{L:List Ac} (h:Cov d c D cv L):∃b,cv=.pointer (some ⟨b,0,none⟩):=by
 obtain⟨dv,LC,LD,rfl,⟨b, -, -, -, -, -, -, -, -,h, -⟩, -⟩:=h
 exact⟨b,h⟩
section
variable {P:Program}{f:FuncId}{d:Ac}{c:CD}{D:Et}{cv:Value}{L:List Ac}{k:Nat}
theorem KE.cov(h:KE P f) (hc:Cov d c D cv L) (hp:Kv c 4611686018427387904) (hk:k<D.syn.length):
  Aw P f [cv,.int .i64 k] d L (Ret fun r d' L'=>Cov d' (Er (D.cur k) c k).1 D cv L'∧Aaz d' r (Er (D.cur k) c k).2):=by
 obtain⟨dv,LC,LD,rfl,h1,h2⟩:=hc
 refine(h h1 h2 hp hk).mono (fun e d' L' hl hr=>?_)
 cases e with
 |returned v=>obtain⟨LC',LD',rfl,g1,g2,g3⟩:=hr;exact⟨⟨dv,LC',LD',rfl,g1,g2⟩,g3⟩
 |panicked c=>exact hr
 |outgrown=>exact hr
theorem KX{args:List Value}{A B:List Ac}{R R':Value→Ac→List Ac→Prop} (h:Aw P f args d A (Ret R)) (hR:∀v d' A',Le d d'→R v d' A'→R' v d' (A'++B)):Aw P f args d (A++B) (Ret R'):=by
 refine(h.frame B).mono (fun e d' L' hl hr=>?_)
 obtain⟨A',rfl,hr⟩:=hr
 cases e with
 |returned v=>exact hR v d' A' hl hr
 |panicked c=>exact hr
 |outgrown=>exact hr
theorem HS.cov(h:HS P f) (hc:Cov d c D cv L) (hp:Kv c 4611686018427387904):
  Aw P f [cv,.int .i64 k] d L (Ret fun r d' L'=>r=.int .i64 (C3 c k).2∧Cov d' (C3 c k).1 D cv L'):=by
 obtain⟨dv,LC,LD,rfl,h1,h2⟩:=hc
 exact KX (h (k:=k) h1 hp) (fun v d' A' hl ⟨g1,g2,g3⟩=>⟨g2,dv,A',LD,rfl,g3.mono (by rw [g1];exact Le.refl _),h2.mono hl⟩)
theorem Ha.cov(h:Ha P f) (hc:Cov d c D cv L) (hp:∀i,findF k c.fr=some i→c.free.length<c.fr.length):
  Aw P f [cv,.int .i64 k] d L (Ret fun r d' L'=>r=.int .i64 (C0 c k).2∧Cov d' (C0 c k).1 D cv L'):=by
 obtain⟨dv,LC,LD,rfl,h1,h2⟩:=hc
 exact KX (h (k:=k) h1 hp) (fun v d' A' hl ⟨g1,g2,g3⟩=>⟨g2,dv,A',LD,rfl,g3.mono (by rw [g1];exact Le.refl _),h2.mono hl⟩)
theorem I9.cov(h:I9 P f) (hc:Cov d c D cv L) (hs:∀f∈c.fr,f.sec≤8192):Aw P f [cv] d L (Ret fun r d' L'=>L'=L∧Dz d' r (DT c)):=by
 obtain⟨dv,LC,LD,rfl,h1,h2⟩:=hc
 exact KX (h h1 hs) (fun v d' A' hl ⟨g1,g2⟩=>⟨by rw [g1],g2⟩)
theorem VO.cov(h:VO P f) (hc:Cov d c D cv L):CW P f [cv] d L (.int .i64 (wr c.hits)):=by
 obtain⟨dv,LC,LD,rfl,h1,h2⟩:=hc
 exact KX (h h1) (fun v d' A' hl ⟨g1,g2,g3⟩=>⟨g1,g2,by rw [g3]⟩)
theorem Sz.cov(h:Sz P f) (hc:Cov d c D cv L):CW P f [cv] d L (.int .i64 (wr c.miss)):=by
 obtain⟨dv,LC,LD,rfl,h1,h2⟩:=hc
 exact KX (h h1) (fun v d' A' hl ⟨g1,g2,g3⟩=>⟨g1,g2,by rw [g3]⟩)
end
end
end Go.Gk.Cch
end
section
namespace Go.Gk.Pgr
open Go Go.Gk Go.Gk.Dev Go.Gk.Cch Go.Gk.Node
section
attribute [local irreducible] gwp gws xwp
end
section
attribute [local irreducible] gwp gws xwp
end
end Go.Gk.Pgr
end
section
namespace Go.Gk.Pgr
open Go Go.Gk Go.Gk.Dev Go.Gk.Cch Go.Gk.Node
attribute [local irreducible] gwp gws xwp
section
section
variable {P:Program}{pan:List PanicEntry→AS}{Qn:Env→AS}{Ls L:List Ac}{ρ:Env}{d:Ac}{s:GS}{t:Nat}{tk:Bool}
end
structure AD where
 kind:Int
 k:Int
 by_:UInt8
abbrev Y2(b:UInt8):Sec:=Acr 256 b
def PD.act(s:PD) (a:AD):PD:=
 if a.kind=0 then(if s.AV.2.2=0 then(s.AV.1.put s.AV.2.1 (Y2 a.by_)).1 else s.AV.1)
 else if a.kind=1 then(s.put (2+a.k % 8) (Y2 a.by_)).1
 else if a.kind=3 then(s.drop (2+a.k % 8)).1
 else if a.kind=4 then s.flush
 else s
def PD.run(s:PD) (l:List AD):PD:=l.foldl PD.act s
end
end Go.Gk.Pgr
end
section
namespace Go.Gk.Pgr
open Go Go.Gk Go.Gk.Dev Go.Gk.Cch
structure AH (s t:PD):Prop where
 frm:t.frm=s.frm
 len:t.kinds.length=s.kinds.length
 syn:t.syn.length=s.syn.length
 old:∀i,2≤s.kd i→2≤t.kd i
 new:∀i,2≤t.kd i→2≤s.kd i
 sec:∀i,2≤s.kd i→t.syn.getD (s.frm+i) []=s.syn.getD (s.frm+i) []
 round:t.round=s.round
theorem AH.refl(s:PD):AH s s:=⟨rfl,rfl,rfl,fun _ h=>h,fun _ h=>h,fun _ _=>rfl,rfl⟩
theorem AH.trans{s t u:PD} (h:AH s t) (k:AH t u):AH s u:=
 ⟨k.frm.trans h.frm,k.len.trans h.len,k.syn.trans h.syn,fun i hi=>k.old i (h.old i hi),fun i hi=>h.new i (k.new i hi),fun i hi=>by have:=k.sec i (h.old i hi);rw [h.frm] at this;exact this.trans (h.sec i hi),k.round.trans h.round⟩
theorem AH.set{s:PD}{i:Nat}{x:Int}{fb:Nat→Sec} (h:2≤s.kd i↔2≤x):AH s {s with kinds:=s.kinds.set i x,fb:=fb}:=by
 have key:∀j,2≤s.kd j↔2≤(s.kinds.set i x).getD j 0:=fun j=>by
  by_cases hi:i<s.kinds.length
  ·rw [C5 hi]
   by_cases e:j=i
   ·subst e;rw [if_pos rfl];exact h
   ·rw [if_neg e]
  ·rw [Afh (by omega)]
 exact⟨rfl,by simp,rfl,fun j hj=>(key j).1 hj,fun j hj=>(key j).2 hj,fun _ _=>rfl,rfl⟩
theorem AH.fb{s:PD}{fb:Nat→Sec}:AH s {s with fb:=fb}:=⟨rfl,rfl,rfl,fun _ h=>h,fun _ h=>h,fun _ _=>rfl,rfl⟩
theorem AH.tc{s:PD}{tc:Nat}:AH s {s with tc:=tc}:=⟨rfl,rfl,rfl,fun _ h=>h,fun _ h=>h,fun _ _=>rfl,rfl⟩
theorem AH.AV(s:PD):AH s s.AV.1:=by
 unfold PD.AV
 cases h:C2 0 s.kinds with
 |none=>exact AH.refl s
 |some i=>
  obtain⟨h1,h2⟩:=FP h
  exact AH.set (by rw [I7 h1,h2];decide)
theorem AH.put(s:PD) (k:Int) (b:Sec):AH s (s.put k b).1:=by
 unfold PD.put
 split
 ·split
  ·exact AH.fb
  ·exact AH.refl s
 ·exact AH.refl s
theorem AH.drop(s:PD) (k:Int):AH s (s.drop k).1:=by
 unfold PD.drop
 split
 ·rename_i h
  obtain⟨i,h1,rfl,h2,h3⟩:=CO h (by omega)
  rw [h3]
  exact AH.set (by rw [h2];decide)
 ·split
  ·rename_i h
   obtain⟨i,h1,rfl,h2,h3⟩:=CO h (by omega)
   rw [h3]
   exact AH.set (by rw [h2];decide)
  ·exact AH.refl s
theorem R5{s:PD}{i:Nat} (h:s.kd i≠1):s.flush.syn.getD (s.frm+i) []=s.syn.getD (s.frm+i) []:=by
 refine KI (fun w hw e=>?_)
 obtain⟨j,h4,h5,rfl⟩:=Jy hw
 simp only at e
 rw [show j=i by omega] at h5
 exact h h5
theorem AH.flush(s:PD):AH s s.flush:=⟨rfl,rfl,Ez _ _,fun _ h=>h,fun _ h=>h,fun i hi=>R5 (by omega),rfl⟩
theorem AH.act(s:PD) (a:AD):AH s (s.act a):=by
 unfold PD.act
 split
 ·split
  ·exact(AH.AV s).trans (AH.put _ _ _)
  ·exact AH.AV s
 ·split
  ·exact AH.put _ _ _
  ·split
   ·exact AH.drop _ _
   ·split
    ·exact AH.flush s
    ·exact AH.refl s
theorem AH.run(l:List AD):∀s:PD,AH s (s.run l):=by
 induction l with
 |nil=>exact fun s=>AH.refl s
 |cons a l ih=>exact fun s=>(AH.act s a).trans (ih (s.act a))
theorem AH.AaL{s t:PD} (h:AH s t) {k:Int} (hk:s.kind k=2):t.syn.getD k.toNat []=s.syn.getD k.toNat []:=by
 obtain⟨i,h1,rfl,h2,h3⟩:=CO hk (by omega)
 exact h.sec i (by omega)
theorem Dv.sec{d:Ac}{D:Et}{v:Value}{L:List Ac} (h:Dv d D v L) {k:Nat} (hk:k<D.syn.length):(D.syn.getD k []).length=256:=by
 obtain⟨b,T,vs,vo,r,hs,ho, -, -,h3, -⟩:=h
 obtain⟨cs,h1,h2⟩:=h3
 rw [Acf,Ace hk]
 exact(h2 k hk).2
theorem Pg.dev{d:Ac}{s:PD}{dv pv:Value}{L:List Ac} (h:Pg d s dv pv L):∃A LD,L=A++LD∧Dv d ⟨s.syn,[]⟩ dv LD:=by
 obtain⟨b,T,cv,bk,cp,hk,mb,ms,clk,c,LC,LD,bd,h1,h2,h3,h4,h5,h6,h7,h8,h9⟩:=h
 exact⟨_::hk::mpI mb ms clk::LC,LD,h3,h7⟩
theorem AH.og{s t:PD} (h:AH s t):Og s.kinds t.kinds:=⟨h.len.symm,fun i=>⟨h.old i,h.new i⟩⟩
theorem AH.back{s t:PD} (h:AH s t):AH s (t.back s.mark):=⟨h.frm,rfl,h.syn,fun _ q=>q,fun _ q=>q,h.sec,h.round⟩
def PD.bytes(s:PD) (k:Int):Sec:=if s.kind k=1 then s.fb (k - s.frm).toNat else if s.kind k=2 then s.syn.getD k.toNat [] else []
def PD.HM(s:PD) (k:Int):Int:=if s.kind k=1 then 0 else if s.kind k=2 then 0 else 240
theorem K5{s t:PD} (h:AH s t) (k:Int):(t.back s.mark).kind k=s.kind k:=by
 unfold PD.kind
 rw [show(t.back s.mark).frm=s.frm from h.frm];rfl
theorem UG{s t:PD} (h:AH s t) (k:Int):(t.back s.mark).bytes k=s.bytes k:=by
 have hk:=K5 h k
 unfold PD.bytes
 rw [hk]
 by_cases h1:s.kind k=1
 ·rw [if_pos h1,if_pos h1,show(t.back s.mark).frm=s.frm from h.frm];rfl
 ·rw [if_neg h1,if_neg h1]
  by_cases h2:s.kind k=2
  ·rw [if_pos h2,if_pos h2];exact h.AaL h2
  ·rw [if_neg h2,if_neg h2]
def eb(x:Int):UInt8:=UInt8.ofNat (x % 256).toNat
def PD.Abu(s:PD) (n:Nat):List UInt8:=(Ade n).flatMap fun(k:Nat)=>s.bytes (k:Int)++[eb (s.HM (k:Int))]
def PD.look(s:PD):List UInt8:=s.Abu 12++s.Co.map eb++[eb s.free]
theorem R1{s:PD}{n:Nat}{k:Int}:PD.bytes {s with tc:=n} k=s.bytes k:=rfl
theorem Zh{s:PD}{n:Nat}{k:Int}:PD.HM {s with tc:=n} k=s.HM k:=rfl
theorem Ip{s:PD}{k:Int} (h:s.kind k=2):s.bytes k=s.syn.getD k.toNat []:=by unfold PD.bytes;rw [if_neg (by omega),if_pos h]
theorem Fq.at{P:Program}{f:FuncId} (h:Fq P f) {d:Ac}{s:PD}{dv pv:Value}{L:List Ac}{k:Int} (hp:Pg d s dv pv L):
  Aw P f [pv,.int .i64 k] d L (Ret fun r d' L'=>∃a c tc,r=.tuple #[.slice a (s.bytes k).length c,.int .i64 (s.HM k)]∧AM d' (.slice a (s.bytes k).length c) (s.bytes k)∧Pg d' {s with tc:=tc} dv pv L'):=by
 refine Aw.Dr (h (k:=k) hp) (fun r d' L' _ ⟨⟨q,q1,q2⟩,q3⟩=>⟨d',L',Vs.refl _ _,?_⟩)
 subst q1
 unfold PD.bytes PD.HM
 unfold PD.get at q2 q3⊢
 by_cases h1:s.kind k=1
 ·simp only [if_pos h1] at q2 q3⊢
  obtain⟨a,c,rfl⟩:=RSl.val q2
  exact⟨a,c,_,rfl,q2,q3⟩
 ·by_cases h2:s.kind k=2
  ·simp only [if_neg h1,if_pos h2] at q2 q3⊢
   obtain⟨a,c,rfl⟩:=RSl.val q2
   exact⟨a,c,_,rfl,q2,q3⟩
  ·simp only [if_neg h1,if_neg h2] at q2 q3⊢
   obtain rfl:q=.slice none 0 0:=q2
   exact⟨none,0,s.tc,rfl,RSl.nil,q3⟩
theorem P7{l:List Sec}{i j:Nat}{x:Sec} (hi:i<l.length):(l.set i x).getD j []=if j=i then x else l.getD j []:=by
 simp only [Acf,List.getElem?_set]
 by_cases e:i=j
 ·subst e;simp [hi]
 ·rw [if_neg e,if_neg (fun h=>e h.symm)]
theorem J3{s:PD} (hin:s.frm+s.kinds.length≤s.syn.length) {i:Nat} (h1:s.kd i=1):∀{n:Nat},n≤s.kinds.length→i<n→(synced (s.writes n) s.syn).getD (s.frm+i) []=s.fb i
 |n+1,hn,hi=>by
  rw [PD.writes]
  by_cases e:i=n
  ·subst e
   rw [if_pos h1,IJ,P7 (by rw [Ez];omega),if_pos rfl]
  ·have ih:=J3 hin h1 (n:=n) (by omega) (by omega)
   split
   ·rw [IJ,P7 (by rw [Ez];omega),if_neg (by omega)];exact ih
   ·rw [Ads];exact ih
abbrev PD.fin(s:PD):PD:=s.flush.done
theorem RY{s:PD}{k:Int}:s.fin.kind k=C7 (s.kind k):=by
 unfold PD.kind
 have h1:s.fin.frm=s.frm:=rfl
 have h2:s.fin.kinds.length=s.kinds.length:=by simp [PD.fin,PD.done,PD.flush]
 rw [h1,h2]
 split
 ·show(s.kinds.map C7).getD _ 0=_
  rw [getD_map]
 ·rfl
theorem Qf{s:PD} (hG:Good s) {k:Int}:s.fin.bytes k=s.bytes k:=by
 have hk:=RY (s:=s) (k:=k)
 have hrng:s.kind k= -1∨(0≤s.kind k∧s.kind k≤3):=by
  unfold PD.kind
  split
  ·exact .inr (hG.kd _)
  ·exact .inl rfl
 have hin:=hG.inn
 by_cases h1:s.kind k=1
 ·rw [h1] at hk
  have hk2:s.fin.kind k=2:=hk
  rw [Ip hk2]
  obtain⟨i,i1,rfl,i2,i3⟩:=CO h1 (by omega)
  have:s.bytes ((s.frm+i:Nat):Int)=s.fb i:=by unfold PD.bytes;rw [if_pos h1,i3]
  rw [this]
  exact J3 hin i2 (Ach _) i1
 ·by_cases h2:s.kind k=2
  ·rw [h2] at hk
   have hk2:s.fin.kind k=2:=hk
   rw [Ip hk2,Ip h2]
   obtain⟨i,i1,rfl,i2,i3⟩:=CO h2 (by omega)
   exact R5 (by omega)
  ·have h3:s.fin.kind k≠1∧s.fin.kind k≠2:=by
    rw [hk];unfold C7
    by_cases q:s.kind k=3
    ·rw [if_pos q];omega
    ·rw [if_neg q,if_neg h1];omega
   unfold PD.bytes
   rw [if_neg h3.1,if_neg h3.2,if_neg h1,if_neg h2]
theorem Pg.full{d:Ac}{s:PD}{dv pv:Value}{L:List Ac} (h:Pg d s dv pv L) {k:Int} (hk:s.kind k=1∨s.kind k=2):(s.bytes k).length=256:=by
 have hG:=h.E0
 obtain⟨A,LD, -,hD⟩:=h.dev
 obtain⟨b,T,cv,bk,cp,hkk,mb,ms,clk,c,LC,LD,bd,h1,h2,h3,h4,h5, -⟩:=h
 have hin:=hG.inn
 rcases hk with hk|hk
 ·obtain⟨i,i1,rfl,i2,i3⟩:=CO hk (by omega)
  obtain⟨v, -, -,q⟩:=h5 i i1 i2
  unfold PD.bytes;rw [if_pos hk,i3];exact q
 ·obtain⟨i,i1,rfl,i2,i3⟩:=CO hk (by omega)
  rw [Ip hk]
  exact Dv.sec hD (show((s.frm+i:Nat):Int).toNat<s.syn.length by omega)
theorem UJ{s:PD}{k:Int} (h1:s.kind k≠1) (h2:s.kind k≠2):s.bytes k=[]:=by unfold PD.bytes;rw [if_neg h1,if_neg h2]
theorem AaP{s:PD} (hG:Good s) {i:Nat}:s.fin.kd i=0∨s.fin.kd i=2:=by
 show(s.kinds.map C7).getD i 0=0∨(s.kinds.map C7).getD i 0=2
 rw [getD_map]
 have h:0≤s.kinds.getD i 0∧s.kinds.getD i 0≤3:=hG.kd i
 unfold C7
 by_cases q:s.kinds.getD i 0=3
 ·rw [if_pos q];omega
 ·rw [if_neg q]
  by_cases q1:s.kinds.getD i 0=1
  ·rw [if_pos q1];omega
  ·rw [if_neg q1];omega
end Go.Gk.Pgr
end
section
namespace Go.Gk
open Go
section
def Mf(X:List Nat) (a0 a:Act):Prop:=∀t,t∉X→a.tmps[t]?=a0.tmps[t]?
theorem Mf.put{X:List Nat}{a0 a:Act} (h:Mf X a0 a) {dst:Option Nat} (hd:∀t,dst=some t→t∈X) (v:Value):Mf X a0 (a.put dst v):=by
 intro t ht
 cases dst with
 |none=>exact h t ht
 |some d=>
  have hne:d≠t:=fun e=>ht (e▸hd d rfl)
  show(a.tmps.setIfInBounds d v)[t]?=_
  rw [Array.getElem?_setIfInBounds,if_neg hne]
  exact h t ht
theorem Mf.defer{X:List Nat}{a0 a:Act} (h:Mf X a0 a) (l:List Deferred):Mf X a0 {a with defers:=l}:=h
section
variable {P:Program}{ops:Array Oper}{Q:Exit→Act→World→Prop}{X:List Nat}{a0:Act}
end
def Ik:Code→List Nat
 |.region _ ops _=>ops.toList.filterMap (·.dst)
 |.seq a b=>Ik a++Ik b
 |.cond _ a b=>Ik a++Ik b
 |.block _ a=>Ik a
 |.loop a=>Ik a
 |_=>[]
end
section
structure Jp where
 n:Nat
 res:List Gb
 a:Cg
 fd:Nat
 g:FuncId
 caps:List Nat
 c:Cg
def KW(n:Nat):List Operand→Option (List Nat)
 |[]=>some []
 |.tmp t::l=>if t<n then(KW n l).map (t:: ·) else none
 |_::_=>none
def Y3:Gb→Nat
 |.tmp t=>t
 |.cell t _=>t
def QL(n:Nat) (ops:List Oper):Option (Nat×FuncId×List Nat):=
 match ops with
 |[o1,o2]=>match o1.dst,o1.op,o1.guard,o2.dst,o2.op,o2.guard with
  |some fd,.makeFunc (.func g) first caps,none,none,.defer ⟨.value (.tmp fd'),args,_⟩,none=>
   if first.size=0∧args.size=0∧fd=fd'∧fd<n then(KW n caps.toList).map fun cs=>(fd,g,cs) else none
  |_,_,_,_,_,_=>none
 |_=>none
def XE(pr:Bool) (P:Program) (f:FuncId):Option Jp:=
 match P.funcs[f]? with
 |some fn=>
  if fn.name== "runtime.NumGoroutine" || !P.follows .mixedOrders then none else
  match fn.body with
  |some (.seq a (.seq (.region _ ops false) c))=>
   match QL fn.ntmps ops.toList,fn.results.toList.mapM (G6 P fn.ntmps) with
   |some (fd,g,cs),some rs=>if rs.all (fun r=> !(Ik c).contains (Y3 r)) then some ⟨fn.ntmps,rs,D4 pr P fn.ntmps a,fd,g,cs,D4 pr P fn.ntmps c⟩ else none
   |_,_=>none
  |_=>none
 |none=>none
theorem Nr{args:List Value}{n:Nat} (ha:args.length≤n):({tmps:=args.toArray++Array.replicate (n - args.toArray.size) undef,defers:=[]}:Act)=act n (F2 args) []:=by
 simp only [act,Act.mk.injEq,and_true]
 apply Array.ext
 ·simp at ha⊢;omega
 ·intro i h1 h2
  simp only [Array.getElem_ofFn,F2]
  by_cases hi:i<args.length
  ·rw [Array.getElem_append_left (by simpa using hi)];simp [hi]
  ·rw [Array.getElem_append_right (by simpa using hi)];simp [Afw,Adq (Ahe hi)]
theorem QT{P:Program}{n:Nat}{fn:Func}{rs:List Gb} (hr:fn.results.toList.mapM (G6 P n)=some rs) {ρ:Env}{ds:List Deferred}{d:Ac}{L F:List Ac}{W:World} (hOk:Ok (d::(L++F)) W) {vs:List Value} (h:Gu ρ (HC d L) rs vs):
  (results fn (act n ρ ds).tmps).run P W=.ok (JV vs) W:=by
 have hl:∀a v,HC d L a v→W.cell? a=some v:=fun a v hc=>hc.cell hOk.head (fun q hq=>hOk.2 q (by simp [hq]))
 have:=GW (P:=P) (n:=n) (ρ:=ρ) (ds:=ds) hl fn.results.toList rs vs hr h
 rw [Hn,Array.mapM_eq_mapM_toList]
 simp only [Sem.run_bind,Sem.run_map,this,Result.andThen,Sem.run_pure]
 cases vs with
 |nil=>rfl
 |cons v vs=>cases vs with
  |nil=>rfl
  |cons v' vs=>rfl
theorem ID{n:Nat}{ρ:Env}{ds:List Deferred}:∀{l:List Operand}{cs:List Nat},KW n l=some cs→l.map (act n ρ ds).eval=cs.map ρ
 |[],cs,h=>by cases h;rfl
 |.tmp t::l,cs,h=>by
  simp only [KW] at h
  split at h<;>try cases h
  rename_i ht
  simp only [Ado] at h
  obtain⟨cs',h,rfl⟩:=h
  have e:(act n ρ ds).eval (.tmp t)=ρ t:=Bb (x:=.tmp t) (by simpa [DM] using ht)
  simp only [Afj,e,ID h]
 |.const _::l,cs,h=>by cases h
 |.global _::l,cs,h=>by cases h
 |.func _::l,cs,h=>by cases h
section
variable {pr:Bool}{P:Program}
def KM(K:Ac→List Ac→Prop):BZ:={n:=fun _=>K,ret:=fun _=>K,ex:=fun _ _ _ _=>False,pan:=fun _ _ _=>False}
def DX(g:FuncId) (caps:List Value):Value:=.func (.func g) #[] caps.toArray
theorem NY{n:Nat}{ops:Array Oper}{r:Nat×FuncId×List Nat} (h:QL n ops.toList=some r):∃o1 o2 caps ats,ops= #[o1,o2]∧o1.dst=some r.1∧o1.op=.makeFunc (.func r.2.1) #[] caps∧o1.guard=none∧o2.dst=none∧o2.op=.defer ⟨.value (.tmp r.1), #[],ats⟩∧o2.guard=none∧r.1<n∧KW n caps.toList=some r.2.2:=by
 obtain⟨ops⟩:=ops
 simp only [QL] at h
 split at h<;>try cases h
 rename_i o1 o2
 split at h<;>try cases h
 rename_i h1 h2 h3 h4 h5 h6
 split at h<;>try cases h
 rename_i hc
 obtain⟨k1,k2,k3,k4⟩:=hc
 simp only [Ado] at h
 obtain⟨cs,hcs,rfl⟩:=h
 subst k3
 have k1:=Array.eq_empty_of_size_eq_zero k1
 have k2:=Array.eq_empty_of_size_eq_zero k2
 subst k1;subst k2
 exact⟨o1,o2,_,_,by simp_all,h1,h2,h3,h4,h5,h6,k4,hcs⟩
end
end
section
section
variable {pr:Bool}{P:Program}
theorem J5{f:FuncId}{g:AY} (hd:IG pr P f=some g) (hr:g.res=[]) {args:List Value} (ha:args.length≤g.n) {F:List Ac}{W:World}{d:Ac}{L:List Ac}{K:Ac→List Ac→Prop}
  (h:gwp P g.code (KM K) (F2 args) d L) (hOk:Ok (d::(L++F)) W):
  CallsD P f args.toArray .returning W fun e u' w'=>(∃r,e=.returned r)∧u'=.returning∧∃d' L',Ok (d'::(L'++F)) w'∧Le d d'∧AH W w'∧K d' L':=by
 simp only [IG] at hd
 split at hd<;>try cases hd
 rename_i fn hf
 split at hd<;>try cases hd
 rename_i hn
 split at hd<;>try cases hd
 rename_i c hb
 rw [Ado] at hd
 obtain⟨rs,hrs,rfl⟩:=hd
 simp only at hr
 subst hr
 have hz:fn.results.size=0:=by
  have:fn.results.toList.length=0:=by
   cases e:fn.results.toList with
   |nil=>rfl
   |cons r l=>
    rw [e,Ahb] at hrs
    simp only [Ahh,Adl,Option.pure_def] at hrs
    obtain⟨_,_,_,_,hh⟩:=hrs
    cases hh
  simpa using this
 simp only [Adr,not_or,Aev,Afu] at hn
 refine callsD_of_wpS hf hb fun c₀ cs hu=>?_
 rw [Nr ha]
 refine wpS_of_wp (wp_mono (EY (ds:=[]) (F:=F) (W0:=W) (d0:=d) (by simpa using hn.2) c _ _ d L W h hOk (Le.refl d) (AH.refl W)) ?_)
 have hres:∀(tm:Array Value) (w:World),(results fn tm).run P w=.ok (.tuple #[]) w:=by
  intro tm w
  have:fn.results= #[]:=Array.eq_empty_of_size_eq_zero hz
  rw [Hn,Array.mapM_eq_mapM_toList,this];simp
 intro e a w hq
 cases e with
 |normal=>
  obtain⟨ρ,d',L',rfl,k1,k2,k3,k4⟩:=hq
  exact⟨rfl,.returning,by cases c₀;simp_all,_,hres _ _,⟨_,rfl⟩,rfl,d',L',k1,k2,k3,k4⟩
 |ret=>
  obtain⟨ρ,d',L',rfl,k1,k2,k3,k4⟩:=hq
  exact⟨rfl,.returning,by cases c₀;simp_all,_,hres _ _,⟨_,rfl⟩,rfl,d',L',k1,k2,k3,k4⟩
 |panic c=>obtain⟨_,_,_,_,_,_,hh⟩:=hq;exact hh.elim
 |exit i=>obtain⟨_,_,_,_,_,_,_,hh⟩:=hq;exact hh.elim
 |goto l=>exact hq.elim
 |outgrown=>exact hq.elim
def AbJ(P:Program) (res:List Gb) (v:AY) (R:Ending→Ac→List Ac→Prop) (caps:List Value):BZ:=
 {n:=fun ρ d L=>gwp P v.code (KM (CA res R ρ)) (F2 caps) d L,ret:=fun ρ d L=>gwp P v.code (KM (CA res R ρ)) (F2 caps) d L,ex:=fun _ _ _ _=>False,pan:=fun _ _ _=>False}
def Qx(P:Program) (g:Jp) (v:AY) (R:Ending→Ac→List Ac→Prop):BZ:=
 {n:=fun ρ d L=>gwp P g.c (AbJ P g.res v R (g.caps.map ρ)) (upd ρ g.fd (DX g.g (g.caps.map ρ))) d L,
  ret:=fun _ _ _=>False,ex:=fun _ _ _ _=>False,pan:=fun _ _ _=>False}
theorem Wh{pr':Bool}{f:FuncId}{g:Jp}{v:AY} (hd:XE pr P f=some g) (hv:IG pr' P g.g=some v) (hvr:v.res=[]) {args:List Value} (ha:args.length≤g.n) (hcl:g.caps.length≤v.n) {d:Ac}{L:List Ac}{R:Ending→Ac→List Ac→Prop}
  (h:gwp P g.a (Qx P g v R) (F2 args) d L):Aw P f args d L R:=by
 simp only [XE] at hd
 split at hd<;>try cases hd
 rename_i fn hf
 split at hd<;>try cases hd
 rename_i hn
 split at hd<;>try cases hd
 rename_i A id ops C hb
 split at hd<;>try cases hd
 rename_i fd gg cs rs hdf hrs
 split at hd<;>cases hd
 rename_i hall
 simp only [Adr,not_or,Aev,Afu] at hn
 have hm:P.follows .mixedOrders=true:=by simpa using hn.2
 obtain⟨o1,o2,caps,ats,rfl,h1,h2,h3,h4,h5,h6,h7,h8⟩:=NY hdf
 simp only at h1 h2 h5 h7 h8 hv hcl ha h
 have hvc:JP P gg:=by
  have hv':=hv
  simp only [IG] at hv'
  split at hv'<;>try cases hv'
  rename_i fn' hf'
  split at hv'<;>try cases hv'
  rename_i hn'
  split at hv'<;>try cases hv'
  rename_i hb'
  simp only [Adr,not_or,Aev,Afu] at hn'
  exact⟨fn',hf',by rw [hb'];rfl,hn'.1⟩
 refine⟨⟨fn,hf,by rw [hb];rfl,hn.1⟩,fun F W hOk=>?_⟩
 refine calls_of_wp_defers hf hb ?_
 rw [Nr ha]
 refine wp_seq (wp_mono (EY (ds:=[]) (F:=F) (W0:=W) (d0:=d) hm A _ _ d L W h hOk (Le.refl d) (AH.refl W)) ?_)
 intro e a w hq
 cases e with
 |panic c=>obtain⟨_,_,_,_,_,_,hh⟩:=hq;exact hh.elim
 |exit i=>obtain⟨_,_,_,_,_,_,_,hh⟩:=hq;exact hh.elim
 |ret=>obtain⟨_,_,_,_,_,_,_,hh⟩:=hq;exact hh.elim
 |goto l=>exact hq.elim
 |outgrown=>exact hq.elim
 |normal=>
 obtain⟨ρ,d1,L1,rfl,k1,k2,k3,k4⟩:=hq
 simp only [Qx] at k4
 refine wp_seq (wp_region ?_)
 have l:Ade (#[o1,o2]:Array Oper).size=[0,1]:=rfl
 rw [l]
 have g0:(#[o1,o2]:Array Oper)[0]?=some o1:=rfl
 have g1:(#[o1,o2]:Array Oper)[1]?=some o2:=rfl
 have e1:∀ys,Region.wanted o1 ys=true:=fun ys=>by simp [Region.wanted,h3]
 have e2:∀ys,Region.wanted o2 ys=true:=fun ys=>by simp [Region.wanted,h6]
 have hcv:caps.map (act fn.ntmps ρ []).eval=(cs.map ρ).toArray:=by
  have:=ID (ρ:=ρ) (ds:=[]) h8
  exact Array.ext' (by rw [Array.toList_map,this])
 have x1:∀w,(execOp (act fn.ntmps ρ []).eval o1).run P w=.ok (.value (DX gg (cs.map ρ))) w:=by
  intro w;simp [execOp,h2,Instr.makeFunc,hcv,DX]
 have hfd:(act fn.ntmps (upd ρ fd (DX gg (cs.map ρ))) []).eval (.tmp fd)=DX gg (cs.map ρ):=by
  rw [Bb (x:=.tmp fd) (by simpa [DM] using h7)];simp [ev,upd]
 have x2:∀w,(execOp (act fn.ntmps (upd ρ fd (DX gg (cs.map ρ))) []).eval o2).run P w=.ok (.defer {target:=.fn (.func gg) (cs.map ρ).toArray,args:= #[]}) w:=by
  intro w
  generalize (act fn.ntmps (upd ρ fd (DX gg (cs.map ρ))) []).eval=e at hfd
  simp [execOp,h5,resolve,hfd,DX,Deferred.ofValue]
 have p1:(act fn.ntmps ρ []).put o1.dst (DX gg (cs.map ρ))=act fn.ntmps (upd ρ fd (DX gg (cs.map ρ))) []:=by
  rw [h1,ET (d:=some fd) (fun _ e=>by cases e;exact h7)];rfl
 simp only [wpOps_cons,wpOp,g0,e1,if_true]
 refine .inl ?_
 simp only [Oper.wp,x1,Oper.upon,p1,wpOps_cons,wpOp,g1,e2,if_true]
 refine .inl ?_
 simp only [x2,h4]
 show Code.wp P C _ (act fn.ntmps (upd ρ fd (DX gg (cs.map ρ))) [{target:=.fn (.func gg) (cs.map ρ).toArray,args:= #[]}]) w
 have hlen:(cs.map ρ).length≤v.n:=by simpa using hcl
 have hinv:∀w,(invoke (.fn (.func gg) (cs.map ρ).toArray) #[]).run P w=.ok (.enter gg (cs.map ρ).toArray) w:=by
  intro w;simp [invoke,EV hvc]
 generalize hD:(⟨.fn (.func gg) (cs.map ρ).toArray, #[]⟩:Deferred)=D
 refine wp_mono (EY (ds:=[D]) (F:=F) (W0:=W) (d0:=d) hm C _ _ d1 L1 w k4 k1 k2 k3) ?_
 subst hD
 have fin:∀a w,(∃ρ' d' L',a=act fn.ntmps ρ' [⟨.fn (.func gg) (cs.map ρ).toArray, #[]⟩]∧Ok (d'::(L'++F)) w∧Le d d'∧AH W w∧gwp P v.code (KM (CA rs R ρ')) (F2 (cs.map ρ)) d' L')→
   Leaves P fn a.tmps (fun e W'=>∃d' L',Ok (d'::(L'++F)) W'∧Le d d'∧AH W W'∧R e d' L') a.defers .returning w:=by
  rintro a w ⟨ρ',d',L',rfl,j1,j2,j3,j4⟩
  refine leaves_cons (by simp) (hinv w) ((J5 hv hvr hlen j4 j1).mono ?_)
  rintro e u' w' ⟨⟨r,rfl⟩,rfl,d2,L2,q1,q2,q3,vs,q4,d3,L3,q5,q6⟩
  exact⟨JV vs,QT hrs q1 q4,d3,L3,q5.2 F w' q1,(j2.trans q2).trans q5.1,j3.trans q3,q6⟩
 intro e a w hq
 cases e with
 |normal=>exact fin a w hq
 |ret=>exact fin a w hq
 |panic c=>obtain⟨_,_,_,_,_,_,hh⟩:=hq;exact hh.elim
 |exit i=>obtain⟨_,_,_,_,_,_,_,hh⟩:=hq;exact hh.elim
 |goto l=>exact hq.elim
 |outgrown=>exact hq.elim
end
end
end Go.Gk
end
section
namespace Go.Gk.Chn
open Go Go.Gk Go.Gk.Dev Go.Gk.Cch Go.Gk.Pgr Go.Gk.Node
attribute [local irreducible] gwp gws xwp
def BQ(s:PD) (l:List Int):Nat→PD×List Int×Int
 |0=>(s,l,0)
 |n+1=>if s.AV.2.2=0 then BQ s.AV.1 (l++[s.AV.2.1]) n else(s.AV.1,l,s.AV.2.2)
def Dp(s:PD) (l:List Int):PD:=l.foldl (fun s k=>(s.drop k).1) s
def Bz(s:PD) (n:Nat):PD×List Int×Int:=if (BQ s [] n).2.2=0 then BQ s [] n else(Dp (BQ s [] n).1 (BQ s [] n).2.1,[],(BQ s [] n).2.2)
theorem P9{s:PD} (hG:Pgr.Good s):0≤s.AV.2.1∧s.AV.2.1≤16384:=by
 unfold PD.AV
 cases h:C2 0 s.kinds with
 |none=>show 0≤(0:Int)∧(0:Int)≤16384;decide
 |some i=>
  obtain⟨h1, -⟩:=FP h
  have:=hG.inn
  have:=hG.syn
  show 0≤((s.frm+i:Nat):Int)∧((s.frm+i:Nat):Int)≤16384
  omega
def OU(P:Program) (f:FuncId):Prop:=∀{d:Ac}{s:PD}{dv pv:Value}{L:List Ac}{n:Nat},Pg d s dv pv L→n≤8192→
 Aw P f [pv,.int .i64 n] d L (Ret fun r d' L'=>Le d d'∧∃v,r=.tuple #[v,.int .i64 (Bz s n).2.2]∧Dz d' v (Bz s n).2.1∧Pg d' (Bz s n).1 dv pv L')
theorem Yw(d a b c h:Ac) (L:List Ac):Vs d (a::b::c::h::L) (join d h) L:=(Vs.drop (.cons _ (.cons _ (.cons _ (Acb _))))).trans Vs.freeze
theorem UD{s:PD}{l:List Int}{k:Int}:Dp s (l++[k])=((Dp s l).drop k).1:=by simp [Dp]
def Qi(a0 a1:Nat):Jp:=⟨27,[(.cell 4 none),(.cell 5 none)],(rG (o1 2 (.box (tP 0))<|o1 4 (.alo (.slice none 0 0))<|o1 5 (.alo (.int .i64 0)) .done)),8,a0,[5,4,2],(.seq (sR (om 9 1<|o1 10 (.mv (kZ 0)) .done) (.block 0 (.loop (sR (ob 11 .lss (tP 10) (tP 9) .done) (.seq (.cond (tP 11) .skip (.exit 0)) (.seq (.block 1 (sR (ol 13 2<|oc 14 a1 [(tP 13)]<|om 12 14<|oe 15 12 0<|oe 16 12 1<|om 6 15<|om 7 16 .done) (.seq (sR (om 17 7<|ob 18 .neq (tP 17) (kZ 0) .done) (.cond (tP 18) (sR (ol 19 4<|om 20 7<|o0 (.st 1 (tP 4) (tP 19))<|o0 (.st 1 (tP 5) (tP 20)) .done) .ret) .skip)) (rG (ol 21 4<|om 22 6<|o1 23 (.bsl 1 1 [(.int .i64 0)] [(0,(tP 22))])<|o1 24 (.app 1 8 [(.int .i64 0)] (tP 21) (tP 23))<|o0 (.st 1 (tP 4) (tP 24)) .done))))) (rG (ob 25 .add (tP 10) (kZ 1)<|om 10 25 .done)))))))) (sR (ol 26 4<|o0 (.st 1 (tP 4) (tP 26))<|o0 (.st 1 (tP 5) (kZ 0)) .done) .ret))⟩
def Iu(a0:Nat):AY:=⟨17,[],(sR (ol 5 0<|ob 6 .neq (tP 5) (kZ 0) .done) (.cond (tP 6) (.seq (sR (ol 7 1<|oL 8 7<|o1 9 (.mv (kZ 0)) .done) (.block 0 (.loop (sR (ob 10 .lss (tP 9) (tP 8) .done) (.seq (.cond (tP 10) .skip (.exit 0)) (.seq (.block 1 (sR (oI 11 1 7 9<|ol 12 11<|om 4 12 .done) (rG (ol 13 2<|om 14 4<|oc 15 a0 [(tP 13),(tP 14)] .done)))) (rG (ob 16 .add (tP 9) (kZ 1)<|om 9 16 .done)))))))) (rG (o0 (.st 1 (tP 1) nS) .done))) .skip))⟩
def Rn(P:Program) (f:FuncId):Prop:=∃f3,dec P f=some (Iu f3)∧Gt P f3
theorem ZY{P:Program}{f f3:FuncId} (hd:dec P f=some (Iu f3)) (h:Gt P f3):Rn P f:=⟨f3,hd,h⟩
set_option maxRecDepth 4000 in
set_option maxHeartbeats 1000000 in
theorem W8{P:Program}{f f1 f2:FuncId} (hd:XE false P f=some (Qi f1 f2)) (h0:Rn P f1) (h1:FM P f2):OU P f:=by
 obtain⟨f3,hv,h2⟩:=h0
 intro d s dv pv L n hp hn
 obtain⟨bp,rfl⟩:=hp.ptr
 refine Wh hd hv rfl (Aca rfl) (Aca rfl) ?_
 show gwp P _ _ _ _ _
 (apply AE)
 refine Fj rfl (fun b2 T2=>?_)
 refine DI (fun b4 T4=>?_)
 refine DI (fun b5 T5=>?_)
 refine FE ⟨d,bx b5 T5 [.int .i64 0]::bx b4 T4 [.slice none 0 0]::bx b2 T2 [.pointer (some ⟨bp,0,none⟩)]::emp::L,(Vs.emp (L:=_)).trans (Vs.perm ((Adc _ _ _).trans (Acn _ ((Adc _ _ _).trans (Acn _ (Adc _ _ _)))))),?_⟩
 show gwp P _ _ _ _ _
 (refine Ah<|Ad<|Ab rfl<|Ab rfl<|Aa<|Ax ?_)
 refine CI (α:=Nat×PD×List Int×Option Addr×Nat) (fun x=>[(2,.pointer (some ⟨b2,0,none⟩)),(4,.pointer (some ⟨b4,0,none⟩)),(5,.pointer (some ⟨b5,0,none⟩)),(9,.int .i64 n),(10,.int .i64 x.1)])
  (fun x d' L'=>Le d d'∧x.1≤n∧BQ s [] n=BQ x.2.1 x.2.2.1 (n - x.1)∧x.2.2.1.length=x.1∧∃hv L3,L'=bx b5 T5 [.int .i64 0]::bx b4 T4 [.slice x.2.2.2.1 x.2.2.1.length x.2.2.2.2]::bx b2 T2 [.pointer (some ⟨bp,0,none⟩)]::hv::L3∧
   As 1 Bi d' (.slice x.2.2.2.1 x.2.2.1.length x.2.2.2.2) x.2.2.1 hv∧Pg d' x.2.1 dv (.pointer (some ⟨bp,0,none⟩)) L3)
  (fun x=>n - x.1) (0,s,[],none,0) ⟨rfl,rfl,rfl,rfl,rfl,trivial⟩ ⟨Le.refl _,Adf _,rfl,rfl,emp,L,rfl,As.nil,hp⟩ ?_
 rintro⟨i,s1,l,va,vc⟩ ρ d' L' ⟨hle,hi,hT,hll,hv,L3,rfl,hrow,hp1⟩
 simp only at hi hT hll hrow hp1⊢
 by_cases e:i<n
 ·have hni:n - i=(n - (i+1))+1:=by omega
  rw [hni,BQ] at hT
  (refine Ad<|AA rfl rfl<|Aa<|Ah<|Ay rfl (by omega)<|Al<|Ah<|Ax<|Ad<|Ag rfl (Aj 2 rfl rfl) ?_)
  refine CU (h1 hp1) (Aci (l₁:=[_,_,_,_])) rfl (fun u d2 L2 hl2 ⟨q1,hp2⟩=>?_)
  subst q1
  refine⟨d2,_::_::_::_::L2,Vs.perm (Aci (l₂:=[_,_,_,_])),?_⟩
  have hrow2:As 1 Bi d2 (.slice va l.length vc) l hv:=As.mono (R:=Bi) Cb hrow hl2
  by_cases hz:s1.AV.2.2=0
  ·rw [if_pos hz] at hT
   (refine AU rfl<|Ap rfl rfl<|Ap rfl rfl<|Ab rfl<|Ab rfl<|Aa<|Ah<|Ad<|Ab rfl<|AO rfl rfl<|Aa<|Ar rfl (by omega)<|Al<|AE<|Ag rfl (Aj 1 rfl rfl)<|Ab rfl ?_)
   have hrg:=P9 hp1.E0
   refine Ea (v0:=.int .i64 s1.AV.2.1) rfl rfl (fun b3 T3=>?_)
   refine D8 (R:=Bi) 3 rfl rfl hrow2 rfl (As.Es (x:=s1.AV.2.1) rfl ⟨rfl,by omega,by omega⟩) Di (by omega) (by simp;omega) (by simp;omega) (fun v' h' ho'=>?_)
   obtain⟨va',vc',rfl⟩:=ho'.val
   refine A0 1 [.slice va' (l++[s1.AV.2.1]).length vc'] rfl rfl rfl rfl (Ach _) rfl rfl ?_
   (refine Aa<|AE<|AN rfl rfl (by omega) (by omega)<|Ab rfl<|Aa ?_)
   exact⟨(i+1,s1.AV.1,l++[s1.AV.2.1],va',vc'),by simp only;omega,⟨rfl,rfl,rfl,rfl,rfl,trivial⟩,hle.trans hl2,e,hT,by simp only [Acl,Acs,Ael];omega,h',L2,rfl,ho',hp2⟩
  ·rw [if_neg hz] at hT
   (refine AU rfl<|Ap rfl rfl<|Ap rfl rfl<|Ab rfl<|Ab rfl<|Aa<|Ah<|Ad<|Ab rfl<|AO rfl rfl<|Aa<|Ay rfl (by omega)<|Ad<|Ag rfl (Aj 1 rfl rfl)<|Ab rfl ?_)
   refine A0 1 [.slice va l.length vc] rfl rfl rfl rfl (Ach _) rfl rfl ?_
   refine A0 0 [.int .i64 s1.AV.2.2] rfl rfl rfl rfl (Ach _) rfl rfl ?_
   have hF:Bz s n=(Dp s1.AV.1 l,[],s1.AV.2.2):=by unfold Bz;rw [hT,if_neg hz]
   rw [hF]
   have hbl:(s1.AV.1).kinds.length≤8192:=hp2.E0.len
   (refine Aa<|Ao<|Ad<|Ag rfl (Aj 0 rfl rfl)<|AO rfl rfl<|Aa<|Ay rfl (by omega)<|Ah<|Ad<|Ag rfl (Aj 1 rfl rfl)<|AL rfl<|Ab rfl<|Aa<|Ax ?_)
   show gwp P _ _ _ _ _
   skip
   refine CI (α:=Nat) (fun i=>[(1,.pointer (some ⟨b4,0,none⟩)),(2,.pointer (some ⟨b2,0,none⟩)),(7,.slice va l.length vc),(8,.int .i64 l.length),(9,.int .i64 i)])
    (fun i d' L'=>Le d2 d'∧i≤l.length∧∃L4,L'=bx b5 T5 [.int .i64 s1.AV.2.2]::bx b4 T4 [.slice va l.length vc]::bx b2 T2 [.pointer (some ⟨bp,0,none⟩)]::hv::L4∧Pg d' (Dp s1.AV.1 (l.take i)) dv (.pointer (some ⟨bp,0,none⟩)) L4)
    (fun i=>l.length - i) 0 ⟨rfl,rfl,rfl,rfl,rfl,trivial⟩ ⟨Le.refl _,Adf _,L2,rfl,hp2⟩ ?_
   rintro j ρ d' L' ⟨hle',hj,L4,rfl,hp4⟩
   by_cases ej:j<l.length
   ·have hn':Dp s1.AV.1 (l.take (j+1))=((Dp s1.AV.1 (l.take j)).drop l[j]).1:=by rw [Acx ej,UD]
    obtain⟨b1,T1,l1,c1,cs,q1,rfl,hcl,hcs,hle1,⟨rfl,hb1,hb2⟩, -⟩:=As.at (by omega) hrow ej
    cases q1
    have c0:=hcs 0 _ rfl
    (refine Ad<|AA rfl rfl<|Aa<|Ah<|Ay rfl (by omega)<|Al<|Ah<|Ax<|Ad<|Bx _ rfl rfl rfl (by omega)<|Ag rfl (Aj 3 rfl (by assumption))<|Ab rfl<|Aa<|AE<|Ag rfl (Aj 2 rfl rfl)<|Ab rfl ?_)
    refine CU (h2 (k:=l[j]) hp4) (Aci (l₁:=[_,_,_,_])) rfl (fun u d5 L5 hl5 ⟨q1,hp5⟩=>?_)
    subst q1
    refine⟨d5,_::_::_::_::L5,Vs.perm (Aci (l₂:=[_,_,_,_])),?_⟩
    (refine Aa<|AE<|AN rfl rfl (by omega) (by omega)<|Ab rfl<|Aa ?_)
    exact⟨j+1,by omega,⟨rfl,rfl,rfl,rfl,rfl,trivial⟩,hle'.trans hl5,ej,L5,rfl,by rw [hn'];exact hp5⟩
   ·have:j=l.length:=by omega
    subst this
    rw [Aeg] at hp4
    (refine Ad<|AA rfl rfl<|Aa<|Ah<|Ar rfl (by omega)<|Bh<|AE ?_)
    refine A0 1 [.slice none 0 0] rfl rfl rfl rfl (Ach _) rfl rfl ?_
    (apply Aa)
    exact A7 [.slice none 0 0,.int .i64 s1.AV.2.2] ⟨⟨_,_,rfl,Aj 1 rfl rfl⟩,⟨_,_,rfl,Aj 0 rfl rfl⟩,trivial⟩ (d':=d') (L':=L4) (Vs.drop (.cons _ (.cons _ (.cons _ (.cons _ (Acb _)))))) ⟨(hle.trans hl2).trans hle',_,rfl,RSl.nil,hp4⟩
 ·have:i=n:=by omega
  subst this
  rw [Afy,BQ] at hT
  have hF:Bz s i=(s1,l,0):=by unfold Bz;rw [hT,if_pos rfl]
  rw [hF]
  (refine Ad<|AA rfl rfl<|Aa<|Ah<|Ar rfl (by omega)<|Bh<|Ad<|Ag rfl (Aj 1 rfl rfl) ?_)
  refine A0 1 [.slice va l.length vc] rfl rfl rfl rfl (Ach _) rfl rfl ?_
  refine A0 0 [.int .i64 0] rfl rfl rfl rfl (Ach _) rfl rfl ?_
  (refine Aa<|Ao<|Ad<|Ag rfl (Aj 0 rfl rfl)<|AO rfl rfl<|Aa<|Ar rfl (by omega)<|Al ?_)
  exact A7 [.slice va l.length vc,.int .i64 0] ⟨⟨_,_,rfl,Aj 1 rfl rfl⟩,⟨_,_,rfl,Aj 0 rfl rfl⟩,trivial⟩ (d':=join d' hv) (L':=L3) (Yw _ _ _ _ _ _) ⟨hle.trans (Le.AI _ _),_,rfl,As.rsl (R:=Bi) (sz:=1) hrow Cb (by omega) (Le.AI _ _) (Le.A9 _ _),hp1.mono (Le.AI _ _)⟩
end Go.Gk.Chn
end
section
namespace Go.Gk.Chn
open Go Go.Gk Go.Gk.Dev Go.Gk.Cch Go.Gk.Pgr Go.Gk.Node
section
section
variable {P:Program}{pan:List PanicEntry→AS}{Qn:Env→AS}{Ls L:List Ac}{ρ:Env}{d:Ac}{s:GS}{t:Nat}{tk:Bool}
theorem P8{x y:Operand}{b len:Nat}{kk:IntKind} (k:Nat) (ex:ev ρ x=.pointer (some ⟨b,0,none⟩)) (ey:ev ρ y=.int kk (k:Nat)) (hk:k<len) (h:gws P pan Qn s Ls (upd ρ t (.slice (some ⟨b,k,none⟩) (len - k) (len - k))) d L):
  gws P pan Qn (.op tk ⟨some t,none,.sla len 1 x (some y) none none⟩ s) Ls ρ d L:=by
 refine w_q rfl ⟨b,0,k,len,len,ex,?_,rfl⟩ ?_
 ·simp only [DQ,GN,Gs,GM,Adz,Aeq,Option.map_none,ey,bnd]
  have:k≤len:=by omega
  simp [this]
 ·rw [if_neg (by omega)];simpa using h
theorem Q6{x:Operand}{b len:Nat} (ex:ev ρ x=.pointer (some ⟨b,0,none⟩)) (hk:0<len) (h:gws P pan Qn s Ls (upd ρ t (.slice (some ⟨b,0,none⟩) len len)) d L):
  gws P pan Qn (.op tk ⟨some t,none,.sla len 1 x none none none⟩ s) Ls ρ d L:=by
 refine w_q rfl ⟨b,0,0,len,len,ex,?_,rfl⟩ ?_
 ·simp [DQ,GN,Gs,GM]
 ·rw [if_neg (by omega)];simpa using h
end
attribute [local irreducible] gwp gws xwp
def AQ(n:Nat):Nat:=max 1 ((n+253) / 254)
def FA(P:Program) (f:FuncId):Prop:=∀{d:Ac}{n:Nat},n≤1000000→CT P f [.int .i64 n] d (.int .i64 (AQ n))
def Qr:AY:=⟨10,[(.tmp 2)],(sR (o1 2 (.mv (kZ 0)) .done) (.seq (sR (om 3 0<|ob 4 .lss (tP 3) (kZ 0) .done) (.cond (tP 4) (sR (o1 2 (.mv (kZ 0)) .done) .ret) .skip)) (sR (om 5 0<|ob 6 .sub (tP 5) (kZ 1)<|ob 7 .quo (tP 6) (kZ 254)<|ob 8 .add (tP 7) (kZ 1)<|o1 9 (.mx2 (kZ 1) (tP 8))<|om 2 9 .done) .ret)))⟩
theorem XF{n:Nat}:max (1:Int) (((n:Int) - 1).tdiv 254+1)=(AQ n:Nat):=by
 unfold AQ
 by_cases h:n=0
 ·subst h;rfl
 ·have h1:((n:Int) - 1).tdiv 254=((n:Int) - 1) / 254:=Int.tdiv_eq_ediv_of_nonneg (by omega)
  rw [h1];omega
theorem W2{P:Program}{f:FuncId} (hd:dec P f=some Qr):FA P f:=by
 intro d n hn
 refine AG hd (Aca rfl) ?_
 show gwp P _ _ _ _ _
 have hb: -1≤((n:Int) - 1).tdiv 254∧((n:Int) - 1).tdiv 254≤1000000:=by
  by_cases h:n=0
  ·subst h;decide
  ·rw [Int.tdiv_eq_ediv_of_nonneg (by omega)];omega
 (refine Ad<|Ab rfl<|Aa<|Ah<|Ad<|Ab rfl<|AA rfl rfl<|Aa<|Ar rfl (by omega)<|Al<|Ad<|Ab rfl<|CY rfl rfl (by omega) (by omega)<|AaW rfl rfl (by omega) (by omega) (by omega)<|AN rfl rfl (by omega) (by omega)<|YR rfl rfl<|Ab rfl<|Aa<|Ao ?_)
 refine Hm rfl ?_
 rw [XF]
def D1(next:Int) (c:List UInt8):Sec:=UInt8.ofNat (next / 256 % 256).toNat::UInt8.ofNat (next % 256).toNat::(c++Acr (254 - c.length) 0)
theorem Ox(x y:UInt8) {c:List UInt8} (_:c.length≤254):patch (patch (patch CQ 0 [Az x]) 1 [Az y]) 2 (c.map Az)=(x::y::(c++Acr (254 - c.length) 0)).map Az:=by
 have hz:CQ=Az 0::Az 0::Acr 254 (Az 0):=rfl
 have e1:patch (Az 0::Az 0::Acr 254 (Az 0)) 0 [Az x]=Az x::Az 0::Acr 254 (Az 0):=rfl
 have e2:patch (Az x::Az 0::Acr 254 (Az 0)) 1 [Az y]=Az x::Az y::Acr 254 (Az 0):=rfl
 rw [hz,e1,e2]
 unfold patch
 rw [Adx,Nat.add_comm 2]
 show Az x::Az y::(c.map Az++(Acr 254 (Az 0)).drop c.length)=_
 rw [List.drop_replicate,Afj,Afj,Afk,List.map_replicate]
def Ck(b:List UInt8) (i:Nat):List UInt8:=(b.drop (i*254)).take 254
def Ds(s:PD) (l:List Int) (b:List UInt8):Nat→PD
 |0=>s
 |i+1=>((Ds s l b i).put (l.getD i 0) (D1 (l.getD (i+1) 65535) (Ck b i))).1
def B0(s:PD) (b:List UInt8):PD×Int×Int:=
 let t:=Bz s (AQ b.length)
 if t.2.2=0 then(Ds t.1 t.2.1 b t.2.1.length,t.2.1.getD 0 0,0) else(t.1,0,t.2.2)
theorem Kx:∀{n:Nat}{s:PD}{l:List Int},(BQ s l n).2.2=0→(BQ s l n).2.1.length=l.length+n
 |0,s,l,_=>rfl
 |n+1,s,l,h=>by
  rw [BQ] at h⊢
  split at h
  ·rename_i e
   rw [if_pos e,Kx h];simp;omega
  ·rename_i e
   exact absurd h e
theorem VB{s:PD}{n:Nat} (h:(Bz s n).2.2=0):(Bz s n).2.1.length=n:=by
 unfold Bz at h⊢
 split
 ·rename_i e
  have:=Kx (s:=s) e
  simpa using this
 ·rename_i e
  rw [if_neg e] at h
  exact absurd h e
theorem PO{n i:Nat} (h:i<AQ n):i*254≤n:=by unfold AQ at h;omega
def SZ(a0 a1 a2:Nat):AY:=⟨64,[(.tmp 4),(.tmp 5)],(sR (o1 4 (.mv (kZ 0))<|o1 5 (.mv (kZ 0)) .done) (.seq (sR (om 12 1<|oL 13 12<|ob 14 .gtr (tP 13) (kZ 16384) .done) (.cond (tP 14) (sR (o1 4 (.mv (kZ 0))<|o1 5 (.mv (kZ 3)) .done) .ret) .skip)) (sR (om 16 0<|om 17 1<|oL 18 17<|oc 19 a0 [(tP 18)]<|oc 20 a1 [(tP 16),(tP 19)]<|om 15 20<|oe 21 15 0<|oe 22 15 1<|om 6 21<|om 7 22 .done) (.seq (sR (om 23 7<|ob 24 .neq (tP 23) (kZ 0) .done) (.cond (tP 24) (sR (om 25 7<|o1 4 (.mv (kZ 0))<|om 5 25 .done) .ret) .skip)) (.seq (sR (om 26 6<|oL 27 26<|o1 28 (.mv (kZ 0)) .done) (.block 0 (.loop (sR (ob 29 .lss (tP 28) (tP 27) .done) (.seq (.cond (tP 29) .skip (.exit 0)) (.seq (.block 1 (sR (om 30 28<|oI 31 1 26 28<|ol 32 31<|om 8 30<|om 9 32 .done) (sR (o1 10 (.mv (kZ 65535)) .done) (.seq (sR (om 33 8<|ob 34 .add (tP 33) (kZ 1)<|om 35 6<|oL 36 35<|ob 37 .lss (tP 34) (tP 36) .done) (.cond (tP 37) (rG (om 38 6<|om 39 8<|ob 40 .add (tP 39) (kZ 1)<|oI 41 1 38 40<|ol 42 41<|om 10 42 .done)) .skip)) (sR (o1 11 (.alo (.agg CQ.toArray)) .done) (sR (om 43 10<|ob 44 .shr (tP 43) (.const (.int .u64 8))<|o1 45 (.cvi .u8 (tP 44))<|om 46 10<|o1 47 (.cvi .u8 (tP 46))<|o1 48 (.idxa 256 1 (tP 11) (kZ 0))<|o0 (.st 1 (tP 48) (tP 45))<|o1 49 (.idxa 256 1 (tP 11) (kZ 1))<|o0 (.st 1 (tP 49) (tP 47)) .done) (.seq (.reg true (p1 50 (.sla 256 1 (tP 11) (some (kZ 2)) none none)<|pm 51 1<|pm 52 8<|p1 53 (.bin .mul (tP 52) (kZ 254))<|p1 54 (.sl 1 (tP 51) (some (tP 53)) none none)<|o1 55 (.mop (.cpy 1 (tP 50) (tP 54))) .done)) (rG (om 56 0<|om 57 9<|o1 58 (.sla 256 1 (tP 11) none none none)<|oc 59 a2 [(tP 56),(tP 57),(tP 58)] .done))))))))) (rG (ob 60 .add (tP 28) (kZ 1)<|om 28 60 .done)))))))) (sR (om 61 6<|o1 62 (.idx 1 (tP 61) (kZ 0))<|ol 63 62<|om 4 63<|o1 5 (.mv (kZ 0)) .done) .ret))))))⟩
end
section
section
variable {P:Program}{pan:List PanicEntry→AS}{Qn:Env→AS}{Ls L:List Ac}{ρ:Env}{d:Ac}{s:GS}{t:Nat}{tk:Bool}
theorem or8{a b:Nat} (ha:a<256) (hb:b<256):IntKind.i64.wrap ((BitVec.ofInt 64 ((a*256:Nat):Int)|||BitVec.ofInt 64 (b:Int)).toNat:Int)=((a*256+b:Nat):Int):=by
 have h:(BitVec.ofInt 64 ((a*256:Nat):Int)|||BitVec.ofInt 64 (b:Int)).toNat=a*256+b:=by
  rw [BitVec.toNat_or,BitVec.toNat_ofInt,BitVec.toNat_ofInt]
  have e1:(((a*256:Nat):Int) % ((2 ^ 64:Nat):Int)).toNat=2 ^ 8*a:=by omega
  have e2:((b:Int) % ((2 ^ 64:Nat):Int)).toNat=b:=by omega
  rw [e1,e2,←Nat.two_pow_add_eq_or_of_lt (by omega)]
  omega
 rw [h,DG (by omega) (by omega)]
theorem QE{x y:Operand}{a b:Nat} (ex:ev ρ x=.int .i64 ((a*256:Nat):Int)) (ey:ev ρ y=.int .i64 (b:Int)) (ha:a<256) (hb:b<256) (h:gws P pan Qn s Ls (upd ρ t (.int .i64 ((a*256+b:Nat):Int))) d L):
  gws P pan Qn (.op tk ⟨some t,none,.bin .or x y⟩ s) Ls ρ d L:=by
 refine w_q rfl (show C1 .or (ev ρ x) (ev ρ y)=some (.int .i64 ((a*256+b:Nat):Int)) from ?_) h
 rw [ex,ey]
 exact congrArg (fun z=>some (Value.int .i64 z)) (or8 ha hb)
end
attribute [local irreducible] gwp gws xwp
def Gn(b:Sec):Nat:=(b.getD 0 0).toNat*256+(b.getD 1 0).toNat
def hdF(s:PD) (h:Int):Nat→Int
 |0=>h
 |i+1=>(Gn (s.bytes (hdF s h i)):Nat)
def Bl(s:PD) (k:Int):Prop:=s.kind k=1∨s.kind k=2
instance (s:PD) (k:Int):Decidable (Bl s k):=inferInstanceAs (Decidable (_∨_))
theorem Se{s:PD}{k:Int} (h:Bl s k):s.HM k=0:=by
 unfold PD.HM
 by_cases h1:s.kind k=1
 ·rw [if_pos h1]
 ·rw [if_neg h1,if_pos (h.resolve_left h1)]
theorem Rt{s:PD}{k:Int} (h:¬Bl s k):s.HM k=240∧s.bytes k=[]:=by
 unfold Bl at h
 have h1:s.kind k≠1:=fun q=>h (.inl q)
 have h2:s.kind k≠2:=fun q=>h (.inr q)
 exact⟨by unfold PD.HM;rw [if_neg h1,if_neg h2],UJ h1 h2⟩
theorem _root_.Go.Gk.Pgr.Fq.atT{P:Program}{f:FuncId} (h:Fq P f) {d:Ac}{s:PD}{dv pv:Value}{L:List Ac}{k:Int} (hp:Pg d s dv pv L):
  Aw P f [pv,.int .i64 k] d L (Ret fun r d' L'=>∃a c tc,r=.tuple #[.slice a (s.bytes k).length c,.int .i64 (s.HM k)]∧AM d' (.slice a (s.bytes k).length c) (s.bytes k)∧Pg d' {s with tc:=tc} dv pv L'∧tc=if Bl s k then s.tc+1 else s.tc):=by
 refine Aw.Dr (h (k:=k) hp) (fun r d' L' _ ⟨⟨q,q1,q2⟩,q3⟩=>⟨d',L',Vs.refl _ _,?_⟩)
 subst q1
 unfold PD.bytes PD.HM Bl
 unfold PD.get at q2 q3⊢
 by_cases h1:s.kind k=1
 ·simp only [if_pos h1] at q2 q3⊢
  obtain⟨a,c,rfl⟩:=RSl.val q2
  exact⟨a,c,_,rfl,q2,q3,(if_pos (.inl h1)).symm⟩
 ·by_cases h2:s.kind k=2
  ·simp only [if_neg h1,if_pos h2] at q2 q3⊢
   obtain⟨a,c,rfl⟩:=RSl.val q2
   exact⟨a,c,_,rfl,q2,q3,(if_pos (.inr h2)).symm⟩
  ·simp only [if_neg h1,if_neg h2] at q2 q3⊢
   obtain rfl:q=.slice none 0 0:=q2
   exact⟨none,0,s.tc,rfl,RSl.nil,q3,(if_neg (fun q=>q.elim h1 h2)).symm⟩
theorem SN(x:Ac) (A R:List Ac):(A++(x::R)).Perm (R++(x::A)):=List.perm_append_comm.trans List.perm_middle.symm
theorem Sr(d x:Ac) (A R:List Ac):Vs d (R++(x::A)) d (A++R):=(Vs.perm (List.perm_middle.trans (Acn x Aci))).trans (Vs.drop (Acz _ _))
theorem SQ(x:Ac) (A R:List Ac):(R++(x::A)).Perm (x::(A++R)):=List.perm_middle.trans (Acn x Aci)
def Fh(a0 a1:Nat):GB:=(.mk 39 [] (.seq (.g (rG (ol 7 1<|oc 8 a0 [(tP 7)]<|o1 9 (.mv (kZ 0)) .done))) (.block 0 (.loop (.seq (.g (rG (ob 10 .lss (tP 9) (tP 8) .done))) (.seq (.g (.cond (tP 10) .skip (.exit 0))) (.seq (.block 1 (.seq (.g (rG (ol 12 2<|ol 13 3<|oc 14 a1 [(tP 12),(tP 13)]<|om 11 14<|oe 15 11 0<|oe 16 11 1<|om 5 15<|om 6 16 .done))) (.seq (.seq (.g (rG (om 17 6<|ob 18 .neq (tP 17) (kZ 0) .done))) (.cond (tP 18) (.seq (.yl (om 19 0<|om 20 6<|o1 21 (.un .neg (tP 20)) .done) (some 22) (tP 19) [(tP 21),nS] .done) (.g .ret)) (.g .skip))) (.seq (.seq (.yl (om 23 0<|ol 24 3<|om 25 5 .done) (some 26) (tP 23) [(tP 24),(tP 25)] (o1 27 (.un .not (tP 26)) .done)) (.g (.cond (tP 27) .ret .skip))) (.g (.reg true (pm 28 5<|p1 29 (.idx 1 (tP 28) (kZ 0))<|pl 30 29<|p1 31 (.cvi .i64 (tP 30))<|p1 32 (.bin .shl (tP 31) (.const (.int .u64 8)))<|pm 33 5<|p1 34 (.idx 1 (tP 33) (kZ 1))<|pl 35 34<|p1 36 (.cvi .i64 (tP 35))<|p1 37 (.bin .or (tP 32) (tP 36)) (.bar (o0 (.st 1 (tP 3) (tP 37)) .done))))))))) (.g (rG (ob 38 .add (tP 9) (kZ 1)<|om 9 38 .done))))))))))
set_option maxRecDepth 4000 in
set_option maxHeartbeats 1000000 in
theorem WV{P:Program}{f f1 f2:FuncId} (hd:Ff true false P f=some (Fh f1 f2)) (h1:FA P f1) (h2:Fq P f2) {s:PD}{dv pv:Value}{LP:List Ac}{bz bq bh l n:Nat}{Th:TypeId}{h:Int}{rc:Loop} (J:Nat→Ac→List Ac→Prop) (Jf:Loop→Ac→List Ac→Prop) {d:Ac}{E:List Ac}
  (hp:Pg d s dv pv LP) (hz:DC d bz 0 (.int .i64 n)) (hq:DC d bq 0 pv) (hn:n≤16384) (h0:J 0 d E) (hJm:∀{i:Nat}{d d':Ac}{E:List Ac},Le d d'→J i d E→J i d' E)
  (hlive:∀i,i<AQ n→∀d1 E1 v,Le d d1→J i d1 E1→Bl s (hdF s h i)→AM d1 v (s.bytes (hdF s h i))→Jk P l [.int .i64 (hdF s h i),v] d1 (sg l (.loop rc)::E1)
   (fun u d' L'=>(u=.bool true∧∃E',L'=sg l (.loop rc)::E'∧J (i+1) d' E')∨(u=.bool false∧∃rc' E',L'=sg l (.loop rc')::E'∧Jf rc' d' E')))
  (hdead:∀i,i<AQ n→∀d1 E1,Le d d1→J i d1 E1→¬Bl s (hdF s h i)→Jk P l [.int .i64 (-240),.slice none 0 0] d1 (sg l (.loop rc)::E1)
   (fun u d' L'=>u=.bool false∧∃rc' E',L'=sg l (.loop rc')::E'∧Jf rc' d' E')):
  Aw P f [.func (.yield l) #[] #[],.pointer (some ⟨bz,0,none⟩),.pointer (some ⟨bq,0,none⟩),.pointer (some ⟨bh,0,none⟩)] d (bx bh Th [.int .i64 h]::(LP++(sg l (.loop rc)::E)))
   (Ret fun _ d' L'=>∃LP' E' rc' tc,L'=LP'++(sg l (.loop rc')::E')∧Pg d' {s with tc:=tc} dv pv LP'∧((rc'=rc∧tc=s.tc+AQ n∧J (AQ n) d' E')∨Jf rc' d' E')):=by
 obtain⟨bp,rfl⟩:=hp.ptr
 have hpn:AQ n≤8192:=by unfold AQ;omega
 refine Ew hd (Aca rfl) ?_
 show xwp P _ _ _ _ _
 (apply BK;apply x_g;apply AE;apply Ag;rfl;exact BF (by assumption))
 refine DD (A:=[]) (B:=bx bh Th [.int .i64 h]::(LP++(sg l (.loop rc)::E))) rfl rfl (h1 (n:=n) (by omega)) (fun u d1 L1 _ ⟨e1,e2,e3⟩=>?_)
 subst e1;subst e2;subst e3
 rw [Adt]
 (refine Ab rfl<|Aa ?_;apply Ge)
 refine Pd (α:=Nat) (fun i=>[(0,.func (.yield l) #[] #[]),(2,.pointer (some ⟨bq,0,none⟩)),(3,.pointer (some ⟨bh,0,none⟩)),(8,.int .i64 (AQ n)),(9,.int .i64 i)])
  (fun i d' L'=>Le d1 d'∧i≤AQ n∧∃LP' E' tc,L'=bx bh Th [.int .i64 (hdF s h i)]::(LP'++(sg l (.loop rc)::E'))∧Pg d' {s with tc:=tc} dv (.pointer (some ⟨bp,0,none⟩)) LP'∧tc=s.tc+i∧J i d' E')
  (fun i=>AQ n - i) 0 ⟨rfl,rfl,rfl,rfl,rfl,trivial⟩ ⟨Le.refl _,Adf _,LP,E,s.tc,rfl,hp,rfl,h0⟩ ?_
 rintro i ρ d' L' ⟨hle,hi,LP',E',tc,rfl,hp',htc,hJ⟩
 have hq':=hq.mono hle
 by_cases e:i<AQ n
 ·(apply BK;apply x_g;apply AE;apply AA;rfl;rfl;apply Aa;apply BK;apply x_g;refine Ay rfl (by omega) ?_;apply Al;apply BK;apply Ge;apply BK;apply x_g;apply AE;apply Ag;rfl;exact BF (by assumption);apply Ag;rfl;exact Aj 0 rfl rfl)
  refine CU (h2.atT (k:=hdF s h i) hp') (Ady [_] LP' _) rfl (fun u d7 L7 hl7 ⟨qa,qc,tc',q1,q2,q3,q4⟩=>?_)
  rw [R1,Zh] at q1
  rw [R1] at q2
  subst q1
  refine⟨d7,(sg l (.loop rc)::E')++(bx bh Th [.int .i64 (hdF s h i)]::L7),Vs.perm (SN _ _ _),?_⟩
  by_cases hlv:Bl s (hdF s h i)
  ·rw [Se hlv]
   (refine AU rfl<|Ap rfl rfl<|Ap rfl rfl<|Am rfl<|Ab rfl<|Aa ?_;apply BK;apply BK;apply x_g;refine AE<|Ab rfl<|AO rfl rfl<|Aa ?_;apply YQ;rfl;apply x_g;apply Al;apply BK;apply BK;apply XW;apply Fz;rfl)
   refine Ag (v:=.int .i64 (hdF s h i)) rfl (Aj (T:=Th) (l:=[.int .i64 (hdF s h i)]) (E'.length+1) (by simp [lk]) rfl) ?_
   (refine Am rfl<|Aa ?_)
   refine Pu _ _ rfl rfl rfl (hlive i e d7 E' _ (hle.trans hl7) (hJm hl7 hJ) hlv q2) (fun u d8 L8 hl8 hr8=>?_)
   rcases hr8 with ⟨rfl,E8,rfl,hJ8⟩|⟨rfl,rc8,E8,rfl,hJ8⟩
   ·refine B9 d8 (bx bh Th [.int .i64 (hdF s h i)]::(L7++(sg l (.loop rc)::E8))) (Vs.perm (SQ _ _ _)) ?_
    have hfl:(s.bytes (hdF s h i)).length=256:=hp.full hlv
    have q8:AM d8 (.slice qa (s.bytes (hdF s h i)).length qc) (s.bytes (hdF s h i)):=RSl.mono (R:=AP) AX q2 hl8
    have g0:(s.bytes (hdF s h i)).getD 0 0=(s.bytes (hdF s h i))[0]:=by rw [Acf,Ace (by omega)];rfl
    have g1:(s.bytes (hdF s h i)).getD 1 0=(s.bytes (hdF s h i))[1]:=by rw [Acf,Ace (by omega)];rfl
    have l0:=UInt8.toNat_lt (s.bytes (hdF s h i))[0]
    have l1:=UInt8.toNat_lt (s.bytes (hdF s h i))[1]
    have hnx:hdF s h (i+1)=(((s.bytes (hdF s h i))[0].toNat*256+(s.bytes (hdF s h i))[1].toNat:Nat):Int):=by rw [hdF,Gn,g0,g1]
    (refine Bj rfl<|Aa ?_;apply x_g;refine AR rfl<|Al ?_;apply x_g;refine Bv<|Am rfl<|BH (m:=0) (sz:=1) (R:=AP) (by rfl) (by assumption) (by rfl) rfl (by omega) ?_;rintro _ _ _ _ _ rfl;refine Ag rfl (B5 (by assumption) rfl)<|Eh rfl (by omega) (by omega) ?_)
    refine RM (a:=(s.bytes (hdF s h i))[0].toNat) rfl rfl (by omega) ?_
    (refine Am rfl<|BH (m:=1) (sz:=1) (R:=AP) (by rfl) (by assumption) (by rfl) rfl (by omega) ?_;rintro _ _ _ _ _ rfl;refine Ag rfl (B5 (by assumption) rfl)<|Eh rfl (by omega) (by omega) ?_)
    refine QE (a:=(s.bytes (hdF s h i))[0].toNat) (b:=(s.bytes (hdF s h i))[1].toNat) rfl rfl l0 l1 ?_
    (apply B4)
    refine A0 0 [.int .i64 (((s.bytes (hdF s h i))[0].toNat*256+(s.bytes (hdF s h i))[1].toNat:Nat):Int)] rfl rfl rfl rfl (Ach _) rfl rfl ?_
    (apply Aa;apply x_g;refine AE<|AN rfl rfl (by omega) (by omega)<|Ab rfl<|Aa ?_)
    exact⟨i+1,by omega,⟨rfl,rfl,rfl,rfl,rfl,trivial⟩,(hle.trans hl7).trans hl8,e,L7,E8,tc',by rw [hnx];exact congrArg (List.cons _) (Ads _),q3.mono hl8,by have q4':tc'=tc+1:=q4.trans (if_pos hlv);omega,hJ8⟩
   ·(refine Bj rfl<|Aa ?_;apply x_g;refine Be rfl<|Ao ?_)
    exact A7 [] trivial (d':=d8) (L':=L7++(sg l (.loop rc8)::E8)) (Sr _ _ _ _) ⟨L7,E8,rc8,_,rfl,q3.mono hl8,.inr hJ8⟩
  ·obtain⟨x1,x2⟩:=Rt hlv
   rw [x1]
   (refine AU rfl<|Ap rfl rfl<|Ap rfl rfl<|Am rfl<|Ab rfl<|Aa ?_;apply BK;apply BK;apply x_g;refine AE<|Ab rfl<|AO rfl rfl<|Aa ?_;apply Aa8;rfl;apply BK;apply XW;refine Fz rfl<|Ab rfl<|YS rfl (by omega) (by omega)<|Aa ?_)
   refine Pu _ _ rfl rfl rfl (hdead i e d7 E' (hle.trans hl7) (hJm hl7 hJ) hlv) (fun u d8 L8 hl8 hr8=>?_)
   obtain⟨rfl,rc8,E8,rfl,hJ8⟩:=hr8
   (apply Aa;apply x_g;apply Ao)
   exact A7 [] trivial (d':=d8) (L':=L7++(sg l (.loop rc8)::E8)) (Sr _ _ _ _) ⟨L7,E8,rc8,_,rfl,q3.mono hl8,.inr hJ8⟩
 ·have:i=AQ n:=by omega
  subst this
  (apply BK;apply x_g;apply AE;apply AA;rfl;rfl;apply Aa;apply BK;apply x_g;refine Ar rfl (by omega) ?_;apply Bh)
  exact EF [] trivial (Acz _ _) ⟨LP',E',rc,tc,rfl,hp',.inl ⟨rfl,htc,hJ⟩⟩
def Hf(a0:Nat):GB:=(.mk 8 [(.tmp 6)] (.g (sR (o1 3 (.box (tP 0))<|o1 4 (.box (tP 1))<|o1 5 (.box (tP 2))<|o1 6 (.mv (.const .nilFunc)) .done) (sR (o1 7 (.mkf (.func a0) [] [(tP 5),(tP 3),(tP 4)])<|om 6 7 .done) .ret))))
theorem Xh{P:Program}{f f1:FuncId} (hd:Ff true false P f=some (Hf f1)) {d:Ac}{b:Nat}{h n:Int}:Aw P f [.pointer (some ⟨b,0,none⟩),.int .i64 h,.int .i64 n] d [] (Ret fun r d' L'=>∃bz bq bh Th,r=.func (.func f1) #[] #[.pointer (some ⟨bz,0,none⟩),.pointer (some ⟨bq,0,none⟩),.pointer (some ⟨bh,0,none⟩)]∧
  DC d' bz 0 (.int .i64 n)∧DC d' bq 0 (.pointer (some ⟨b,0,none⟩))∧L'=[bx bh Th [.int .i64 h]]):=by
 refine Ew hd (Aca rfl) ?_
 show xwp P _ _ _ _ _
 (apply x_g;apply Ah;apply AE)
 refine Fj rfl (fun bq Tq=>?_)
 refine Fj rfl (fun bh Th=>?_)
 refine Fj rfl (fun bz Tz=>?_)
 (refine AK<|Aa<|Ad<|OA<|Fz rfl<|Aa<|Ao ?_)
 exact A7 [.func (.func f1) #[] #[.pointer (some ⟨bz,0,none⟩),.pointer (some ⟨bq,0,none⟩),.pointer (some ⟨bh,0,none⟩)]] ⟨rfl,trivial⟩ (d':=join (join d (bx bz Tz [.int .i64 n])) (bx bq Tq [.pointer (some ⟨b,0,none⟩)])) (L':=[bx bh Th [.int .i64 h]])
  ((Vs.perm (Acn _ (Adc _ _ _))).trans (Vs.freeze.trans Vs.freeze)) ⟨bz,bq,bh,Th,rfl,(Le.dcs ((Le.A9 _ _).trans (Le.AI _ _))).at (i:=0) rfl,(Le.dcs (Le.A9 _ _)).at (i:=0) rfl,rfl⟩
end
end Go.Gk.Chn
end
section
namespace Go.Gk.Chn
open Go Go.Gk Go.Gk.Dev Go.Gk.Cch Go.Gk.Pgr Go.Gk.Node
attribute [local irreducible] gwp gws xwp
def Dm(s:PD) (size n:Nat) (k:Int) (l:List Int) (out:List UInt8):Nat→List Int×List UInt8×Int
 |0=>(l,out,0)
 |m+1=>
  if Bl s k then
   if (Gn (s.bytes k)=65535)=(l.length+1=n) then
    if ((s.bytes k).drop (2+min 254 (size - out.length))).all (·==0) then
     Dm s size n (Gn (s.bytes k):Nat) (l++[k]) (out++((s.bytes k).drop 2).take (min 254 (size - out.length))) m
    else([],[],200)
   else([],[],200)
  else([],[],240)
def BJ(s:PD) (k:Int) (size:Int):List Int×List UInt8×Int:=if 0≤size∧size≤16384 then Dm s size.toNat (AQ size.toNat) k [] [] (AQ size.toNat) else([],[],2)
def RJ(s:PD) (n:Nat) (k:Int) (b5 b6 b7 b8 b9 b10:Nat) (T5 T6 T7 T8 T9 T10:TypeId) (i:Nat) (d:Ac) (E:List Ac):Prop:=∃l out la lc oa oc hl ho,
 E=[bx b10 T10 [.slice oa (List.length (α:=UInt8) out) oc],bx b9 T9 [.slice la (List.length (α:=Int) l) lc],bx b8 T8 [.int .i64 0],bx b7 T7 [.slice none 0 0],bx b6 T6 [.slice none 0 0],bx b5 T5 [.int .i64 n],ho,hl]∧
 As 1 Bi d (.slice la l.length lc) l hl∧As 1 AP d (.slice oa out.length oc) out ho∧l.length=i∧out.length≤n∧Dm s n (AQ n) k [] [] (AQ n)=Dm s n (AQ n) (hdF s k i) l out (AQ n - i)
def RF(rc:Loop) (s:PD) (n:Nat) (k:Int) (b6 b7 b8:Nat) (T6 T7 T8:TypeId) (rc':Loop) (_:Ac) (E:List Ac):Prop:=
 rc'={rc with state:=.done,pending:=some .ret}∧∃e x y R,Dm s n (AQ n) k [] [] (AQ n)=([],[],e)∧e≠0∧E=x::y::bx b8 T8 [.int .i64 e]::bx b7 T7 [.slice none 0 0]::bx b6 T6 [.slice none 0 0]::R
def LM(P:Program) (f:FuncId):Prop:=∀{d:Ac}{s:PD}{dv pv:Value}{L:List Ac}{k size:Int},Pg d s dv pv L→
 Aw P f [pv,.int .i64 k,.int .i64 size] d L (Ret fun r d' L'=>Le d d'∧∃v w tc,r=.tuple #[v,w,.int .i64 (BJ s k size).2.2]∧Dz d' v (BJ s k size).1∧AM d' w (BJ s k size).2.1∧Pg d' {s with tc:=tc} dv pv L'∧((BJ s k size).2.2=0→tc=s.tc+AQ size.toNat))
theorem WA{a m N:Nat} (h:(a=65535)=(m=N)):(true ^^(decide ((a:Int)=65535)==decide ((m:Int)=(N:Int))))=false:=by
 rw [show decide ((a:Int)=65535)=decide (a=65535) from decide_eq_decide.2 (by omega),show decide ((m:Int)=(N:Int))=decide (m=N) from decide_eq_decide.2 (by omega),show decide (a=65535)=decide (m=N) from decide_eq_decide.2 (by rw [h])]
 simp
theorem Wv{a m N:Nat} (h:¬((a=65535)=(m=N))):(true ^^(decide ((a:Int)=65535)==decide ((m:Int)=(N:Int))))=true:=by
 rw [show decide ((a:Int)=65535)=decide (a=65535) from decide_eq_decide.2 (by omega),show decide ((m:Int)=(N:Int))=decide (m=N) from decide_eq_decide.2 (by omega)]
 have:decide (a=65535)≠decide (m=N):=fun e=>h (propext (decide_eq_decide.1 e))
 simp [this]
theorem Wb(g h:Ac) (E L:List Ac):(g::([h]++(E++L))).Perm (h::(L++(g::E))):=
 (Adc h g (E++L)).trans (Acn h ((Acn g Aci).trans List.perm_middle.symm))
theorem ZJ(d a b c x y z o h:Ac) (L:List Ac):Vs d (a::b::c::x::y::z::o::h::L) (join (join d o) h) L:=
 (Vs.drop (.cons _ (.cons _ (.cons _ (.cons _ (.cons _ (.cons _ (Acb _)))))))).trans (Vs.freeze.trans Vs.freeze)
def MU(P:Program) (f:FuncId):Prop:=∃f1 f2 f3,Ff true false P f=some (Hf f1)∧Ff true false P f1=some (Fh f2 f3)∧FA P f2∧Fq P f3
def Xj(P:Program) (f:FuncId):Prop:=∃f2 f3,Ff true false P f=some (Fh f2 f3)∧FA P f2∧Fq P f3
theorem Abz{P:Program}{f f2 f3:FuncId} (hd:Ff true false P f=some (Fh f2 f3)) (h1:FA P f2) (h2:Fq P f3):Xj P f:=⟨f2,f3,hd,h1,h2⟩
theorem VS{P:Program}{f f1:FuncId} (hd:Ff true false P f=some (Hf f1)) (h:Xj P f1):MU P f:=let ⟨f2,f3,h1,h2,h3⟩:=h;⟨f1,f2,f3,hd,h1,h2,h3⟩
def Rl(a0 a1:Nat):GB:=(.mk 80 [(.cell 6 none),(.cell 7 none),(.cell 8 none)] (.seq (.g (rG (o1 5 (.box (tP 2))<|o1 6 (.alo (.slice none 0 0))<|o1 7 (.alo (.slice none 0 0))<|o1 8 (.alo (.int .i64 0)) .done))) (.seq (.g (sR (ol 17 5<|ob 18 .lss (tP 17) (kZ 0)<|om 19 18<|oF 20 19 (.ld none (tP 5))<|oF 21 19 (.bin .gtr (tP 20) (kZ 16384))<|o1 22 (.pick (tP 19) (.const (.bool true)) (tP 21)) .done) (.cond (tP 22) (sR (o0 (.st 1 (tP 6) nS)<|o0 (.st 1 (tP 7) nS)<|o0 (.st 1 (tP 8) (kZ 2)) .done) .ret) .skip))) (.seq (.g (rG (o1 9 (.alo (.slice none 0 0)) .done))) (.seq (.g (rG (o1 10 (.alo (.slice none 0 0)) .done))) (.seq (.seq (.g (rG (om 23 0<|om 24 1<|ol 25 5<|oc 26 a0 [(tP 23),(tP 24),(tP 25)] .done))) (.block 0 (.rf (tP 26) [27,28] (sR (om 11 27 .done) (rG (om 12 28 .done))) (.block 1 (.seq (sR (om 29 12<|o1 30 (.eqs false (tP 29) nS) .done) (.cond (tP 30) (sR (om 31 11<|o1 32 (.un .neg (tP 31))<|o0 (.st 1 (tP 6) nS)<|o0 (.st 1 (tP 7) nS)<|o0 (.st 1 (tP 8) (tP 32)) .done) .ret) .skip)) (sR (ol 33 9<|om 34 11<|o1 35 (.bsl 1 1 [(.int .i64 0)] [(0,(tP 34))])<|o1 36 (.app 1 8 [(.int .i64 0)] (tP 33) (tP 35))<|o0 (.st 1 (tP 9) (tP 36)) .done) (.seq (.reg true (pm 37 12<|p1 38 (.idx 1 (tP 37) (kZ 0))<|pl 39 38<|p1 40 (.cvi .i64 (tP 39))<|p1 41 (.bin .shl (tP 40) (.const (.int .u64 8)))<|pm 42 12<|p1 43 (.idx 1 (tP 42) (kZ 1))<|pl 44 43<|p1 45 (.cvi .i64 (tP 44))<|p1 46 (.bin .or (tP 41) (tP 45)) (.bar (pm 13 46 .done)))) (.seq (.seq (.reg true (pm 47 13<|p1 48 (.bin .eql (tP 47) (kZ 65535))<|pl 49 9<|p1 50 (.len (tP 49))<|pl 51 5<|oc 52 a1 [(tP 51)]<|p1 53 (.bin .eql (tP 50) (tP 52))<|p1 54 (.eqb true (tP 48) (tP 53)) .done)) (.cond (tP 54) (sR (o0 (.st 1 (tP 6) nS)<|o0 (.st 1 (tP 7) nS)<|o0 (.st 1 (tP 8) (kZ 200)) .done) .ret) .skip)) (sR (ol 55 5<|ol 56 10<|oL 57 56<|ob 58 .sub (tP 55) (tP 57)<|o1 59 (.mn2 (kZ 254) (tP 58))<|om 14 59 .done) (.seq (sR (om 60 12<|om 61 14<|ob 62 .add (kZ 2) (tP 61)<|o1 63 (.sl 1 (tP 60) (some (tP 62)) none none)<|oL 64 63<|o1 65 (.mv (kZ 0)) .done) (.block 2 (.loop (sR (ob 66 .lss (tP 65) (tP 64) .done) (.seq (.cond (tP 66) .skip (.exit 2)) (.seq (.block 3 (sR (oI 67 1 63 65<|ol 68 67<|om 16 68 .done) (sR (om 69 16<|ob 70 .neq (tP 69) (.const (.int .u8 0)) .done) (.cond (tP 70) (sR (o0 (.st 1 (tP 6) nS)<|o0 (.st 1 (tP 7) nS)<|o0 (.st 1 (tP 8) (kZ 200)) .done) .ret) .skip)))) (rG (ob 71 .add (tP 65) (kZ 1)<|om 65 71 .done)))))))) (.reg true (pm 73 12<|pm 74 14<|p1 75 (.bin .add (kZ 2) (tP 74))<|p1 76 (.sl 1 (tP 73) (some (kZ 2)) (some (tP 75)) none)<|ol 72 10<|o1 77 (.app 1 1 [(.int .u8 0)] (tP 72) (tP 76)) (.bar (o0 (.st 1 (tP 10) (tP 77)) .done)))))))))))))) (.g (.seq (.reg true (pl 78 9<|pl 79 10<|o0 (.st 1 (tP 6) (tP 78))<|o0 (.st 1 (tP 7) (tP 79))<|o0 (.st 1 (tP 8) (kZ 0)) .done)) .ret))))))))
set_option maxRecDepth 4000 in
set_option maxHeartbeats 2000000 in
theorem Xn{P:Program}{f f1 f2:FuncId} (hd:Ff false false P f=some (Rl f1 f2)) (h1:MU P f1) (h2:FA P f2):LM P f:=by
 obtain⟨f3,f4,f5,g1,g2,g3,g4⟩:=h1
 intro d s dv pv L k size hp
 obtain⟨bp,rfl⟩:=hp.ptr
 refine Ew hd (Aca rfl) ?_
 show xwp P _ _ _ _ _
 (apply BK;apply x_g;apply AE)
 refine Fj rfl (fun b5 T5=>?_)
 refine DI (fun b6 T6=>?_)
 refine DI (fun b7 T7=>?_)
 refine DI (fun b8 T8=>?_)
 refine FE ⟨d,bx b8 T8 [.int .i64 0]::bx b7 T7 [.slice none 0 0]::bx b6 T6 [.slice none 0 0]::bx b5 T5 [.int .i64 size]::L,Vs.refl _ _,?_⟩
 by_cases hsz:0≤size∧size≤16384
 ·obtain⟨n,rfl⟩:∃n:Nat,size=n:=⟨size.toNat,by omega⟩
  have hn:n≤16384:=by omega
  have hF:BJ s k n=Dm s n (AQ n) k [] [] (AQ n):=by unfold BJ;rw [if_pos hsz];rfl
  rw [hF]
  (apply BK;apply x_g;apply Ah;apply AE;apply Ag;rfl;exact Aj 3 rfl rfl;apply AA;rfl;rfl;apply Ae;rfl;refine AZ rfl (by omega) ?_;apply Af;rfl;apply Ag;rfl;exact Aj 3 rfl rfl;apply Af;rfl;apply BS;rfl;rfl;apply Aq;rfl;rfl;apply Aa;refine Ar rfl (by omega) ?_;apply Al;apply BK;apply x_g;apply AE;apply DI;intro _ _;apply Aa;apply BK;apply x_g;apply AE;apply DI;intro _ _;apply Aa;apply BK;apply BK;apply x_g;apply AE;apply Ak;rfl;apply Ab;rfl;apply Ag;rfl;exact Aj 5 rfl rfl)
  rename_i b9 T9 b10 T10
  refine B9 d (bx b10 T10 [.slice none 0 0]::bx b9 T9 [.slice none 0 0]::bx b8 T8 [.int .i64 0]::bx b7 T7 [.slice none 0 0]::bx b6 T6 [.slice none 0 0]::bx b5 T5 [.int .i64 n]::emp::emp::L)
   ((Vs.emp.trans Vs.emp).trans (Vs.perm (Ady [emp,emp] [_,_,_,_,_,_] L))) ?_
  refine DD (A:=[]) (B:=bx b10 T10 [.slice none 0 0]::bx b9 T9 [.slice none 0 0]::bx b8 T8 [.int .i64 0]::bx b7 T7 [.slice none 0 0]::bx b6 T6 [.slice none 0 0]::bx b5 T5 [.int .i64 n]::emp::emp::L) rfl rfl (Xh g1 (h:=k) (n:=n)) (fun u d1 L1 hl1 ⟨bz,bq,bh,Th,e1,hz,hq,e2⟩=>?_)
  subst e1;subst e2
  (apply Aa;apply Ge)
  refine AaC rfl (fun l rc hrec hst hpd=>?_)
  refine Aw.reorder (L1:=bx bh Th [.int .i64 k]::(L++(sg l (.loop rc)::[bx b10 T10 [.slice none 0 0],bx b9 T9 [.slice none 0 0],bx b8 T8 [.int .i64 0],bx b7 T7 [.slice none 0 0],bx b6 T6 [.slice none 0 0],bx b5 T5 [.int .i64 n],emp,emp]))) ?_ (Aw.Dr
   (WV g2 g3 g4 (rc:=rc) (l:=l) (RJ s n k b5 b6 b7 b8 b9 b10 T5 T6 T7 T8 T9 T10) (RF rc s n k b6 b7 b8 T6 T7 T8) (hp.mono hl1) hz hq hn ?_ ?_ ?_ ?_) ?_)
  ·exact Wb _ _ [_,_,_,_,_,_,_,_] L
  ·exact⟨[],[],none,0,none,0,emp,emp,rfl,As.nil,As.nil,rfl,Adf _,rfl⟩
  ·rintro i d2 d3 E hle ⟨l1,o1,la,lc,oa,oc,hl,ho,q1,q2,q3,q4,q5,q6⟩
   exact⟨l1,o1,la,lc,oa,oc,hl,ho,q1,As.mono (R:=Bi) Cb q2 hle,As.mono (R:=AP) AX q3 hle,q4,q5,q6⟩
  ·rintro i hi d2 E2 v hle ⟨l1,o1,la,lc,oa,oc,hl,ho,rfl,q2,q3,q4,q5,q6⟩ hlv hv
   refine K8 hrec hst rfl ?_
   have hfl:(s.bytes (hdF s k i)).length=256:=hp.full hlv
   have hv0:=hv
   obtain⟨va,vc,vb,vo,rfl,w2, -, -, -, -, -,w8⟩:=hv
   obtain rfl:va=some ⟨vb,vo,none⟩:=w2 (by omega)
   have dd0:DCs d2 vb (vo+0*1) [Az (s.bytes (hdF s k i))[0]]:=by
    obtain⟨cs,c1,c2,c3⟩:=w8 0 (by omega)
    rw [show cs=[Az (s.bytes (hdF s k i))[0]] from c3] at c2;exact c2
   have dd1:DCs d2 vb (vo+1*1) [Az (s.bytes (hdF s k i))[1]]:=by
    obtain⟨cs,c1,c2,c3⟩:=w8 1 (by omega)
    rw [show cs=[Az (s.bytes (hdF s k i))[1]] from c3] at c2;exact c2
   have hkr:0≤hdF s k i∧hdF s k i≤16384:=by
    have:=hp.E0.inn
    have:=hp.E0.syn
    rcases hlv with q|q<;>(obtain⟨j,j1,j2, -, -⟩:=CO q (by omega);omega)
   have q4':=q4
   have hpn:AQ n≤8192:=by unfold AQ;omega
   (refine Ad<|Ab rfl<|Aa<|AE<|Am rfl<|Aa<|Ax<|Ah<|Ad<|Am rfl<|QX rfl rfl<|Aa<|AR rfl<|Al<|Ad<|Ag rfl (Aj 1 rfl rfl)<|Ab rfl ?_)
   refine Ea (v0:=.int .i64 (hdF s k i)) rfl rfl (fun b3 T3=>?_)
   refine D8 (R:=Bi) 7 rfl rfl q2 rfl (As.Es (x:=hdF s k i) rfl ⟨rfl,by omega,by omega⟩) Di (by omega) (by simp;omega) (by simp;omega) (fun v' h' ho'=>?_)
   obtain⟨la',lc',rfl⟩:=ho'.val
   refine A0 1 [.slice la' (l1++[hdF s k i]).length lc'] rfl rfl rfl rfl (Ach _) rfl rfl ?_
   have g0:(s.bytes (hdF s k i)).getD 0 0=(s.bytes (hdF s k i))[0]:=by rw [Acf,Ace (by omega)];rfl
   have g1':(s.bytes (hdF s k i)).getD 1 0=(s.bytes (hdF s k i))[1]:=by rw [Acf,Ace (by omega)];rfl
   have l0:=UInt8.toNat_lt (s.bytes (hdF s k i))[0]
   have l1':=UInt8.toNat_lt (s.bytes (hdF s k i))[1]
   have hlk:Gn (s.bytes (hdF s k i))=(s.bytes (hdF s k i))[0].toNat*256+(s.bytes (hdF s k i))[1].toNat:=by rw [Gn,g0,g1']
   (refine Aa<|Ah<|Bv<|Am rfl<|BA 0 rfl rfl rfl (by omega) (by assumption)<|Ag rfl (Eb (by assumption) rfl)<|Eh rfl (by omega) (by omega) ?_)
   refine RM (a:=(s.bytes (hdF s k i))[0].toNat) rfl rfl (by omega) ?_
   (refine Am rfl<|BH (m:=1) (sz:=1) (R:=AP) (by rfl) (by assumption) (by rfl) rfl (by omega) ?_;rintro _ _ _ _ _ rfl;refine Ag rfl (B5 (by assumption) rfl)<|Eh rfl (by omega) (by omega) ?_)
   refine QE (a:=(s.bytes (hdF s k i))[0].toNat) (b:=(s.bytes (hdF s k i))[1].toNat) rfl rfl l0 l1' ?_
   rw [←hlk]
   (refine B4<|Ab rfl<|Aa<|Ah<|Ah<|Bv<|Ab rfl<|AJ rfl rfl<|Ag rfl (Aj 1 rfl rfl)<|AL rfl<|Ag rfl (Aj 5 rfl rfl) ?_)
   refine Bk rfl (h2 (n:=n) (by omega)) (fun u d3 L3 _ ⟨e1,e2,e3⟩=>?_)
   subst e1;subst e2;subst e3
   rw [Adt]
   have hl1':(l1++[hdF s k i]).length=l1.length+1:=by simp
   have hst':AQ n - i=(AQ n - (i+1))+1:=by omega
   (refine AJ rfl rfl<|Im rfl rfl<|A8 ?_)
   by_cases hh:(Gn (s.bytes (hdF s k i))=65535)=(l1.length+1=AQ n)
   ·refine AR (congrArg Value.bool (WA (by rw [hl1'];exact hh))) ?_
    have ht2:2+min 254 (n - o1.length)≤(s.bytes (hdF s k i)).length:=by omega
    (refine Al<|Ad<|Ag rfl (Aj 5 rfl rfl)<|Ag rfl (Aj 0 rfl rfl)<|AL rfl<|CY rfl rfl (by omega) (by omega)<|Abi rfl rfl<|Ab rfl<|Aa<|Ah<|Ad<|Am rfl<|Ab rfl<|AN rfl rfl (by omega) (by omega) ?_)
    refine ED (R:=AP) (sz:=1) (n:=2+min 254 (n - o1.length)) rfl hv0 rfl (by omega) ht2 (fun vz hvz=>?_)
    obtain⟨zs,hzs⟩:∃zs,zs=(s.bytes (hdF s k i)).drop (2+min 254 (n - o1.length)):=⟨_,rfl⟩
    rw [←hzs] at hvz
    have hzl:=hvz.BW
    (refine BE rfl (by assumption)<|Ab rfl<|Aa<|Ax ?_)
    refine CZ (α:=Nat) (fun j=>[(6,.pointer (some ⟨b6,0,none⟩)),(7,.pointer (some ⟨b7,0,none⟩)),(8,.pointer (some ⟨b8,0,none⟩)),(10,.pointer (some ⟨b10,0,none⟩)),(12,.slice (some ⟨vb,vo,none⟩) (s.bytes (hdF s k i)).length vc),(14,.int .i64 ((min 254 (n - o1.length):Nat):Int)),(63,vz),(64,.int .i64 zs.length),(65,.int .i64 j)])
     (fun _=>[bx b10 T10 [.slice oa o1.length oc],bx b9 T9 [.slice la' (l1++[hdF s k i]).length lc'],bx b8 T8 [.int .i64 0],bx b7 T7 [.slice none 0 0],bx b6 T6 [.slice none 0 0],bx b5 T5 [.int .i64 n],ho,h'])
     (fun j=>j≤zs.length∧(zs.take j).all (·==0)=true) (fun j=>zs.length - j) 0 ⟨rfl,rfl,rfl,rfl,rfl,by show Value.int _ _=Value.int _ _;congr 1;omega,rfl,rfl,rfl,trivial⟩ rfl ⟨Adf _,rfl⟩ ?_
    rintro j ρ ⟨hj,hja⟩
    by_cases ej:j<zs.length
    ·have hjn:(zs.take (j+1)).all (·==0)=((zs.take j).all (·==0)&&(zs[j]==0)):=by rw [Acx ej,List.all_append];simp
     by_cases hz0:zs[j]=0
     ·have hz1:zs[j].toNat=0:=by rw [hz0];rfl
      (refine Ad<|AA rfl rfl<|Aa<|Ah<|Ay rfl (by omega)<|Al<|Ah<|Ax<|Ad<|BH (sz:=1) (R:=AP) (by rfl) (by assumption) (by rfl) rfl (by omega) ?_;rintro _ _ _ _ _ rfl;refine Ag rfl (B5 (by assumption) rfl)<|Ab rfl<|Aa<|Ad<|Ab rfl<|AO rfl rfl<|Aa<|Ar rfl (by omega)<|Al<|AE<|AN rfl rfl (by omega) (by omega)<|Ab rfl<|Aa ?_)
      exact⟨j+1,by omega,⟨rfl,rfl,rfl,rfl,rfl,rfl,rfl,rfl,rfl,trivial⟩,rfl,rfl,ej,by rw [hjn,hja,hz0];rfl⟩
     ·have hz1:zs[j].toNat≠0:=fun q=>hz0 (UInt8.toNat_inj.1 q)
      have hrd:Dm s n (AQ n) k [] [] (AQ n)=([],[],200):=by
       rw [q6,hst',Dm,if_pos hlv,if_pos hh,if_neg]
       rw [←hzs]
       intro hall
       exact hz0 (by simpa using Acq.1 hall _ (Ada ej))
      (refine Ad<|AA rfl rfl<|Aa<|Ah<|Ay rfl (by omega)<|Al<|Ah<|Ax<|Ad<|BH (sz:=1) (R:=AP) (by rfl) (by assumption) (by rfl) rfl (by omega) ?_;rintro _ _ _ _ _ rfl;refine Ag rfl (B5 (by assumption) rfl)<|Ab rfl<|Aa<|Ad<|Ab rfl<|AO rfl rfl<|Aa<|Ay rfl (by omega)<|Ad ?_)
      refine A0 4 [.slice none 0 0] rfl rfl rfl rfl (Ach _) rfl rfl ?_
      refine A0 3 [.slice none 0 0] rfl rfl rfl rfl (Ach _) rfl rfl ?_
      refine A0 2 [.int .i64 200] rfl rfl rfl rfl (Ach _) rfl rfl ?_
      (refine Aa<|Ao ?_)
      exact Or.inr ⟨rfl,_,_,rfl,rfl,200,_,_,_,hrd,(by decide),rfl⟩
    ·have:j=zs.length:=by omega
     subst this
     rw [Aeg,hzs] at hja
     have hstep:Dm s n (AQ n) k [] [] (AQ n)=Dm s n (AQ n) (hdF s k (i+1)) (l1++[hdF s k i]) (o1++((s.bytes (hdF s k i)).drop 2).take (min 254 (n - o1.length))) (AQ n - (i+1)):=by
      rw [q6,hst',Dm,if_pos hlv,if_pos hh,if_pos hja];rfl
     have htl:(((s.bytes (hdF s k i)).drop 2).take (min 254 (n - o1.length))).length=min 254 (n - o1.length):=by rw [Acw,Aco];omega
     (refine Ad<|AA rfl rfl<|Aa<|Ah<|Ar rfl (by omega)<|Bh ?_)
     show gwp P _ _ _ _ _
     skip
     refine Br [] [bx b10 T10 [.slice oa o1.length oc],bx b9 T9 [.slice la' (l1++[hdF s k i]).length lc'],bx b8 T8 [.int .i64 0],bx b7 T7 [.slice none 0 0],bx b6 T6 [.slice none 0 0],bx b5 T5 [.int .i64 n],ho,h'] rfl ?_
     (refine Am rfl<|Ab rfl<|AN rfl rfl (by omega) (by omega) ?_)
     refine ZO (R:=AP) (sz:=1) (n:=2) (m:=2+min 254 (n - o1.length)) rfl hv0 rfl rfl rfl (by omega) (by omega) ht2 (fun vm hvm=>?_)
     rw [Nat.add_sub_cancel_left] at hvm
     (apply Ag;rfl;exact Aj 0 rfl rfl)
     refine EP (R:=AP) 6 rfl rfl q3 rfl (RSl.src hvm Gv (by omega) _) (by omega) (by rw [htl];omega) (by rw [htl];omega) (fun v'' h'' ho''=>?_)
     obtain⟨oa',oc',rfl⟩:=ho''.val
     (apply B4)
     refine A0 0 [.slice oa' (o1++((s.bytes (hdF s k i)).drop 2).take (min 254 (n - o1.length))).length oc'] rfl rfl rfl rfl (Ach _) rfl rfl ?_
     (apply Aa)
     exact Or.inl ⟨rfl,[bx b10 T10 [.slice oa' (o1++((s.bytes (hdF s k i)).drop 2).take (min 254 (n - o1.length))).length oc'],bx b9 T9 [.slice la' (l1++[hdF s k i]).length lc'],bx b8 T8 [.int .i64 0],bx b7 T7 [.slice none 0 0],bx b6 T6 [.slice none 0 0],bx b5 T5 [.int .i64 n],h'',h'],by rw [Tx hst hpd];rfl,l1++[hdF s k i],_,la',lc',oa',oc',h',h'',rfl,ho',ho'',by rw [hl1',q4],by rw [Acl,htl];omega,hstep⟩
   ·have hrd:Dm s n (AQ n) k [] [] (AQ n)=([],[],200):=by rw [q6,hst',Dm,if_pos hlv,if_neg hh]
    refine Be (congrArg Value.bool (Wv (by rw [hl1'];exact hh))) ?_
    (refine Ad ?_)
    refine A0 4 [.slice none 0 0] rfl rfl rfl rfl (Ach _) rfl rfl ?_
    refine A0 3 [.slice none 0 0] rfl rfl rfl rfl (Ach _) rfl rfl ?_
    refine A0 2 [.int .i64 200] rfl rfl rfl rfl (Ach _) rfl rfl ?_
    (refine Aa<|Ao ?_)
    exact Or.inr ⟨rfl,_,_,rfl,rfl,200,_,_,_,hrd,(by decide),rfl⟩
  ·rintro i hi d2 E2 hle ⟨l1,o1,la,lc,oa,oc,hl,ho,rfl,q2,q3,q4,q5,q6⟩ hlv
   refine K8 hrec hst rfl ?_
   have hrd:Dm s n (AQ n) k [] [] (AQ n)=([],[],240):=by
    rw [q6,show AQ n - i=(AQ n - (i+1))+1 by omega,Dm,if_neg hlv]
   (refine Ad<|Ab rfl<|Aa<|AE<|Am rfl<|Aa<|Ax<|Ah<|Ad<|Am rfl<|RG rfl rfl<|Aa<|Be rfl<|Ad<|Ab rfl<|YS rfl (by omega) (by omega) ?_)
   refine A0 4 [.slice none 0 0] rfl rfl rfl rfl (Ach _) rfl rfl ?_
   refine A0 3 [.slice none 0 0] rfl rfl rfl rfl (Ach _) rfl rfl ?_
   refine A0 2 [.int .i64 240] rfl rfl rfl rfl (Ach _) rfl rfl ?_
   (refine Aa<|Ao ?_)
   exact⟨rfl,_,_,rfl,rfl,240,_,_,_,hrd,(by decide),rfl⟩
  ·rintro u d3 L3 hl3 ⟨LP',E',rc',tc,rfl,hp3,h⟩
   refine⟨d3,sg l (.loop rc')::(E'++LP'),Vs.perm Aci,rc',_,rfl,?_⟩
   rcases h with ⟨rfl,htc,l1,o1,la,lc,oa,oc,hl,ho,rfl,q2,q3,q4,q5,q6⟩|⟨rfl,e,x,y,R,hrd,hne,rfl⟩
   ·refine⟨(by rw [hst];intro q;cases q),?_⟩
    rw [hpd]
    have hll:=q2.BW
    rw [Afy,Dm] at q6
    rw [q6]
    show xwp P _ _ _ _ _
    (apply x_g;apply Ah)
    refine Br [_,_] (bx b8 T8 [.int .i64 0]::bx b7 T7 [.slice none 0 0]::bx b6 T6 [.slice none 0 0]::bx b5 T5 [.int .i64 n]::ho::hl::LP') rfl ?_
    (refine Ag rfl (Aj 1 rfl rfl)<|Ag rfl (Aj 0 rfl rfl) ?_)
    refine A0 2 [.slice la l1.length lc] rfl rfl rfl rfl (Ach _) rfl rfl ?_
    skip
    refine A0 1 [.slice oa o1.length oc] rfl rfl rfl rfl (Ach _) rfl rfl ?_
    skip
    refine A0 0 [.int .i64 0] rfl rfl rfl rfl (Ach _) rfl rfl ?_
    (refine A8<|Ao ?_)
    exact A7 [.slice la l1.length lc,.slice oa o1.length oc,.int .i64 0] ⟨⟨_,_,rfl,Aj 4 rfl rfl⟩,⟨_,_,rfl,Aj 3 rfl rfl⟩,⟨_,_,rfl,Aj 2 rfl rfl⟩,trivial⟩ (d':=join (join d3 ho) hl) (L':=LP') (ZJ _ _ _ _ _ _ _ _ _ _)
     ⟨(hl1.trans hl3).trans ((Le.AI _ _).trans (Le.AI _ _)),_,_,tc,rfl,As.rsl (R:=Bi) (sz:=1) q2 Cb (by omega) ((Le.AI _ _).trans (Le.AI _ _)) (Le.A9 _ _),
      As.rsl (R:=AP) (sz:=1) q3 AX (by omega) ((Le.AI _ _).trans (Le.AI _ _)) ((Le.A9 _ _).trans (Le.AI _ _)),hp3.mono ((Le.AI _ _).trans (Le.AI _ _)),fun _=>htc⟩
   ·refine⟨(by intro q;cases q),?_⟩
    rw [hrd]
    exact A7 [.slice none 0 0,.slice none 0 0,.int .i64 e] ⟨⟨_,_,rfl,Aj 4 rfl rfl⟩,⟨_,_,rfl,Aj 3 rfl rfl⟩,⟨_,_,rfl,Aj 2 rfl rfl⟩,trivial⟩ (d':=d3) (L':=LP') (Vs.drop (Adm _ _)) ⟨hl1.trans hl3,_,_,tc,rfl,RSl.nil,RSl.nil,hp3,fun q=>absurd q hne⟩
 ·have hF:BJ s k size=([],[],2):=by unfold BJ;rw [if_neg hsz]
  rw [hF]
  by_cases hneg:size<0
  ·(apply BK;apply x_g;apply Ah;apply AE;apply Ag;rfl;exact Aj 3 rfl rfl;apply AA;rfl;rfl;apply Ae;rfl;refine Bd rfl (by omega) ?_;apply An;rfl;apply An;rfl;apply AB;rfl;rfl;apply Aa;apply Be;rfl;apply Ah;apply AE)
   refine A0 2 [.slice none 0 0] rfl rfl rfl rfl (Ach _) rfl rfl ?_
   refine A0 1 [.slice none 0 0] rfl rfl rfl rfl (Ach _) rfl rfl ?_
   refine A0 0 [.int .i64 2] rfl rfl rfl rfl (Ach _) rfl rfl ?_
   (refine Aa<|Ao ?_)
   exact A7 [.slice none 0 0,.slice none 0 0,.int .i64 2] ⟨⟨_,_,rfl,Aj 2 rfl rfl⟩,⟨_,_,rfl,Aj 1 rfl rfl⟩,⟨_,_,rfl,Aj 0 rfl rfl⟩,trivial⟩ (d':=d) (L':=L) (Vs.drop (.cons _ (.cons _ (.cons _ (.cons _ (Acb _)))))) ⟨Le.refl _,_,_,s.tc,rfl,RSl.nil,RSl.nil,hp,fun q=>absurd q (by decide)⟩
  ·have hbig:16384<size:=by omega
   (apply BK;apply x_g;apply Ah;apply AE;apply Ag;rfl;exact Aj 3 rfl rfl;apply AA;rfl;rfl;apply Ae;rfl;refine AZ rfl (by omega) ?_;apply Af;rfl;apply Ag;rfl;exact Aj 3 rfl rfl;apply Af;rfl;apply BS;rfl;rfl;apply Aq;rfl;rfl;apply Aa;refine Ay rfl (by omega) ?_;apply Ah;apply AE)
   refine A0 2 [.slice none 0 0] rfl rfl rfl rfl (Ach _) rfl rfl ?_
   refine A0 1 [.slice none 0 0] rfl rfl rfl rfl (Ach _) rfl rfl ?_
   refine A0 0 [.int .i64 2] rfl rfl rfl rfl (Ach _) rfl rfl ?_
   (refine Aa<|Ao ?_)
   exact A7 [.slice none 0 0,.slice none 0 0,.int .i64 2] ⟨⟨_,_,rfl,Aj 2 rfl rfl⟩,⟨_,_,rfl,Aj 1 rfl rfl⟩,⟨_,_,rfl,Aj 0 rfl rfl⟩,trivial⟩ (d':=d) (L':=L) (Vs.drop (.cons _ (.cons _ (.cons _ (.cons _ (Acb _)))))) ⟨Le.refl _,_,_,s.tc,rfl,RSl.nil,RSl.nil,hp,fun q=>absurd q (by decide)⟩
def OQ(P:Program) (f:FuncId):Prop:=∀{d:Ac}{s:PD}{dv pv:Value}{L:List Ac}{k size:Int},Pg d s dv pv L→
 Aw P f [pv,.int .i64 k,.int .i64 size] d L (Ret fun r d' L'=>Le d d'∧∃w tc,r=.tuple #[w,.int .i64 (BJ s k size).2.2]∧AM d' w (BJ s k size).2.1∧Pg d' {s with tc:=tc} dv pv L'∧((BJ s k size).2.2=0→tc=s.tc+AQ size.toNat))
def SH(a0:Nat):AY:=⟨21,[(.tmp 6),(.tmp 7)],(sR (o1 6 (.mv nS)<|o1 7 (.mv (kZ 0)) .done) (sR (om 12 0<|om 13 1<|om 14 2<|oc 15 a0 [(tP 12),(tP 13),(tP 14)]<|om 11 15<|oe 16 11 0<|oe 17 11 1<|oe 18 11 2<|om 8 16<|om 9 17<|om 10 18 .done) (sR (om 19 9<|om 20 10<|om 6 19<|om 7 20 .done) .ret)))⟩
theorem Xc{P:Program}{f f1:FuncId} (hd:dec P f=some (SH f1)) (h1:LM P f1):OQ P f:=by
 intro d s dv pv L k size hp
 obtain⟨bp,rfl⟩:=hp.ptr
 refine AG hd (Aca rfl) ?_
 show gwp P _ _ _ _ _
 (refine Ad<|Am rfl<|Ab rfl<|Aa<|Ad<|Ak rfl<|Ab rfl<|Ab rfl ?_)
 refine CP (h1 (k:=k) (size:=size) hp) rfl (fun u d2 L2 hl2 ⟨_,v,w,tc,e1,hv,hw,hp2,htc⟩=>?_)
 subst e1
 (refine AU rfl<|Ap rfl rfl<|Ap rfl rfl<|Ap rfl rfl<|AK<|AK<|Ab rfl<|Aa<|Ad<|AK<|Ab rfl<|AK<|Ab rfl<|Aa<|Ao ?_)
 exact CF rfl rfl (Acb _) ⟨hl2,w,tc,rfl,hw,hp2,htc⟩
def Dy(s:PD):List Int→PD×Int
 |[]=>(s,0)
 |k::l=>if (s.drop k).2=0 then Dy (s.drop k).1 l else((s.drop k).1,(s.drop k).2)
def DN(s:PD) (k size:Int):PD×Int:=if (BJ s k size).2.2=0 then Dy s (BJ s k size).1 else(s,(BJ s k size).2.2)
def LL(P:Program) (f:FuncId):Prop:=∀{d:Ac}{s:PD}{dv pv:Value}{L:List Ac}{k size:Int},Pg d s dv pv L→
 Aw P f [pv,.int .i64 k,.int .i64 size] d L (Ret fun r d' L'=>Le d d'∧r=.int .i64 (DN s k size).2∧∃tc,Pg d' {(DN s k size).1 with tc:=tc} dv pv L')
theorem Tn{s:PD}{n:Nat}{k:Int}:PD.drop {s with tc:=n} k=({(s.drop k).1 with tc:=n},(s.drop k).2):=by
 unfold PD.drop
 show(if s.kind k=1 then _ else if s.kind k=2 then _ else _)=_
 by_cases h1:s.kind k=1
 ·simp only [if_pos h1]
 ·by_cases h2:s.kind k=2
  ·simp only [if_neg h1,if_pos h2]
  ·simp only [if_neg h1,if_neg h2]
def RX(a0 a1:Nat):AY:=⟨37,[(.tmp 6)],(sR (o1 6 (.mv (kZ 0)) .done) (sR (om 14 0<|om 15 1<|om 16 2<|oc 17 a0 [(tP 14),(tP 15),(tP 16)]<|om 13 17<|oe 18 13 0<|oe 19 13 1<|oe 20 13 2<|om 7 18<|om 8 19<|om 9 20 .done) (.seq (sR (om 21 9<|ob 22 .neq (tP 21) (kZ 0) .done) (.cond (tP 22) (sR (om 23 9<|om 6 23 .done) .ret) .skip)) (.seq (sR (om 24 7<|oL 25 24<|o1 26 (.mv (kZ 0)) .done) (.block 0 (.loop (sR (ob 27 .lss (tP 26) (tP 25) .done) (.seq (.cond (tP 27) .skip (.exit 0)) (.seq (.block 1 (sR (oI 28 1 24 26<|ol 29 28<|om 11 29 .done) (sR (om 30 0<|om 31 11<|oc 32 a1 [(tP 30),(tP 31)]<|om 12 32 .done) (sR (om 33 12<|ob 34 .neq (tP 33) (kZ 0) .done) (.cond (tP 34) (sR (om 35 12<|om 6 35 .done) .ret) .skip))))) (rG (ob 36 .add (tP 26) (kZ 1)<|om 26 36 .done)))))))) (sR (o1 6 (.mv (kZ 0)) .done) .ret)))))⟩
set_option maxRecDepth 4000 in
theorem XN{P:Program}{f f1 f2:FuncId} (hd:dec P f=some (RX f1 f2)) (h1:LM P f1) (h2:Gt P f2):LL P f:=by
 intro d s dv pv L k size hp
 obtain⟨bp,rfl⟩:=hp.ptr
 refine AG hd (Aca rfl) ?_
 show gwp P _ _ _ _ _
 (refine Ad<|Ab rfl<|Aa<|Ad<|Ak rfl<|Ab rfl<|Ab rfl ?_)
 refine CP (h1 (k:=k) (size:=size) hp) rfl (fun u d2 L2 hl2 ⟨_,v,w,tc,e1,hv,hw,hp2,htc⟩=>?_)
 subst e1
 by_cases hz:(BJ s k size).2.2=0
 ·have hF:DN s k size=Dy s (BJ s k size).1:=by unfold DN;rw [if_pos hz]
  rw [hF]
  generalize (BJ s k size).1=l at hv
  have hll:=hv.BW
  (refine AU rfl<|Ap rfl rfl<|Ap rfl rfl<|Ap rfl rfl<|AK<|AK<|Ab rfl<|Aa<|Ah<|Ad<|Ab rfl<|AO rfl rfl<|Aa<|Ar rfl (by omega)<|Al<|Ah<|Ad<|AK<|BE rfl (by assumption)<|Ab rfl<|Aa<|Ax ?_)
  refine CI (α:=Nat×PD) (fun x=>[(0,.pointer (some ⟨bp,0,none⟩)),(24,v),(25,.int .i64 l.length),(26,.int .i64 x.1)])
   (fun x d' L'=>Le d2 d'∧x.1≤l.length∧Dy s l=Dy x.2 (l.drop x.1)∧Pg d' {x.2 with tc:=tc} dv (.pointer (some ⟨bp,0,none⟩)) L') (fun x=>l.length - x.1) (0,s) ⟨rfl,rfl,rfl,rfl,trivial⟩ ⟨Le.refl _,Adf _,rfl,hp2⟩ ?_
  rintro⟨i,s1⟩ ρ d' L' ⟨hle,hi,hD,hp'⟩
  simp only at hi hD hp'⊢
  have hv':=RSl.mono (R:=Bi) Cb hv hle
  by_cases e:i<l.length
  ·rw [Adi e,Dy] at hD
   (refine Ad<|AA rfl rfl<|Aa<|Ah<|Ay rfl (by omega)<|Al<|Ah<|Ax<|Ad<|BH (sz:=1) (R:=Bi) (by rfl) (by assumption) (by rfl) rfl (by omega) ?_;rintro _ _ _ _ _ ⟨rfl,_,_⟩;refine Ag rfl (B5 (by assumption) rfl)<|Ab rfl<|Aa<|Ad<|Ak rfl<|Ab rfl ?_)
   refine CP (h2 (k:=l[i]) hp') rfl (fun u d3 L3 hl3 ⟨q1,q2⟩=>?_)
   rw [Tn] at q1 q2
   subst q1
   by_cases hd0:(s1.drop l[i]).2=0
   ·rw [if_pos hd0] at hD
    (refine Ab rfl<|Aa<|Ad<|Ab rfl<|AO rfl rfl<|Aa<|Ar rfl (by omega)<|Al<|AE<|AN rfl rfl (by omega) (by omega)<|Ab rfl<|Aa ?_)
    exact⟨(i+1,(s1.drop l[i]).1),by simp only;omega,⟨rfl,rfl,rfl,rfl,trivial⟩,hle.trans hl3,e,hD,q2⟩
   ·rw [if_neg hd0] at hD
    rw [hD]
    (refine Ab rfl<|Aa<|Ad<|Ab rfl<|AO rfl rfl<|Aa<|Ay rfl (by omega)<|Ad<|Ab rfl<|Ab rfl<|Aa<|Ao ?_)
    exact BG rfl (Acb _) ⟨(hl2.trans hle).trans hl3,rfl,tc,q2⟩
  ·have:i=l.length:=by omega
   subst this
   rw [Afv,Dy] at hD
   rw [hD]
   (refine Ad<|AA rfl rfl<|Aa<|Ah<|Ar rfl (by omega)<|Bh<|Ad<|Ab rfl<|Aa<|Ao ?_)
   exact BG rfl (Acb _) ⟨hl2.trans hle,rfl,tc,hp'⟩
 ·have hF:DN s k size=(s,(BJ s k size).2.2):=by unfold DN;rw [if_neg hz]
  rw [hF]
  (refine AU rfl<|Ap rfl rfl<|Ap rfl rfl<|Ap rfl rfl<|AK<|AK<|Ab rfl<|Aa<|Ah<|Ad<|Ab rfl<|AO rfl rfl<|Aa<|Ay rfl (by omega)<|Ad<|Ab rfl<|Ab rfl<|Aa<|Ao ?_)
  exact BG rfl (Acb _) ⟨hl2,rfl,tc,hp2⟩
end Go.Gk.Chn
end
section
namespace Go.Gk.Node
open Go Go.Gk
attribute [local irreducible] gwp gws
structure AF where
 leaf:Bool
 keys:List (List UInt8)
 vals:List (List UInt8)
 kids:List Int
def Cx(d:Ac) (cs:List Value) (n:AF):Prop:=
 ∃kv vv iv,cs=[.bool n.leaf,kv,vv,iv]∧C8 d kv n.keys∧C8 d vv n.vals∧Dz d iv n.kids
def Df(n:AF) (i:Nat):Nat:=(n.keys.getD i []).length
def ES(n:AF) (i:Nat):Nat:=(n.vals.getD i []).length
def DY(n:AF) (i:Nat):Nat:=if n.leaf then 2+Df n i+ES n i else 1+Df n i
def Od(P:Program) (f:FuncId):Prop:=∀{d:Ac}{cs:List Value}{n:AF},Cx d cs n→∀i:Nat,i<n.keys.length→CT P f [.agg cs.toArray,.int .i64 i] d (.int .i64 (DY n i))
def Nz:AY:=⟨44,[(.tmp 4)],(sR (o1 2 (.box (tP 0))<|o1 4 (.mv (kZ 0)) .done) (.seq (sR (oj 5 0 2<|ol 6 5<|om 7 6<|gT 8 7 1<|oT 9 7 (.fld 2 (tP 2))<|oT 10 7 (.ld none (tP 9))<|oT 11 7 (.len (tP 10))<|oT 12 7 (.bin .lss (tP 8) (tP 11))<|gP 13 7 12 .done) (.cond (tP 13) (.seq (.reg true (p1 14 (.fld 1 (tP 2))<|pl 15 14<|pm 16 1<|p1 17 (.idx 1 (tP 15) (tP 16))<|pl 18 17<|p1 19 (.len (tP 18))<|p1 20 (.bin .add (kZ 2) (tP 19))<|p1 21 (.fld 2 (tP 2))<|pl 22 21<|pm 23 1<|p1 24 (.idx 1 (tP 22) (tP 23))<|pl 25 24<|p1 26 (.len (tP 25))<|p1 27 (.bin .add (tP 20) (tP 26)) (.bar (pm 4 27 .done)))) .ret) .skip)) (.seq (sR (oj 28 0 2<|ol 29 28 .done) (.cond (tP 29) (sR (oj 30 1 2<|ol 31 30<|om 32 1<|oI 33 1 31 32<|ol 34 33<|oL 35 34<|ob 36 .add (kZ 2) (tP 35)<|om 4 36 .done) .ret) .skip)) (sR (oj 37 1 2<|ol 38 37<|om 39 1<|oI 40 1 38 39<|ol 41 40<|oL 42 41<|ob 43 .add (kZ 1) (tP 42)<|om 4 43 .done) .ret))))⟩
theorem Ze{P:Program}{f:FuncId} (hd:dec P f=some Nz):Od P f:=by
 intro d cs n hn i hi
 obtain⟨lf,ks,vs,is⟩:=n
 obtain⟨kv,vv,iv,rfl,hk,hv,hiv⟩:∃kv vv iv,cs=[.bool lf,kv,vv,iv]∧C8 d kv ks∧C8 d vv vs∧Dz d iv is:=hn
 simp only at hi
 refine AG hd (Aca rfl) ?_
 obtain⟨ka,kc,kb,ko,rfl,kA,kS,kN,kl,km,kB,kx⟩:=hk
 obtain⟨va,vc,vb,vo,rfl,vA,vS,vN,vl,vm,vB,vx⟩:=hv
 obtain⟨c0,hc0,hD0,⟨u0,rfl,hu0⟩⟩:=kx i hi
 replace hD0:=hD0.one
 obtain⟨ua,uc,ub,uo,rfl,uA,uS,uN,ul,um,uB,ux⟩:=hu0
 dsimp only [DY,Df,ES] at*
 have hkl:(ks.getD i []).length=ks[i].length:=by simp [hi]
 rw [hkl]
 cases lf
 ·show gwp P _ _ _ _ _
  (refine Ad<|Cc rfl (fun _ _=>Ab rfl<|Aa<|Ah<|Ad<|Ai rfl<|Ag rfl (Aj 0 rfl rfl)<|Ae rfl<|An rfl<|An rfl<|An rfl<|An rfl<|An rfl<|Aq rfl rfl<|Aa<|AR rfl<|Al<|Ah<|Ad<|Ai rfl<|Ag rfl (Aj 0 rfl rfl)<|Aa<|AR rfl<|Al<|Ad<|Ai rfl<|Ag rfl (Aj 0 rfl rfl)<|Ab rfl ?_);apply BA;rfl;rfl;rfl;omega;assumption;refine Ag rfl (BF (by assumption))<|AL rfl<|AN rfl rfl (by omega) (by omega)<|Ab rfl<|Aa<|Ao ?_)
  (apply Hm;rfl)
  simp
 ·by_cases hv:i<vs.length
  ·obtain⟨c1,hc1,hD1,⟨u1,rfl,hu1⟩⟩:=vx i hv
   replace hD1:=hD1.one
   obtain⟨wa,wc,wb,wo,rfl,wA,wS,wN,wl,wm,wB,wx⟩:=hu1
   show gwp P _ _ _ _ _
   (refine Ad<|Cc rfl (fun _ _=>Ab rfl<|Aa<|Ah<|Ad<|Ai rfl<|Ag rfl (Aj 0 rfl rfl)<|Ae rfl<|Af rfl<|Ab rfl<|Af rfl<|Ai rfl<|Af rfl<|Ag rfl (Aj 0 rfl rfl)<|Af rfl<|AL rfl<|Af rfl<|AA rfl rfl<|AB rfl rfl<|Aa<|Ay rfl (by omega)<|Ah<|Bv<|Ai rfl<|Ag rfl (Aj 0 rfl rfl)<|Ab rfl ?_);apply BA;rfl;rfl;rfl;omega;assumption;refine Ag rfl (BF (by assumption))<|AL rfl<|AN rfl rfl (by omega) (by omega)<|Ai rfl<|Ag rfl (Aj 0 rfl rfl)<|Ab rfl ?_;apply BA;rfl;rfl;rfl;omega;assumption;refine Ag rfl (BF (by assumption))<|AL rfl<|AN rfl rfl (by omega) (by omega)<|B4<|Ab rfl<|Aa<|Ao ?_)
   (apply Hm;rfl)
   simp [hv]
  ·show gwp P _ _ _ _ _
   (refine Ad<|Cc rfl (fun _ _=>Ab rfl<|Aa<|Ah<|Ad<|Ai rfl<|Ag rfl (Aj 0 rfl rfl)<|Ae rfl<|Af rfl<|Ab rfl<|Af rfl<|Ai rfl<|Af rfl<|Ag rfl (Aj 0 rfl rfl)<|Af rfl<|AL rfl<|Af rfl<|AA rfl rfl<|AB rfl rfl<|Aa<|Ar rfl (by omega)<|Al<|Ah<|Ad<|Ai rfl<|Ag rfl (Aj 0 rfl rfl)<|Aa<|Be rfl<|Ad<|Ai rfl<|Ag rfl (Aj 0 rfl rfl)<|Ab rfl ?_);apply BA;rfl;rfl;rfl;omega;assumption;refine Ag rfl (BF (by assumption))<|AL rfl<|AN rfl rfl (by omega) (by omega)<|Ab rfl<|Aa<|Ao ?_)
   (apply Hm;rfl)
   simp [Adq (Ahe hv)]
def Bm(n:AF):Nat→Nat
 |0=>0
 |k+1=>Bm n k+DY n k
theorem Gf(n:AF):∀{k m:Nat},k≤m→Bm n k≤Bm n m:=by
 intro k m h
 induction h with
 |refl=>exact Ach _
 |step _ ih=>simp only [Bm];omega
def A5(n:AF):Nat:=2+(if n.leaf then 0 else 2*n.kids.length)+Bm n n.keys.length
def Kn(P:Program) (f:FuncId):Prop:=∀{d:Ac}{cs:List Value}{n:AF},Cx d cs n→A5 n≤1000000000000→CT P f [.agg cs.toArray] d (.int .i64 (A5 n))
def SS(a0:Nat):AY:=⟨27,[(.tmp 2)],(sR (o1 1 (.box (tP 0))<|o1 2 (.mv (kZ 0)) .done) (sR (o1 3 (.mv (kZ 2)) .done) (.seq (sR (oj 5 0 1<|ol 6 5<|o1 7 (.un .not (tP 6)) .done) (.cond (tP 7) (rG (om 8 3<|oj 9 3 1<|ol 10 9<|oL 11 10<|ob 12 .mul (kZ 2) (tP 11)<|ob 13 .add (tP 8) (tP 12)<|om 3 13 .done)) .skip)) (.seq (sR (oj 14 1 1<|ol 15 14<|oL 16 15<|o1 17 (.mv (kZ 0)) .done) (.block 0 (.loop (sR (ob 18 .lss (tP 17) (tP 16) .done) (.seq (.cond (tP 18) .skip (.exit 0)) (.seq (.block 1 (sR (om 19 17<|om 4 19 .done) (rG (om 20 3<|o1 21 (.ld (some 4) (tP 1))<|om 22 4<|oc 23 a0 [(tP 21),(tP 22)]<|ob 24 .add (tP 20) (tP 23)<|om 3 24 .done)))) (rG (ob 25 .add (tP 17) (kZ 1)<|om 17 25 .done)))))))) (sR (om 26 3<|om 2 26 .done) .ret)))))⟩
theorem Zv{P:Program}{f fc:FuncId} (hd:dec P f=some (SS fc)) (hc:Od P fc):Kn P f:=by
 intro d cs n hn hb
 have hn':=hn
 obtain⟨lf,ks,vs,is⟩:=n
 obtain⟨kv,vv,iv,rfl,hk,hv,hiv⟩:∃kv vv iv,cs=[.bool lf,kv,vv,iv]∧C8 d kv ks∧C8 d vv vs∧Dz d iv is:=hn
 refine AG hd (Aca rfl) ?_
 obtain⟨ka,kc,kb,ko,rfl,kA,kS,kN,kl,km,kB,kx⟩:=hk
 obtain⟨ia,ic,ib,io,rfl,iA,iS,iN,il,im,iB,ix⟩:=hiv
 have hm:∀k,k≤ks.length→Bm ⟨lf,ks,vs,is⟩ k≤Bm ⟨lf,ks,vs,is⟩ ks.length:=fun k hk=>Gf _ hk
 simp only [A5] at hb⊢
 show gwp P _ _ _ _ _
 cases lf
 ·obtain⟨z,hz⟩:∃z,z=2+(if false then 0 else 2*is.length):=⟨_,rfl⟩
  simp only [Acj,if_false] at hz hb
  (refine Ad<|Cc rfl (fun _ _=>Ab rfl<|Aa<|Ad<|Ab rfl<|Aa<|Ah<|Ad<|Ai rfl<|Ag rfl (Aj 0 rfl rfl)<|Bj rfl<|Aa<|Be rfl<|AE<|Ab rfl<|Ai rfl<|Ag rfl (Aj 0 rfl rfl)<|AL rfl<|LB rfl rfl (by omega) (by omega)<|AN rfl rfl (by omega) (by omega)<|Ab rfl<|Aa<|Ah<|Ad<|Ai rfl<|Ag rfl (Aj 0 rfl rfl)<|AL rfl<|Ab rfl<|Aa<|Ax ?_))
  rename_i b T
  refine CZ (α:=Nat) (fun k=>[(1,.pointer (some ⟨b,0,none⟩)),(3,.int .i64 (z+Bm ⟨false,ks,vs,is⟩ k:Nat)),(16,.int .i64 ks.length),(17,.int .i64 k)])
   (fun _=>[bx b T [.bool false,.slice ka ks.length kc,vv,.slice ia is.length ic]]) (fun k=>k≤ks.length) (fun k=>ks.length - k) 0 ⟨rfl,int_eq (by simp [Bm,hz]),rfl,rfl,trivial⟩ rfl (Adf _) ?_
  intro k ρ hk
  have h1:=hm k hk
  by_cases h:k<ks.length
  ·have h2:=hm (k+1) h
   simp only [Bm] at h1 h2 hb
   (refine Ad<|AA rfl rfl<|Aa<|Ah<|Ay rfl (by omega)<|Al<|Ah<|Ax<|Ad<|Ab rfl<|Ab rfl<|Aa<|AE<|Ab rfl<|Bg 0 rfl rfl rfl<|Ab rfl ?_)
   refine BR rfl (hc hn' k h) ?_
   (refine AN rfl rfl (by omega) (by omega)<|Ab rfl<|Aa<|AE<|AN rfl rfl (by omega) (by omega)<|Ab rfl<|Aa ?_)
   exact⟨k+1,by omega,⟨rfl,int_eq (by simp [Bm];omega),rfl,rfl,trivial⟩,rfl,rfl,h⟩
  ·have e:k=ks.length:=by omega
   subst e
   (refine Ad<|AA rfl rfl<|Aa<|Ah<|Ar rfl (by omega)<|Bh<|Ad<|Ab rfl<|Ab rfl<|Aa<|Ao ?_)
   (apply Hm;rfl)
   simp;omega
 ·obtain⟨z,hz⟩:∃z,z=2+(if true then 0 else 2*is.length):=⟨_,rfl⟩
  simp only [if_true] at hz hb
  (refine Ad<|Cc rfl (fun _ _=>Ab rfl<|Aa<|Ad<|Ab rfl<|Aa<|Ah<|Ad<|Ai rfl<|Ag rfl (Aj 0 rfl rfl)<|Bj rfl<|Aa<|AR rfl<|Al<|Ah<|Ad<|Ai rfl<|Ag rfl (Aj 0 rfl rfl)<|AL rfl<|Ab rfl<|Aa<|Ax ?_))
  rename_i b T
  refine CZ (α:=Nat) (fun k=>[(1,.pointer (some ⟨b,0,none⟩)),(3,.int .i64 (z+Bm ⟨true,ks,vs,is⟩ k:Nat)),(16,.int .i64 ks.length),(17,.int .i64 k)])
   (fun _=>[bx b T [.bool true,.slice ka ks.length kc,vv,.slice ia is.length ic]]) (fun k=>k≤ks.length) (fun k=>ks.length - k) 0 ⟨rfl,int_eq (by simp [Bm,hz]),rfl,rfl,trivial⟩ rfl (Adf _) ?_
  intro k ρ hk
  have h1:=hm k hk
  by_cases h:k<ks.length
  ·have h2:=hm (k+1) h
   simp only [Bm] at h1 h2 hb
   (refine Ad<|AA rfl rfl<|Aa<|Ah<|Ay rfl (by omega)<|Al<|Ah<|Ax<|Ad<|Ab rfl<|Ab rfl<|Aa<|AE<|Ab rfl<|Bg 0 rfl rfl rfl<|Ab rfl ?_)
   refine BR rfl (hc hn' k h) ?_
   (refine AN rfl rfl (by omega) (by omega)<|Ab rfl<|Aa<|AE<|AN rfl rfl (by omega) (by omega)<|Ab rfl<|Aa ?_)
   exact⟨k+1,by omega,⟨rfl,int_eq (by simp [Bm];omega),rfl,rfl,trivial⟩,rfl,rfl,h⟩
  ·have e:k=ks.length:=by omega
   subst e
   (refine Ad<|AA rfl rfl<|Aa<|Ah<|Ar rfl (by omega)<|Bh<|Ad<|Ab rfl<|Ab rfl<|Aa<|Ao ?_)
   (apply Hm;rfl)
   simp;omega
def kOk(ks:List (List UInt8)) (i:Nat):Bool:=decide (1≤(ks.getD i []).length)&& decide ((ks.getD i []).length≤64)&&(i==0||Op.bytesLess (ks.getD (i - 1) []) (ks.getD i []))
def Dj(ks:List (List UInt8)):Nat→Bool
 |0=>true
 |k+1=>Dj ks k && kOk ks k
theorem HR{ks:List (List UInt8)}{k:Nat} (h:kOk ks k=false):∀{m:Nat},k<m→Dj ks m=false:=by
 intro m hm
 induction hm with
 |refl=>simp [Dj,h]
 |step _ ih=>simp [Dj,ih]
def Ht(v:List UInt8):Bool:=decide (v.length≤16)
def FV(k:Int):Bool:=decide (0≤k∧k≤8191)
def A6(n:AF):Bool:=Dj n.keys n.keys.length &&(if n.leaf then decide (n.vals.length=n.keys.length)&& decide (n.kids.length=0)&& n.vals.all Ht
 else decide (n.vals.length=0)&& decide (n.kids.length=n.keys.length+1)&& n.kids.all FV)
def LQ(P:Program) (f:FuncId):Prop:=∀{d:Ac}{cs:List Value}{n:AF},Cx d cs n→CT P f [.agg cs.toArray] d (.bool (A6 n))
def Fb(P:Program) (f:FuncId):Prop:=∀{α:Type}{R:Ac→List Value→α→Prop}{d:Ac}{v:Value}{xs:List α}{g:FuncId}{p:α→Bool},RSl 1 R d v xs→(∀u x,R d [u] x→CT P g [u] d (.bool (p x)))→
 Aw P f [v,.func (.func g) #[] #[]] d [] (Ret fun r d' L'=>∃z:Int,r=.int .i64 z∧(0≤z↔xs.any p=true)∧d'=d∧L'=[])
def Ee(P:Program) (f:FuncId):Prop:=∀{α:Type}{R:Ac→List Value→α→Prop}{d:Ac}{v:Value}{xs:List α}{g:FuncId}{p:α→Bool},RSl 1 R d v xs→(∀u x,R d [u] x→CT P g [u] d (.bool (p x)))→
 CT P f [v,.func (.func g) #[] #[]] d (.bool (xs.any p))
def Iw(P:Program) (f:FuncId):Prop:=∀{d:Ac}{u v:Value}{a b:List UInt8},AM d u a→AM d v b→CT P f [u,v] d (.int .i64 (Lib.compareBytes a b))
theorem RO{α:Type}{p:α→Bool}{xs:List α}{i:Nat} (hi:i<xs.length) (h:(xs.take i).any p=false) (hx:p xs[i]=false):(xs.take (i+1)).any p=false:=by
 rw [Acx hi,List.any_append,h];simp [hx]
theorem VN{α:Type}{p:α→Bool}{xs:List α}{i:Nat} (hi:i<xs.length) (hx:p xs[i]=true):xs.any p=true:=List.any_eq_true.2 ⟨xs[i],Ada hi,hx⟩
def GL:AY:=⟨19,[(.tmp 4)],(sR (o1 4 (.mv (kZ 0)) .done) (.seq (sR (om 6 0<|oL 7 6<|o1 8 (.mv (kZ 0)) .done) (.block 0 (.loop (sR (ob 9 .lss (tP 8) (tP 7) .done) (.seq (.cond (tP 9) .skip (.exit 0)) (.seq (.block 1 (sR (om 10 8<|om 5 10 .done) (sR (om 11 1<|om 12 0<|om 13 5<|oI 14 1 12 13<|ol 15 14<|o1 16 (.callv (tP 11) [(tP 15)]) .done) (.cond (tP 16) (sR (om 17 5<|om 4 17 .done) .ret) .skip)))) (rG (ob 18 .add (tP 8) (kZ 1)<|om 8 18 .done)))))))) (sR (o1 4 (.mv (kZ (-1))) .done) .ret)))⟩
theorem J8{P:Program}{f:FuncId} (hd:dec P f=some GL):Fb P f:=by
 intro α R d v xs g p hv hp
 refine AG hd (Aca rfl) ?_
 obtain⟨xa,xc,xb,xo,rfl,xA,xS,xN,xl,xm,xB,xx⟩:=hv
 show gwp P _ _ _ _ _
 (refine Ad<|Ab rfl<|Aa<|Ah<|Ad<|Am rfl<|AL rfl<|Ab rfl<|Aa<|Ax ?_)
 refine CZ (α:=Nat) (fun k=>[(0,.slice xa xs.length xc),(1,.func (.func g) #[] #[]),(7,.int .i64 xs.length),(8,.int .i64 k)])
  (fun _=>[]) (fun k=>k≤xs.length∧(xs.take k).any p=false) (fun k=>xs.length - k) 0 ⟨rfl,rfl,rfl,rfl,trivial⟩ rfl ⟨Adf _,by simp⟩ ?_
 rintro k ρ ⟨hle,hk⟩
 by_cases h:k<xs.length
 ·obtain⟨c0,hc0,hD0,hR0⟩:=xx k h
  obtain⟨u,rfl⟩:∃u,c0=[u]:=by
   match c0,hc0 with|[u],_=>exact⟨u,rfl⟩
  replace hD0:=hD0.one
  (refine Ad<|AA rfl rfl<|Aa<|Ah<|Ay rfl (by omega)<|Al<|Ah<|Ax<|Ad<|Ab rfl<|Ab rfl<|Aa<|Ad<|Fz rfl<|Am rfl<|Ab rfl ?_;apply BA;rfl;rfl;rfl;omega;assumption;apply Ag;rfl;exact BF (by assumption))
  refine TF rfl rfl (hp u _ hR0) ?_
  cases hx:p xs[k] with
  |true=>
   (refine Aa<|Be rfl<|Ad<|Ab rfl<|Ab rfl<|Aa<|Ao ?_)
   exact Jz rfl ⟨k,rfl,by simp [VN h hx],rfl,rfl⟩
  |false=>
   (refine Aa<|AR rfl<|Al<|AE<|AN rfl rfl (by omega) (by omega)<|Ab rfl<|Aa ?_)
   exact⟨k+1,by omega,⟨rfl,rfl,rfl,int_eq (by omega),trivial⟩,rfl,rfl,by omega,RO h hk hx⟩
 ·have e:k=xs.length:=by omega
  subst e
  rw [Aeg] at hk
  (refine Ad<|AA rfl rfl<|Aa<|Ah<|Ar rfl (by omega)<|Bh<|Ad<|Ab rfl<|Aa<|Ao ?_)
  exact Jz rfl ⟨-1,rfl,by simp [hk],rfl,rfl⟩
def Gl(a0:Nat):AY:=⟨9,[(.tmp 4)],(sR (o1 4 (.mv (.const (.bool false))) .done) (sR (om 5 0<|om 6 1<|oc 7 a0 [(tP 5),(tP 6)]<|ob 8 .geq (tP 7) (kZ 0)<|om 4 8 .done) .ret))⟩
theorem IL{P:Program}{f f1:FuncId} (hd:dec P f=some (Gl f1)) (h1:Fb P f1):Ee P f:=by
 intro α R d v xs g p hv hp
 refine AG hd (Aca rfl) ?_
 show gwp P _ _ _ _ _
 (refine Ad<|Ae rfl<|Aa<|Ad<|AK<|Fz rfl ?_)
 refine Bk rfl (h1 hv hp) (fun r d' L' _ ⟨z,hr,hz,hd',hL⟩=>?_)
 subst hr;subst hd';subst hL
 (refine DL rfl rfl<|Ae rfl<|Aa<|Ao ?_)
 (apply En;rfl)
 cases h:xs.any p
 ·have:¬0≤z:=fun h0=>by rw [hz.1 h0] at h;cases h
  simpa using this
 ·simpa using hz.2 h
def He:AY:=⟨19,[(.tmp 4)],(sR (o1 4 (.mv (kZ 0)) .done) (.seq (sR (om 6 0<|oL 7 6<|o1 8 (.mv (kZ 0)) .done) (.block 0 (.loop (sR (ob 9 .lss (tP 8) (tP 7) .done) (.seq (.cond (tP 9) .skip (.exit 0)) (.seq (.block 1 (sR (om 10 8<|om 5 10 .done) (sR (om 11 1<|om 12 0<|om 13 5<|oI 14 1 12 13<|ol 15 14<|o1 16 (.callv (tP 11) [(tP 15)]) .done) (.cond (tP 16) (sR (om 17 5<|om 4 17 .done) .ret) .skip)))) (rG (ob 18 .add (tP 8) (kZ 1)<|om 8 18 .done)))))))) (sR (o1 4 (.mv (kZ (-1))) .done) .ret)))⟩
theorem Mr{P:Program}{f:FuncId} (hd:dec P f=some He):Fb P f:=by
 intro α R d v xs g p hv hp
 refine AG hd (Aca rfl) ?_
 obtain⟨xa,xc,xb,xo,rfl,xA,xS,xN,xl,xm,xB,xx⟩:=hv
 show gwp P _ _ _ _ _
 (refine Ad<|Ab rfl<|Aa<|Ah<|Ad<|Am rfl<|AL rfl<|Ab rfl<|Aa<|Ax ?_)
 refine CZ (α:=Nat) (fun k=>[(0,.slice xa xs.length xc),(1,.func (.func g) #[] #[]),(7,.int .i64 xs.length),(8,.int .i64 k)])
  (fun _=>[]) (fun k=>k≤xs.length∧(xs.take k).any p=false) (fun k=>xs.length - k) 0 ⟨rfl,rfl,rfl,rfl,trivial⟩ rfl ⟨Adf _,by simp⟩ ?_
 rintro k ρ ⟨hle,hk⟩
 by_cases h:k<xs.length
 ·obtain⟨c0,hc0,hD0,hR0⟩:=xx k h
  obtain⟨u,rfl⟩:∃u,c0=[u]:=by
   match c0,hc0 with|[u],_=>exact⟨u,rfl⟩
  replace hD0:=hD0.one
  (refine Ad<|AA rfl rfl<|Aa<|Ah<|Ay rfl (by omega)<|Al<|Ah<|Ax<|Ad<|Ab rfl<|Ab rfl<|Aa<|Ad<|Fz rfl<|Am rfl<|Ab rfl ?_;apply BA;rfl;rfl;rfl;omega;assumption;apply Ag;rfl;exact BF (by assumption))
  refine TF rfl rfl (hp u _ hR0) ?_
  cases hx:p xs[k] with
  |true=>
   (refine Aa<|Be rfl<|Ad<|Ab rfl<|Ab rfl<|Aa<|Ao ?_)
   exact Jz rfl ⟨k,rfl,by simp [VN h hx],rfl,rfl⟩
  |false=>
   (refine Aa<|AR rfl<|Al<|AE<|AN rfl rfl (by omega) (by omega)<|Ab rfl<|Aa ?_)
   exact⟨k+1,by omega,⟨rfl,rfl,rfl,int_eq (by omega),trivial⟩,rfl,rfl,by omega,RO h hk hx⟩
 ·have e:k=xs.length:=by omega
  subst e
  rw [Aeg] at hk
  (refine Ad<|AA rfl rfl<|Aa<|Ah<|Ar rfl (by omega)<|Bh<|Ad<|Ab rfl<|Aa<|Ao ?_)
  exact Jz rfl ⟨-1,rfl,by simp [hk],rfl,rfl⟩
def GF(a0:Nat):AY:=⟨9,[(.tmp 4)],(sR (o1 4 (.mv (.const (.bool false))) .done) (sR (om 5 0<|om 6 1<|oc 7 a0 [(tP 5),(tP 6)]<|ob 8 .geq (tP 7) (kZ 0)<|om 4 8 .done) .ret))⟩
theorem JY{P:Program}{f f1:FuncId} (hd:dec P f=some (GF f1)) (h1:Fb P f1):Ee P f:=by
 intro α R d v xs g p hv hp
 refine AG hd (Aca rfl) ?_
 show gwp P _ _ _ _ _
 (refine Ad<|Ae rfl<|Aa<|Ad<|AK<|Fz rfl ?_)
 refine Bk rfl (h1 hv hp) (fun r d' L' _ ⟨z,hr,hz,hd',hL⟩=>?_)
 subst hr;subst hd';subst hL
 (refine DL rfl rfl<|Ae rfl<|Aa<|Ao ?_)
 (apply En;rfl)
 cases h:xs.any p
 ·have:¬0≤z:=fun h0=>by rw [hz.1 h0] at h;cases h
  simpa using this
 ·simpa using hz.2 h
def NW:AY:=⟨8,[(.tmp 4)],(sR (o1 4 (.mv (kZ 0)) .done) (sR (om 5 0<|om 6 1<|o1 7 (.bcmp (tP 5) (tP 6))<|om 4 7 .done) .ret))⟩
theorem Uz{P:Program}{f:FuncId} (hd:dec P f=some NW):Iw P f:=by
 intro d u v a b hu hv
 refine AG hd (Aca rfl) ?_
 show gwp P _ _ _ _ _
 (refine Ad<|Ab rfl<|Aa<|Ad<|AK<|AK<|ZW rfl rfl (by assumption) (by assumption)<|Ab rfl<|Aa<|Ao ?_)
 (apply Hm;rfl)
 rfl
def Ja:AY:=⟨6,[(.tmp 2)],(sR (o1 2 (.mv (.const (.bool false))) .done) (sR (om 3 0<|oL 4 3<|ob 5 .gtr (tP 4) (kZ 16)<|om 2 5 .done) .ret))⟩
theorem V7{P:Program}{f:FuncId} (hd:dec P f=some Ja) {d:Ac}{u:Value}{l:List UInt8} (hu:RBs d [u] l):CT P f [u] d (.bool (!Ht l)):=by
 obtain⟨u',e,hu⟩:=hu
 cases e
 refine AG hd (Aca rfl) ?_
 show gwp P _ _ _ _ _
 (refine Ad<|Ae rfl<|Aa<|Ad<|AK<|BE rfl (by assumption)<|BS rfl rfl<|Ae rfl<|Aa<|Ao ?_)
 (apply En;rfl)
 (rw [Agx];simp [Ht];omega)
def IY:AY:=⟨9,[(.tmp 2)],(sR (o1 2 (.mv (.const (.bool false))) .done) (sR (om 3 0<|ob 4 .lss (tP 3) (kZ 0)<|om 5 4<|gF 6 5 0<|oF 7 5 (.bin .geq (tP 6) (kZ 8192))<|o1 8 (.pick (tP 5) (.const (.bool true)) (tP 7))<|om 2 8 .done) .ret))⟩
theorem V3{P:Program}{f:FuncId} (hd:dec P f=some IY) {d:Ac}{u:Value}{k:Int} (hu:Bi d [u] k):CT P f [u] d (.bool (!FV k)):=by
 obtain⟨e,h1,h2⟩:=hu
 cases e
 refine AG hd (Aca rfl) ?_
 show gwp P _ _ _ _ _
 by_cases h:k<0
 ·(refine Ad<|Ae rfl<|Aa<|Ad<|Ab rfl<|AA rfl rfl<|Ae rfl<|Bd rfl (by omega)<|An rfl<|An rfl<|AB rfl rfl<|Ae rfl<|Aa<|Ao ?_)
  (apply En;rfl)
  (rw [Agx];simp [FV];omega)
 ·by_cases h':k≥8192
  ·(refine Ad<|Ae rfl<|Aa<|Ad<|Ab rfl<|AA rfl rfl<|Ae rfl<|AZ rfl (by omega)<|Af rfl<|Ab rfl<|Af rfl<|DL rfl rfl<|Aq rfl rfl<|Ae rfl<|Aa<|Ao ?_)
   (apply En;rfl)
   (rw [Agx];simp [FV];omega)
  ·(refine Ad<|Ae rfl<|Aa<|Ad<|Ab rfl<|AA rfl rfl<|Ae rfl<|AZ rfl (by omega)<|Af rfl<|Ab rfl<|Af rfl<|DL rfl rfl<|Aq rfl rfl<|Ae rfl<|Aa<|Ao ?_)
   (apply En;rfl)
   (rw [Agx];simp [FV];omega)
def Sh(a0 a1 a2 a3 a4:Nat):AY:=⟨78,[(.tmp 2)],(sR (o1 1 (.box (tP 0))<|o1 2 (.mv (.const (.bool false))) .done) (.seq (sR (oj 5 1 1<|ol 6 5<|oL 7 6<|o1 8 (.mv (kZ 0)) .done) (.block 0 (.loop (sR (ob 9 .lss (tP 8) (tP 7) .done) (.seq (.cond (tP 9) .skip (.exit 0)) (.seq (.block 1 (sR (om 10 8<|oI 11 1 6 8<|ol 12 11<|om 3 10<|om 4 12 .done) (sR (om 13 4<|oL 14 13<|ob 15 .lss (tP 14) (kZ 1)<|om 16 15<|gF 17 16 4<|oF 18 16 (.len (tP 17))<|oF 19 16 (.bin .gtr (tP 18) (kZ 64))<|o1 20 (.pick (tP 16) (.const (.bool true)) (tP 19))<|om 21 20<|gF 22 21 3<|oF 23 21 (.bin .gtr (tP 22) (kZ 0))<|gF 24 21 23<|oT 25 24 (.fld 1 (tP 1))<|oT 26 24 (.ld none (tP 25))<|gT 27 24 3<|oT 28 24 (.bin .sub (tP 27) (kZ 1))<|oT 29 24 (.idx 1 (tP 26) (tP 28))<|oT 30 24 (.ld none (tP 29))<|gT 31 24 4<|oT 32 24 (.call a0 [(tP 30),(tP 31)])<|oT 33 24 (.bin .geq (tP 32) (kZ 0))<|oF 34 21 (.pick (tP 24) (tP 33) (.const (.bool false)))<|o1 35 (.pick (tP 21) (.const (.bool true)) (tP 34)) .done) (.cond (tP 35) (sR (o1 2 (.mv (.const (.bool false))) .done) .ret) .skip)))) (rG (ob 36 .add (tP 8) (kZ 1)<|om 8 36 .done)))))))) (.seq (sR (oj 37 0 1<|ol 38 37 .done) (.cond (tP 38) (sR (oj 39 2 1<|ol 40 39<|oL 41 40<|oj 42 1 1<|ol 43 42<|oL 44 43<|ob 45 .eql (tP 41) (tP 44)<|om 46 45<|oT 47 46 (.fld 3 (tP 1))<|oT 48 46 (.ld none (tP 47))<|oT 49 46 (.len (tP 48))<|oT 50 46 (.bin .eql (tP 49) (kZ 0))<|gP 51 46 50<|om 52 51<|oT 53 52 (.fld 2 (tP 1))<|oT 54 52 (.ld none (tP 53))<|oT 55 52 (.call a1 [(tP 54),(.func a2)])<|oT 56 52 (.un .not (tP 55))<|gP 57 52 56<|om 2 57 .done) .ret) .skip)) (sR (oj 58 2 1<|ol 59 58<|oL 60 59<|ob 61 .eql (tP 60) (kZ 0)<|om 62 61<|oT 63 62 (.fld 3 (tP 1))<|oT 64 62 (.ld none (tP 63))<|oT 65 62 (.len (tP 64))<|oT 66 62 (.fld 1 (tP 1))<|oT 67 62 (.ld none (tP 66))<|oT 68 62 (.len (tP 67))<|oT 69 62 (.bin .add (tP 68) (kZ 1))<|oT 70 62 (.bin .eql (tP 65) (tP 69))<|gP 71 62 70<|om 72 71<|oT 73 72 (.fld 3 (tP 1))<|oT 74 72 (.ld none (tP 73))<|oT 75 72 (.call a3 [(tP 74),(.func a4)])<|oT 76 72 (.un .not (tP 75))<|gP 77 72 76<|om 2 77 .done) .ret))))⟩
theorem Xu{P:Program}{f f1 f2 f3 f4 f5:FuncId} (hd:dec P f=some (Sh f1 f2 f3 f4 f5)) (h1:Iw P f1) (h2:Ee P f2) (h3:dec P f3=some Ja) (h4:Ee P f4) (h5:dec P f5=some IY):LQ P f:=by
 intro d cs n hn
 obtain⟨lf,ks,vs,is⟩:=n
 obtain⟨kv,vv,iv,rfl,hk,hv,hiv⟩:∃kv vv iv,cs=[.bool lf,kv,vv,iv]∧C8 d kv ks∧C8 d vv vs∧Dz d iv is:=hn
 refine AG hd (Aca rfl) ?_
 have hv':=hv
 have hiv':=hiv
 obtain⟨ka,kc,kb,ko,rfl,kA,kS,kN,kl,km,kB,kx⟩:=hk
 show gwp P _ _ _ _ _
 (refine Ad<|Cc rfl (fun _ _=>Ae rfl<|Aa<|Ah<|Ad<|Ai rfl<|Ag rfl (Aj 0 rfl rfl)<|AL rfl<|Ab rfl<|Aa<|Ax ?_))
 rename_i b T
 refine CZ (α:=Nat) (fun k=>[(1,.pointer (some ⟨b,0,none⟩)),(6,.slice ka ks.length kc),(7,.int .i64 ks.length),(8,.int .i64 k)])
  (fun _=>[bx b T [.bool lf,.slice ka ks.length kc,vv,iv]]) (fun k=>k≤ks.length∧Dj ks k=true) (fun k=>ks.length - k) 0 ⟨rfl,rfl,rfl,rfl,trivial⟩ rfl ⟨Adf _,rfl⟩ ?_
 rintro k ρ ⟨hle,hok⟩
 by_cases h:k<ks.length
 ·obtain⟨c0,hc0,hD0,⟨u0,rfl,hu0⟩⟩:=kx k h
  replace hD0:=hD0.one
  have hkl:ks.getD k []=ks[k]:=by simp [h]
  have hnext:kOk ks k=true→∃x',ks.length - x'<ks.length - k∧x'=k+1∧(x'≤ks.length∧Dj ks x'=true):=fun hk=>⟨k+1,by omega,rfl,by omega,by simp [Dj,hok,hk]⟩
  by_cases h1':ks[k].length<1
  ·have hf:kOk ks k=false:=by rw [kOk,hkl];simp;omega
   (refine Ad<|AA rfl rfl<|Aa<|Ah<|Ay rfl (by omega)<|Al<|Ah<|Ax<|Ad<|Ab rfl ?_;apply BA;rfl;rfl;rfl;omega;assumption;refine Ag rfl (BF (by assumption))<|Ab rfl<|AK<|Aa<|Ad<|AK<|BE rfl (by assumption)<|AA rfl rfl<|Ae rfl<|Bd rfl (by omega)<|An rfl<|An rfl<|An rfl<|AB rfl rfl<|Ae rfl<|An rfl<|An rfl<|An rfl<|Da rfl<|Da rfl<|Da rfl<|Da rfl<|Da rfl<|Da rfl<|Da rfl<|Da rfl<|Da rfl<|An rfl<|AB rfl rfl<|Aa<|Be rfl<|Ad<|Ae rfl<|Aa<|Ao ?_)
   (apply En;rfl)
   simp [A6,HR hf h]
  ·by_cases h2':ks[k].length>64
   ·have hf:kOk ks k=false:=by rw [kOk,hkl];simp;omega
    (refine Ad<|AA rfl rfl<|Aa<|Ah<|Ay rfl (by omega)<|Al<|Ah<|Ax<|Ad<|Ab rfl ?_;apply BA;rfl;rfl;rfl;omega;assumption;refine Ag rfl (BF (by assumption))<|Ab rfl<|AK<|Aa<|Ad<|AK<|BE rfl (by assumption)<|AA rfl rfl<|Ae rfl<|AZ rfl (by omega)<|Af rfl<|AK<|Af rfl<|BE rfl (by assumption)<|Af rfl<|BS rfl rfl<|Aq rfl rfl<|Ae rfl<|Bd rfl (by omega)<|An rfl<|An rfl<|An rfl<|Da rfl<|Da rfl<|Da rfl<|Da rfl<|Da rfl<|Da rfl<|Da rfl<|Da rfl<|Da rfl<|An rfl<|AB rfl rfl<|Aa<|Be rfl<|Ad<|Ae rfl<|Aa<|Ao ?_)
    (apply En;rfl)
    simp [A6,HR hf h]
   ·cases k with
    |zero=>
     (refine Ad<|AA rfl rfl<|Aa<|Ah<|Ay rfl (by omega)<|Al<|Ah<|Ax<|Ad<|Ab rfl ?_;apply BA;rfl;rfl;rfl;omega;assumption;refine Ag rfl (BF (by assumption))<|Ab rfl<|AK<|Aa<|Ad<|AK<|BE rfl (by assumption)<|AA rfl rfl<|Ae rfl<|AZ rfl (by omega)<|Af rfl<|AK<|Af rfl<|BE rfl (by assumption)<|Af rfl<|BS rfl rfl<|Aq rfl rfl<|Ae rfl<|AZ rfl (by omega)<|Af rfl<|Ab rfl<|Af rfl<|BS rfl rfl<|Af rfl<|Ae rfl<|An rfl<|An rfl<|An rfl<|An rfl<|An rfl<|An rfl<|An rfl<|An rfl<|An rfl<|Af rfl<|Aq rfl rfl<|Aq rfl rfl<|Aa<|AR rfl<|Al<|AE<|AN rfl rfl (by omega) (by omega)<|Ab rfl<|Aa ?_)
     obtain⟨x',e1,rfl,e2⟩:=hnext (by rw [kOk,hkl];simp;omega)
     exact⟨_,e1,⟨rfl,rfl,rfl,int_eq (by omega),trivial⟩,rfl,rfl,e2⟩
    |succ j=>
     obtain⟨c1,hc1,hD1,⟨u1,rfl,hu1⟩⟩:=kx j (by omega)
     replace hD1:=hD1.one
     have hjl:ks.getD j []=ks[j]:=by simp [show j<ks.length by omega]
     have hc:=Rm ks[j] ks[j+1]
     cases hb:Op.bytesLess ks[j] ks[j+1] with
     |true=>
      have hb':Lib.compareBytes ks[j] ks[j+1]<0:=hc.2 hb
      (refine Ad<|AA rfl rfl<|Aa<|Ah<|Ay rfl (by omega)<|Al<|Ah<|Ax<|Ad<|Ab rfl ?_;apply BA;rfl;rfl;rfl;omega;assumption;refine Ag rfl (BF (by assumption))<|Ab rfl<|AK<|Aa<|Ad<|AK<|BE rfl (by assumption)<|AA rfl rfl<|Ae rfl<|AZ rfl (by omega)<|Af rfl<|AK<|Af rfl<|BE rfl (by assumption)<|Af rfl<|BS rfl rfl<|Aq rfl rfl<|Ae rfl<|AZ rfl (by omega)<|Af rfl<|Ab rfl<|Af rfl<|BS rfl rfl<|Af rfl<|Ae rfl<|Bd rfl (by omega)<|Af rfl<|Ai rfl<|Af rfl<|Ag rfl (Aj 0 rfl rfl)<|Af rfl<|Ab rfl<|Af rfl<|CY rfl rfl (by omega) (by omega)<|Af rfl ?_)
      refine BA j rfl rfl (by omega) (by omega) kA ?_
      (refine Af rfl<|Ag rfl (BF (by assumption))<|Af rfl<|AK<|Af rfl ?_)
      refine BR rfl (h1 hu1 hu0) ?_
      (refine Af rfl<|DL rfl rfl<|Af rfl<|AB rfl rfl<|Aq rfl rfl<|Aa<|Ar rfl (by omega)<|Al<|AE<|AN rfl rfl (by omega) (by omega)<|Ab rfl<|Aa ?_)
      obtain⟨x',e1,rfl,e2⟩:=hnext (by rw [kOk,hkl,Aet,hjl,hb];simp;omega)
      exact⟨_,e1,⟨rfl,rfl,rfl,int_eq (by omega),trivial⟩,rfl,rfl,e2⟩
     |false=>
      have hb':¬Lib.compareBytes ks[j] ks[j+1]<0:=fun h0=>by rw [hc.1 h0] at hb;cases hb
      have hf:kOk ks (j+1)=false:=by rw [kOk,hkl,Aet,hjl,hb];simp
      (refine Ad<|AA rfl rfl<|Aa<|Ah<|Ay rfl (by omega)<|Al<|Ah<|Ax<|Ad<|Ab rfl ?_;apply BA;rfl;rfl;rfl;omega;assumption;refine Ag rfl (BF (by assumption))<|Ab rfl<|AK<|Aa<|Ad<|AK<|BE rfl (by assumption)<|AA rfl rfl<|Ae rfl<|AZ rfl (by omega)<|Af rfl<|AK<|Af rfl<|BE rfl (by assumption)<|Af rfl<|BS rfl rfl<|Aq rfl rfl<|Ae rfl<|AZ rfl (by omega)<|Af rfl<|Ab rfl<|Af rfl<|BS rfl rfl<|Af rfl<|Ae rfl<|Bd rfl (by omega)<|Af rfl<|Ai rfl<|Af rfl<|Ag rfl (Aj 0 rfl rfl)<|Af rfl<|Ab rfl<|Af rfl<|CY rfl rfl (by omega) (by omega)<|Af rfl ?_)
      refine BA j rfl rfl (by omega) (by omega) kA ?_
      (refine Af rfl<|Ag rfl (BF (by assumption))<|Af rfl<|AK<|Af rfl ?_)
      refine BR rfl (h1 hu1 hu0) ?_
      (refine Af rfl<|DL rfl rfl<|Af rfl<|AB rfl rfl<|Aq rfl rfl<|Aa<|Ay rfl (by omega)<|Ad<|Ae rfl<|Aa<|Ao ?_)
      (apply En;rfl)
      simp [A6,HR hf h]
 ·have e:k=ks.length:=by omega
  subst e
  have ea:∀l:List (List UInt8),(!l.any fun v=> !Ht v)=l.all Ht:=fun l=>by simp [List.any_eq_not_all_not]
  have ei:∀l:List Int,(!l.any fun v=> !FV v)=l.all FV:=fun l=>by simp [List.any_eq_not_all_not]
  cases lf
  ·by_cases h1':vs.length=0
   ·by_cases h2':is.length=ks.length+1
    ·(refine Ad<|AA rfl rfl<|Aa<|Ah<|Ar rfl (by omega)<|Bh<|Ah<|Ad<|Ai rfl<|Ag rfl (Aj 0 rfl rfl)<|Aa<|AR rfl<|Al<|Ad<|Ai rfl<|Ag rfl (Aj 0 rfl rfl)<|BE rfl (by assumption)<|AJ rfl rfl<|Ae rfl<|Bd rfl (by omega)<|Af rfl<|Ai rfl<|Af rfl<|Ag rfl (Aj 0 rfl rfl)<|Af rfl<|BE rfl (by assumption)<|Af rfl<|Ai rfl<|Af rfl<|Ag rfl (Aj 0 rfl rfl)<|Af rfl<|AL rfl<|Af rfl<|AN rfl rfl (by omega) (by omega)<|Af rfl<|AJ rfl rfl<|AB rfl rfl<|Ae rfl<|Bd rfl (by omega)<|Af rfl<|Ai rfl<|Af rfl<|Ag rfl (Aj 0 rfl rfl)<|Af rfl ?_)
     refine BR rfl (h4 hiv' (fun u x hx=>V3 h5 hx)) ?_
     (refine Af rfl<|Bj rfl<|AB rfl rfl<|Ae rfl<|Aa<|Ao ?_)
     (apply En;rfl)
     rw [ei]
     simp [A6,hok,h1',h2']
    ·(refine Ad<|AA rfl rfl<|Aa<|Ah<|Ar rfl (by omega)<|Bh<|Ah<|Ad<|Ai rfl<|Ag rfl (Aj 0 rfl rfl)<|Aa<|AR rfl<|Al<|Ad<|Ai rfl<|Ag rfl (Aj 0 rfl rfl)<|BE rfl (by assumption)<|AJ rfl rfl<|Ae rfl<|Bd rfl (by omega)<|Af rfl<|Ai rfl<|Af rfl<|Ag rfl (Aj 0 rfl rfl)<|Af rfl<|BE rfl (by assumption)<|Af rfl<|Ai rfl<|Af rfl<|Ag rfl (Aj 0 rfl rfl)<|Af rfl<|AL rfl<|Af rfl<|AN rfl rfl (by omega) (by omega)<|Af rfl<|AJ rfl rfl<|AB rfl rfl<|Ae rfl<|AZ rfl (by omega)<|An rfl<|An rfl<|An rfl<|An rfl<|Aq rfl rfl<|Ae rfl<|Aa<|Ao ?_)
     (apply En;rfl)
     (first|(simp [A6,hok,h1',h2'];done)|(simp [A6,hok,h1',h2'];omega))
   ·(refine Ad<|AA rfl rfl<|Aa<|Ah<|Ar rfl (by omega)<|Bh<|Ah<|Ad<|Ai rfl<|Ag rfl (Aj 0 rfl rfl)<|Aa<|AR rfl<|Al<|Ad<|Ai rfl<|Ag rfl (Aj 0 rfl rfl)<|BE rfl (by assumption)<|AJ rfl rfl<|Ae rfl<|AZ rfl (by omega)<|An rfl<|An rfl<|An rfl<|An rfl<|An rfl<|An rfl<|An rfl<|An rfl<|Aq rfl rfl<|Ae rfl<|An rfl<|An rfl<|An rfl<|An rfl<|Aq rfl rfl<|Ae rfl<|Aa<|Ao ?_)
    (apply En;rfl)
    (first|(simp [A6,hok,h1'];done)|(simp [A6,hok,h1'];omega))
  ·by_cases h2':vs.length=ks.length
   ·by_cases h1':is.length=0
    ·(refine Ad<|AA rfl rfl<|Aa<|Ah<|Ar rfl (by omega)<|Bh<|Ah<|Ad<|Ai rfl<|Ag rfl (Aj 0 rfl rfl)<|Aa<|Be rfl<|Ad<|Ai rfl<|Ag rfl (Aj 0 rfl rfl)<|BE rfl (by assumption)<|Ai rfl<|Ag rfl (Aj 0 rfl rfl)<|AL rfl<|AJ rfl rfl<|Ae rfl<|Bd rfl (by omega)<|Af rfl<|Ai rfl<|Af rfl<|Ag rfl (Aj 0 rfl rfl)<|Af rfl<|BE rfl (by assumption)<|Af rfl<|AJ rfl rfl<|AB rfl rfl<|Ae rfl<|Bd rfl (by omega)<|Af rfl<|Ai rfl<|Af rfl<|Ag rfl (Aj 0 rfl rfl)<|Af rfl ?_)
     refine BR rfl (h2 hv' (fun u x hx=>V7 h3 hx)) ?_
     (refine Af rfl<|Bj rfl<|AB rfl rfl<|Ae rfl<|Aa<|Ao ?_)
     (apply En;rfl)
     rw [ea]
     simp [A6,hok,h1',h2']
    ·(refine Ad<|AA rfl rfl<|Aa<|Ah<|Ar rfl (by omega)<|Bh<|Ah<|Ad<|Ai rfl<|Ag rfl (Aj 0 rfl rfl)<|Aa<|Be rfl<|Ad<|Ai rfl<|Ag rfl (Aj 0 rfl rfl)<|BE rfl (by assumption)<|Ai rfl<|Ag rfl (Aj 0 rfl rfl)<|AL rfl<|AJ rfl rfl<|Ae rfl<|Bd rfl (by omega)<|Af rfl<|Ai rfl<|Af rfl<|Ag rfl (Aj 0 rfl rfl)<|Af rfl<|BE rfl (by assumption)<|Af rfl<|AJ rfl rfl<|AB rfl rfl<|Ae rfl<|AZ rfl (by omega)<|An rfl<|An rfl<|An rfl<|An rfl<|Aq rfl rfl<|Ae rfl<|Aa<|Ao ?_)
     (apply En;rfl)
     (first|(simp [A6,hok,h1',h2'];done)|(simp [A6,hok,h1',h2'];omega))
   ·(refine Ad<|AA rfl rfl<|Aa<|Ah<|Ar rfl (by omega)<|Bh<|Ah<|Ad<|Ai rfl<|Ag rfl (Aj 0 rfl rfl)<|Aa<|Be rfl<|Ad<|Ai rfl<|Ag rfl (Aj 0 rfl rfl)<|BE rfl (by assumption)<|Ai rfl<|Ag rfl (Aj 0 rfl rfl)<|AL rfl<|AJ rfl rfl<|Ae rfl<|AZ rfl (by omega)<|An rfl<|An rfl<|An rfl<|An rfl<|Aq rfl rfl<|Ae rfl<|An rfl<|An rfl<|An rfl<|An rfl<|Aq rfl rfl<|Ae rfl<|Aa<|Ao ?_)
    (apply En;rfl)
    (first|(simp [A6,hok,h2'];done)|(simp [A6,hok,h2'];omega))
def By(n:AF):Bool:=A6 n && decide (A5 n≤256)
def Jh(P:Program) (f:FuncId):Prop:=∀{d:Ac}{cs:List Value}{n:AF},Cx d cs n→A5 n≤1000000000000→CT P f [.agg cs.toArray] d (.bool (By n))
def Sq(a0 a1:Nat):AY:=⟨10,[(.tmp 2)],(sR (o1 1 (.box (tP 0))<|o1 2 (.mv (.const (.bool false))) .done) (sR (o1 3 (.ld (some 4) (tP 1))<|oc 4 a0 [(tP 3)]<|om 5 4<|oT 6 5 (.ld (some 4) (tP 1))<|oT 7 5 (.call a1 [(tP 6)])<|oT 8 5 (.bin .leq (tP 7) (kZ 256))<|gP 9 5 8<|om 2 9 .done) .ret))⟩
theorem M0{P:Program}{f f1 f2:FuncId} (hd:dec P f=some (Sq f1 f2)) (h1:LQ P f1) (h2:Kn P f2):Jh P f:=by
 intro d cs n hn hb
 refine AG hd (Aca rfl) ?_
 have hn':=hn
 obtain⟨kv,vv,iv,rfl,hk,hv,hiv⟩:∃kv vv iv,cs=[.bool n.leaf,kv,vv,iv]∧C8 d kv n.keys∧C8 d vv n.vals∧Dz d iv n.kids:=hn
 show gwp P _ _ _ _ _
 (refine Ad<|Cc rfl (fun _ _=>Ae rfl<|Aa<|Ad<|Bg 0 rfl rfl rfl ?_))
 refine BR rfl (h1 hn') ?_
 cases hs:A6 n with
 |false=>
  (refine Ae rfl<|An rfl<|An rfl<|An rfl<|Aq rfl rfl<|Ae rfl<|Aa<|Ao ?_)
  (apply En;rfl)
  simp [By,hs]
 |true=>
  (refine Ae rfl<|Af rfl<|Bg 0 rfl rfl rfl<|Af rfl ?_)
  refine BR rfl (h2 hn' hb) ?_
  (refine Af rfl<|NM rfl rfl<|AB rfl rfl<|Ae rfl<|Aa<|Ao ?_)
  (apply En;rfl)
  (rw [Agx];simp [By,hs];omega)
end Go.Gk.Node
end
