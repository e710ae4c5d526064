/-
  Our own texts, one behind the other: GkTrI GkTrJ GkTrO GkWI GkUB GkUC GkUD GkUE GkTZ GkUA GkUF GkWJ GkWK GkWL GkUJ GkTrArg.
-/
import Derived.Test.YtpkcbopokjffhaaGreatPoG
open Nat renaming le_of_ble_eq_true→Aca,le_refl→Ach,zero_le→Adf,mul_one→Aen,le_trans→Agk
open List.Sublist renaming refl→Acb
open Bool renaming and_eq_true→Acd,false_eq_true→Acj,or_eq_true→Adr,true_and→Afl
open List renaming getElem?_eq_getElem→Ace,getD_eq_getElem?_getD→Acf,append_assoc→Acg,perm_append_comm→Aci,mem_append→Ack,length_append→Acl,eq_nil_of_length_eq_zero→Acm,getElem?_eq_some_iff→Acp,all_eq_true→Acq,length_cons→Acs,mem_cons_self→Acu,mem_singleton→Acv,length_take→Acw,mem_cons_of_mem→Acy,getElem_mem→Ada,mem_cons→Adb,length_set→Adg,mem_append_left→Adh,drop_eq_getElem_cons→Adi,perm_middle→Adj,mem_append_right→Adk,sublist_append_right→Adm,length_replicate→Adn,getElem?_eq_none→Adq,append_nil→Ads,nil_append→Adt,take_of_length_le→Aec,nil_sublist→Aef,getElem?_take→Aek,length_nil→Ael,getElem?_map→Aep,mem_map_of_mem→Aff,map_append→Afk,getD→Afw,eraseIdx_sublist→Agc,mem_map→Agl,nodup_nil→Agq,append_cons→Ahg,map_drop→Ahl,map_take→Ahm
open List.Perm renaming cons→Acn,swap→Adc,refl→Adp,append_right→Afb,append_left→Aga
open Option renaming bind_some→Adz,isSome_none→Agr
section
namespace Go.Gk.Tre
open Go Go.Gk Go.Gk.Dev Go.Gk.Cch Go.Gk.Pgr Go.Gk.Chn Go.Gk.Node
attribute [local irreducible] gwp gws xwp
def O6(P:Program) (f:FuncId):Prop:=∀{d:Ac}{s:PD}{dv pv:Value}{L:List Ac}{bt:Nat}{Tt:TypeId}{r h c k:Int}{cs:List Value}{n:AF}{hk hv hi:Ac}{i:Nat},
 PgT d s dv pv L→DJ d cs n hk hv hi→Fit n 400→1≤n.keys.length→n.kids.length=n.keys.length+1→i≤n.keys.length→(∀x∈n.kids, -1≤x∧x≤16384)→ -1≤k→k≤16384→
 Aw P f [.pointer (some ⟨bt,0,none⟩),.int .i64 k,.agg cs.toArray,.int .i64 i] d (hk::hv::hi::tb bt Tt pv r h c::L) (Ret fun v d' L'=>Le d d'∧∃ua uc L2,v=.tuple #[mdV (Du s k n i).2.1 ua uc,.int .i64 (Du s k n i).2.2]∧
  AM d' (.slice ua (Du s k n i).2.1.key.length uc) (Du s k n i).2.1.key∧MOk (Du s k n i).2.1∧L'=tb bt Tt pv r h c::L2∧PgT d' (Du s k n i).1 dv pv L2)
theorem PZ{s:PD}{k:Int}:Fit (Bn s k).1 300:=by
 unfold Bn
 by_cases hl:Bl s k
 ·rw [if_pos hl]
  show Fit ((Node.BJ (s.bytes k)).getD JO) 300
  cases hr:Node.BJ (s.bytes k) with
  |none=>exact⟨by decide,by decide,by decide,fun x hx=>(by cases hx),fun x hx=>(by cases hx)⟩
  |some n=>
   obtain⟨⟨a,b,c,e,g⟩, -⟩:=KH (Oc hr).1
   exact⟨show n.keys.length≤300 by omega,show n.vals.length≤300 by omega,show n.kids.length≤300 by omega,e,g⟩
 ·rw [if_neg hl]
  exact⟨by decide,by decide,by decide,fun x hx=>(by cases hx),fun x hx=>(by cases hx)⟩
theorem XP{a b:AF}{key:List UInt8} (ha:Fit a 300) (hb:Fit b 300) (hk:key.length≤1000):Fit (Cj a b key) 601:=by
 obtain⟨a1,a2,a3,a4,a5⟩:=ha
 obtain⟨b1,b2,b3,b4,b5⟩:=hb
 unfold Cj
 split
 ·refine⟨by simp;omega,by simp;omega,by simp,fun x hx=>?_,fun x hx=>?_⟩
  ·rcases Ack.1 hx with hx|hx
   ·exact a4 x hx
   ·exact b4 x hx
  ·rcases Ack.1 hx with hx|hx
   ·exact a5 x hx
   ·exact b5 x hx
 ·refine⟨by simp;omega,by simp,by simp;omega,fun x hx=>?_,fun x hx=>by cases hx⟩
  rcases Ack.1 hx with hx|hx
  ·rcases Ack.1 hx with hx|hx
   ·exact a4 x hx
   ·rw [Acv.1 hx];exact hk
  ·exact b4 x hx
def ND(a0 a1 a2 a3 a4 a5:Nat):AY:=⟨137,[(.cell 8 (some 4)),(.tmp 9)],(sR (o1 6 (.box (tP 2))<|o1 8 (.alo (.agg #[(.int .i64 0),(.int .i64 0),(.slice none 0 0),(.int .i64 0)]))<|o1 9 (.mv (kZ 0)) .done) (.seq (sR (om 15 3<|oj 16 1 6<|ol 17 16<|oL 18 17<|ob 19 .eql (tP 15) (tP 18) .done) (.cond (tP 19) (rG (om 20 3<|ob 21 .sub (tP 20) (kZ 1)<|om 3 21 .done)) .skip)) (sR (om 23 0<|oj 24 3 6<|ol 25 24<|om 26 3<|oI 27 1 25 26<|ol 28 27<|oc 29 a0 [(tP 23),(tP 28)]<|om 22 29<|oe 30 22 0<|oe 31 22 1<|o1 10 (.alo (.agg #[(.bool false),(.slice none 0 0),(.slice none 0 0),(.slice none 0 0)]))<|o0 (.st 4 (tP 10) (tP 30))<|om 11 31 .done) (.seq (sR (om 32 11<|ob 33 .neq (tP 32) (kZ 0) .done) (.cond (tP 33) (sR (o1 34 (.bld [(0,1),(1,1),(2,1),(3,1)] [(.int .i64 0),(.int .i64 0),(.slice none 0 0),(.int .i64 0)] [])<|om 35 11<|o0 (.st 4 (tP 8) (tP 34))<|om 9 35 .done) .ret) .skip)) (sR (om 37 0<|oj 38 3 6<|ol 39 38<|om 40 3<|ob 41 .add (tP 40) (kZ 1)<|oI 42 1 39 41<|ol 43 42<|oc 44 a0 [(tP 37),(tP 43)]<|om 36 44<|oe 45 36 0<|oe 46 36 1<|o1 12 (.alo (.agg #[(.bool false),(.slice none 0 0),(.slice none 0 0),(.slice none 0 0)]))<|o0 (.st 4 (tP 12) (tP 45))<|om 11 46 .done) (.seq (sR (om 47 11<|ob 48 .neq (tP 47) (kZ 0) .done) (.cond (tP 48) (sR (o1 49 (.bld [(0,1),(1,1),(2,1),(3,1)] [(.int .i64 0),(.int .i64 0),(.slice none 0 0),(.int .i64 0)] [])<|om 50 11<|o0 (.st 4 (tP 8) (tP 49))<|om 9 50 .done) .ret) .skip)) (.seq (sR (oj 51 0 10<|ol 52 51<|oj 53 0 12<|ol 54 53<|o1 55 (.eqb true (tP 52) (tP 54)) .done) (.cond (tP 55) (sR (o1 56 (.bld [(0,1),(1,1),(2,1),(3,1)] [(.int .i64 0),(.int .i64 0),(.slice none 0 0),(.int .i64 0)] [])<|o0 (.st 4 (tP 8) (tP 56))<|o1 9 (.mv (kZ 200)) .done) .ret) .skip)) (.seq (.reg true (pm 58 0<|p1 59 (.fld 3 (tP 6))<|pl 60 59<|pm 61 3<|p1 62 (.idx 1 (tP 60) (tP 61))<|pl 63 62<|p1 64 (.ld (some 4) (tP 10))<|p1 65 (.ld (some 4) (tP 12))<|p1 66 (.fld 1 (tP 6))<|pl 67 66<|pm 68 3<|p1 69 (.idx 1 (tP 67) (tP 68))<|pl 70 69 (.par (o1 13 (.alo (.agg #[(.int .i64 0),(.int .i64 0),(.slice none 0 0),(.int .i64 0)])) .done) (oc 71 a1 [(tP 64),(tP 65),(tP 70)] (oc 72 a2 [(tP 58),(tP 63),(tP 71)] (pm 57 72 (p1 73 (.ext (tP 57) 0) (p1 74 (.ext (tP 57) 1) .done))))) (o0 (.st 4 (tP 13) (tP 73)) (pm 11 74 .done))))) (.seq (sR (om 75 11<|ob 76 .neq (tP 75) (kZ 0) .done) (.cond (tP 76) (sR (o1 77 (.bld [(0,1),(1,1),(2,1),(3,1)] [(.int .i64 0),(.int .i64 0),(.slice none 0 0),(.int .i64 0)] [])<|om 78 11<|o0 (.st 4 (tP 8) (tP 77))<|om 9 78 .done) .ret) .skip)) (.seq (.seq (.reg true (pm 79 0<|p1 80 (.nilc (tP 79))<|p1 81 (.fld 0 (tP 80))<|pl 82 81<|p1 83 (.fld 3 (tP 6))<|pl 84 83<|pm 85 3<|p1 86 (.bin .add (tP 85) (kZ 1))<|p1 87 (.idx 1 (tP 84) (tP 86))<|pl 88 87<|oc 89 a3 [(tP 82),(tP 88)] (.bar (pm 14 89 .done)))) (sR (om 90 14<|ob 91 .neq (tP 90) (kZ 0) .done) (.cond (tP 91) (sR (o1 92 (.bld [(0,1),(1,1),(2,1),(3,1)] [(.int .i64 0),(.int .i64 0),(.slice none 0 0),(.int .i64 0)] [])<|om 93 14<|o0 (.st 4 (tP 8) (tP 92))<|om 9 93 .done) .ret) .skip))) (sR (oj 94 3 6<|ol 95 94<|om 96 3<|oj 97 0 13<|ol 98 97<|oI 99 1 95 96<|o0 (.st 1 (tP 99) (tP 98)) .done) (.seq (sR (oj 100 1 13<|ol 101 100<|ob 102 .geq (tP 101) (kZ 0) .done) (.cond (tP 102) (.reg true (p1 103 (.fld 1 (tP 6))<|pl 104 103<|pm 105 3<|p1 106 (.fld 3 (tP 6))<|pl 107 106<|pm 108 3<|p1 109 (.bin .add (tP 108) (kZ 1))<|p1 110 (.fld 2 (tP 13))<|pl 111 110<|p1 112 (.fld 1 (tP 13))<|pl 113 112<|p1 114 (.idx 1 (tP 104) (tP 105))<|o0 (.st 1 (tP 114) (tP 111))<|p1 115 (.idx 1 (tP 107) (tP 109))<|o0 (.st 1 (tP 115) (tP 113)) .done)) (.reg true (p1 116 (.fld 1 (tP 6))<|pl 117 116<|pm 118 3<|pm 119 3<|p1 120 (.bin .add (tP 119) (kZ 1))<|p1 122 (.fld 3 (tP 6))<|pl 123 122<|pm 124 3<|p1 125 (.bin .add (tP 124) (kZ 1))<|pm 126 3<|p1 127 (.bin .add (tP 126) (kZ 2))<|oc 121 a4 [(tP 117),(tP 118),(tP 120)]<|p1 129 (.fld 1 (tP 6))<|oc 128 a5 [(tP 123),(tP 125),(tP 127)] (.bar (o0 (.st 1 (tP 129) (tP 121)) (p1 130 (.fld 3 (tP 6)) (o0 (.st 1 (tP 130) (tP 128)) .done)))))))) (sR (om 131 0<|om 132 1<|o1 133 (.ld (some 4) (tP 6))<|oc 134 a2 [(tP 131),(tP 132),(tP 133)]<|oe 135 134 0<|oe 136 134 1<|o0 (.st 4 (tP 8) (tP 135))<|om 9 136 .done) .ret)))))))))))))⟩
set_option maxRecDepth 4000 in
set_option maxHeartbeats 8000000 in
theorem Xy{P:Program}{f f1 f2 f3 f4 f5 f6:FuncId} (hd:Jn P f=some (ND f1 f2 f3 f4 f5 f6)) (h1:Jl P f1) (h2:RZ P f2) (h3:HA P f3) (h4:Pgr.Gt P f4) (h5:JM RBs P f5) (h6:JM Bi P f6):O6 P f:=by
 intro d s dv pv L bt Tt r h c k cs n hk hv hi i0 hp hn hfit hk1 hkk hi0 hkb hpg0 hpg1
 obtain⟨bp,rfl⟩:=hp.ptr
 have hfk:=hfit.k
 obtain⟨kv,vv,iv,rfl,r1,r2,r3⟩:=hn
 obtain⟨ya,yc,rfl⟩:=r2.val
 obtain⟨bk,Tk,lk,ck,rfl,rfl,hlk,hallk,hsetk⟩:=As.all (R:=RBs) EW r1 (by omega)
 obtain⟨bi,Ti,li,ci,rfl,rfl,hli,halli,hseti⟩:=As.all (R:=Bi) Cb r3 (by omega)
 refine AG hd (Aca rfl) ?_
 show gwp P _ _ _ _ _
 apply Ah;apply AE
 refine Cc rfl (fun b6 T6=>?_)
 refine BV (fun b8 T8=>?_)
 apply Ab;rfl;apply Aa
 obtain⟨i,hii⟩:∃i,i=if i0=n.keys.length then i0 - 1 else i0:=⟨_,rfl⟩
 have hil:i<n.keys.length:=by rw [hii];split<;>omega
 refine FX (fun ρ d' L'=>BD ρ [(0,.pointer (some ⟨bt,0,none⟩)),(1,.int .i64 k),(3,.int .i64 i),(6,.pointer (some ⟨b6,0,none⟩)),(8,.pointer (some ⟨b8,0,none⟩)),(9,.int .i64 0)]∧d=d'∧
  L'=bx b8 T8 [.int .i64 0,.int .i64 0,.slice none 0 0,.int .i64 0]::bx b6 T6 [.bool n.leaf,.slice (some ⟨bk,0,none⟩) n.keys.length ck,.slice ya n.vals.length yc,.slice (some ⟨bi,0,none⟩) n.kids.length ci]::bx bk Tk lk::hv::bx bi Ti li::tb bt Tt (.pointer (some ⟨bp,0,none⟩)) r h c::L) ?_ ?_
 ·by_cases e:i0=n.keys.length
  ·rw [if_pos e] at hii
   (refine Ad<|Ab rfl<|Ai rfl<|Ag rfl (Aj 1 rfl rfl)<|AL rfl<|AJ rfl rfl<|Aa<|Ay rfl (by omega)<|AE<|Ab rfl<|CY rfl rfl (by omega) (by omega)<|Ab rfl<|Aa ?_)
   exact⟨⟨rfl,rfl,congrArg (Value.int .i64) (by omega),rfl,rfl,rfl,trivial⟩,rfl,rfl⟩
  ·rw [if_neg e] at hii
   subst hii
   (refine Ad<|Ab rfl<|Ai rfl<|Ag rfl (Aj 1 rfl rfl)<|AL rfl<|AJ rfl rfl<|Aa<|Ar rfl (by omega)<|Al ?_)
   exact⟨⟨rfl,rfl,rfl,rfl,rfl,rfl,trivial⟩,rfl,rfl⟩
 rintro ρ d' L' ⟨hsl,hdd,hLL⟩
 subst hdd;subst hLL
 refine Dl _ hsl ?_
 have hg0:n.kids.getD i 0=n.kids[i]:=by rw [Acf,Ace (by omega)];rfl
 have hg1:n.kids.getD (i+1) 0=n.kids[i+1]:=by rw [Acf,Ace (by omega)];rfl
 have hgk:n.keys.getD i []=n.keys[i]:=by rw [Acf,Ace hil];rfl
 have hM:=QV (s:=s) (k:=k) (show n.keys.length≠0 by omega) hii rfl rfl
 rw [hg0,hg1,hgk] at hM
 have hb0:=hkb _ (Ada (show i<n.kids.length by omega))
 obtain⟨u0,c0,hq0,hq1,hq2⟩:=halli i (by omega)
 cases hq0
 obtain⟨u1,c1,hq3,hq4,hq5⟩:=halli (i+1) (by omega)
 cases hq3
 obtain⟨uk,c2,uk',hq6,hkey⟩:=hallk i hil
 cases hq6
 obtain⟨tc0,hpx⟩:=hp
 (refine Ad<|Ak rfl<|Ai rfl<|Ag rfl (Aj 1 rfl rfl)<|Ab rfl<|Bx _ rfl rfl rfl (by omega)<|Ag rfl (Aj 4 rfl (by assumption)) ?_)
 refine A3 [_,_,_,_,_] (h1 (k:=n.kids[i]) hpx) rfl rfl (fun v d2 L2 hl2 ⟨_,ca,ha1,ha2,ha3,L3,tc1,e1,e2,hna,hp2,htc⟩=>?_)
 subst e1;subst e2
 rw [show Bn {s with tc:=tc0} n.kids[i]=Bn s n.kids[i] from rfl] at hna⊢
 have hp2:Pg d2 {s with tc:=tc1} dv (.pointer (some ⟨bp,0,none⟩)) L3:=hp2
 obtain⟨d3,hl3,v3,na⟩:=F4 hna
 have hfa:Fit (Bn s n.kids[i]).1 300:=PZ
 refine B9 _ _ (Vs.out [_,_,_,_,_] _ (Adp _) v3) ?_
 generalize Bn s n.kids[i]=A at hM na hfa
 obtain⟨an,ae⟩:=A
 simp only at na hfa hM⊢
 obtain⟨aka,akc,ava,avc,aia,aic,rfl⟩:=Cx.four na
 (refine AU rfl<|Ap rfl rfl<|Ap rfl rfl<|BV (fun _ _=>?_))
 rename_i b10 T10
 refine Bq 0 rfl rfl rfl rfl (Ach _) rfl ?_
 by_cases hae:ae=0
 ·rw [if_neg (fun q=>q hae)] at hM
  subst hae
  (refine Ab rfl<|Aa<|Ah<|Ad<|Ab rfl<|AO rfl rfl<|Aa<|Ar rfl (by omega)<|Al<|Ad<|Ak rfl<|Ai rfl<|Ag rfl (Aj 2 rfl rfl)<|Ab rfl<|AN rfl rfl (by omega) (by omega) ?_)
  refine Bx (i+1) rfl rfl (show((i:Int)+1)=((i+1:Nat):Int) by omega) (by omega) ?_
  (apply Ag;rfl;exact Aj 5 rfl (by assumption))
  refine A3 [_,_,_,_,_,_] (h1 (k:=n.kids[i+1]) (hp2.mono hl3)) rfl rfl (fun v d4 L4 hl4 ⟨_,cb,hb1,hb2,hb3,L5,tc2,e3,e4,hnb,hp4,htc4⟩=>?_)
  subst e3;subst e4
  rw [show Bn {s with tc:=tc1} n.kids[i+1]=Bn s n.kids[i+1] from rfl] at hnb⊢
  have hp4:PgT d4 s dv (.pointer (some ⟨bp,0,none⟩)) L5:=⟨tc2,hp4⟩
  obtain⟨d5,hl5,v5,nb⟩:=F4 hnb
  have hfb:Fit (Bn s n.kids[i+1]).1 300:=PZ
  refine B9 _ _ (Vs.out [_,_,_,_,_,_] _ (Adp _) v5) ?_
  generalize Bn s n.kids[i+1]=B at hM nb hfb
  obtain⟨bn,be⟩:=B
  simp only at nb hfb hM⊢
  obtain⟨bka,bkc,bva,bvc,bia,bic,rfl⟩:=Cx.four nb
  (refine AU rfl<|Ap rfl rfl<|Ap rfl rfl<|BV (fun _ _=>?_))
  rename_i b12 T12
  refine Bq 0 rfl rfl rfl rfl (Ach _) rfl ?_
  by_cases hbe:be=0
  ·rw [if_neg (fun q=>q hbe)] at hM
   subst hbe
   have hle5:=((hl2.trans hl3).trans hl4).trans hl5
   have na5:=na.mono (hl4.trans hl5)
   have hkey5:=RSl.mono (R:=AP) AX hkey hle5
   (refine Ab rfl<|Aa<|Ah<|Ad<|Ab rfl<|AO rfl rfl<|Aa<|Ar rfl (by omega)<|Al<|Ah<|Ad<|Ai rfl<|Ag rfl (Aj 1 rfl rfl)<|Ai rfl<|Ag rfl (Aj 0 rfl rfl)<|Im rfl rfl<|Aa ?_)
   by_cases hlf:an.leaf=bn.leaf
   ·rw [if_neg (fun q=>q hlf)] at hM
    refine AR (congrArg Value.bool (show(true ^^(an.leaf==bn.leaf))=false by rw [hlf];simp)) ?_
    apply Al
    apply Ah
    refine Br [_,_,_,_,_,_,_] (tb bt Tt (.pointer (some ⟨bp,0,none⟩)) r h c::L5) rfl ?_
    (refine Ak rfl<|Ai rfl<|Ag rfl (Aj 3 rfl rfl)<|Ab rfl<|Bx _ rfl rfl rfl (by omega)<|Ag rfl (Aj 6 rfl (by assumption))<|Bg 1 rfl rfl rfl<|Bg 0 rfl rfl rfl<|Ai rfl<|Ag rfl (Aj 3 rfl rfl)<|Ab rfl<|Bx _ rfl rfl rfl (by omega)<|Ag rfl (Aj 4 rfl (by assumption)) ?_)
    obtain⟨xa,xc,rfl⟩:=hkey.val
    have hkl:=hfit.kl _ (Ada hil)
    have hjf:=XP (key:=n.keys[i]) hfa hfb hkl
    refine Gz (α:=Nat×TypeId) (β:=Option Addr×Nat×List Ac) [(0,.pointer (some ⟨bt,0,none⟩)),(1,.int .i64 k),(3,.int .i64 i),(6,.pointer (some ⟨b6,0,none⟩)),(8,.pointer (some ⟨b8,0,none⟩))]
     (fun x=>[(13,.pointer (some ⟨x.1,0,none⟩))]) (fun x d L=>L=[bx x.1 x.2 [.int .i64 0,.int .i64 0,.slice none 0 0,.int .i64 0]])
     (fun y=>[(73,mdV (Bc s n.kids[i] (Cj an bn n.keys[i])).2.1 y.1 y.2.1),(74,.int .i64 (Bc s n.kids[i] (Cj an bn n.keys[i])).2.2)])
     (fun y d' M=>AM d' (.slice y.1 (Bc s n.kids[i] (Cj an bn n.keys[i])).2.1.key.length y.2.1) (Bc s n.kids[i] (Cj an bn n.keys[i])).2.1.key∧PgT d' (Bc s n.kids[i] (Cj an bn n.keys[i])).1 dv (.pointer (some ⟨bp,0,none⟩)) y.2.2∧M=tb bt Tt (.pointer (some ⟨bp,0,none⟩)) r h c::y.2.2) [] _ rfl
     (fun x d d' M hl h=>h) (fun y d d' M hl h=>⟨RSl.mono (R:=AP) AX h.1 hl,h.2.1.mono hl,h.2.2⟩) (fun x=>rfl) (fun y=>rfl) rfl ⟨rfl,rfl,rfl,rfl,rfl,trivial⟩ ?_ ?_ ?_
    ·refine BV (fun b13 T13=>?_)
     (apply A8)
     exact⟨_,rfl,(b13,T13),⟨rfl,trivial⟩,rfl⟩
    ·have hA:=hfa.k
     have hA2:=hfa.v
     have hA3:=hfa.i
     have hB:=hfb.k
     have hB2:=hfb.v
     have hB3:=hfb.i
     refine Bk rfl (h2 na5 nb hkey5 (by omega) (by omega) (by omega)) (fun v d6 L6 hl6 ⟨e5,cj,e6,nj⟩=>?_)
     subst e5;subst e6
     refine A3 [] (h3 (k:=n.kids[i]) ((hp4.mono hl5).mono hl6) nj (hjf.small (by omega))) rfl rfl (fun v d7 L7 hl7 ⟨_,ua,uc,L8,e7,hk7,e8,hp8⟩=>?_)
     subst e7;subst e8
     (refine AU rfl<|Ap rfl rfl<|Ap rfl rfl<|A8 ?_)
     exact⟨_,rfl,(ua,uc,L8),⟨rfl,rfl,trivial⟩,hk7,hp8,rfl⟩
    rintro⟨b13,T13⟩ ⟨ua,uc,L8⟩ ρ2 d6 M1 M2 hl6 hM1 ⟨hk6,hp6,hM2⟩
    subst hM1;subst hM2
    simp only at hk6 hp6⊢
    have hmw:=GG hp4.E0 (k:=n.kids[i]) (n:=Cj an bn n.keys[i]) hb0.1 hb0.2 hjf.kl
    generalize Bc s n.kids[i] (Cj an bn n.keys[i])=W at hM hk6 hp6 hmw
    have hm1:=hmw.p0
    have hm2:=hmw.p1
    have hm3:=hmw.o0
    have hm4:=hmw.o1
    have hm5:=hmw.k
    refine Bq 0 rfl rfl rfl rfl (Ach _) rfl ?_
    by_cases hwe:W.2.2=0
    ·rw [if_neg (fun q=>q hwe)] at hM
     (refine Ab rfl<|A8<|Ah<|Ad<|Ab rfl<|AO rfl rfl<|Aa<|Ar rfl (by omega)<|Al<|Ah<|Ah ?_)
     refine Br [_,_,_,_,_,_,_,_,_] L8 rfl ?_
     (refine Ak rfl<|Av rfl<|Ai rfl<|Ag rfl (Aj 8 rfl rfl)<|Ai rfl<|Ag rfl (Aj 3 rfl rfl)<|Ab rfl<|AN rfl rfl (by omega) (by omega) ?_)
     refine Bx (i+1) rfl rfl (show((i:Int)+1)=((i+1:Nat):Int) by omega) (by omega) ?_
     (apply Ag;rfl;exact Aj 6 rfl (by assumption))
     refine CP (Vg h4 hp6 (k:=n.kids[i+1])) rfl (fun v d7 L9 hl7 ⟨e9,hp9⟩=>?_)
     subst e9
     by_cases hde:(W.1.drop n.kids[i+1]).2=0
     ·rw [if_neg (fun q=>q hde)] at hM
      rw [hde]
      rw [hM]
      have hk9:=RSl.mono (R:=AP) AX hk6 hl7
      have hG:=hp9.E0
      have hle7:=(hle5.trans hl6).trans hl7
      have hrow1:=hseti d7 i (.int .i64 W.2.1.page) W.2.1.page hle7 (by omega) ⟨rfl,by omega,by omega⟩
      (refine B4<|Ab rfl<|Aa<|Ad<|Ab rfl<|AO rfl rfl<|Aa<|Ar rfl (by omega)<|Al<|Ad<|Ai rfl<|Ag rfl (Aj 3 rfl rfl)<|Ab rfl<|Ai rfl<|Ag rfl (Aj 7 rfl rfl)<|Bx _ rfl rfl rfl (by omega) ?_)
      refine A0 6 (patch li (i*1) [.int .i64 W.2.1.page]) rfl rfl rfl rfl (by omega) rfl rfl ?_
      apply Aa
      generalize hT:(if 0≤W.2.1.other then Bc (W.1.drop n.kids[i+1]).1 k {n with keys:=n.keys.set i W.2.1.key,kids:=(n.kids.set i W.2.1.page).set (i+1) W.2.1.other} else Bc (W.1.drop n.kids[i+1]).1 k {n with keys:=n.keys.eraseIdx i,kids:=(n.kids.set i W.2.1.page).eraseIdx (i+1)})=T
      refine FX (fun ρ d' L'=>d7=d'∧∃cs' n' hk' hv' hi' x12 x10 x13 Lr,BD ρ [(0,.pointer (some ⟨bt,0,none⟩)),(1,.int .i64 k),(6,.pointer (some ⟨b6,0,none⟩)),(8,.pointer (some ⟨b8,0,none⟩))]∧DJ d' cs' n' hk' hv' hi'∧Fit n' 600∧Bc (W.1.drop n.kids[i+1]).1 k n'=T∧Lr.Perm [hk',hv',hi']∧
       L'=x12::x10::bx b8 T8 [.int .i64 0,.int .i64 0,.slice none 0 0,.int .i64 0]::bx b6 T6 cs'::x13::(Lr++tb bt Tt (.pointer (some ⟨bp,0,none⟩)) r h c::L9)) ?_ ?_
      ·by_cases ho:0≤W.2.1.other
       ·rw [if_pos ho] at hT
        (refine Ad<|Ai rfl<|Ag rfl (Aj 7 rfl rfl)<|DL rfl rfl<|Aa<|Ay rfl (by omega) ?_)
        refine RL [_,_,_,_,_] (bx bk Tk lk::hv::bx bi Ti (patch li (i*1) [.int .i64 W.2.1.page])::tb bt Tt (.pointer (some ⟨bp,0,none⟩)) r h c::L9) (Aga [_,_,_,_] (Adj (l₁:=[_,_,_]))) ?_
        (refine Ai rfl<|Ag rfl (Aj 3 rfl rfl)<|Ab rfl<|Ai rfl<|Ag rfl (Aj 3 rfl rfl)<|Ab rfl<|AN rfl rfl (by omega) (by omega)<|Ai rfl<|Ag rfl (Aj 4 rfl rfl)<|Ai rfl<|Ag rfl (Aj 4 rfl rfl)<|Bx _ rfl rfl rfl (by omega) ?_)
        have hrowk:=hsetk d7 i (.slice ua W.2.1.key.length uc) W.2.1.key hle7 hil ⟨_,rfl,hk9⟩
        refine A0 0 (patch lk (i*1) [.slice ua W.2.1.key.length uc]) rfl rfl rfl rfl (by omega) rfl rfl ?_
        skip
        refine Bx (i+1) rfl rfl (show((i:Int)+1)=((i+1:Nat):Int) by omega) (by omega) ?_
        obtain⟨b',T',l',c',q1,q2,q3, -,hs2⟩:=As.all (R:=Bi) Cb hrow1 (by rw [Adg];omega)
        rw [Adg] at q1
        cases q1
        obtain⟨rfl,hq⟩:=Rz q2
        rw [Adg] at q3
        have hrow2:=hs2 d7 (i+1) (.int .i64 W.2.1.other) W.2.1.other (Le.refl _) (by rw [Adg];omega) ⟨rfl,by omega,by omega⟩
        rw [←hq] at hrow2 q3
        refine A0 2 (patch (patch li (i*1) [.int .i64 W.2.1.page]) ((i+1)*1) [.int .i64 W.2.1.other]) rfl rfl rfl rfl (by omega) rfl rfl ?_
        (apply A8)
        refine⟨rfl,_,{n with keys:=n.keys.set i W.2.1.key,kids:=(n.kids.set i W.2.1.page).set (i+1) W.2.1.other},_,hv,_,_,_,_,[_,_,_],⟨rfl,rfl,rfl,rfl,trivial⟩,⟨_,_,_,rfl,hrowk,r2.D7 hle7,hrow2⟩,⟨?_,?_,?_,fun y hy=>?_,hfit.vl⟩,hT,Adp _,rfl⟩
        ·show(n.keys.set i W.2.1.key).length≤600;rw [Adg];omega
        ·have:=hfit.v;show n.vals.length≤600;omega
        ·show((n.kids.set i W.2.1.page).set (i+1) W.2.1.other).length≤600;rw [Adg,Adg];omega
        ·rcases OZ hy with rfl|hy
         ·exact hm5
         ·exact hfit.kl y hy
       ·rw [if_neg ho] at hT
        (refine Ad<|Ai rfl<|Ag rfl (Aj 7 rfl rfl)<|DL rfl rfl<|Aa<|Ar rfl (by omega) ?_)
        refine RL [_,_,_,_,_] (bx bk Tk lk::hv::bx bi Ti (patch li (i*1) [.int .i64 W.2.1.page])::tb bt Tt (.pointer (some ⟨bp,0,none⟩)) r h c::L9) (Aga [_,_,_,_] (Adj (l₁:=[_,_,_]))) ?_
        (refine Ai rfl<|Ag rfl (Aj 3 rfl rfl)<|Ab rfl<|Ab rfl<|AN rfl rfl (by omega) (by omega)<|Ai rfl<|Ag rfl (Aj 3 rfl rfl)<|Ab rfl<|AN rfl rfl (by omega) (by omega)<|Ab rfl<|AN rfl rfl (by omega) (by omega) ?_)
        refine DD (A:=[_]) rfl rfl (h5 (r1.D7 hle7) hil rfl (by omega) Fx) (fun v da La hla ⟨ea,h121,eb,hg121⟩=>?_)
        subst ea;subst eb
        obtain⟨xa',xc',rfl⟩:=hg121.val
        (apply Ai;rfl)
        refine CU (A:=[bx bi Ti (patch li (i*1) [.int .i64 W.2.1.page])]) (h6 (i:=i+1) (j:=((i:Int)+2)) (hrow1) (by rw [Adg];omega) (by omega) (by rw [Adg];omega) Di) (Adj (l₁:=[_,_])) rfl (fun v db Lb hlb ⟨ec,h128,ed,hg128⟩=>?_)
        subst ec;subst ed
        obtain⟨za,zc,rfl⟩:=hg128.val
        refine⟨_,_,Vs.refl _ _,?_⟩
        apply B4
        refine A0 3 [.bool n.leaf,.slice xa' (n.keys.eraseIdx i).length xc',.slice ya n.vals.length yc,.slice (some ⟨bi,0,none⟩) n.kids.length ci] rfl rfl rfl rfl (Aca rfl) rfl rfl ?_
        (apply Ai;rfl)
        refine A0 3 [.bool n.leaf,.slice xa' (n.keys.eraseIdx i).length xc',.slice ya n.vals.length yc,.slice za ((n.kids.set i W.2.1.page).eraseIdx (i+1)).length zc] rfl rfl rfl rfl (Aca rfl) rfl rfl ?_
        (apply Aa)
        refine⟨rfl,_,{n with keys:=n.keys.eraseIdx i,kids:=(n.kids.set i W.2.1.page).eraseIdx (i+1)},h121,hv,h128,_,_,_,[_,_,_],⟨rfl,rfl,rfl,rfl,trivial⟩,⟨_,_,_,rfl,hg121,r2.D7 hle7,hg128⟩,⟨?_,?_,?_,fun y hy=>?_,hfit.vl⟩,hT,Aci (l₁:=[_]) (l₂:=[_,_]),rfl⟩
        ·show(n.keys.eraseIdx i).length≤600;have:=(Agc n.keys i).length_le;omega
        ·have:=hfit.v;show n.vals.length≤600;omega
        ·show((n.kids.set i W.2.1.page).eraseIdx (i+1)).length≤600;have:=(Agc (n.kids.set i W.2.1.page) (i+1)).length_le;rw [Adg] at this;omega
        ·exact hfit.kl y (KU hy)
      ·rintro ρ3 d' L' ⟨hdd,cs',n',hk',hv',hi',x12,x10,x13,Lr,hsl,hn',hfit',hT',hpm,hLL⟩
       subst hdd;subst hLL;subst hT'
       obtain⟨ka',kc',va',vc',ia',ic',rfl⟩:=hn'.cells
       refine Dl _ hsl ?_
       obtain⟨d8,hl8,v8,hn8⟩:=F4 hn'
       have hmo:=GG hG (n:=n') hpg0 hpg1 hfit'.kl
       (refine Ad<|Ak rfl<|Ab rfl<|Bg 3 rfl rfl rfl ?_)
       refine B9 _ _ (Vs.out [_,_,_,_,_] _ hpm v8) ?_
       refine A3 [_,_,_,_,_] (h3 (k:=k) (hp9.mono hl8) hn8 (hfit'.small (by omega))) rfl rfl (fun v d9 La hl9 ⟨_,wa,wc,Lb,ea,hka,eb,hpb⟩=>?_)
       subst ea;subst eb
       (refine Ap rfl rfl<|Ap rfl rfl ?_)
       refine Bq 2 rfl rfl rfl rfl (Ach _) rfl ?_
       (refine Ab rfl<|Aa<|Ao ?_)
       exact A7 [mdV (Bc (W.1.drop n.kids[i+1]).1 k n').2.1 wa wc,.int .i64 (Bc (W.1.drop n.kids[i+1]).1 k n').2.2] ⟨AT 2 rfl rfl rfl,Au rfl,trivial⟩ (d':=d9) (L':=tb bt Tt (.pointer (some ⟨bp,0,none⟩)) r h c::Lb) (Vs.drop (.cons _ (.cons _ (.cons _ (.cons _ (.cons _ (Acb _))))))) ⟨(((hle5.trans hl6).trans hl7).trans hl8).trans hl9,wa,wc,Lb,rfl,hka,hmo,rfl,hpb⟩
     ·rw [if_pos hde] at hM
      rw [hM]
      (refine B4<|Ab rfl<|Aa<|Ad<|Ab rfl<|AO rfl rfl<|Aa<|Ay rfl (by omega)<|Ad<|BI rfl<|Ab rfl ?_)
      refine Bq 2 rfl rfl rfl rfl (Ach _) rfl ?_
      (refine Ab rfl<|Aa<|Ao ?_)
      exact A7 [mdV Ci none 0,.int .i64 (W.1.drop n.kids[i+1]).2] ⟨AT 2 rfl rfl rfl,Au rfl,trivial⟩ (d':=d7) (L':=tb bt Tt (.pointer (some ⟨bp,0,none⟩)) r h c::L9) (Vs.drop (.cons _ (.cons _ (.cons _ (.cons _ (.cons _ (.cons _ (.cons _ (.cons _ (Acb _)))))))))) ⟨(hle5.trans hl6).trans hl7,none,0,L9,rfl,RSl.nil,D3,rfl,hp9⟩
    ·rw [if_pos hwe] at hM
     rw [hM]
     (refine Ab rfl<|A8<|Ah<|Ad<|Ab rfl<|AO rfl rfl<|Aa<|Ay rfl (by omega)<|Ad<|BI rfl<|Ab rfl ?_)
     refine Bq 2 rfl rfl rfl rfl (Ach _) rfl ?_
     (refine Ab rfl<|Aa<|Ao ?_)
     exact A7 [mdV Ci none 0,.int .i64 W.2.2] ⟨AT 2 rfl rfl rfl,Au rfl,trivial⟩ (d':=d6) (L':=tb bt Tt (.pointer (some ⟨bp,0,none⟩)) r h c::L8) (Vs.drop (.cons _ (.cons _ (.cons _ (.cons _ (.cons _ (.cons _ (.cons _ (.cons _ (Acb _)))))))))) ⟨hle5.trans hl6,none,0,L8,rfl,RSl.nil,D3,rfl,hp6⟩
   ·rw [if_pos hlf] at hM
    rw [hM]
    refine Be (congrArg Value.bool (show(true ^^(an.leaf==bn.leaf))=true by cases hq:an.leaf<;>cases hq':bn.leaf<;>simp_all)) ?_
    (refine Ad<|BI rfl ?_)
    refine Bq 2 rfl rfl rfl rfl (Ach _) rfl ?_
    (refine Ab rfl<|Aa<|Ao ?_)
    exact A7 [mdV Ci none 0,.int .i64 200] ⟨AT 2 rfl rfl rfl,Au rfl,trivial⟩ (d':=d5) (L':=tb bt Tt (.pointer (some ⟨bp,0,none⟩)) r h c::L5) (Vs.drop (.cons _ (.cons _ (.cons _ (.cons _ (.cons _ (.cons _ (.cons _ (Acb _))))))))) ⟨hle5,none,0,L5,rfl,RSl.nil,D3,rfl,hp4.mono hl5⟩
  ·rw [if_pos hbe] at hM
   rw [hM]
   (refine Ab rfl<|Aa<|Ah<|Ad<|Ab rfl<|AO rfl rfl<|Aa<|Ay rfl (by omega)<|Ad<|BI rfl<|Ab rfl ?_)
   refine Bq 2 rfl rfl rfl rfl (Ach _) rfl ?_
   (refine Ab rfl<|Aa<|Ao ?_)
   exact A7 [mdV Ci none 0,.int .i64 be] ⟨AT 2 rfl rfl rfl,Au rfl,trivial⟩ (d':=d5) (L':=tb bt Tt (.pointer (some ⟨bp,0,none⟩)) r h c::L5) (Vs.drop (.cons _ (.cons _ (.cons _ (.cons _ (.cons _ (.cons _ (.cons _ (Acb _))))))))) ⟨((hl2.trans hl3).trans hl4).trans hl5,none,0,L5,rfl,RSl.nil,D3,rfl,hp4.mono hl5⟩
 ·rw [if_pos hae] at hM
  rw [hM]
  (refine Ab rfl<|Aa<|Ah<|Ad<|Ab rfl<|AO rfl rfl<|Aa<|Ay rfl (by omega)<|Ad<|BI rfl<|Ab rfl ?_)
  refine Bq 1 rfl rfl rfl rfl (Ach _) rfl ?_
  (refine Ab rfl<|Aa<|Ao ?_)
  exact A7 [mdV Ci none 0,.int .i64 ae] ⟨AT 1 rfl rfl rfl,Au rfl,trivial⟩ (d':=d3) (L':=tb bt Tt (.pointer (some ⟨bp,0,none⟩)) r h c::L3) (Vs.drop (.cons _ (.cons _ (.cons _ (.cons _ (.cons _ (.cons _ (Acb _)))))))) ⟨hl2.trans hl3,none,0,L3,rfl,RSl.nil,D3,rfl,⟨tc1,hp2.mono hl3⟩⟩
def Rr(P:Program) (f:FuncId):Prop:=∀(x:Nat) {d:Ac}{s:PD}{dv pv w:Value}{L:List Ac}{bt:Nat}{Tt:TypeId}{r h c k:Int}{key:List UInt8},x≤1000000→PgT d s dv pv L→AM d w key→ -1≤k→k≤16384→(BT s k key (x+1)).2.2.2≠99999→
 Aw P f [.pointer (some ⟨bt,0,none⟩),.int .i64 k,.int .i64 ((x+1:Nat):Int),w] d (tb bt Tt pv r h c::L) (Ret fun v d' L'=>Le d d'∧∃ua uc L2,v=.tuple #[mdV (BT s k key (x+1)).2.1 ua uc,.bool (BT s k key (x+1)).2.2.1,.int .i64 (BT s k key (x+1)).2.2.2]∧
  AM d' (.slice ua (BT s k key (x+1)).2.1.key.length uc) (BT s k key (x+1)).2.1.key∧MOk (BT s k key (x+1)).2.1∧L'=tb bt Tt pv r h c::L2∧PgT d' (BT s k key (x+1)).1 dv pv L2)
def Lh(a0 a1 a2 a3 a4 a5 a6 a7:Nat):AY:=⟨139,[(.cell 8 (some 4)),(.tmp 9),(.tmp 10)],(sR (o1 8 (.alo (.agg #[(.int .i64 0),(.int .i64 0),(.slice none 0 0),(.int .i64 0)]))<|o1 9 (.mv (.const (.bool false)))<|o1 10 (.mv (kZ 0)) .done) (sR (om 24 0<|om 25 1<|om 26 2<|oc 27 a0 [(tP 24),(tP 25),(tP 26)]<|om 23 27<|oe 28 23 0<|oe 29 23 1<|o1 11 (.alo (.agg #[(.bool false),(.slice none 0 0),(.slice none 0 0),(.slice none 0 0)]))<|o0 (.st 4 (tP 11) (tP 28))<|om 12 29 .done) (.seq (sR (om 30 12<|ob 31 .neq (tP 30) (kZ 0) .done) (.cond (tP 31) (sR (o1 32 (.bld [(0,1),(1,1),(2,1),(3,1)] [(.int .i64 0),(.int .i64 0),(.slice none 0 0),(.int .i64 0)] [])<|om 33 12<|o0 (.st 4 (tP 8) (tP 32))<|o1 9 (.mv (.const (.bool false)))<|om 10 33 .done) .ret) .skip)) (sR (o1 35 (.ld (some 4) (tP 11))<|om 36 3<|oc 37 a1 [(tP 35),(tP 36)]<|om 34 37<|oe 38 34 0<|oe 39 34 1<|om 13 38<|om 14 39 .done) (.seq (sR (om 40 2<|ob 41 .eql (tP 40) (kZ 1) .done) (.cond (tP 41) (.seq (sR (om 42 14<|o1 43 (.un .not (tP 42)) .done) (.cond (tP 43) (sR (om 44 1<|o1 45 (.bld [(0,1),(1,1),(2,1),(3,1)] [(.int .i64 0),(.int .i64 0),(.slice none 0 0),(.int .i64 0)] [(0,(tP 44)),(1,(kZ (-1))),(3,(kZ 256))])<|o0 (.st 4 (tP 8) (tP 45))<|o1 9 (.mv (.const (.bool false)))<|o1 10 (.mv (kZ 0)) .done) .ret) .skip)) (.seq (sR (om 46 0<|oj 47 2 11<|ol 48 47<|om 49 13<|oI 50 1 48 49<|ol 51 50<|oc 52 a2 [(tP 46),(tP 51)]<|om 15 52 .done) (sR (om 53 15<|ob 54 .neq (tP 53) (kZ 0) .done) (.cond (tP 54) (sR (o1 55 (.bld [(0,1),(1,1),(2,1),(3,1)] [(.int .i64 0),(.int .i64 0),(.slice none 0 0),(.int .i64 0)] [])<|om 56 15<|o0 (.st 4 (tP 8) (tP 55))<|o1 9 (.mv (.const (.bool false)))<|om 10 56 .done) .ret) .skip))) (.seq (.reg true (p1 57 (.fld 1 (tP 11))<|pl 58 57<|pm 59 13<|pm 60 13<|p1 61 (.bin .add (tP 60) (kZ 1))<|p1 63 (.fld 2 (tP 11))<|pl 64 63<|pm 65 13<|pm 66 13<|p1 67 (.bin .add (tP 66) (kZ 1))<|oc 62 a3 [(tP 58),(tP 59),(tP 61)]<|p1 69 (.fld 1 (tP 11))<|oc 68 a3 [(tP 64),(tP 65),(tP 67)] (.bar (o0 (.st 1 (tP 69) (tP 62)) (p1 70 (.fld 2 (tP 11)) (o0 (.st 1 (tP 70) (tP 68)) .done)))))) (sR (om 72 0<|om 73 1<|o1 74 (.ld (some 4) (tP 11))<|oc 75 a4 [(tP 72),(tP 73),(tP 74)]<|om 71 75<|oe 76 71 0<|oe 77 71 1<|o1 16 (.alo (.agg #[(.int .i64 0),(.int .i64 0),(.slice none 0 0),(.int .i64 0)]))<|o0 (.st 4 (tP 16) (tP 76))<|om 17 77 .done) (sR (o1 78 (.ld (some 4) (tP 16))<|om 79 17<|o0 (.st 4 (tP 8) (tP 78))<|o1 9 (.mv (.const (.bool true)))<|om 10 79 .done) .ret))))) .skip)) (sR (om 81 0<|oj 82 3 11<|ol 83 82<|om 84 13<|oI 85 1 83 84<|ol 86 85<|om 87 2<|ob 88 .sub (tP 87) (kZ 1)<|om 89 3<|oc 90 a5 [(tP 81),(tP 86),(tP 88),(tP 89)]<|om 80 90<|oe 91 80 0<|oe 92 80 1<|oe 93 80 2<|o1 18 (.alo (.agg #[(.int .i64 0),(.int .i64 0),(.slice none 0 0),(.int .i64 0)]))<|o0 (.st 4 (tP 18) (tP 91))<|om 19 92<|om 12 93 .done) (.seq (sR (om 94 12<|ob 95 .neq (tP 94) (kZ 0)<|om 96 95<|gF 97 96 19<|oF 98 96 (.un .not (tP 97))<|o1 99 (.pick (tP 96) (.const (.bool true)) (tP 98)) .done) (.cond (tP 99) (sR (om 100 1<|o1 101 (.bld [(0,1),(1,1),(2,1),(3,1)] [(.int .i64 0),(.int .i64 0),(.slice none 0 0),(.int .i64 0)] [(0,(tP 100)),(1,(kZ (-1))),(3,(kZ 256))])<|om 102 19<|om 103 12<|o0 (.st 4 (tP 8) (tP 101))<|om 9 102<|om 10 103 .done) .ret) .skip)) (.seq (sR (oj 104 1 18<|ol 105 104<|ob 106 .lss (tP 105) (kZ 0)<|om 107 106<|oT 108 107 (.fld 3 (tP 18))<|oT 109 107 (.ld none (tP 108))<|oT 110 107 (.bin .lss (tP 109) (kZ 80))<|gP 111 107 110 .done) (.cond (tP 111) (sR (oj 112 3 11<|ol 113 112<|om 114 13<|oj 115 0 18<|ol 116 115<|oI 117 1 113 114<|o0 (.st 1 (tP 117) (tP 116)) .done) (sR (om 119 0<|om 120 1<|o1 121 (.ld (some 4) (tP 11))<|om 122 13<|oc 123 a6 [(tP 119),(tP 120),(tP 121),(tP 122)]<|om 118 123<|oe 124 118 0<|oe 125 118 1<|o1 20 (.alo (.agg #[(.int .i64 0),(.int .i64 0),(.slice none 0 0),(.int .i64 0)]))<|o0 (.st 4 (tP 20) (tP 124))<|om 21 125 .done) (sR (o1 126 (.ld (some 4) (tP 20))<|om 127 21<|o0 (.st 4 (tP 8) (tP 126))<|o1 9 (.mv (.const (.bool true)))<|om 10 127 .done) .ret))) .skip)) (sR (om 129 0<|om 130 1<|o1 131 (.ld (some 4) (tP 11))<|om 132 13<|o1 133 (.ld (some 4) (tP 18))<|oc 134 a7 [(tP 129),(tP 130),(tP 131),(tP 132),(tP 133)]<|om 128 134<|oe 135 128 0<|oe 136 128 1<|o1 22 (.alo (.agg #[(.int .i64 0),(.int .i64 0),(.slice none 0 0),(.int .i64 0)]))<|o0 (.st 4 (tP 22) (tP 135))<|om 12 136 .done) (sR (o1 137 (.ld (some 4) (tP 22))<|om 138 12<|o0 (.st 4 (tP 8) (tP 137))<|o1 9 (.mv (.const (.bool true)))<|om 10 138 .done) .ret))))))))))⟩
set_option maxRecDepth 4000 in
set_option maxHeartbeats 8000000 in
theorem ZR{P:Program}{f f1 f2 f3 f4 f5 f7 f8:FuncId} (hd:Jn P f=some (Lh f1 f2 f3 f4 f5 f f7 f8)) (h1:H0 P f1) (h2:IS P f2 findD) (h3:LY P f3) (h4:JM RBs P f4) (h5:HA P f5) (h7:O6 P f7) (h8:Jt P f8):Rr P f:=by
 intro x
 induction x using Nat.strongRecOn with
 |ind x ih=>
 intro d s dv pv w L bt Tt r h c k key hx hp hw hk0 hk1 hnp
 obtain⟨bp,rfl⟩:=hp.ptr
 have hG:=hp.E0
 obtain⟨tc0,hp⟩:=hp
 obtain⟨wa,wc,rfl⟩:=hw.val
 refine AG hd (Aca rfl) ?_
 show gwp P _ _ _ _ _
 apply Ah;apply AE
 refine BV (fun b10 T10=>?_)
 (refine Ae rfl<|Ab rfl<|Aa<|Ad<|Ak rfl<|Ab rfl<|Ab rfl ?_)
 refine A3 [_] (h1 (k:=k) (x:=((x+1:Nat):Int)) hp) rfl rfl (fun v d2 L2 hl ⟨_,cs,hk,hv,hi,L3,tc,e1,e2,hn,hp2,htc⟩=>?_)
 subst e1;subst e2
 have hp2:PgT d2 s dv (.pointer (some ⟨bp,0,none⟩)) L3:=⟨tc,hp2⟩
 rw [show A4 {s with tc:=tc0} k ((x+1:Nat):Int)=A4 s k ((x+1:Nat):Int) from rfl] at hn⊢
 obtain⟨ka,kc,va,vc,ia,ic,rfl⟩:=hn.cells
 (refine AU rfl<|Ap rfl rfl<|Ap rfl rfl<|BV (fun _ _=>?_))
 rename_i b13 T13
 refine Bq 0 rfl rfl rfl rfl (Ach _) rfl ?_
 by_cases he:(A4 s k ((x+1:Nat):Int)).2=0
 ·obtain⟨hr,hlf⟩:=IK he
  obtain⟨n,hne⟩:∃n,(A4 s k ((x+1:Nat):Int)).1=n:=⟨_,rfl⟩
  rw [hne] at hn hr hlf⊢
  obtain⟨hfit,hk64⟩:=KH hr
  obtain⟨i,b,hfd⟩:∃i b,findD n key=(i,b):=⟨_,_,rfl⟩
  have hile:i≤n.keys.length:=by have:=Nc (n:=n) (key:=key);rw [hfd] at this;exact this
  rw [he]
  have hw2:=RSl.mono (R:=AP) AX hw hl
  have hlv:n.leaf=true→n.vals.length=n.keys.length:=Jr hr
  have hli:n.leaf=false→n.kids.length=n.keys.length+1:=Hr hr
  have hkd:=PV hr
  clear hr
  have hnk:=hn
  obtain⟨kv,vv,iv,q,r1,r2,r3⟩:=hn
  cases q
  (refine Ab rfl<|Aa<|Ah<|Ad<|Ab rfl<|AO rfl rfl<|Aa<|Ar rfl (by omega)<|Al<|Ad<|Bg 0 rfl rfl rfl<|Am rfl ?_)
  refine Jj rfl (v:=.tuple #[.int .i64 i,.bool b]) (fun d1 hl1 hk1=>by
   have:=h2 (DJ.Ii ⟨_,_,_,rfl,r1,r2,r3⟩ hl1 (hk1 _ (by simp)) (hk1 _ (by simp)) (hk1 _ (by simp))) (RSl.mono (R:=AP) AX hw2 hl1)
   rw [hfd] at this;exact this) ?_
  (refine AU rfl<|Ap rfl rfl<|Ap rfl rfl<|Ab rfl<|Ae rfl<|Aa ?_)
  apply Ah;apply Ah;apply AE
  (refine Ab rfl<|AJ rfl rfl<|Aa ?_)
  by_cases hx0:x=0
  ·subst hx0
   have hvl:=hlv (by rw [hlf];rfl)
   clear hlv hli hlf
   refine Ay rfl (by omega) ?_
   cases b with
   |true=>
    have hilt:i<n.keys.length:=by have:=MP (n:=n) (key:=key) (by rw [hfd]);rw [hfd] at this;exact this
    have hiv:i<n.vals.length:=by omega
    have hI:=TK he hne hfd
    have hgv:n.vals.getD i []=n.vals[i]:=by rw [Acf,Ace hiv];rfl
    rw [hgv] at hI
    obtain⟨b1,T1,l1,c1,cs1,q1,rfl,hcl1,hcs,hle1,⟨u,rfl,hu⟩, -⟩:=As.at (by omega) r2 hiv
    cases q1
    have c0:=hcs 0 _ rfl
    have hfk:=hfit.k
    have hfv:=hfit.v
    (refine Ah<|Ad<|Ae rfl<|Bj rfl<|Aa<|AR rfl<|Al<|Ah<|Ad<|Ak rfl<|Ai rfl<|Ag rfl (Aj 0 rfl rfl)<|Ab rfl<|Bx _ rfl rfl rfl (by omega)<|Ag rfl (Aj 3 rfl (by assumption)) ?_)
    refine A3 [_,_,_,_,_] (h3 hp2 hu) rfl rfl (fun v d3 L4 hl3 ⟨_,e3,L5,e4,hp5⟩=>?_)
    subst e3;subst e4
    by_cases hz:(BO s n.vals[i]).2=0
    ·rw [if_neg (fun q=>q hz)] at hI
     rw [hI,hz]
     clear hnp
     (refine Ab rfl<|Aa<|Ad<|Ab rfl<|AO rfl rfl<|Aa<|Ar rfl (by omega)<|Al<|Ah ?_)
     refine Br [_,_] (hk::bx b1 T1 l1::hi::tb bt Tt (.pointer (some ⟨bp,0,none⟩)) r h c::L5) rfl ?_
     (refine Ai rfl<|Ag rfl (Aj 0 rfl rfl)<|Ab rfl<|Ab rfl<|AN rfl rfl (by omega) (by omega)<|Ai rfl<|Ag rfl (Aj 0 rfl rfl)<|Ab rfl<|Ab rfl<|AN rfl rfl (by omega) (by omega) ?_)
     refine DD (A:=[_]) rfl rfl (h4 (r1.D7 hl3) hilt rfl (by omega) Fx) (fun v da La hla ⟨ea,h62,eb,hg62⟩=>?_)
     subst ea;subst eb
     obtain⟨xa',xc',rfl⟩:=hg62.val
     (apply Ai;rfl)
     refine CU (A:=[bx b1 T1 l1]) (h4 (i:=i) (j:=((i:Int)+1)) (r2.D7 hl3) hiv rfl (by omega) Fx) (Adj (l₁:=[_])) rfl (fun v db Lb hlb ⟨ec,h68,ed,hg68⟩=>?_)
     subst ec;subst ed
     obtain⟨za,zc,rfl⟩:=hg68.val
     refine⟨_,_,Vs.refl _ _,?_⟩
     apply B4
     refine A0 0 [.bool n.leaf,.slice xa' (n.keys.eraseIdx i).length xc',.slice (some ⟨b1,0,none⟩) n.vals.length vc,.slice ia n.kids.length ic] rfl rfl rfl rfl (Aca rfl) rfl rfl ?_
     (apply Ai;rfl)
     refine A0 0 [.bool n.leaf,.slice xa' (n.keys.eraseIdx i).length xc',.slice za (n.vals.eraseIdx i).length zc,.slice ia n.kids.length ic] rfl rfl rfl rfl (Aca rfl) rfl rfl ?_
     (refine Aa<|Ad<|Ak rfl<|Ab rfl<|Bg 0 rfl rfl rfl ?_)
     have hn':DJ db [.bool n.leaf,.slice xa' (n.keys.eraseIdx i).length xc',.slice za (n.vals.eraseIdx i).length zc,.slice ia n.kids.length ic] {n with keys:=n.keys.eraseIdx i,vals:=n.vals.eraseIdx i} h62 h68 hi:=⟨_,_,_,rfl,hg62,hg68,r3.Ih hl3⟩
     obtain⟨d8,hl8,v8,hn8⟩:=F4 hn'
     have hfit':Fit {n with keys:=n.keys.eraseIdx i,vals:=n.vals.eraseIdx i} 600:=by
      have e1:=(Agc n.keys i).length_le
      have e2:=(Agc n.vals i).length_le
      have e3:=hfit.i
      exact⟨show(n.keys.eraseIdx i).length≤600 by omega,show(n.vals.eraseIdx i).length≤600 by omega,show n.kids.length≤600 by omega,fun y hy=>hfit.kl y (KU hy),fun y hy=>hfit.vl y (KU hy)⟩
     have hmo:=GG hp5.E0 (n:={n with keys:=n.keys.eraseIdx i,vals:=n.vals.eraseIdx i}) hk0 hk1 hfit'.kl
     refine B9 _ _ (Vs.out (M:=[_,_,_]) [_,_] _ (Adc _ _ _) v8) ?_
     refine A3 [_,_] (h5 (k:=k) (hp5.mono hl8) hn8 (hfit'.small (by omega))) rfl rfl (fun v d9 Lc hl9 ⟨_,ua,uc,L6,e5,hk5,e6,hp6⟩=>?_)
     subst e5;subst e6
     (refine AU rfl<|Ap rfl rfl<|Ap rfl rfl<|BV (fun _ _=>?_))
     rename_i b18 T18
     refine Bq 0 rfl rfl rfl rfl (Ach _) rfl ?_
     (refine Ab rfl<|Aa<|Ad<|Bg 0 rfl rfl rfl<|Ab rfl ?_)
     refine Bq 2 rfl rfl rfl rfl (Ach _) rfl ?_
     (refine Ae rfl<|Ab rfl<|Aa<|Ao ?_)
     exact A7 [mdV (Bc (BO s n.vals[i]).1 k {n with keys:=n.keys.eraseIdx i,vals:=n.vals.eraseIdx i}).2.1 ua uc,.bool true,.int .i64 (Bc (BO s n.vals[i]).1 k {n with keys:=n.keys.eraseIdx i,vals:=n.vals.eraseIdx i}).2.2] ⟨AT 2 rfl rfl rfl,Au rfl,Au rfl,trivial⟩ (d':=d9) (L':=tb bt Tt (.pointer (some ⟨bp,0,none⟩)) r h c::L6) (Vs.drop (.cons _ (.cons _ (.cons _ (Acb _))))) ⟨((hl.trans hl3).trans hl8).trans hl9,ua,uc,L6,rfl,hk5,hmo,rfl,hp6⟩
    ·rw [if_pos hz] at hI
     rw [hI]
     clear hnp
     (refine Ab rfl<|Aa<|Ad<|Ab rfl<|AO rfl rfl<|Aa<|Ay rfl (by omega)<|Ad<|BI rfl<|Ab rfl ?_)
     refine Bq 1 rfl rfl rfl rfl (Ach _) rfl ?_
     (refine Ae rfl<|Ab rfl<|Aa<|Ao ?_)
     exact A7 [mdV Ci none 0,.bool false,.int .i64 (BO s n.vals[i]).2] ⟨AT 1 rfl rfl rfl,Au rfl,Au rfl,trivial⟩ (d':=d3) (L':=tb bt Tt (.pointer (some ⟨bp,0,none⟩)) r h c::L5) (Vs.drop (.cons _ (.cons _ (.cons _ (.cons _ (.cons _ (Acb _))))))) ⟨hl.trans hl3,none,0,L5,rfl,RSl.nil,D3,rfl,hp5⟩
   |false=>
    have hI:=TJ he hne hfd
    rw [hI]
    clear hnp
    (refine Ah<|Ad<|Ae rfl<|Bj rfl<|Aa<|Be rfl<|Ad<|Ab rfl<|BI rfl ?_)
    refine Bq 1 rfl rfl rfl rfl (Ach _) rfl ?_
    (refine Ae rfl<|Ab rfl<|Aa<|Ao ?_)
    exact A7 [mdV ⟨k, -1,[],256⟩ none 0,.bool false,.int .i64 0] ⟨AT 1 rfl rfl rfl,Au rfl,Au rfl,trivial⟩ (d':=d2) (L':=tb bt Tt (.pointer (some ⟨bp,0,none⟩)) r h c::L3) (Vs.drop (.cons _ (.cons _ (.cons _ (.cons _ (.cons _ (Acb _))))))) ⟨hl,none,0,L3,rfl,RSl.nil,⟨hk0,hk1,(by decide:(-1:Int)≤ -1),(by decide:(-1:Int)≤16384),Adf _⟩,rfl,hp2⟩
  ·obtain⟨x,rfl⟩:∃y,x=y+1:=⟨x - 1,by omega⟩
   have hil:=hli (by rw [hlf];simp;omega)
   clear hlv hli hlf
   have hii:i<n.kids.length:=by omega
   have hgk:n.kids.getD i 0=n.kids[i]:=by rw [Acf,Ace hii];rfl
   have hI:=NL (key:=key) he hne hfd (u:=BT s n.kids[i] key (x+1)) (by rw [hgk])
   have hkb:=hkd _ (Ada hii)
   have hnk0:=hnk
   obtain⟨b1,T1,l1,c1,cs1,q1,rfl,hcl1,hcs,hle1,⟨rfl,hb1,hb2⟩,hset⟩:=As.at (by omega) r3 hii
   cases q1
   have c0:=hcs 0 _ rfl
   have hnp':(BT s n.kids[i] key (x+1)).2.2.2≠99999:=by
    intro q
    rw [hI,if_pos (.inl (by rw [q];decide))] at hnp
    exact hnp q
   refine Ar rfl (by omega) ?_
   (refine Al<|Ad<|Ak rfl<|Ai rfl<|Ag rfl (Aj 0 rfl rfl)<|Ab rfl<|Bx _ rfl rfl rfl (by omega)<|Ag rfl (Aj 4 rfl (by assumption))<|Ab rfl<|CY rfl rfl (by omega) (by omega)<|Am rfl ?_)
   refine Fc (g:=88) (v:=.int .i64 ((x+1:Nat):Int)) (congrArg (Value.int .i64) (by push_cast;omega)) ?_
   skip
   refine A3 [_,_,_,_,_] (ih x (Nat.lt_succ_self x) (k:=n.kids[i]) (by omega) hp2 hw2 (by omega) (by omega) hnp') rfl rfl (fun v d3 L4 hl3 ⟨_,ua,uc,L5,e3,hk3,hm3,e4,hp5⟩=>?_)
   subst e3;subst e4
   generalize BT s n.kids[i] key (x+1)=U at hI hk3 hm3 hp5
   clear hnp'
   rw [hI] at hnp⊢
   (refine AU rfl<|Ap rfl rfl<|Ap rfl rfl<|Ap rfl rfl<|BV (fun _ _=>?_))
   rename_i b20 T20
   refine Bq 0 rfl rfl rfl rfl (Ach _) rfl ?_
   obtain⟨us,um,uw,ue⟩:=U
   simp only at hI hk3 hm3 hp5 hnp⊢
   clear hI
   by_cases hz:ue=0
   ·subst hz
    cases uw with
    |true=>
     rw [if_neg (by simp)] at hnp⊢
     have hmo1:=hm3.p0
     have hmo2:=hm3.p1
     by_cases hc:um.other<0∧um.size<80
     ·rw [if_pos hc] at hnp⊢
      have hkl1:1≤n.keys.length:=by
       refine Classical.byContradiction fun q=>hnp ?_
       show(Du us k {n with kids:=n.kids.set i um.page} i).2.2=99999
       unfold Du
       rw [if_pos (show n.keys.length=0 by omega)]
      clear hnp
      obtain⟨hc1,hc2⟩:=hc
      have hrow:=hset [.int .i64 um.page] um.page rfl ⟨rfl,by omega,by omega⟩
      have hkb2:∀y∈n.kids.set i um.page, -1≤y∧y≤16384:=fun y hy=>by
       rcases OZ hy with rfl|hy
       ·omega
       ·have:=hkd y hy
        omega
      (refine Ae rfl<|Ab rfl<|Aa<|Ah<|Ad<|Ab rfl<|AO rfl rfl<|Ae rfl<|AZ rfl (by omega)<|Af rfl<|Ae rfl<|Af rfl<|Bj rfl<|Aq rfl rfl<|Aa<|AR rfl<|Al<|Ah<|Ad<|Ai rfl<|Ag rfl (Aj 0 rfl rfl)<|AA rfl rfl<|Ae rfl<|Bd rfl (by omega)<|Af rfl<|Ai rfl<|Af rfl<|Ag rfl (Aj 0 rfl rfl)<|Af rfl<|AA rfl rfl<|AB rfl rfl<|Aa<|Ay rfl (by omega)<|Ad<|Ai rfl<|Ag rfl (Aj 1 rfl rfl)<|Ab rfl<|Ai rfl<|Ag rfl (Aj 0 rfl rfl)<|Bx _ rfl rfl rfl (by omega) ?_)
      refine A0 5 (patch l1 (i*1) [.int .i64 um.page]) rfl rfl rfl rfl (by omega) rfl rfl ?_
      (refine Aa<|Ad<|Ak rfl<|Ab rfl<|Bg 1 rfl rfl rfl<|Ab rfl ?_)
      refine A3 [_,_,_] (h7 (k:=k) (n:={n with kids:=n.kids.set i um.page}) (i:=i) hp5 ⟨_,_,_,by show _=[Value.bool n.leaf,_,_,_];rfl,r1.D7 hl3,r2.D7 hl3,hrow.Ih hl3⟩
       ⟨by have:=hfit.k;show n.keys.length≤400;omega,by have:=hfit.v;show n.vals.length≤400;omega,by have:=hfit.i;show(n.kids.set i um.page).length≤400;rw [Adg];omega,hfit.kl,hfit.vl⟩ hkl1 (by show(n.kids.set i um.page).length=_;rw [Adg];exact hil) hile
       hkb2 hk0 hk1) rfl rfl (fun v d6 L6 hl6 ⟨_,ua',uc',L7,e6,hk6,hmm,e7,hp7⟩=>?_)
      subst e6;subst e7
      (refine AU rfl<|Ap rfl rfl<|Ap rfl rfl<|BV (fun _ _=>?_))
      rename_i b22 T22
      refine Bq 0 rfl rfl rfl rfl (Ach _) rfl ?_
      (refine Ab rfl<|Aa<|Ad<|Bg 0 rfl rfl rfl<|Ab rfl ?_)
      refine Bq 3 rfl rfl rfl rfl (Ach _) rfl ?_
      (refine Ae rfl<|Ab rfl<|Aa<|Ao ?_)
      exact A7 [mdV (Du us k {n with kids:=n.kids.set i um.page} i).2.1 ua' uc',.bool true,.int .i64 (Du us k {n with kids:=n.kids.set i um.page} i).2.2] ⟨AT 3 rfl rfl rfl,Au rfl,Au rfl,trivial⟩ (d':=d6) (L':=tb bt Tt (.pointer (some ⟨bp,0,none⟩)) r h c::L7) (Vs.drop (.cons _ (.cons _ (.cons _ (.cons _ (Acb _)))))) ⟨(hl.trans hl3).trans hl6,ua',uc',L7,rfl,hk6,hmm,rfl,hp7⟩
     ·rw [if_neg hc] at hnp⊢
      clear hnp
      have hmo:=PR hp5.E0 (n:=n) (i:=i) hk0 hk1 hfit.kl hm3
      (refine Ae rfl<|Ab rfl<|Aa ?_)
      apply Ah;apply Ah;apply AE
      (refine Ab rfl<|AO rfl rfl<|Ae rfl<|AZ rfl (by omega)<|Af rfl<|Ae rfl<|Af rfl<|Bj rfl<|Aq rfl rfl<|Aa ?_)
      apply AR;rfl;apply Al
      refine FX (fun ρ d' L'=>BD ρ [(0,.pointer (some ⟨bt,0,none⟩)),(1,.int .i64 k),(13,.int .i64 i),(11,.pointer (some ⟨b13,0,none⟩)),(18,.pointer (some ⟨b20,0,none⟩)),(8,.pointer (some ⟨b10,0,none⟩))]∧d3=d'∧
       L'=bx b20 T20 [.int .i64 um.page,.int .i64 um.other,.slice ua um.key.length uc,.int .i64 um.size]::bx b13 T13 [.bool n.leaf,.slice ka n.keys.length kc,.slice va n.vals.length vc,.slice (some ⟨b1,0,none⟩) n.kids.length ic]::bx b10 T10 [.int .i64 0,.int .i64 0,.slice none 0 0,.int .i64 0]::hk::hv::bx b1 T1 l1::tb bt Tt (.pointer (some ⟨bp,0,none⟩)) r h c::L5) ?_ ?_
      ·by_cases ho:um.other<0
       ·have hsz:¬um.size<80:=fun q=>hc ⟨ho,q⟩
        (refine Ad<|Ai rfl<|Ag rfl (Aj 0 rfl rfl)<|AA rfl rfl<|Ae rfl<|Bd rfl (by omega)<|Af rfl<|Ai rfl<|Af rfl<|Ag rfl (Aj 0 rfl rfl)<|Af rfl<|AA rfl rfl<|AB rfl rfl<|Aa<|Ar rfl (by omega)<|Al ?_)
        exact⟨⟨rfl,rfl,rfl,rfl,rfl,rfl,trivial⟩,rfl,rfl⟩
       ·(refine Ad<|Ai rfl<|Ag rfl (Aj 0 rfl rfl)<|AA rfl rfl<|Ae rfl<|AZ rfl (by omega)<|An rfl<|An rfl<|An rfl<|Aq rfl rfl<|Aa<|AR rfl<|Al ?_)
        exact⟨⟨rfl,rfl,rfl,rfl,rfl,rfl,trivial⟩,rfl,rfl⟩
      ·rintro ρ d' L' ⟨hsl,hdd,hLL⟩
       subst hdd;subst hLL
       refine Dl _ hsl ?_
       (refine Ad<|Ak rfl<|Ab rfl<|Bg 1 rfl rfl rfl<|Ab rfl<|Bg 0 rfl rfl rfl ?_)
       refine A3 [_,_,_] (h8 (k:=k) (n:=n) (i:=i) (m:=um) hp5 (hnk0.mono hl3) ⟨by have:=hfit.k;omega,by have:=hfit.v;omega,by have:=hfit.i;omega,hfit.kl,hfit.vl⟩ hii (fun _=>hile) hm3 hk3) rfl rfl (fun v d6 L6 hl6 ⟨_,ua',uc',L7,e6,hk6,e7,hp7⟩=>?_)
       subst e6;subst e7
       (refine AU rfl<|Ap rfl rfl<|Ap rfl rfl<|BV (fun _ _=>?_))
       rename_i b22 T22
       refine Bq 0 rfl rfl rfl rfl (Ach _) rfl ?_
       (refine Ab rfl<|Aa<|Ad<|Bg 0 rfl rfl rfl<|Ab rfl ?_)
       refine Bq 3 rfl rfl rfl rfl (Ach _) rfl ?_
       (refine Ae rfl<|Ab rfl<|Aa<|Ao ?_)
       exact A7 [mdV (Cm us k n i um).2.1 ua' uc',.bool true,.int .i64 (Cm us k n i um).2.2] ⟨AT 3 rfl rfl rfl,Au rfl,Au rfl,trivial⟩ (d':=d6) (L':=tb bt Tt (.pointer (some ⟨bp,0,none⟩)) r h c::L7) (Vs.drop (.cons _ (.cons _ (.cons _ (.cons _ (Acb _)))))) ⟨(hl.trans hl3).trans hl6,ua',uc',L7,rfl,hk6,hmo,rfl,hp7⟩
    |false=>
     rw [if_pos (.inr rfl)]
     clear hnp
     (refine Ae rfl<|Ab rfl<|Aa<|Ah<|Ad<|Ab rfl<|AO rfl rfl<|Ae rfl<|AZ rfl (by omega)<|Af rfl<|Ae rfl<|Af rfl<|Bj rfl<|Aq rfl rfl<|Aa<|Be rfl<|Ad<|Ab rfl<|BI rfl<|Ae rfl<|Ab rfl ?_)
     refine Bq 2 rfl rfl rfl rfl (Ach _) rfl ?_
     (refine Ae rfl<|Ab rfl<|Aa<|Ao ?_)
     exact A7 [mdV ⟨k, -1,[],256⟩ none 0,.bool false,.int .i64 0] ⟨AT 2 rfl rfl rfl,Au rfl,Au rfl,trivial⟩ (d':=d3) (L':=tb bt Tt (.pointer (some ⟨bp,0,none⟩)) r h c::L5) (Vs.drop (.cons _ (.cons _ (.cons _ (.cons _ (.cons _ (.cons _ (Acb _)))))))) ⟨hl.trans hl3,none,0,L5,rfl,RSl.nil,⟨hk0,hk1,(by decide:(-1:Int)≤ -1),(by decide:(-1:Int)≤16384),Adf _⟩,rfl,hp5⟩
   ·rw [if_pos (.inl hz)]
    clear hnp
    (refine Ae rfl<|Ab rfl<|Aa<|Ah<|Ad<|Ab rfl<|AO rfl rfl<|Ae rfl<|Bd rfl (by omega)<|An rfl<|An rfl<|AB rfl rfl<|Aa<|Be rfl<|Ad<|Ab rfl<|BI rfl<|Ae rfl<|Ab rfl ?_)
    refine Bq 2 rfl rfl rfl rfl (Ach _) rfl ?_
    (refine Ae rfl<|Ab rfl<|Aa<|Ao ?_)
    exact A7 [mdV ⟨k, -1,[],256⟩ none 0,.bool uw,.int .i64 ue] ⟨AT 2 rfl rfl rfl,Au rfl,Au rfl,trivial⟩ (d':=d3) (L':=tb bt Tt (.pointer (some ⟨bp,0,none⟩)) r h c::L5) (Vs.drop (.cons _ (.cons _ (.cons _ (.cons _ (.cons _ (.cons _ (Acb _)))))))) ⟨hl.trans hl3,none,0,L5,rfl,RSl.nil,⟨hk0,hk1,(by decide:(-1:Int)≤ -1),(by decide:(-1:Int)≤16384),Adf _⟩,rfl,hp5⟩
 ·rw [W7 he]
  clear hnp
  (refine Ab rfl<|Aa<|Ah<|Ad<|Ab rfl<|AO rfl rfl<|Aa<|Ay rfl (by omega)<|Ad<|BI rfl<|Ab rfl ?_)
  refine Bq 1 rfl rfl rfl rfl (Ach _) rfl ?_
  (refine Ae rfl<|Ab rfl<|Aa<|Ao ?_)
  exact A7 [mdV Ci none 0,.bool false,.int .i64 (A4 s k ((x+1:Nat):Int)).2] ⟨AT 1 rfl rfl rfl,Au rfl,Au rfl,trivial⟩ (d':=d2) (L':=tb bt Tt (.pointer (some ⟨bp,0,none⟩)) r h c::L3) (Vs.drop (.cons _ (.cons _ (.cons _ (.cons _ (.cons _ (Acb _))))))) ⟨hl,none,0,L3,rfl,RSl.nil,D3,rfl,hp2⟩
structure US (t:TD) (key:List UInt8):Prop where
 far:Kg t
 np:t.height≠0→(BT t.s t.root key t.height).2.2.2≠99999
 c:t.height≠0→1≤t.count
 hh:(CK {t with s:=(BT t.s t.root key t.height).1,count:=t.count - 1} (BT t.s t.root key t.height).2.1).1.height≠0∨t.height=0
def Pq(P:Program) (f:FuncId):Prop:=∀{d:Ac}{t:TD}{dv pv:Value}{L:List Ac}{bt b2 b3 b7:Nat}{Tt T2 T3 T7:TypeId}{ka:Option Addr}{kc:Nat}{key:List UInt8},PgT d t.s dv pv L→AM d (.slice ka key.length kc) key→US t key→
 Aw P f [.pointer (some ⟨b2,0,none⟩),.pointer (some ⟨b3,0,none⟩),.pointer (some ⟨b7,0,none⟩)] d (tbD bt Tt pv t::([bx b2 T2 [.pointer (some ⟨bt,0,none⟩)],bx b3 T3 [.slice ka key.length kc],bx b7 T7 [.bool false]]++L))
  (Ret fun v d' L'=>Le d d'∧v=.int .i64 (BP t key).2.2∧∃L2,L'=tbD bt Tt pv (BP t key).1::([bx b2 T2 [.pointer (some ⟨bt,0,none⟩)],bx b3 T3 [.slice ka key.length kc],bx b7 T7 [.bool (BP t key).2.1]]++L2)∧PgT d' (BP t key).1.s dv pv L2)
def Mj(a0 a1 a2:Nat):AY:=⟨50,[(.tmp 3)],(sR (o1 3 (.mv (kZ 0)) .done) (.seq (sR (ol 8 0<|o1 9 (.nilc (tP 8))<|oj 10 2 9<|ol 11 10<|ob 12 .eql (tP 11) (kZ 0) .done) (.cond (tP 12) (sR (o1 3 (.mv (kZ 0)) .done) .ret) .skip)) (.seq (.reg true (pl 14 0<|pl 15 0<|p1 16 (.nilc (tP 15))<|p1 17 (.fld 1 (tP 16))<|pl 18 17<|pl 19 0<|p1 20 (.nilc (tP 19))<|p1 21 (.fld 2 (tP 20))<|pl 22 21<|pl 23 1 (.par (o1 4 (.alo (.agg #[(.int .i64 0),(.int .i64 0),(.slice none 0 0),(.int .i64 0)])) .done) (oc 24 a0 [(tP 14),(tP 18),(tP 22),(tP 23)] (pm 13 24 (p1 25 (.ext (tP 13) 0) (p1 26 (.ext (tP 13) 1) (p1 27 (.ext (tP 13) 2) .done))))) (o0 (.st 4 (tP 4) (tP 25)) (pm 5 26 (pm 6 27 .done)))))) (.seq (sR (om 28 6<|ob 29 .neq (tP 28) (kZ 0)<|om 30 29<|gF 31 30 5<|oF 32 30 (.un .not (tP 31))<|o1 33 (.pick (tP 30) (.const (.bool true)) (tP 32)) .done) (.cond (tP 33) (sR (om 34 6<|om 3 34 .done) .ret) .skip)) (sR (o0 (.st 1 (tP 2) (.const (.bool true))) .done) (sR (ol 35 0<|o1 36 (.nilc (tP 35))<|oj 37 3 36<|ol 38 37<|ob 39 .sub (tP 38) (kZ 1)<|o1 40 (.nilc (tP 35))<|oj 41 3 40<|o0 (.st 1 (tP 41) (tP 39)) .done) (.seq (sR (ol 42 0<|o1 43 (.ld (some 4) (tP 4))<|oc 44 a1 [(tP 42),(tP 43)]<|om 7 44 .done) (sR (om 45 7<|ob 46 .neq (tP 45) (kZ 0) .done) (.cond (tP 46) (sR (om 47 7<|om 3 47 .done) .ret) .skip))) (sR (ol 48 0<|oc 49 a2 [(tP 48)]<|om 3 49 .done) .ret))))))))⟩
set_option maxRecDepth 4000 in
set_option maxHeartbeats 4000000 in
theorem Xz{P:Program}{f f1 f2 f3:FuncId} (hd:Jn P f=some (Mj f1 f2 f3)) (h1:Rr P f1) (h2:IX P f2) (h3:Kk P f3):Pq P f:=by
 intro d t dv pv L bt b2 b3 b7 Tt T2 T3 T7 ka kc key hp hk hcan
 obtain⟨bp,rfl⟩:=hp.ptr
 obtain⟨s,root,height,count⟩:=t
 obtain⟨hr0,hr1,hh,hc⟩:=hcan.far
 simp only at hp hr0 hr1 hh hc
 refine AG hd (Aca rfl) ?_
 show gwp P _ _ _ _ _
 apply Ah;apply AE
 refine B9 d ([bx b2 T2 [.pointer (some ⟨bt,0,none⟩)],bx b3 T3 [.slice ka key.length kc],bx b7 T7 [.bool false]]++tb bt Tt (.pointer (some ⟨bp,0,none⟩)) root height count::L) (Vs.perm List.perm_middle.symm) ?_
 by_cases hh0:height=0
 ·subst hh0
  have hF:BP ⟨s,root,0,count⟩ key=(⟨s,root,0,count⟩,false,0):=by unfold BP;rw [if_pos rfl]
  rw [hF]
  (refine Ab rfl<|Aa<|Ah<|Ad<|Ag rfl (Aj 0 rfl rfl)<|Av rfl<|Ai rfl<|Ag rfl (Aj 3 rfl rfl)<|AJ rfl rfl<|Aa<|Ay rfl (by omega)<|Ad<|Ab rfl<|Aa<|Ao ?_)
  exact A7 [.int .i64 0] ⟨Au rfl,trivial⟩ (d':=d) (L':=tbD bt Tt (.pointer (some ⟨bp,0,none⟩)) ⟨s,root,0,count⟩::([bx b2 T2 [.pointer (some ⟨bt,0,none⟩)],bx b3 T3 [.slice ka key.length kc],bx b7 T7 [.bool false]]++L)) (Vs.perm (Adj (a:=tbD bt Tt (.pointer (some ⟨bp,0,none⟩)) ⟨s,root,0,count⟩) (l₁:=[bx b2 T2 [.pointer (some ⟨bt,0,none⟩)],bx b3 T3 [.slice ka key.length kc],bx b7 T7 [.bool false]]) (l₂:=L))) ⟨Le.refl _,rfl,L,rfl,hp⟩
 ·have hF:BP ⟨s,root,height,count⟩ key=if (BT s root key height).2.2.2≠0∨(BT s root key height).2.2.1=false then(⟨(BT s root key height).1,root,height,count⟩,false,(BT s root key height).2.2.2) else
    if (CK ⟨(BT s root key height).1,root,height,count - 1⟩ (BT s root key height).2.1).2≠0 then((CK ⟨(BT s root key height).1,root,height,count - 1⟩ (BT s root key height).2.1).1,true,(CK ⟨(BT s root key height).1,root,height,count - 1⟩ (BT s root key height).2.1).2) else
    ((DE (CK ⟨(BT s root key height).1,root,height,count - 1⟩ (BT s root key height).2.1).1).1,true,(DE (CK ⟨(BT s root key height).1,root,height,count - 1⟩ (BT s root key height).2.1).1).2):=by
   unfold BP;rw [if_neg hh0]
  rw [hF]
  clear hF
  obtain⟨x,rfl⟩:∃x,height=x+1:=⟨height - 1,by omega⟩
  (refine Ab rfl<|Aa<|Ah<|Ad<|Ag rfl (Aj 0 rfl rfl)<|Av rfl<|Ai rfl<|Ag rfl (Aj 3 rfl rfl)<|AJ rfl rfl<|Aa<|Ar rfl (by omega)<|Al<|Ah ?_)
  have hc1:=hcan.c hh0
  have hnp:=hcan.np hh0
  have hgr:=hcan.hh.resolve_right hh0
  simp only at hc1 hnp hgr
  clear hcan
  refine Br [_,_,_,_] L rfl ?_
  (refine Ag rfl (Aj 0 rfl rfl)<|Ag rfl (Aj 0 rfl rfl)<|Av rfl<|Ai rfl<|Ag rfl (Aj 3 rfl rfl)<|Ag rfl (Aj 0 rfl rfl)<|Av rfl<|Ai rfl<|Ag rfl (Aj 3 rfl rfl)<|Ag rfl (Aj 1 rfl rfl) ?_)
  have hins:=h1 x (r:=root) (h:=((x+1:Nat):Int)) (c:=count) (bt:=bt) (Tt:=Tt) (k:=root) (by omega) hp hk hr0 hr1 hnp
  generalize BT s root key (x+1)=U at hins hgr⊢
  clear hnp
  refine Gz (α:=Nat×TypeId) (β:=Option Addr×Nat×List Ac) [(0,.pointer (some ⟨b2,0,none⟩)),(1,.pointer (some ⟨b3,0,none⟩)),(2,.pointer (some ⟨b7,0,none⟩)),(3,.int .i64 0)]
   (fun x=>[(4,.pointer (some ⟨x.1,0,none⟩))]) (fun x d L=>L=[bx x.1 x.2 [.int .i64 0,.int .i64 0,.slice none 0 0,.int .i64 0]])
   (fun y=>[(25,mdV U.2.1 y.1 y.2.1),(26,.bool U.2.2.1),(27,.int .i64 U.2.2.2)]) (fun y d' M=>AM d' (.slice y.1 U.2.1.key.length y.2.1) U.2.1.key∧MOk U.2.1∧PgT d' U.1 dv (.pointer (some ⟨bp,0,none⟩)) y.2.2∧M=y.2.2) [] L rfl
   (fun x d d' M hl h=>h) (fun y d d' M hl h=>⟨RSl.mono (R:=AP) AX h.1 hl,h.2.1,h.2.2.1.mono hl,h.2.2.2⟩) (fun x=>rfl) (fun y=>rfl) rfl ⟨rfl,rfl,rfl,rfl,trivial⟩ ?_ ?_ ?_
  ·refine BV (fun b8 T8=>?_)
   (apply A8)
   exact⟨_,rfl,(b8,T8),⟨rfl,trivial⟩,rfl⟩
  ·refine TN (B:=[_,_,_]) hins (Aci (l₁:=[_,_,_])) rfl (fun v d4 L4 hl4 ⟨_,wa,wc,L5,e4,hk4,hm4,e5,hp5⟩=>⟨L5,by rw [e5];exact Aci (l₂:=[_,_,_]),?_⟩)
   subst e4
   (refine AU rfl<|Ap rfl rfl<|Ap rfl rfl<|Ap rfl rfl<|A8 ?_)
   exact⟨_,rfl,(wa,wc,L5),⟨rfl,rfl,rfl,trivial⟩,hk4,hm4,hp5,rfl⟩
  rintro⟨b8,T8⟩ ⟨wa,wc,L5⟩ ρ2 d4 M1 M2 hl4 hM1 ⟨hk4,hm4,hp5,hM2⟩
  subst hM1;subst hM2
  simp only at hk4 hp5⊢
  refine Bq 0 rfl rfl rfl rfl (Ach _) rfl ?_
  clear hins
  obtain⟨us,um,uw,ue⟩:=U
  simp only at hk4 hm4 hp5 hgr⊢
  (refine Ae rfl<|Ab rfl<|A8<|Ah<|Ad<|Ab rfl<|AO rfl rfl<|Ae rfl ?_)
  by_cases hue:ue=0
  ·subst hue
   cases uw with
   |true=>
    rw [if_neg (by simp)]
    (refine AZ rfl (by omega)<|Af rfl<|Ae rfl<|Af rfl<|Bj rfl<|Aq rfl rfl<|Aa<|AR rfl<|Al<|Ad ?_)
    refine A0 2 [.bool true] rfl rfl rfl rfl (Ach _) rfl rfl ?_
    (refine Aa<|Ad<|Ag rfl (Aj 0 rfl rfl)<|Av rfl<|Ai rfl<|Ag rfl (Aj 3 rfl rfl)<|CY rfl rfl (by omega) (by omega)<|Av rfl<|Ai rfl ?_)
    have hcc:(count:Int) - 1=((count - 1:Nat):Int):=by omega
    refine A0 3 [.pointer (some ⟨bp,0,none⟩),.int .i64 root,.int .i64 ((x+1:Nat):Int),.int .i64 ((count:Int) - 1)] rfl rfl rfl rfl (Aca rfl) rfl rfl ?_
    rw [hcc]
    (refine Aa<|Ah<|Ad<|Ag rfl (Aj 0 rfl rfl)<|Bg 4 rfl rfl rfl ?_)
    refine CU (A:=tbD bt Tt (.pointer (some ⟨bp,0,none⟩)) ⟨us,root,x+1,count - 1⟩::M2) (B:=[_,_,_,_]) (h2 (t:=⟨us,root,x+1,count - 1⟩) (m:=um) hp5 hk4 hm4 (by show x+1≤1000000;omega))
     ((Adj (l₁:=[_,_,_])).trans (Acn _ (Aci (l₁:=[_,_,_,_])))) rfl (fun v d6 L6 hl6 ⟨_,e6,L7,e7,hp7⟩=>?_)
    subst e6;subst e7
    have hg1:(CK ⟨us,root,x+1,count - 1⟩ um).1.height≤1000001:=by unfold CK;split<;>simp only<;>omega
    generalize CK ⟨us,root,x+1,count - 1⟩ um=Q at hgr hp7 hg1
    obtain⟨tq,eq⟩:=Q
    simp only at hgr hp7 hg1⊢
    refine⟨d6,[_,_,_,_]++tbD bt Tt (.pointer (some ⟨bp,0,none⟩)) tq::L7,Vs.perm (Aci (l₂:=[_,_,_,_])),?_⟩
    (refine Ab rfl<|Aa<|Ad<|Ab rfl<|AO rfl rfl<|Aa ?_)
    by_cases hqe:eq=0
    ·rw [if_neg (fun q=>q hqe)]
     (refine Ar rfl (by omega)<|Al<|Ad<|Ag rfl (Aj 0 rfl rfl) ?_)
     refine A3 [_,_,_,_] (h3 (t:=tq) hp7 (by omega) hg1) rfl rfl (fun v d8 L8 hl8 ⟨_,e8,L9,e9,hp9⟩=>?_)
     subst e8;subst e9
     (refine Ab rfl<|Aa<|Ao ?_)
     exact A7 [.int .i64 _] ⟨Au rfl,trivial⟩ (d':=d8) (L':=tbD bt Tt (.pointer (some ⟨bp,0,none⟩)) (DE tq).1::([bx b2 T2 [.pointer (some ⟨bt,0,none⟩)],bx b3 T3 [.slice ka key.length kc],bx b7 T7 [.bool true]]++L9)) ((Vs.drop (L':=[bx b2 T2 [.pointer (some ⟨bt,0,none⟩)],bx b3 T3 [.slice ka key.length kc],bx b7 T7 [.bool true]]++(tbD bt Tt (.pointer (some ⟨bp,0,none⟩)) (DE tq).1::L9)) (.cons_cons _ (.cons_cons _ (.cons_cons _ (.cons _ (Acb _)))))).trans (Vs.perm Adj)) ⟨(hl4.trans hl6).trans hl8,rfl,L9,rfl,hp9⟩
    ·rw [if_pos hqe]
     (refine Ay rfl (by omega)<|Ad<|Ab rfl<|Ab rfl<|Aa<|Ao ?_)
     exact A7 [.int .i64 eq] ⟨Au rfl,trivial⟩ (d':=d6) (L':=tbD bt Tt (.pointer (some ⟨bp,0,none⟩)) tq::([bx b2 T2 [.pointer (some ⟨bt,0,none⟩)],bx b3 T3 [.slice ka key.length kc],bx b7 T7 [.bool true]]++L7)) ((Vs.drop (L':=[bx b2 T2 [.pointer (some ⟨bt,0,none⟩)],bx b3 T3 [.slice ka key.length kc],bx b7 T7 [.bool true]]++(tbD bt Tt (.pointer (some ⟨bp,0,none⟩)) tq::L7)) (.cons_cons _ (.cons_cons _ (.cons_cons _ (.cons _ (Acb _)))))).trans (Vs.perm Adj)) ⟨hl4.trans hl6,rfl,L7,rfl,hp7⟩
   |false=>
    rw [if_pos (.inr rfl)]
    (refine AZ rfl (by omega)<|Af rfl<|Ae rfl<|Af rfl<|Bj rfl<|Aq rfl rfl<|Aa<|Be rfl<|Ad<|Ab rfl<|Ab rfl<|Aa<|Ao ?_)
    exact A7 [.int .i64 0] ⟨Au rfl,trivial⟩ (d':=d4) (L':=tbD bt Tt (.pointer (some ⟨bp,0,none⟩)) ⟨us,root,x+1,count⟩::([bx b2 T2 [.pointer (some ⟨bt,0,none⟩)],bx b3 T3 [.slice ka key.length kc],bx b7 T7 [.bool false]]++M2)) ((Vs.drop (L':=[bx b2 T2 [.pointer (some ⟨bt,0,none⟩)],bx b3 T3 [.slice ka key.length kc],bx b7 T7 [.bool false]]++(tbD bt Tt (.pointer (some ⟨bp,0,none⟩)) ⟨us,root,x+1,count⟩::M2)) (.cons_cons _ (.cons_cons _ (.cons_cons _ (.cons_cons _ (.cons _ (Acb _))))))).trans (Vs.perm Adj)) ⟨hl4,rfl,M2,rfl,hp5⟩
  ·rw [if_pos (.inl hue)]
   (refine Bd rfl (by omega)<|An rfl<|An rfl<|AB rfl rfl<|Aa<|Be rfl<|Ad<|Ab rfl<|Ab rfl<|Aa<|Ao ?_)
   exact A7 [.int .i64 ue] ⟨Au rfl,trivial⟩ (d':=d4) (L':=tbD bt Tt (.pointer (some ⟨bp,0,none⟩)) ⟨us,root,x+1,count⟩::([bx b2 T2 [.pointer (some ⟨bt,0,none⟩)],bx b3 T3 [.slice ka key.length kc],bx b7 T7 [.bool false]]++M2)) ((Vs.drop (L':=[bx b2 T2 [.pointer (some ⟨bt,0,none⟩)],bx b3 T3 [.slice ka key.length kc],bx b7 T7 [.bool false]]++(tbD bt Tt (.pointer (some ⟨bp,0,none⟩)) ⟨us,root,x+1,count⟩::M2)) (.cons_cons _ (.cons_cons _ (.cons_cons _ (.cons_cons _ (.cons _ (Acb _))))))).trans (Vs.perm Adj)) ⟨hl4,rfl,M2,rfl,hp5⟩
def CN(t:TD) (key:List UInt8):TD×Bool×Int:=
 if BL key≠0 then(t,false,BL key) else(B2 t (BP t key).1 (BP t key).2.2,(BP t key).2.1 && decide ((BP t key).2.2=0),(BP t key).2.2)
def Ll(P:Program) (f:FuncId):Prop:=∀{d:Ac}{t:TD}{dv pv kv:Value}{L:List Ac}{bt:Nat}{Tt:TypeId}{key:List UInt8},PgT d t.s dv pv L→AM d kv key→(BL key=0→US t key)→
 Aw P f [.pointer (some ⟨bt,0,none⟩),kv] d (tbD bt Tt pv t::L) (Ret fun v d' L'=>Le d d'∧v=.tuple #[.bool (CN t key).2.1,.int .i64 (CN t key).2.2]∧∃L2,L'=tbD bt Tt pv (CN t key).1::L2∧PgT d' (CN t key).1.s dv pv L2)
def OF(a0 a1 a2:Nat):AY:=⟨24,[(.tmp 4),(.tmp 5)],(sR (o1 2 (.box (tP 0))<|o1 3 (.box (tP 1))<|o1 4 (.mv (.const (.bool false)))<|o1 5 (.mv (kZ 0)) .done) (.seq (sR (ol 9 2<|ol 10 3<|oc 11 a0 [(tP 9),(tP 10)]<|om 6 11 .done) (sR (om 12 6<|ob 13 .neq (tP 12) (kZ 0) .done) (.cond (tP 13) (sR (om 14 6<|o1 4 (.mv (.const (.bool false)))<|om 5 14 .done) .ret) .skip))) (sR (o1 7 (.alo (.bool false))<|o0 (.st 1 (tP 7) (.const (.bool false))) .done) (sR (ol 15 2<|o1 16 (.mkf (.func a1) [] [(tP 2),(tP 3),(tP 7)])<|oc 17 a2 [(tP 15),(tP 16)]<|om 8 17 .done) (sR (ol 18 7<|om 19 18<|gT 20 19 8<|oT 21 19 (.bin .eql (tP 20) (kZ 0))<|gP 22 19 21<|om 23 8<|om 4 22<|om 5 23 .done) .ret)))))⟩
set_option maxRecDepth 4000 in
set_option maxHeartbeats 2000000 in
theorem Zr{P:Program}{f f1 f2 f3:FuncId} (hd:dec P f=some (OF f1 f2 f3)) (h1:K3 P f1) (h2:Pq P f2) (h3:Io P f3):Ll P f:=by
 intro d t dv pv kv L bt Tt key hp hk hf
 obtain⟨bp,rfl⟩:=hp.ptr
 obtain⟨ka,kc,rfl⟩:=hk.val
 refine AG hd (Aca rfl) ?_
 show gwp P _ _ _ _ _
 apply Ah;apply AE
 refine Fj rfl (fun b2 T2=>?_)
 refine Fj rfl (fun b3 T3=>?_)
 (refine Ae rfl<|Ab rfl<|Aa<|Ah<|Ad<|Ag rfl (Aj 1 rfl rfl)<|Ag rfl (Aj 0 rfl rfl) ?_)
 refine A3 [_,_] (h1 (L:=L) hk) rfl rfl (fun v d2 L2 _ ⟨e1,e2,e3⟩=>?_)
 subst e1;subst e2;subst e3
 by_cases hw:BL key=0
 ·have hF:CN t key=(B2 t (BP t key).1 (BP t key).2.2,(BP t key).2.1 && decide ((BP t key).2.2=0),(BP t key).2.2):=by unfold CN;rw [if_neg (fun q=>q hw)]
  have hcan:=hf hw
  rw [hF,hw]
  (refine Ab rfl<|Aa<|Ad<|Ab rfl<|AO rfl rfl<|Aa<|Ar rfl (by omega)<|Al<|Ad<|DI (fun _ _=>?_))
  rename_i b7 T7
  refine A0 0 [.bool false] rfl rfl rfl rfl (Ach _) rfl rfl ?_
  (refine Aa<|Ad<|Ag rfl (Aj 2 rfl rfl)<|OA ?_)
  refine CU (A:=tbD bt Tt (.pointer (some ⟨bp,0,none⟩)) t::([bx b2 T2 [.pointer (some ⟨bt,0,none⟩)],bx b3 T3 [.slice ka key.length kc],bx b7 T7 [.bool false]]++L)) (B:=[])
   (h3 (t':=(BP t key).1) (e:=(BP t key).2.2) (X':=[bx b2 T2 [.pointer (some ⟨bt,0,none⟩)],bx b3 T3 [.slice ka key.length kc],bx b7 T7 [.bool (BP t key).2.1]]) hp (RW t key) (fun d1 hl1=>h2 (hp.mono hl1) (RSl.mono (R:=AP) AX hk hl1) hcan)) ?_ rfl (fun v d4 L4 hl4 ⟨_,e4,L5,e5,hp5⟩=>?_)
  ·rw [Ads]
   refine(Adj (l₁:=[_,_,_])).trans (Acn _ (Afb L ?_))
   exact(Aci (l₁:=[_,_]) (l₂:=[_])).trans (Acn _ (Adc _ _ _))
  ·subst e4;subst e5
   refine⟨d4,_,Vs.refl _ _,?_⟩
   rw [Ads]
   generalize (BP t key).2.1=b
   cases b with
   |true=>
    (refine Ab rfl<|Aa<|Ad<|Ag rfl (Aj 3 rfl rfl)<|Ae rfl<|Af rfl<|Ab rfl<|Af rfl<|AJ rfl rfl<|AB rfl rfl<|Ab rfl<|Ae rfl<|Ab rfl<|Aa<|Ao ?_)
    exact A7 [.bool (decide ((BP t key).2.2=0)),.int .i64 (BP t key).2.2] ⟨Au rfl,Au rfl,trivial⟩ (d':=d4) (L':=tbD bt Tt (.pointer (some ⟨bp,0,none⟩)) (B2 t (BP t key).1 (BP t key).2.2)::L5) (Vs.drop (.cons_cons _ (.cons _ (.cons _ (.cons _ (Acb _)))))) ⟨hl4,by rw [Afl];rfl,L5,rfl,hp5⟩
   |false=>
    (refine Ab rfl<|Aa<|Ad<|Ag rfl (Aj 3 rfl rfl)<|Ae rfl<|An rfl<|An rfl<|Aq rfl rfl<|Ab rfl<|Ae rfl<|Ab rfl<|Aa<|Ao ?_)
    exact A7 [.bool false,.int .i64 (BP t key).2.2] ⟨Au rfl,Au rfl,trivial⟩ (d':=d4) (L':=tbD bt Tt (.pointer (some ⟨bp,0,none⟩)) (B2 t (BP t key).1 (BP t key).2.2)::L5) (Vs.drop (.cons_cons _ (.cons _ (.cons _ (.cons _ (Acb _)))))) ⟨hl4,rfl,L5,rfl,hp5⟩
 ·have hF:CN t key=(t,false,BL key):=by unfold CN;rw [if_pos hw]
  rw [hF]
  (refine Ab rfl<|Aa<|Ad<|Ab rfl<|AO rfl rfl<|Aa<|Ay rfl (by omega)<|Ad<|Ab rfl<|Ae rfl<|Ab rfl<|Aa<|Ao ?_)
  exact CF (L':=tbD bt Tt (.pointer (some ⟨bp,0,none⟩)) t::L) rfl rfl (.cons _ (.cons _ (Acb _))) ⟨Le.refl _,rfl,L,rfl,hp⟩
end Go.Gk.Tre
end
section
namespace Go.Gk.Tre
open Go Go.Gk Go.Gk.Dev Go.Gk.Cch Go.Gk.Pgr Go.Gk.Chn Go.Gk.Node
def UM(s:PD) (P:List Int):Prop:=∀k,Bl s k↔k∈P
theorem UM.mv{s t:PD}{A B:List Int}{c:Nat} (h:UM s A) (k:Mv s t A B c):UM t B:=fun p=>by
 rw [k.lv,h p]
 exact⟨fun q=>q.elim (fun q=>absurd q.1 q.2) id,.inr⟩
structure Gr (N i:Nat) (t:TD) (l:List KV) (P:List Int):Prop where
 ok:Tok t l P
 on:UM t.s P
 ln:l.length≤i
 kv:∀x∈l,x.1.length≤64∧x.2.length≤700
 kn:t.s.kinds.length=N
theorem Gr.more{N i j:Nat}{t:TD}{l:List KV}{P:List Int} (h:Gr N i t l P) (hj:i≤j):Gr N j t l P:=⟨h.ok,h.on,by have:=h.ln;omega,h.kv,h.kn⟩
theorem Tok.far{t:TD}{l:List KV}{P:List Int} (h:Tok t l P) (hl:l.length≤1000):Kg t∧t.height≤2000:=by
 have hc:=h.ct
 have hh:t.height≤2000:=by
  rcases h.high with ⟨_,e,_⟩|⟨_,_,e⟩
  ·omega
  ·have:t.height<2 ^ t.height:=Nat.lt_two_pow_self
   omega
 refine⟨⟨?_,?_,by omega,by omega⟩,hh⟩
 ·rcases h.tr with ⟨_,e,_⟩|⟨x,_,⟨n,Q,hat,_⟩⟩
  ·omega
  ·have:=Ej h.gd hat.liv;omega
 ·rcases h.tr with ⟨_,e,_⟩|⟨x,_,⟨n,Q,hat,_⟩⟩
  ·omega
  ·have:=Ej h.gd hat.liv;omega
theorem S1(t:TD) (m:MdD):t.height≤(CK t m).1.height:=by
 unfold CK
 split
 ·exact Ach _
 ·exact Nat.le_succ _
theorem Tok.can{t:TD}{l:List KV}{P:List Int} (h:Tok t l P) (hl:l.length≤1000) (key:List UInt8):US t key:=by
 refine⟨(h.far hl).1,fun hh=>?_,fun hh=>?_,?_⟩
 ·rcases h.tr with ⟨e,_⟩|⟨x,e,ht⟩
  ·exact absurd e hh
  ·rw [e]
   rcases Sl (key:=key) x h.gd ht h.nd with ⟨q,_⟩|⟨q,_⟩
   ·rw [q];decide
   ·rw [q];decide
 ·rcases h.tr with ⟨e,_⟩|⟨x,e,ht⟩
  ·exact absurd e hh
  ·rw [h.ct];exact Gx.1 ht.ne
 ·by_cases hh:t.height=0
  ·exact .inr hh
  ·refine .inl (fun q=>?_)
   have:=S1 {t with s:=(BT t.s t.root key t.height).1,count:=t.count - 1} (BT t.s t.root key t.height).2.1
   rw [q] at this
   exact hh (Nat.le_zero.1 this)
theorem Qb{s t:PD} (h:Pgr.AH s t) (hG:Pgr.Good s):Pgr.Good (t.back s.mark):=
 ⟨hG.one,hG.len,by show t.frm+s.kinds.length≤t.syn.length;rw [h.frm,h.syn];exact hG.inn,by show t.syn.length≤8192;rw [h.syn];exact hG.syn,hG.kd⟩
theorem PT{s t:PD} (h:Pgr.AH s t) (P:List Int):Fs s (t.back s.mark) P:=fun p _=>⟨K5 h p,UG h p⟩
theorem Tok.same{t:TD}{l:List KV}{P:List Int} (h:Tok t l P) {s:PD} (hG:Pgr.Good s) (hs:Fs t.s s P):Tok {t with s:=s} l P:=
 ⟨hG,h.nd,h.ct,by
  rcases h.tr with e|⟨x,e,ht⟩
  ·exact .inl e
  ·exact .inr ⟨x,e,ht.stay hs⟩⟩
theorem Gr.back{N i:Nat}{t:TD}{l:List KV}{P:List Int} (h:Gr N i t l P) {r:PD} (hk:Pgr.AH t.s r):Gr N i {t with s:=r.back t.s.mark} l P∧(r.back t.s.mark).free=t.s.free:=
 ⟨⟨h.ok.same (Qb hk h.ok.gd) (PT hk P),fun k=>by
  have:=h.on k
  unfold Bl at this⊢
  show(r.back t.s.mark).kind k=1∨(r.back t.s.mark).kind k=2↔_
  rw [K5 hk];exact this,h.ln,h.kv,h.kn⟩,rfl⟩
theorem SE{key:List UInt8} (h:BL key=0):1≤key.length∧key.length≤64:=by unfold BL at h;split at h<;>omega
theorem Gr.put{N i:Nat}{t:TD}{l:List KV}{P:List Int} (h:Gr N i t l P) {key v:List UInt8} (hw:BL key=0) (hv:v.length≤700):
  ((Cq t key v).2=0∧∃P',Gr N (i+1) (Cq t key v).1 (D5 l key v) P')∨
  ((Cq t key v).2=190∧t.s.free<4*t.height+3+AQ v.length∧(Cq t key v).1.s.free=t.s.free∧Gr N (i+1) (Cq t key v).1 l P):=by
 have hk:=SE hw
 have e:Cq t key v=(B2 t (CL t key v).1 (CL t key v).2,(CL t key v).2):=by unfold Cq;rw [if_neg (fun q=>q hw),if_neg (by omega)]
 have hkp:=Sw t key v
 rw [e]
 rcases XU h.ok hk (v:=v) (by omega) with ⟨h1,P',h2,h3⟩|⟨h1,h2⟩
 ·refine .inl ⟨h1,P',?_⟩
  show Gr N (i+1) (B2 t (CL t key v).1 (CL t key v).2) _ _
  unfold B2
  rw [if_pos h1]
  refine⟨h2,h.on.mv h3,?_,fun x hx=>?_,by rw [hkp.len];exact h.kn⟩
  ·have:=RV (l:=l) (key:=key) (v:=v)
   have:=h.ln
   split at* <;>omega
  ·rcases Nq hx with rfl|hx
   ·exact⟨hk.2,hv⟩
   ·exact h.kv x hx
 ·obtain⟨g1,g2⟩:=h.back hkp
  refine .inr ⟨h1,by omega,?_,?_⟩
  ·show(B2 t (CL t key v).1 (CL t key v).2).s.free=_
   unfold B2
   rw [if_neg (by rw [h1];decide)]
   exact g2
  ·show Gr N (i+1) (B2 t (CL t key v).1 (CL t key v).2) _ _
   unfold B2
   rw [if_neg (by rw [h1];decide)]
   exact g1.more (Nat.le_succ _)
theorem Gr.del{N i:Nat}{t:TD}{l:List KV}{P:List Int} (h:Gr N i t l P) {key:List UInt8} (hw:BL key=0):
  ((CN t key).2.2=0∧(CN t key).2.1=isK l key∧∃P',Gr N i (CN t key).1 (B8 l key).1 P')∨
  ((CN t key).2.2=190∧(CN t key).2.1=false∧t.s.free<4*t.height+1∧(CN t key).1.s.free=t.s.free∧Gr N i (CN t key).1 l P):=by
 have e:CN t key=(B2 t (BP t key).1 (BP t key).2.2,(BP t key).2.1 && decide ((BP t key).2.2=0),(BP t key).2.2):=by unfold CN;rw [if_neg (fun q=>q hw)]
 have hkp:=RW t key
 rw [e]
 rcases XT h.ok key with ⟨h1,h1',P',h2,h3⟩|⟨h1,h2⟩
 ·refine .inl ⟨h1,by simp [h1,h1'],P',?_⟩
  show Gr N i (B2 t (BP t key).1 (BP t key).2.2) _ _
  unfold B2
  rw [if_pos h1]
  refine⟨h2,h.on.mv h3,?_,fun x hx=>h.kv x (HN hx),by rw [hkp.len];exact h.kn⟩
  have:=Tv l key
  have:=h.ln
  omega
 ·obtain⟨g1,g2⟩:=h.back hkp
  refine .inr ⟨h1,by simp [h1],h2,?_,?_⟩
  ·show(B2 t (BP t key).1 (BP t key).2.2).s.free=_
   unfold B2
   rw [if_neg (by rw [h1];decide)]
   exact g2
  ·show Gr N i (B2 t (BP t key).1 (BP t key).2.2) _ _
   unfold B2
   rw [if_neg (by rw [h1];decide)]
   exact g1
theorem X9{s:PD} (h:Pgr.Good s):Pgr.Good s.fin:=by
 have hl:s.fin.kinds.length=s.kinds.length:=by simp [PD.fin,PD.done,PD.flush]
 have hs:s.fin.syn.length=s.syn.length:=Ez _ _
 refine⟨by rw [hl];exact h.one,by rw [hl];exact h.len,by rw [hl,hs];exact h.inn,by rw [hs];exact h.syn,fun i=>?_⟩
 rcases AaP h (i:=i) with q|q<;>rw [q]<;>decide
theorem Nu{s:PD}{k:Int}:Bl s.fin k↔Bl s k:=by
 unfold Bl
 rw [RY]
 unfold C7
 constructor
 ·intro q
  by_cases h3:s.kind k=3
  ·rw [if_pos h3] at q;omega
  ·rw [if_neg h3] at q
   by_cases h1:s.kind k=1
   ·exact .inl h1
   ·rw [if_neg h1] at q;exact q
 ·rintro(q|q)<;>rw [q]<;>decide
theorem At.fin{s:PD} (hG:Pgr.Good s) {k:Int}{n:AF} (h:At s k n):At s.fin k n:=⟨Nu.2 h.liv,by rw [Qf hG];exact h.byt,h.rgt⟩
theorem FU.fin{s:PD} (hG:Pgr.Good s) {b:List UInt8}{l:List Int} (h:FU s b l):FU s.fin b l:=
 ⟨h.len,h.rng,fun j hj=>Nu.2 (h.live j hj),fun j hj=>by rw [Qf hG];exact h.pg j hj⟩
theorem Lf.fin{s:PD} (hG:Pgr.Good s):∀{ks vs:List (List UInt8)}{l:List KV}{P:List Int},Lf s ks vs l P→Lf s.fin ks vs l P
 |[],[],l,P,h=>by rw [Lf] at h⊢;exact h
 |[],_::_,l,P,h=>by rw [Lf] at h<;>simp_all
 |_::_,[],l,P,h=>by rw [Lf] at h<;>simp_all
 |k::ks,c::cs,l,P,h=>by
  rw [Lf] at h⊢
  obtain⟨v,l',P1,P2,rfl,rfl,h1,h2⟩:=h
  refine⟨v,l',P1,P2,rfl,rfl,?_,h2.fin hG⟩
  rcases h1 with h1|⟨q1,q2,q3,q4⟩
  ·exact .inl h1
  ·exact .inr ⟨q1,q2,FU.fin hG q3,q4⟩
theorem Tr.fin{s:PD} (hG:Pgr.Good s):∀{h:Nat}{k:Int}{l:List KV}{P:List Int},Tr s h k l P→Tr s.fin h k l P
 |0,k,l,P,h=>h.elim
 |h+1,k,l,P,⟨n,Q,h1,h2,e,h3⟩=>by
  refine⟨n,Q,At.fin hG h1,h2,e,?_⟩
  by_cases e:h=0
  ·rw [decide_eq_true e] at h3⊢;exact .mkl h3.leaf.1 (h3.leaf.2.fin hG)
  ·rw [decide_eq_false e] at h3⊢;exact .mki h3.inner.1 (h3.inner.2.mono (fun c l P _ q=>Tr.fin hG q))
theorem Gr.fin{N i:Nat}{t:TD}{l:List KV}{P:List Int} (h:Gr N i t l P):Gr N i {t with s:=t.s.fin} l P:=
 ⟨⟨X9 h.ok.gd,h.ok.nd,h.ok.ct,by
  rcases h.ok.tr with e|⟨x,e,ht⟩
  ·exact .inl e
  ·exact .inr ⟨x,e,ht.fin h.ok.gd⟩⟩,fun k=>Nu.trans (h.on k),h.ln,h.kv,by show t.s.fin.kinds.length=N;rw [←h.kn];simp [PD.fin,PD.done,PD.flush]⟩
theorem Tok.Er{t:TD}{l:List KV}{P:List Int} (h:Tok t l P) {key:List UInt8} (hw:BL key=0):CX t key=((DP l key).1,(DP l key).2,0):=by
 unfold CX;rw [if_neg (fun q=>q hw)];exact h.get key
end Go.Gk.Tre
end
section
namespace Go.Gk.Chn
open Go Go.Gk Go.Gk.Dev Go.Gk.Cch Go.Gk.Pgr Go.Gk.Node
section
section
variable {P:Program}{pan:List PanicEntry→AS}{Qn:Env→AS}{Ls L:List Ac}{ρ:Env}{d:Ac}{s:GS}{t:Nat}{tk:Bool}
def Cov(e d:Ac) (B:List Ac):Prop:=∀x o,e x o→d x o∨∃g∈B,g x o
theorem AaJ{e d:Ac}{B Lk:List Ac}{b o:Nat}{v:Value} (hc:DC e b o v) (h:Cov e d B) (hm:∀g∈B,g∈Lk):HC d Lk ⟨b,o,none⟩ v:=by
 obtain⟨c,T,fr,h1,h2⟩:=hc
 rcases h _ _ h1 with h1|⟨g,hg,h1⟩
 ·exact⟨rfl,d,.inl rfl,c,T,fr,h1,h2⟩
 ·exact⟨rfl,g,.inr (hm g hg),c,T,fr,h1,h2⟩
theorem Cov.mono{e d d':Ac}{B:List Ac} (h:Cov e d B) (hl:Le d d'):Cov e d' B:=fun x o q=>(h x o q).elim (fun q=>.inl (hl x o q)) .inr
def RB(d:Ac) (B:List Ac) (w:Value) (b:List UInt8):Prop:=∃e,Cov e d B∧AM e w b
theorem RB.mono{d d':Ac}{B:List Ac}{w:Value}{b:List UInt8} (h:RB d B w b) (hl:Le d d'):RB d' B w b:=let ⟨e,h1,h2⟩:=h;⟨e,h1.mono hl,h2⟩
theorem RB.data{d:Ac}{w:Value}{b:List UInt8} (h:AM d w b):RB d [] w b:=⟨d,fun _ _ q=>.inl q,h⟩
theorem RB.own{d g:Ac}{w:Value}{b:List UInt8} (h:As 1 AP d w b g):RB d [g] w b:=
 ⟨join d g,fun _ _ q=>q.elim .inl (fun q=>.inr ⟨g,Acu ..,q⟩),As.rsl (R:=AP) (sz:=1) h AX (by omega) (Le.AI _ _) (Le.A9 _ _)⟩
theorem RB.val{d:Ac}{B:List Ac}{w:Value}{b:List UInt8} (h:RB d B w b):∃a c,w=.slice a b.length c:=let ⟨_,_,h⟩:=h;RSl.val h
theorem VA{e d:Ac}{B Lk:List Ac}{a:Option Addr}{c:Nat}{l:List UInt8} (h:Cov e d B) (hm:∀g∈B,g∈Lk) (hw:AM e (.slice a l.length c) l):(a=none→l=[])∧∀a',a=some a'→∀j u,(l.map Az)[j]?=some u→HC d Lk (a'.add j) u:=by
 obtain⟨a0,c',b',o',q,h2,h3,h4,h5,h6,h7,h8⟩:=hw
 cases q
 refine⟨fun e=>Acm (by have:=h4 e;omega),fun a' ha j u hu=>?_⟩
 rw [Aep] at hu
 cases q:l[j]? with
 |none=>rw [q] at hu;cases hu
 |some y=>
  rw [q] at hu
  cases hu
  obtain⟨hj,rfl⟩:=Acp.1 q
  obtain⟨cs,j1,j2,j3⟩:=h8 j hj
  obtain rfl:=j3
  have ha2:=h2 (by omega)
  rw [ha] at ha2
  cases ha2
  have h9:=j2.at (i:=0) rfl
  have h0:HC d Lk ⟨b',o'+j,none⟩ (Az l[j]):=AaJ (by simpa using h9) h hm
  have ea:(⟨b',o',none⟩:Addr).add j=⟨b',o'+j,none⟩:=by
   unfold Addr.add;simp
  rw [ea];exact h0
theorem RB.src{d:Ac}{B Lk:List Ac}{w:Value}{l:List UInt8} (h:RB d B w l) (hm:∀g∈B,g∈Lk):Src 1 AP d Lk w l:=by
 obtain⟨a,c,rfl⟩:=h.val
 obtain⟨e,h1,h2⟩:=h
 obtain⟨k1,k2⟩:=VA h1 hm h2
 refine⟨l.map Az,⟨a,c,rfl,by simp,fun e=>by rw [k1 e];rfl,k2⟩,CC _,fun i hi=>?_⟩
 simp only [AP,chunk,Aen,←Ahl,←Ahm]
 rw [Adi hi];rfl
theorem Vo{x y:Operand}{b o n c i:Nat}{T:TypeId}{ls:List Value}{w:Value}{l:List UInt8}{t:Option Nat}{e:Ac}{B:List Ac} (ex:ev ρ x=.slice (some ⟨b,o,none⟩) n c) (ey:ev ρ y=w) (hc:Cov e d B) (hw:AM e w l) (hg:∀g∈B,g∈L) (hi:L[i]?=some (bx b T ls)) (hn:o+n≤ls.length)
  (h:gws P pan Qn s Ls (put ρ t (.int .i64 ((min l.length n:Nat):Int))) d (L.set i (bx b T (patch ls o ((l.take n).map Az))))):gws P pan Qn (.op false ⟨t,none,.mop (.cpy 1 x y)⟩ s) Ls ρ d L:=by
 obtain⟨a,c',rfl⟩:=RSl.val hw
 obtain⟨k1,k2⟩:=VA (Lk:=Ls++L++L) hc (fun g q=>Adk _ (hg g q)) hw
 refine⟨d,L,Vs.refl d L,?_⟩
 simp only [gop,gi,mi]
 refine⟨_,n,c,a,l.length,c',(l.take n).map Az,ex,ey,by simp [Nat.min_comm],CC _,fun e=>by rw [k1 e];simp,fun a' ha j u hu=>k2 a' ha j u ?_,.inr ⟨i,b,o,T,ls,rfl,hi,by simp;omega,d,_,Vs.refl d _,h⟩⟩
 rw [Aep,Aek] at hu
 rw [Aep]
 split at hu
 ·exact hu
 ·cases hu
theorem PC{α:Type}{sz n:Nat}{R:Ac→List Value→α→Prop}{xs:List α}{x y:Operand}{v:Value}{kk:IntKind}{d2:Ac}{j:Int} (ex:ev ρ x=v) (hr:RSl sz R d2 v xs) (ey:ev ρ y=.int kk j) (hj:j=(n:Int)) (hn:n≤xs.length) (k:∀v',RSl sz R d2 v' (xs.drop n)→gws P pan Qn s Ls (upd ρ t v') d L):
  gws P pan Qn (.op tk ⟨some t,none,.sl sz x (some y) none none⟩ s) Ls ρ d L:=by
 subst hj
 have hr':=hr
 obtain⟨a,c,b,o,rfl,h2,h3,h4,h5,h6,h7,h8⟩:=hr
 have hc:DQ xs.length c (some (ev ρ y)) none none=some (n,xs.length,c):=by
  simp only [DQ,GN,Gs,GM,Agr,Acj,if_false,Adz,ey,bnd]
  rw [if_pos (by omega)];simp
 refine w_q rfl ⟨a,xs.length,c,n,xs.length,c,ex,fun(h0:c≠n)=>h3 (by omega),hc,rfl⟩ (k _ ?_)
 have:=hr'.cut (l:=n) (h:=xs.length) (m:=c) (by omega) (by omega) (Ach c) (Ach _)
 rwa [Aec (by simp)] at this
end
attribute [local irreducible] gwp gws xwp
def LG(P:Program) (f:FuncId):Prop:=∀{d:Ac}{s:PD}{dv pv bv:Value}{L:List Ac}{b:List UInt8}{B:List Ac},Pg d s dv pv L→RB d B bv b→b.length≤16384→
 Aw P f [pv,bv] d (B++L) (Ret fun r d' L'=>Le d d'∧r=.tuple #[.int .i64 (B0 s b).2.1,.int .i64 (B0 s b).2.2]∧∃L2,L'=B++L2∧Pg d' (B0 s b).1 dv pv L2)
set_option maxRecDepth 4000 in
set_option maxHeartbeats 1000000 in
theorem Xv{P:Program}{f f1 f2 f3:FuncId} (hd:dec P f=some (SZ f1 f2 f3)) (h1:FA P f1) (h2:OU P f2) (h3:Oy P f3):LG P f:=by
 intro d s dv pv bv L b B hp hb hbl
 obtain⟨va,vc,rfl⟩:=hb.val
 obtain⟨eh,hcv,hb⟩:=hb
 obtain⟨bp,rfl⟩:=hp.ptr
 have hpn:1≤AQ b.length∧AQ b.length≤8192:=by unfold AQ;omega
 refine AG hd (Aca rfl) ?_
 show gwp P _ _ _ _ _
 (refine Ad<|Ab rfl<|Ab rfl<|Aa<|Ah<|Ad<|Am rfl<|AL rfl<|BS rfl rfl<|Aa<|Ar rfl (by omega)<|Al<|Ad<|Ak rfl<|Am rfl<|AL rfl ?_)
 refine Bk rfl (h1 (n:=b.length) (by omega)) (fun u d1 L1 _ ⟨e1,e2,e3⟩=>?_)
 subst e1;subst e2;subst e3
 rw [Adt]
 refine A3 B (h2 hp hpn.2) rfl rfl (fun u d2 L2 hl2 ⟨_,v,e1,hv,hp2⟩=>?_)
 subst e1
 by_cases hz:(Bz s (AQ b.length)).2.2=0
 ·have hF:B0 s b=(Ds (Bz s (AQ b.length)).1 (Bz s (AQ b.length)).2.1 b (Bz s (AQ b.length)).2.1.length,(Bz s (AQ b.length)).2.1.getD 0 0,0):=by unfold B0;simp only [hz,if_true]
  rw [hF,hz]
  have hlen:=VB hz
  generalize (Bz s (AQ b.length)).2.1=l at hv hlen
  generalize (Bz s (AQ b.length)).1=t at hp2
  have hll:=hv.BW
  (refine AU rfl<|Ap rfl rfl<|Ap rfl rfl<|AK<|Ab rfl<|Aa<|Ah<|Ad<|Ab rfl<|AO rfl rfl<|Aa<|Ar rfl (by omega)<|Al<|Ah<|Ad<|AK<|BE rfl (by assumption)<|Ab rfl<|Aa<|Ax ?_)
  refine CI (α:=Nat) (fun i=>[(0,.pointer (some ⟨bp,0,none⟩)),(1,.slice va b.length vc),(6,v),(26,v),(27,.int .i64 l.length),(28,.int .i64 i)])
   (fun i d' L'=>Le d2 d'∧i≤l.length∧∃L3,L'=B++L3∧Pg d' (Ds t l b i) dv (.pointer (some ⟨bp,0,none⟩)) L3) (fun i=>l.length - i) 0 ⟨rfl,rfl,rfl,rfl,rfl,rfl,trivial⟩ ⟨Le.refl _,Adf _,L2,rfl,hp2⟩ ?_
  rintro i ρ d' L' ⟨hle,hi,L3,rfl,hp'⟩
  have hv':=RSl.mono (R:=Bi) Cb hv hle
  have hcv':=hcv.mono (hl2.trans hle)
  by_cases e:i<l.length
  ·have him:i*254≤b.length:=PO (by omega)
   by_cases en:i+1<l.length
   ·have hput:Ds t l b (i+1)=((Ds t l b i).put l[i] (D1 l[i+1] (Ck b i))).1:=by
     rw [Ds,show l.getD i 0=l[i] by rw [Acf,Ace e];rfl,show l.getD (i+1) 65535=l[i+1] by rw [Acf,Ace en];rfl]
    (refine Ad<|AA rfl rfl<|Aa<|Ah<|Ay rfl (by omega)<|Al<|Ah<|Ax<|Ad<|Ab rfl<|BH (sz:=1) (R:=Bi) (by rfl) (by assumption) (by rfl) rfl (by omega) ?_;rintro _ _ _ _ _ ⟨rfl,_,_⟩;refine Ag rfl (B5 (by assumption) rfl)<|Ab rfl<|Ab rfl<|Aa<|Ad<|Ab rfl<|Aa<|Ah<|Ad<|Ab rfl<|AN rfl rfl (by omega) (by omega)<|AK<|BE rfl (by assumption)<|AA rfl rfl<|Aa<|Ay rfl (by omega)<|AE<|AK<|Ab rfl<|AN rfl rfl (by omega) (by omega)<|BH (sz:=1) (R:=Bi) (by rfl) (by assumption) (by rfl) rfl (by omega) ?_;rintro _ _ _ _ _ ⟨rfl,_,_⟩;refine Ag rfl (B5 (by assumption) rfl)<|Ab rfl<|Aa<|Ad<|BV (fun _ _=>Aa<|Ad<|Ab rfl<|IQ rfl rfl (by decide)<|Eo rfl<|Ab rfl<|Eo rfl ?_))
    rename_i b11 T11
    refine Oz 0 rfl rfl rfl (by omega) ?_
    refine A0 0 (patch CQ 0 [Az (UInt8.ofNat (l[i+1] / 256 % 256).toNat)]) rfl rfl rfl rfl (by rw [Dh];decide) rfl rfl ?_
    have hl1:(patch CQ 0 [Az (UInt8.ofNat (l[i+1] / 256 % 256).toNat)]).length=256:=by rw [Bu (by rw [Dh];simp)];exact Dh
    refine Oz 1 rfl rfl rfl (by omega) ?_
    refine A0 0 (patch (patch CQ 0 [Az (UInt8.ofNat (l[i+1] / 256 % 256).toNat)]) 1 [Az (UInt8.ofNat (l[i+1] % 256).toNat)]) rfl rfl rfl rfl (by rw [hl1];decide) rfl rfl ?_
    have hl2':(patch (patch CQ 0 [Az (UInt8.ofNat (l[i+1] / 256 % 256).toNat)]) 1 [Az (UInt8.ofNat (l[i+1] % 256).toNat)]).length=256:=by rw [Bu (by rw [hl1];simp)];exact hl1
    (refine Aa<|Ah ?_)
    refine Br [] (bx b11 T11 (patch (patch CQ 0 [Az (UInt8.ofNat (l[i+1] / 256 % 256).toNat)]) 1 [Az (UInt8.ofNat (l[i+1] % 256).toNat)])::(B++L3)) rfl ?_
    refine P8 2 rfl rfl (by omega) ?_
    (refine Am rfl<|Ab rfl<|LB rfl rfl (by omega) (by omega) ?_)
    refine PC (R:=AP) (sz:=1) (n:=i*254) rfl hb rfl (by omega) him (fun w hw=>?_)
    refine Vo (i:=0) rfl rfl hcv' hw (fun g q=>Acy _ (Adh _ q)) rfl (by rw [hl2'];omega) ?_
    have hpp:=Ox (UInt8.ofNat (l[i+1] / 256 % 256).toNat) (UInt8.ofNat (l[i+1] % 256).toNat) (c:=Ck b i) (by unfold Ck;rw [Acw];omega)
    (refine Aa<|AE<|Ak rfl<|Ab rfl ?_)
    refine Q6 rfl (by omega) ?_
    have hpl:(D1 l[i+1] (Ck b i)).length=256:=by
     have:(Ck b i).length≤254:=by unfold Ck;rw [Acw];omega
     unfold D1;simp only [Acs,Acl,Adn];omega
    refine B9 (join d' (bx b11 T11 (patch (patch (patch CQ 0 [Az (UInt8.ofNat (l[i+1] / 256 % 256).toNat)]) 1 [Az (UInt8.ofNat (l[i+1] % 256).toNat)]) 2 ((Ck b i).map Az)))) (B++L3) Vs.freeze ?_
    have hlj:Le d' (join d' (bx b11 T11 (patch (patch (patch CQ 0 [Az (UInt8.ofNat (l[i+1] / 256 % 256).toNat)]) 1 [Az (UInt8.ofNat (l[i+1] % 256).toNat)]) 2 ((Ck b i).map Az)))):=Le.AI _ _
    have hB:AM (join d' (bx b11 T11 (patch (patch (patch CQ 0 [Az (UInt8.ofNat (l[i+1] / 256 % 256).toNat)]) 1 [Az (UInt8.ofNat (l[i+1] % 256).toNat)]) 2 ((Ck b i).map Az)))) (.slice (some ⟨b11,0,none⟩) 256 256) (D1 l[i+1] (Ck b i)):=
     As.rsl (R:=AP) (sz:=1) (As.Yz (d:=d') hpp hpl.symm (Agk (Nat.le_of_eq hpl) (by decide))) AX (by omega) (Le.AI _ _) (Le.A9 _ _)
    refine A3 B (h3 (k:=l[i]) (hp'.mono hlj) hB) rfl rfl (fun u d5 L5 hl5 ⟨q1,hp5⟩=>?_)
    (refine Aa<|AE<|AN rfl rfl (by omega) (by omega)<|Ab rfl<|Aa ?_)
    exact⟨i+1,by omega,⟨rfl,rfl,rfl,rfl,rfl,rfl,trivial⟩,(hle.trans hlj).trans hl5,e,L5,rfl,by rw [hput];exact hp5⟩
   ·have hput:Ds t l b (i+1)=((Ds t l b i).put l[i] (D1 (65535:Int) (Ck b i))).1:=by
     rw [Ds,show l.getD i 0=l[i] by rw [Acf,Ace e];rfl,show l.getD (i+1) 65535=(65535:Int) by rw [Acf,Adq (by omega)];rfl]
    (refine Ad<|AA rfl rfl<|Aa<|Ah<|Ay rfl (by omega)<|Al<|Ah<|Ax<|Ad<|Ab rfl<|BH (sz:=1) (R:=Bi) (by rfl) (by assumption) (by rfl) rfl (by omega) ?_;rintro _ _ _ _ _ ⟨rfl,_,_⟩;refine Ag rfl (B5 (by assumption) rfl)<|Ab rfl<|Ab rfl<|Aa<|Ad<|Ab rfl<|Aa<|Ah<|Ad<|Ab rfl<|AN rfl rfl (by omega) (by omega)<|AK<|BE rfl (by assumption)<|AA rfl rfl<|Aa<|Ar rfl (by omega)<|Al<|Ad<|BV (fun _ _=>Aa<|Ad<|Ab rfl<|IQ rfl rfl (by decide)<|Eo rfl<|Ab rfl<|Eo rfl ?_))
    rename_i b11 T11
    refine Oz 0 rfl rfl rfl (by omega) ?_
    refine A0 0 (patch CQ 0 [Az (UInt8.ofNat ((65535:Int) / 256 % 256).toNat)]) rfl rfl rfl rfl (by rw [Dh];decide) rfl rfl ?_
    have hl1:(patch CQ 0 [Az (UInt8.ofNat ((65535:Int) / 256 % 256).toNat)]).length=256:=by rw [Bu (by rw [Dh];simp)];exact Dh
    refine Oz 1 rfl rfl rfl (by omega) ?_
    refine A0 0 (patch (patch CQ 0 [Az (UInt8.ofNat ((65535:Int) / 256 % 256).toNat)]) 1 [Az (UInt8.ofNat ((65535:Int) % 256).toNat)]) rfl rfl rfl rfl (by rw [hl1];decide) rfl rfl ?_
    have hl2':(patch (patch CQ 0 [Az (UInt8.ofNat ((65535:Int) / 256 % 256).toNat)]) 1 [Az (UInt8.ofNat ((65535:Int) % 256).toNat)]).length=256:=by rw [Bu (by rw [hl1];simp)];exact hl1
    (refine Aa<|Ah ?_)
    refine Br [] (bx b11 T11 (patch (patch CQ 0 [Az (UInt8.ofNat ((65535:Int) / 256 % 256).toNat)]) 1 [Az (UInt8.ofNat ((65535:Int) % 256).toNat)])::(B++L3)) rfl ?_
    refine P8 2 rfl rfl (by omega) ?_
    (refine Am rfl<|Ab rfl<|LB rfl rfl (by omega) (by omega) ?_)
    refine PC (R:=AP) (sz:=1) (n:=i*254) rfl hb rfl (by omega) him (fun w hw=>?_)
    refine Vo (i:=0) rfl rfl hcv' hw (fun g q=>Acy _ (Adh _ q)) rfl (by rw [hl2'];omega) ?_
    have hpp:=Ox (UInt8.ofNat ((65535:Int) / 256 % 256).toNat) (UInt8.ofNat ((65535:Int) % 256).toNat) (c:=Ck b i) (by unfold Ck;rw [Acw];omega)
    (refine Aa<|AE<|Ak rfl<|Ab rfl ?_)
    refine Q6 rfl (by omega) ?_
    have hpl:(D1 (65535:Int) (Ck b i)).length=256:=by
     have:(Ck b i).length≤254:=by unfold Ck;rw [Acw];omega
     unfold D1;simp only [Acs,Acl,Adn];omega
    refine B9 (join d' (bx b11 T11 (patch (patch (patch CQ 0 [Az (UInt8.ofNat ((65535:Int) / 256 % 256).toNat)]) 1 [Az (UInt8.ofNat ((65535:Int) % 256).toNat)]) 2 ((Ck b i).map Az)))) (B++L3) Vs.freeze ?_
    have hlj:Le d' (join d' (bx b11 T11 (patch (patch (patch CQ 0 [Az (UInt8.ofNat ((65535:Int) / 256 % 256).toNat)]) 1 [Az (UInt8.ofNat ((65535:Int) % 256).toNat)]) 2 ((Ck b i).map Az)))):=Le.AI _ _
    have hB:AM (join d' (bx b11 T11 (patch (patch (patch CQ 0 [Az (UInt8.ofNat ((65535:Int) / 256 % 256).toNat)]) 1 [Az (UInt8.ofNat ((65535:Int) % 256).toNat)]) 2 ((Ck b i).map Az)))) (.slice (some ⟨b11,0,none⟩) 256 256) (D1 (65535:Int) (Ck b i)):=
     As.rsl (R:=AP) (sz:=1) (As.Yz (d:=d') hpp hpl.symm (Agk (Nat.le_of_eq hpl) (by decide))) AX (by omega) (Le.AI _ _) (Le.A9 _ _)
    refine A3 B (h3 (k:=l[i]) (hp'.mono hlj) hB) rfl rfl (fun u d5 L5 hl5 ⟨q1,hp5⟩=>?_)
    (refine Aa<|AE<|AN rfl rfl (by omega) (by omega)<|Ab rfl<|Aa ?_)
    exact⟨i+1,by omega,⟨rfl,rfl,rfl,rfl,rfl,rfl,trivial⟩,(hle.trans hlj).trans hl5,e,L5,rfl,by rw [hput];exact hp5⟩
  ·have:i=l.length:=by omega
   subst this
   have h0:0<l.length:=by omega
   have hg0:l.getD 0 0=l[0]:=by rw [Acf,Ace h0];rfl
   rw [hg0]
   (refine Ad<|AA rfl rfl<|Aa<|Ah<|Ar rfl (by omega)<|Bh<|Ad<|AK<|BH (sz:=1) (R:=Bi) (by rfl) (by assumption) (by rfl) rfl (by omega) ?_;rintro _ _ _ _ _ ⟨rfl,_,_⟩;refine Ag rfl (B5 (by assumption) rfl)<|Ab rfl<|Ab rfl<|Aa<|Ao ?_)
   exact CF rfl rfl (Acb _) ⟨hl2.trans hle,rfl,L3,rfl,hp'⟩
 ·have hF:B0 s b=((Bz s (AQ b.length)).1,0,(Bz s (AQ b.length)).2.2):=by unfold B0;simp only [hz,if_false]
  rw [hF]
  (refine AU rfl<|Ap rfl rfl<|Ap rfl rfl<|AK<|Ab rfl<|Aa<|Ah<|Ad<|Ab rfl<|AO rfl rfl<|Aa<|Ay rfl (by omega)<|Ad<|Ab rfl<|Ab rfl<|Ab rfl<|Aa<|Ao ?_)
  exact CF rfl rfl (Acb _) ⟨hl2,rfl,L2,rfl,hp2⟩
end
end Go.Gk.Chn
end
section
namespace Go.Gk.Tre
open Go Go.Gk Go.Gk.Dev Go.Gk.Cch Go.Gk.Pgr Go.Gk.Chn Go.Gk.Node
attribute [local irreducible] gwp gws xwp
theorem Aax{P:Program}{f:FuncId} (h:LG P f) {d:Ac}{s:PD}{dv pv w:Value}{L:List Ac}{b:List UInt8}{B:List Ac} (hp:PgT d s dv pv L) (hb:RB d B w b) (hl:b.length≤16384):
  Aw P f [pv,w] d (B++L) (Ret fun r d' L'=>Le d d'∧r=.tuple #[.int .i64 (B0 s b).2.1,.int .i64 (B0 s b).2.2]∧∃L2,L'=B++L2∧PgT d' (B0 s b).1 dv pv L2):=by
 obtain⟨n,hp⟩:=hp
 refine Aw.Dr (h hp hb hl) (fun r d' L' _ ⟨h0,h1,L2,h2,h3⟩=>⟨d',L',Vs.refl _ _,h0,?_,L2,h2,n,?_⟩)
 ·rw [h1];rw [show B0 (wtc s n) b=(wtc (B0 s b).1 n,(B0 s b).2) from R0]
 ·rw [show B0 (wtc s n) b=(wtc (B0 s b).1 n,(B0 s b).2) from R0] at h3
  exact h3
def JW(P:Program) (f:FuncId):Prop:=∀{d:Ac}{s:PD}{dv pv w:Value}{L:List Ac}{bt:Nat}{Tt:TypeId}{r h c:Int}{b:List UInt8}{B:List Ac},PgT d s dv pv L→RB d B w b→b.length≤16384→
 Aw P f [.pointer (some ⟨bt,0,none⟩),w] d (tb bt Tt pv r h c::(B++L)) (Ret fun v d' L'=>Le d d'∧∃u L2,v=.tuple #[u,.int .i64 (BU s b).2.2]∧L'=tb bt Tt pv r h c::(B++L2)∧AM d' u (BU s b).2.1∧PgT d' (BU s b).1 dv pv L2)
set_option maxRecDepth 4000 in
theorem WH{P:Program}{f f1:FuncId} (hd:dec P f=some (MO f1)) (h1:LG P f1):JW P f:=by
 intro d s dv pv w L bt Tt r h c b B hp hw hbl
 obtain⟨bp,rfl⟩:=hp.ptr
 obtain⟨wa,wc,rfl⟩:=hw.val
 refine AG hd (Aca rfl) ?_
 show gwp P _ _ _ _ _
 by_cases h15:b.length≤15
 ·have hF:BU s b=(s,0::b,0):=by unfold BU;rw [if_pos h15]
  rw [hF]
  (refine Ad<|Am rfl<|Ab rfl<|Aa<|Ah<|Ad<|Am rfl<|AL rfl<|NM rfl rfl<|Aa<|Ay rfl (by omega)<|Ad ?_)
  refine Ea (v0:=.int .u8 0) rfl rfl (fun b3 T3=>?_)
  (apply Am;rfl)
  refine Pa (R:=AP) (sz:=1) (xs:=[0]) AX rfl (As.Es (x:=(0:UInt8)) rfl rfl) rfl (hw.src (fun g q=>by simp [q])) (by omega) (by simp;omega) (by simp;omega) (fun a c' d' hl hu=>?_)
  (refine Am rfl<|Ab rfl<|Aa<|Ao ?_)
  exact CF rfl rfl (Acb _) ⟨hl,_,L,rfl,rfl,hu,hp.mono hl⟩
 ·have hF:BU s b=((B0 s b).1,F6 (B0 s b).2.1 b.length,(B0 s b).2.2):=by unfold BU;rw [if_neg h15]
  rw [hF]
  (refine Ad<|Am rfl<|Ab rfl<|Aa<|Ah<|Ad<|Am rfl<|AL rfl<|NM rfl rfl<|Aa<|Ar rfl (by omega)<|Al<|Ad<|Ak rfl<|Av rfl<|Ai rfl<|Ag rfl (Aj 0 rfl rfl)<|Am rfl ?_)
  refine A3 [_] (Aax h1 hp hw hbl) rfl rfl (fun v d2 L2' hl ⟨_,e1,L2,e2,hp2⟩=>?_)
  subst e1;subst e2
  have hrg:=W4 (b:=b) hp.E0
  (refine AU rfl<|Ap rfl rfl<|Ap rfl rfl<|Ab rfl<|Ab rfl<|Aa<|Ad<|Am rfl<|AL rfl<|Ab rfl<|Aa<|Ad<|Ab rfl<|IQ rfl rfl (by decide)<|Eo rfl<|Ab rfl<|Eo rfl<|Ab rfl ?_)
  refine VX 24 ((b.length:Int) / 16777216) rfl rfl (by omega) (by omega) rfl ?_
  (refine Eo rfl<|Ab rfl ?_)
  refine VX 16 ((b.length:Int) / 65536) rfl rfl (by omega) (by omega) rfl ?_
  (refine Eo rfl<|Ab rfl<|IQ rfl rfl (by decide)<|Eo rfl<|Ab rfl<|Eo rfl ?_)
  refine AaI (a0:=1) (a1:=bI ((B0 s b).2.1 / 256)) (a2:=bI (B0 s b).2.1) (a3:=bI ((b.length:Int) / 16777216)) (a4:=bI ((b.length:Int) / 65536)) (a5:=bI ((b.length:Int) / 256)) (a6:=bI b.length) rfl rfl rfl rfl rfl rfl rfl (fun b9 T9=>?_)
  (refine Ab rfl<|Am rfl<|Ab rfl<|Aa<|Ao ?_)
  exact A7 [.slice (some ⟨b9,0,none⟩) 7 7,.int .i64 (B0 s b).2.2] ⟨Au rfl,Au rfl,trivial⟩ (d':=join d2 (bx b9 T9 ((F6 (B0 s b).2.1 b.length).map Az))) (L':=tb bt Tt (.pointer (some ⟨bp,0,none⟩)) r h c::(B++L2)) Vs.freeze
   ⟨hl.trans (Le.AI _ _),_,L2,rfl,rfl,As.rsl (R:=AP) (sz:=1) (d:=d2) (As.Yz rfl rfl (by simp [F6])) AX (by omega) (Le.AI _ _) (Le.A9 _ _),hp2.mono (Le.AI _ _)⟩
section
def PgG(B:List Ac) (d:Ac) (s:PD) (dv pv:Value) (M:List Ac):Prop:=∃L,M.Perm (B++L)∧PgT d s dv pv L
section
variable {P:Program}{f:FuncId}{B:List Ac}{d:Ac}{s:PD}{dv pv:Value}{M:List Ac}{bt:Nat}{Tt:TypeId}
theorem PgG.mono{d':Ac} (h:PgG B d s dv pv M) (hl:Le d d'):PgG B d' s dv pv M:=let ⟨L,p,h⟩:=h;⟨L,p,h.mono hl⟩
theorem PgG.ptr(h:PgG B d s dv pv M):∃b,pv=.pointer (some ⟨b,0,none⟩):=let ⟨_,_,h⟩:=h;h.ptr
theorem PgG.E0(h:PgG B d s dv pv M):Pgr.Good s:=let ⟨_,_,h⟩:=h;h.E0
theorem Ug{A:Ac}{L:List Ac}{args:List Value}{R R':Value→Ac→List Ac→Prop} (p:M.Perm (B++L)) (h:Aw P f args d (A::L) (Ret R)) (hR:∀v d' A',Le d d'→R v d' A'→∃L',(A'++B).Perm L'∧R' v d' L'):Aw P f args d (A::M) (Ret R'):=
 Aw.pre (Acn A (p.trans Aci)) (Aw.Vr h hR)
theorem Nv{L2:List Ac} (h:PgT d s dv pv L2):PgG B d s dv pv (L2++B):=⟨L2,Aci,h⟩
theorem AbB(h:Hx P f) {r h' c k:Int}{cs:List Value}{n:AF} (hp:PgG B d s dv pv M) (hn:Cx d cs n) (hz:A5 n≤1000000000000):
  Aw P f [.pointer (some ⟨bt,0,none⟩),.int .i64 k,.agg cs.toArray] d (tb bt Tt pv r h' c::M) (Ret fun v d' L'=>Le d d'∧v=.tuple #[.int .i64 (Bt s k n).2.1,.int .i64 (Bt s k n).2.2]∧∃L2,L'=tb bt Tt pv r h' c::L2∧PgG B d' (Bt s k n).1 dv pv L2):=by
 obtain⟨L,p,hp⟩:=hp
 exact Ug p (h (Tt:=Tt) hp hn hz) (fun v d' A' _ ⟨h1,h2,L2,h3,h4⟩=>⟨tb bt Tt pv r h' c::(L2++B),by rw [h3];exact Adp _,h1,h2,_,rfl,Nv h4⟩)
theorem AbH(hf:Oj P f) (x:Nat) {w cv:Value}{r h c k:Int}{key cell:List UInt8} (hx:x≤1000000) (hp:PgG B d s dv pv M) (hk:AM d w key) (hc:AM d cv cell) (h1:key.length≤1000) (h2:cell.length≤1000) (h3: -1≤k) (h4:k≤16384):
  Aw P f [.pointer (some ⟨bt,0,none⟩),.int .i64 k,.int .i64 ((x+1:Nat):Int),w,cv] d (tb bt Tt pv r h c::M) (Ret fun v d' L'=>Le d d'∧∃ua uc L2,v=.tuple #[mdV (BY s k key cell (x+1)).2.1 ua uc,.bool (BY s k key cell (x+1)).2.2.1,.int .i64 (BY s k key cell (x+1)).2.2.2]∧
   AM d' (.slice ua (BY s k key cell (x+1)).2.1.key.length uc) (BY s k key cell (x+1)).2.1.key∧MOk (BY s k key cell (x+1)).2.1∧L'=tb bt Tt pv r h c::L2∧PgG B d' (BY s k key cell (x+1)).1 dv pv L2):=by
 obtain⟨L,p,hp⟩:=hp
 exact Ug p (hf x (Tt:=Tt) hx hp hk hc h1 h2 h3 h4) (fun v d' A' _ ⟨h1,ua,uc,L2,h2,h3,h4,h5,h6⟩=>⟨tb bt Tt pv r h c::(L2++B),by rw [h5];exact Adp _,h1,ua,uc,_,h2,h3,h4,rfl,Nv h6⟩)
theorem Abx(h:IX P f) {t:TD}{m:MdD}{ua:Option Addr}{uc:Nat} (hp:PgG B d t.s dv pv M) (hk:AM d (.slice ua m.key.length uc) m.key) (hm:MOk m) (hh:t.height≤1000000):
  Aw P f [.pointer (some ⟨bt,0,none⟩),mdV m ua uc] d (tbD bt Tt pv t::M) (Ret fun v d' L'=>Le d d'∧v=.int .i64 (CK t m).2∧∃L2,L'=tbD bt Tt pv (CK t m).1::L2∧PgG B d' (CK t m).1.s dv pv L2):=by
 obtain⟨L,p,hp⟩:=hp
 exact Ug p (h (Tt:=Tt) hp hk hm hh) (fun v d' A' _ ⟨h1,h2,L2,h3,h4⟩=>⟨tbD bt Tt pv (CK t m).1::(L2++B),by rw [h3];exact Adp _,h1,h2,_,rfl,Nv h4⟩)
theorem Abo(h:JW P f) {w:Value}{r h' c:Int}{b:List UInt8} (hp:PgG B d s dv pv M) (hw:RB d B w b) (hl:b.length≤16384):
  Aw P f [.pointer (some ⟨bt,0,none⟩),w] d (tb bt Tt pv r h' c::M) (Ret fun v d' L'=>Le d d'∧∃u L2,v=.tuple #[u,.int .i64 (BU s b).2.2]∧L'=tb bt Tt pv r h' c::L2∧AM d' u (BU s b).2.1∧PgG B d' (BU s b).1 dv pv L2):=by
 obtain⟨L,p,hp⟩:=hp
 refine Aw.pre (Acn _ p) (Aw.Dr (h (Tt:=Tt) hp hw hl) (fun v d' L' _ ⟨h1,u,L2,h2,h3,h4,h5⟩=>⟨d',L',Vs.refl _ _,h1,u,_,h2,h3,h4,L2,Adp _,h5⟩))
end
def MQ(P:Program) (f:FuncId):Prop:=∀{d:Ac}{t:TD}{dv pv:Value}{L:List Ac}{bt b3 b4 b5:Nat}{Tt T3 T4 T5:TypeId}{ka va:Option Addr}{kc vc:Nat}{key value:List UInt8}{B:List Ac},PgG B d t.s dv pv L→AM d (.slice ka key.length kc) key→RB d B (.slice va value.length vc) value→key.length≤64→value.length≤16384→Kg t→
 Aw P f [.pointer (some ⟨b3,0,none⟩),.pointer (some ⟨b5,0,none⟩),.pointer (some ⟨b4,0,none⟩)] d (tbD bt Tt pv t::([bx b3 T3 [.pointer (some ⟨bt,0,none⟩)],bx b5 T5 [.slice va value.length vc],bx b4 T4 [.slice ka key.length kc]]++L))
  (Ret fun v d' L'=>Le d d'∧v=.int .i64 (CL t key value).2∧∃L2,L'=tbD bt Tt pv (CL t key value).1::([bx b3 T3 [.pointer (some ⟨bt,0,none⟩)],bx b5 T5 [.slice va value.length vc],bx b4 T4 [.slice ka key.length kc]]++L2)∧PgG B d' (CL t key value).1.s dv pv L2)
set_option maxRecDepth 4000 in
set_option maxHeartbeats 4000000 in
theorem Wr{P:Program}{f f1 f2 f3 f4 f5:FuncId} (hd:Jn P f=some (Ml f1 f2 f3 f4 f5)) (h1:JW P f1) (h2:Hx P f2) (h3:Oj P f3) (h4:Pt P f4) (h5:IX P f5):MQ P f:=by
 intro d t dv pv L bt b3 b4 b5 Tt T3 T4 T5 ka va kc vc key value B hp hk hv hkl hvl hf
 obtain⟨bp,rfl⟩:=hp.ptr
 obtain⟨s,root,height,count⟩:=t
 obtain⟨hr0,hr1,hh,hc⟩:=hf
 simp only at hp hr0 hr1 hh hc
 refine AG hd (Aca rfl) ?_
 show gwp P _ _ _ _ _
 apply Ah;apply AE
 refine B9 d ([bx b3 T3 [.pointer (some ⟨bt,0,none⟩)],bx b5 T5 [.slice va value.length vc],bx b4 T4 [.slice ka key.length kc]]++tbD bt Tt (.pointer (some ⟨bp,0,none⟩)) ⟨s,root,height,count⟩::L) (Vs.perm List.perm_middle.symm) ?_
 (refine Ab rfl<|Aa<|Ad<|Ag rfl (Aj 0 rfl rfl)<|Ag rfl (Aj 1 rfl rfl) ?_)
 refine A3 [_,_,_] (Abo h1 hp hv hvl) rfl rfl (fun v d2 L2 hl2 ⟨_,u,L3,e1,e2,hu,hp2⟩=>?_)
 subst e1;subst e2
 have hcl:=YA s value
 have hP:CL ⟨s,root,height,count⟩ key value=if (BU s value).2.2≠0 then(⟨(BU s value).1,root,height,count⟩,(BU s value).2.2) else if height=0 then(⟨(Bt (BU s value).1 (-1) ⟨true,[key],[(BU s value).2.1],[]⟩).1,(Bt (BU s value).1 (-1) ⟨true,[key],[(BU s value).2.1],[]⟩).2.1,1,1⟩,(Bt (BU s value).1 (-1) ⟨true,[key],[(BU s value).2.1],[]⟩).2.2) else
  if (BY (BU s value).1 root key (BU s value).2.1 height).2.2.2≠0 then(⟨(BY (BU s value).1 root key (BU s value).2.1 height).1,root,height,count⟩,(BY (BU s value).1 root key (BU s value).2.1 height).2.2.2) else
  CK ⟨(BY (BU s value).1 root key (BU s value).2.1 height).1,root,height,count+(if (BY (BU s value).1 root key (BU s value).2.1 height).2.2.1 then 1 else 0)⟩ (BY (BU s value).1 root key (BU s value).2.1 height).2.1:=rfl
 rw [hP]
 clear hP
 obtain⟨ua,uc,rfl⟩:=hu.val
 generalize BU s value=C at hu hp2 hcl
 obtain⟨s1,cell,ce⟩:=C
 simp only at hu hp2 hcl⊢
 have hk2:=RSl.mono (R:=AP) AX hk hl2
 by_cases hce:ce=0
 ·rw [if_neg (fun q=>q hce)]
  subst hce
  by_cases hh0:height=0
  ·subst hh0
   rw [if_pos rfl]
   (refine AU rfl<|Ap rfl rfl<|Ap rfl rfl<|Am rfl<|Ab rfl<|Aa<|Ah<|Ad<|Ab rfl<|AO rfl rfl<|Aa<|Ar rfl (by omega)<|Al<|Ah<|Ad<|Ag rfl (Aj 0 rfl rfl)<|Av rfl<|Ai rfl<|Ag rfl (Aj 3 rfl rfl)<|AJ rfl rfl<|Aa<|Ay rfl (by omega)<|Ad<|Ag rfl (Aj 0 rfl rfl)<|Ag rfl (Aj 2 rfl rfl) ?_)
   refine Ea (v0:=.slice ka key.length kc) rfl rfl (fun b27 T27=>?_)
   (apply Am;rfl)
   refine Ea (v0:=.slice ua cell.length uc) rfl rfl (fun b29 T29=>?_)
   (apply BI;rfl)
   obtain⟨d3,hl3,v3,l1,l2⟩:∃d3,Le d2 d3∧Vs d2 (bx b29 T29 [.slice ua cell.length uc]::bx b27 T27 [.slice ka key.length kc]::[]) d3 []∧Le (bx b29 T29 [.slice ua cell.length uc]) d3∧Le (bx b27 T27 [.slice ka key.length kc]) d3:=
    ⟨join (join d2 (bx b29 T29 [.slice ua cell.length uc])) (bx b27 T27 [.slice ka key.length kc]),(Le.AI _ _).trans (Le.AI _ _),Vs.freeze.trans Vs.freeze,(Le.A9 _ _).trans (Le.AI _ _),Le.A9 _ _⟩
   have hn:Cx d3 [.bool true,.slice (some ⟨b27,0,none⟩) 1 1,.slice (some ⟨b29,0,none⟩) 1 1,.slice none 0 0] ⟨true,[key],[cell],[]⟩:=
    ⟨_,_,_,rfl,As.rsl (R:=RBs) (sz:=1) (d:=d2) (As.Es (x:=key) rfl ⟨_,rfl,hk2⟩) EW (by omega) hl3 l2,As.rsl (R:=RBs) (sz:=1) (d:=d2) (As.Es (x:=cell) rfl ⟨_,rfl,hu⟩) EW (by omega) hl3 l1,RSl.nil⟩
   refine B9 _ _ (Vs.app v3 _) ?_
   refine A3 [_,_,_] (AbB h2 (k:= -1) (hp2.mono hl3) hn (by simp [A5,Bm,DY,Df,ES];omega)) rfl rfl (fun v d4 L4 hl4 ⟨_,e4,L5,e5,hp5⟩=>?_)
   subst e4;subst e5
   generalize Bt s1 (-1) ⟨true,[key],[cell],[]⟩=Q at hp5
   (refine AU rfl<|Ap rfl rfl<|Ap rfl rfl<|Ab rfl<|Ab rfl<|Aa<|Ad<|Ag rfl (Aj 0 rfl rfl)<|Ag rfl (Aj 0 rfl rfl)<|Ag rfl (Aj 0 rfl rfl)<|Ab rfl<|Av rfl<|Ai rfl ?_)
   refine A0 3 [.pointer (some ⟨bp,0,none⟩),.int .i64 Q.2.1,.int .i64 ((0:Nat):Int),.int .i64 count] rfl rfl rfl rfl (Aca rfl) rfl rfl ?_
   (refine Av rfl<|Ai rfl ?_)
   refine A0 3 [.pointer (some ⟨bp,0,none⟩),.int .i64 Q.2.1,.int .i64 1,.int .i64 count] rfl rfl rfl rfl (Aca rfl) rfl rfl ?_
   (refine Av rfl<|Ai rfl ?_)
   refine A0 3 [.pointer (some ⟨bp,0,none⟩),.int .i64 Q.2.1,.int .i64 1,.int .i64 1] rfl rfl rfl rfl (Aca rfl) rfl rfl ?_
   (refine Aa<|Ad<|Ab rfl<|Ab rfl<|Aa<|Ao ?_)
   exact A7 [.int .i64 Q.2.2] ⟨Au rfl,trivial⟩ (d':=d4) (L':=tbD bt Tt (.pointer (some ⟨bp,0,none⟩)) ⟨Q.1,Q.2.1,1,1⟩::([bx b3 T3 [.pointer (some ⟨bt,0,none⟩)],bx b5 T5 [.slice va value.length vc],bx b4 T4 [.slice ka key.length kc]]++L5)) (Vs.perm (Adj (a:=tbD bt Tt (.pointer (some ⟨bp,0,none⟩)) ⟨Q.1,Q.2.1,1,1⟩) (l₁:=[bx b3 T3 [.pointer (some ⟨bt,0,none⟩)],bx b5 T5 [.slice va value.length vc],bx b4 T4 [.slice ka key.length kc]]) (l₂:=L5))) ⟨(hl2.trans hl3).trans hl4,rfl,L5,rfl,hp5⟩
  ·rw [if_neg hh0]
   obtain⟨x,rfl⟩:∃x,height=x+1:=⟨height - 1,by omega⟩
   (refine AU rfl<|Ap rfl rfl<|Ap rfl rfl<|Am rfl<|Ab rfl<|Aa<|Ah<|Ad<|Ab rfl<|AO rfl rfl<|Aa<|Ar rfl (by omega)<|Al<|Ah<|Ad<|Ag rfl (Aj 0 rfl rfl)<|Av rfl<|Ai rfl<|Ag rfl (Aj 3 rfl rfl)<|AJ rfl rfl<|Aa<|Ar rfl (by omega)<|Al<|Ah ?_)
   refine Br [_,_,_,_] L3 rfl ?_
   (refine Ag rfl (Aj 0 rfl rfl)<|Ag rfl (Aj 0 rfl rfl)<|Av rfl<|Ai rfl<|Ag rfl (Aj 3 rfl rfl)<|Ag rfl (Aj 0 rfl rfl)<|Av rfl<|Ai rfl<|Ag rfl (Aj 3 rfl rfl)<|Ag rfl (Aj 2 rfl rfl)<|Am rfl ?_)
   have hins:=AbH h3 x (r:=root) (h:=((x+1:Nat):Int)) (c:=count) (bt:=bt) (Tt:=Tt) (k:=root) (by omega) hp2 hk2 hu (by omega) (by omega) hr0 hr1
   generalize BY s1 root key cell (x+1)=U at hins⊢
   refine Gz (α:=Nat×TypeId) (β:=Option Addr×Nat×List Ac) [(0,.pointer (some ⟨b3,0,none⟩)),(1,.pointer (some ⟨b5,0,none⟩)),(2,.pointer (some ⟨b4,0,none⟩))]
    (fun x=>[(8,.pointer (some ⟨x.1,0,none⟩))]) (fun x d L=>L=[bx x.1 x.2 [.int .i64 0,.int .i64 0,.slice none 0 0,.int .i64 0]])
    (fun y=>[(58,mdV U.2.1 y.1 y.2.1),(59,.bool U.2.2.1),(60,.int .i64 U.2.2.2)]) (fun y d' M=>AM d' (.slice y.1 U.2.1.key.length y.2.1) U.2.1.key∧MOk U.2.1∧PgG B d' U.1 dv (.pointer (some ⟨bp,0,none⟩)) y.2.2∧M=y.2.2) [] L3 rfl
    (fun x d d' M hl h=>h) (fun y d d' M hl h=>⟨RSl.mono (R:=AP) AX h.1 hl,h.2.1,h.2.2.1.mono hl,h.2.2.2⟩) (fun x=>rfl) (fun y=>rfl) rfl ⟨rfl,rfl,rfl,trivial⟩ ?_ ?_ ?_
   ·refine BV (fun b8 T8=>?_)
    (apply A8)
    exact⟨_,rfl,(b8,T8),⟨rfl,trivial⟩,rfl⟩
   ·refine TN (B:=[_,_,_]) hins (Aci (l₁:=[_,_,_])) rfl (fun v d4 L4 hl4 ⟨_,wa,wc,L5,e4,hk4,hm4,e5,hp5⟩=>⟨L5,by rw [e5];exact Aci (l₂:=[_,_,_]),?_⟩)
    subst e4
    (refine AU rfl<|Ap rfl rfl<|Ap rfl rfl<|Ap rfl rfl<|A8 ?_)
    exact⟨_,rfl,(wa,wc,L5),⟨rfl,rfl,rfl,trivial⟩,hk4,hm4,hp5,rfl⟩
   rintro⟨b8,T8⟩ ⟨wa,wc,L5⟩ ρ2 d4 M1 M2 hl4 hM1 ⟨hk4,hm4,hp5,hM2⟩
   subst hM1;subst hM2
   simp only at hk4 hp5⊢
   refine Bq 0 rfl rfl rfl rfl (Ach _) rfl ?_
   clear hins
   obtain⟨us,um,uw,ue⟩:=U
   simp only at hk4 hm4 hp5⊢
   (refine Ae rfl<|Ab rfl<|A8<|Ah<|Ad<|Ab rfl<|AO rfl rfl<|Aa ?_)
   by_cases hue:ue=0
   ·rw [if_neg (fun q=>q hue)]
    subst hue
    have hcb:count+(if uw=true then 1 else 0)≤1000000:=by split<;>omega
    (refine Ar rfl (by omega)<|Al<|Ah ?_)
    refine Br [_,_,_,_,_] M2 rfl ?_
    (refine Ag rfl (Aj 0 rfl rfl)<|Av rfl<|Ai rfl<|Ag rfl (Aj 3 rfl rfl)<|Ae rfl ?_)
    refine BR rfl (h4 (b:=uw)) ?_
    have hcc:(count:Int)+(if uw=true then 1 else 0)=((count+(if uw=true then 1 else 0):Nat):Int):=by split<;>omega
    refine AN rfl rfl (by split<;>omega) (by split<;>omega) ?_
    (refine Av rfl<|Ai rfl<|B4 ?_)
    refine A0 3 [.pointer (some ⟨bp,0,none⟩),.int .i64 root,.int .i64 ((x+1:Nat):Int),.int .i64 ((count:Int)+(if uw=true then 1 else 0))] rfl rfl rfl rfl (Aca rfl) rfl rfl ?_
    rw [hcc]
    (refine Aa<|Ad<|Ag rfl (Aj 0 rfl rfl)<|Bg 4 rfl rfl rfl ?_)
    refine CU (A:=tbD bt Tt (.pointer (some ⟨bp,0,none⟩)) ⟨us,root,x+1,count+(if uw=true then 1 else 0)⟩::M2) (B:=[_,_,_,_]) (Abx h5 (t:=⟨us,root,x+1,count+(if uw=true then 1 else 0)⟩) (m:=um) hp5 hk4 hm4 (by show x+1≤1000000;omega))
     ((Adj (l₁:=[_,_,_])).trans (Acn _ (Aci (l₁:=[_,_,_,_])))) rfl (fun v d6 L6 hl6 ⟨_,e6,L7,e7,hp7⟩=>?_)
    subst e6;subst e7
    refine⟨d6,_,Vs.perm (Aci (l₂:=[_,_,_,_])),?_⟩
    (refine Ab rfl<|Aa<|Ao ?_)
    exact A7 [.int .i64 _] ⟨Au rfl,trivial⟩ (d':=d6) (L':=tbD bt Tt (.pointer (some ⟨bp,0,none⟩)) (CK ⟨us,root,x+1,count+(if uw=true then 1 else 0)⟩ um).1::([bx b3 T3 [.pointer (some ⟨bt,0,none⟩)],bx b5 T5 [.slice va value.length vc],bx b4 T4 [.slice ka key.length kc]]++L7)) ((Vs.drop (L':=[bx b3 T3 [.pointer (some ⟨bt,0,none⟩)],bx b5 T5 [.slice va value.length vc],bx b4 T4 [.slice ka key.length kc]]++(tbD bt Tt (.pointer (some ⟨bp,0,none⟩)) (CK ⟨us,root,x+1,count+(if uw=true then 1 else 0)⟩ um).1::L7)) (.cons_cons _ (.cons_cons _ (.cons_cons _ (.cons _ (Acb _)))))).trans (Vs.perm Adj)) ⟨(hl2.trans hl4).trans hl6,rfl,L7,rfl,hp7⟩
   ·rw [if_pos hue]
    (refine Ay rfl (by omega)<|Ad<|Ab rfl<|Ab rfl<|Aa<|Ao ?_)
    exact A7 [.int .i64 ue] ⟨Au rfl,trivial⟩ (d':=d4) (L':=tbD bt Tt (.pointer (some ⟨bp,0,none⟩)) ⟨us,root,x+1,count⟩::([bx b3 T3 [.pointer (some ⟨bt,0,none⟩)],bx b5 T5 [.slice va value.length vc],bx b4 T4 [.slice ka key.length kc]]++M2)) ((Vs.drop (L':=[bx b3 T3 [.pointer (some ⟨bt,0,none⟩)],bx b5 T5 [.slice va value.length vc],bx b4 T4 [.slice ka key.length kc]]++(tbD bt Tt (.pointer (some ⟨bp,0,none⟩)) ⟨us,root,x+1,count⟩::M2)) (.cons_cons _ (.cons_cons _ (.cons_cons _ (.cons_cons _ (.cons _ (Acb _))))))).trans (Vs.perm Adj)) ⟨hl2.trans hl4,rfl,M2,rfl,hp5⟩
 ·rw [if_pos hce]
  (refine AU rfl<|Ap rfl rfl<|Ap rfl rfl<|Am rfl<|Ab rfl<|Aa<|Ah<|Ad<|Ab rfl<|AO rfl rfl<|Aa<|Ay rfl (by omega)<|Ad<|Ab rfl<|Ab rfl<|Aa<|Ao ?_)
  exact A7 [.int .i64 ce] ⟨Au rfl,trivial⟩ (d':=d2) (L':=tbD bt Tt (.pointer (some ⟨bp,0,none⟩)) ⟨s1,root,height,count⟩::([bx b3 T3 [.pointer (some ⟨bt,0,none⟩)],bx b5 T5 [.slice va value.length vc],bx b4 T4 [.slice ka key.length kc]]++L3)) (Vs.perm Adj) ⟨hl2,rfl,L3,rfl,hp2⟩
end
def FF(P:Program) (f:FuncId):Prop:=∀{d:Ac}{t:TD}{dv pv kv vv:Value}{L:List Ac}{bt:Nat}{Tt:TypeId}{key value:List UInt8}{B:List Ac},PgT d t.s dv pv L→AM d kv key→RB d B vv value→Kg t→
 Aw P f [.pointer (some ⟨bt,0,none⟩),kv,vv] d (tbD bt Tt pv t::(B++L)) (Ret fun v d' L'=>Le d d'∧v=.int .i64 (Cq t key value).2∧∃L2,L'=tbD bt Tt pv (Cq t key value).1::(B++L2)∧PgT d' (Cq t key value).1.s dv pv L2)
theorem AbI{P:Program}{f:FuncId}{args:List Value}{d:Ac}{t t':TD}{e:Int}{dv pv:Value}{X L:List Ac}{bt:Nat}{Tt:TypeId}{B:List Ac} (h:Aw P f args d (tbD bt Tt pv t::(X++(B++L))) (Ret fun v d' L'=>Le d d'∧v=.int .i64 e∧∃L2,L'=tbD bt Tt pv t'::(X++L2)∧PgG B d' t'.s dv pv L2)):
  Aw P f args d (tbD bt Tt pv t::((X++B)++L)) (Ret fun v d' L'=>Le d d'∧v=.int .i64 e∧∃L2,L'=tbD bt Tt pv t'::((X++B)++L2)∧PgT d' t'.s dv pv L2):=by
 rw [Acg]
 refine Aw.Dr h (fun v d' L' _ ⟨h1,h2,M,h3,L2,p,h4⟩=>⟨d',tbD bt Tt pv t'::((X++B)++L2),Vs.perm ?_,h1,h2,L2,rfl,h4⟩)
 rw [h3,Acg]
 exact Acn _ (Aga X p)
set_option maxRecDepth 4000 in
set_option maxHeartbeats 2000000 in
theorem Yb{P:Program}{f f1 f2 f3:FuncId} (hd:dec P f=some (N5 f1 f2 f3)) (h1:K3 P f1) (h2:MQ P f2) (h3:Io P f3):FF P f:=by
 intro d t dv pv kv vv L bt Tt key value B hp hk hv hf
 obtain⟨bp,rfl⟩:=hp.ptr
 obtain⟨ka,kc,rfl⟩:=hk.val
 obtain⟨va,vc,rfl⟩:=hv.val
 refine AG hd (Aca rfl) ?_
 show gwp P _ _ _ _ _
 apply Ah;apply AE
 refine Fj rfl (fun b3 T3=>?_)
 refine Fj rfl (fun b4 T4=>?_)
 refine Fj rfl (fun b5 T5=>?_)
 (refine Ab rfl<|Aa<|Ah<|Ad<|Ag rfl (Aj 2 rfl rfl)<|Ag rfl (Aj 1 rfl rfl) ?_)
 refine A3 [_,_,_] (h1 (L:=B++L) hk) rfl rfl (fun v d2 L2 _ ⟨e1,e2,e3⟩=>?_)
 subst e1;subst e2;subst e3
 by_cases hw:BL key=0
 ·by_cases hb:16384<value.length
  ·have hF:Cq t key value=(t,3):=by unfold Cq;rw [if_neg (fun q=>q hw),if_pos hb]
   rw [hF,hw]
   (refine Ab rfl<|Aa<|Ad<|Ab rfl<|AO rfl rfl<|Aa<|Ar rfl (by omega)<|Al<|Ah<|Ad<|Ag rfl (Aj 0 rfl rfl)<|AL rfl<|BS rfl rfl<|Aa<|Ay rfl (by omega)<|Ad<|Ab rfl<|Aa<|Ao ?_)
   exact BG (L':=tbD bt Tt (.pointer (some ⟨bp,0,none⟩)) t::(B++L)) rfl (.cons _ (.cons _ (.cons _ (Acb _)))) ⟨Le.refl _,rfl,L,rfl,hp⟩
  ·have hF:Cq t key value=(B2 t (CL t key value).1 (CL t key value).2,(CL t key value).2):=by unfold Cq;rw [if_neg (fun q=>q hw),if_neg hb]
   have hkl:key.length≤64:=by unfold BL at hw;split at hw<;>omega
   rw [hF,hw]
   (refine Ab rfl<|Aa<|Ad<|Ab rfl<|AO rfl rfl<|Aa<|Ar rfl (by omega)<|Al<|Ah<|Ad<|Ag rfl (Aj 0 rfl rfl)<|AL rfl<|BS rfl rfl<|Aa<|Ar rfl (by omega)<|Al<|Ad<|Ag rfl (Aj 2 rfl rfl)<|OA ?_)
   refine CU (A:=tbD bt Tt (.pointer (some ⟨bp,0,none⟩)) t::(([bx b3 T3 [.pointer (some ⟨bt,0,none⟩)],bx b5 T5 [.slice va value.length vc],bx b4 T4 [.slice ka key.length kc]]++B)++L)) (B:=[])
    (h3 (t':=(CL t key value).1) (e:=(CL t key value).2) (X':=[bx b3 T3 [.pointer (some ⟨bt,0,none⟩)],bx b5 T5 [.slice va value.length vc],bx b4 T4 [.slice ka key.length kc]]++B) hp (Sw t key value)
     (fun d1 hl1=>AbI (h2 (B:=B) ⟨L,Adp _,hp.mono hl1⟩ (RSl.mono (R:=AP) AX hk hl1) (hv.mono hl1) hkl (by omega) hf))) ?_ rfl (fun v d4 L4 hl4 ⟨_,e4,L5,e5,hp5⟩=>?_)
   ·rw [Ads]
    refine(Adj (l₁:=[_,_,_])).trans (Acn _ ((Afb (l₂:=[bx b3 T3 [.pointer (some ⟨bt,0,none⟩)],bx b5 T5 [.slice va value.length vc],bx b4 T4 [.slice ka key.length kc]]) (B++L) ?_).trans (List.Perm.of_eq (by simp))))
    exact((Aci (l₁:=[_,_]) (l₂:=[_])).trans (Acn _ (Adp _)))
   ·subst e4;subst e5
    refine⟨d4,_,Vs.refl _ _,?_⟩
    rw [Ads]
    (refine Ab rfl<|Aa<|Ao ?_)
    exact A7 [.int .i64 (CL t key value).2] ⟨Au rfl,trivial⟩ (d':=d4) (L':=tbD bt Tt (.pointer (some ⟨bp,0,none⟩)) (B2 t (CL t key value).1 (CL t key value).2)::(B++L5)) (Vs.drop (.cons_cons _ (.cons _ (.cons _ (.cons _ (Acb _)))))) ⟨hl4,rfl,L5,rfl,hp5⟩
 ·have hF:Cq t key value=(t,BL key):=by unfold Cq;rw [if_pos hw]
  rw [hF]
  (refine Ab rfl<|Aa<|Ad<|Ab rfl<|AO rfl rfl<|Aa<|Ay rfl (by omega)<|Ad<|Ab rfl<|Ab rfl<|Aa<|Ao ?_)
  exact BG (L':=tbD bt Tt (.pointer (some ⟨bp,0,none⟩)) t::(B++L)) rfl (.cons _ (.cons _ (.cons _ (Acb _)))) ⟨Le.refl _,rfl,L,rfl,hp⟩
theorem FF.own{P:Program}{f:FuncId} (h:FF P f) {d:Ac}{t:TD}{dv pv kv vv:Value}{L:List Ac}{bt:Nat}{Tt:TypeId}{key value:List UInt8}{g:Ac} (hp:PgT d t.s dv pv L) (hk:AM d kv key) (hv:As 1 AP d vv value g) (hf:Kg t):
  Aw P f [.pointer (some ⟨bt,0,none⟩),kv,vv] d (tbD bt Tt pv t::g::L) (Ret fun v d' L'=>Le d d'∧v=.int .i64 (Cq t key value).2∧∃L2,L'=tbD bt Tt pv (Cq t key value).1::g::L2∧PgT d' (Cq t key value).1.s dv pv L2):=
 h (B:=[g]) hp hk (RB.own hv) hf
theorem FF.data{P:Program}{f:FuncId} (h:FF P f) {d:Ac}{t:TD}{dv pv kv vv:Value}{L:List Ac}{bt:Nat}{Tt:TypeId}{key value:List UInt8} (hp:PgT d t.s dv pv L) (hk:AM d kv key) (hv:AM d vv value) (hf:Kg t):
  Aw P f [.pointer (some ⟨bt,0,none⟩),kv,vv] d (tbD bt Tt pv t::L) (Ret fun v d' L'=>Le d d'∧v=.int .i64 (Cq t key value).2∧∃L2,L'=tbD bt Tt pv (Cq t key value).1::L2∧PgT d' (Cq t key value).1.s dv pv L2):=
 h (B:=[]) hp hk (RB.data hv) hf
end Go.Gk.Tre
end
section
namespace Go.Gk.Tre
open Go Go.Gk Go.Gk.Dev Go.Gk.Cch Go.Gk.Pgr Go.Gk.Chn Go.Gk.Node
def wk0:TD:=⟨pdN 9, -1,0,0⟩
def wk1:TD:=(Cq wk0 [97] [5]).1
def wk2:TD:=(CN wk1 [97]).1
theorem AaG:(Cq wk0 [97] [5]).2=0:=by decide+kernel
theorem Wd:wk1.height=1:=by decide+kernel
theorem Xs:wk1.count=1:=by decide+kernel
theorem Zm:wk1.s.free=8:=by decide+kernel
theorem AaN:CX wk1 [97]=([5],true,0):=by decide+kernel
theorem Aao:(CN wk1 [97]).2=(true,0):=by decide+kernel
theorem ZQ:wk2.root= -1:=by decide+kernel
theorem Vk:wk2.height=0:=by decide+kernel
theorem XM:wk2.s.free=9:=by decide+kernel
theorem ZN:Kg wk0:=⟨by decide+kernel,by decide+kernel,by decide+kernel,by decide+kernel⟩
theorem Tb:Kg wk1:=⟨by decide+kernel,by decide+kernel,by decide+kernel,by decide+kernel⟩
theorem Aa2:US wk1 [97]:=⟨Tb,by decide+kernel,by decide+kernel,by decide+kernel⟩
end Go.Gk.Tre
end
section
namespace Go.Gk.Tre
open Go Go.Gk Go.Gk.Dev Go.Gk.Cch Go.Gk.Pgr Go.Gk.Chn Go.Gk.Node
attribute [local irreducible] gwp gws xwp
theorem RD{d:Ac}{b:Nat}{T:TypeId} (a:UInt8):AM (join d (bx b T [Az a])) (.slice (some ⟨b,0,none⟩) 1 1) [a]:=
 As.rsl (R:=AP) (sz:=1) (xs:=[a]) (As.Es (R:=AP) (d:=d) (x:=a) rfl rfl) AX (by omega) (Le.AI _ _) (Le.A9 _ _)
def Yl(P:Program) (f:FuncId):Prop:=∀{d:Ac},Aw P f [] d [] (Ret fun r _ L'=>r=.bool true∧L'=[])
def JD(a0 a1 a2 a3 a4 a5 a6 a7:Nat):AY:=⟨87,[(.tmp 0)],(sR (o1 0 (.mv (.const (.bool false))) .done) (sR (oc 9 a0 [(kZ 9)]<|om 8 9<|oe 10 8 0<|oe 11 8 1<|om 1 10<|om 2 11 .done) (.seq (sR (om 12 2<|o1 13 (.eqp false (tP 12) (.const (.pointer none)))<|om 14 13<|gF 15 14 2<|oF 16 14 (.bsl 1 1 [(.int .u8 0)] [(0,(.const (.int .u8 97)))])<|oF 17 14 (.bsl 1 1 [(.int .u8 0)] [(0,(.const (.int .u8 5)))])<|oF 18 14 (.call a1 [(tP 15),(tP 16),(tP 17)])<|oF 19 14 (.bin .neq (tP 18) (kZ 0))<|o1 20 (.pick (tP 14) (.const (.bool true)) (tP 19))<|om 21 20<|gF 22 21 2<|oF 23 21 (.call a2 [(tP 22)])<|oF 24 21 (.bin .neq (tP 23) (kZ 1))<|o1 25 (.pick (tP 21) (.const (.bool true)) (tP 24))<|om 26 25<|gF 27 26 2<|oF 28 26 (.call a3 [(tP 27)])<|oF 29 26 (.bin .neq (tP 28) (kZ 1))<|o1 30 (.pick (tP 26) (.const (.bool true)) (tP 29))<|om 31 30<|gF 32 31 1<|oF 33 31 (.call a4 [(tP 32)])<|oF 34 31 (.bin .neq (tP 33) (kZ 8))<|o1 35 (.pick (tP 31) (.const (.bool true)) (tP 34)) .done) (.cond (tP 35) (sR (o1 0 (.mv (.const (.bool false))) .done) .ret) .skip)) (sR (om 37 2<|o1 38 (.bsl 1 1 [(.int .u8 0)] [(0,(.const (.int .u8 97)))])<|oc 39 a5 [(tP 37),(tP 38)]<|om 36 39<|oe 40 36 0<|oe 41 36 1<|oe 42 36 2<|om 3 40<|om 4 41<|om 5 42 .done) (sR (om 44 2<|o1 45 (.bsl 1 1 [(.int .u8 0)] [(0,(.const (.int .u8 97)))])<|oc 46 a6 [(tP 44),(tP 45)]<|om 43 46<|oe 47 43 0<|oe 48 43 1<|om 6 47<|om 7 48 .done) (sR (om 49 5<|ob 50 .eql (tP 49) (kZ 0)<|om 51 50<|gT 52 51 4<|gP 53 51 52<|om 54 53<|gT 55 54 3<|oT 56 54 (.len (tP 55))<|oT 57 54 (.bin .eql (tP 56) (kZ 1))<|gP 58 54 57<|om 59 58<|gT 60 59 3<|oT 61 59 (.idx 1 (tP 60) (kZ 0))<|oT 62 59 (.ld none (tP 61))<|oT 63 59 (.bin .eql (tP 62) (.const (.int .u8 5)))<|gP 64 59 63<|om 65 64<|gT 66 65 7<|oT 67 65 (.bin .eql (tP 66) (kZ 0))<|gP 68 65 67<|om 69 68<|gT 70 69 6<|gP 71 69 70<|om 72 71<|gT 73 72 2<|oT 74 72 (.call a7 [(tP 73)])<|oT 75 72 (.bin .eql (tP 74) (kZ (-1)))<|gP 76 72 75<|om 77 76<|gT 78 77 2<|oT 79 77 (.call a2 [(tP 78)])<|oT 80 77 (.bin .eql (tP 79) (kZ 0))<|gP 81 77 80<|om 82 81<|gT 83 82 1<|oT 84 82 (.call a4 [(tP 83)])<|oT 85 82 (.bin .eql (tP 84) (kZ 9))<|gP 86 82 85<|om 0 86 .done) .ret))))))⟩
set_option maxRecDepth 4000 in
set_option maxHeartbeats 1000000 in
theorem Vi{P:Program}{f f1 f2 f3 f4 f5 f6 f7 f8:FuncId} (hd:dec P f=some (JD f1 f2 f3 f4 f5 f6 f7 f8)) (h1:Ir P f1) (h2:FF P f2) (h3:Hb P f3) (h4:GP P f4) (h5:NS P f5) (h6:IW P f6) (h7:Ll P f7) (h8:LN P f8):Yl P f:=by
 intro d
 refine AG hd (Aca rfl) ?_
 show gwp P _ _ _ _ _
 (refine Ad<|Ae rfl<|Aa<|Ad ?_)
 refine CP (L:=[]) (h1 (n:=9) (by omega) (by omega)) rfl (fun u d1 L1 hl1 ⟨bt,Tt,bd,bp,L2,q1,q2,hp⟩=>?_)
 subst q1;subst q2
 (refine AU rfl<|Ap rfl rfl<|Ap rfl rfl<|Ak rfl<|Ak rfl<|Aa<|Ah<|Ad<|Ak rfl<|Cu rfl rfl<|Ae rfl<|Af rfl<|Ak rfl<|Af rfl ?_)
 refine Ea (v0:=Az 97) rfl rfl (fun b16 T16=>?_)
 refine B9 (join d1 (bx b16 T16 [Az 97])) _ Vs.freeze ?_
 have k1:AM (join d1 (bx b16 T16 [Az 97])) _ [97]:=RD 97
 have hp:=hp.mono (Le.AI d1 (bx b16 T16 [Az 97]))
 generalize join d1 (bx b16 T16 [Az 97])=d3 at k1 hp
 (apply Af;rfl)
 refine Ea (v0:=Az 5) rfl rfl (fun b17 T17=>?_)
 have k2:As 1 AP d3 (.slice (some ⟨b17,0,none⟩) 1 1) [5] (bx b17 T17 [Az 5]):=As.Es (R:=AP) (d:=d3) (x:=(5:UInt8)) rfl rfl
 have hp:PgT d3 wk0.s (.pointer (some ⟨bd,0,none⟩)) (.pointer (some ⟨bp,0,none⟩)) L2:=⟨_,hp⟩
 (apply Af;rfl)
 refine B9 d3 _ (Vs.perm (Adc (tbD bt Tt (.pointer (some ⟨bp,0,none⟩)) wk0) (bx b17 T17 [Az 5]) L2)) ?_
 refine A3 [] (h2.own (t:=wk0) (bt:=bt) (Tt:=Tt) hp k1 k2 ZN) rfl rfl (fun v d5 L5 hl5 ⟨_,e1,L6,e2,hp6⟩=>?_)
 subst e1;subst e2
 refine B9 d5 _ (Vs.drop (.cons_cons _ (.cons _ (Acb _)))) ?_
 rw [AaG]
 have hp6:PgT d5 wk1.s (.pointer (some ⟨bd,0,none⟩)) (.pointer (some ⟨bp,0,none⟩)) L6:=hp6
 have g3:CW P f3 [.pointer (some ⟨bt,0,none⟩)] d5 (tbD bt Tt (.pointer (some ⟨bp,0,none⟩)) wk1::L6) (.int .i64 ((1:Nat):Int)):=by
  have:=h3 (d:=d5) (t:=wk1) (bt:=bt) (pb:=bp) (Tt:=Tt) (L:=L6)
  simpa only [Wd] using this
 have g4:CW P f4 [.pointer (some ⟨bt,0,none⟩)] d5 (tbD bt Tt (.pointer (some ⟨bp,0,none⟩)) wk1::L6) (.int .i64 ((1:Nat):Int)):=by
  have:=h4 (d:=d5) (t:=wk1) (bt:=bt) (pb:=bp) (Tt:=Tt) (L:=L6)
  simpa only [Xs] using this
 have g5:CW P f5 [.pointer (some ⟨bp,0,none⟩)] d5 L6 (.int .i64 ((8:Nat):Int)):=by
  obtain⟨n6,hp6⟩:=hp6
  have:=h5 hp6
  rw [show(wtc wk1.s n6).free=8 from Zm] at this
  exact this
 have w1:=AaN
 have w2:=Aao
 have w3:=ZQ
 have w4:=Vk
 have w5:=XM
 have w6:=Aa2
 have w7:=Tb
 unfold wk2 at w3 w4 w5
 generalize hw1:wk1=t1 at hp6 g3 g4 w1 w2 w3 w4 w5 w6 w7
 rw [show(Cq wk0 [97] [5]).1=t1 from hw1]
 clear hw1
 have hth:=w7.h
 (refine Af rfl<|AO rfl rfl<|Aq rfl rfl<|Ae rfl<|AZ rfl (by omega)<|Af rfl<|Ak rfl<|Af rfl ?_)
 refine B3 [] g3 rfl rfl ?_
 (refine Af rfl<|AO rfl rfl<|Aq rfl rfl<|Ae rfl<|AZ rfl (by omega)<|Af rfl<|Ak rfl<|Af rfl ?_)
 refine B3 [] g4 rfl rfl ?_
 (refine Af rfl<|AO rfl rfl<|Aq rfl rfl<|Ae rfl<|AZ rfl (by omega)<|Af rfl<|Ak rfl<|Af rfl ?_)
 refine B3 [_] g5 rfl rfl ?_
 (refine Af rfl<|AO rfl rfl<|Aq rfl rfl<|Aa<|Ar rfl (by omega)<|Al<|Ad<|Ak rfl ?_)
 refine Ea (v0:=Az 97) rfl rfl (fun b38 T38=>?_)
 refine B9 (join d5 (bx b38 T38 [Az 97])) _ Vs.freeze ?_
 have k3:AM (join d5 (bx b38 T38 [Az 97])) _ [97]:=RD 97
 have hp6:=hp6.mono (Le.AI d5 (bx b38 T38 [Az 97]))
 generalize join d5 (bx b38 T38 [Az 97])=d6 at k3 hp6
 skip
 refine A3 [] (Ud (s:=t1.s) (root:=t1.root) (h:=t1.height) (c:=t1.count) (bt:=bt) (Tt:=Tt) h6 hp6 k3 (by omega)) rfl rfl (fun v d7 L7 hl7 ⟨_,u,L8,e1,hu,e2,hp8⟩=>?_)
 rw [show CX ⟨t1.s,t1.root,t1.height,t1.count⟩ [97]=([5],true,0) from w1] at e1 hu
 have e1:v=.tuple #[u,.bool true,.int .i64 0]:=e1
 have hu:AM d7 u [5]:=hu
 subst e1;subst e2
 obtain⟨ua,uc,rfl⟩:∃ua uc,u=.slice ua 1 uc:=hu.val
 (refine AU rfl<|Ap rfl rfl<|Ap rfl rfl<|Ap rfl rfl<|Am rfl<|Ae rfl<|Ab rfl<|Aa<|Ad<|Ak rfl ?_)
 refine Ea (v0:=Az 97) rfl rfl (fun b45 T45=>?_)
 refine B9 (join d7 (bx b45 T45 [Az 97])) _ Vs.freeze ?_
 have k4:AM (join d7 (bx b45 T45 [Az 97])) _ [97]:=RD 97
 have hp8:=hp8.mono (Le.AI d7 (bx b45 T45 [Az 97]))
 have hu:=RSl.mono (R:=AP) AX hu (Le.AI d7 (bx b45 T45 [Az 97]))
 generalize join d7 (bx b45 T45 [Az 97])=d8 at k4 hp8 hu
 skip
 refine A3 [] (h7 (t:=t1) (bt:=bt) (Tt:=Tt) hp8 k4 (fun _=>w6)) rfl rfl (fun v d9 L9 hl9 ⟨_,e1,L10,e2,hp10⟩=>?_)
 rw [w2] at e1
 have e1:v=.tuple #[.bool true,.int .i64 0]:=e1
 subst e1;subst e2
 have hu:=RSl.mono (R:=AP) AX hu hl9
 generalize (CN t1 [97]).1=t2 at w3 w4 w5 hp10
 have g6:CW P f8 [.pointer (some ⟨bt,0,none⟩)] d9 (tbD bt Tt (.pointer (some ⟨bp,0,none⟩)) t2::L10) (.int .i64 (-1)):=by
  have:=h8 (d:=d9) (t:=t2) (bt:=bt) (pb:=bp) (Tt:=Tt) (L:=L10)
  simpa only [w3] using this
 have g7:CW P f3 [.pointer (some ⟨bt,0,none⟩)] d9 (tbD bt Tt (.pointer (some ⟨bp,0,none⟩)) t2::L10) (.int .i64 ((0:Nat):Int)):=by
  have:=h3 (d:=d9) (t:=t2) (bt:=bt) (pb:=bp) (Tt:=Tt) (L:=L10)
  simpa only [w4] using this
 have g8:CW P f5 [.pointer (some ⟨bp,0,none⟩)] d9 L10 (.int .i64 ((9:Nat):Int)):=by
  obtain⟨n6,hp6⟩:=hp10
  have:=h5 hp6
  rw [show(wtc t2.s n6).free=9 from w5] at this
  exact this
 clear w1 w2 w3 w4 w5 w6 w7
 (refine AU rfl<|Ap rfl rfl<|Ap rfl rfl<|Ae rfl<|Ab rfl<|Aa<|Ad<|Ab rfl<|AJ rfl rfl<|Ae rfl<|Bd rfl (by omega)<|Af rfl<|Ae rfl<|AB rfl rfl<|Ae rfl<|Af rfl<|Am rfl<|Af rfl<|AL rfl<|Af rfl<|AJ rfl rfl<|AB rfl rfl<|Ae rfl<|Bd rfl (by omega)<|Af rfl<|Am rfl<|Af rfl ?_)
 refine BH (R:=AP) (m:=0) rfl hu rfl rfl (by decide) (fun b61 o61 cs61 hcl61 hd61 q61=>?_)
 have q61:cs61=[Value.int .u8 5]:=q61
 subst q61
 (refine Af rfl<|Ag rfl (B5 (by assumption) rfl)<|Af rfl<|AJ rfl rfl<|AB rfl rfl<|Ae rfl<|Bd rfl (by omega)<|Af rfl<|Ab rfl<|Af rfl<|AJ rfl rfl<|AB rfl rfl<|Ae rfl<|Bd rfl (by omega)<|Af rfl<|Ae rfl<|AB rfl rfl<|Ae rfl<|Af rfl<|Ak rfl<|Af rfl ?_)
 refine B3 [] g6 rfl rfl ?_
 (refine Af rfl<|AJ rfl rfl<|AB rfl rfl<|Ae rfl<|Bd rfl (by omega)<|Af rfl<|Ak rfl<|Af rfl ?_)
 refine B3 [] g7 rfl rfl ?_
 (refine Af rfl<|AJ rfl rfl<|AB rfl rfl<|Ae rfl<|Bd rfl (by omega)<|Af rfl<|Ak rfl<|Af rfl ?_)
 refine B3 [_] g8 rfl rfl ?_
 (refine Af rfl<|AJ rfl rfl<|AB rfl rfl<|Ae rfl<|Aa<|Ao ?_)
 exact A7 [.bool true] ⟨Au rfl,trivial⟩ (d':=d9) (L':=[]) (Vs.drop (Aef _)) ⟨rfl,rfl⟩
section
section
variable {P:Program}{pan:List PanicEntry→AS}{Qn:Env→AS}{Ls L:List Ac}{ρ:Env}{d:Ac}{s:GS}{t:Nat}{tk:Bool}
theorem V5{x y:Operand}{b:UInt8} (ex:ev ρ x=Az b) (ey:ev ρ y=.int .u8 1) (h:gws P pan Qn s Ls (upd ρ t (Az (b+1))) d L):gws P pan Qn (.op tk ⟨some t,none,.bin .add x y⟩ s) Ls ρ d L:=
 Dd (by
  have e:IntKind.u8.wrap ((b.toNat:Int)+1)=((b+1).toNat:Int):=by
   simp [IntKind.wrap,IntKind.signed,IntKind.bits,UInt8.toNat_add]
  rw [ex,ey];simp only [C1,Az];simp [e]) h
end
theorem G1{key:List UInt8}:BL key=0∨BL key=2:=by unfold BL;split<;>simp
theorem PX{s:PD}{n:Nat}:∀m,(wtc s n).writes m=s.writes m
 |0=>rfl
 |m+1=>by rw [PD.writes,PD.writes,PX m]
theorem QY{s:PD}{n:Nat}:(wtc s n).flush=wtc s.flush n:=by
 unfold PD.flush
 rw [show(wtc s n).writes (wtc s n).kinds.length=s.writes s.kinds.length from PX _]
abbrev XA:=Int×List UInt8×List UInt8
def RAc(d:Ac) (cs:List Value) (x:XA):Prop:=∃kv vv,cs=[.int .i64 x.1,kv,vv]∧AM d kv x.2.1∧AM d vv x.2.2
theorem HD:F7 RAc:=fun hl ⟨kv,vv,e,h1,h2⟩=>⟨kv,vv,e,RSl.mono (R:=AP) AX h1 hl,RSl.mono (R:=AP) AX h2 hl⟩
def Pk(P:Program) (f:FuncId):Prop:=∀{d:Ac}{t:TD}{dv pv w:Value}{L:List Ac}{bt:Nat}{Tt:TypeId}{acts:List XA}{most N:Nat},PgT d t.s dv pv L→Gr N 0 t [] []→RSl 3 RAc d w acts→most≤1000→
 Aw P f [pv,.pointer (some ⟨bt,0,none⟩),w,.int .i64 most] d (tbD bt Tt pv t::L) (Ret fun v d' L'=>Le d d'∧∃u t' l P' L2,v=.tuple #[u,.bool true]∧RSl 2 RKv d' u l∧Gr N most t' l P'∧L'=tbD bt Tt pv t'::L2∧PgT d' t'.s dv pv L2)
def J2(a0 a1 a2 a3 a4 a5 a6 a7 a8 a9 a10 a11 a12 a13:Nat):AY:=⟨226,[(.tmp 8),(.tmp 9)],(sR (o1 8 (.mv nS)<|o1 9 (.mv (.const (.bool false))) .done) (sR (o1 10 (.mv nS) .done) (.seq (sR (o1 11 (.mv (kZ 0)) .done) (.block 0 (.loop (.seq (sR (om 29 11<|om 30 2<|oL 31 30<|ob 32 .lss (tP 29) (tP 31)<|om 33 32<|gT 34 33 11<|gT 35 33 3<|oT 36 33 (.bin .lss (tP 34) (tP 35))<|gP 37 33 36 .done) (.cond (tP 37) .skip (.exit 0))) (.seq (.block 1 (sR (om 40 2<|om 41 11<|oI 42 3 40 41<|o1 43 (.ld (some 3) (tP 42))<|o1 12 (.alo (.agg #[(.int .i64 0),(.slice none 0 0),(.slice none 0 0)]))<|o0 (.st 3 (tP 12) (tP 43)) .done) (sR (oj 44 2 12<|ol 45 44<|oc 46 a0 [(tP 45),(kZ 700)]<|om 13 46 .done) (sR (oj 47 1 12<|ol 48 47<|oc 49 a1 [(tP 48)]<|om 14 49 .done) (sR (om 50 1<|oc 51 a2 [(tP 50)]<|ob 52 .mul (kZ 4) (tP 51)<|ob 53 .add (tP 52) (kZ 3)<|om 54 13<|oL 55 54<|oc 56 a3 [(tP 55)]<|ob 57 .add (tP 53) (tP 56)<|om 15 57 .done) (sR (om 58 0<|oc 59 a4 [(tP 58)]<|om 16 59 .done) (.seq (sR (oj 60 0 12<|ol 61 60 .done) (.block 2 (sR (ob 109 .eql (tP 61) (kZ 0)<|om 108 109 .done) (.cond (tP 108) (sR (o1 110 (.bsl 0 1 [(.int .u8 0)] [])<|om 111 13<|o1 112 (.app 1 1 [(.int .u8 0)] (tP 110) (tP 111))<|om 17 112 .done) (sR (om 113 1<|oj 114 1 12<|ol 115 114<|om 116 17<|oc 117 a5 [(tP 113),(tP 115),(tP 116)]<|om 18 117 .done) (.seq (sR (om 118 18<|ob 119 .eql (tP 118) (kZ 190)<|om 120 119<|gT 121 120 14<|oT 122 120 (.bin .eql (tP 121) (kZ 0))<|gP 123 120 122<|om 124 123<|gT 125 124 16<|gT 126 124 15<|oT 127 124 (.bin .lss (tP 125) (tP 126))<|gP 128 124 127<|om 129 128<|gT 130 129 0<|oT 131 129 (.call a4 [(tP 130)])<|gT 132 129 16<|oT 133 129 (.bin .eql (tP 131) (tP 132))<|gP 134 129 133 .done) (.cond (tP 134) (.exit 1) .skip)) (.seq (sR (om 135 18<|om 136 14<|ob 137 .neq (tP 135) (tP 136) .done) (.cond (tP 137) (sR (o1 8 (.mv nS)<|o1 9 (.mv (.const (.bool false))) .done) .ret) .skip)) (.seq (sR (om 138 18<|ob 139 .eql (tP 138) (kZ 0) .done) (.cond (tP 139) (rG (om 140 10<|oj 141 1 12<|ol 142 141<|o1 143 (.b2s (tP 142))<|om 144 13<|o1 145 (.b2s (tP 144))<|oc 146 a6 [(tP 140),(tP 143),(tP 145)]<|om 10 146 .done)) .skip)) (sR (om 147 17<|oL 148 147<|o1 149 (.mv (kZ 0)) .done) (.block 3 (.loop (sR (ob 150 .lss (tP 149) (tP 148) .done) (.seq (.cond (tP 150) .skip (.exit 3)) (.seq (.block 4 (sR (om 151 149<|om 19 151 .done) (rG (om 152 17<|om 153 19<|oI 154 1 152 153<|ol 155 154<|ob 156 .add (tP 155) (.const (.int .u8 1))<|oI 157 1 152 153<|o0 (.st 1 (tP 157) (tP 156)) .done)))) (rG (ob 158 .add (tP 149) (kZ 1)<|om 149 158 .done))))))))))))) (sR (ob 160 .eql (tP 61) (kZ 1)<|om 159 160 .done) (.cond (tP 159) (sR (om 162 1<|oj 163 1 12<|ol 164 163<|oc 165 a7 [(tP 162),(tP 164)]<|om 161 165<|oe 166 161 0<|oe 167 161 1<|om 20 166<|om 21 167 .done) (.seq (sR (om 168 21<|ob 169 .eql (tP 168) (kZ 190)<|om 170 169<|gT 171 170 14<|oT 172 170 (.bin .eql (tP 171) (kZ 0))<|gP 173 170 172<|om 174 173<|gT 175 174 16<|gT 176 174 15<|oT 177 174 (.bin .lss (tP 175) (tP 176))<|gP 178 174 177<|om 179 178<|gT 180 179 0<|oT 181 179 (.call a4 [(tP 180)])<|gT 182 179 16<|oT 183 179 (.bin .eql (tP 181) (tP 182))<|gP 184 179 183<|om 185 184<|gT 186 185 20<|oT 187 185 (.un .not (tP 186))<|gP 188 185 187 .done) (.cond (tP 188) (.exit 1) .skip)) (.seq (sR (om 189 21<|om 190 14<|ob 191 .neq (tP 189) (tP 190) .done) (.cond (tP 191) (sR (o1 8 (.mv nS)<|o1 9 (.mv (.const (.bool false))) .done) .ret) .skip)) (sR (om 193 10<|oj 194 1 12<|ol 195 194<|o1 196 (.b2s (tP 195))<|oc 197 a8 [(tP 193),(tP 196)]<|om 192 197<|oe 198 192 0<|oe 199 192 1<|om 22 198<|om 23 199 .done) (.seq (sR (om 200 21<|ob 201 .eql (tP 200) (kZ 0)<|om 202 201<|gT 203 202 20<|gT 204 202 23<|oT 205 202 (.eqb true (tP 203) (tP 204))<|gP 206 202 205 .done) (.cond (tP 206) (sR (o1 8 (.mv nS)<|o1 9 (.mv (.const (.bool false))) .done) .ret) .skip)) (sR (om 207 21<|ob 208 .eql (tP 207) (kZ 0) .done) (.cond (tP 208) (rG (om 209 22<|om 10 209 .done)) .skip))))))) (sR (ob 211 .eql (tP 61) (kZ 3)<|om 210 211 .done) (.cond (tP 210) (sR (om 212 0<|oc 213 a9 [(tP 212)]<|ob 214 .neq (tP 213) (kZ 0)<|om 215 214<|gF 216 215 0<|oF 217 215 (.call a10 [(tP 216)])<|oF 218 215 (.bin .neq (tP 217) (kZ 0))<|o1 219 (.pick (tP 215) (.const (.bool true)) (tP 218)) .done) (.cond (tP 219) (sR (o1 8 (.mv nS)<|o1 9 (.mv (.const (.bool false))) .done) .ret) .skip)) (sR (om 63 1<|oj 64 1 12<|ol 65 64<|oc 66 a11 [(tP 63),(tP 65)]<|om 62 66<|oe 67 62 0<|oe 68 62 1<|oe 69 62 2<|om 24 67<|om 25 68<|om 26 69 .done) (sR (om 71 10<|oj 72 1 12<|ol 73 72<|o1 74 (.b2s (tP 73))<|oc 75 a12 [(tP 71),(tP 74)]<|om 70 75<|oe 76 70 0<|oe 77 70 1<|om 27 76<|om 28 77 .done) (sR (om 78 26<|om 79 14<|ob 80 .neq (tP 78) (tP 79)<|om 81 80<|gF 82 81 26<|oF 83 81 (.bin .eql (tP 82) (kZ 0))<|gF 84 81 83<|gT 85 84 25<|gT 86 84 28<|oT 87 84 (.eqb true (tP 85) (tP 86))<|gT 88 84 87<|gF 89 88 24<|oF 90 88 (.b2s (tP 89))<|gF 91 88 27<|oF 92 88 (.bin .neq (tP 90) (tP 91))<|oT 93 84 (.pick (tP 88) (.const (.bool true)) (tP 92))<|oF 94 81 (.pick (tP 84) (tP 93) (.const (.bool false)))<|o1 95 (.pick (tP 81) (.const (.bool true)) (tP 94))<|om 96 95<|gF 97 96 26<|oF 98 96 (.bin .neq (tP 97) (kZ 0))<|gF 99 96 98<|gT 100 99 25<|gT 101 99 100<|gF 102 101 24<|oF 103 101 (.len (tP 102))<|oF 104 101 (.bin .neq (tP 103) (kZ 0))<|oT 105 99 (.pick (tP 101) (.const (.bool true)) (tP 104))<|oF 106 96 (.pick (tP 99) (tP 105) (.const (.bool false)))<|o1 107 (.pick (tP 96) (.const (.bool true)) (tP 106)) .done) (.cond (tP 107) (sR (o1 8 (.mv nS)<|o1 9 (.mv (.const (.bool false))) .done) .ret) .skip)))))))))))) (sR (om 220 1<|oc 221 a13 [(tP 220)]<|om 222 10<|oL 223 222<|ob 224 .neq (tP 221) (tP 223) .done) (.cond (tP 224) (sR (o1 8 (.mv nS)<|o1 9 (.mv (.const (.bool false))) .done) .ret) .skip))))))))) (rG (om 38 11<|ob 39 .add (tP 38) (kZ 1)<|om 11 39 .done))))))) (sR (om 225 10<|om 8 225<|o1 9 (.mv (.const (.bool true))) .done) .ret))))⟩
set_option maxRecDepth 4000 in
set_option maxHeartbeats 4000000 in
theorem Yq{P:Program}{f f1 f2 f3 f4 f5 f6 f7 f8 f9 f10 f11 f12 f13 f14:FuncId} (hd:dec P f=some (J2 f1 f2 f3 f4 f5 f6 f7 f8 f9 f10 f11 f12 f13 f14)) (h1:Mc P f1) (h2:MZ P f2) (h3:Hb P f3) (h4:FA P f4) (h5:NS P f5)
  (h6:FF P f6) (h7:O9 P f7) (h8:Ll P f8) (h9:LK P f9) (h10:I2 P f10) (h11:Ku P f11) (h12:IW P f12) (h13:OP P f13) (h14:GP P f14):Pk P f:=by
 intro d t dv pv w L bt Tt acts most N hp hg hw hmost
 obtain⟨bp,rfl⟩:=hp.ptr
 have hwl:=hw.BW
 obtain⟨a,cw,rfl⟩:=hw.val
 refine AG hd (Aca rfl) ?_
 show gwp P _ _ _ _ _
 (refine Ad<|Am rfl<|Ae rfl<|Aa<|Ad<|Am rfl<|Aa<|Ah<|Ad<|Ab rfl<|Aa<|Ax ?_)
 refine CI (α:=Nat×Option Addr×Nat×List KV) (fun x=>[(0,.pointer (some ⟨bp,0,none⟩)),(1,.pointer (some ⟨bt,0,none⟩)),(2,.slice a acts.length cw),(3,.int .i64 most),(10,.slice x.2.1 x.2.2.2.length x.2.2.1),(11,.int .i64 x.1)])
  (fun x d' L'=>Le d d'∧x.1≤acts.length∧x.1≤most∧RSl 2 RKv d' (.slice x.2.1 x.2.2.2.length x.2.2.1) x.2.2.2∧∃t' P' J L2,L'=J++tbD bt Tt (.pointer (some ⟨bp,0,none⟩)) t'::L2∧PgT d' t'.s dv (.pointer (some ⟨bp,0,none⟩)) L2∧Gr N x.1 t' x.2.2.2 P')
  (fun x=>most - x.1) (0,none,0,[]) ⟨rfl,rfl,rfl,rfl,rfl,rfl,trivial⟩ ⟨Le.refl _,Adf _,Adf _,RSl.nil,t,[],[],L,rfl,hp,hg⟩ ?_
 rintro⟨i,la,lc,l⟩ ρ d' L' ⟨hle,hi,him,hl,t,P',J,L2,rfl,hp2,hg2⟩
 simp only at hi him hl hg2⊢
 have hw2:=RSl.mono (R:=RAc) HD hw hle
 by_cases e:i<acts.length
 ·by_cases e2:i<most
  ·(refine Ah<|Ad<|Ab rfl<|Am rfl<|AL rfl<|AA rfl rfl<|Ae rfl<|Bd rfl (by omega)<|Af rfl<|Ab rfl<|Af rfl<|Ab rfl<|Af rfl<|AA rfl rfl<|AB rfl rfl<|Aa<|Ay rfl (by omega)<|Al<|Ah<|Ax<|Ad<|Am rfl<|Ab rfl ?_)
   refine BH (m:=i) rfl hw2 rfl rfl e (fun b o cs hcl hdc ⟨kv,vv,q,hk,hv⟩=>?_)
   subst q
   obtain⟨ka,kc,rfl⟩:=RSl.val hk
   obtain⟨va0,vc0,rfl⟩:=RSl.val hv
   obtain⟨hkl,hth⟩:=hg2.ok.far (by have:=hg2.ln;omega)
   (refine YH rfl (by assumption) rfl<|BV (fun _ _=>?_))
   rename_i b12 T12
   refine A0 0 [.int .i64 acts[i].1,.slice ka acts[i].2.1.length kc,.slice va0 acts[i].2.2.length vc0] rfl rfl rfl rfl (Ach _) rfl rfl ?_
   generalize acts[i]=A at hk hv hcl hdc
   obtain⟨kind,key,val0⟩:=A
   simp only at hk hv hcl hdc⊢
   (refine Aa<|Ad<|Ai rfl<|Ag rfl (Aj 0 rfl rfl) ?_)
   refine Bk rfl (h1 hv (n:=700) (by omega)) (fun v0 d1 L1 _ ⟨z1,z2,hv1⟩=>?_)
   subst z1;subst z2
   rw [Adt]
   have hvl:(val0.take 700).length≤700:=by rw [Acw];omega
   generalize val0.take 700=val at hv1 hvl
   obtain⟨va,vc,rfl⟩:=RSl.val hv1
   (refine Am rfl<|Aa<|Ad<|Ai rfl<|Ag rfl (Aj 0 rfl rfl) ?_)
   refine BR rfl (h2 hk) ?_
   (refine Ab rfl<|Aa<|Ad<|Ak rfl ?_)
   refine B3 (_::J) (h3 (t:=t) (L:=L2)) rfl rfl ?_
   (refine LB rfl rfl (by omega) (by omega)<|AN rfl rfl (by omega) (by omega)<|Am rfl<|AL rfl ?_)
   refine BR rfl (h4 (n:=val.length) (by omega)) ?_
   have hpn:AQ val.length≤10:=by unfold AQ;omega
   (refine AN rfl rfl (by omega) (by omega)<|Ab rfl<|Aa<|Ad<|Ak rfl ?_)
   have g5:∀{d t L},PgT d t dv (.pointer (some ⟨bp,0,none⟩)) L→CW P f5 [.pointer (some ⟨bp,0,none⟩)] d L (.int .i64 ((t.free:Nat):Int)):=fun⟨n6,hp6⟩=>h5 (s:=wtc _ n6) hp6
   have hfr:t.s.free≤8192:=by have:=hg2.ok.gd.len;have:=List.countP_le_length (p:=(·==0)) (l:=t.s.kinds);unfold PD.free;omega
   refine B3 (_::J++[_]) (g5 hp2) (Ahg (_::J) _ L2) rfl ?_
   by_cases k0:kind=0
   ·subst k0
    (refine Ab rfl<|Aa<|Ah<|Ad<|Ai rfl<|Ag rfl (Aj 0 rfl rfl)<|Aa<|Ax<|Ad<|AJ rfl rfl<|Ae rfl<|Aa<|Ay rfl (by omega)<|Ad ?_)
    refine Dn (cs:=[]) (by simp) (by simp [Instr.fill,Bp]) (fun b110 T110=>?_)
    (apply Am;rfl)
    refine EP (R:=AP) (sz:=1) 0 rfl rfl (As.KN (R:=AP) (sz:=1)) rfl (RSl.src (R:=AP) hv1 Gv (by omega) _) (by omega) (by simp;omega) (by simp;omega) (fun v17 g17 o17=>?_)
    rw [Adt] at o17
    obtain⟨oa,oc,rfl⟩:=o17.val
    (refine Am rfl<|Aa<|Ad<|Ak rfl<|Ai rfl<|Ag rfl (Aj 1 rfl rfl)<|Am rfl ?_)
    refine CU (A:=tbD bt Tt _ t::g17::L2) (B:=_::J) (h6.own (Tt:=Tt) hp2 hk o17 hkl) ((Adj (l₁:=_::_::J)).trans (Acn _ (Acn _ Aci))) rfl (fun v d4 L4 hl4 ⟨_,e4,L5,e5,hp5⟩=>?_)
    subst e4;subst e5
    have hkk:=hk.BW
    have hll:l.length≤1000:=by have:=hg2.ln;omega
    have hl4':=RSl.mono (R:=RKv) Ef hl hl4
    have hk4:=RSl.mono (R:=AP) AX hk hl4
    have hv4:=RSl.mono (R:=AP) AX hv1 hl4
    refine⟨d4,g17::(bx b12 T12 [.int .i64 0,.slice ka key.length kc,.slice va0 val0.length vc0]::J++tbD bt Tt (.pointer (some ⟨bp,0,none⟩)) (Cq t key val).1::L5),Vs.perm ((Adj (l₁:=_::_::J)).trans (Acn _ (Acn _ Aci))).symm,?_⟩
    rcases G1 (key:=key) with hwk|hwk
    ·rcases hg2.put hwk hvl with ⟨q1,P2,hg3⟩|⟨q1,q2,q3,hg3⟩
     ·rw [q1,hwk]
      clear q1
      generalize (Cq t key val).1=t2 at hp5 hg3⊢
      (refine Ab rfl<|Aa<|Ah<|Ad<|Ab rfl<|AJ rfl rfl<|Ae rfl<|AZ rfl (by omega)<|An rfl<|An rfl<|Aq rfl rfl<|Ae rfl<|An rfl<|An rfl<|An rfl<|Aq rfl rfl<|Ae rfl<|An rfl<|An rfl<|An rfl<|An rfl<|Aq rfl rfl<|Aa<|AR rfl<|Al<|Ah<|Ad<|Ab rfl<|Ab rfl<|AO rfl rfl<|Aa<|Ar rfl (by omega)<|Al<|Ah<|Ad<|Ab rfl<|AJ rfl rfl<|Aa<|Ay rfl (by omega)<|AE<|Am rfl<|Ai rfl<|Ag rfl (Aj 1 rfl rfl)<|Bf rfl (by assumption)<|Am rfl<|Bf rfl (by assumption) ?_)
      refine Bk rfl (h7 hl4' hkk (by omega) (by omega)) (fun u d5 L6 hl5 ⟨z1,_,z3⟩=>?_)
      subst z1
      obtain⟨la2,lc2,rfl⟩:=z3.val
      rw [Adt]
      have hct:=hg3.ok.ct
      (refine Am rfl<|Aa<|Ad<|Am rfl<|AL rfl<|Ab rfl<|Aa<|Ax ?_)
      refine CI (α:=Nat) (fun x=>[(0,.pointer (some ⟨bp,0,none⟩)),(1,.pointer (some ⟨bt,0,none⟩)),(2,.slice a acts.length cw),(3,.int .i64 most),(10,.slice la2 (D5 l key val).length lc2),(11,.int .i64 i),(17,.slice oa val.length oc),(148,.int .i64 val.length),(149,.int .i64 x)])
       (fun x dd L'=>dd=d5∧x≤val.length∧∃xs g,xs.length=val.length∧As 1 AP d5 (.slice oa val.length oc) xs g∧L'=g::(bx b12 T12 [.int .i64 0,.slice ka key.length kc,.slice va0 val0.length vc0]::J++tbD bt Tt (.pointer (some ⟨bp,0,none⟩)) t2::L5)) (fun x=>val.length - x) 0 ⟨rfl,rfl,rfl,rfl,rfl,rfl,rfl,rfl,rfl,trivial⟩ ⟨rfl,Adf _,val,g17,rfl,As.mono (R:=AP) AX o17 (hl4.trans hl5),rfl⟩ ?_
      rintro k ρ d9 L9 ⟨rfl,hk9,xs,g9,hxl,o9,rfl⟩
      by_cases e9:k<val.length
      ·obtain⟨gb,gT,gl,gc,e10,rfl,hml,hmg,hset⟩:=o9.D9 (m:=k) (by omega)
       rw [hxl] at e10
       cases e10
       (refine Ad<|AA rfl rfl<|Aa<|Ah<|Ay rfl (by omega)<|Al<|Ah<|Ax<|Ad<|Ab rfl<|Ab rfl<|Aa<|AE<|Am rfl<|Ab rfl<|Bx _ rfl rfl rfl (by omega) ?_)
       refine Ag rfl (Aj 0 rfl (by rw [Aen];exact hmg)) ?_
       refine V5 rfl rfl ?_
       refine Kj k rfl rfl rfl e9 ?_
       refine BN 0 rfl rfl rfl rfl (by first|omega|(simp [Az,Value.cells];omega)) rfl ?_
       (refine Aa<|AE<|AN rfl rfl (by omega) (by omega)<|Ab rfl<|Aa ?_)
       exact⟨k+1,by omega,⟨rfl,rfl,rfl,rfl,rfl,rfl,rfl,rfl,rfl,trivial⟩,rfl,e9,xs.set k _,_,by simpa using hxl,hset _,rfl⟩
      obtain rfl:k=val.length:=by omega
      (refine Ad<|AA rfl rfl<|Aa<|Ah<|Ar rfl (by omega)<|Bh<|Ad<|Ak rfl ?_)
      refine B3 (_::_::J) (h14 (t:=t2) (L:=L5)) rfl rfl ?_
      (refine Am rfl<|AL rfl<|AO rfl rfl<|Aa<|Ar rfl (by omega)<|Al<|AE<|Ab rfl<|AN rfl rfl (by omega) (by omega)<|Ab rfl<|Aa ?_)
      exact⟨(i+1,la2,lc2,D5 l key val),by simp only;omega,⟨rfl,rfl,rfl,rfl,rfl,rfl,trivial⟩,(hle.trans hl4).trans hl5,e,e2,z3,t2,P2,_::_::J,L5,rfl,hp5.mono hl5,hg3⟩
     ·rw [q1,hwk]
      clear q1
      generalize (Cq t key val).1=t2 at hp5 hg3 q3⊢
      have g5':=g5 hp5
      rw [q3] at g5'
      (refine Ab rfl<|Aa<|Ah<|Ad<|Ab rfl<|AJ rfl rfl<|Ae rfl<|Bd rfl (by omega)<|Af rfl<|Ab rfl<|Af rfl<|AJ rfl rfl<|AB rfl rfl<|Ae rfl<|Bd rfl (by omega)<|Af rfl<|Ab rfl<|Af rfl<|Ab rfl<|Af rfl<|AA rfl rfl<|AB rfl rfl<|Ae rfl<|Bd rfl (by omega)<|Af rfl<|Ak rfl<|Af rfl ?_)
      refine B3 (_::_::J++[_]) g5' (Ahg (_::_::J) _ L5) rfl ?_
      (refine Af rfl<|Ab rfl<|Af rfl<|AJ rfl rfl<|AB rfl rfl<|Aa<|Ay rfl (by omega)<|Bh<|AE<|Ab rfl<|AN rfl rfl (by omega) (by omega)<|Ab rfl<|Aa ?_)
      exact⟨(i+1,la,lc,l),by simp only;omega,⟨rfl,rfl,rfl,rfl,rfl,rfl,trivial⟩,hle.trans hl4,e,e2,hl4',t2,P',_::_::J,L5,rfl,hp5,hg3⟩
    ·have hF:Cq t key val=(t,2):=by unfold Cq;rw [if_pos (by rw [hwk];decide),hwk]
     rw [hF] at hp5⊢
     rw [hwk]
     simp only at hp5⊢
     have hct:=hg2.ok.ct
     (refine Ab rfl<|Aa<|Ah<|Ad<|Ab rfl<|AJ rfl rfl<|Ae rfl<|AZ rfl (by omega)<|An rfl<|An rfl<|Aq rfl rfl<|Ae rfl<|An rfl<|An rfl<|An rfl<|Aq rfl rfl<|Ae rfl<|An rfl<|An rfl<|An rfl<|An rfl<|Aq rfl rfl<|Aa<|AR rfl<|Al<|Ah<|Ad<|Ab rfl<|Ab rfl<|AO rfl rfl<|Aa<|Ar rfl (by omega)<|Al<|Ah<|Ad<|Ab rfl<|AJ rfl rfl<|Aa<|Ar rfl (by omega)<|Al<|Ad<|Am rfl<|AL rfl<|Ab rfl<|Aa<|Ax ?_)
     refine CI (α:=Nat) (fun x=>[(0,.pointer (some ⟨bp,0,none⟩)),(1,.pointer (some ⟨bt,0,none⟩)),(2,.slice a acts.length cw),(3,.int .i64 most),(10,.slice la (l).length lc),(11,.int .i64 i),(17,.slice oa val.length oc),(148,.int .i64 val.length),(149,.int .i64 x)])
      (fun x dd L'=>dd=d4∧x≤val.length∧∃xs g,xs.length=val.length∧As 1 AP d4 (.slice oa val.length oc) xs g∧L'=g::(bx b12 T12 [.int .i64 0,.slice ka key.length kc,.slice va0 val0.length vc0]::J++tbD bt Tt (.pointer (some ⟨bp,0,none⟩)) t::L5)) (fun x=>val.length - x) 0 ⟨rfl,rfl,rfl,rfl,rfl,rfl,rfl,rfl,rfl,trivial⟩ ⟨rfl,Adf _,val,g17,rfl,As.mono (R:=AP) AX o17 hl4,rfl⟩ ?_
     rintro k ρ d9 L9 ⟨rfl,hk9,xs,g9,hxl,o9,rfl⟩
     by_cases e9:k<val.length
     ·obtain⟨gb,gT,gl,gc,e10,rfl,hml,hmg,hset⟩:=o9.D9 (m:=k) (by omega)
      rw [hxl] at e10
      cases e10
      (refine Ad<|AA rfl rfl<|Aa<|Ah<|Ay rfl (by omega)<|Al<|Ah<|Ax<|Ad<|Ab rfl<|Ab rfl<|Aa<|AE<|Am rfl<|Ab rfl<|Bx _ rfl rfl rfl (by omega) ?_)
      refine Ag rfl (Aj 0 rfl (by rw [Aen];exact hmg)) ?_
      refine V5 rfl rfl ?_
      refine Kj k rfl rfl rfl e9 ?_
      refine BN 0 rfl rfl rfl rfl (by first|omega|(simp [Az,Value.cells];omega)) rfl ?_
      (refine Aa<|AE<|AN rfl rfl (by omega) (by omega)<|Ab rfl<|Aa ?_)
      exact⟨k+1,by omega,⟨rfl,rfl,rfl,rfl,rfl,rfl,rfl,rfl,rfl,trivial⟩,rfl,e9,xs.set k _,_,by simpa using hxl,hset _,rfl⟩
     obtain rfl:k=val.length:=by omega
     (refine Ad<|AA rfl rfl<|Aa<|Ah<|Ar rfl (by omega)<|Bh<|Ad<|Ak rfl ?_)
     refine B3 (_::_::J) (h14 (t:=t) (L:=L5)) rfl rfl ?_
     (refine Am rfl<|AL rfl<|AO rfl rfl<|Aa<|Ar rfl (by omega)<|Al<|AE<|Ab rfl<|AN rfl rfl (by omega) (by omega)<|Ab rfl<|Aa ?_)
     exact⟨(i+1,la,lc,l),by simp only;omega,⟨rfl,rfl,rfl,rfl,rfl,rfl,trivial⟩,hle.trans hl4,e,e2,hl4',t,P',_::_::J,L5,rfl,hp5,hg2.more (by omega)⟩
   ·have hkk:=hk.BW
    have hll:l.length≤1000:=by have:=hg2.ln;omega
    by_cases k1:kind=1
    ·subst k1
     (refine Ab rfl<|Aa<|Ah<|Ad<|Ai rfl<|Ag rfl (Aj 0 rfl rfl)<|Aa<|Ax<|Ad<|AJ rfl rfl<|Ae rfl<|Aa<|Ar rfl (by omega)<|Ad<|AJ rfl rfl<|Ae rfl<|Aa<|Ay rfl (by omega)<|Ad<|Ak rfl<|Ai rfl<|Ag rfl (Aj 0 rfl rfl) ?_)
     refine A3 (_::J) (h8 (t:=t) (Tt:=Tt) hp2 hk (fun _=>hg2.ok.can hll key)) rfl rfl (fun v d4 L4 hl4 ⟨_,e4,L5,e5,hp5⟩=>?_)
     subst e4;subst e5
     have hl4':=RSl.mono (R:=RKv) Ef hl hl4
     have hk4:=RSl.mono (R:=AP) AX hk hl4
     rcases G1 (key:=key) with hwk|hwk
     ·rcases hg2.del hwk with ⟨q1,q1',P2,hg3⟩|⟨q1,q1',q2,q3,hg3⟩
      ·rw [q1,q1',hwk]
       clear q1 q1'
       generalize (CN t key).1=t2 at hp5 hg3⊢
       have hct:=hg3.ok.ct
       have hdk:(B8 l key).2=isK l key:=by unfold B8;cases hq:isK l key<;>simp
       generalize hbb:isK l key=bb at hdk
       cases bb with
       |true=>
        clear hbb
        (refine AU rfl<|Ap rfl rfl<|Ap rfl rfl<|Ae rfl<|Ab rfl<|Aa<|Ah<|Ad<|Ab rfl<|AJ rfl rfl<|Ae rfl<|AZ rfl (by omega)<|An rfl<|An rfl<|Aq rfl rfl<|Ae rfl<|An rfl<|An rfl<|An rfl<|Aq rfl rfl<|Ae rfl<|An rfl<|An rfl<|An rfl<|An rfl<|Aq rfl rfl<|Ae rfl<|An rfl<|An rfl<|Aq rfl rfl<|Aa<|AR rfl<|Al<|Ah<|Ad<|Ab rfl<|Ab rfl<|AO rfl rfl<|Aa<|Ar rfl (by omega)<|Al<|Ad<|Am rfl<|Ai rfl<|Ag rfl (Aj 0 rfl rfl)<|Bf rfl (by assumption) ?_)
        refine Bk rfl (h9 hl4' hkk (by omega)) (fun u d5 L6 hl5 ⟨z1,_,u2,z2,z3⟩=>?_)
        rw [hdk] at z2
        subst z1;subst z2
        obtain⟨la2,lc2,rfl⟩:=z3.val
        rw [Adt]
        clear hdk
        (refine AU rfl<|Ap rfl rfl<|Ap rfl rfl<|Am rfl<|Ae rfl<|Aa<|Ah<|Ad<|Ab rfl<|AJ rfl rfl<|Ae rfl<|Bd rfl (by omega)<|Af rfl<|Ae rfl<|Af rfl<|Ae rfl<|Af rfl<|Im rfl rfl<|AB rfl rfl<|Aa<|AR rfl<|Al<|Ad<|Ab rfl<|AJ rfl rfl<|Aa<|Ay rfl (by omega)<|AE<|Am rfl<|Am rfl<|Aa<|Ad<|Ak rfl ?_)
        refine B3 (_::J) (h14 (t:=t2) (L:=L5)) rfl rfl ?_
        (refine Am rfl<|AL rfl<|AO rfl rfl<|Aa<|Ar rfl (by omega)<|Al<|AE<|Ab rfl<|AN rfl rfl (by omega) (by omega)<|Ab rfl<|Aa ?_)
        exact⟨(i+1,la2,lc2,(B8 l key).1),by simp only;omega,⟨rfl,rfl,rfl,rfl,rfl,rfl,trivial⟩,(hle.trans hl4).trans hl5,e,e2,z3,t2,P2,_::J,L5,rfl,hp5.mono hl5,hg3.more (by omega)⟩
       |false=>
        clear hbb
        (refine AU rfl<|Ap rfl rfl<|Ap rfl rfl<|Ae rfl<|Ab rfl<|Aa<|Ah<|Ad<|Ab rfl<|AJ rfl rfl<|Ae rfl<|AZ rfl (by omega)<|An rfl<|An rfl<|Aq rfl rfl<|Ae rfl<|An rfl<|An rfl<|An rfl<|Aq rfl rfl<|Ae rfl<|An rfl<|An rfl<|An rfl<|An rfl<|Aq rfl rfl<|Ae rfl<|An rfl<|An rfl<|Aq rfl rfl<|Aa<|AR rfl<|Al<|Ah<|Ad<|Ab rfl<|Ab rfl<|AO rfl rfl<|Aa<|Ar rfl (by omega)<|Al<|Ad<|Am rfl<|Ai rfl<|Ag rfl (Aj 0 rfl rfl)<|Bf rfl (by assumption) ?_)
        refine Bk rfl (h9 hl4' hkk (by omega)) (fun u d5 L6 hl5 ⟨z1,_,u2,z2,z3⟩=>?_)
        rw [hdk] at z2
        subst z1;subst z2
        obtain⟨la2,lc2,rfl⟩:=z3.val
        rw [Adt]
        clear hdk
        (refine AU rfl<|Ap rfl rfl<|Ap rfl rfl<|Am rfl<|Ae rfl<|Aa<|Ah<|Ad<|Ab rfl<|AJ rfl rfl<|Ae rfl<|Bd rfl (by omega)<|Af rfl<|Ae rfl<|Af rfl<|Ae rfl<|Af rfl<|Im rfl rfl<|AB rfl rfl<|Aa<|AR rfl<|Al<|Ad<|Ab rfl<|AJ rfl rfl<|Aa<|Ay rfl (by omega)<|AE<|Am rfl<|Am rfl<|Aa<|Ad<|Ak rfl ?_)
        refine B3 (_::J) (h14 (t:=t2) (L:=L5)) rfl rfl ?_
        (refine Am rfl<|AL rfl<|AO rfl rfl<|Aa<|Ar rfl (by omega)<|Al<|AE<|Ab rfl<|AN rfl rfl (by omega) (by omega)<|Ab rfl<|Aa ?_)
        exact⟨(i+1,la2,lc2,(B8 l key).1),by simp only;omega,⟨rfl,rfl,rfl,rfl,rfl,rfl,trivial⟩,(hle.trans hl4).trans hl5,e,e2,z3,t2,P2,_::J,L5,rfl,hp5.mono hl5,hg3.more (by omega)⟩
      ·rw [q1,q1',hwk]
       clear q1 q1'
       generalize (CN t key).1=t2 at hp5 hg3 q3⊢
       have g5':=g5 hp5
       rw [q3] at g5'
       (refine AU rfl<|Ap rfl rfl<|Ap rfl rfl<|Ae rfl<|Ab rfl<|Aa<|Ah<|Ad<|Ab rfl<|AJ rfl rfl<|Ae rfl<|Bd rfl (by omega)<|Af rfl<|Ab rfl<|Af rfl<|AJ rfl rfl<|AB rfl rfl<|Ae rfl<|Bd rfl (by omega)<|Af rfl<|Ab rfl<|Af rfl<|Ab rfl<|Af rfl<|AA rfl rfl<|AB rfl rfl<|Ae rfl<|Bd rfl (by omega)<|Af rfl<|Ak rfl<|Af rfl ?_)
       refine B3 (_::J++[_]) g5' (Ahg (_::J) _ L5) rfl ?_
       (refine Af rfl<|Ab rfl<|Af rfl<|AJ rfl rfl<|AB rfl rfl<|Ae rfl<|Bd rfl (by omega)<|Af rfl<|Ae rfl<|Af rfl<|Bj rfl<|AB rfl rfl<|Aa<|Be rfl<|Bh<|AE<|Ab rfl<|AN rfl rfl (by omega) (by omega)<|Ab rfl<|Aa ?_)
       exact⟨(i+1,la,lc,l),by simp only;omega,⟨rfl,rfl,rfl,rfl,rfl,rfl,trivial⟩,hle.trans hl4,e,e2,hl4',t2,P',_::J,L5,rfl,hp5,hg3.more (by omega)⟩
     ·have hF:CN t key=(t,false,2):=by unfold CN;rw [if_pos (by rw [hwk];decide),hwk]
      rw [hF] at hp5⊢
      rw [hwk]
      simp only at hp5⊢
      have hct:=hg2.ok.ct
      (refine AU rfl<|Ap rfl rfl<|Ap rfl rfl<|Ae rfl<|Ab rfl<|Aa<|Ah<|Ad<|Ab rfl<|AJ rfl rfl<|Ae rfl<|AZ rfl (by omega)<|An rfl<|An rfl<|Aq rfl rfl<|Ae rfl<|An rfl<|An rfl<|An rfl<|Aq rfl rfl<|Ae rfl<|An rfl<|An rfl<|An rfl<|An rfl<|Aq rfl rfl<|Ae rfl<|An rfl<|An rfl<|Aq rfl rfl<|Aa<|AR rfl<|Al<|Ah<|Ad<|Ab rfl<|Ab rfl<|AO rfl rfl<|Aa<|Ar rfl (by omega)<|Al<|Ad<|Am rfl<|Ai rfl<|Ag rfl (Aj 0 rfl rfl)<|Bf rfl (by assumption) ?_)
      refine Bk rfl (h9 hl4' hkk (by omega)) (fun u d5 L6 hl5 ⟨z1,_,u2,z2,z3⟩=>?_)
      subst z1;subst z2
      obtain⟨la2,lc2,rfl⟩:=z3.val
      rw [Adt]
      (refine AU rfl<|Ap rfl rfl<|Ap rfl rfl<|Am rfl<|Ae rfl<|Aa<|Ah<|Ad<|Ab rfl<|AJ rfl rfl<|Ae rfl<|AZ rfl (by omega)<|An rfl<|An rfl<|An rfl<|Aq rfl rfl<|Aa<|AR rfl<|Al<|Ad<|Ab rfl<|AJ rfl rfl<|Aa<|Ar rfl (by omega)<|Al<|Ad<|Ak rfl ?_)
      refine B3 (_::J) (h14 (t:=t) (L:=L5)) rfl rfl ?_
      (refine Am rfl<|AL rfl<|AO rfl rfl<|Aa<|Ar rfl (by omega)<|Al<|AE<|Ab rfl<|AN rfl rfl (by omega) (by omega)<|Ab rfl<|Aa ?_)
      exact⟨(i+1,la,lc,l),by simp only;omega,⟨rfl,rfl,rfl,rfl,rfl,rfl,trivial⟩,(hle.trans hl4).trans hl5,e,e2,RSl.mono (R:=RKv) Ef hl4' hl5,t,P',_::J,L5,rfl,hp5.mono hl5,hg2.more (by omega)⟩
    ·by_cases k3:kind=3
     ·subst k3
      have g10:∀{d t L},PgT d t dv (.pointer (some ⟨bp,0,none⟩)) L→Aw P f10 [.pointer (some ⟨bp,0,none⟩)] d L (Ret fun r d' L'=>r=.int .i64 0∧d'=d∧PgT d' t.flush dv (.pointer (some ⟨bp,0,none⟩)) L'):=fun⟨n6,hp6⟩=>Aw.Dr (h10 (s:=wtc _ n6) hp6) (fun r d' L' _ ⟨z1,z2,z3⟩=>⟨d',L',Vs.refl _ _,z1,z2,n6,by rw [QY] at z3;exact z3⟩)
      have g11:∀{d t L},PgT d t dv (.pointer (some ⟨bp,0,none⟩)) L→Aw P f11 [.pointer (some ⟨bp,0,none⟩)] d L (Ret fun r d' L'=>r=.int .i64 0∧d'=d∧PgT d' t.done dv (.pointer (some ⟨bp,0,none⟩)) L'):=fun⟨n6,hp6⟩=>Aw.Dr (h11 (s:=wtc _ n6) hp6) (fun r d' L' _ ⟨z1,z2,z3⟩=>⟨d',L',Vs.refl _ _,z1,z2,n6,z3⟩)
      have hct:=hg2.ok.ct
      (refine Ab rfl<|Aa<|Ah<|Ad<|Ai rfl<|Ag rfl (Aj 0 rfl rfl)<|Aa<|Ax<|Ad<|AJ rfl rfl<|Ae rfl<|Aa<|Ar rfl (by omega)<|Ad<|AJ rfl rfl<|Ae rfl<|Aa<|Ar rfl (by omega)<|Ad<|AJ rfl rfl<|Ae rfl<|Aa<|Ay rfl (by omega)<|Ad<|Ak rfl ?_)
      refine A3 (_::J++[_]) (g10 hp2) (Ahg (_::J) _ L2) rfl (fun v d4 L4 hl4 ⟨e4,e5,hp5⟩=>?_)
      subst e4;subst e5
      (refine AO rfl rfl<|Ae rfl<|AZ rfl (by omega)<|Af rfl<|Ak rfl<|Af rfl ?_)
      refine A3 (_::J++[_]) (g11 hp5) rfl rfl (fun v d5 L5 hl5 ⟨e6,e7,hp6⟩=>?_)
      subst e6;subst e7
      rw [show _::J++[tb bt Tt (.pointer (some ⟨bp,0,none⟩)) t.root t.height t.count]++L5=_::(J++tbD bt Tt (.pointer (some ⟨bp,0,none⟩)) t::L5) from(Ahg (_::J) _ L5).symm]
      (refine Af rfl<|AO rfl rfl<|Aq rfl rfl<|Aa<|Ar rfl (by omega)<|Al<|Ad<|Ak rfl ?_)
      refine B3 (_::J) (h14 (t:=t) (L:=L5)) rfl rfl ?_
      (refine Am rfl<|AL rfl<|AO rfl rfl<|Aa<|Ar rfl (by omega)<|Al<|AE<|Ab rfl<|AN rfl rfl (by omega) (by omega)<|Ab rfl<|Aa ?_)
      exact⟨(i+1,la,lc,l),by simp only;omega,⟨rfl,rfl,rfl,rfl,rfl,rfl,trivial⟩,hle,e,e2,hl,{t with s:=t.s.fin},P',_::J,L5,rfl,hp6,hg2.fin.more (by omega)⟩
     ·(refine Ab rfl<|Aa<|Ah<|Ad<|Ai rfl<|Ag rfl (Aj 0 rfl rfl)<|Aa<|Ax<|Ad<|AJ rfl rfl<|Ae rfl<|Aa<|Ar rfl (by omega)<|Ad<|AJ rfl rfl<|Ae rfl<|Aa<|Ar rfl (by omega)<|Ad<|AJ rfl rfl<|Ae rfl<|Aa<|Ar rfl (by omega)<|Ad<|Ak rfl<|Ai rfl<|Ag rfl (Aj 0 rfl rfl) ?_)
      refine A3 (_::J) (Ud (s:=t.s) (root:=t.root) (h:=t.height) (c:=t.count) (bt:=bt) (Tt:=Tt) h12 hp2 hk (by omega)) rfl rfl (fun v d4 L4 hl4 ⟨_,u,L5,e1,hu,e3,hp5⟩=>?_)
      subst e1;subst e3
      have hl4':=RSl.mono (R:=RKv) Ef hl hl4
      have hk4:=RSl.mono (R:=AP) AX hk hl4
      have hct:=hg2.ok.ct
      rcases G1 (key:=key) with hwk|hwk
      ·have hF:CX ⟨t.s,t.root,t.height,t.count⟩ key=((DP l key).1,(DP l key).2,0):=hg2.ok.Er hwk
       rw [hF] at hu⊢
       rw [hwk]
       simp only at hu⊢
       have hrk:=h13 hl4' hkk
       generalize DP l key=G at hu hrk⊢
       obtain⟨gv,gb⟩:=G
       simp only at hu hrk⊢
       obtain⟨ua,uc,rfl⟩:=hu.val
       (refine AU rfl<|Ap rfl rfl<|Ap rfl rfl<|Ap rfl rfl<|Am rfl<|Ae rfl<|Ab rfl<|Aa<|Ad<|Am rfl<|Ai rfl<|Ag rfl (Aj 0 rfl rfl)<|Bf rfl (by assumption) ?_)
       refine BR rfl hrk ?_
       cases gb with
       |true=>
        (refine AU rfl<|Ap rfl rfl<|Ap rfl rfl<|DS rfl<|Ae rfl<|Aa<|Ad<|Ab rfl<|Ab rfl<|AO rfl rfl<|Ae rfl<|AZ rfl (by omega)<|Af rfl<|Ab rfl<|Af rfl<|AJ rfl rfl<|Af rfl<|Ae rfl<|Bd rfl (by omega)<|Af rfl<|Ae rfl<|Af rfl<|Ae rfl<|Af rfl<|Im rfl rfl<|Af rfl<|Ae rfl<|Af rfl<|Am rfl<|Af rfl<|Bf rfl (by assumption)<|Af rfl<|DS rfl<|Af rfl<|LS rfl rfl<|Af rfl<|Aq rfl rfl<|Af rfl<|AB rfl rfl<|Aq rfl rfl<|Ae rfl ?_)
        first|refine Qw rfl (fun hq=>?_) (fun hq=>?_)|refine R7 rfl (fun hq=>?_) (fun hq=>?_)
        ·exact absurd rfl hq
        ·clear hq
         (refine Af rfl<|Ab rfl<|Af rfl<|AO rfl rfl<|Af rfl<|Ae rfl<|AZ rfl (by omega)<|An rfl<|An rfl<|Da rfl<|Da rfl<|Da rfl<|An rfl<|Af rfl<|Aq rfl rfl<|Aq rfl rfl<|Aa<|AR rfl<|Al<|Ad<|Ak rfl ?_)
         refine B3 (_::J) (h14 (t:=t) (L:=L5)) rfl rfl ?_
         (refine Am rfl<|AL rfl<|AO rfl rfl<|Aa<|Ar rfl (by omega)<|Al<|AE<|Ab rfl<|AN rfl rfl (by omega) (by omega)<|Ab rfl<|Aa ?_)
         exact⟨(i+1,la,lc,l),by simp only;omega,⟨rfl,rfl,rfl,rfl,rfl,rfl,trivial⟩,hle.trans hl4,e,e2,hl4',t,P',_::J,L5,rfl,hp5,hg2.more (by omega)⟩
       |false=>
        (refine AU rfl<|Ap rfl rfl<|Ap rfl rfl<|DS rfl<|Ae rfl<|Aa<|Ad<|Ab rfl<|Ab rfl<|AO rfl rfl<|Ae rfl<|AZ rfl (by omega)<|Af rfl<|Ab rfl<|Af rfl<|AJ rfl rfl<|Af rfl<|Ae rfl<|Bd rfl (by omega)<|Af rfl<|Ae rfl<|Af rfl<|Ae rfl<|Af rfl<|Im rfl rfl<|Af rfl<|Ae rfl<|Af rfl<|Am rfl<|Af rfl<|Bf rfl (by assumption)<|Af rfl<|DS rfl<|Af rfl<|LS rfl rfl<|Af rfl<|Aq rfl rfl<|Af rfl<|AB rfl rfl<|Aq rfl rfl<|Ae rfl ?_)
        first|refine Qw rfl (fun hq=>?_) (fun hq=>?_)|refine R7 rfl (fun hq=>?_) (fun hq=>?_)
        ·exact absurd rfl hq
        ·clear hq
         (refine Af rfl<|Ab rfl<|Af rfl<|AO rfl rfl<|Af rfl<|Ae rfl<|AZ rfl (by omega)<|An rfl<|An rfl<|Da rfl<|Da rfl<|Da rfl<|An rfl<|Af rfl<|Aq rfl rfl<|Aq rfl rfl<|Aa<|AR rfl<|Al<|Ad<|Ak rfl ?_)
         refine B3 (_::J) (h14 (t:=t) (L:=L5)) rfl rfl ?_
         (refine Am rfl<|AL rfl<|AO rfl rfl<|Aa<|Ar rfl (by omega)<|Al<|AE<|Ab rfl<|AN rfl rfl (by omega) (by omega)<|Ab rfl<|Aa ?_)
         exact⟨(i+1,la,lc,l),by simp only;omega,⟨rfl,rfl,rfl,rfl,rfl,rfl,trivial⟩,hle.trans hl4,e,e2,hl4',t,P',_::J,L5,rfl,hp5,hg2.more (by omega)⟩
      ·have hF:CX ⟨t.s,t.root,t.height,t.count⟩ key=([],false,2):=by unfold CX;rw [if_pos (by rw [hwk];decide),hwk]
       rw [hF] at hu⊢
       rw [hwk]
       simp only at hu⊢
       have hrk:=h13 hl4' hkk
       generalize DP l key=G at hrk
       obtain⟨gv,gb⟩:=G
       simp only at hrk
       obtain⟨ua,uc,rfl⟩:∃ua uc,u=.slice ua 0 uc:=hu.val
       (refine AU rfl<|Ap rfl rfl<|Ap rfl rfl<|Ap rfl rfl<|Am rfl<|Ae rfl<|Ab rfl<|Aa<|Ad<|Am rfl<|Ai rfl<|Ag rfl (Aj 0 rfl rfl)<|Bf rfl (by assumption) ?_)
       refine BR rfl hrk ?_
       (refine AU rfl<|Ap rfl rfl<|Ap rfl rfl<|DS rfl<|Ae rfl<|Aa<|Ad<|Ab rfl<|Ab rfl<|AO rfl rfl<|Ae rfl<|AZ rfl (by omega)<|Af rfl<|Ab rfl<|Af rfl<|AJ rfl rfl<|Af rfl<|Ae rfl<|AZ rfl (by omega)<|An rfl<|An rfl<|An rfl<|An rfl<|Da rfl<|Da rfl<|Da rfl<|Da rfl<|An rfl<|Af rfl<|Aq rfl rfl<|Aq rfl rfl<|Ae rfl<|Af rfl<|Ab rfl<|Af rfl<|AO rfl rfl<|Af rfl<|Ae rfl<|Bd rfl (by omega)<|Af rfl<|Ae rfl<|Af rfl<|Ae rfl<|Af rfl<|Am rfl<|Af rfl<|AL rfl<|Af rfl<|AO rfl rfl<|Af rfl<|Aq rfl rfl<|Af rfl<|AB rfl rfl<|Aq rfl rfl<|Aa<|Ar rfl (by omega)<|Al<|Ad<|Ak rfl ?_)
       refine B3 (_::J) (h14 (t:=t) (L:=L5)) rfl rfl ?_
       (refine Am rfl<|AL rfl<|AO rfl rfl<|Aa<|Ar rfl (by omega)<|Al<|AE<|Ab rfl<|AN rfl rfl (by omega) (by omega)<|Ab rfl<|Aa ?_)
       exact⟨(i+1,la,lc,l),by simp only;omega,⟨rfl,rfl,rfl,rfl,rfl,rfl,trivial⟩,hle.trans hl4,e,e2,hl4',t,P',_::J,L5,rfl,hp5,hg2.more (by omega)⟩
  ·(refine Ah<|Ad<|Ab rfl<|Am rfl<|AL rfl<|AA rfl rfl<|Ae rfl<|Bd rfl (by omega)<|Af rfl<|Ab rfl<|Af rfl<|Ab rfl<|Af rfl<|AA rfl rfl<|AB rfl rfl<|Aa<|Ar rfl (by omega)<|Bh<|Ad<|Am rfl<|Am rfl<|Ae rfl<|Aa<|Ao ?_)
   exact A7 [.slice la l.length lc,.bool true] ⟨Au rfl,Au rfl,trivial⟩ (d':=d') (L':=tbD bt Tt (.pointer (some ⟨bp,0,none⟩)) t::L2) (Vs.drop (Adm J _)) ⟨hle,_,t,l,P',L2,rfl,hl,hg2.more (by omega),rfl,hp2⟩
 ·(refine Ah<|Ad<|Ab rfl<|Am rfl<|AL rfl<|AA rfl rfl<|Ae rfl<|AZ rfl (by omega)<|An rfl<|An rfl<|An rfl<|Aq rfl rfl<|Aa<|AR rfl<|Bh<|Ad<|Am rfl<|Am rfl<|Ae rfl<|Aa<|Ao ?_)
  exact A7 [.slice la l.length lc,.bool true] ⟨Au rfl,Au rfl,trivial⟩ (d':=d') (L':=tbD bt Tt (.pointer (some ⟨bp,0,none⟩)) t::L2) (Vs.drop (Adm J _)) ⟨hle,_,t,l,P',L2,rfl,hl,hg2.more (by omega),rfl,hp2⟩
end
end Go.Gk.Tre
end
section
namespace Go.Gk.Tre
open Go Go.Gk Go.Gk.Dev Go.Gk.Cch Go.Gk.Pgr Go.Gk.Chn Go.Gk.Node
theorem V4{R:RT} (hR:∀c l P,R c l P→KO (l.map Prod.fst)):∀{ks:List (List UInt8)}{cs:List Int}{l:List KV}{P:List Int},Kd R ks cs l P→KO (l.map Prod.fst)
 |[],[c],l,P,h=>hR c l P h
 |[],[],l,P,h=>h.elim
 |[],_::_::_,l,P,h=>h.elim
 |_::_,[],l,P,h=>h.elim
 |k::ks,c::cs,l,P,h=>by
  obtain⟨l1,l2,P1,P2,rfl,rfl,h1,h2,h3,h4⟩:=Kd.cons.1 h
  rw [Afk]
  refine KO.app.2 ⟨hR _ _ _ h1,V4 hR h4,fun x hx y hy=>?_⟩
  obtain⟨x',hx',rfl⟩:=Agl.1 hx
  obtain⟨y',hy',rfl⟩:=Agl.1 hy
  exact Ij (h2 x' hx') (h3 y' hy')
theorem VR:∀{h:Nat}{s:PD}{k:Int}{l:List KV}{P:List Int},Tr s h k l P→KO (l.map Prod.fst)
 |0,s,k,l,P,h=>h.elim
 |h+1,s,k,l,P,⟨n,Q,hat,hne,eP,hn⟩=>by
  by_cases e:h=0
  ·rw [decide_eq_true e] at hn
   obtain⟨n1,n2⟩:=hn.leaf
   have hs:=hat.sound
   rw [Ed hs n1] at hs
   rw [←n2.keys]
   exact(CJ.1 hs).1
  ·rw [decide_eq_false e] at hn
   exact V4 (fun c l P q=>VR q) hn.inner.2
theorem Tok.asc{t:TD}{l:List KV}{P:List Int} (h:Tok t l P):KO (l.map Prod.fst):=by
 rcases h.tr with ⟨_,_,rfl,_⟩|⟨x,_,e⟩
 ·exact KO.nil
 ·exact VR e
theorem get_mem{l:List KV} (h:KO (l.map Prod.fst)) {x:KV} (hx:x∈l):DP l x.1=(x.2,true)∧isK l x.1=true:=by
 obtain⟨a,b,rfl⟩:=List.append_of_mem hx
 rw [show a++x::b=a++[x]++b by simp] at h⊢
 rw [Afk,Afk] at h
 obtain⟨h1,h2,h3⟩:=KO.app.1 h
 obtain⟨h4,h5,h6⟩:=KO.app.1 h1
 have ha:∀y∈a,Lt y.1 x.1:=fun y hy=>h6 _ (Aff hy) _ (by simp)
 have hb:∀y∈b,Lt x.1 y.1:=fun y hy=>h3 _ (by simp) _ (Aff hy)
 rw [Na ha hb,Ev ha hb]
 exact⟨Ss,Hw⟩
theorem Tok.Abb{t:TD}{l:List KV}{P:List Int} (h:Tok t l P) {x:KV} (hx:x∈l):BL x.1=0:=by
 have:=h.asc.1 x.1 (Aff hx)
 unfold BL
 rw [if_neg (by omega)]
theorem Tok.has{t:TD}{l:List KV}{P:List Int} (h:Tok t l P):Ga t l=true:=by
 unfold Ga
 rw [h.ct]
 simp only [decide_true,Bool.and_true,Acq]
 intro x hx
 unfold JB
 rw [h.Er (h.Abb hx),(get_mem h.asc hx).1]
 simp
theorem Gr.empty{n:Nat} (h1:1≤n) (h2:n≤8000):Gr n 0 ⟨pdN n, -1,0,0⟩ [] []:=by
 refine⟨⟨Good.new h1 (by rw [Adn];omega) (by rw [Adn];omega),Agq,rfl,.inl ⟨rfl,rfl,rfl,rfl⟩⟩,fun k=>⟨fun q=>?_,fun q=>(by cases q)⟩,Ach _,fun x hx=>(by cases hx),Gc⟩
 have key:∀x:Int,0≤x→(pdN n).kind k=x→x=0:=fun x hx hk=>by
  obtain⟨i,i1, -,i2, -⟩:=CO hk hx
  have:(pdN n).kd i=0:=by
   show(Dt n []).getD i 0=0
   rw [Jq,if_neg (fun q=>by cases q.2)]
  omega
 rcases q with q|q
 ·exact absurd (key 1 (by omega) q) (by omega)
 ·exact absurd (key 2 (by omega) q) (by omega)
theorem Oo:∀(l:List KV) (key:List UInt8),∀x∈l.take (Bo l key),Lt x.1 key
 |[],key,x,h=>by simp [Bo] at h
 |y::l,key,x,h=>by
  rw [Bo] at h
  by_cases e:Op.bytesLess y.1 key=true
  ·rw [if_pos e,List.take_succ_cons] at h
   rcases Adb.1 h with rfl|h
   ·exact e
   ·exact Oo l key x h
  ·rw [if_neg e] at h;cases h
theorem get_put{l:List KV}{key v:List UInt8}:DP (D5 l key v) key=(v,true):=by
 unfold D5
 have ha:=Oo (B8 l key).1 key
 generalize (B8 l key).1.take (Bo (B8 l key).1 key)=a at ha
 generalize (B8 l key).1.drop (Bo (B8 l key).1 key)=b
 have hf:Bo (a++((key,v)::b)) key=a.length:=by rw [G3 ha,Bo,if_neg (by simp [Ex])];rfl
 have hg:(a++((key,v)::b)).getD a.length ([],[])=(key,v):=by simp [Afw]
 rw [show a++[(key,v)]++b=a++((key,v)::b) by simp]
 have hi:isK (a++((key,v)::b)) key=true:=by
  unfold isK
  rw [hf,hg];simp
 unfold DP
 rw [if_pos hi,hf,hg]
end Go.Gk.Tre
end
section
namespace Go.Gk.Tre
open Go Go.Gk Go.Gk.Dev Go.Gk.Cch Go.Gk.Pgr Go.Gk.Chn Go.Gk.Node
attribute [local irreducible] gwp gws xwp
section
section
variable {P:Program}{f:FuncId}{d:Ac}{s:PD}{dv pv:Value}{L:List Ac}
theorem ZG(h:I2 P f) (hp:PgT d s dv pv L):Aw P f [pv] d L (Ret fun r d' L'=>r=.int .i64 0∧d'=d∧PgT d' s.flush dv pv L'):=by
 obtain⟨n,hp⟩:=hp
 exact Aw.Dr (h (s:=wtc s n) hp) (fun r d' L' _ ⟨z1,z2,z3⟩=>⟨d',L',Vs.refl _ _,z1,z2,n,by rw [QY] at z3;exact z3⟩)
theorem AaY(h:Ku P f) (hp:PgT d s dv pv L):Aw P f [pv] d L (Ret fun r d' L'=>r=.int .i64 0∧d'=d∧PgT d' s.done dv pv L'):=by
 obtain⟨n,hp⟩:=hp
 exact Aw.Dr (h (s:=wtc s n) hp) (fun r d' L' _ ⟨z1,z2,z3⟩=>⟨d',L',Vs.refl _ _,z1,z2,n,z3⟩)
theorem Aai(h:G4 P f) (hp:PgT d s dv pv L):Aw P f [pv] d L (Ret fun r d' L'=>L'=L∧Le d d'∧Mk d' s.mark s.frm pv r):=by
 obtain⟨n,hp⟩:=hp
 exact h (s:=wtc s n) hp
theorem AaZ(h:LW P f) {root height count:Int} (hp:PgT d s dv pv L) (r0: -1000000000≤root) (r1:root≤1000000000) (q0: -1000000000≤height) (q1:height≤1000000000) (c0: -1000000000≤count) (c1:count≤1000000000) (hb:D9 root height count=true):
  Aw P f [pv,.int .i64 root,.int .i64 height,.int .i64 count] d L (Ret fun v d' L'=>Le d d'∧∃bt Tt,v=.tuple #[.pointer (some ⟨bt,0,none⟩),.int .i64 0]∧L'=tb bt Tt pv root height count::L):=by
 obtain⟨n,hp⟩:=hp
 refine Aw.Dr (h (s:=wtc s n) hp r0 r1 q0 q1 c0 c1) (fun r d' L' _ ⟨h0,h1⟩=>⟨d',L',Vs.refl _ _,h0,?_⟩)
 rcases h1 with ⟨_,bt,Tt,h2,h3⟩|⟨h1,_⟩
 ·exact⟨bt,Tt,h2,h3⟩
 ·rw [hb] at h1;cases h1
theorem WS(h:HZ P f) {v:Value}{s0:PD} (hp:PgT d s dv pv L) (hm:Mk d s0.mark s.frm pv v) (hk:Pgr.AH s0 s) (hG:Pgr.Good s0):
  Aw P f [pv,v] d L (Ret fun r d' L'=>d'=d∧r=.int .i64 0∧PgT d' (s.back s0.mark) dv pv L'):=by
 obtain⟨n,hp⟩:=hp
 have hr:wr s0.mark.round=wr s.round:=by show wr s0.round=_;rw [hk.round]
 refine Aw.Dr (h (s:=wtc s n) hp hm (fun _=>⟨hk.og,hG.kd⟩)) (fun r d' L' _ ⟨h0,h1,_⟩=>?_)
 obtain⟨h2,h3⟩:=h1 hr
 subst h0
 exact⟨_,L',Vs.refl _ _,rfl,h2,n,h3⟩
end
theorem Mk.YZ{d d':Ac}{s0 s:PD}{pv v:Value} (h:Mk d s0.mark s0.frm pv v) (hl:Le d d') (hk:Pgr.AH s0 s):Mk d' s0.mark s.frm pv v:=by rw [hk.frm];exact h.mono hl
theorem Tok.opens{t:TD}{l:List KV}{P:List Int} (h:Tok t l P) (hh:t.height≤100000000) (hl:l.length≤100000000):D9 t.root t.height t.count=true:=by
 have hc:=h.ct
 rcases h.tr with ⟨e1,e2,rfl,_⟩|⟨x,e1,e2⟩
 ·rw [Ael] at hc
  simp [D9,e1,e2,hc]
 ·have h1:=Gx.1 e2.ne
  obtain⟨n,Q,hat,_⟩:=_root_.id e2
  have h2:=(Ej h.gd hat.liv).1
  simp only [D9,Adr,Acd,decide_eq_true_eq]
  exact .inr ⟨⟨by omega,h2⟩,by omega⟩
theorem Gr.AbQ{N i:Nat}{t:TD}{l:List KV}{P:List Int} (h:Gr N i t l P) (key:List UInt8) {v:List UInt8} (hv:v.length≤700):(∃l' P',Gr N (i+1) (Cq t key v).1 l' P')∧Pgr.AH t.s (Cq t key v).1.s:=by
 constructor
 ·rcases G1 (key:=key) with hw|hw
  ·rcases h.put hw hv with ⟨_,P',g⟩|⟨_,_,_,g⟩
   ·exact⟨_,_,g⟩
   ·exact⟨_,_,g⟩
  ·have hF:Cq t key v=(t,BL key):=by unfold Cq;rw [if_pos (by rw [hw];decide)]
   rw [hF]
   exact⟨l,P,h.more (by omega)⟩
 ·unfold Cq
  split
  ·exact Pgr.AH.refl _
  ·split
   ·exact Pgr.AH.refl _
   ·exact Qh (Sw t key v)
theorem Gr.AbL{N i:Nat}{t:TD}{l:List KV}{P:List Int} (h:Gr N i t l P) (key:List UInt8):(∃l' P',Gr N (i+1) (CN t key).1 l' P')∧Pgr.AH t.s (CN t key).1.s:=by
 constructor
 ·rcases G1 (key:=key) with hw|hw
  ·rcases h.del hw with ⟨_,_,P',g⟩|⟨_,_,_,_,g⟩
   ·exact⟨_,_,g.more (by omega)⟩
   ·exact⟨_,_,g.more (by omega)⟩
  ·have hF:CN t key=(t,false,BL key):=by unfold CN;rw [if_pos (by rw [hw];decide)]
   rw [hF]
   exact⟨l,P,h.more (by omega)⟩
 ·unfold CN
  split
  ·exact Pgr.AH.refl _
  ·exact Qh (RW t key)
def HX(a0 a1 a2 a3 a4 a5 a6 a7 a8 a9 a10 a11 a12 a13 a14:Nat):AY:=⟨117,[(.tmp 4)],(sR (o1 4 (.mv (.const (.bool false))) .done) (.seq (sR (oc 13 a0 []<|o1 14 (.un .not (tP 13)) .done) (.cond (tP 14) (sR (o1 4 (.mv (.const (.bool false))) .done) .ret) .skip)) (sR (oc 16 a1 [(kZ 300)]<|om 15 16<|oe 17 15 0<|oe 18 15 1<|om 5 17<|om 6 18 .done) (.seq (sR (om 19 6<|o1 20 (.eqp false (tP 19) (.const (.pointer none))) .done) (.cond (tP 20) (sR (o1 4 (.mv (.const (.bool false))) .done) .ret) .skip)) (sR (om 22 5<|om 23 6<|om 24 0<|oc 25 a2 [(tP 22),(tP 23),(tP 24),(kZ 40)]<|om 21 25<|oe 26 21 0<|oe 27 21 1<|om 7 26<|om 8 27 .done) (.seq (sR (om 28 8<|o1 29 (.un .not (tP 28))<|om 30 29<|gF 31 30 5<|oF 32 30 (.call a3 [(tP 31)])<|oF 33 30 (.bin .neq (tP 32) (kZ 0))<|o1 34 (.pick (tP 30) (.const (.bool true)) (tP 33))<|om 35 34<|gF 36 35 5<|oF 37 35 (.call a4 [(tP 36)])<|oF 38 35 (.bin .neq (tP 37) (kZ 0))<|o1 39 (.pick (tP 35) (.const (.bool true)) (tP 38)) .done) (.cond (tP 39) (sR (o1 4 (.mv (.const (.bool false))) .done) .ret) .skip)) (sR (om 41 5<|om 42 6<|oc 43 a5 [(tP 42)]<|om 44 6<|oc 45 a6 [(tP 44)]<|om 46 6<|oc 47 a7 [(tP 46)]<|oc 48 a8 [(tP 41),(tP 43),(tP 45),(tP 47)]<|om 40 48<|oe 49 40 0<|oe 50 40 1<|om 9 49<|om 10 50 .done) (.seq (sR (om 51 10<|ob 52 .neq (tP 51) (kZ 0)<|om 53 52<|gF 54 53 9<|oF 55 53 (.eqp false (tP 54) (.const (.pointer none)))<|o1 56 (.pick (tP 53) (.const (.bool true)) (tP 55))<|om 57 56<|gF 58 57 9<|gF 59 57 7<|oF 60 57 (.call a9 [(tP 58),(tP 59)])<|oF 61 57 (.un .not (tP 60))<|o1 62 (.pick (tP 57) (.const (.bool true)) (tP 61))<|om 63 62<|gF 64 63 9<|oF 65 63 (.call a5 [(tP 64)])<|gF 66 63 6<|oF 67 63 (.call a5 [(tP 66)])<|oF 68 63 (.bin .neq (tP 65) (tP 67))<|o1 69 (.pick (tP 63) (.const (.bool true)) (tP 68)) .done) (.cond (tP 69) (sR (o1 4 (.mv (.const (.bool false))) .done) .ret) .skip)) (sR (om 70 5<|oc 71 a10 [(tP 70)]<|om 11 71 .done) (.seq (sR (o1 12 (.mv (kZ 0)) .done) (.block 0 (.loop (.seq (sR (om 72 12<|om 73 1<|oL 74 73<|ob 75 .lss (tP 72) (tP 74)<|om 76 75<|gT 77 76 12<|oT 78 76 (.bin .lss (tP 77) (kZ 40))<|gP 79 76 78 .done) (.cond (tP 79) .skip (.exit 0))) (.seq (.block 1 (sR (om 82 1<|om 83 12<|oI 84 3 82 83<|oj 85 0 84<|ol 86 85<|ob 87 .eql (tP 86) (kZ 0) .done) (.cond (tP 87) (.reg true (pm 88 6<|pm 89 1<|pm 90 12<|p1 91 (.idx 3 (tP 89) (tP 90))<|p1 92 (.fld 1 (tP 91))<|pl 93 92<|pm 94 1<|pm 95 12<|p1 96 (.idx 3 (tP 94) (tP 95))<|p1 97 (.fld 2 (tP 96))<|pl 98 97<|oc 99 a11 [(tP 98),(kZ 700)]<|oc 100 a12 [(tP 88),(tP 93),(tP 99)] .done)) (rG (om 101 6<|om 102 1<|om 103 12<|oI 104 3 102 103<|oj 105 1 104<|ol 106 105<|oc 107 a13 [(tP 101),(tP 106)] .done))))) (rG (om 80 12<|ob 81 .add (tP 80) (kZ 1)<|om 12 81 .done))))))) (sR (om 108 5<|om 109 11<|oc 110 a14 [(tP 108),(tP 109)]<|ob 111 .eql (tP 110) (kZ 0)<|om 112 111<|gT 113 112 9<|gT 114 112 7<|oT 115 112 (.call a9 [(tP 113),(tP 114)])<|gP 116 112 115<|om 4 116 .done) .ret)))))))))))⟩
set_option maxRecDepth 4000 in
set_option maxHeartbeats 4000000 in
theorem treeOpens{P:Program}{f f1 f2 f3 f4 f5 f6 f7 f8 f9 f10 f11 f12 f13 f14 f15:FuncId} (hd:dec P f=some (HX f1 f2 f3 f4 f5 f6 f7 f8 f9 f10 f11 f12 f13 f14 f15)) (h1:Yl P f1) (h2:Ir P f2) (h3:Pk P f3) (h4:I2 P f4) (h5:Ku P f5) (h6:LN P f6) (h7:Hb P f7) (h8:GP P f8) (h9:LW P f9) (h10:Sp P f10)
  (h11:G4 P f11) (h12:Mc P f12) (h13:FF P f13) (h14:Ll P f14) (h15:HZ P f15)
  {d:Ac}{w u:Value}{acts more:List XA} (hw:RSl 3 RAc d w acts) (hu:RSl 3 RAc d u more):Aw P f [w,u] d [] (Ret fun r _ _=>r=.bool true):=by
 have hwl:=hw.BW
 have hul:=hu.BW
 obtain⟨ua,uc,rfl⟩:=RSl.val hu
 refine AG hd (Aca rfl) ?_
 show gwp P _ _ _ _ _
 (refine Ad<|Ae rfl<|Aa<|Ah<|Ad ?_)
 refine Bk rfl h1 (fun v d0 L0 hl0 ⟨q7,q8⟩=>?_)
 subst q7;subst q8
 (refine Bj rfl<|Aa<|AR rfl<|Al<|Ad ?_)
 refine CP (L:=[]) (h2 (n:=300) (by omega) (by omega)) rfl (fun u d1 L1 hl1 ⟨bt,Tt,bd,bp,L2,q1,q2,hp⟩=>?_)
 subst q1;subst q2
 have hw1:=RSl.mono (R:=RAc) HD hw (hl0.trans hl1)
 (refine AU rfl<|Ap rfl rfl<|Ap rfl rfl<|Ak rfl<|Ak rfl<|Aa<|Ah<|Ad<|Ak rfl<|Cu rfl rfl<|Aa<|AR rfl<|Al<|Ad<|Ak rfl<|Ak rfl<|AK ?_)
 refine A3 [] (h3 (t:=⟨pdN 300, -1,0,0⟩) (Tt:=Tt) (most:=40) (N:=300) (PgT.of hp) (Gr.empty (by omega) (by omega)) hw1 (by omega)) rfl rfl (fun v d2 L3 hl2 ⟨_,u,t0,l,P',L4,q3,hl,hg0,q4,hp4⟩=>?_)
 subst q3;subst q4
 have hu2:=RSl.mono (R:=RAc) HD hu ((hl0.trans hl1).trans hl2)
 obtain⟨lx,ly,rfl⟩:=hl.val
 (refine AU rfl<|Ap rfl rfl<|Ap rfl rfl<|Am rfl<|Ae rfl<|Aa<|Ah<|Ad<|Ae rfl<|Bj rfl<|Ae rfl<|Af rfl<|Ak rfl<|Af rfl ?_)
 refine A3 [_] (ZG h4 hp4) rfl rfl (fun v d3 L5 hl3 ⟨e4,e5,hp5⟩=>?_)
 subst e4;subst e5
 (refine Af rfl<|AO rfl rfl<|Aq rfl rfl<|Ae rfl<|AZ rfl (by omega)<|Af rfl<|Ak rfl<|Af rfl ?_)
 refine A3 [_] (AaY h5 hp5) rfl rfl (fun v d4 L6 hl4 ⟨e6,e7,hp6⟩=>?_)
 subst e6;subst e7
 have hg:=hg0.fin
 obtain⟨t,ht⟩:∃t:TD,t={t0 with s:=t0.s.fin}:=⟨_,rfl⟩
 rw [←ht] at hg
 have hp6:PgT d4 t.s (.pointer (some ⟨bd,0,none⟩)) (.pointer (some ⟨bp,0,none⟩)) L6:=by rw [ht];exact hp6
 have e0:[tb bt Tt (.pointer (some ⟨bp,0,none⟩)) t0.root t0.height t0.count]++L6=tbD bt Tt (.pointer (some ⟨bp,0,none⟩)) t::L6:=by rw [ht];rfl
 rw [e0]
 clear ht e0 hg0 hp4 hp5
 obtain⟨hkl,hth⟩:=hg.ok.far (by have:=hg.ln;omega)
 have hln:=hg.ln
 have hct:=hg.ok.ct
 (refine Af rfl<|AO rfl rfl<|Aq rfl rfl<|Aa<|Ar rfl (by omega)<|Al<|Ad<|Ak rfl<|Ak rfl ?_)
 refine B3 [] (h6 (t:=t) (L:=L6)) rfl rfl ?_
 (apply Ak;rfl)
 refine B3 [] (h7 (t:=t) (L:=L6)) rfl rfl ?_
 (apply Ak;rfl)
 refine B3 [] (h8 (t:=t) (L:=L6)) rfl rfl ?_
 refine A3 [_] (AaZ h9 hp6 (by have:=hkl.r0;omega) (by have:=hkl.r1;omega) (by omega) (by omega) (by omega) (by omega) (hg.ok.opens (by omega) (by omega))) rfl rfl (fun v d5 L7 hl5 ⟨_,bo,To,e1,e2⟩=>?_)
 subst e1;subst e2
 have hp7:=hp6.mono hl5
 have hl7:=RSl.mono (R:=RKv) Ef hl hl5
 have hu7:=RSl.mono (R:=RAc) HD hu2 hl5
 (refine AU rfl<|Ap rfl rfl<|Ap rfl rfl<|Ak rfl<|Ab rfl<|Aa<|Ah<|Ad<|Ab rfl<|AO rfl rfl<|Ae rfl<|AZ rfl (by omega)<|Af rfl<|Ak rfl<|Af rfl<|Cu rfl rfl<|Aq rfl rfl<|Ae rfl<|Af rfl<|Ak rfl<|Af rfl<|Am rfl<|Af rfl ?_)
 refine A3 [_] (h10 (root:=t.root) (h:=t.height) (c:=t.count) (bt:=bo) (Tt:=To) hp7 hl7 (by omega) (by omega)) rfl rfl (fun v d6 L8 hl6 ⟨_,q5,L9,q6,hp9⟩=>?_)
 rw [show Ga ⟨t.s,t.root,t.height,t.count⟩ l=true from hg.ok.has] at q5
 subst q5;subst q6
 (refine Af rfl<|Bj rfl<|Aq rfl rfl<|Ae rfl<|Af rfl<|Ak rfl<|Af rfl ?_)
 refine B3 [_] (h6 (t:=t) (bt:=bo) (Tt:=To) (L:=L9)) rfl rfl ?_
 (refine Af rfl<|Ak rfl<|Af rfl ?_)
 refine B3 [] (h6 (t:=t) (bt:=bt) (Tt:=Tt) (L:=tb bo To (.pointer (some ⟨bp,0,none⟩)) t.root t.height t.count::L9)) rfl rfl ?_
 (refine Af rfl<|AO rfl rfl<|Aq rfl rfl<|Aa<|Ar rfl (by omega)<|Al<|Ad<|Ak rfl ?_)
 refine A3 [_,_] (Aai h11 hp9) rfl rfl (fun v d8 L10 hl8 ⟨e1,_,hmk⟩=>?_)
 subst e1
 have hp10:=hp9.mono hl8
 have hl8':=RSl.mono (R:=RKv) Ef hl7 (hl6.trans hl8)
 have hu8:=RSl.mono (R:=RAc) HD hu7 (hl6.trans hl8)
 (refine AK<|Aa<|Ah<|Ad<|Ab rfl<|Aa<|Ax ?_)
 refine CI (α:=Nat) (fun x=>[(1,.slice ua more.length uc),(5,.pointer (some ⟨bp,0,none⟩)),(6,.pointer (some ⟨bt,0,none⟩)),(7,.slice lx l.length ly),(9,.pointer (some ⟨bo,0,none⟩)),(11,v),(12,.int .i64 x)])
  (fun x d' L'=>Le d8 d'∧x≤more.length∧x≤40∧∃ti li Pi L2,L'=tbD bt Tt (.pointer (some ⟨bp,0,none⟩)) ti::tb bo To (.pointer (some ⟨bp,0,none⟩)) t.root t.height t.count::L2∧PgT d' ti.s (.pointer (some ⟨bd,0,none⟩)) (.pointer (some ⟨bp,0,none⟩)) L2∧Gr 300 (40+x) ti li Pi∧Pgr.AH t.s ti.s)
  (fun x=>40 - x) 0 ⟨rfl,rfl,rfl,rfl,rfl,rfl,rfl,trivial⟩ ⟨Le.refl _,Adf _,Adf _,t,l,P',L10,rfl,hp10,hg,Pgr.AH.refl _⟩ ?_
 rintro i ρ d' L' ⟨hle,hi,him,ti,li,Pi,L2,rfl,hp2,hgi,hkp⟩
 simp only at hi him hgi⊢
 have hu9:=RSl.mono (R:=RAc) HD hu8 hle
 by_cases e:i<more.length∧i<40
 ·obtain⟨e,e2⟩:=e
  obtain⟨hkl2,hth2⟩:=hgi.ok.far (by have:=hgi.ln;omega)
  have hll2:li.length≤1000:=by have:=hgi.ln;omega
  (refine Ah<|Ad<|Ab rfl<|Am rfl<|AL rfl<|AA rfl rfl<|Ae rfl<|Bd rfl (by omega)<|Af rfl<|Ab rfl<|Af rfl<|AA rfl rfl<|AB rfl rfl<|Aa<|Ay rfl (by omega)<|Al<|Ah<|Ax<|Ad<|Am rfl<|Ab rfl ?_)
  refine BH (m:=i) rfl hu9 rfl rfl e (fun b o cs hcl hdc ⟨kv,vv,q,hk,hv⟩=>?_)
  subst q
  obtain⟨ka,kc,rfl⟩:=RSl.val hk
  obtain⟨va0,vc0,rfl⟩:=RSl.val hv
  generalize more[i]=A at hk hv hcl hdc
  obtain⟨kind,key,val0⟩:=A
  simp only at hk hv hcl hdc⊢
  by_cases k0:kind=0
  ·subst k0
   (refine Ai rfl<|Ag rfl (Eb (by assumption) rfl)<|AJ rfl rfl<|Aa<|Ay rfl (by omega) ?_)
   refine Br [] (tbD bt Tt (.pointer (some ⟨bp,0,none⟩)) ti::tb bo To (.pointer (some ⟨bp,0,none⟩)) t.root t.height t.count::L2) rfl ?_
   (refine Ak rfl<|Am rfl<|Ab rfl ?_)
   refine BH (m:=i) rfl hu9 rfl rfl e (fun b1 o1 cs1 hcl1 hdc1 ⟨kv1,vv1,q1,hk1,hv1⟩=>?_)
   subst q1
   obtain⟨ka1,kc1,rfl⟩:=RSl.val hk1
   obtain⟨va1,vc1,rfl⟩:=RSl.val hv1
   (refine Ai rfl<|Ag rfl (Eb (by assumption) rfl)<|Am rfl<|Ab rfl ?_)
   refine BH (m:=i) rfl hu9 rfl rfl e (fun b2 o2 cs2 hcl2 hdc2 ⟨kv2,vv2,q2,hk2,hv2⟩=>?_)
   subst q2
   obtain⟨ka2,kc2,rfl⟩:=RSl.val hk2
   obtain⟨va2,vc2,rfl⟩:=RSl.val hv2
   (refine Ai rfl<|Ag rfl (Eb (by assumption) rfl) ?_)
   refine Bk rfl (h12 hv2 (n:=700) (by omega)) (fun v0 d3 L5 _ ⟨z1,z2,hv3⟩=>?_)
   subst z1;subst z2
   rw [Adt]
   obtain⟨⟨l2,P2,hg2⟩,hkk⟩:=hgi.AbQ more[i].2.1 (v:=more[i].2.2.take 700) (by rw [Acw];omega)
   refine CU (A:=tbD bt Tt (.pointer (some ⟨bp,0,none⟩)) ti::L2) (B:=[_]) (h13.data (t:=ti) (Tt:=Tt) hp2 hk1 hv3 hkl2) (Acn _ (Aci (l₁:=[_]))) rfl (fun v d4 L4 hl4 ⟨_,_,L5,e5,hp5⟩=>?_)
   subst e5
   refine⟨d4,tbD bt Tt (.pointer (some ⟨bp,0,none⟩)) (Cq ti more[i].2.1 (more[i].2.2.take 700)).1::(tb bo To (.pointer (some ⟨bp,0,none⟩)) t.root t.height t.count::L5),Vs.perm (Acn _ (Aci (l₂:=[_]))),?_⟩
   (refine Aa<|AE<|Ab rfl<|AN rfl rfl (by omega) (by omega)<|Ab rfl<|Aa ?_)
   exact⟨i+1,by omega,⟨rfl,rfl,rfl,rfl,rfl,rfl,rfl,trivial⟩,hle.trans hl4,e,e2,_,l2,P2,L5,rfl,hp5,hg2,hkp.trans hkk⟩
  ·(refine Ai rfl<|Ag rfl (Eb (by assumption) rfl)<|AJ rfl rfl<|Aa<|Ar rfl (by omega)<|AE<|Ak rfl<|Am rfl<|Ab rfl ?_)
   refine BH (m:=i) rfl hu9 rfl rfl e (fun b1 o1 cs1 hcl1 hdc1 ⟨kv1,vv1,q1,hk1,hv1⟩=>?_)
   subst q1
   obtain⟨ka1,kc1,rfl⟩:=RSl.val hk1
   obtain⟨va1,vc1,rfl⟩:=RSl.val hv1
   obtain⟨⟨l2,P2,hg2⟩,hk2⟩:=hgi.AbL more[i].2.1
   (refine Ai rfl<|Ag rfl (Eb (by assumption) rfl) ?_)
   refine CU (A:=tbD bt Tt (.pointer (some ⟨bp,0,none⟩)) ti::L2) (B:=[_]) (h14 (t:=ti) (Tt:=Tt) hp2 hk1 (fun _=>hgi.ok.can hll2 _)) (Acn _ (Aci (l₁:=[_]))) rfl (fun v d4 L4 hl4 ⟨_,_,L5,e5,hp5⟩=>?_)
   subst e5
   refine⟨d4,tbD bt Tt (.pointer (some ⟨bp,0,none⟩)) (CN ti more[i].2.1).1::(tb bo To (.pointer (some ⟨bp,0,none⟩)) t.root t.height t.count::L5),Vs.perm (Acn _ (Aci (l₂:=[_]))),?_⟩
   (refine Aa<|AE<|Ab rfl<|AN rfl rfl (by omega) (by omega)<|Ab rfl<|Aa ?_)
   exact⟨i+1,by omega,⟨rfl,rfl,rfl,rfl,rfl,rfl,rfl,trivial⟩,hle.trans hl4,e,e2,_,l2,P2,L5,rfl,hp5,hg2,hkp.trans hk2⟩
 ·have hhas:Ga ⟨ti.s.back t.s.mark,t.root,t.height,t.count⟩ l=true:=(hg.ok.same (Qb hkp hg.ok.gd) (PT hkp P')).has
  have hlk:=RSl.mono (R:=RKv) Ef hl8' hle
  by_cases e1:i<more.length
  ·have e3:¬i<40:=fun q=>e ⟨e1,q⟩
   (refine Ah<|Ad<|Ab rfl<|Am rfl<|AL rfl<|AA rfl rfl<|Ae rfl<|Bd rfl (by omega)<|Af rfl<|Ab rfl<|Af rfl<|AA rfl rfl<|AB rfl rfl<|Aa<|Ar rfl (by omega)<|Bh<|Ad<|Ak rfl<|AK ?_)
   refine A3 [_,_] (WS h15 hp2 (Mk.YZ hmk hle hkp) hkp hg.ok.gd) rfl rfl (fun v d9 L9 hl9 ⟨e1,e2,hp9⟩=>?_)
   subst e1;subst e2
   (refine AJ rfl rfl<|Ae rfl<|Bd rfl (by omega)<|Af rfl<|Ak rfl<|Af rfl<|Am rfl<|Af rfl ?_)
   refine A3 [_] (h10 (root:=t.root) (h:=t.height) (c:=t.count) (bt:=bo) (Tt:=To) hp9 hlk (by omega) (by omega)) rfl rfl (fun v d10 L10 hl10 ⟨_,q5,L11,q6,_⟩=>?_)
   rw [show Ga ⟨ti.s.back t.s.mark,t.root,t.height,t.count⟩ l=true from hhas] at q5
   subst q5;subst q6
   (refine AB rfl rfl<|Ae rfl<|Aa<|Ao ?_)
   exact BG rfl (Aef _) rfl
  ·(refine Ah<|Ad<|Ab rfl<|Am rfl<|AL rfl<|AA rfl rfl<|Ae rfl<|AZ rfl (by omega)<|An rfl<|An rfl<|Aq rfl rfl<|Aa<|AR rfl<|Bh<|Ad<|Ak rfl<|AK ?_)
   refine A3 [_,_] (WS h15 hp2 (Mk.YZ hmk hle hkp) hkp hg.ok.gd) rfl rfl (fun v d9 L9 hl9 ⟨e1,e2,hp9⟩=>?_)
   subst e1;subst e2
   (refine AJ rfl rfl<|Ae rfl<|Bd rfl (by omega)<|Af rfl<|Ak rfl<|Af rfl<|Am rfl<|Af rfl ?_)
   refine A3 [_] (h10 (root:=t.root) (h:=t.height) (c:=t.count) (bt:=bo) (Tt:=To) hp9 hlk (by omega) (by omega)) rfl rfl (fun v d10 L10 hl10 ⟨_,q5,L11,q6,_⟩=>?_)
   rw [show Ga ⟨ti.s.back t.s.mark,t.root,t.height,t.count⟩ l=true from hhas] at q5
   subst q5;subst q6
   (refine AB rfl rfl<|Ae rfl<|Aa<|Ao ?_)
   exact BG rfl (Aef _) rfl
end
end Go.Gk.Tre
end
section
namespace Go.Gk.Tre
open Go Go.Gk Go.Gk.Node
theorem AbK{l:List Value} (h:l.length=3):∃a b c,l=[a,b,c]:=by
 match l,h with
 |[a,b,c],_=>exact⟨a,b,c,rfl⟩
theorem YO{H:Type}{enc:TypeId×Value→H}{P:Program}{W:World}{t ti tb ts:TypeId}{fs:Array Field} (ht:P.underlying t=some (.struct fs)) (h3:P.cellsOf t=3)
  (f0:(fs[0]?).map (fun f=>(f.offset,f.type))=some (0,ti)) (f1:(fs[1]?).map (fun f=>(f.offset,f.type))=some (1,ts)) (f2:(fs[2]?).map (fun f=>(f.offset,f.type))=some (2,ts))
  (ci:P.cellsOf ti=1) (cb:P.cellsOf tb=1) (cs:P.cellsOf ts=1)
  (ui:P.underlying ti=some (.int .i64)) (ub:P.underlying tb=some (.int .u8)) (us:P.underlying ts=some (.slice tb)) (bb:1≤P.bytesOf tb):Rd enc P W t RAc:=by
 intro held fuel cs x h hw
 obtain⟨hl,hfs⟩:=V6 ht h hw
 obtain⟨k,e0⟩:=hfs 0 0 ti 1 f0 ci (AaO ui)
 obtain⟨y,v,e1,hv⟩:=hfs 1 1 ts 1 f1 (by assumption) (M7 us cb (by omega) bb (TO ub))
 obtain⟨z,u,e2,hu⟩:=hfs 2 2 ts 1 f2 (by assumption) (M7 us cb (by omega) bb (TO ub))
 obtain⟨a0,a1,a2,rfl⟩:=AbK (hl.trans h3)
 simp only [List.drop,List.take] at e0 e1 e2
 obtain⟨e0, -, -⟩:=e0
 simp only [List.cons.injEq,and_true] at e0 e1 e2
 subst e0;subst e1;subst e2
 exact⟨⟨k,y,z⟩,_,_,rfl,hv,hu⟩
end Go.Gk.Tre
end
