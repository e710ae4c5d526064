/-
  Our own texts, one behind the other: GkTrI GkTrJ GkTrO GkWI GkUB GkUC GkUD GkUE GkTZ GkUA GkUF GkWJ GkWK GkWL GkUI GkTrArg.
-/
import Derived.Test.YtpkcbopokjffhaaGreatPnG
open Nat renaming le_of_ble_eq_true→Aca,le_refl→Ach,zero_le→Adg,mul_one→Aem,le_trans→Agk
open List.Sublist renaming refl→Acb
open Bool renaming false_eq_true→Aci,true_and→Afl
open List renaming getElem?_eq_getElem→Ace,getD_eq_getElem?_getD→Acf,append_assoc→Acg,mem_append→Acj,perm_append_comm→Ack,length_append→Acl,eq_nil_of_length_eq_zero→Acm,getElem?_eq_some_iff→Acp,all_eq_true→Acq,length_cons→Acs,mem_cons_self→Acu,mem_singleton→Acv,length_take→Acw,mem_cons_of_mem→Acy,getElem_mem→Ada,mem_cons→Adb,length_set→Adf,mem_append_left→Adh,drop_eq_getElem_cons→Adi,perm_middle→Adj,mem_append_right→Adk,sublist_append_right→Adm,length_replicate→Adn,getElem?_eq_none→Adq,nil_append→Adr,append_nil→Ads,nil_sublist→Aec,take_of_length_le→Aed,getElem?_take→Aek,getElem?_map→Aep,mem_map_of_mem→Aff,map_append→Afk,getD→Afw,eraseIdx_sublist→Agc,mem_map→Agl,nodup_nil→Agq,append_cons→Ahg,map_drop→Ahl,map_take→Ahm
open List.Perm renaming cons→Aco,swap→Adc,refl→Adp,append_right→Afb,append_left→Aga
open Option renaming bind_some→Adz,isSome_none→Agr
section
namespace Go.Gk.Tre
open Go Go.Gk Go.Gk.Dev Go.Gk.Cch Go.Gk.Pgr Go.Gk.Chn Go.Gk.Node
attribute [local irreducible] gwp gws xwp
def Pq(P:Program) (f:FuncId):Prop:=∀{d:Ac}{s:PD}{dv pv:Value}{L:List Ac}{bt:Nat}{Tt:TypeId}{r h c k:Int}{cs:List Value}{n:AB}{hk hv hi:Ac}{i:Nat},
 PgT d s dv pv L→DH d cs n hk hv hi→Fit n 400→1≤n.keys.length→n.kids.length=n.keys.length+1→i≤n.keys.length→(∀x∈n.kids, -1≤x∧x≤16384)→ -1≤k→k≤16384→
 Aw P f [.pointer (some ⟨bt,0,none⟩),.int .i64 k,.agg cs.toArray,.int .i64 i] d (hk::hv::hi::tb bt Tt pv r h c::L) (Ret fun v d' L'=>Le d d'∧∃ua uc L2,v=.tuple #[mdV (Ds s k n i).2.1 ua uc,.int .i64 (Ds s k n i).2.2]∧
  AK d' (.slice ua (Ds s k n i).2.1.key.length uc) (Ds s k n i).2.1.key∧MOk (Ds s k n i).2.1∧L'=tb bt Tt pv r h c::L2∧PgT d' (Ds s k n i).1 dv pv L2)
theorem PC{s:PD}{k:Int}:Fit (Bn s k).1 300:=by
 unfold Bn
 by_cases hl:Bk s k
 ·rw [if_pos hl]
  show Fit ((Node.BH (s.bytes k)).getD JT) 300
  cases hr:Node.BH (s.bytes k) with
  |none=>exact⟨by decide,by decide,by decide,fun x hx=>(by cases hx),fun x hx=>(by cases hx)⟩
  |some n=>
   obtain⟨⟨a,b,c,e,g⟩, -⟩:=Kn (NS hr).1
   exact⟨show n.keys.length≤300 by omega,show n.vals.length≤300 by omega,show n.kids.length≤300 by omega,e,g⟩
 ·rw [if_neg hl]
  exact⟨by decide,by decide,by decide,fun x hx=>(by cases hx),fun x hx=>(by cases hx)⟩
theorem W6{a b:AB}{key:List UInt8} (ha:Fit a 300) (hb:Fit b 300) (hk:key.length≤1000):Fit (Ch a b key) 601:=by
 obtain⟨a1,a2,a3,a4,a5⟩:=ha
 obtain⟨b1,b2,b3,b4,b5⟩:=hb
 unfold Ch
 split
 ·refine⟨by simp;omega,by simp;omega,by simp,fun x hx=>?_,fun x hx=>?_⟩
  ·rcases Acj.1 hx with hx|hx
   ·exact a4 x hx
   ·exact b4 x hx
  ·rcases Acj.1 hx with hx|hx
   ·exact a5 x hx
   ·exact b5 x hx
 ·refine⟨by simp;omega,by simp,by simp;omega,fun x hx=>?_,fun x hx=>by cases hx⟩
  rcases Acj.1 hx with hx|hx
  ·rcases Acj.1 hx with hx|hx
   ·exact a4 x hx
   ·rw [Acv.1 hx];exact hk
  ·exact b4 x hx
def MQ(a0 a1 a2 a3 a4 a5:Nat):AY:=⟨137,[(.cell 8 (some 4)),(.tmp 9)],(sR (o1 6 (.box (tP 2))<|o1 8 (.alo (.agg #[(.int .i64 0),(.int .i64 0),(.slice none 0 0),(.int .i64 0)]))<|o1 9 (.mv (kZ 0)) .done) (.seq (sR (om 15 3<|oj 16 1 6<|ol 17 16<|oL 18 17<|ob 19 .eql (tP 15) (tP 18) .done) (.cond (tP 19) (rG (om 20 3<|ob 21 .sub (tP 20) (kZ 1)<|om 3 21 .done)) .skip)) (sR (om 23 0<|oj 24 3 6<|ol 25 24<|om 26 3<|oI 27 1 25 26<|ol 28 27<|oc 29 a0 [(tP 23),(tP 28)]<|om 22 29<|oe 30 22 0<|oe 31 22 1<|o1 10 (.alo (.agg #[(.bool false),(.slice none 0 0),(.slice none 0 0),(.slice none 0 0)]))<|o0 (.st 4 (tP 10) (tP 30))<|om 11 31 .done) (.seq (sR (om 32 11<|ob 33 .neq (tP 32) (kZ 0) .done) (.cond (tP 33) (sR (o1 34 (.bld [(0,1),(1,1),(2,1),(3,1)] [(.int .i64 0),(.int .i64 0),(.slice none 0 0),(.int .i64 0)] [])<|om 35 11<|o0 (.st 4 (tP 8) (tP 34))<|om 9 35 .done) .ret) .skip)) (sR (om 37 0<|oj 38 3 6<|ol 39 38<|om 40 3<|ob 41 .add (tP 40) (kZ 1)<|oI 42 1 39 41<|ol 43 42<|oc 44 a0 [(tP 37),(tP 43)]<|om 36 44<|oe 45 36 0<|oe 46 36 1<|o1 12 (.alo (.agg #[(.bool false),(.slice none 0 0),(.slice none 0 0),(.slice none 0 0)]))<|o0 (.st 4 (tP 12) (tP 45))<|om 11 46 .done) (.seq (sR (om 47 11<|ob 48 .neq (tP 47) (kZ 0) .done) (.cond (tP 48) (sR (o1 49 (.bld [(0,1),(1,1),(2,1),(3,1)] [(.int .i64 0),(.int .i64 0),(.slice none 0 0),(.int .i64 0)] [])<|om 50 11<|o0 (.st 4 (tP 8) (tP 49))<|om 9 50 .done) .ret) .skip)) (.seq (sR (oj 51 0 10<|ol 52 51<|oj 53 0 12<|ol 54 53<|o1 55 (.eqb true (tP 52) (tP 54)) .done) (.cond (tP 55) (sR (o1 56 (.bld [(0,1),(1,1),(2,1),(3,1)] [(.int .i64 0),(.int .i64 0),(.slice none 0 0),(.int .i64 0)] [])<|o0 (.st 4 (tP 8) (tP 56))<|o1 9 (.mv (kZ 200)) .done) .ret) .skip)) (.seq (.reg true (pm 58 0<|p1 59 (.fld 3 (tP 6))<|pl 60 59<|pm 61 3<|p1 62 (.idx 1 (tP 60) (tP 61))<|pl 63 62<|p1 64 (.ld (some 4) (tP 10))<|p1 65 (.ld (some 4) (tP 12))<|p1 66 (.fld 1 (tP 6))<|pl 67 66<|pm 68 3<|p1 69 (.idx 1 (tP 67) (tP 68))<|pl 70 69 (.par (o1 13 (.alo (.agg #[(.int .i64 0),(.int .i64 0),(.slice none 0 0),(.int .i64 0)])) .done) (oc 71 a1 [(tP 64),(tP 65),(tP 70)] (oc 72 a2 [(tP 58),(tP 63),(tP 71)] (pm 57 72 (p1 73 (.ext (tP 57) 0) (p1 74 (.ext (tP 57) 1) .done))))) (o0 (.st 4 (tP 13) (tP 73)) (pm 11 74 .done))))) (.seq (sR (om 75 11<|ob 76 .neq (tP 75) (kZ 0) .done) (.cond (tP 76) (sR (o1 77 (.bld [(0,1),(1,1),(2,1),(3,1)] [(.int .i64 0),(.int .i64 0),(.slice none 0 0),(.int .i64 0)] [])<|om 78 11<|o0 (.st 4 (tP 8) (tP 77))<|om 9 78 .done) .ret) .skip)) (.seq (.seq (.reg true (pm 79 0<|p1 80 (.nilc (tP 79))<|p1 81 (.fld 0 (tP 80))<|pl 82 81<|p1 83 (.fld 3 (tP 6))<|pl 84 83<|pm 85 3<|p1 86 (.bin .add (tP 85) (kZ 1))<|p1 87 (.idx 1 (tP 84) (tP 86))<|pl 88 87<|oc 89 a3 [(tP 82),(tP 88)] (.bar (pm 14 89 .done)))) (sR (om 90 14<|ob 91 .neq (tP 90) (kZ 0) .done) (.cond (tP 91) (sR (o1 92 (.bld [(0,1),(1,1),(2,1),(3,1)] [(.int .i64 0),(.int .i64 0),(.slice none 0 0),(.int .i64 0)] [])<|om 93 14<|o0 (.st 4 (tP 8) (tP 92))<|om 9 93 .done) .ret) .skip))) (sR (oj 94 3 6<|ol 95 94<|om 96 3<|oj 97 0 13<|ol 98 97<|oI 99 1 95 96<|o0 (.st 1 (tP 99) (tP 98)) .done) (.seq (sR (oj 100 1 13<|ol 101 100<|ob 102 .geq (tP 101) (kZ 0) .done) (.cond (tP 102) (.reg true (p1 103 (.fld 1 (tP 6))<|pl 104 103<|pm 105 3<|p1 106 (.fld 3 (tP 6))<|pl 107 106<|pm 108 3<|p1 109 (.bin .add (tP 108) (kZ 1))<|p1 110 (.fld 2 (tP 13))<|pl 111 110<|p1 112 (.fld 1 (tP 13))<|pl 113 112<|p1 114 (.idx 1 (tP 104) (tP 105))<|o0 (.st 1 (tP 114) (tP 111))<|p1 115 (.idx 1 (tP 107) (tP 109))<|o0 (.st 1 (tP 115) (tP 113)) .done)) (.reg true (p1 116 (.fld 1 (tP 6))<|pl 117 116<|pm 118 3<|pm 119 3<|p1 120 (.bin .add (tP 119) (kZ 1))<|p1 122 (.fld 3 (tP 6))<|pl 123 122<|pm 124 3<|p1 125 (.bin .add (tP 124) (kZ 1))<|pm 126 3<|p1 127 (.bin .add (tP 126) (kZ 2))<|oc 121 a4 [(tP 117),(tP 118),(tP 120)]<|p1 129 (.fld 1 (tP 6))<|oc 128 a5 [(tP 123),(tP 125),(tP 127)] (.bar (o0 (.st 1 (tP 129) (tP 121)) (p1 130 (.fld 3 (tP 6)) (o0 (.st 1 (tP 130) (tP 128)) .done)))))))) (sR (om 131 0<|om 132 1<|o1 133 (.ld (some 4) (tP 6))<|oc 134 a2 [(tP 131),(tP 132),(tP 133)]<|oe 135 134 0<|oe 136 134 1<|o0 (.st 4 (tP 8) (tP 135))<|om 9 136 .done) .ret)))))))))))))⟩
set_option maxRecDepth 4000 in
set_option maxHeartbeats 8000000 in
theorem W7{P:Program}{f f1 f2 f3 f4 f5 f6:FuncId} (hd:Jj P f=some (MQ f1 f2 f3 f4 f5 f6)) (h1:Ja P f1) (h2:QX P f2) (h3:Hv P f3) (h4:Pgr.Gv P f4) (h5:JM RBs P f5) (h6:JM Bg P f6):Pq P f:=by
 intro d s dv pv L bt Tt r h c k cs n hk hv hi i0 hp hn hfit hk1 hkk hi0 hkb hpg0 hpg1
 obtain⟨bp,rfl⟩:=hp.ptr
 have hfk:=hfit.k
 obtain⟨kv,vv,iv,rfl,r1,r2,r3⟩:=hn
 obtain⟨ya,yc,rfl⟩:=r2.val
 obtain⟨bk,Tk,lk,ck,rfl,rfl,hlk,hallk,hsetk⟩:=Aq.all (R:=RBs) EO r1 (by omega)
 obtain⟨bi,Ti,li,ci,rfl,rfl,hli,halli,hseti⟩:=Aq.all (R:=Bg) B8 r3 (by omega)
 refine AG hd (Aca rfl) ?_
 show gwp P _ _ _ _ _
 apply Ah;apply AA
 refine Cr rfl (fun b6 T6=>?_)
 refine BX (fun b8 T8=>?_)
 apply Ab;rfl;apply Aa
 obtain⟨i,hii⟩:∃i,i=if i0=n.keys.length then i0 - 1 else i0:=⟨_,rfl⟩
 have hil:i<n.keys.length:=by rw [hii];split<;>omega
 refine FU (fun ρ d' L'=>BD ρ [(0,.pointer (some ⟨bt,0,none⟩)),(1,.int .i64 k),(3,.int .i64 i),(6,.pointer (some ⟨b6,0,none⟩)),(8,.pointer (some ⟨b8,0,none⟩)),(9,.int .i64 0)]∧d=d'∧
  L'=bx b8 T8 [.int .i64 0,.int .i64 0,.slice none 0 0,.int .i64 0]::bx b6 T6 [.bool n.leaf,.slice (some ⟨bk,0,none⟩) n.keys.length ck,.slice ya n.vals.length yc,.slice (some ⟨bi,0,none⟩) n.kids.length ci]::bx bk Tk lk::hv::bx bi Ti li::tb bt Tt (.pointer (some ⟨bp,0,none⟩)) r h c::L) ?_ ?_
 ·by_cases e:i0=n.keys.length
  ·rw [if_pos e] at hii
   (refine Ad<|Ab rfl<|Ai rfl<|Ag rfl (Aj 1 rfl rfl)<|AN rfl<|AJ rfl rfl<|Aa<|Ax rfl (by omega)<|AA<|Ab rfl<|CX rfl rfl (by omega) (by omega)<|Ab rfl<|Aa ?_)
   exact⟨⟨rfl,rfl,congrArg (Value.int .i64) (by omega),rfl,rfl,rfl,trivial⟩,rfl,rfl⟩
  ·rw [if_neg e] at hii
   subst hii
   (refine Ad<|Ab rfl<|Ai rfl<|Ag rfl (Aj 1 rfl rfl)<|AN rfl<|AJ rfl rfl<|Aa<|Ar rfl (by omega)<|Ak ?_)
   exact⟨⟨rfl,rfl,rfl,rfl,rfl,rfl,trivial⟩,rfl,rfl⟩
 rintro ρ d' L' ⟨hsl,hdd,hLL⟩
 subst hdd;subst hLL
 refine Di _ hsl ?_
 have hg0:n.kids.getD i 0=n.kids[i]:=by rw [Acf,Ace (by omega)];rfl
 have hg1:n.kids.getD (i+1) 0=n.kids[i+1]:=by rw [Acf,Ace (by omega)];rfl
 have hgk:n.keys.getD i []=n.keys[i]:=by rw [Acf,Ace hil];rfl
 have hM:=Sh (s:=s) (k:=k) (show n.keys.length≠0 by omega) hii rfl rfl
 rw [hg0,hg1,hgk] at hM
 have hb0:=hkb _ (Ada (show i<n.kids.length by omega))
 obtain⟨u0,c0,hq0,hq1,hq2⟩:=halli i (by omega)
 cases hq0
 obtain⟨u1,c1,hq3,hq4,hq5⟩:=halli (i+1) (by omega)
 cases hq3
 obtain⟨uk,c2,uk',hq6,hkey⟩:=hallk i hil
 cases hq6
 obtain⟨tc0,hpx⟩:=hp
 (refine Ad<|Al rfl<|Ai rfl<|Ag rfl (Aj 1 rfl rfl)<|Ab rfl<|Bx _ rfl rfl rfl (by omega)<|Ag rfl (Aj 4 rfl (by assumption)) ?_)
 refine A8 [_,_,_,_,_] (h1 (k:=n.kids[i]) hpx) rfl rfl (fun v d2 L2 hl2 ⟨_,ca,ha1,ha2,ha3,L3,tc1,e1,e2,hna,hp2,htc⟩=>?_)
 subst e1;subst e2
 rw [show Bn {s with tc:=tc0} n.kids[i]=Bn s n.kids[i] from rfl] at hna⊢
 have hp2:Pg d2 {s with tc:=tc1} dv (.pointer (some ⟨bp,0,none⟩)) L3:=hp2
 obtain⟨d3,hl3,v3,na⟩:=F2 hna
 have hfa:Fit (Bn s n.kids[i]).1 300:=PC
 refine Cd _ _ (Vs.out [_,_,_,_,_] _ (Adp _) v3) ?_
 generalize Bn s n.kids[i]=A at hM na hfa
 obtain⟨an,ae⟩:=A
 simp only at na hfa hM⊢
 obtain⟨aka,akc,ava,avc,aia,aic,rfl⟩:=Cz.four na
 (refine AU rfl<|Ao rfl rfl<|Ao rfl rfl<|BX (fun _ _=>?_))
 rename_i b10 T10
 refine Bo 0 rfl rfl rfl rfl (Ach _) rfl ?_
 by_cases hae:ae=0
 ·rw [if_neg (fun q=>q hae)] at hM
  subst hae
  (refine Ab rfl<|Aa<|Ah<|Ad<|Ab rfl<|AQ rfl rfl<|Aa<|Ar rfl (by omega)<|Ak<|Ad<|Al rfl<|Ai rfl<|Ag rfl (Aj 2 rfl rfl)<|Ab rfl<|AO rfl rfl (by omega) (by omega) ?_)
  refine Bx (i+1) rfl rfl (show((i:Int)+1)=((i+1:Nat):Int) by omega) (by omega) ?_
  (apply Ag;rfl;exact Aj 5 rfl (by assumption))
  refine A8 [_,_,_,_,_,_] (h1 (k:=n.kids[i+1]) (hp2.mono hl3)) rfl rfl (fun v d4 L4 hl4 ⟨_,cb,hb1,hb2,hb3,L5,tc2,e3,e4,hnb,hp4,htc4⟩=>?_)
  subst e3;subst e4
  rw [show Bn {s with tc:=tc1} n.kids[i+1]=Bn s n.kids[i+1] from rfl] at hnb⊢
  have hp4:PgT d4 s dv (.pointer (some ⟨bp,0,none⟩)) L5:=⟨tc2,hp4⟩
  obtain⟨d5,hl5,v5,nb⟩:=F2 hnb
  have hfb:Fit (Bn s n.kids[i+1]).1 300:=PC
  refine Cd _ _ (Vs.out [_,_,_,_,_,_] _ (Adp _) v5) ?_
  generalize Bn s n.kids[i+1]=B at hM nb hfb
  obtain⟨bn,be⟩:=B
  simp only at nb hfb hM⊢
  obtain⟨bka,bkc,bva,bvc,bia,bic,rfl⟩:=Cz.four nb
  (refine AU rfl<|Ao rfl rfl<|Ao rfl rfl<|BX (fun _ _=>?_))
  rename_i b12 T12
  refine Bo 0 rfl rfl rfl rfl (Ach _) rfl ?_
  by_cases hbe:be=0
  ·rw [if_neg (fun q=>q hbe)] at hM
   subst hbe
   have hle5:=((hl2.trans hl3).trans hl4).trans hl5
   have na5:=na.mono (hl4.trans hl5)
   have hkey5:=RSl.mono (R:=AM) AW hkey hle5
   (refine Ab rfl<|Aa<|Ah<|Ad<|Ab rfl<|AQ rfl rfl<|Aa<|Ar rfl (by omega)<|Ak<|Ah<|Ad<|Ai rfl<|Ag rfl (Aj 1 rfl rfl)<|Ai rfl<|Ag rfl (Aj 0 rfl rfl)<|Io rfl rfl<|Aa ?_)
   by_cases hlf:an.leaf=bn.leaf
   ·rw [if_neg (fun q=>q hlf)] at hM
    refine AS (congrArg Value.bool (show(true ^^(an.leaf==bn.leaf))=false by rw [hlf];simp)) ?_
    apply Ak
    apply Ah
    refine Bv [_,_,_,_,_,_,_] (tb bt Tt (.pointer (some ⟨bp,0,none⟩)) r h c::L5) rfl ?_
    (refine Al rfl<|Ai rfl<|Ag rfl (Aj 3 rfl rfl)<|Ab rfl<|Bx _ rfl rfl rfl (by omega)<|Ag rfl (Aj 6 rfl (by assumption))<|Bf 1 rfl rfl rfl<|Bf 0 rfl rfl rfl<|Ai rfl<|Ag rfl (Aj 3 rfl rfl)<|Ab rfl<|Bx _ rfl rfl rfl (by omega)<|Ag rfl (Aj 4 rfl (by assumption)) ?_)
    obtain⟨xa,xc,rfl⟩:=hkey.val
    have hkl:=hfit.kl _ (Ada hil)
    have hjf:=W6 (key:=n.keys[i]) hfa hfb hkl
    refine Gs (α:=Nat×TypeId) (β:=Option Addr×Nat×List Ac) [(0,.pointer (some ⟨bt,0,none⟩)),(1,.int .i64 k),(3,.int .i64 i),(6,.pointer (some ⟨b6,0,none⟩)),(8,.pointer (some ⟨b8,0,none⟩))]
     (fun x=>[(13,.pointer (some ⟨x.1,0,none⟩))]) (fun x d L=>L=[bx x.1 x.2 [.int .i64 0,.int .i64 0,.slice none 0 0,.int .i64 0]])
     (fun y=>[(73,mdV (Bb s n.kids[i] (Ch an bn n.keys[i])).2.1 y.1 y.2.1),(74,.int .i64 (Bb s n.kids[i] (Ch an bn n.keys[i])).2.2)])
     (fun y d' M=>AK d' (.slice y.1 (Bb s n.kids[i] (Ch an bn n.keys[i])).2.1.key.length y.2.1) (Bb s n.kids[i] (Ch an bn n.keys[i])).2.1.key∧PgT d' (Bb s n.kids[i] (Ch an bn n.keys[i])).1 dv (.pointer (some ⟨bp,0,none⟩)) y.2.2∧M=tb bt Tt (.pointer (some ⟨bp,0,none⟩)) r h c::y.2.2) [] _ rfl
     (fun x d d' M hl h=>h) (fun y d d' M hl h=>⟨RSl.mono (R:=AM) AW h.1 hl,h.2.1.mono hl,h.2.2⟩) (fun x=>rfl) (fun y=>rfl) rfl ⟨rfl,rfl,rfl,rfl,rfl,trivial⟩ ?_ ?_ ?_
    ·refine BX (fun b13 T13=>?_)
     (apply A5)
     exact⟨_,rfl,(b13,T13),⟨rfl,trivial⟩,rfl⟩
    ·have hA:=hfa.k
     have hA2:=hfa.v
     have hA3:=hfa.i
     have hB:=hfb.k
     have hB2:=hfb.v
     have hB3:=hfb.i
     refine Bi rfl (h2 na5 nb hkey5 (by omega) (by omega) (by omega)) (fun v d6 L6 hl6 ⟨e5,cj,e6,nj⟩=>?_)
     subst e5;subst e6
     refine A8 [] (h3 (k:=n.kids[i]) ((hp4.mono hl5).mono hl6) nj (hjf.small (by omega))) rfl rfl (fun v d7 L7 hl7 ⟨_,ua,uc,L8,e7,hk7,e8,hp8⟩=>?_)
     subst e7;subst e8
     (refine AU rfl<|Ao rfl rfl<|Ao rfl rfl<|A5 ?_)
     exact⟨_,rfl,(ua,uc,L8),⟨rfl,rfl,trivial⟩,hk7,hp8,rfl⟩
    rintro⟨b13,T13⟩ ⟨ua,uc,L8⟩ ρ2 d6 M1 M2 hl6 hM1 ⟨hk6,hp6,hM2⟩
    subst hM1;subst hM2
    simp only at hk6 hp6⊢
    have hmw:=GL hp4.EY (k:=n.kids[i]) (n:=Ch an bn n.keys[i]) hb0.1 hb0.2 hjf.kl
    generalize Bb s n.kids[i] (Ch an bn n.keys[i])=W at hM hk6 hp6 hmw
    have hm1:=hmw.p0
    have hm2:=hmw.p1
    have hm3:=hmw.o0
    have hm4:=hmw.o1
    have hm5:=hmw.k
    refine Bo 0 rfl rfl rfl rfl (Ach _) rfl ?_
    by_cases hwe:W.2.2=0
    ·rw [if_neg (fun q=>q hwe)] at hM
     (refine Ab rfl<|A5<|Ah<|Ad<|Ab rfl<|AQ rfl rfl<|Aa<|Ar rfl (by omega)<|Ak<|Ah<|Ah ?_)
     refine Bv [_,_,_,_,_,_,_,_,_] L8 rfl ?_
     (refine Al rfl<|Au rfl<|Ai rfl<|Ag rfl (Aj 8 rfl rfl)<|Ai rfl<|Ag rfl (Aj 3 rfl rfl)<|Ab rfl<|AO rfl rfl (by omega) (by omega) ?_)
     refine Bx (i+1) rfl rfl (show((i:Int)+1)=((i+1:Nat):Int) by omega) (by omega) ?_
     (apply Ag;rfl;exact Aj 6 rfl (by assumption))
     refine D2 (U5 h4 hp6 (k:=n.kids[i+1])) rfl (fun v d7 L9 hl7 ⟨e9,hp9⟩=>?_)
     subst e9
     by_cases hde:(W.1.drop n.kids[i+1]).2=0
     ·rw [if_neg (fun q=>q hde)] at hM
      rw [hde]
      rw [hM]
      have hk9:=RSl.mono (R:=AM) AW hk6 hl7
      have hG:=hp9.EY
      have hle7:=(hle5.trans hl6).trans hl7
      have hrow1:=hseti d7 i (.int .i64 W.2.1.page) W.2.1.page hle7 (by omega) ⟨rfl,by omega,by omega⟩
      (refine B5<|Ab rfl<|Aa<|Ad<|Ab rfl<|AQ rfl rfl<|Aa<|Ar rfl (by omega)<|Ak<|Ad<|Ai rfl<|Ag rfl (Aj 3 rfl rfl)<|Ab rfl<|Ai rfl<|Ag rfl (Aj 7 rfl rfl)<|Bx _ rfl rfl rfl (by omega) ?_)
      refine AZ 6 (patch li (i*1) [.int .i64 W.2.1.page]) rfl rfl rfl rfl (by omega) rfl rfl ?_
      apply Aa
      generalize hT:(if 0≤W.2.1.other then Bb (W.1.drop n.kids[i+1]).1 k {n with keys:=n.keys.set i W.2.1.key,kids:=(n.kids.set i W.2.1.page).set (i+1) W.2.1.other} else Bb (W.1.drop n.kids[i+1]).1 k {n with keys:=n.keys.eraseIdx i,kids:=(n.kids.set i W.2.1.page).eraseIdx (i+1)})=T
      refine FU (fun ρ d' L'=>d7=d'∧∃cs' n' hk' hv' hi' x12 x10 x13 Lr,BD ρ [(0,.pointer (some ⟨bt,0,none⟩)),(1,.int .i64 k),(6,.pointer (some ⟨b6,0,none⟩)),(8,.pointer (some ⟨b8,0,none⟩))]∧DH d' cs' n' hk' hv' hi'∧Fit n' 600∧Bb (W.1.drop n.kids[i+1]).1 k n'=T∧Lr.Perm [hk',hv',hi']∧
       L'=x12::x10::bx b8 T8 [.int .i64 0,.int .i64 0,.slice none 0 0,.int .i64 0]::bx b6 T6 cs'::x13::(Lr++tb bt Tt (.pointer (some ⟨bp,0,none⟩)) r h c::L9)) ?_ ?_
      ·by_cases ho:0≤W.2.1.other
       ·rw [if_pos ho] at hT
        (refine Ad<|Ai rfl<|Ag rfl (Aj 7 rfl rfl)<|DG rfl rfl<|Aa<|Ax rfl (by omega) ?_)
        refine Rl [_,_,_,_,_] (bx bk Tk lk::hv::bx bi Ti (patch li (i*1) [.int .i64 W.2.1.page])::tb bt Tt (.pointer (some ⟨bp,0,none⟩)) r h c::L9) (Aga [_,_,_,_] (Adj (l₁:=[_,_,_]))) ?_
        (refine Ai rfl<|Ag rfl (Aj 3 rfl rfl)<|Ab rfl<|Ai rfl<|Ag rfl (Aj 3 rfl rfl)<|Ab rfl<|AO rfl rfl (by omega) (by omega)<|Ai rfl<|Ag rfl (Aj 4 rfl rfl)<|Ai rfl<|Ag rfl (Aj 4 rfl rfl)<|Bx _ rfl rfl rfl (by omega) ?_)
        have hrowk:=hsetk d7 i (.slice ua W.2.1.key.length uc) W.2.1.key hle7 hil ⟨_,rfl,hk9⟩
        refine AZ 0 (patch lk (i*1) [.slice ua W.2.1.key.length uc]) rfl rfl rfl rfl (by omega) rfl rfl ?_
        skip
        refine Bx (i+1) rfl rfl (show((i:Int)+1)=((i+1:Nat):Int) by omega) (by omega) ?_
        obtain⟨b',T',l',c',q1,q2,q3, -,hs2⟩:=Aq.all (R:=Bg) B8 hrow1 (by rw [Adf];omega)
        rw [Adf] at q1
        cases q1
        obtain⟨rfl,hq⟩:=Rq q2
        rw [Adf] at q3
        have hrow2:=hs2 d7 (i+1) (.int .i64 W.2.1.other) W.2.1.other (Le.refl _) (by rw [Adf];omega) ⟨rfl,by omega,by omega⟩
        rw [←hq] at hrow2 q3
        refine AZ 2 (patch (patch li (i*1) [.int .i64 W.2.1.page]) ((i+1)*1) [.int .i64 W.2.1.other]) rfl rfl rfl rfl (by omega) rfl rfl ?_
        (apply A5)
        refine⟨rfl,_,{n with keys:=n.keys.set i W.2.1.key,kids:=(n.kids.set i W.2.1.page).set (i+1) W.2.1.other},_,hv,_,_,_,_,[_,_,_],⟨rfl,rfl,rfl,rfl,trivial⟩,⟨_,_,_,rfl,hrowk,r2.D8 hle7,hrow2⟩,⟨?_,?_,?_,fun y hy=>?_,hfit.vl⟩,hT,Adp _,rfl⟩
        ·show(n.keys.set i W.2.1.key).length≤600;rw [Adf];omega
        ·have:=hfit.v;show n.vals.length≤600;omega
        ·show((n.kids.set i W.2.1.page).set (i+1) W.2.1.other).length≤600;rw [Adf,Adf];omega
        ·rcases Pz hy with rfl|hy
         ·exact hm5
         ·exact hfit.kl y hy
       ·rw [if_neg ho] at hT
        (refine Ad<|Ai rfl<|Ag rfl (Aj 7 rfl rfl)<|DG rfl rfl<|Aa<|Ar rfl (by omega) ?_)
        refine Rl [_,_,_,_,_] (bx bk Tk lk::hv::bx bi Ti (patch li (i*1) [.int .i64 W.2.1.page])::tb bt Tt (.pointer (some ⟨bp,0,none⟩)) r h c::L9) (Aga [_,_,_,_] (Adj (l₁:=[_,_,_]))) ?_
        (refine Ai rfl<|Ag rfl (Aj 3 rfl rfl)<|Ab rfl<|Ab rfl<|AO rfl rfl (by omega) (by omega)<|Ai rfl<|Ag rfl (Aj 3 rfl rfl)<|Ab rfl<|AO rfl rfl (by omega) (by omega)<|Ab rfl<|AO rfl rfl (by omega) (by omega) ?_)
        refine Dx (A:=[_]) rfl rfl (h5 (r1.D8 hle7) hil rfl (by omega) Fk) (fun v da La hla ⟨ea,h121,eb,hg121⟩=>?_)
        subst ea;subst eb
        obtain⟨xa',xc',rfl⟩:=hg121.val
        (apply Ai;rfl)
        refine C4 (A:=[bx bi Ti (patch li (i*1) [.int .i64 W.2.1.page])]) (h6 (i:=i+1) (j:=((i:Int)+2)) (hrow1) (by rw [Adf];omega) (by omega) (by rw [Adf];omega) Dg) (Adj (l₁:=[_,_])) rfl (fun v db Lb hlb ⟨ec,h128,ed,hg128⟩=>?_)
        subst ec;subst ed
        obtain⟨za,zc,rfl⟩:=hg128.val
        refine⟨_,_,Vs.refl _ _,?_⟩
        apply B5
        refine AZ 3 [.bool n.leaf,.slice xa' (n.keys.eraseIdx i).length xc',.slice ya n.vals.length yc,.slice (some ⟨bi,0,none⟩) n.kids.length ci] rfl rfl rfl rfl (Aca rfl) rfl rfl ?_
        (apply Ai;rfl)
        refine AZ 3 [.bool n.leaf,.slice xa' (n.keys.eraseIdx i).length xc',.slice ya n.vals.length yc,.slice za ((n.kids.set i W.2.1.page).eraseIdx (i+1)).length zc] rfl rfl rfl rfl (Aca rfl) rfl rfl ?_
        (apply Aa)
        refine⟨rfl,_,{n with keys:=n.keys.eraseIdx i,kids:=(n.kids.set i W.2.1.page).eraseIdx (i+1)},h121,hv,h128,_,_,_,[_,_,_],⟨rfl,rfl,rfl,rfl,trivial⟩,⟨_,_,_,rfl,hg121,r2.D8 hle7,hg128⟩,⟨?_,?_,?_,fun y hy=>?_,hfit.vl⟩,hT,Ack (l₁:=[_]) (l₂:=[_,_]),rfl⟩
        ·show(n.keys.eraseIdx i).length≤600;have:=(Agc n.keys i).length_le;omega
        ·have:=hfit.v;show n.vals.length≤600;omega
        ·show((n.kids.set i W.2.1.page).eraseIdx (i+1)).length≤600;have:=(Agc (n.kids.set i W.2.1.page) (i+1)).length_le;rw [Adf] at this;omega
        ·exact hfit.kl y (Ln hy)
      ·rintro ρ3 d' L' ⟨hdd,cs',n',hk',hv',hi',x12,x10,x13,Lr,hsl,hn',hfit',hT',hpm,hLL⟩
       subst hdd;subst hLL;subst hT'
       obtain⟨ka',kc',va',vc',ia',ic',rfl⟩:=hn'.cells
       refine Di _ hsl ?_
       obtain⟨d8,hl8,v8,hn8⟩:=F2 hn'
       have hmo:=GL hG (n:=n') hpg0 hpg1 hfit'.kl
       (refine Ad<|Al rfl<|Ab rfl<|Bf 3 rfl rfl rfl ?_)
       refine Cd _ _ (Vs.out [_,_,_,_,_] _ hpm v8) ?_
       refine A8 [_,_,_,_,_] (h3 (k:=k) (hp9.mono hl8) hn8 (hfit'.small (by omega))) rfl rfl (fun v d9 La hl9 ⟨_,wa,wc,Lb,ea,hka,eb,hpb⟩=>?_)
       subst ea;subst eb
       (refine Ao rfl rfl<|Ao rfl rfl ?_)
       refine Bo 2 rfl rfl rfl rfl (Ach _) rfl ?_
       (refine Ab rfl<|Aa<|An ?_)
       exact Ba [mdV (Bb (W.1.drop n.kids[i+1]).1 k n').2.1 wa wc,.int .i64 (Bb (W.1.drop n.kids[i+1]).1 k n').2.2] ⟨AT 2 rfl rfl rfl,Av rfl,trivial⟩ (d':=d9) (L':=tb bt Tt (.pointer (some ⟨bp,0,none⟩)) r h c::Lb) (Vs.drop (.cons _ (.cons _ (.cons _ (.cons _ (.cons _ (Acb _))))))) ⟨(((hle5.trans hl6).trans hl7).trans hl8).trans hl9,wa,wc,Lb,rfl,hka,hmo,rfl,hpb⟩
     ·rw [if_pos hde] at hM
      rw [hM]
      (refine B5<|Ab rfl<|Aa<|Ad<|Ab rfl<|AQ rfl rfl<|Aa<|Ax rfl (by omega)<|Ad<|BJ rfl<|Ab rfl ?_)
      refine Bo 2 rfl rfl rfl rfl (Ach _) rfl ?_
      (refine Ab rfl<|Aa<|An ?_)
      exact Ba [mdV Cj none 0,.int .i64 (W.1.drop n.kids[i+1]).2] ⟨AT 2 rfl rfl rfl,Av rfl,trivial⟩ (d':=d7) (L':=tb bt Tt (.pointer (some ⟨bp,0,none⟩)) r h c::L9) (Vs.drop (.cons _ (.cons _ (.cons _ (.cons _ (.cons _ (.cons _ (.cons _ (.cons _ (Acb _)))))))))) ⟨(hle5.trans hl6).trans hl7,none,0,L9,rfl,RSl.nil,D5,rfl,hp9⟩
    ·rw [if_pos hwe] at hM
     rw [hM]
     (refine Ab rfl<|A5<|Ah<|Ad<|Ab rfl<|AQ rfl rfl<|Aa<|Ax rfl (by omega)<|Ad<|BJ rfl<|Ab rfl ?_)
     refine Bo 2 rfl rfl rfl rfl (Ach _) rfl ?_
     (refine Ab rfl<|Aa<|An ?_)
     exact Ba [mdV Cj none 0,.int .i64 W.2.2] ⟨AT 2 rfl rfl rfl,Av rfl,trivial⟩ (d':=d6) (L':=tb bt Tt (.pointer (some ⟨bp,0,none⟩)) r h c::L8) (Vs.drop (.cons _ (.cons _ (.cons _ (.cons _ (.cons _ (.cons _ (.cons _ (.cons _ (Acb _)))))))))) ⟨hle5.trans hl6,none,0,L8,rfl,RSl.nil,D5,rfl,hp6⟩
   ·rw [if_pos hlf] at hM
    rw [hM]
    refine Bh (congrArg Value.bool (show(true ^^(an.leaf==bn.leaf))=true by cases hq:an.leaf<;>cases hq':bn.leaf<;>simp_all)) ?_
    (refine Ad<|BJ rfl ?_)
    refine Bo 2 rfl rfl rfl rfl (Ach _) rfl ?_
    (refine Ab rfl<|Aa<|An ?_)
    exact Ba [mdV Cj none 0,.int .i64 200] ⟨AT 2 rfl rfl rfl,Av rfl,trivial⟩ (d':=d5) (L':=tb bt Tt (.pointer (some ⟨bp,0,none⟩)) r h c::L5) (Vs.drop (.cons _ (.cons _ (.cons _ (.cons _ (.cons _ (.cons _ (.cons _ (Acb _))))))))) ⟨hle5,none,0,L5,rfl,RSl.nil,D5,rfl,hp4.mono hl5⟩
  ·rw [if_pos hbe] at hM
   rw [hM]
   (refine Ab rfl<|Aa<|Ah<|Ad<|Ab rfl<|AQ rfl rfl<|Aa<|Ax rfl (by omega)<|Ad<|BJ rfl<|Ab rfl ?_)
   refine Bo 2 rfl rfl rfl rfl (Ach _) rfl ?_
   (refine Ab rfl<|Aa<|An ?_)
   exact Ba [mdV Cj none 0,.int .i64 be] ⟨AT 2 rfl rfl rfl,Av rfl,trivial⟩ (d':=d5) (L':=tb bt Tt (.pointer (some ⟨bp,0,none⟩)) r h c::L5) (Vs.drop (.cons _ (.cons _ (.cons _ (.cons _ (.cons _ (.cons _ (.cons _ (Acb _))))))))) ⟨((hl2.trans hl3).trans hl4).trans hl5,none,0,L5,rfl,RSl.nil,D5,rfl,hp4.mono hl5⟩
 ·rw [if_pos hae] at hM
  rw [hM]
  (refine Ab rfl<|Aa<|Ah<|Ad<|Ab rfl<|AQ rfl rfl<|Aa<|Ax rfl (by omega)<|Ad<|BJ rfl<|Ab rfl ?_)
  refine Bo 1 rfl rfl rfl rfl (Ach _) rfl ?_
  (refine Ab rfl<|Aa<|An ?_)
  exact Ba [mdV Cj none 0,.int .i64 ae] ⟨AT 1 rfl rfl rfl,Av rfl,trivial⟩ (d':=d3) (L':=tb bt Tt (.pointer (some ⟨bp,0,none⟩)) r h c::L3) (Vs.drop (.cons _ (.cons _ (.cons _ (.cons _ (.cons _ (.cons _ (Acb _)))))))) ⟨hl2.trans hl3,none,0,L3,rfl,RSl.nil,D5,rfl,⟨tc1,hp2.mono hl3⟩⟩
def R1(P:Program) (f:FuncId):Prop:=∀(x:Nat) {d:Ac}{s:PD}{dv pv w:Value}{L:List Ac}{bt:Nat}{Tt:TypeId}{r h c k:Int}{key:List UInt8},x≤1000000→PgT d s dv pv L→AK d w key→ -1≤k→k≤16384→(BV s k key (x+1)).2.2.2≠99999→
 Aw P f [.pointer (some ⟨bt,0,none⟩),.int .i64 k,.int .i64 ((x+1:Nat):Int),w] d (tb bt Tt pv r h c::L) (Ret fun v d' L'=>Le d d'∧∃ua uc L2,v=.tuple #[mdV (BV s k key (x+1)).2.1 ua uc,.bool (BV s k key (x+1)).2.2.1,.int .i64 (BV s k key (x+1)).2.2.2]∧
  AK d' (.slice ua (BV s k key (x+1)).2.1.key.length uc) (BV s k key (x+1)).2.1.key∧MOk (BV s k key (x+1)).2.1∧L'=tb bt Tt pv r h c::L2∧PgT d' (BV s k key (x+1)).1 dv pv L2)
def K0(a0 a1 a2 a3 a4 a5 a6 a7:Nat):AY:=⟨139,[(.cell 8 (some 4)),(.tmp 9),(.tmp 10)],(sR (o1 8 (.alo (.agg #[(.int .i64 0),(.int .i64 0),(.slice none 0 0),(.int .i64 0)]))<|o1 9 (.mv (.const (.bool false)))<|o1 10 (.mv (kZ 0)) .done) (sR (om 24 0<|om 25 1<|om 26 2<|oc 27 a0 [(tP 24),(tP 25),(tP 26)]<|om 23 27<|oe 28 23 0<|oe 29 23 1<|o1 11 (.alo (.agg #[(.bool false),(.slice none 0 0),(.slice none 0 0),(.slice none 0 0)]))<|o0 (.st 4 (tP 11) (tP 28))<|om 12 29 .done) (.seq (sR (om 30 12<|ob 31 .neq (tP 30) (kZ 0) .done) (.cond (tP 31) (sR (o1 32 (.bld [(0,1),(1,1),(2,1),(3,1)] [(.int .i64 0),(.int .i64 0),(.slice none 0 0),(.int .i64 0)] [])<|om 33 12<|o0 (.st 4 (tP 8) (tP 32))<|o1 9 (.mv (.const (.bool false)))<|om 10 33 .done) .ret) .skip)) (sR (o1 35 (.ld (some 4) (tP 11))<|om 36 3<|oc 37 a1 [(tP 35),(tP 36)]<|om 34 37<|oe 38 34 0<|oe 39 34 1<|om 13 38<|om 14 39 .done) (.seq (sR (om 40 2<|ob 41 .eql (tP 40) (kZ 1) .done) (.cond (tP 41) (.seq (sR (om 42 14<|o1 43 (.un .not (tP 42)) .done) (.cond (tP 43) (sR (om 44 1<|o1 45 (.bld [(0,1),(1,1),(2,1),(3,1)] [(.int .i64 0),(.int .i64 0),(.slice none 0 0),(.int .i64 0)] [(0,(tP 44)),(1,(kZ (-1))),(3,(kZ 256))])<|o0 (.st 4 (tP 8) (tP 45))<|o1 9 (.mv (.const (.bool false)))<|o1 10 (.mv (kZ 0)) .done) .ret) .skip)) (.seq (sR (om 46 0<|oj 47 2 11<|ol 48 47<|om 49 13<|oI 50 1 48 49<|ol 51 50<|oc 52 a2 [(tP 46),(tP 51)]<|om 15 52 .done) (sR (om 53 15<|ob 54 .neq (tP 53) (kZ 0) .done) (.cond (tP 54) (sR (o1 55 (.bld [(0,1),(1,1),(2,1),(3,1)] [(.int .i64 0),(.int .i64 0),(.slice none 0 0),(.int .i64 0)] [])<|om 56 15<|o0 (.st 4 (tP 8) (tP 55))<|o1 9 (.mv (.const (.bool false)))<|om 10 56 .done) .ret) .skip))) (.seq (.reg true (p1 57 (.fld 1 (tP 11))<|pl 58 57<|pm 59 13<|pm 60 13<|p1 61 (.bin .add (tP 60) (kZ 1))<|p1 63 (.fld 2 (tP 11))<|pl 64 63<|pm 65 13<|pm 66 13<|p1 67 (.bin .add (tP 66) (kZ 1))<|oc 62 a3 [(tP 58),(tP 59),(tP 61)]<|p1 69 (.fld 1 (tP 11))<|oc 68 a3 [(tP 64),(tP 65),(tP 67)] (.bar (o0 (.st 1 (tP 69) (tP 62)) (p1 70 (.fld 2 (tP 11)) (o0 (.st 1 (tP 70) (tP 68)) .done)))))) (sR (om 72 0<|om 73 1<|o1 74 (.ld (some 4) (tP 11))<|oc 75 a4 [(tP 72),(tP 73),(tP 74)]<|om 71 75<|oe 76 71 0<|oe 77 71 1<|o1 16 (.alo (.agg #[(.int .i64 0),(.int .i64 0),(.slice none 0 0),(.int .i64 0)]))<|o0 (.st 4 (tP 16) (tP 76))<|om 17 77 .done) (sR (o1 78 (.ld (some 4) (tP 16))<|om 79 17<|o0 (.st 4 (tP 8) (tP 78))<|o1 9 (.mv (.const (.bool true)))<|om 10 79 .done) .ret))))) .skip)) (sR (om 81 0<|oj 82 3 11<|ol 83 82<|om 84 13<|oI 85 1 83 84<|ol 86 85<|om 87 2<|ob 88 .sub (tP 87) (kZ 1)<|om 89 3<|oc 90 a5 [(tP 81),(tP 86),(tP 88),(tP 89)]<|om 80 90<|oe 91 80 0<|oe 92 80 1<|oe 93 80 2<|o1 18 (.alo (.agg #[(.int .i64 0),(.int .i64 0),(.slice none 0 0),(.int .i64 0)]))<|o0 (.st 4 (tP 18) (tP 91))<|om 19 92<|om 12 93 .done) (.seq (sR (om 94 12<|ob 95 .neq (tP 94) (kZ 0)<|om 96 95<|gF 97 96 19<|oF 98 96 (.un .not (tP 97))<|o1 99 (.pick (tP 96) (.const (.bool true)) (tP 98)) .done) (.cond (tP 99) (sR (om 100 1<|o1 101 (.bld [(0,1),(1,1),(2,1),(3,1)] [(.int .i64 0),(.int .i64 0),(.slice none 0 0),(.int .i64 0)] [(0,(tP 100)),(1,(kZ (-1))),(3,(kZ 256))])<|om 102 19<|om 103 12<|o0 (.st 4 (tP 8) (tP 101))<|om 9 102<|om 10 103 .done) .ret) .skip)) (.seq (sR (oj 104 1 18<|ol 105 104<|ob 106 .lss (tP 105) (kZ 0)<|om 107 106<|oT 108 107 (.fld 3 (tP 18))<|oT 109 107 (.ld none (tP 108))<|oT 110 107 (.bin .lss (tP 109) (kZ 80))<|gP 111 107 110 .done) (.cond (tP 111) (sR (oj 112 3 11<|ol 113 112<|om 114 13<|oj 115 0 18<|ol 116 115<|oI 117 1 113 114<|o0 (.st 1 (tP 117) (tP 116)) .done) (sR (om 119 0<|om 120 1<|o1 121 (.ld (some 4) (tP 11))<|om 122 13<|oc 123 a6 [(tP 119),(tP 120),(tP 121),(tP 122)]<|om 118 123<|oe 124 118 0<|oe 125 118 1<|o1 20 (.alo (.agg #[(.int .i64 0),(.int .i64 0),(.slice none 0 0),(.int .i64 0)]))<|o0 (.st 4 (tP 20) (tP 124))<|om 21 125 .done) (sR (o1 126 (.ld (some 4) (tP 20))<|om 127 21<|o0 (.st 4 (tP 8) (tP 126))<|o1 9 (.mv (.const (.bool true)))<|om 10 127 .done) .ret))) .skip)) (sR (om 129 0<|om 130 1<|o1 131 (.ld (some 4) (tP 11))<|om 132 13<|o1 133 (.ld (some 4) (tP 18))<|oc 134 a7 [(tP 129),(tP 130),(tP 131),(tP 132),(tP 133)]<|om 128 134<|oe 135 128 0<|oe 136 128 1<|o1 22 (.alo (.agg #[(.int .i64 0),(.int .i64 0),(.slice none 0 0),(.int .i64 0)]))<|o0 (.st 4 (tP 22) (tP 135))<|om 12 136 .done) (sR (o1 137 (.ld (some 4) (tP 22))<|om 138 12<|o0 (.st 4 (tP 8) (tP 137))<|o1 9 (.mv (.const (.bool true)))<|om 10 138 .done) .ret))))))))))⟩
set_option maxRecDepth 4000 in
set_option maxHeartbeats 8000000 in
theorem ZG{P:Program}{f f1 f2 f3 f4 f5 f7 f8:FuncId} (hd:Jj P f=some (K0 f1 f2 f3 f4 f5 f f7 f8)) (h1:HR P f1) (h2:Jg P f2 findD) (h3:Mc P f3) (h4:JM RBs P f4) (h5:Hv P f5) (h7:Pq P f7) (h8:Jw P f8):R1 P f:=by
 intro x
 induction x using Nat.strongRecOn with
 |ind x ih=>
 intro d s dv pv w L bt Tt r h c k key hx hp hw hk0 hk1 hnp
 obtain⟨bp,rfl⟩:=hp.ptr
 have hG:=hp.EY
 obtain⟨tc0,hp⟩:=hp
 obtain⟨wa,wc,rfl⟩:=hw.val
 refine AG hd (Aca rfl) ?_
 show gwp P _ _ _ _ _
 apply Ah;apply AA
 refine BX (fun b10 T10=>?_)
 (refine Ae rfl<|Ab rfl<|Aa<|Ad<|Al rfl<|Ab rfl<|Ab rfl ?_)
 refine A8 [_] (h1 (k:=k) (x:=((x+1:Nat):Int)) hp) rfl rfl (fun v d2 L2 hl ⟨_,cs,hk,hv,hi,L3,tc,e1,e2,hn,hp2,htc⟩=>?_)
 subst e1;subst e2
 have hp2:PgT d2 s dv (.pointer (some ⟨bp,0,none⟩)) L3:=⟨tc,hp2⟩
 rw [show A0 {s with tc:=tc0} k ((x+1:Nat):Int)=A0 s k ((x+1:Nat):Int) from rfl] at hn⊢
 obtain⟨ka,kc,va,vc,ia,ic,rfl⟩:=hn.cells
 (refine AU rfl<|Ao rfl rfl<|Ao rfl rfl<|BX (fun _ _=>?_))
 rename_i b13 T13
 refine Bo 0 rfl rfl rfl rfl (Ach _) rfl ?_
 by_cases he:(A0 s k ((x+1:Nat):Int)).2=0
 ·obtain⟨hr,hlf⟩:=IG he
  obtain⟨n,hne⟩:∃n,(A0 s k ((x+1:Nat):Int)).1=n:=⟨_,rfl⟩
  rw [hne] at hn hr hlf⊢
  obtain⟨hfit,hk64⟩:=Kn hr
  obtain⟨i,b,hfd⟩:∃i b,findD n key=(i,b):=⟨_,_,rfl⟩
  have hile:i≤n.keys.length:=by have:=Nw (n:=n) (key:=key);rw [hfd] at this;exact this
  rw [he]
  have hw2:=RSl.mono (R:=AM) AW hw hl
  have hlv:n.leaf=true→n.vals.length=n.keys.length:=JK hr
  have hli:n.leaf=false→n.kids.length=n.keys.length+1:=He hr
  have hkd:=Qg hr
  clear hr
  have hnk:=hn
  obtain⟨kv,vv,iv,q,r1,r2,r3⟩:=hn
  cases q
  (refine Ab rfl<|Aa<|Ah<|Ad<|Ab rfl<|AQ rfl rfl<|Aa<|Ar rfl (by omega)<|Ak<|Ad<|Bf 0 rfl rfl rfl<|Am rfl ?_)
  refine I1 rfl (v:=.tuple #[.int .i64 i,.bool b]) (fun d1 hl1 hk1=>by
   have:=h2 (DH.Ii ⟨_,_,_,rfl,r1,r2,r3⟩ hl1 (hk1 _ (by simp)) (hk1 _ (by simp)) (hk1 _ (by simp))) (RSl.mono (R:=AM) AW hw2 hl1)
   rw [hfd] at this;exact this) ?_
  (refine AU rfl<|Ao rfl rfl<|Ao rfl rfl<|Ab rfl<|Ae rfl<|Aa ?_)
  apply Ah;apply Ah;apply AA
  (refine Ab rfl<|AJ rfl rfl<|Aa ?_)
  by_cases hx0:x=0
  ·subst hx0
   have hvl:=hlv (by rw [hlf];rfl)
   clear hlv hli hlf
   refine Ax rfl (by omega) ?_
   cases b with
   |true=>
    have hilt:i<n.keys.length:=by have:=MR (n:=n) (key:=key) (by rw [hfd]);rw [hfd] at this;exact this
    have hiv:i<n.vals.length:=by omega
    have hI:=Tg he hne hfd
    have hgv:n.vals.getD i []=n.vals[i]:=by rw [Acf,Ace hiv];rfl
    rw [hgv] at hI
    obtain⟨b1,T1,l1,c1,cs1,q1,rfl,hcl1,hcs,hle1,⟨u,rfl,hu⟩, -⟩:=Aq.at (by omega) r2 hiv
    cases q1
    have c0:=hcs 0 _ rfl
    have hfk:=hfit.k
    have hfv:=hfit.v
    (refine Ah<|Ad<|Ae rfl<|Bu rfl<|Aa<|AS rfl<|Ak<|Ah<|Ad<|Al rfl<|Ai rfl<|Ag rfl (Aj 0 rfl rfl)<|Ab rfl<|Bx _ rfl rfl rfl (by omega)<|Ag rfl (Aj 3 rfl (by assumption)) ?_)
    refine A8 [_,_,_,_,_] (h3 hp2 hu) rfl rfl (fun v d3 L4 hl3 ⟨_,e3,L5,e4,hp5⟩=>?_)
    subst e3;subst e4
    by_cases hz:(BO s n.vals[i]).2=0
    ·rw [if_neg (fun q=>q hz)] at hI
     rw [hI,hz]
     clear hnp
     (refine Ab rfl<|Aa<|Ad<|Ab rfl<|AQ rfl rfl<|Aa<|Ar rfl (by omega)<|Ak<|Ah ?_)
     refine Bv [_,_] (hk::bx b1 T1 l1::hi::tb bt Tt (.pointer (some ⟨bp,0,none⟩)) r h c::L5) rfl ?_
     (refine Ai rfl<|Ag rfl (Aj 0 rfl rfl)<|Ab rfl<|Ab rfl<|AO rfl rfl (by omega) (by omega)<|Ai rfl<|Ag rfl (Aj 0 rfl rfl)<|Ab rfl<|Ab rfl<|AO rfl rfl (by omega) (by omega) ?_)
     refine Dx (A:=[_]) rfl rfl (h4 (r1.D8 hl3) hilt rfl (by omega) Fk) (fun v da La hla ⟨ea,h62,eb,hg62⟩=>?_)
     subst ea;subst eb
     obtain⟨xa',xc',rfl⟩:=hg62.val
     (apply Ai;rfl)
     refine C4 (A:=[bx b1 T1 l1]) (h4 (i:=i) (j:=((i:Int)+1)) (r2.D8 hl3) hiv rfl (by omega) Fk) (Adj (l₁:=[_])) rfl (fun v db Lb hlb ⟨ec,h68,ed,hg68⟩=>?_)
     subst ec;subst ed
     obtain⟨za,zc,rfl⟩:=hg68.val
     refine⟨_,_,Vs.refl _ _,?_⟩
     apply B5
     refine AZ 0 [.bool n.leaf,.slice xa' (n.keys.eraseIdx i).length xc',.slice (some ⟨b1,0,none⟩) n.vals.length vc,.slice ia n.kids.length ic] rfl rfl rfl rfl (Aca rfl) rfl rfl ?_
     (apply Ai;rfl)
     refine AZ 0 [.bool n.leaf,.slice xa' (n.keys.eraseIdx i).length xc',.slice za (n.vals.eraseIdx i).length zc,.slice ia n.kids.length ic] rfl rfl rfl rfl (Aca rfl) rfl rfl ?_
     (refine Aa<|Ad<|Al rfl<|Ab rfl<|Bf 0 rfl rfl rfl ?_)
     have hn':DH db [.bool n.leaf,.slice xa' (n.keys.eraseIdx i).length xc',.slice za (n.vals.eraseIdx i).length zc,.slice ia n.kids.length ic] {n with keys:=n.keys.eraseIdx i,vals:=n.vals.eraseIdx i} h62 h68 hi:=⟨_,_,_,rfl,hg62,hg68,r3.Ic hl3⟩
     obtain⟨d8,hl8,v8,hn8⟩:=F2 hn'
     have hfit':Fit {n with keys:=n.keys.eraseIdx i,vals:=n.vals.eraseIdx i} 600:=by
      have e1:=(Agc n.keys i).length_le
      have e2:=(Agc n.vals i).length_le
      have e3:=hfit.i
      exact⟨show(n.keys.eraseIdx i).length≤600 by omega,show(n.vals.eraseIdx i).length≤600 by omega,show n.kids.length≤600 by omega,fun y hy=>hfit.kl y (Ln hy),fun y hy=>hfit.vl y (Ln hy)⟩
     have hmo:=GL hp5.EY (n:={n with keys:=n.keys.eraseIdx i,vals:=n.vals.eraseIdx i}) hk0 hk1 hfit'.kl
     refine Cd _ _ (Vs.out (M:=[_,_,_]) [_,_] _ (Adc _ _ _) v8) ?_
     refine A8 [_,_] (h5 (k:=k) (hp5.mono hl8) hn8 (hfit'.small (by omega))) rfl rfl (fun v d9 Lc hl9 ⟨_,ua,uc,L6,e5,hk5,e6,hp6⟩=>?_)
     subst e5;subst e6
     (refine AU rfl<|Ao rfl rfl<|Ao rfl rfl<|BX (fun _ _=>?_))
     rename_i b18 T18
     refine Bo 0 rfl rfl rfl rfl (Ach _) rfl ?_
     (refine Ab rfl<|Aa<|Ad<|Bf 0 rfl rfl rfl<|Ab rfl ?_)
     refine Bo 2 rfl rfl rfl rfl (Ach _) rfl ?_
     (refine Ae rfl<|Ab rfl<|Aa<|An ?_)
     exact Ba [mdV (Bb (BO s n.vals[i]).1 k {n with keys:=n.keys.eraseIdx i,vals:=n.vals.eraseIdx i}).2.1 ua uc,.bool true,.int .i64 (Bb (BO s n.vals[i]).1 k {n with keys:=n.keys.eraseIdx i,vals:=n.vals.eraseIdx i}).2.2] ⟨AT 2 rfl rfl rfl,Av rfl,Av rfl,trivial⟩ (d':=d9) (L':=tb bt Tt (.pointer (some ⟨bp,0,none⟩)) r h c::L6) (Vs.drop (.cons _ (.cons _ (.cons _ (Acb _))))) ⟨((hl.trans hl3).trans hl8).trans hl9,ua,uc,L6,rfl,hk5,hmo,rfl,hp6⟩
    ·rw [if_pos hz] at hI
     rw [hI]
     clear hnp
     (refine Ab rfl<|Aa<|Ad<|Ab rfl<|AQ rfl rfl<|Aa<|Ax rfl (by omega)<|Ad<|BJ rfl<|Ab rfl ?_)
     refine Bo 1 rfl rfl rfl rfl (Ach _) rfl ?_
     (refine Ae rfl<|Ab rfl<|Aa<|An ?_)
     exact Ba [mdV Cj none 0,.bool false,.int .i64 (BO s n.vals[i]).2] ⟨AT 1 rfl rfl rfl,Av rfl,Av rfl,trivial⟩ (d':=d3) (L':=tb bt Tt (.pointer (some ⟨bp,0,none⟩)) r h c::L5) (Vs.drop (.cons _ (.cons _ (.cons _ (.cons _ (.cons _ (Acb _))))))) ⟨hl.trans hl3,none,0,L5,rfl,RSl.nil,D5,rfl,hp5⟩
   |false=>
    have hI:=TH he hne hfd
    rw [hI]
    clear hnp
    (refine Ah<|Ad<|Ae rfl<|Bu rfl<|Aa<|Bh rfl<|Ad<|Ab rfl<|BJ rfl ?_)
    refine Bo 1 rfl rfl rfl rfl (Ach _) rfl ?_
    (refine Ae rfl<|Ab rfl<|Aa<|An ?_)
    exact Ba [mdV ⟨k, -1,[],256⟩ none 0,.bool false,.int .i64 0] ⟨AT 1 rfl rfl rfl,Av rfl,Av rfl,trivial⟩ (d':=d2) (L':=tb bt Tt (.pointer (some ⟨bp,0,none⟩)) r h c::L3) (Vs.drop (.cons _ (.cons _ (.cons _ (.cons _ (.cons _ (Acb _))))))) ⟨hl,none,0,L3,rfl,RSl.nil,⟨hk0,hk1,(by decide:(-1:Int)≤ -1),(by decide:(-1:Int)≤16384),Adg _⟩,rfl,hp2⟩
  ·obtain⟨x,rfl⟩:∃y,x=y+1:=⟨x - 1,by omega⟩
   have hil:=hli (by rw [hlf];simp;omega)
   clear hlv hli hlf
   have hii:i<n.kids.length:=by omega
   have hgk:n.kids.getD i 0=n.kids[i]:=by rw [Acf,Ace hii];rfl
   have hI:=Oo (key:=key) he hne hfd (u:=BV s n.kids[i] key (x+1)) (by rw [hgk])
   have hkb:=hkd _ (Ada hii)
   have hnk0:=hnk
   obtain⟨b1,T1,l1,c1,cs1,q1,rfl,hcl1,hcs,hle1,⟨rfl,hb1,hb2⟩,hset⟩:=Aq.at (by omega) r3 hii
   cases q1
   have c0:=hcs 0 _ rfl
   have hnp':(BV s n.kids[i] key (x+1)).2.2.2≠99999:=by
    intro q
    rw [hI,if_pos (.inl (by rw [q];decide))] at hnp
    exact hnp q
   refine Ar rfl (by omega) ?_
   (refine Ak<|Ad<|Al rfl<|Ai rfl<|Ag rfl (Aj 0 rfl rfl)<|Ab rfl<|Bx _ rfl rfl rfl (by omega)<|Ag rfl (Aj 4 rfl (by assumption))<|Ab rfl<|CX rfl rfl (by omega) (by omega)<|Am rfl ?_)
   refine E6 (g:=88) (v:=.int .i64 ((x+1:Nat):Int)) (congrArg (Value.int .i64) (by push_cast;omega)) ?_
   skip
   refine A8 [_,_,_,_,_] (ih x (Nat.lt_succ_self x) (k:=n.kids[i]) (by omega) hp2 hw2 (by omega) (by omega) hnp') rfl rfl (fun v d3 L4 hl3 ⟨_,ua,uc,L5,e3,hk3,hm3,e4,hp5⟩=>?_)
   subst e3;subst e4
   generalize BV s n.kids[i] key (x+1)=U at hI hk3 hm3 hp5
   clear hnp'
   rw [hI] at hnp⊢
   (refine AU rfl<|Ao rfl rfl<|Ao rfl rfl<|Ao rfl rfl<|BX (fun _ _=>?_))
   rename_i b20 T20
   refine Bo 0 rfl rfl rfl rfl (Ach _) rfl ?_
   obtain⟨us,um,uw,ue⟩:=U
   simp only at hI hk3 hm3 hp5 hnp⊢
   clear hI
   by_cases hz:ue=0
   ·subst hz
    cases uw with
    |true=>
     rw [if_neg (by simp)] at hnp⊢
     have hmo1:=hm3.p0
     have hmo2:=hm3.p1
     by_cases hc:um.other<0∧um.size<80
     ·rw [if_pos hc] at hnp⊢
      have hkl1:1≤n.keys.length:=by
       refine Classical.byContradiction fun q=>hnp ?_
       show(Ds us k {n with kids:=n.kids.set i um.page} i).2.2=99999
       unfold Ds
       rw [if_pos (show n.keys.length=0 by omega)]
      clear hnp
      obtain⟨hc1,hc2⟩:=hc
      have hrow:=hset [.int .i64 um.page] um.page rfl ⟨rfl,by omega,by omega⟩
      have hkb2:∀y∈n.kids.set i um.page, -1≤y∧y≤16384:=fun y hy=>by
       rcases Pz hy with rfl|hy
       ·omega
       ·have:=hkd y hy
        omega
      (refine Ae rfl<|Ab rfl<|Aa<|Ah<|Ad<|Ab rfl<|AQ rfl rfl<|Ae rfl<|Bc rfl (by omega)<|Af rfl<|Ae rfl<|Af rfl<|Bu rfl<|As rfl rfl<|Aa<|AS rfl<|Ak<|Ah<|Ad<|Ai rfl<|Ag rfl (Aj 0 rfl rfl)<|AE rfl rfl<|Ae rfl<|Be rfl (by omega)<|Af rfl<|Ai rfl<|Af rfl<|Ag rfl (Aj 0 rfl rfl)<|Af rfl<|AE rfl rfl<|AF rfl rfl<|Aa<|Ax rfl (by omega)<|Ad<|Ai rfl<|Ag rfl (Aj 1 rfl rfl)<|Ab rfl<|Ai rfl<|Ag rfl (Aj 0 rfl rfl)<|Bx _ rfl rfl rfl (by omega) ?_)
      refine AZ 5 (patch l1 (i*1) [.int .i64 um.page]) rfl rfl rfl rfl (by omega) rfl rfl ?_
      (refine Aa<|Ad<|Al rfl<|Ab rfl<|Bf 1 rfl rfl rfl<|Ab rfl ?_)
      refine A8 [_,_,_] (h7 (k:=k) (n:={n with kids:=n.kids.set i um.page}) (i:=i) hp5 ⟨_,_,_,by show _=[Value.bool n.leaf,_,_,_];rfl,r1.D8 hl3,r2.D8 hl3,hrow.Ic hl3⟩
       ⟨by have:=hfit.k;show n.keys.length≤400;omega,by have:=hfit.v;show n.vals.length≤400;omega,by have:=hfit.i;show(n.kids.set i um.page).length≤400;rw [Adf];omega,hfit.kl,hfit.vl⟩ hkl1 (by show(n.kids.set i um.page).length=_;rw [Adf];exact hil) hile
       hkb2 hk0 hk1) rfl rfl (fun v d6 L6 hl6 ⟨_,ua',uc',L7,e6,hk6,hmm,e7,hp7⟩=>?_)
      subst e6;subst e7
      (refine AU rfl<|Ao rfl rfl<|Ao rfl rfl<|BX (fun _ _=>?_))
      rename_i b22 T22
      refine Bo 0 rfl rfl rfl rfl (Ach _) rfl ?_
      (refine Ab rfl<|Aa<|Ad<|Bf 0 rfl rfl rfl<|Ab rfl ?_)
      refine Bo 3 rfl rfl rfl rfl (Ach _) rfl ?_
      (refine Ae rfl<|Ab rfl<|Aa<|An ?_)
      exact Ba [mdV (Ds us k {n with kids:=n.kids.set i um.page} i).2.1 ua' uc',.bool true,.int .i64 (Ds us k {n with kids:=n.kids.set i um.page} i).2.2] ⟨AT 3 rfl rfl rfl,Av rfl,Av rfl,trivial⟩ (d':=d6) (L':=tb bt Tt (.pointer (some ⟨bp,0,none⟩)) r h c::L7) (Vs.drop (.cons _ (.cons _ (.cons _ (.cons _ (Acb _)))))) ⟨(hl.trans hl3).trans hl6,ua',uc',L7,rfl,hk6,hmm,rfl,hp7⟩
     ·rw [if_neg hc] at hnp⊢
      clear hnp
      have hmo:=P9 hp5.EY (n:=n) (i:=i) hk0 hk1 hfit.kl hm3
      (refine Ae rfl<|Ab rfl<|Aa ?_)
      apply Ah;apply Ah;apply AA
      (refine Ab rfl<|AQ rfl rfl<|Ae rfl<|Bc rfl (by omega)<|Af rfl<|Ae rfl<|Af rfl<|Bu rfl<|As rfl rfl<|Aa ?_)
      apply AS;rfl;apply Ak
      refine FU (fun ρ d' L'=>BD ρ [(0,.pointer (some ⟨bt,0,none⟩)),(1,.int .i64 k),(13,.int .i64 i),(11,.pointer (some ⟨b13,0,none⟩)),(18,.pointer (some ⟨b20,0,none⟩)),(8,.pointer (some ⟨b10,0,none⟩))]∧d3=d'∧
       L'=bx b20 T20 [.int .i64 um.page,.int .i64 um.other,.slice ua um.key.length uc,.int .i64 um.size]::bx b13 T13 [.bool n.leaf,.slice ka n.keys.length kc,.slice va n.vals.length vc,.slice (some ⟨b1,0,none⟩) n.kids.length ic]::bx b10 T10 [.int .i64 0,.int .i64 0,.slice none 0 0,.int .i64 0]::hk::hv::bx b1 T1 l1::tb bt Tt (.pointer (some ⟨bp,0,none⟩)) r h c::L5) ?_ ?_
      ·by_cases ho:um.other<0
       ·have hsz:¬um.size<80:=fun q=>hc ⟨ho,q⟩
        (refine Ad<|Ai rfl<|Ag rfl (Aj 0 rfl rfl)<|AE rfl rfl<|Ae rfl<|Be rfl (by omega)<|Af rfl<|Ai rfl<|Af rfl<|Ag rfl (Aj 0 rfl rfl)<|Af rfl<|AE rfl rfl<|AF rfl rfl<|Aa<|Ar rfl (by omega)<|Ak ?_)
        exact⟨⟨rfl,rfl,rfl,rfl,rfl,rfl,trivial⟩,rfl,rfl⟩
       ·(refine Ad<|Ai rfl<|Ag rfl (Aj 0 rfl rfl)<|AE rfl rfl<|Ae rfl<|Bc rfl (by omega)<|Ap rfl<|Ap rfl<|Ap rfl<|As rfl rfl<|Aa<|AS rfl<|Ak ?_)
        exact⟨⟨rfl,rfl,rfl,rfl,rfl,rfl,trivial⟩,rfl,rfl⟩
      ·rintro ρ d' L' ⟨hsl,hdd,hLL⟩
       subst hdd;subst hLL
       refine Di _ hsl ?_
       (refine Ad<|Al rfl<|Ab rfl<|Bf 1 rfl rfl rfl<|Ab rfl<|Bf 0 rfl rfl rfl ?_)
       refine A8 [_,_,_] (h8 (k:=k) (n:=n) (i:=i) (m:=um) hp5 (hnk0.mono hl3) ⟨by have:=hfit.k;omega,by have:=hfit.v;omega,by have:=hfit.i;omega,hfit.kl,hfit.vl⟩ hii (fun _=>hile) hm3 hk3) rfl rfl (fun v d6 L6 hl6 ⟨_,ua',uc',L7,e6,hk6,e7,hp7⟩=>?_)
       subst e6;subst e7
       (refine AU rfl<|Ao rfl rfl<|Ao rfl rfl<|BX (fun _ _=>?_))
       rename_i b22 T22
       refine Bo 0 rfl rfl rfl rfl (Ach _) rfl ?_
       (refine Ab rfl<|Aa<|Ad<|Bf 0 rfl rfl rfl<|Ab rfl ?_)
       refine Bo 3 rfl rfl rfl rfl (Ach _) rfl ?_
       (refine Ae rfl<|Ab rfl<|Aa<|An ?_)
       exact Ba [mdV (Co us k n i um).2.1 ua' uc',.bool true,.int .i64 (Co us k n i um).2.2] ⟨AT 3 rfl rfl rfl,Av rfl,Av rfl,trivial⟩ (d':=d6) (L':=tb bt Tt (.pointer (some ⟨bp,0,none⟩)) r h c::L7) (Vs.drop (.cons _ (.cons _ (.cons _ (.cons _ (Acb _)))))) ⟨(hl.trans hl3).trans hl6,ua',uc',L7,rfl,hk6,hmo,rfl,hp7⟩
    |false=>
     rw [if_pos (.inr rfl)]
     clear hnp
     (refine Ae rfl<|Ab rfl<|Aa<|Ah<|Ad<|Ab rfl<|AQ rfl rfl<|Ae rfl<|Bc rfl (by omega)<|Af rfl<|Ae rfl<|Af rfl<|Bu rfl<|As rfl rfl<|Aa<|Bh rfl<|Ad<|Ab rfl<|BJ rfl<|Ae rfl<|Ab rfl ?_)
     refine Bo 2 rfl rfl rfl rfl (Ach _) rfl ?_
     (refine Ae rfl<|Ab rfl<|Aa<|An ?_)
     exact Ba [mdV ⟨k, -1,[],256⟩ none 0,.bool false,.int .i64 0] ⟨AT 2 rfl rfl rfl,Av rfl,Av rfl,trivial⟩ (d':=d3) (L':=tb bt Tt (.pointer (some ⟨bp,0,none⟩)) r h c::L5) (Vs.drop (.cons _ (.cons _ (.cons _ (.cons _ (.cons _ (.cons _ (Acb _)))))))) ⟨hl.trans hl3,none,0,L5,rfl,RSl.nil,⟨hk0,hk1,(by decide:(-1:Int)≤ -1),(by decide:(-1:Int)≤16384),Adg _⟩,rfl,hp5⟩
   ·rw [if_pos (.inl hz)]
    clear hnp
    (refine Ae rfl<|Ab rfl<|Aa<|Ah<|Ad<|Ab rfl<|AQ rfl rfl<|Ae rfl<|Be rfl (by omega)<|Ap rfl<|Ap rfl<|AF rfl rfl<|Aa<|Bh rfl<|Ad<|Ab rfl<|BJ rfl<|Ae rfl<|Ab rfl ?_)
    refine Bo 2 rfl rfl rfl rfl (Ach _) rfl ?_
    (refine Ae rfl<|Ab rfl<|Aa<|An ?_)
    exact Ba [mdV ⟨k, -1,[],256⟩ none 0,.bool uw,.int .i64 ue] ⟨AT 2 rfl rfl rfl,Av rfl,Av rfl,trivial⟩ (d':=d3) (L':=tb bt Tt (.pointer (some ⟨bp,0,none⟩)) r h c::L5) (Vs.drop (.cons _ (.cons _ (.cons _ (.cons _ (.cons _ (.cons _ (Acb _)))))))) ⟨hl.trans hl3,none,0,L5,rfl,RSl.nil,⟨hk0,hk1,(by decide:(-1:Int)≤ -1),(by decide:(-1:Int)≤16384),Adg _⟩,rfl,hp5⟩
 ·rw [XQ he]
  clear hnp
  (refine Ab rfl<|Aa<|Ah<|Ad<|Ab rfl<|AQ rfl rfl<|Aa<|Ax rfl (by omega)<|Ad<|BJ rfl<|Ab rfl ?_)
  refine Bo 1 rfl rfl rfl rfl (Ach _) rfl ?_
  (refine Ae rfl<|Ab rfl<|Aa<|An ?_)
  exact Ba [mdV Cj none 0,.bool false,.int .i64 (A0 s k ((x+1:Nat):Int)).2] ⟨AT 1 rfl rfl rfl,Av rfl,Av rfl,trivial⟩ (d':=d2) (L':=tb bt Tt (.pointer (some ⟨bp,0,none⟩)) r h c::L3) (Vs.drop (.cons _ (.cons _ (.cons _ (.cons _ (.cons _ (Acb _))))))) ⟨hl,none,0,L3,rfl,RSl.nil,D5,rfl,hp2⟩
structure UK (t:TD) (key:List UInt8):Prop where
 far:KZ t
 np:t.height≠0→(BV t.s t.root key t.height).2.2.2≠99999
 c:t.height≠0→1≤t.count
 hh:(CI {t with s:=(BV t.s t.root key t.height).1,count:=t.count - 1} (BV t.s t.root key t.height).2.1).1.height≠0∨t.height=0
def OI(P:Program) (f:FuncId):Prop:=∀{d:Ac}{t:TD}{dv pv:Value}{L:List Ac}{bt b2 b3 b7:Nat}{Tt T2 T3 T7:TypeId}{ka:Option Addr}{kc:Nat}{key:List UInt8},PgT d t.s dv pv L→AK d (.slice ka key.length kc) key→UK t key→
 Aw P f [.pointer (some ⟨b2,0,none⟩),.pointer (some ⟨b3,0,none⟩),.pointer (some ⟨b7,0,none⟩)] d (tbD bt Tt pv t::([bx b2 T2 [.pointer (some ⟨bt,0,none⟩)],bx b3 T3 [.slice ka key.length kc],bx b7 T7 [.bool false]]++L))
  (Ret fun v d' L'=>Le d d'∧v=.int .i64 (BP t key).2.2∧∃L2,L'=tbD bt Tt pv (BP t key).1::([bx b2 T2 [.pointer (some ⟨bt,0,none⟩)],bx b3 T3 [.slice ka key.length kc],bx b7 T7 [.bool (BP t key).2.1]]++L2)∧PgT d' (BP t key).1.s dv pv L2)
def Mm(a0 a1 a2:Nat):AY:=⟨50,[(.tmp 3)],(sR (o1 3 (.mv (kZ 0)) .done) (.seq (sR (ol 8 0<|o1 9 (.nilc (tP 8))<|oj 10 2 9<|ol 11 10<|ob 12 .eql (tP 11) (kZ 0) .done) (.cond (tP 12) (sR (o1 3 (.mv (kZ 0)) .done) .ret) .skip)) (.seq (.reg true (pl 14 0<|pl 15 0<|p1 16 (.nilc (tP 15))<|p1 17 (.fld 1 (tP 16))<|pl 18 17<|pl 19 0<|p1 20 (.nilc (tP 19))<|p1 21 (.fld 2 (tP 20))<|pl 22 21<|pl 23 1 (.par (o1 4 (.alo (.agg #[(.int .i64 0),(.int .i64 0),(.slice none 0 0),(.int .i64 0)])) .done) (oc 24 a0 [(tP 14),(tP 18),(tP 22),(tP 23)] (pm 13 24 (p1 25 (.ext (tP 13) 0) (p1 26 (.ext (tP 13) 1) (p1 27 (.ext (tP 13) 2) .done))))) (o0 (.st 4 (tP 4) (tP 25)) (pm 5 26 (pm 6 27 .done)))))) (.seq (sR (om 28 6<|ob 29 .neq (tP 28) (kZ 0)<|om 30 29<|gF 31 30 5<|oF 32 30 (.un .not (tP 31))<|o1 33 (.pick (tP 30) (.const (.bool true)) (tP 32)) .done) (.cond (tP 33) (sR (om 34 6<|om 3 34 .done) .ret) .skip)) (sR (o0 (.st 1 (tP 2) (.const (.bool true))) .done) (sR (ol 35 0<|o1 36 (.nilc (tP 35))<|oj 37 3 36<|ol 38 37<|ob 39 .sub (tP 38) (kZ 1)<|o1 40 (.nilc (tP 35))<|oj 41 3 40<|o0 (.st 1 (tP 41) (tP 39)) .done) (.seq (sR (ol 42 0<|o1 43 (.ld (some 4) (tP 4))<|oc 44 a1 [(tP 42),(tP 43)]<|om 7 44 .done) (sR (om 45 7<|ob 46 .neq (tP 45) (kZ 0) .done) (.cond (tP 46) (sR (om 47 7<|om 3 47 .done) .ret) .skip))) (sR (ol 48 0<|oc 49 a2 [(tP 48)]<|om 3 49 .done) .ret))))))))⟩
set_option maxRecDepth 4000 in
set_option maxHeartbeats 4000000 in
theorem Yl{P:Program}{f f1 f2 f3:FuncId} (hd:Jj P f=some (Mm f1 f2 f3)) (h1:R1 P f1) (h2:I6 P f2) (h3:Kt P f3):OI P f:=by
 intro d t dv pv L bt b2 b3 b7 Tt T2 T3 T7 ka kc key hp hk hcan
 obtain⟨bp,rfl⟩:=hp.ptr
 obtain⟨s,root,height,count⟩:=t
 obtain⟨hr0,hr1,hh,hc⟩:=hcan.far
 simp only at hp hr0 hr1 hh hc
 refine AG hd (Aca rfl) ?_
 show gwp P _ _ _ _ _
 apply Ah;apply AA
 refine Cd d ([bx b2 T2 [.pointer (some ⟨bt,0,none⟩)],bx b3 T3 [.slice ka key.length kc],bx b7 T7 [.bool false]]++tb bt Tt (.pointer (some ⟨bp,0,none⟩)) root height count::L) (Vs.perm List.perm_middle.symm) ?_
 by_cases hh0:height=0
 ·subst hh0
  have hF:BP ⟨s,root,0,count⟩ key=(⟨s,root,0,count⟩,false,0):=by unfold BP;rw [if_pos rfl]
  rw [hF]
  (refine Ab rfl<|Aa<|Ah<|Ad<|Ag rfl (Aj 0 rfl rfl)<|Au rfl<|Ai rfl<|Ag rfl (Aj 3 rfl rfl)<|AJ rfl rfl<|Aa<|Ax rfl (by omega)<|Ad<|Ab rfl<|Aa<|An ?_)
  exact Ba [.int .i64 0] ⟨Av rfl,trivial⟩ (d':=d) (L':=tbD bt Tt (.pointer (some ⟨bp,0,none⟩)) ⟨s,root,0,count⟩::([bx b2 T2 [.pointer (some ⟨bt,0,none⟩)],bx b3 T3 [.slice ka key.length kc],bx b7 T7 [.bool false]]++L)) (Vs.perm (Adj (a:=tbD bt Tt (.pointer (some ⟨bp,0,none⟩)) ⟨s,root,0,count⟩) (l₁:=[bx b2 T2 [.pointer (some ⟨bt,0,none⟩)],bx b3 T3 [.slice ka key.length kc],bx b7 T7 [.bool false]]) (l₂:=L))) ⟨Le.refl _,rfl,L,rfl,hp⟩
 ·have hF:BP ⟨s,root,height,count⟩ key=if (BV s root key height).2.2.2≠0∨(BV s root key height).2.2.1=false then(⟨(BV s root key height).1,root,height,count⟩,false,(BV s root key height).2.2.2) else
    if (CI ⟨(BV s root key height).1,root,height,count - 1⟩ (BV s root key height).2.1).2≠0 then((CI ⟨(BV s root key height).1,root,height,count - 1⟩ (BV s root key height).2.1).1,true,(CI ⟨(BV s root key height).1,root,height,count - 1⟩ (BV s root key height).2.1).2) else
    ((Dy (CI ⟨(BV s root key height).1,root,height,count - 1⟩ (BV s root key height).2.1).1).1,true,(Dy (CI ⟨(BV s root key height).1,root,height,count - 1⟩ (BV s root key height).2.1).1).2):=by
   unfold BP;rw [if_neg hh0]
  rw [hF]
  clear hF
  obtain⟨x,rfl⟩:∃x,height=x+1:=⟨height - 1,by omega⟩
  (refine Ab rfl<|Aa<|Ah<|Ad<|Ag rfl (Aj 0 rfl rfl)<|Au rfl<|Ai rfl<|Ag rfl (Aj 3 rfl rfl)<|AJ rfl rfl<|Aa<|Ar rfl (by omega)<|Ak<|Ah ?_)
  have hc1:=hcan.c hh0
  have hnp:=hcan.np hh0
  have hgr:=hcan.hh.resolve_right hh0
  simp only at hc1 hnp hgr
  clear hcan
  refine Bv [_,_,_,_] L rfl ?_
  (refine Ag rfl (Aj 0 rfl rfl)<|Ag rfl (Aj 0 rfl rfl)<|Au rfl<|Ai rfl<|Ag rfl (Aj 3 rfl rfl)<|Ag rfl (Aj 0 rfl rfl)<|Au rfl<|Ai rfl<|Ag rfl (Aj 3 rfl rfl)<|Ag rfl (Aj 1 rfl rfl) ?_)
  have hins:=h1 x (r:=root) (h:=((x+1:Nat):Int)) (c:=count) (bt:=bt) (Tt:=Tt) (k:=root) (by omega) hp hk hr0 hr1 hnp
  generalize BV s root key (x+1)=U at hins hgr⊢
  clear hnp
  refine Gs (α:=Nat×TypeId) (β:=Option Addr×Nat×List Ac) [(0,.pointer (some ⟨b2,0,none⟩)),(1,.pointer (some ⟨b3,0,none⟩)),(2,.pointer (some ⟨b7,0,none⟩)),(3,.int .i64 0)]
   (fun x=>[(4,.pointer (some ⟨x.1,0,none⟩))]) (fun x d L=>L=[bx x.1 x.2 [.int .i64 0,.int .i64 0,.slice none 0 0,.int .i64 0]])
   (fun y=>[(25,mdV U.2.1 y.1 y.2.1),(26,.bool U.2.2.1),(27,.int .i64 U.2.2.2)]) (fun y d' M=>AK d' (.slice y.1 U.2.1.key.length y.2.1) U.2.1.key∧MOk U.2.1∧PgT d' U.1 dv (.pointer (some ⟨bp,0,none⟩)) y.2.2∧M=y.2.2) [] L rfl
   (fun x d d' M hl h=>h) (fun y d d' M hl h=>⟨RSl.mono (R:=AM) AW h.1 hl,h.2.1,h.2.2.1.mono hl,h.2.2.2⟩) (fun x=>rfl) (fun y=>rfl) rfl ⟨rfl,rfl,rfl,rfl,trivial⟩ ?_ ?_ ?_
  ·refine BX (fun b8 T8=>?_)
   (apply A5)
   exact⟨_,rfl,(b8,T8),⟨rfl,trivial⟩,rfl⟩
  ·refine TM (B:=[_,_,_]) hins (Ack (l₁:=[_,_,_])) rfl (fun v d4 L4 hl4 ⟨_,wa,wc,L5,e4,hk4,hm4,e5,hp5⟩=>⟨L5,by rw [e5];exact Ack (l₂:=[_,_,_]),?_⟩)
   subst e4
   (refine AU rfl<|Ao rfl rfl<|Ao rfl rfl<|Ao rfl rfl<|A5 ?_)
   exact⟨_,rfl,(wa,wc,L5),⟨rfl,rfl,rfl,trivial⟩,hk4,hm4,hp5,rfl⟩
  rintro⟨b8,T8⟩ ⟨wa,wc,L5⟩ ρ2 d4 M1 M2 hl4 hM1 ⟨hk4,hm4,hp5,hM2⟩
  subst hM1;subst hM2
  simp only at hk4 hp5⊢
  refine Bo 0 rfl rfl rfl rfl (Ach _) rfl ?_
  clear hins
  obtain⟨us,um,uw,ue⟩:=U
  simp only at hk4 hm4 hp5 hgr⊢
  (refine Ae rfl<|Ab rfl<|A5<|Ah<|Ad<|Ab rfl<|AQ rfl rfl<|Ae rfl ?_)
  by_cases hue:ue=0
  ·subst hue
   cases uw with
   |true=>
    rw [if_neg (by simp)]
    (refine Bc rfl (by omega)<|Af rfl<|Ae rfl<|Af rfl<|Bu rfl<|As rfl rfl<|Aa<|AS rfl<|Ak<|Ad ?_)
    refine AZ 2 [.bool true] rfl rfl rfl rfl (Ach _) rfl rfl ?_
    (refine Aa<|Ad<|Ag rfl (Aj 0 rfl rfl)<|Au rfl<|Ai rfl<|Ag rfl (Aj 3 rfl rfl)<|CX rfl rfl (by omega) (by omega)<|Au rfl<|Ai rfl ?_)
    have hcc:(count:Int) - 1=((count - 1:Nat):Int):=by omega
    refine AZ 3 [.pointer (some ⟨bp,0,none⟩),.int .i64 root,.int .i64 ((x+1:Nat):Int),.int .i64 ((count:Int) - 1)] rfl rfl rfl rfl (Aca rfl) rfl rfl ?_
    rw [hcc]
    (refine Aa<|Ah<|Ad<|Ag rfl (Aj 0 rfl rfl)<|Bf 4 rfl rfl rfl ?_)
    refine C4 (A:=tbD bt Tt (.pointer (some ⟨bp,0,none⟩)) ⟨us,root,x+1,count - 1⟩::M2) (B:=[_,_,_,_]) (h2 (t:=⟨us,root,x+1,count - 1⟩) (m:=um) hp5 hk4 hm4 (by show x+1≤1000000;omega))
     ((Adj (l₁:=[_,_,_])).trans (Aco _ (Ack (l₁:=[_,_,_,_])))) rfl (fun v d6 L6 hl6 ⟨_,e6,L7,e7,hp7⟩=>?_)
    subst e6;subst e7
    have hg1:(CI ⟨us,root,x+1,count - 1⟩ um).1.height≤1000001:=by unfold CI;split<;>simp only<;>omega
    generalize CI ⟨us,root,x+1,count - 1⟩ um=Q at hgr hp7 hg1
    obtain⟨tq,eq⟩:=Q
    simp only at hgr hp7 hg1⊢
    refine⟨d6,[_,_,_,_]++tbD bt Tt (.pointer (some ⟨bp,0,none⟩)) tq::L7,Vs.perm (Ack (l₂:=[_,_,_,_])),?_⟩
    (refine Ab rfl<|Aa<|Ad<|Ab rfl<|AQ rfl rfl<|Aa ?_)
    by_cases hqe:eq=0
    ·rw [if_neg (fun q=>q hqe)]
     (refine Ar rfl (by omega)<|Ak<|Ad<|Ag rfl (Aj 0 rfl rfl) ?_)
     refine A8 [_,_,_,_] (h3 (t:=tq) hp7 (by omega) hg1) rfl rfl (fun v d8 L8 hl8 ⟨_,e8,L9,e9,hp9⟩=>?_)
     subst e8;subst e9
     (refine Ab rfl<|Aa<|An ?_)
     exact Ba [.int .i64 _] ⟨Av rfl,trivial⟩ (d':=d8) (L':=tbD bt Tt (.pointer (some ⟨bp,0,none⟩)) (Dy tq).1::([bx b2 T2 [.pointer (some ⟨bt,0,none⟩)],bx b3 T3 [.slice ka key.length kc],bx b7 T7 [.bool true]]++L9)) ((Vs.drop (L':=[bx b2 T2 [.pointer (some ⟨bt,0,none⟩)],bx b3 T3 [.slice ka key.length kc],bx b7 T7 [.bool true]]++(tbD bt Tt (.pointer (some ⟨bp,0,none⟩)) (Dy tq).1::L9)) (.cons_cons _ (.cons_cons _ (.cons_cons _ (.cons _ (Acb _)))))).trans (Vs.perm Adj)) ⟨(hl4.trans hl6).trans hl8,rfl,L9,rfl,hp9⟩
    ·rw [if_pos hqe]
     (refine Ax rfl (by omega)<|Ad<|Ab rfl<|Ab rfl<|Aa<|An ?_)
     exact Ba [.int .i64 eq] ⟨Av rfl,trivial⟩ (d':=d6) (L':=tbD bt Tt (.pointer (some ⟨bp,0,none⟩)) tq::([bx b2 T2 [.pointer (some ⟨bt,0,none⟩)],bx b3 T3 [.slice ka key.length kc],bx b7 T7 [.bool true]]++L7)) ((Vs.drop (L':=[bx b2 T2 [.pointer (some ⟨bt,0,none⟩)],bx b3 T3 [.slice ka key.length kc],bx b7 T7 [.bool true]]++(tbD bt Tt (.pointer (some ⟨bp,0,none⟩)) tq::L7)) (.cons_cons _ (.cons_cons _ (.cons_cons _ (.cons _ (Acb _)))))).trans (Vs.perm Adj)) ⟨hl4.trans hl6,rfl,L7,rfl,hp7⟩
   |false=>
    rw [if_pos (.inr rfl)]
    (refine Bc rfl (by omega)<|Af rfl<|Ae rfl<|Af rfl<|Bu rfl<|As rfl rfl<|Aa<|Bh rfl<|Ad<|Ab rfl<|Ab rfl<|Aa<|An ?_)
    exact Ba [.int .i64 0] ⟨Av rfl,trivial⟩ (d':=d4) (L':=tbD bt Tt (.pointer (some ⟨bp,0,none⟩)) ⟨us,root,x+1,count⟩::([bx b2 T2 [.pointer (some ⟨bt,0,none⟩)],bx b3 T3 [.slice ka key.length kc],bx b7 T7 [.bool false]]++M2)) ((Vs.drop (L':=[bx b2 T2 [.pointer (some ⟨bt,0,none⟩)],bx b3 T3 [.slice ka key.length kc],bx b7 T7 [.bool false]]++(tbD bt Tt (.pointer (some ⟨bp,0,none⟩)) ⟨us,root,x+1,count⟩::M2)) (.cons_cons _ (.cons_cons _ (.cons_cons _ (.cons_cons _ (.cons _ (Acb _))))))).trans (Vs.perm Adj)) ⟨hl4,rfl,M2,rfl,hp5⟩
  ·rw [if_pos (.inl hue)]
   (refine Be rfl (by omega)<|Ap rfl<|Ap rfl<|AF rfl rfl<|Aa<|Bh rfl<|Ad<|Ab rfl<|Ab rfl<|Aa<|An ?_)
   exact Ba [.int .i64 ue] ⟨Av rfl,trivial⟩ (d':=d4) (L':=tbD bt Tt (.pointer (some ⟨bp,0,none⟩)) ⟨us,root,x+1,count⟩::([bx b2 T2 [.pointer (some ⟨bt,0,none⟩)],bx b3 T3 [.slice ka key.length kc],bx b7 T7 [.bool false]]++M2)) ((Vs.drop (L':=[bx b2 T2 [.pointer (some ⟨bt,0,none⟩)],bx b3 T3 [.slice ka key.length kc],bx b7 T7 [.bool false]]++(tbD bt Tt (.pointer (some ⟨bp,0,none⟩)) ⟨us,root,x+1,count⟩::M2)) (.cons_cons _ (.cons_cons _ (.cons_cons _ (.cons_cons _ (.cons _ (Acb _))))))).trans (Vs.perm Adj)) ⟨hl4,rfl,M2,rfl,hp5⟩
def Dj(t:TD) (key:List UInt8):TD×Bool×Int:=
 if BM key≠0 then(t,false,BM key) else(BT t (BP t key).1 (BP t key).2.2,(BP t key).2.1 && decide ((BP t key).2.2=0),(BP t key).2.2)
def NN(P:Program) (f:FuncId):Prop:=∀{d:Ac}{t:TD}{dv pv kv:Value}{L:List Ac}{bt:Nat}{Tt:TypeId}{key:List UInt8},PgT d t.s dv pv L→AK d kv key→(BM key=0→UK t key)→
 Aw P f [.pointer (some ⟨bt,0,none⟩),kv] d (tbD bt Tt pv t::L) (Ret fun v d' L'=>Le d d'∧v=.tuple #[.bool (Dj t key).2.1,.int .i64 (Dj t key).2.2]∧∃L2,L'=tbD bt Tt pv (Dj t key).1::L2∧PgT d' (Dj t key).1.s dv pv L2)
def Ox(a0 a1 a2:Nat):AY:=⟨24,[(.tmp 4),(.tmp 5)],(sR (o1 2 (.box (tP 0))<|o1 3 (.box (tP 1))<|o1 4 (.mv (.const (.bool false)))<|o1 5 (.mv (kZ 0)) .done) (.seq (sR (ol 9 2<|ol 10 3<|oc 11 a0 [(tP 9),(tP 10)]<|om 6 11 .done) (sR (om 12 6<|ob 13 .neq (tP 12) (kZ 0) .done) (.cond (tP 13) (sR (om 14 6<|o1 4 (.mv (.const (.bool false)))<|om 5 14 .done) .ret) .skip))) (sR (o1 7 (.alo (.bool false))<|o0 (.st 1 (tP 7) (.const (.bool false))) .done) (sR (ol 15 2<|o1 16 (.mkf (.func a1) [] [(tP 2),(tP 3),(tP 7)])<|oc 17 a2 [(tP 15),(tP 16)]<|om 8 17 .done) (sR (ol 18 7<|om 19 18<|gT 20 19 8<|oT 21 19 (.bin .eql (tP 20) (kZ 0))<|gP 22 19 21<|om 23 8<|om 4 22<|om 5 23 .done) .ret)))))⟩
set_option maxRecDepth 4000 in
set_option maxHeartbeats 2000000 in
theorem Ze{P:Program}{f f1 f2 f3:FuncId} (hd:dec P f=some (Ox f1 f2 f3)) (h1:Lo P f1) (h2:OI P f2) (h3:Ip P f3):NN P f:=by
 intro d t dv pv kv L bt Tt key hp hk hf
 obtain⟨bp,rfl⟩:=hp.ptr
 obtain⟨ka,kc,rfl⟩:=hk.val
 refine AG hd (Aca rfl) ?_
 show gwp P _ _ _ _ _
 apply Ah;apply AA
 refine Fc rfl (fun b2 T2=>?_)
 refine Fc rfl (fun b3 T3=>?_)
 (refine Ae rfl<|Ab rfl<|Aa<|Ah<|Ad<|Ag rfl (Aj 1 rfl rfl)<|Ag rfl (Aj 0 rfl rfl) ?_)
 refine A8 [_,_] (h1 (L:=L) hk) rfl rfl (fun v d2 L2 _ ⟨e1,e2,e3⟩=>?_)
 subst e1;subst e2;subst e3
 by_cases hw:BM key=0
 ·have hF:Dj t key=(BT t (BP t key).1 (BP t key).2.2,(BP t key).2.1 && decide ((BP t key).2.2=0),(BP t key).2.2):=by unfold Dj;rw [if_neg (fun q=>q hw)]
  have hcan:=hf hw
  rw [hF,hw]
  (refine Ab rfl<|Aa<|Ad<|Ab rfl<|AQ rfl rfl<|Aa<|Ar rfl (by omega)<|Ak<|Ad<|DI (fun _ _=>?_))
  rename_i b7 T7
  refine AZ 0 [.bool false] rfl rfl rfl rfl (Ach _) rfl rfl ?_
  (refine Aa<|Ad<|Ag rfl (Aj 2 rfl rfl)<|N4 ?_)
  refine C4 (A:=tbD bt Tt (.pointer (some ⟨bp,0,none⟩)) t::([bx b2 T2 [.pointer (some ⟨bt,0,none⟩)],bx b3 T3 [.slice ka key.length kc],bx b7 T7 [.bool false]]++L)) (B:=[])
   (h3 (t':=(BP t key).1) (e:=(BP t key).2.2) (X':=[bx b2 T2 [.pointer (some ⟨bt,0,none⟩)],bx b3 T3 [.slice ka key.length kc],bx b7 T7 [.bool (BP t key).2.1]]) hp (VI t key) (fun d1 hl1=>h2 (hp.mono hl1) (RSl.mono (R:=AM) AW hk hl1) hcan)) ?_ rfl (fun v d4 L4 hl4 ⟨_,e4,L5,e5,hp5⟩=>?_)
  ·rw [Ads]
   refine(Adj (l₁:=[_,_,_])).trans (Aco _ (Afb L ?_))
   exact(Ack (l₁:=[_,_]) (l₂:=[_])).trans (Aco _ (Adc _ _ _))
  ·subst e4;subst e5
   refine⟨d4,_,Vs.refl _ _,?_⟩
   rw [Ads]
   generalize (BP t key).2.1=b
   cases b with
   |true=>
    (refine Ab rfl<|Aa<|Ad<|Ag rfl (Aj 3 rfl rfl)<|Ae rfl<|Af rfl<|Ab rfl<|Af rfl<|AJ rfl rfl<|AF rfl rfl<|Ab rfl<|Ae rfl<|Ab rfl<|Aa<|An ?_)
    exact Ba [.bool (decide ((BP t key).2.2=0)),.int .i64 (BP t key).2.2] ⟨Av rfl,Av rfl,trivial⟩ (d':=d4) (L':=tbD bt Tt (.pointer (some ⟨bp,0,none⟩)) (BT t (BP t key).1 (BP t key).2.2)::L5) (Vs.drop (.cons_cons _ (.cons _ (.cons _ (.cons _ (Acb _)))))) ⟨hl4,by rw [Afl];rfl,L5,rfl,hp5⟩
   |false=>
    (refine Ab rfl<|Aa<|Ad<|Ag rfl (Aj 3 rfl rfl)<|Ae rfl<|Ap rfl<|Ap rfl<|As rfl rfl<|Ab rfl<|Ae rfl<|Ab rfl<|Aa<|An ?_)
    exact Ba [.bool false,.int .i64 (BP t key).2.2] ⟨Av rfl,Av rfl,trivial⟩ (d':=d4) (L':=tbD bt Tt (.pointer (some ⟨bp,0,none⟩)) (BT t (BP t key).1 (BP t key).2.2)::L5) (Vs.drop (.cons_cons _ (.cons _ (.cons _ (.cons _ (Acb _)))))) ⟨hl4,rfl,L5,rfl,hp5⟩
 ·have hF:Dj t key=(t,false,BM key):=by unfold Dj;rw [if_pos hw]
  rw [hF]
  (refine Ab rfl<|Aa<|Ad<|Ab rfl<|AQ rfl rfl<|Aa<|Ax rfl (by omega)<|Ad<|Ab rfl<|Ae rfl<|Ab rfl<|Aa<|An ?_)
  exact CF (L':=tbD bt Tt (.pointer (some ⟨bp,0,none⟩)) t::L) rfl rfl (.cons _ (.cons _ (Acb _))) ⟨Le.refl _,rfl,L,rfl,hp⟩
end Go.Gk.Tre
end
section
namespace Go.Gk.Tre
open Go Go.Gk Go.Gk.Dev Go.Gk.Cch Go.Gk.Pgr Go.Gk.Chn Go.Gk.Node
def Ps(s:PD) (P:List Int):Prop:=∀k,Bk s k↔k∈P
theorem Ps.mv{s t:PD}{A B:List Int}{c:Nat} (h:Ps s A) (k:Mv s t A B c):Ps t B:=fun p=>by
 rw [k.lv,h p]
 exact⟨fun q=>q.elim (fun q=>absurd q.1 q.2) id,.inr⟩
structure Gr (N i:Nat) (t:TD) (l:List KV) (P:List Int):Prop where
 ok:Tok t l P
 on:Ps t.s P
 ln:l.length≤i
 kv:∀x∈l,x.1.length≤64∧x.2.length≤700
 kn:t.s.kinds.length=N
theorem Gr.more{N i j:Nat}{t:TD}{l:List KV}{P:List Int} (h:Gr N i t l P) (hj:i≤j):Gr N j t l P:=⟨h.ok,h.on,by have:=h.ln;omega,h.kv,h.kn⟩
theorem Tok.far{t:TD}{l:List KV}{P:List Int} (h:Tok t l P) (hl:l.length≤1000):KZ t∧t.height≤2000:=by
 have hc:=h.ct
 have hh:t.height≤2000:=by
  rcases h.high with ⟨_,e,_⟩|⟨_,_,e⟩
  ·omega
  ·have:t.height<2 ^ t.height:=Nat.lt_two_pow_self
   omega
 refine⟨⟨?_,?_,by omega,by omega⟩,hh⟩
 ·rcases h.tr with ⟨_,e,_⟩|⟨x,_,⟨n,Q,hat,_⟩⟩
  ·omega
  ·have:=EA h.gd hat.liv;omega
 ·rcases h.tr with ⟨_,e,_⟩|⟨x,_,⟨n,Q,hat,_⟩⟩
  ·omega
  ·have:=EA h.gd hat.liv;omega
theorem S1(t:TD) (m:MdD):t.height≤(CI t m).1.height:=by
 unfold CI
 split
 ·exact Ach _
 ·exact Nat.le_succ _
theorem Tok.can{t:TD}{l:List KV}{P:List Int} (h:Tok t l P) (hl:l.length≤1000) (key:List UInt8):UK t key:=by
 refine⟨(h.far hl).1,fun hh=>?_,fun hh=>?_,?_⟩
 ·rcases h.tr with ⟨e,_⟩|⟨x,e,ht⟩
  ·exact absurd e hh
  ·rw [e]
   rcases QM (key:=key) x h.gd ht h.nd with ⟨q,_⟩|⟨q,_⟩
   ·rw [q];decide
   ·rw [q];decide
 ·rcases h.tr with ⟨e,_⟩|⟨x,e,ht⟩
  ·exact absurd e hh
  ·rw [h.ct];exact Ha.1 ht.ne
 ·by_cases hh:t.height=0
  ·exact .inr hh
  ·refine .inl (fun q=>?_)
   have:=S1 {t with s:=(BV t.s t.root key t.height).1,count:=t.count - 1} (BV t.s t.root key t.height).2.1
   rw [q] at this
   exact hh (Nat.le_zero.1 this)
theorem Vh{s t:PD} (h:Pgr.AI s t) (hG:Pgr.Good s):Pgr.Good (t.back s.mark):=
 ⟨hG.one,hG.len,by show t.frm+s.kinds.length≤t.syn.length;rw [h.frm,h.syn];exact hG.inn,by show t.syn.length≤8192;rw [h.syn];exact hG.syn,hG.kd⟩
theorem WL{s t:PD} (h:Pgr.AI s t) (P:List Int):Fp s (t.back s.mark) P:=fun p _=>⟨K2 h p,Uk h p⟩
theorem Tok.same{t:TD}{l:List KV}{P:List Int} (h:Tok t l P) {s:PD} (hG:Pgr.Good s) (hs:Fp t.s s P):Tok {t with s:=s} l P:=
 ⟨hG,h.nd,h.ct,by
  rcases h.tr with e|⟨x,e,ht⟩
  ·exact .inl e
  ·exact .inr ⟨x,e,ht.stay hs⟩⟩
theorem Gr.back{N i:Nat}{t:TD}{l:List KV}{P:List Int} (h:Gr N i t l P) {r:PD} (hk:Pgr.AI t.s r):Gr N i {t with s:=r.back t.s.mark} l P∧(r.back t.s.mark).free=t.s.free:=
 ⟨⟨h.ok.same (Vh hk h.ok.gd) (WL hk P),fun k=>by
  have:=h.on k
  unfold Bk at this⊢
  show(r.back t.s.mark).kind k=1∨(r.back t.s.mark).kind k=2↔_
  rw [K2 hk];exact this,h.ln,h.kv,h.kn⟩,rfl⟩
theorem MA{key:List UInt8} (h:BM key=0):1≤key.length∧key.length≤64:=by unfold BM at h;split at h<;>omega
theorem Gr.put{N i:Nat}{t:TD}{l:List KV}{P:List Int} (h:Gr N i t l P) {key v:List UInt8} (hw:BM key=0) (hv:v.length≤700):
  ((BY t key v).2=0∧∃P',Gr N (i+1) (BY t key v).1 (DX l key v) P')∨
  ((BY t key v).2=190∧t.s.free<4*t.height+3+AP v.length∧(BY t key v).1.s.free=t.s.free∧Gr N (i+1) (BY t key v).1 l P):=by
 have hk:=MA hw
 have e:BY t key v=(BT t (B4 t key v).1 (B4 t key v).2,(B4 t key v).2):=by unfold BY;rw [if_neg (fun q=>q hw),if_neg (by omega)]
 have hkp:=Rm t key v
 rw [e]
 rcases Rr h.ok hk (v:=v) (by omega) with ⟨h1,P',h2,h3⟩|⟨h1,h2⟩
 ·refine .inl ⟨h1,P',?_⟩
  show Gr N (i+1) (BT t (B4 t key v).1 (B4 t key v).2) _ _
  unfold BT
  rw [if_pos h1]
  refine⟨h2,h.on.mv h3,?_,fun x hx=>?_,by rw [hkp.len];exact h.kn⟩
  ·have:=Nk (l:=l) (key:=key) (v:=v)
   have:=h.ln
   split at* <;>omega
  ·rcases No hx with rfl|hx
   ·exact⟨hk.2,hv⟩
   ·exact h.kv x hx
 ·obtain⟨g1,g2⟩:=h.back hkp
  refine .inr ⟨h1,by omega,?_,?_⟩
  ·show(BT t (B4 t key v).1 (B4 t key v).2).s.free=_
   unfold BT
   rw [if_neg (by rw [h1];decide)]
   exact g2
  ·show Gr N (i+1) (BT t (B4 t key v).1 (B4 t key v).2) _ _
   unfold BT
   rw [if_neg (by rw [h1];decide)]
   exact g1.more (Nat.le_succ _)
theorem Gr.del{N i:Nat}{t:TD}{l:List KV}{P:List Int} (h:Gr N i t l P) {key:List UInt8} (hw:BM key=0):
  ((Dj t key).2.2=0∧(Dj t key).2.1=isK l key∧∃P',Gr N i (Dj t key).1 (Cb l key).1 P')∨
  ((Dj t key).2.2=190∧(Dj t key).2.1=false∧t.s.free<4*t.height+1∧(Dj t key).1.s.free=t.s.free∧Gr N i (Dj t key).1 l P):=by
 have e:Dj t key=(BT t (BP t key).1 (BP t key).2.2,(BP t key).2.1 && decide ((BP t key).2.2=0),(BP t key).2.2):=by unfold Dj;rw [if_neg (fun q=>q hw)]
 have hkp:=VI t key
 rw [e]
 rcases Xy h.ok key with ⟨h1,h1',P',h2,h3⟩|⟨h1,h2⟩
 ·refine .inl ⟨h1,by simp [h1,h1'],P',?_⟩
  show Gr N i (BT t (BP t key).1 (BP t key).2.2) _ _
  unfold BT
  rw [if_pos h1]
  refine⟨h2,h.on.mv h3,?_,fun x hx=>h.kv x (H5 hx),by rw [hkp.len];exact h.kn⟩
  have:=Te l key
  have:=h.ln
  omega
 ·obtain⟨g1,g2⟩:=h.back hkp
  refine .inr ⟨h1,by simp [h1],h2,?_,?_⟩
  ·show(BT t (BP t key).1 (BP t key).2.2).s.free=_
   unfold BT
   rw [if_neg (by rw [h1];decide)]
   exact g2
  ·show Gr N i (BT t (BP t key).1 (BP t key).2.2) _ _
   unfold BT
   rw [if_neg (by rw [h1];decide)]
   exact g1
theorem Ys{s:PD} (h:Pgr.Good s):Pgr.Good s.fin:=by
 have hl:s.fin.kinds.length=s.kinds.length:=by simp [PD.fin,PD.done,PD.flush]
 have hs:s.fin.syn.length=s.syn.length:=Ev _ _
 refine⟨by rw [hl];exact h.one,by rw [hl];exact h.len,by rw [hl,hs];exact h.inn,by rw [hs];exact h.syn,fun i=>?_⟩
 rcases AaR h (i:=i) with q|q<;>rw [q]<;>decide
theorem MW{s:PD}{k:Int}:Bk s.fin k↔Bk s k:=by
 unfold Bk
 rw [RI]
 unfold C3
 constructor
 ·intro q
  by_cases h3:s.kind k=3
  ·rw [if_pos h3] at q;omega
  ·rw [if_neg h3] at q
   by_cases h1:s.kind k=1
   ·exact .inl h1
   ·rw [if_neg h1] at q;exact q
 ·rintro(q|q)<;>rw [q]<;>decide
theorem At.fin{s:PD} (hG:Pgr.Good s) {k:Int}{n:AB} (h:At s k n):At s.fin k n:=⟨MW.2 h.liv,by rw [Qc hG];exact h.byt,h.rgt⟩
theorem FY.fin{s:PD} (hG:Pgr.Good s) {b:List UInt8}{l:List Int} (h:FY s b l):FY s.fin b l:=
 ⟨h.len,h.rng,fun j hj=>MW.2 (h.live j hj),fun j hj=>by rw [Qc hG];exact h.pg j hj⟩
theorem Lf.fin{s:PD} (hG:Pgr.Good s):∀{ks vs:List (List UInt8)}{l:List KV}{P:List Int},Lf s ks vs l P→Lf s.fin ks vs l P
 |[],[],l,P,h=>by rw [Lf] at h⊢;exact h
 |[],_::_,l,P,h=>by rw [Lf] at h<;>simp_all
 |_::_,[],l,P,h=>by rw [Lf] at h<;>simp_all
 |k::ks,c::cs,l,P,h=>by
  rw [Lf] at h⊢
  obtain⟨v,l',P1,P2,rfl,rfl,h1,h2⟩:=h
  refine⟨v,l',P1,P2,rfl,rfl,?_,h2.fin hG⟩
  rcases h1 with h1|⟨q1,q2,q3,q4⟩
  ·exact .inl h1
  ·exact .inr ⟨q1,q2,FY.fin hG q3,q4⟩
theorem Tr.fin{s:PD} (hG:Pgr.Good s):∀{h:Nat}{k:Int}{l:List KV}{P:List Int},Tr s h k l P→Tr s.fin h k l P
 |0,k,l,P,h=>h.elim
 |h+1,k,l,P,⟨n,Q,h1,h2,e,h3⟩=>by
  refine⟨n,Q,At.fin hG h1,h2,e,?_⟩
  by_cases e:h=0
  ·rw [decide_eq_true e] at h3⊢;exact .mkl h3.leaf.1 (h3.leaf.2.fin hG)
  ·rw [decide_eq_false e] at h3⊢;exact .mki h3.inner.1 (h3.inner.2.mono (fun c l P _ q=>Tr.fin hG q))
theorem Gr.fin{N i:Nat}{t:TD}{l:List KV}{P:List Int} (h:Gr N i t l P):Gr N i {t with s:=t.s.fin} l P:=
 ⟨⟨Ys h.ok.gd,h.ok.nd,h.ok.ct,by
  rcases h.ok.tr with e|⟨x,e,ht⟩
  ·exact .inl e
  ·exact .inr ⟨x,e,ht.fin h.ok.gd⟩⟩,fun k=>MW.trans (h.on k),h.ln,h.kv,by show t.s.fin.kinds.length=N;rw [←h.kn];simp [PD.fin,PD.done,PD.flush]⟩
theorem Tok.Eh{t:TD}{l:List KV}{P:List Int} (h:Tok t l P) {key:List UInt8} (hw:BM key=0):CR t key=((DN l key).1,(DN l key).2,0):=by
 unfold CR;rw [if_neg (fun q=>q hw)];exact h.get key
end Go.Gk.Tre
end
section
namespace Go.Gk.Chn
open Go Go.Gk Go.Gk.Dev Go.Gk.Cch Go.Gk.Pgr Go.Gk.Node
section
section
variable {P:Program}{pan:List PanicEntry→AR}{Qn:Env→AR}{Ls L:List Ac}{ρ:Env}{d:Ac}{s:GS}{t:Nat}{tk:Bool}
def Cov(e d:Ac) (B:List Ac):Prop:=∀x o,e x o→d x o∨∃g∈B,g x o
theorem Aab{e d:Ac}{B Lk:List Ac}{b o:Nat}{v:Value} (hc:DC e b o v) (h:Cov e d B) (hm:∀g∈B,g∈Lk):HC d Lk ⟨b,o,none⟩ v:=by
 obtain⟨c,T,fr,h1,h2⟩:=hc
 rcases h _ _ h1 with h1|⟨g,hg,h1⟩
 ·exact⟨rfl,d,.inl rfl,c,T,fr,h1,h2⟩
 ·exact⟨rfl,g,.inr (hm g hg),c,T,fr,h1,h2⟩
theorem Cov.mono{e d d':Ac}{B:List Ac} (h:Cov e d B) (hl:Le d d'):Cov e d' B:=fun x o q=>(h x o q).elim (fun q=>.inl (hl x o q)) .inr
def RB(d:Ac) (B:List Ac) (w:Value) (b:List UInt8):Prop:=∃e,Cov e d B∧AK e w b
theorem RB.mono{d d':Ac}{B:List Ac}{w:Value}{b:List UInt8} (h:RB d B w b) (hl:Le d d'):RB d' B w b:=let ⟨e,h1,h2⟩:=h;⟨e,h1.mono hl,h2⟩
theorem RB.data{d:Ac}{w:Value}{b:List UInt8} (h:AK d w b):RB d [] w b:=⟨d,fun _ _ q=>.inl q,h⟩
theorem RB.own{d g:Ac}{w:Value}{b:List UInt8} (h:Aq 1 AM d w b g):RB d [g] w b:=
 ⟨join d g,fun _ _ q=>q.elim .inl (fun q=>.inr ⟨g,Acu ..,q⟩),Aq.rsl (R:=AM) (sz:=1) h AW (by omega) (Le.AH _ _) (Le.A6 _ _)⟩
theorem RB.val{d:Ac}{B:List Ac}{w:Value}{b:List UInt8} (h:RB d B w b):∃a c,w=.slice a b.length c:=let ⟨_,_,h⟩:=h;RSl.val h
theorem Wi{e d:Ac}{B Lk:List Ac}{a:Option Addr}{c:Nat}{l:List UInt8} (h:Cov e d B) (hm:∀g∈B,g∈Lk) (hw:AK e (.slice a l.length c) l):(a=none→l=[])∧∀a',a=some a'→∀j u,(l.map Ay)[j]?=some u→HC d Lk (a'.add j) u:=by
 obtain⟨a0,c',b',o',q,h2,h3,h4,h5,h6,h7,h8⟩:=hw
 cases q
 refine⟨fun e=>Acm (by have:=h4 e;omega),fun a' ha j u hu=>?_⟩
 rw [Aep] at hu
 cases q:l[j]? with
 |none=>rw [q] at hu;cases hu
 |some y=>
  rw [q] at hu
  cases hu
  obtain⟨hj,rfl⟩:=Acp.1 q
  obtain⟨cs,j1,j2,j3⟩:=h8 j hj
  obtain rfl:=j3
  have ha2:=h2 (by omega)
  rw [ha] at ha2
  cases ha2
  have h9:=j2.at (i:=0) rfl
  have h0:HC d Lk ⟨b',o'+j,none⟩ (Ay l[j]):=Aab (by simpa using h9) h hm
  have ea:(⟨b',o',none⟩:Addr).add j=⟨b',o'+j,none⟩:=by
   unfold Addr.add;simp
  rw [ea];exact h0
theorem RB.src{d:Ac}{B Lk:List Ac}{w:Value}{l:List UInt8} (h:RB d B w l) (hm:∀g∈B,g∈Lk):Src 1 AM d Lk w l:=by
 obtain⟨a,c,rfl⟩:=h.val
 obtain⟨e,h1,h2⟩:=h
 obtain⟨k1,k2⟩:=Wi h1 hm h2
 refine⟨l.map Ay,⟨a,c,rfl,by simp,fun e=>by rw [k1 e];rfl,k2⟩,CC _,fun i hi=>?_⟩
 simp only [AM,chunk,Aem,←Ahl,←Ahm]
 rw [Adi hi];rfl
theorem V5{x y:Operand}{b o n c i:Nat}{T:TypeId}{ls:List Value}{w:Value}{l:List UInt8}{t:Option Nat}{e:Ac}{B:List Ac} (ex:ev ρ x=.slice (some ⟨b,o,none⟩) n c) (ey:ev ρ y=w) (hc:Cov e d B) (hw:AK e w l) (hg:∀g∈B,g∈L) (hi:L[i]?=some (bx b T ls)) (hn:o+n≤ls.length)
  (h:gws P pan Qn s Ls (put ρ t (.int .i64 ((min l.length n:Nat):Int))) d (L.set i (bx b T (patch ls o ((l.take n).map Ay))))):gws P pan Qn (.op false ⟨t,none,.mop (.cpy 1 x y)⟩ s) Ls ρ d L:=by
 obtain⟨a,c',rfl⟩:=RSl.val hw
 obtain⟨k1,k2⟩:=Wi (Lk:=Ls++L++L) hc (fun g q=>Adk _ (hg g q)) hw
 refine⟨d,L,Vs.refl d L,?_⟩
 simp only [gop,gi,mi]
 refine⟨_,n,c,a,l.length,c',(l.take n).map Ay,ex,ey,by simp [Nat.min_comm],CC _,fun e=>by rw [k1 e];simp,fun a' ha j u hu=>k2 a' ha j u ?_,.inr ⟨i,b,o,T,ls,rfl,hi,by simp;omega,d,_,Vs.refl d _,h⟩⟩
 rw [Aep,Aek] at hu
 rw [Aep]
 split at hu
 ·exact hu
 ·cases hu
theorem PQ{α:Type}{sz n:Nat}{R:Ac→List Value→α→Prop}{xs:List α}{x y:Operand}{v:Value}{kk:IntKind}{d2:Ac}{j:Int} (ex:ev ρ x=v) (hr:RSl sz R d2 v xs) (ey:ev ρ y=.int kk j) (hj:j=(n:Int)) (hn:n≤xs.length) (k:∀v',RSl sz R d2 v' (xs.drop n)→gws P pan Qn s Ls (upd ρ t v') d L):
  gws P pan Qn (.op tk ⟨some t,none,.sl sz x (some y) none none⟩ s) Ls ρ d L:=by
 subst hj
 have hr':=hr
 obtain⟨a,c,b,o,rfl,h2,h3,h4,h5,h6,h7,h8⟩:=hr
 have hc:DP xs.length c (some (ev ρ y)) none none=some (n,xs.length,c):=by
  simp only [DP,GC,Gw,GM,Agr,Aci,if_false,Adz,ey,bnd]
  rw [if_pos (by omega)];simp
 refine w_q rfl ⟨a,xs.length,c,n,xs.length,c,ex,fun(h0:c≠n)=>h3 (by omega),hc,rfl⟩ (k _ ?_)
 have:=hr'.cut (l:=n) (h:=xs.length) (m:=c) (by omega) (by omega) (Ach c) (Ach _)
 rwa [Aed (by simp)] at this
end
attribute [local irreducible] gwp gws xwp
def LW(P:Program) (f:FuncId):Prop:=∀{d:Ac}{s:PD}{dv pv bv:Value}{L:List Ac}{b:List UInt8}{B:List Ac},Pg d s dv pv L→RB d B bv b→b.length≤16384→
 Aw P f [pv,bv] d (B++L) (Ret fun r d' L'=>Le d d'∧r=.tuple #[.int .i64 (B3 s b).2.1,.int .i64 (B3 s b).2.2]∧∃L2,L'=B++L2∧Pg d' (B3 s b).1 dv pv L2)
set_option maxRecDepth 4000 in
set_option maxHeartbeats 1000000 in
theorem Xa{P:Program}{f f1 f2 f3:FuncId} (hd:dec P f=some (SS f1 f2 f3)) (h1:FD P f1) (h2:OK P f2) (h3:NZ P f3):LW P f:=by
 intro d s dv pv bv L b B hp hb hbl
 obtain⟨va,vc,rfl⟩:=hb.val
 obtain⟨eh,hcv,hb⟩:=hb
 obtain⟨bp,rfl⟩:=hp.ptr
 have hpn:1≤AP b.length∧AP b.length≤8192:=by unfold AP;omega
 refine AG hd (Aca rfl) ?_
 show gwp P _ _ _ _ _
 (refine Ad<|Ab rfl<|Ab rfl<|Aa<|Ah<|Ad<|Am rfl<|AN rfl<|BQ rfl rfl<|Aa<|Ar rfl (by omega)<|Ak<|Ad<|Al rfl<|Am rfl<|AN rfl ?_)
 refine Bi rfl (h1 (n:=b.length) (by omega)) (fun u d1 L1 _ ⟨e1,e2,e3⟩=>?_)
 subst e1;subst e2;subst e3
 rw [Adr]
 refine A8 B (h2 hp hpn.2) rfl rfl (fun u d2 L2 hl2 ⟨_,v,e1,hv,hp2⟩=>?_)
 subst e1
 by_cases hz:(Bz s (AP b.length)).2.2=0
 ·have hF:B3 s b=(Dp (Bz s (AP b.length)).1 (Bz s (AP b.length)).2.1 b (Bz s (AP b.length)).2.1.length,(Bz s (AP b.length)).2.1.getD 0 0,0):=by unfold B3;simp only [hz,if_true]
  rw [hF,hz]
  have hlen:=Vv hz
  generalize (Bz s (AP b.length)).2.1=l at hv hlen
  generalize (Bz s (AP b.length)).1=t at hp2
  have hll:=hv.BZ
  (refine AU rfl<|Ao rfl rfl<|Ao rfl rfl<|AL<|Ab rfl<|Aa<|Ah<|Ad<|Ab rfl<|AQ rfl rfl<|Aa<|Ar rfl (by omega)<|Ak<|Ah<|Ad<|AL<|BG rfl (by assumption)<|Ab rfl<|Aa<|Az ?_)
  refine CL (α:=Nat) (fun i=>[(0,.pointer (some ⟨bp,0,none⟩)),(1,.slice va b.length vc),(6,v),(26,v),(27,.int .i64 l.length),(28,.int .i64 i)])
   (fun i d' L'=>Le d2 d'∧i≤l.length∧∃L3,L'=B++L3∧Pg d' (Dp t l b i) dv (.pointer (some ⟨bp,0,none⟩)) L3) (fun i=>l.length - i) 0 ⟨rfl,rfl,rfl,rfl,rfl,rfl,trivial⟩ ⟨Le.refl _,Adg _,L2,rfl,hp2⟩ ?_
  rintro i ρ d' L' ⟨hle,hi,L3,rfl,hp'⟩
  have hv':=RSl.mono (R:=Bg) B8 hv hle
  have hcv':=hcv.mono (hl2.trans hle)
  by_cases e:i<l.length
  ·have him:i*254≤b.length:=Qa (by omega)
   by_cases en:i+1<l.length
   ·have hput:Dp t l b (i+1)=((Dp t l b i).put l[i] (DY l[i+1] (Cl b i))).1:=by
     rw [Dp,show l.getD i 0=l[i] by rw [Acf,Ace e];rfl,show l.getD (i+1) 65535=l[i+1] by rw [Acf,Ace en];rfl]
    (refine Ad<|AE rfl rfl<|Aa<|Ah<|Ax rfl (by omega)<|Ak<|Ah<|Az<|Ad<|Ab rfl<|BL (sz:=1) (R:=Bg) (by rfl) (by assumption) (by rfl) rfl (by omega) ?_;rintro _ _ _ _ _ ⟨rfl,_,_⟩;refine Ag rfl (B7 (by assumption) rfl)<|Ab rfl<|Ab rfl<|Aa<|Ad<|Ab rfl<|Aa<|Ah<|Ad<|Ab rfl<|AO rfl rfl (by omega) (by omega)<|AL<|BG rfl (by assumption)<|AE rfl rfl<|Aa<|Ax rfl (by omega)<|AA<|AL<|Ab rfl<|AO rfl rfl (by omega) (by omega)<|BL (sz:=1) (R:=Bg) (by rfl) (by assumption) (by rfl) rfl (by omega) ?_;rintro _ _ _ _ _ ⟨rfl,_,_⟩;refine Ag rfl (B7 (by assumption) rfl)<|Ab rfl<|Aa<|Ad<|BX (fun _ _=>Aa<|Ad<|Ab rfl<|I5 rfl rfl (by decide)<|Ej rfl<|Ab rfl<|Ej rfl ?_))
    rename_i b11 T11
    refine NV 0 rfl rfl rfl (by omega) ?_
    refine AZ 0 (patch CP 0 [Ay (UInt8.ofNat (l[i+1] / 256 % 256).toNat)]) rfl rfl rfl rfl (by rw [De];decide) rfl rfl ?_
    have hl1:(patch CP 0 [Ay (UInt8.ofNat (l[i+1] / 256 % 256).toNat)]).length=256:=by rw [Bt (by rw [De];simp)];exact De
    refine NV 1 rfl rfl rfl (by omega) ?_
    refine AZ 0 (patch (patch CP 0 [Ay (UInt8.ofNat (l[i+1] / 256 % 256).toNat)]) 1 [Ay (UInt8.ofNat (l[i+1] % 256).toNat)]) rfl rfl rfl rfl (by rw [hl1];decide) rfl rfl ?_
    have hl2':(patch (patch CP 0 [Ay (UInt8.ofNat (l[i+1] / 256 % 256).toNat)]) 1 [Ay (UInt8.ofNat (l[i+1] % 256).toNat)]).length=256:=by rw [Bt (by rw [hl1];simp)];exact hl1
    (refine Aa<|Ah ?_)
    refine Bv [] (bx b11 T11 (patch (patch CP 0 [Ay (UInt8.ofNat (l[i+1] / 256 % 256).toNat)]) 1 [Ay (UInt8.ofNat (l[i+1] % 256).toNat)])::(B++L3)) rfl ?_
    refine P0 2 rfl rfl (by omega) ?_
    (refine Am rfl<|Ab rfl<|LU rfl rfl (by omega) (by omega) ?_)
    refine PQ (R:=AM) (sz:=1) (n:=i*254) rfl hb rfl (by omega) him (fun w hw=>?_)
    refine V5 (i:=0) rfl rfl hcv' hw (fun g q=>Acy _ (Adh _ q)) rfl (by rw [hl2'];omega) ?_
    have hpp:=Oz (UInt8.ofNat (l[i+1] / 256 % 256).toNat) (UInt8.ofNat (l[i+1] % 256).toNat) (c:=Cl b i) (by unfold Cl;rw [Acw];omega)
    (refine Aa<|AA<|Al rfl<|Ab rfl ?_)
    refine Sv rfl (by omega) ?_
    have hpl:(DY l[i+1] (Cl b i)).length=256:=by
     have:(Cl b i).length≤254:=by unfold Cl;rw [Acw];omega
     unfold DY;simp only [Acs,Acl,Adn];omega
    refine Cd (join d' (bx b11 T11 (patch (patch (patch CP 0 [Ay (UInt8.ofNat (l[i+1] / 256 % 256).toNat)]) 1 [Ay (UInt8.ofNat (l[i+1] % 256).toNat)]) 2 ((Cl b i).map Ay)))) (B++L3) Vs.freeze ?_
    have hlj:Le d' (join d' (bx b11 T11 (patch (patch (patch CP 0 [Ay (UInt8.ofNat (l[i+1] / 256 % 256).toNat)]) 1 [Ay (UInt8.ofNat (l[i+1] % 256).toNat)]) 2 ((Cl b i).map Ay)))):=Le.AH _ _
    have hB:AK (join d' (bx b11 T11 (patch (patch (patch CP 0 [Ay (UInt8.ofNat (l[i+1] / 256 % 256).toNat)]) 1 [Ay (UInt8.ofNat (l[i+1] % 256).toNat)]) 2 ((Cl b i).map Ay)))) (.slice (some ⟨b11,0,none⟩) 256 256) (DY l[i+1] (Cl b i)):=
     Aq.rsl (R:=AM) (sz:=1) (Aq.Ym (d:=d') hpp hpl.symm (Agk (Nat.le_of_eq hpl) (by decide))) AW (by omega) (Le.AH _ _) (Le.A6 _ _)
    refine A8 B (h3 (k:=l[i]) (hp'.mono hlj) hB) rfl rfl (fun u d5 L5 hl5 ⟨q1,hp5⟩=>?_)
    (refine Aa<|AA<|AO rfl rfl (by omega) (by omega)<|Ab rfl<|Aa ?_)
    exact⟨i+1,by omega,⟨rfl,rfl,rfl,rfl,rfl,rfl,trivial⟩,(hle.trans hlj).trans hl5,e,L5,rfl,by rw [hput];exact hp5⟩
   ·have hput:Dp t l b (i+1)=((Dp t l b i).put l[i] (DY (65535:Int) (Cl b i))).1:=by
     rw [Dp,show l.getD i 0=l[i] by rw [Acf,Ace e];rfl,show l.getD (i+1) 65535=(65535:Int) by rw [Acf,Adq (by omega)];rfl]
    (refine Ad<|AE rfl rfl<|Aa<|Ah<|Ax rfl (by omega)<|Ak<|Ah<|Az<|Ad<|Ab rfl<|BL (sz:=1) (R:=Bg) (by rfl) (by assumption) (by rfl) rfl (by omega) ?_;rintro _ _ _ _ _ ⟨rfl,_,_⟩;refine Ag rfl (B7 (by assumption) rfl)<|Ab rfl<|Ab rfl<|Aa<|Ad<|Ab rfl<|Aa<|Ah<|Ad<|Ab rfl<|AO rfl rfl (by omega) (by omega)<|AL<|BG rfl (by assumption)<|AE rfl rfl<|Aa<|Ar rfl (by omega)<|Ak<|Ad<|BX (fun _ _=>Aa<|Ad<|Ab rfl<|I5 rfl rfl (by decide)<|Ej rfl<|Ab rfl<|Ej rfl ?_))
    rename_i b11 T11
    refine NV 0 rfl rfl rfl (by omega) ?_
    refine AZ 0 (patch CP 0 [Ay (UInt8.ofNat ((65535:Int) / 256 % 256).toNat)]) rfl rfl rfl rfl (by rw [De];decide) rfl rfl ?_
    have hl1:(patch CP 0 [Ay (UInt8.ofNat ((65535:Int) / 256 % 256).toNat)]).length=256:=by rw [Bt (by rw [De];simp)];exact De
    refine NV 1 rfl rfl rfl (by omega) ?_
    refine AZ 0 (patch (patch CP 0 [Ay (UInt8.ofNat ((65535:Int) / 256 % 256).toNat)]) 1 [Ay (UInt8.ofNat ((65535:Int) % 256).toNat)]) rfl rfl rfl rfl (by rw [hl1];decide) rfl rfl ?_
    have hl2':(patch (patch CP 0 [Ay (UInt8.ofNat ((65535:Int) / 256 % 256).toNat)]) 1 [Ay (UInt8.ofNat ((65535:Int) % 256).toNat)]).length=256:=by rw [Bt (by rw [hl1];simp)];exact hl1
    (refine Aa<|Ah ?_)
    refine Bv [] (bx b11 T11 (patch (patch CP 0 [Ay (UInt8.ofNat ((65535:Int) / 256 % 256).toNat)]) 1 [Ay (UInt8.ofNat ((65535:Int) % 256).toNat)])::(B++L3)) rfl ?_
    refine P0 2 rfl rfl (by omega) ?_
    (refine Am rfl<|Ab rfl<|LU rfl rfl (by omega) (by omega) ?_)
    refine PQ (R:=AM) (sz:=1) (n:=i*254) rfl hb rfl (by omega) him (fun w hw=>?_)
    refine V5 (i:=0) rfl rfl hcv' hw (fun g q=>Acy _ (Adh _ q)) rfl (by rw [hl2'];omega) ?_
    have hpp:=Oz (UInt8.ofNat ((65535:Int) / 256 % 256).toNat) (UInt8.ofNat ((65535:Int) % 256).toNat) (c:=Cl b i) (by unfold Cl;rw [Acw];omega)
    (refine Aa<|AA<|Al rfl<|Ab rfl ?_)
    refine Sv rfl (by omega) ?_
    have hpl:(DY (65535:Int) (Cl b i)).length=256:=by
     have:(Cl b i).length≤254:=by unfold Cl;rw [Acw];omega
     unfold DY;simp only [Acs,Acl,Adn];omega
    refine Cd (join d' (bx b11 T11 (patch (patch (patch CP 0 [Ay (UInt8.ofNat ((65535:Int) / 256 % 256).toNat)]) 1 [Ay (UInt8.ofNat ((65535:Int) % 256).toNat)]) 2 ((Cl b i).map Ay)))) (B++L3) Vs.freeze ?_
    have hlj:Le d' (join d' (bx b11 T11 (patch (patch (patch CP 0 [Ay (UInt8.ofNat ((65535:Int) / 256 % 256).toNat)]) 1 [Ay (UInt8.ofNat ((65535:Int) % 256).toNat)]) 2 ((Cl b i).map Ay)))):=Le.AH _ _
    have hB:AK (join d' (bx b11 T11 (patch (patch (patch CP 0 [Ay (UInt8.ofNat ((65535:Int) / 256 % 256).toNat)]) 1 [Ay (UInt8.ofNat ((65535:Int) % 256).toNat)]) 2 ((Cl b i).map Ay)))) (.slice (some ⟨b11,0,none⟩) 256 256) (DY (65535:Int) (Cl b i)):=
     Aq.rsl (R:=AM) (sz:=1) (Aq.Ym (d:=d') hpp hpl.symm (Agk (Nat.le_of_eq hpl) (by decide))) AW (by omega) (Le.AH _ _) (Le.A6 _ _)
    refine A8 B (h3 (k:=l[i]) (hp'.mono hlj) hB) rfl rfl (fun u d5 L5 hl5 ⟨q1,hp5⟩=>?_)
    (refine Aa<|AA<|AO rfl rfl (by omega) (by omega)<|Ab rfl<|Aa ?_)
    exact⟨i+1,by omega,⟨rfl,rfl,rfl,rfl,rfl,rfl,trivial⟩,(hle.trans hlj).trans hl5,e,L5,rfl,by rw [hput];exact hp5⟩
  ·have:i=l.length:=by omega
   subst this
   have h0:0<l.length:=by omega
   have hg0:l.getD 0 0=l[0]:=by rw [Acf,Ace h0];rfl
   rw [hg0]
   (refine Ad<|AE rfl rfl<|Aa<|Ah<|Ar rfl (by omega)<|Bj<|Ad<|AL<|BL (sz:=1) (R:=Bg) (by rfl) (by assumption) (by rfl) rfl (by omega) ?_;rintro _ _ _ _ _ ⟨rfl,_,_⟩;refine Ag rfl (B7 (by assumption) rfl)<|Ab rfl<|Ab rfl<|Aa<|An ?_)
   exact CF rfl rfl (Acb _) ⟨hl2.trans hle,rfl,L3,rfl,hp'⟩
 ·have hF:B3 s b=((Bz s (AP b.length)).1,0,(Bz s (AP b.length)).2.2):=by unfold B3;simp only [hz,if_false]
  rw [hF]
  (refine AU rfl<|Ao rfl rfl<|Ao rfl rfl<|AL<|Ab rfl<|Aa<|Ah<|Ad<|Ab rfl<|AQ rfl rfl<|Aa<|Ax rfl (by omega)<|Ad<|Ab rfl<|Ab rfl<|Ab rfl<|Aa<|An ?_)
  exact CF rfl rfl (Acb _) ⟨hl2,rfl,L2,rfl,hp2⟩
end
end Go.Gk.Chn
end
section
namespace Go.Gk.Tre
open Go Go.Gk Go.Gk.Dev Go.Gk.Cch Go.Gk.Pgr Go.Gk.Chn Go.Gk.Node
attribute [local irreducible] gwp gws xwp
theorem AaF{P:Program}{f:FuncId} (h:LW P f) {d:Ac}{s:PD}{dv pv w:Value}{L:List Ac}{b:List UInt8}{B:List Ac} (hp:PgT d s dv pv L) (hb:RB d B w b) (hl:b.length≤16384):
  Aw P f [pv,w] d (B++L) (Ret fun r d' L'=>Le d d'∧r=.tuple #[.int .i64 (B3 s b).2.1,.int .i64 (B3 s b).2.2]∧∃L2,L'=B++L2∧PgT d' (B3 s b).1 dv pv L2):=by
 obtain⟨n,hp⟩:=hp
 refine Aw.D1 (h hp hb hl) (fun r d' L' _ ⟨h0,h1,L2,h2,h3⟩=>⟨d',L',Vs.refl _ _,h0,?_,L2,h2,n,?_⟩)
 ·rw [h1];rw [show B3 (wtc s n) b=(wtc (B3 s b).1 n,(B3 s b).2) from RA]
 ·rw [show B3 (wtc s n) b=(wtc (B3 s b).1 n,(B3 s b).2) from RA] at h3
  exact h3
def JD(P:Program) (f:FuncId):Prop:=∀{d:Ac}{s:PD}{dv pv w:Value}{L:List Ac}{bt:Nat}{Tt:TypeId}{r h c:Int}{b:List UInt8}{B:List Ac},PgT d s dv pv L→RB d B w b→b.length≤16384→
 Aw P f [.pointer (some ⟨bt,0,none⟩),w] d (tb bt Tt pv r h c::(B++L)) (Ret fun v d' L'=>Le d d'∧∃u L2,v=.tuple #[u,.int .i64 (BW s b).2.2]∧L'=tb bt Tt pv r h c::(B++L2)∧AK d' u (BW s b).2.1∧PgT d' (BW s b).1 dv pv L2)
set_option maxRecDepth 4000 in
theorem V7{P:Program}{f f1:FuncId} (hd:dec P f=some (Nb f1)) (h1:LW P f1):JD P f:=by
 intro d s dv pv w L bt Tt r h c b B hp hw hbl
 obtain⟨bp,rfl⟩:=hp.ptr
 obtain⟨wa,wc,rfl⟩:=hw.val
 refine AG hd (Aca rfl) ?_
 show gwp P _ _ _ _ _
 by_cases h15:b.length≤15
 ·have hF:BW s b=(s,0::b,0):=by unfold BW;rw [if_pos h15]
  rw [hF]
  (refine Ad<|Am rfl<|Ab rfl<|Aa<|Ah<|Ad<|Am rfl<|AN rfl<|N7 rfl rfl<|Aa<|Ax rfl (by omega)<|Ad ?_)
  refine Ea (v0:=.int .u8 0) rfl rfl (fun b3 T3=>?_)
  (apply Am;rfl)
  refine Py (R:=AM) (sz:=1) (xs:=[0]) AW rfl (Aq.Em (x:=(0:UInt8)) rfl rfl) rfl (hw.src (fun g q=>by simp [q])) (by omega) (by simp;omega) (by simp;omega) (fun a c' d' hl hu=>?_)
  (refine Am rfl<|Ab rfl<|Aa<|An ?_)
  exact CF rfl rfl (Acb _) ⟨hl,_,L,rfl,rfl,hu,hp.mono hl⟩
 ·have hF:BW s b=((B3 s b).1,F1 (B3 s b).2.1 b.length,(B3 s b).2.2):=by unfold BW;rw [if_neg h15]
  rw [hF]
  (refine Ad<|Am rfl<|Ab rfl<|Aa<|Ah<|Ad<|Am rfl<|AN rfl<|N7 rfl rfl<|Aa<|Ar rfl (by omega)<|Ak<|Ad<|Al rfl<|Au rfl<|Ai rfl<|Ag rfl (Aj 0 rfl rfl)<|Am rfl ?_)
  refine A8 [_] (AaF h1 hp hw hbl) rfl rfl (fun v d2 L2' hl ⟨_,e1,L2,e2,hp2⟩=>?_)
  subst e1;subst e2
  have hrg:=XE (b:=b) hp.EY
  (refine AU rfl<|Ao rfl rfl<|Ao rfl rfl<|Ab rfl<|Ab rfl<|Aa<|Ad<|Am rfl<|AN rfl<|Ab rfl<|Aa<|Ad<|Ab rfl<|I5 rfl rfl (by decide)<|Ej rfl<|Ab rfl<|Ej rfl<|Ab rfl ?_)
  refine Wu 24 ((b.length:Int) / 16777216) rfl rfl (by omega) (by omega) rfl ?_
  (refine Ej rfl<|Ab rfl ?_)
  refine Wu 16 ((b.length:Int) / 65536) rfl rfl (by omega) (by omega) rfl ?_
  (refine Ej rfl<|Ab rfl<|I5 rfl rfl (by decide)<|Ej rfl<|Ab rfl<|Ej rfl ?_)
  refine AaM (a0:=1) (a1:=bI ((B3 s b).2.1 / 256)) (a2:=bI (B3 s b).2.1) (a3:=bI ((b.length:Int) / 16777216)) (a4:=bI ((b.length:Int) / 65536)) (a5:=bI ((b.length:Int) / 256)) (a6:=bI b.length) rfl rfl rfl rfl rfl rfl rfl (fun b9 T9=>?_)
  (refine Ab rfl<|Am rfl<|Ab rfl<|Aa<|An ?_)
  exact Ba [.slice (some ⟨b9,0,none⟩) 7 7,.int .i64 (B3 s b).2.2] ⟨Av rfl,Av rfl,trivial⟩ (d':=join d2 (bx b9 T9 ((F1 (B3 s b).2.1 b.length).map Ay))) (L':=tb bt Tt (.pointer (some ⟨bp,0,none⟩)) r h c::(B++L2)) Vs.freeze
   ⟨hl.trans (Le.AH _ _),_,L2,rfl,rfl,Aq.rsl (R:=AM) (sz:=1) (d:=d2) (Aq.Ym rfl rfl (by simp [F1])) AW (by omega) (Le.AH _ _) (Le.A6 _ _),hp2.mono (Le.AH _ _)⟩
section
def PgG(B:List Ac) (d:Ac) (s:PD) (dv pv:Value) (M:List Ac):Prop:=∃L,M.Perm (B++L)∧PgT d s dv pv L
section
variable {P:Program}{f:FuncId}{B:List Ac}{d:Ac}{s:PD}{dv pv:Value}{M:List Ac}{bt:Nat}{Tt:TypeId}
theorem PgG.mono{d':Ac} (h:PgG B d s dv pv M) (hl:Le d d'):PgG B d' s dv pv M:=let ⟨L,p,h⟩:=h;⟨L,p,h.mono hl⟩
theorem PgG.ptr(h:PgG B d s dv pv M):∃b,pv=.pointer (some ⟨b,0,none⟩):=let ⟨_,_,h⟩:=h;h.ptr
theorem PgG.EY(h:PgG B d s dv pv M):Pgr.Good s:=let ⟨_,_,h⟩:=h;h.EY
theorem UT{A:Ac}{L:List Ac}{args:List Value}{R R':Value→Ac→List Ac→Prop} (p:M.Perm (B++L)) (h:Aw P f args d (A::L) (Ret R)) (hR:∀v d' A',Le d d'→R v d' A'→∃L',(A'++B).Perm L'∧R' v d' L'):Aw P f args d (A::M) (Ret R'):=
 Aw.pre (Aco A (p.trans Ack)) (Aw.Wv h hR)
theorem Nl{L2:List Ac} (h:PgT d s dv pv L2):PgG B d s dv pv (L2++B):=⟨L2,Ack,h⟩
theorem Aa7(h:HE P f) {r h' c k:Int}{cs:List Value}{n:AB} (hp:PgG B d s dv pv M) (hn:Cz d cs n) (hz:A3 n≤1000000000000):
  Aw P f [.pointer (some ⟨bt,0,none⟩),.int .i64 k,.agg cs.toArray] d (tb bt Tt pv r h' c::M) (Ret fun v d' L'=>Le d d'∧v=.tuple #[.int .i64 (Br s k n).2.1,.int .i64 (Br s k n).2.2]∧∃L2,L'=tb bt Tt pv r h' c::L2∧PgG B d' (Br s k n).1 dv pv L2):=by
 obtain⟨L,p,hp⟩:=hp
 exact UT p (h (Tt:=Tt) hp hn hz) (fun v d' A' _ ⟨h1,h2,L2,h3,h4⟩=>⟨tb bt Tt pv r h' c::(L2++B),by rw [h3];exact Adp _,h1,h2,_,rfl,Nl h4⟩)
theorem AbB(hf:NQ P f) (x:Nat) {w cv:Value}{r h c k:Int}{key cell:List UInt8} (hx:x≤1000000) (hp:PgG B d s dv pv M) (hk:AK d w key) (hc:AK d cv cell) (h1:key.length≤1000) (h2:cell.length≤1000) (h3: -1≤k) (h4:k≤16384):
  Aw P f [.pointer (some ⟨bt,0,none⟩),.int .i64 k,.int .i64 ((x+1:Nat):Int),w,cv] d (tb bt Tt pv r h c::M) (Ret fun v d' L'=>Le d d'∧∃ua uc L2,v=.tuple #[mdV (B1 s k key cell (x+1)).2.1 ua uc,.bool (B1 s k key cell (x+1)).2.2.1,.int .i64 (B1 s k key cell (x+1)).2.2.2]∧
   AK d' (.slice ua (B1 s k key cell (x+1)).2.1.key.length uc) (B1 s k key cell (x+1)).2.1.key∧MOk (B1 s k key cell (x+1)).2.1∧L'=tb bt Tt pv r h c::L2∧PgG B d' (B1 s k key cell (x+1)).1 dv pv L2):=by
 obtain⟨L,p,hp⟩:=hp
 exact UT p (hf x (Tt:=Tt) hx hp hk hc h1 h2 h3 h4) (fun v d' A' _ ⟨h1,ua,uc,L2,h2,h3,h4,h5,h6⟩=>⟨tb bt Tt pv r h c::(L2++B),by rw [h5];exact Adp _,h1,ua,uc,_,h2,h3,h4,rfl,Nl h6⟩)
theorem Abv(h:I6 P f) {t:TD}{m:MdD}{ua:Option Addr}{uc:Nat} (hp:PgG B d t.s dv pv M) (hk:AK d (.slice ua m.key.length uc) m.key) (hm:MOk m) (hh:t.height≤1000000):
  Aw P f [.pointer (some ⟨bt,0,none⟩),mdV m ua uc] d (tbD bt Tt pv t::M) (Ret fun v d' L'=>Le d d'∧v=.int .i64 (CI t m).2∧∃L2,L'=tbD bt Tt pv (CI t m).1::L2∧PgG B d' (CI t m).1.s dv pv L2):=by
 obtain⟨L,p,hp⟩:=hp
 exact UT p (h (Tt:=Tt) hp hk hm hh) (fun v d' A' _ ⟨h1,h2,L2,h3,h4⟩=>⟨tbD bt Tt pv (CI t m).1::(L2++B),by rw [h3];exact Adp _,h1,h2,_,rfl,Nl h4⟩)
theorem Abs(h:JD P f) {w:Value}{r h' c:Int}{b:List UInt8} (hp:PgG B d s dv pv M) (hw:RB d B w b) (hl:b.length≤16384):
  Aw P f [.pointer (some ⟨bt,0,none⟩),w] d (tb bt Tt pv r h' c::M) (Ret fun v d' L'=>Le d d'∧∃u L2,v=.tuple #[u,.int .i64 (BW s b).2.2]∧L'=tb bt Tt pv r h' c::L2∧AK d' u (BW s b).2.1∧PgG B d' (BW s b).1 dv pv L2):=by
 obtain⟨L,p,hp⟩:=hp
 refine Aw.pre (Aco _ p) (Aw.D1 (h (Tt:=Tt) hp hw hl) (fun v d' L' _ ⟨h1,u,L2,h2,h3,h4,h5⟩=>⟨d',L',Vs.refl _ _,h1,u,_,h2,h3,h4,L2,Adp _,h5⟩))
end
def Na(P:Program) (f:FuncId):Prop:=∀{d:Ac}{t:TD}{dv pv:Value}{L:List Ac}{bt b3 b4 b5:Nat}{Tt T3 T4 T5:TypeId}{ka va:Option Addr}{kc vc:Nat}{key value:List UInt8}{B:List Ac},PgG B d t.s dv pv L→AK d (.slice ka key.length kc) key→RB d B (.slice va value.length vc) value→key.length≤64→value.length≤16384→KZ t→
 Aw P f [.pointer (some ⟨b3,0,none⟩),.pointer (some ⟨b5,0,none⟩),.pointer (some ⟨b4,0,none⟩)] d (tbD bt Tt pv t::([bx b3 T3 [.pointer (some ⟨bt,0,none⟩)],bx b5 T5 [.slice va value.length vc],bx b4 T4 [.slice ka key.length kc]]++L))
  (Ret fun v d' L'=>Le d d'∧v=.int .i64 (B4 t key value).2∧∃L2,L'=tbD bt Tt pv (B4 t key value).1::([bx b3 T3 [.pointer (some ⟨bt,0,none⟩)],bx b5 T5 [.slice va value.length vc],bx b4 T4 [.slice ka key.length kc]]++L2)∧PgG B d' (B4 t key value).1.s dv pv L2)
set_option maxRecDepth 4000 in
set_option maxHeartbeats 4000000 in
theorem VM{P:Program}{f f1 f2 f3 f4 f5:FuncId} (hd:Jj P f=some (Mo f1 f2 f3 f4 f5)) (h1:JD P f1) (h2:HE P f2) (h3:NQ P f3) (h4:O9 P f4) (h5:I6 P f5):Na P f:=by
 intro d t dv pv L bt b3 b4 b5 Tt T3 T4 T5 ka va kc vc key value B hp hk hv hkl hvl hf
 obtain⟨bp,rfl⟩:=hp.ptr
 obtain⟨s,root,height,count⟩:=t
 obtain⟨hr0,hr1,hh,hc⟩:=hf
 simp only at hp hr0 hr1 hh hc
 refine AG hd (Aca rfl) ?_
 show gwp P _ _ _ _ _
 apply Ah;apply AA
 refine Cd d ([bx b3 T3 [.pointer (some ⟨bt,0,none⟩)],bx b5 T5 [.slice va value.length vc],bx b4 T4 [.slice ka key.length kc]]++tbD bt Tt (.pointer (some ⟨bp,0,none⟩)) ⟨s,root,height,count⟩::L) (Vs.perm List.perm_middle.symm) ?_
 (refine Ab rfl<|Aa<|Ad<|Ag rfl (Aj 0 rfl rfl)<|Ag rfl (Aj 1 rfl rfl) ?_)
 refine A8 [_,_,_] (Abs h1 hp hv hvl) rfl rfl (fun v d2 L2 hl2 ⟨_,u,L3,e1,e2,hu,hp2⟩=>?_)
 subst e1;subst e2
 have hcl:=Yv s value
 have hP:B4 ⟨s,root,height,count⟩ key value=if (BW s value).2.2≠0 then(⟨(BW s value).1,root,height,count⟩,(BW s value).2.2) else if height=0 then(⟨(Br (BW s value).1 (-1) ⟨true,[key],[(BW s value).2.1],[]⟩).1,(Br (BW s value).1 (-1) ⟨true,[key],[(BW s value).2.1],[]⟩).2.1,1,1⟩,(Br (BW s value).1 (-1) ⟨true,[key],[(BW s value).2.1],[]⟩).2.2) else
  if (B1 (BW s value).1 root key (BW s value).2.1 height).2.2.2≠0 then(⟨(B1 (BW s value).1 root key (BW s value).2.1 height).1,root,height,count⟩,(B1 (BW s value).1 root key (BW s value).2.1 height).2.2.2) else
  CI ⟨(B1 (BW s value).1 root key (BW s value).2.1 height).1,root,height,count+(if (B1 (BW s value).1 root key (BW s value).2.1 height).2.2.1 then 1 else 0)⟩ (B1 (BW s value).1 root key (BW s value).2.1 height).2.1:=rfl
 rw [hP]
 clear hP
 obtain⟨ua,uc,rfl⟩:=hu.val
 generalize BW s value=C at hu hp2 hcl
 obtain⟨s1,cell,ce⟩:=C
 simp only at hu hp2 hcl⊢
 have hk2:=RSl.mono (R:=AM) AW hk hl2
 by_cases hce:ce=0
 ·rw [if_neg (fun q=>q hce)]
  subst hce
  by_cases hh0:height=0
  ·subst hh0
   rw [if_pos rfl]
   (refine AU rfl<|Ao rfl rfl<|Ao rfl rfl<|Am rfl<|Ab rfl<|Aa<|Ah<|Ad<|Ab rfl<|AQ rfl rfl<|Aa<|Ar rfl (by omega)<|Ak<|Ah<|Ad<|Ag rfl (Aj 0 rfl rfl)<|Au rfl<|Ai rfl<|Ag rfl (Aj 3 rfl rfl)<|AJ rfl rfl<|Aa<|Ax rfl (by omega)<|Ad<|Ag rfl (Aj 0 rfl rfl)<|Ag rfl (Aj 2 rfl rfl) ?_)
   refine Ea (v0:=.slice ka key.length kc) rfl rfl (fun b27 T27=>?_)
   (apply Am;rfl)
   refine Ea (v0:=.slice ua cell.length uc) rfl rfl (fun b29 T29=>?_)
   (apply BJ;rfl)
   obtain⟨d3,hl3,v3,l1,l2⟩:∃d3,Le d2 d3∧Vs d2 (bx b29 T29 [.slice ua cell.length uc]::bx b27 T27 [.slice ka key.length kc]::[]) d3 []∧Le (bx b29 T29 [.slice ua cell.length uc]) d3∧Le (bx b27 T27 [.slice ka key.length kc]) d3:=
    ⟨join (join d2 (bx b29 T29 [.slice ua cell.length uc])) (bx b27 T27 [.slice ka key.length kc]),(Le.AH _ _).trans (Le.AH _ _),Vs.freeze.trans Vs.freeze,(Le.A6 _ _).trans (Le.AH _ _),Le.A6 _ _⟩
   have hn:Cz d3 [.bool true,.slice (some ⟨b27,0,none⟩) 1 1,.slice (some ⟨b29,0,none⟩) 1 1,.slice none 0 0] ⟨true,[key],[cell],[]⟩:=
    ⟨_,_,_,rfl,Aq.rsl (R:=RBs) (sz:=1) (d:=d2) (Aq.Em (x:=key) rfl ⟨_,rfl,hk2⟩) EO (by omega) hl3 l2,Aq.rsl (R:=RBs) (sz:=1) (d:=d2) (Aq.Em (x:=cell) rfl ⟨_,rfl,hu⟩) EO (by omega) hl3 l1,RSl.nil⟩
   refine Cd _ _ (Vs.app v3 _) ?_
   refine A8 [_,_,_] (Aa7 h2 (k:= -1) (hp2.mono hl3) hn (by simp [A3,Bl,DV,Dd,EP];omega)) rfl rfl (fun v d4 L4 hl4 ⟨_,e4,L5,e5,hp5⟩=>?_)
   subst e4;subst e5
   generalize Br s1 (-1) ⟨true,[key],[cell],[]⟩=Q at hp5
   (refine AU rfl<|Ao rfl rfl<|Ao rfl rfl<|Ab rfl<|Ab rfl<|Aa<|Ad<|Ag rfl (Aj 0 rfl rfl)<|Ag rfl (Aj 0 rfl rfl)<|Ag rfl (Aj 0 rfl rfl)<|Ab rfl<|Au rfl<|Ai rfl ?_)
   refine AZ 3 [.pointer (some ⟨bp,0,none⟩),.int .i64 Q.2.1,.int .i64 ((0:Nat):Int),.int .i64 count] rfl rfl rfl rfl (Aca rfl) rfl rfl ?_
   (refine Au rfl<|Ai rfl ?_)
   refine AZ 3 [.pointer (some ⟨bp,0,none⟩),.int .i64 Q.2.1,.int .i64 1,.int .i64 count] rfl rfl rfl rfl (Aca rfl) rfl rfl ?_
   (refine Au rfl<|Ai rfl ?_)
   refine AZ 3 [.pointer (some ⟨bp,0,none⟩),.int .i64 Q.2.1,.int .i64 1,.int .i64 1] rfl rfl rfl rfl (Aca rfl) rfl rfl ?_
   (refine Aa<|Ad<|Ab rfl<|Ab rfl<|Aa<|An ?_)
   exact Ba [.int .i64 Q.2.2] ⟨Av rfl,trivial⟩ (d':=d4) (L':=tbD bt Tt (.pointer (some ⟨bp,0,none⟩)) ⟨Q.1,Q.2.1,1,1⟩::([bx b3 T3 [.pointer (some ⟨bt,0,none⟩)],bx b5 T5 [.slice va value.length vc],bx b4 T4 [.slice ka key.length kc]]++L5)) (Vs.perm (Adj (a:=tbD bt Tt (.pointer (some ⟨bp,0,none⟩)) ⟨Q.1,Q.2.1,1,1⟩) (l₁:=[bx b3 T3 [.pointer (some ⟨bt,0,none⟩)],bx b5 T5 [.slice va value.length vc],bx b4 T4 [.slice ka key.length kc]]) (l₂:=L5))) ⟨(hl2.trans hl3).trans hl4,rfl,L5,rfl,hp5⟩
  ·rw [if_neg hh0]
   obtain⟨x,rfl⟩:∃x,height=x+1:=⟨height - 1,by omega⟩
   (refine AU rfl<|Ao rfl rfl<|Ao rfl rfl<|Am rfl<|Ab rfl<|Aa<|Ah<|Ad<|Ab rfl<|AQ rfl rfl<|Aa<|Ar rfl (by omega)<|Ak<|Ah<|Ad<|Ag rfl (Aj 0 rfl rfl)<|Au rfl<|Ai rfl<|Ag rfl (Aj 3 rfl rfl)<|AJ rfl rfl<|Aa<|Ar rfl (by omega)<|Ak<|Ah ?_)
   refine Bv [_,_,_,_] L3 rfl ?_
   (refine Ag rfl (Aj 0 rfl rfl)<|Ag rfl (Aj 0 rfl rfl)<|Au rfl<|Ai rfl<|Ag rfl (Aj 3 rfl rfl)<|Ag rfl (Aj 0 rfl rfl)<|Au rfl<|Ai rfl<|Ag rfl (Aj 3 rfl rfl)<|Ag rfl (Aj 2 rfl rfl)<|Am rfl ?_)
   have hins:=AbB h3 x (r:=root) (h:=((x+1:Nat):Int)) (c:=count) (bt:=bt) (Tt:=Tt) (k:=root) (by omega) hp2 hk2 hu (by omega) (by omega) hr0 hr1
   generalize B1 s1 root key cell (x+1)=U at hins⊢
   refine Gs (α:=Nat×TypeId) (β:=Option Addr×Nat×List Ac) [(0,.pointer (some ⟨b3,0,none⟩)),(1,.pointer (some ⟨b5,0,none⟩)),(2,.pointer (some ⟨b4,0,none⟩))]
    (fun x=>[(8,.pointer (some ⟨x.1,0,none⟩))]) (fun x d L=>L=[bx x.1 x.2 [.int .i64 0,.int .i64 0,.slice none 0 0,.int .i64 0]])
    (fun y=>[(58,mdV U.2.1 y.1 y.2.1),(59,.bool U.2.2.1),(60,.int .i64 U.2.2.2)]) (fun y d' M=>AK d' (.slice y.1 U.2.1.key.length y.2.1) U.2.1.key∧MOk U.2.1∧PgG B d' U.1 dv (.pointer (some ⟨bp,0,none⟩)) y.2.2∧M=y.2.2) [] L3 rfl
    (fun x d d' M hl h=>h) (fun y d d' M hl h=>⟨RSl.mono (R:=AM) AW h.1 hl,h.2.1,h.2.2.1.mono hl,h.2.2.2⟩) (fun x=>rfl) (fun y=>rfl) rfl ⟨rfl,rfl,rfl,trivial⟩ ?_ ?_ ?_
   ·refine BX (fun b8 T8=>?_)
    (apply A5)
    exact⟨_,rfl,(b8,T8),⟨rfl,trivial⟩,rfl⟩
   ·refine TM (B:=[_,_,_]) hins (Ack (l₁:=[_,_,_])) rfl (fun v d4 L4 hl4 ⟨_,wa,wc,L5,e4,hk4,hm4,e5,hp5⟩=>⟨L5,by rw [e5];exact Ack (l₂:=[_,_,_]),?_⟩)
    subst e4
    (refine AU rfl<|Ao rfl rfl<|Ao rfl rfl<|Ao rfl rfl<|A5 ?_)
    exact⟨_,rfl,(wa,wc,L5),⟨rfl,rfl,rfl,trivial⟩,hk4,hm4,hp5,rfl⟩
   rintro⟨b8,T8⟩ ⟨wa,wc,L5⟩ ρ2 d4 M1 M2 hl4 hM1 ⟨hk4,hm4,hp5,hM2⟩
   subst hM1;subst hM2
   simp only at hk4 hp5⊢
   refine Bo 0 rfl rfl rfl rfl (Ach _) rfl ?_
   clear hins
   obtain⟨us,um,uw,ue⟩:=U
   simp only at hk4 hm4 hp5⊢
   (refine Ae rfl<|Ab rfl<|A5<|Ah<|Ad<|Ab rfl<|AQ rfl rfl<|Aa ?_)
   by_cases hue:ue=0
   ·rw [if_neg (fun q=>q hue)]
    subst hue
    have hcb:count+(if uw=true then 1 else 0)≤1000000:=by split<;>omega
    (refine Ar rfl (by omega)<|Ak<|Ah ?_)
    refine Bv [_,_,_,_,_] M2 rfl ?_
    (refine Ag rfl (Aj 0 rfl rfl)<|Au rfl<|Ai rfl<|Ag rfl (Aj 3 rfl rfl)<|Ae rfl ?_)
    refine BS rfl (h4 (b:=uw)) ?_
    have hcc:(count:Int)+(if uw=true then 1 else 0)=((count+(if uw=true then 1 else 0):Nat):Int):=by split<;>omega
    refine AO rfl rfl (by split<;>omega) (by split<;>omega) ?_
    (refine Au rfl<|Ai rfl<|B5 ?_)
    refine AZ 3 [.pointer (some ⟨bp,0,none⟩),.int .i64 root,.int .i64 ((x+1:Nat):Int),.int .i64 ((count:Int)+(if uw=true then 1 else 0))] rfl rfl rfl rfl (Aca rfl) rfl rfl ?_
    rw [hcc]
    (refine Aa<|Ad<|Ag rfl (Aj 0 rfl rfl)<|Bf 4 rfl rfl rfl ?_)
    refine C4 (A:=tbD bt Tt (.pointer (some ⟨bp,0,none⟩)) ⟨us,root,x+1,count+(if uw=true then 1 else 0)⟩::M2) (B:=[_,_,_,_]) (Abv h5 (t:=⟨us,root,x+1,count+(if uw=true then 1 else 0)⟩) (m:=um) hp5 hk4 hm4 (by show x+1≤1000000;omega))
     ((Adj (l₁:=[_,_,_])).trans (Aco _ (Ack (l₁:=[_,_,_,_])))) rfl (fun v d6 L6 hl6 ⟨_,e6,L7,e7,hp7⟩=>?_)
    subst e6;subst e7
    refine⟨d6,_,Vs.perm (Ack (l₂:=[_,_,_,_])),?_⟩
    (refine Ab rfl<|Aa<|An ?_)
    exact Ba [.int .i64 _] ⟨Av rfl,trivial⟩ (d':=d6) (L':=tbD bt Tt (.pointer (some ⟨bp,0,none⟩)) (CI ⟨us,root,x+1,count+(if uw=true then 1 else 0)⟩ um).1::([bx b3 T3 [.pointer (some ⟨bt,0,none⟩)],bx b5 T5 [.slice va value.length vc],bx b4 T4 [.slice ka key.length kc]]++L7)) ((Vs.drop (L':=[bx b3 T3 [.pointer (some ⟨bt,0,none⟩)],bx b5 T5 [.slice va value.length vc],bx b4 T4 [.slice ka key.length kc]]++(tbD bt Tt (.pointer (some ⟨bp,0,none⟩)) (CI ⟨us,root,x+1,count+(if uw=true then 1 else 0)⟩ um).1::L7)) (.cons_cons _ (.cons_cons _ (.cons_cons _ (.cons _ (Acb _)))))).trans (Vs.perm Adj)) ⟨(hl2.trans hl4).trans hl6,rfl,L7,rfl,hp7⟩
   ·rw [if_pos hue]
    (refine Ax rfl (by omega)<|Ad<|Ab rfl<|Ab rfl<|Aa<|An ?_)
    exact Ba [.int .i64 ue] ⟨Av rfl,trivial⟩ (d':=d4) (L':=tbD bt Tt (.pointer (some ⟨bp,0,none⟩)) ⟨us,root,x+1,count⟩::([bx b3 T3 [.pointer (some ⟨bt,0,none⟩)],bx b5 T5 [.slice va value.length vc],bx b4 T4 [.slice ka key.length kc]]++M2)) ((Vs.drop (L':=[bx b3 T3 [.pointer (some ⟨bt,0,none⟩)],bx b5 T5 [.slice va value.length vc],bx b4 T4 [.slice ka key.length kc]]++(tbD bt Tt (.pointer (some ⟨bp,0,none⟩)) ⟨us,root,x+1,count⟩::M2)) (.cons_cons _ (.cons_cons _ (.cons_cons _ (.cons_cons _ (.cons _ (Acb _))))))).trans (Vs.perm Adj)) ⟨hl2.trans hl4,rfl,M2,rfl,hp5⟩
 ·rw [if_pos hce]
  (refine AU rfl<|Ao rfl rfl<|Ao rfl rfl<|Am rfl<|Ab rfl<|Aa<|Ah<|Ad<|Ab rfl<|AQ rfl rfl<|Aa<|Ax rfl (by omega)<|Ad<|Ab rfl<|Ab rfl<|Aa<|An ?_)
  exact Ba [.int .i64 ce] ⟨Av rfl,trivial⟩ (d':=d2) (L':=tbD bt Tt (.pointer (some ⟨bp,0,none⟩)) ⟨s1,root,height,count⟩::([bx b3 T3 [.pointer (some ⟨bt,0,none⟩)],bx b5 T5 [.slice va value.length vc],bx b4 T4 [.slice ka key.length kc]]++L3)) (Vs.perm Adj) ⟨hl2,rfl,L3,rfl,hp2⟩
end
def FA(P:Program) (f:FuncId):Prop:=∀{d:Ac}{t:TD}{dv pv kv vv:Value}{L:List Ac}{bt:Nat}{Tt:TypeId}{key value:List UInt8}{B:List Ac},PgT d t.s dv pv L→AK d kv key→RB d B vv value→KZ t→
 Aw P f [.pointer (some ⟨bt,0,none⟩),kv,vv] d (tbD bt Tt pv t::(B++L)) (Ret fun v d' L'=>Le d d'∧v=.int .i64 (BY t key value).2∧∃L2,L'=tbD bt Tt pv (BY t key value).1::(B++L2)∧PgT d' (BY t key value).1.s dv pv L2)
theorem AbF{P:Program}{f:FuncId}{args:List Value}{d:Ac}{t t':TD}{e:Int}{dv pv:Value}{X L:List Ac}{bt:Nat}{Tt:TypeId}{B:List Ac} (h:Aw P f args d (tbD bt Tt pv t::(X++(B++L))) (Ret fun v d' L'=>Le d d'∧v=.int .i64 e∧∃L2,L'=tbD bt Tt pv t'::(X++L2)∧PgG B d' t'.s dv pv L2)):
  Aw P f args d (tbD bt Tt pv t::((X++B)++L)) (Ret fun v d' L'=>Le d d'∧v=.int .i64 e∧∃L2,L'=tbD bt Tt pv t'::((X++B)++L2)∧PgT d' t'.s dv pv L2):=by
 rw [Acg]
 refine Aw.D1 h (fun v d' L' _ ⟨h1,h2,M,h3,L2,p,h4⟩=>⟨d',tbD bt Tt pv t'::((X++B)++L2),Vs.perm ?_,h1,h2,L2,rfl,h4⟩)
 rw [h3,Acg]
 exact Aco _ (Aga X p)
set_option maxRecDepth 4000 in
set_option maxHeartbeats 2000000 in
theorem XJ{P:Program}{f f1 f2 f3:FuncId} (hd:dec P f=some (OF f1 f2 f3)) (h1:Lo P f1) (h2:Na P f2) (h3:Ip P f3):FA P f:=by
 intro d t dv pv kv vv L bt Tt key value B hp hk hv hf
 obtain⟨bp,rfl⟩:=hp.ptr
 obtain⟨ka,kc,rfl⟩:=hk.val
 obtain⟨va,vc,rfl⟩:=hv.val
 refine AG hd (Aca rfl) ?_
 show gwp P _ _ _ _ _
 apply Ah;apply AA
 refine Fc rfl (fun b3 T3=>?_)
 refine Fc rfl (fun b4 T4=>?_)
 refine Fc rfl (fun b5 T5=>?_)
 (refine Ab rfl<|Aa<|Ah<|Ad<|Ag rfl (Aj 2 rfl rfl)<|Ag rfl (Aj 1 rfl rfl) ?_)
 refine A8 [_,_,_] (h1 (L:=B++L) hk) rfl rfl (fun v d2 L2 _ ⟨e1,e2,e3⟩=>?_)
 subst e1;subst e2;subst e3
 by_cases hw:BM key=0
 ·by_cases hb:16384<value.length
  ·have hF:BY t key value=(t,3):=by unfold BY;rw [if_neg (fun q=>q hw),if_pos hb]
   rw [hF,hw]
   (refine Ab rfl<|Aa<|Ad<|Ab rfl<|AQ rfl rfl<|Aa<|Ar rfl (by omega)<|Ak<|Ah<|Ad<|Ag rfl (Aj 0 rfl rfl)<|AN rfl<|BQ rfl rfl<|Aa<|Ax rfl (by omega)<|Ad<|Ab rfl<|Aa<|An ?_)
   exact BE (L':=tbD bt Tt (.pointer (some ⟨bp,0,none⟩)) t::(B++L)) rfl (.cons _ (.cons _ (.cons _ (Acb _)))) ⟨Le.refl _,rfl,L,rfl,hp⟩
  ·have hF:BY t key value=(BT t (B4 t key value).1 (B4 t key value).2,(B4 t key value).2):=by unfold BY;rw [if_neg (fun q=>q hw),if_neg hb]
   have hkl:key.length≤64:=by unfold BM at hw;split at hw<;>omega
   rw [hF,hw]
   (refine Ab rfl<|Aa<|Ad<|Ab rfl<|AQ rfl rfl<|Aa<|Ar rfl (by omega)<|Ak<|Ah<|Ad<|Ag rfl (Aj 0 rfl rfl)<|AN rfl<|BQ rfl rfl<|Aa<|Ar rfl (by omega)<|Ak<|Ad<|Ag rfl (Aj 2 rfl rfl)<|N4 ?_)
   refine C4 (A:=tbD bt Tt (.pointer (some ⟨bp,0,none⟩)) t::(([bx b3 T3 [.pointer (some ⟨bt,0,none⟩)],bx b5 T5 [.slice va value.length vc],bx b4 T4 [.slice ka key.length kc]]++B)++L)) (B:=[])
    (h3 (t':=(B4 t key value).1) (e:=(B4 t key value).2) (X':=[bx b3 T3 [.pointer (some ⟨bt,0,none⟩)],bx b5 T5 [.slice va value.length vc],bx b4 T4 [.slice ka key.length kc]]++B) hp (Rm t key value)
     (fun d1 hl1=>AbF (h2 (B:=B) ⟨L,Adp _,hp.mono hl1⟩ (RSl.mono (R:=AM) AW hk hl1) (hv.mono hl1) hkl (by omega) hf))) ?_ rfl (fun v d4 L4 hl4 ⟨_,e4,L5,e5,hp5⟩=>?_)
   ·rw [Ads]
    refine(Adj (l₁:=[_,_,_])).trans (Aco _ ((Afb (l₂:=[bx b3 T3 [.pointer (some ⟨bt,0,none⟩)],bx b5 T5 [.slice va value.length vc],bx b4 T4 [.slice ka key.length kc]]) (B++L) ?_).trans (List.Perm.of_eq (by simp))))
    exact((Ack (l₁:=[_,_]) (l₂:=[_])).trans (Aco _ (Adp _)))
   ·subst e4;subst e5
    refine⟨d4,_,Vs.refl _ _,?_⟩
    rw [Ads]
    (refine Ab rfl<|Aa<|An ?_)
    exact Ba [.int .i64 (B4 t key value).2] ⟨Av rfl,trivial⟩ (d':=d4) (L':=tbD bt Tt (.pointer (some ⟨bp,0,none⟩)) (BT t (B4 t key value).1 (B4 t key value).2)::(B++L5)) (Vs.drop (.cons_cons _ (.cons _ (.cons _ (.cons _ (Acb _)))))) ⟨hl4,rfl,L5,rfl,hp5⟩
 ·have hF:BY t key value=(t,BM key):=by unfold BY;rw [if_pos hw]
  rw [hF]
  (refine Ab rfl<|Aa<|Ad<|Ab rfl<|AQ rfl rfl<|Aa<|Ax rfl (by omega)<|Ad<|Ab rfl<|Ab rfl<|Aa<|An ?_)
  exact BE (L':=tbD bt Tt (.pointer (some ⟨bp,0,none⟩)) t::(B++L)) rfl (.cons _ (.cons _ (.cons _ (Acb _)))) ⟨Le.refl _,rfl,L,rfl,hp⟩
theorem FA.own{P:Program}{f:FuncId} (h:FA P f) {d:Ac}{t:TD}{dv pv kv vv:Value}{L:List Ac}{bt:Nat}{Tt:TypeId}{key value:List UInt8}{g:Ac} (hp:PgT d t.s dv pv L) (hk:AK d kv key) (hv:Aq 1 AM d vv value g) (hf:KZ t):
  Aw P f [.pointer (some ⟨bt,0,none⟩),kv,vv] d (tbD bt Tt pv t::g::L) (Ret fun v d' L'=>Le d d'∧v=.int .i64 (BY t key value).2∧∃L2,L'=tbD bt Tt pv (BY t key value).1::g::L2∧PgT d' (BY t key value).1.s dv pv L2):=
 h (B:=[g]) hp hk (RB.own hv) hf
theorem FA.data{P:Program}{f:FuncId} (h:FA P f) {d:Ac}{t:TD}{dv pv kv vv:Value}{L:List Ac}{bt:Nat}{Tt:TypeId}{key value:List UInt8} (hp:PgT d t.s dv pv L) (hk:AK d kv key) (hv:AK d vv value) (hf:KZ t):
  Aw P f [.pointer (some ⟨bt,0,none⟩),kv,vv] d (tbD bt Tt pv t::L) (Ret fun v d' L'=>Le d d'∧v=.int .i64 (BY t key value).2∧∃L2,L'=tbD bt Tt pv (BY t key value).1::L2∧PgT d' (BY t key value).1.s dv pv L2):=
 h (B:=[]) hp hk (RB.data hv) hf
end Go.Gk.Tre
end
section
namespace Go.Gk.Tre
open Go Go.Gk Go.Gk.Dev Go.Gk.Cch Go.Gk.Pgr Go.Gk.Chn Go.Gk.Node
def wk0:TD:=⟨pdN 9, -1,0,0⟩
def wk1:TD:=(BY wk0 [97] [5]).1
def wk2:TD:=(Dj wk1 [97]).1
theorem Aak:(BY wk0 [97] [5]).2=0:=by decide+kernel
theorem VT:wk1.height=1:=by decide+kernel
theorem YA:wk1.count=1:=by decide+kernel
theorem ZL:wk1.s.free=8:=by decide+kernel
theorem AaA:CR wk1 [97]=([5],true,0):=by decide+kernel
theorem Aan:(Dj wk1 [97]).2=(true,0):=by decide+kernel
theorem Zw:wk2.root= -1:=by decide+kernel
theorem UP:wk2.height=0:=by decide+kernel
theorem XL:wk2.s.free=9:=by decide+kernel
theorem Zd:KZ wk0:=⟨by decide+kernel,by decide+kernel,by decide+kernel,by decide+kernel⟩
theorem TN:KZ wk1:=⟨by decide+kernel,by decide+kernel,by decide+kernel,by decide+kernel⟩
theorem Aat:UK wk1 [97]:=⟨TN,by decide+kernel,by decide+kernel,by decide+kernel⟩
end Go.Gk.Tre
end
section
namespace Go.Gk.Tre
open Go Go.Gk Go.Gk.Dev Go.Gk.Cch Go.Gk.Pgr Go.Gk.Chn Go.Gk.Node
attribute [local irreducible] gwp gws xwp
theorem Sn{d:Ac}{b:Nat}{T:TypeId} (a:UInt8):AK (join d (bx b T [Ay a])) (.slice (some ⟨b,0,none⟩) 1 1) [a]:=
 Aq.rsl (R:=AM) (sz:=1) (xs:=[a]) (Aq.Em (R:=AM) (d:=d) (x:=a) rfl rfl) AW (by omega) (Le.AH _ _) (Le.A6 _ _)
def Yb(P:Program) (f:FuncId):Prop:=∀{d:Ac},Aw P f [] d [] (Ret fun r _ L'=>r=.bool true∧L'=[])
def JR(a0 a1 a2 a3 a4 a5 a6 a7:Nat):AY:=⟨87,[(.tmp 0)],(sR (o1 0 (.mv (.const (.bool false))) .done) (sR (oc 9 a0 [(kZ 9)]<|om 8 9<|oe 10 8 0<|oe 11 8 1<|om 1 10<|om 2 11 .done) (.seq (sR (om 12 2<|o1 13 (.eqp false (tP 12) (.const (.pointer none)))<|om 14 13<|gF 15 14 2<|oF 16 14 (.bsl 1 1 [(.int .u8 0)] [(0,(.const (.int .u8 97)))])<|oF 17 14 (.bsl 1 1 [(.int .u8 0)] [(0,(.const (.int .u8 5)))])<|oF 18 14 (.call a1 [(tP 15),(tP 16),(tP 17)])<|oF 19 14 (.bin .neq (tP 18) (kZ 0))<|o1 20 (.pick (tP 14) (.const (.bool true)) (tP 19))<|om 21 20<|gF 22 21 2<|oF 23 21 (.call a2 [(tP 22)])<|oF 24 21 (.bin .neq (tP 23) (kZ 1))<|o1 25 (.pick (tP 21) (.const (.bool true)) (tP 24))<|om 26 25<|gF 27 26 2<|oF 28 26 (.call a3 [(tP 27)])<|oF 29 26 (.bin .neq (tP 28) (kZ 1))<|o1 30 (.pick (tP 26) (.const (.bool true)) (tP 29))<|om 31 30<|gF 32 31 1<|oF 33 31 (.call a4 [(tP 32)])<|oF 34 31 (.bin .neq (tP 33) (kZ 8))<|o1 35 (.pick (tP 31) (.const (.bool true)) (tP 34)) .done) (.cond (tP 35) (sR (o1 0 (.mv (.const (.bool false))) .done) .ret) .skip)) (sR (om 37 2<|o1 38 (.bsl 1 1 [(.int .u8 0)] [(0,(.const (.int .u8 97)))])<|oc 39 a5 [(tP 37),(tP 38)]<|om 36 39<|oe 40 36 0<|oe 41 36 1<|oe 42 36 2<|om 3 40<|om 4 41<|om 5 42 .done) (sR (om 44 2<|o1 45 (.bsl 1 1 [(.int .u8 0)] [(0,(.const (.int .u8 97)))])<|oc 46 a6 [(tP 44),(tP 45)]<|om 43 46<|oe 47 43 0<|oe 48 43 1<|om 6 47<|om 7 48 .done) (sR (om 49 5<|ob 50 .eql (tP 49) (kZ 0)<|om 51 50<|gT 52 51 4<|gP 53 51 52<|om 54 53<|gT 55 54 3<|oT 56 54 (.len (tP 55))<|oT 57 54 (.bin .eql (tP 56) (kZ 1))<|gP 58 54 57<|om 59 58<|gT 60 59 3<|oT 61 59 (.idx 1 (tP 60) (kZ 0))<|oT 62 59 (.ld none (tP 61))<|oT 63 59 (.bin .eql (tP 62) (.const (.int .u8 5)))<|gP 64 59 63<|om 65 64<|gT 66 65 7<|oT 67 65 (.bin .eql (tP 66) (kZ 0))<|gP 68 65 67<|om 69 68<|gT 70 69 6<|gP 71 69 70<|om 72 71<|gT 73 72 2<|oT 74 72 (.call a7 [(tP 73)])<|oT 75 72 (.bin .eql (tP 74) (kZ (-1)))<|gP 76 72 75<|om 77 76<|gT 78 77 2<|oT 79 77 (.call a2 [(tP 78)])<|oT 80 77 (.bin .eql (tP 79) (kZ 0))<|gP 81 77 80<|om 82 81<|gT 83 82 1<|oT 84 82 (.call a4 [(tP 83)])<|oT 85 82 (.bin .eql (tP 84) (kZ 9))<|gP 86 82 85<|om 0 86 .done) .ret))))))⟩
set_option maxRecDepth 4000 in
set_option maxHeartbeats 1000000 in
theorem Ue{P:Program}{f f1 f2 f3 f4 f5 f6 f7 f8:FuncId} (hd:dec P f=some (JR f1 f2 f3 f4 f5 f6 f7 f8)) (h1:Ij P f1) (h2:FA P f2) (h3:G5 P f3) (h4:HS P f4) (h5:Ld P f5) (h6:HW P f6) (h7:NN P f7) (h8:LF P f8):Yb P f:=by
 intro d
 refine AG hd (Aca rfl) ?_
 show gwp P _ _ _ _ _
 (refine Ad<|Ae rfl<|Aa<|Ad ?_)
 refine D2 (L:=[]) (h1 (n:=9) (by omega) (by omega)) rfl (fun u d1 L1 hl1 ⟨bt,Tt,bd,bp,L2,q1,q2,hp⟩=>?_)
 subst q1;subst q2
 (refine AU rfl<|Ao rfl rfl<|Ao rfl rfl<|Al rfl<|Al rfl<|Aa<|Ah<|Ad<|Al rfl<|C7 rfl rfl<|Ae rfl<|Af rfl<|Al rfl<|Af rfl ?_)
 refine Ea (v0:=Ay 97) rfl rfl (fun b16 T16=>?_)
 refine Cd (join d1 (bx b16 T16 [Ay 97])) _ Vs.freeze ?_
 have k1:AK (join d1 (bx b16 T16 [Ay 97])) _ [97]:=Sn 97
 have hp:=hp.mono (Le.AH d1 (bx b16 T16 [Ay 97]))
 generalize join d1 (bx b16 T16 [Ay 97])=d3 at k1 hp
 (apply Af;rfl)
 refine Ea (v0:=Ay 5) rfl rfl (fun b17 T17=>?_)
 have k2:Aq 1 AM d3 (.slice (some ⟨b17,0,none⟩) 1 1) [5] (bx b17 T17 [Ay 5]):=Aq.Em (R:=AM) (d:=d3) (x:=(5:UInt8)) rfl rfl
 have hp:PgT d3 wk0.s (.pointer (some ⟨bd,0,none⟩)) (.pointer (some ⟨bp,0,none⟩)) L2:=⟨_,hp⟩
 (apply Af;rfl)
 refine Cd d3 _ (Vs.perm (Adc (tbD bt Tt (.pointer (some ⟨bp,0,none⟩)) wk0) (bx b17 T17 [Ay 5]) L2)) ?_
 refine A8 [] (h2.own (t:=wk0) (bt:=bt) (Tt:=Tt) hp k1 k2 Zd) rfl rfl (fun v d5 L5 hl5 ⟨_,e1,L6,e2,hp6⟩=>?_)
 subst e1;subst e2
 refine Cd d5 _ (Vs.drop (.cons_cons _ (.cons _ (Acb _)))) ?_
 rw [Aak]
 have hp6:PgT d5 wk1.s (.pointer (some ⟨bd,0,none⟩)) (.pointer (some ⟨bp,0,none⟩)) L6:=hp6
 have g3:CS P f3 [.pointer (some ⟨bt,0,none⟩)] d5 (tbD bt Tt (.pointer (some ⟨bp,0,none⟩)) wk1::L6) (.int .i64 ((1:Nat):Int)):=by
  have:=h3 (d:=d5) (t:=wk1) (bt:=bt) (pb:=bp) (Tt:=Tt) (L:=L6)
  simpa only [VT] using this
 have g4:CS P f4 [.pointer (some ⟨bt,0,none⟩)] d5 (tbD bt Tt (.pointer (some ⟨bp,0,none⟩)) wk1::L6) (.int .i64 ((1:Nat):Int)):=by
  have:=h4 (d:=d5) (t:=wk1) (bt:=bt) (pb:=bp) (Tt:=Tt) (L:=L6)
  simpa only [YA] using this
 have g5:CS P f5 [.pointer (some ⟨bp,0,none⟩)] d5 L6 (.int .i64 ((8:Nat):Int)):=by
  obtain⟨n6,hp6⟩:=hp6
  have:=h5 hp6
  rw [show(wtc wk1.s n6).free=8 from ZL] at this
  exact this
 have w1:=AaA
 have w2:=Aan
 have w3:=Zw
 have w4:=UP
 have w5:=XL
 have w6:=Aat
 have w7:=TN
 unfold wk2 at w3 w4 w5
 generalize hw1:wk1=t1 at hp6 g3 g4 w1 w2 w3 w4 w5 w6 w7
 rw [show(BY wk0 [97] [5]).1=t1 from hw1]
 clear hw1
 have hth:=w7.h
 (refine Af rfl<|AQ rfl rfl<|As rfl rfl<|Ae rfl<|Bc rfl (by omega)<|Af rfl<|Al rfl<|Af rfl ?_)
 refine BU [] g3 rfl rfl ?_
 (refine Af rfl<|AQ rfl rfl<|As rfl rfl<|Ae rfl<|Bc rfl (by omega)<|Af rfl<|Al rfl<|Af rfl ?_)
 refine BU [] g4 rfl rfl ?_
 (refine Af rfl<|AQ rfl rfl<|As rfl rfl<|Ae rfl<|Bc rfl (by omega)<|Af rfl<|Al rfl<|Af rfl ?_)
 refine BU [_] g5 rfl rfl ?_
 (refine Af rfl<|AQ rfl rfl<|As rfl rfl<|Aa<|Ar rfl (by omega)<|Ak<|Ad<|Al rfl ?_)
 refine Ea (v0:=Ay 97) rfl rfl (fun b38 T38=>?_)
 refine Cd (join d5 (bx b38 T38 [Ay 97])) _ Vs.freeze ?_
 have k3:AK (join d5 (bx b38 T38 [Ay 97])) _ [97]:=Sn 97
 have hp6:=hp6.mono (Le.AH d5 (bx b38 T38 [Ay 97]))
 generalize join d5 (bx b38 T38 [Ay 97])=d6 at k3 hp6
 skip
 refine A8 [] (QI (s:=t1.s) (root:=t1.root) (h:=t1.height) (c:=t1.count) (bt:=bt) (Tt:=Tt) h6 hp6 k3 (by omega)) rfl rfl (fun v d7 L7 hl7 ⟨_,u,L8,e1,hu,e2,hp8⟩=>?_)
 rw [show CR ⟨t1.s,t1.root,t1.height,t1.count⟩ [97]=([5],true,0) from w1] at e1 hu
 have e1:v=.tuple #[u,.bool true,.int .i64 0]:=e1
 have hu:AK d7 u [5]:=hu
 subst e1;subst e2
 obtain⟨ua,uc,rfl⟩:∃ua uc,u=.slice ua 1 uc:=hu.val
 (refine AU rfl<|Ao rfl rfl<|Ao rfl rfl<|Ao rfl rfl<|Am rfl<|Ae rfl<|Ab rfl<|Aa<|Ad<|Al rfl ?_)
 refine Ea (v0:=Ay 97) rfl rfl (fun b45 T45=>?_)
 refine Cd (join d7 (bx b45 T45 [Ay 97])) _ Vs.freeze ?_
 have k4:AK (join d7 (bx b45 T45 [Ay 97])) _ [97]:=Sn 97
 have hp8:=hp8.mono (Le.AH d7 (bx b45 T45 [Ay 97]))
 have hu:=RSl.mono (R:=AM) AW hu (Le.AH d7 (bx b45 T45 [Ay 97]))
 generalize join d7 (bx b45 T45 [Ay 97])=d8 at k4 hp8 hu
 skip
 refine A8 [] (h7 (t:=t1) (bt:=bt) (Tt:=Tt) hp8 k4 (fun _=>w6)) rfl rfl (fun v d9 L9 hl9 ⟨_,e1,L10,e2,hp10⟩=>?_)
 rw [w2] at e1
 have e1:v=.tuple #[.bool true,.int .i64 0]:=e1
 subst e1;subst e2
 have hu:=RSl.mono (R:=AM) AW hu hl9
 generalize (Dj t1 [97]).1=t2 at w3 w4 w5 hp10
 have g6:CS P f8 [.pointer (some ⟨bt,0,none⟩)] d9 (tbD bt Tt (.pointer (some ⟨bp,0,none⟩)) t2::L10) (.int .i64 (-1)):=by
  have:=h8 (d:=d9) (t:=t2) (bt:=bt) (pb:=bp) (Tt:=Tt) (L:=L10)
  simpa only [w3] using this
 have g7:CS P f3 [.pointer (some ⟨bt,0,none⟩)] d9 (tbD bt Tt (.pointer (some ⟨bp,0,none⟩)) t2::L10) (.int .i64 ((0:Nat):Int)):=by
  have:=h3 (d:=d9) (t:=t2) (bt:=bt) (pb:=bp) (Tt:=Tt) (L:=L10)
  simpa only [w4] using this
 have g8:CS P f5 [.pointer (some ⟨bp,0,none⟩)] d9 L10 (.int .i64 ((9:Nat):Int)):=by
  obtain⟨n6,hp6⟩:=hp10
  have:=h5 hp6
  rw [show(wtc t2.s n6).free=9 from w5] at this
  exact this
 clear w1 w2 w3 w4 w5 w6 w7
 (refine AU rfl<|Ao rfl rfl<|Ao rfl rfl<|Ae rfl<|Ab rfl<|Aa<|Ad<|Ab rfl<|AJ rfl rfl<|Ae rfl<|Be rfl (by omega)<|Af rfl<|Ae rfl<|AF rfl rfl<|Ae rfl<|Af rfl<|Am rfl<|Af rfl<|AN rfl<|Af rfl<|AJ rfl rfl<|AF rfl rfl<|Ae rfl<|Be rfl (by omega)<|Af rfl<|Am rfl<|Af rfl ?_)
 refine BL (R:=AM) (m:=0) rfl hu rfl rfl (by decide) (fun b61 o61 cs61 hcl61 hd61 q61=>?_)
 have q61:cs61=[Value.int .u8 5]:=q61
 subst q61
 (refine Af rfl<|Ag rfl (B7 (by assumption) rfl)<|Af rfl<|AJ rfl rfl<|AF rfl rfl<|Ae rfl<|Be rfl (by omega)<|Af rfl<|Ab rfl<|Af rfl<|AJ rfl rfl<|AF rfl rfl<|Ae rfl<|Be rfl (by omega)<|Af rfl<|Ae rfl<|AF rfl rfl<|Ae rfl<|Af rfl<|Al rfl<|Af rfl ?_)
 refine BU [] g6 rfl rfl ?_
 (refine Af rfl<|AJ rfl rfl<|AF rfl rfl<|Ae rfl<|Be rfl (by omega)<|Af rfl<|Al rfl<|Af rfl ?_)
 refine BU [] g7 rfl rfl ?_
 (refine Af rfl<|AJ rfl rfl<|AF rfl rfl<|Ae rfl<|Be rfl (by omega)<|Af rfl<|Al rfl<|Af rfl ?_)
 refine BU [_] g8 rfl rfl ?_
 (refine Af rfl<|AJ rfl rfl<|AF rfl rfl<|Ae rfl<|Aa<|An ?_)
 exact Ba [.bool true] ⟨Av rfl,trivial⟩ (d':=d9) (L':=[]) (Vs.drop (Aec _)) ⟨rfl,rfl⟩
section
section
variable {P:Program}{pan:List PanicEntry→AR}{Qn:Env→AR}{Ls L:List Ac}{ρ:Env}{d:Ac}{s:GS}{t:Nat}{tk:Bool}
theorem Vy{x y:Operand}{b:UInt8} (ex:ev ρ x=Ay b) (ey:ev ρ y=.int .u8 1) (h:gws P pan Qn s Ls (upd ρ t (Ay (b+1))) d L):gws P pan Qn (.op tk ⟨some t,none,.bin .add x y⟩ s) Ls ρ d L:=
 Da (by
  have e:IntKind.u8.wrap ((b.toNat:Int)+1)=((b+1).toNat:Int):=by
   simp [IntKind.wrap,IntKind.signed,IntKind.bits,UInt8.toNat_add]
  rw [ex,ey];simp only [CV,Ay];simp [e]) h
end
theorem Iy{key:List UInt8}:BM key=0∨BM key=2:=by unfold BM;split<;>simp
theorem PN{s:PD}{n:Nat}:∀m,(wtc s n).writes m=s.writes m
 |0=>rfl
 |m+1=>by rw [PD.writes,PD.writes,PN m]
theorem Yh{s:PD}{n:Nat}:(wtc s n).flush=wtc s.flush n:=by
 unfold PD.flush
 rw [show(wtc s n).writes (wtc s n).kinds.length=s.writes s.kinds.length from PN _]
abbrev W9:=Int×List UInt8×List UInt8
def RAc(d:Ac) (cs:List Value) (x:W9):Prop:=∃kv vv,cs=[.int .i64 x.1,kv,vv]∧AK d kv x.2.1∧AK d vv x.2.2
theorem S4:F3 RAc:=fun hl ⟨kv,vv,e,h1,h2⟩=>⟨kv,vv,e,RSl.mono (R:=AM) AW h1 hl,RSl.mono (R:=AM) AW h2 hl⟩
def O8(P:Program) (f:FuncId):Prop:=∀{d:Ac}{t:TD}{dv pv w:Value}{L:List Ac}{bt:Nat}{Tt:TypeId}{acts:List W9}{most N:Nat},PgT d t.s dv pv L→Gr N 0 t [] []→RSl 3 RAc d w acts→most≤1000→
 Aw P f [pv,.pointer (some ⟨bt,0,none⟩),w,.int .i64 most] d (tbD bt Tt pv t::L) (Ret fun v d' L'=>Le d d'∧∃u t' l P' L2,v=.tuple #[u,.bool true]∧RSl 2 RKv d' u l∧Gr N most t' l P'∧L'=tbD bt Tt pv t'::L2∧PgT d' t'.s dv pv L2)
def Ji(a0 a1 a2 a3 a4 a5 a6 a7 a8 a9 a10 a11 a12 a13:Nat):AY:=⟨226,[(.tmp 8),(.tmp 9)],(sR (o1 8 (.mv nS)<|o1 9 (.mv (.const (.bool false))) .done) (sR (o1 10 (.mv nS) .done) (.seq (sR (o1 11 (.mv (kZ 0)) .done) (.block 0 (.loop (.seq (sR (om 29 11<|om 30 2<|oL 31 30<|ob 32 .lss (tP 29) (tP 31)<|om 33 32<|gT 34 33 11<|gT 35 33 3<|oT 36 33 (.bin .lss (tP 34) (tP 35))<|gP 37 33 36 .done) (.cond (tP 37) .skip (.exit 0))) (.seq (.block 1 (sR (om 40 2<|om 41 11<|oI 42 3 40 41<|o1 43 (.ld (some 3) (tP 42))<|o1 12 (.alo (.agg #[(.int .i64 0),(.slice none 0 0),(.slice none 0 0)]))<|o0 (.st 3 (tP 12) (tP 43)) .done) (sR (oj 44 2 12<|ol 45 44<|oc 46 a0 [(tP 45),(kZ 700)]<|om 13 46 .done) (sR (oj 47 1 12<|ol 48 47<|oc 49 a1 [(tP 48)]<|om 14 49 .done) (sR (om 50 1<|oc 51 a2 [(tP 50)]<|ob 52 .mul (kZ 4) (tP 51)<|ob 53 .add (tP 52) (kZ 3)<|om 54 13<|oL 55 54<|oc 56 a3 [(tP 55)]<|ob 57 .add (tP 53) (tP 56)<|om 15 57 .done) (sR (om 58 0<|oc 59 a4 [(tP 58)]<|om 16 59 .done) (.seq (sR (oj 60 0 12<|ol 61 60 .done) (.block 2 (sR (ob 109 .eql (tP 61) (kZ 0)<|om 108 109 .done) (.cond (tP 108) (sR (o1 110 (.bsl 0 1 [(.int .u8 0)] [])<|om 111 13<|o1 112 (.app 1 1 [(.int .u8 0)] (tP 110) (tP 111))<|om 17 112 .done) (sR (om 113 1<|oj 114 1 12<|ol 115 114<|om 116 17<|oc 117 a5 [(tP 113),(tP 115),(tP 116)]<|om 18 117 .done) (.seq (sR (om 118 18<|ob 119 .eql (tP 118) (kZ 190)<|om 120 119<|gT 121 120 14<|oT 122 120 (.bin .eql (tP 121) (kZ 0))<|gP 123 120 122<|om 124 123<|gT 125 124 16<|gT 126 124 15<|oT 127 124 (.bin .lss (tP 125) (tP 126))<|gP 128 124 127<|om 129 128<|gT 130 129 0<|oT 131 129 (.call a4 [(tP 130)])<|gT 132 129 16<|oT 133 129 (.bin .eql (tP 131) (tP 132))<|gP 134 129 133 .done) (.cond (tP 134) (.exit 1) .skip)) (.seq (sR (om 135 18<|om 136 14<|ob 137 .neq (tP 135) (tP 136) .done) (.cond (tP 137) (sR (o1 8 (.mv nS)<|o1 9 (.mv (.const (.bool false))) .done) .ret) .skip)) (.seq (sR (om 138 18<|ob 139 .eql (tP 138) (kZ 0) .done) (.cond (tP 139) (rG (om 140 10<|oj 141 1 12<|ol 142 141<|o1 143 (.b2s (tP 142))<|om 144 13<|o1 145 (.b2s (tP 144))<|oc 146 a6 [(tP 140),(tP 143),(tP 145)]<|om 10 146 .done)) .skip)) (sR (om 147 17<|oL 148 147<|o1 149 (.mv (kZ 0)) .done) (.block 3 (.loop (sR (ob 150 .lss (tP 149) (tP 148) .done) (.seq (.cond (tP 150) .skip (.exit 3)) (.seq (.block 4 (sR (om 151 149<|om 19 151 .done) (rG (om 152 17<|om 153 19<|oI 154 1 152 153<|ol 155 154<|ob 156 .add (tP 155) (.const (.int .u8 1))<|oI 157 1 152 153<|o0 (.st 1 (tP 157) (tP 156)) .done)))) (rG (ob 158 .add (tP 149) (kZ 1)<|om 149 158 .done))))))))))))) (sR (ob 160 .eql (tP 61) (kZ 1)<|om 159 160 .done) (.cond (tP 159) (sR (om 162 1<|oj 163 1 12<|ol 164 163<|oc 165 a7 [(tP 162),(tP 164)]<|om 161 165<|oe 166 161 0<|oe 167 161 1<|om 20 166<|om 21 167 .done) (.seq (sR (om 168 21<|ob 169 .eql (tP 168) (kZ 190)<|om 170 169<|gT 171 170 14<|oT 172 170 (.bin .eql (tP 171) (kZ 0))<|gP 173 170 172<|om 174 173<|gT 175 174 16<|gT 176 174 15<|oT 177 174 (.bin .lss (tP 175) (tP 176))<|gP 178 174 177<|om 179 178<|gT 180 179 0<|oT 181 179 (.call a4 [(tP 180)])<|gT 182 179 16<|oT 183 179 (.bin .eql (tP 181) (tP 182))<|gP 184 179 183<|om 185 184<|gT 186 185 20<|oT 187 185 (.un .not (tP 186))<|gP 188 185 187 .done) (.cond (tP 188) (.exit 1) .skip)) (.seq (sR (om 189 21<|om 190 14<|ob 191 .neq (tP 189) (tP 190) .done) (.cond (tP 191) (sR (o1 8 (.mv nS)<|o1 9 (.mv (.const (.bool false))) .done) .ret) .skip)) (sR (om 193 10<|oj 194 1 12<|ol 195 194<|o1 196 (.b2s (tP 195))<|oc 197 a8 [(tP 193),(tP 196)]<|om 192 197<|oe 198 192 0<|oe 199 192 1<|om 22 198<|om 23 199 .done) (.seq (sR (om 200 21<|ob 201 .eql (tP 200) (kZ 0)<|om 202 201<|gT 203 202 20<|gT 204 202 23<|oT 205 202 (.eqb true (tP 203) (tP 204))<|gP 206 202 205 .done) (.cond (tP 206) (sR (o1 8 (.mv nS)<|o1 9 (.mv (.const (.bool false))) .done) .ret) .skip)) (sR (om 207 21<|ob 208 .eql (tP 207) (kZ 0) .done) (.cond (tP 208) (rG (om 209 22<|om 10 209 .done)) .skip))))))) (sR (ob 211 .eql (tP 61) (kZ 3)<|om 210 211 .done) (.cond (tP 210) (sR (om 212 0<|oc 213 a9 [(tP 212)]<|ob 214 .neq (tP 213) (kZ 0)<|om 215 214<|gF 216 215 0<|oF 217 215 (.call a10 [(tP 216)])<|oF 218 215 (.bin .neq (tP 217) (kZ 0))<|o1 219 (.pick (tP 215) (.const (.bool true)) (tP 218)) .done) (.cond (tP 219) (sR (o1 8 (.mv nS)<|o1 9 (.mv (.const (.bool false))) .done) .ret) .skip)) (sR (om 63 1<|oj 64 1 12<|ol 65 64<|oc 66 a11 [(tP 63),(tP 65)]<|om 62 66<|oe 67 62 0<|oe 68 62 1<|oe 69 62 2<|om 24 67<|om 25 68<|om 26 69 .done) (sR (om 71 10<|oj 72 1 12<|ol 73 72<|o1 74 (.b2s (tP 73))<|oc 75 a12 [(tP 71),(tP 74)]<|om 70 75<|oe 76 70 0<|oe 77 70 1<|om 27 76<|om 28 77 .done) (sR (om 78 26<|om 79 14<|ob 80 .neq (tP 78) (tP 79)<|om 81 80<|gF 82 81 26<|oF 83 81 (.bin .eql (tP 82) (kZ 0))<|gF 84 81 83<|gT 85 84 25<|gT 86 84 28<|oT 87 84 (.eqb true (tP 85) (tP 86))<|gT 88 84 87<|gF 89 88 24<|oF 90 88 (.b2s (tP 89))<|gF 91 88 27<|oF 92 88 (.bin .neq (tP 90) (tP 91))<|oT 93 84 (.pick (tP 88) (.const (.bool true)) (tP 92))<|oF 94 81 (.pick (tP 84) (tP 93) (.const (.bool false)))<|o1 95 (.pick (tP 81) (.const (.bool true)) (tP 94))<|om 96 95<|gF 97 96 26<|oF 98 96 (.bin .neq (tP 97) (kZ 0))<|gF 99 96 98<|gT 100 99 25<|gT 101 99 100<|gF 102 101 24<|oF 103 101 (.len (tP 102))<|oF 104 101 (.bin .neq (tP 103) (kZ 0))<|oT 105 99 (.pick (tP 101) (.const (.bool true)) (tP 104))<|oF 106 96 (.pick (tP 99) (tP 105) (.const (.bool false)))<|o1 107 (.pick (tP 96) (.const (.bool true)) (tP 106)) .done) (.cond (tP 107) (sR (o1 8 (.mv nS)<|o1 9 (.mv (.const (.bool false))) .done) .ret) .skip)))))))))))) (sR (om 220 1<|oc 221 a13 [(tP 220)]<|om 222 10<|oL 223 222<|ob 224 .neq (tP 221) (tP 223) .done) (.cond (tP 224) (sR (o1 8 (.mv nS)<|o1 9 (.mv (.const (.bool false))) .done) .ret) .skip))))))))) (rG (om 38 11<|ob 39 .add (tP 38) (kZ 1)<|om 11 39 .done))))))) (sR (om 225 10<|om 8 225<|o1 9 (.mv (.const (.bool true))) .done) .ret))))⟩
set_option maxRecDepth 4000 in
set_option maxHeartbeats 4000000 in
theorem Xd{P:Program}{f f1 f2 f3 f4 f5 f6 f7 f8 f9 f10 f11 f12 f13 f14:FuncId} (hd:dec P f=some (Ji f1 f2 f3 f4 f5 f6 f7 f8 f9 f10 f11 f12 f13 f14)) (h1:LN P f1) (h2:Nv P f2) (h3:G5 P f3) (h4:FD P f4) (h5:Ld P f5)
  (h6:FA P f6) (h7:Pl P f7) (h8:NN P f8) (h9:LQ P f9) (h10:OW P f10) (h11:Q7 P f11) (h12:HW P f12) (h13:OU P f13) (h14:HS P f14):O8 P f:=by
 intro d t dv pv w L bt Tt acts most N hp hg hw hmost
 obtain⟨bp,rfl⟩:=hp.ptr
 have hwl:=hw.BZ
 obtain⟨a,cw,rfl⟩:=hw.val
 refine AG hd (Aca rfl) ?_
 show gwp P _ _ _ _ _
 (refine Ad<|Am rfl<|Ae rfl<|Aa<|Ad<|Am rfl<|Aa<|Ah<|Ad<|Ab rfl<|Aa<|Az ?_)
 refine CL (α:=Nat×Option Addr×Nat×List KV) (fun x=>[(0,.pointer (some ⟨bp,0,none⟩)),(1,.pointer (some ⟨bt,0,none⟩)),(2,.slice a acts.length cw),(3,.int .i64 most),(10,.slice x.2.1 x.2.2.2.length x.2.2.1),(11,.int .i64 x.1)])
  (fun x d' L'=>Le d d'∧x.1≤acts.length∧x.1≤most∧RSl 2 RKv d' (.slice x.2.1 x.2.2.2.length x.2.2.1) x.2.2.2∧∃t' P' J L2,L'=J++tbD bt Tt (.pointer (some ⟨bp,0,none⟩)) t'::L2∧PgT d' t'.s dv (.pointer (some ⟨bp,0,none⟩)) L2∧Gr N x.1 t' x.2.2.2 P')
  (fun x=>most - x.1) (0,none,0,[]) ⟨rfl,rfl,rfl,rfl,rfl,rfl,trivial⟩ ⟨Le.refl _,Adg _,Adg _,RSl.nil,t,[],[],L,rfl,hp,hg⟩ ?_
 rintro⟨i,la,lc,l⟩ ρ d' L' ⟨hle,hi,him,hl,t,P',J,L2,rfl,hp2,hg2⟩
 simp only at hi him hl hg2⊢
 have hw2:=RSl.mono (R:=RAc) S4 hw hle
 by_cases e:i<acts.length
 ·by_cases e2:i<most
  ·(refine Ah<|Ad<|Ab rfl<|Am rfl<|AN rfl<|AE rfl rfl<|Ae rfl<|Be rfl (by omega)<|Af rfl<|Ab rfl<|Af rfl<|Ab rfl<|Af rfl<|AE rfl rfl<|AF rfl rfl<|Aa<|Ax rfl (by omega)<|Ak<|Ah<|Az<|Ad<|Am rfl<|Ab rfl ?_)
   refine BL (m:=i) rfl hw2 rfl rfl e (fun b o cs hcl hdc ⟨kv,vv,q,hk,hv⟩=>?_)
   subst q
   obtain⟨ka,kc,rfl⟩:=RSl.val hk
   obtain⟨va0,vc0,rfl⟩:=RSl.val hv
   obtain⟨hkl,hth⟩:=hg2.ok.far (by have:=hg2.ln;omega)
   (refine YI rfl (by assumption) rfl<|BX (fun _ _=>?_))
   rename_i b12 T12
   refine AZ 0 [.int .i64 acts[i].1,.slice ka acts[i].2.1.length kc,.slice va0 acts[i].2.2.length vc0] rfl rfl rfl rfl (Ach _) rfl rfl ?_
   generalize acts[i]=A at hk hv hcl hdc
   obtain⟨kind,key,val0⟩:=A
   simp only at hk hv hcl hdc⊢
   (refine Aa<|Ad<|Ai rfl<|Ag rfl (Aj 0 rfl rfl) ?_)
   refine Bi rfl (h1 hv (n:=700) (by omega)) (fun v0 d1 L1 _ ⟨z1,z2,hv1⟩=>?_)
   subst z1;subst z2
   rw [Adr]
   have hvl:(val0.take 700).length≤700:=by rw [Acw];omega
   generalize val0.take 700=val at hv1 hvl
   obtain⟨va,vc,rfl⟩:=RSl.val hv1
   (refine Am rfl<|Aa<|Ad<|Ai rfl<|Ag rfl (Aj 0 rfl rfl) ?_)
   refine BS rfl (h2 hk) ?_
   (refine Ab rfl<|Aa<|Ad<|Al rfl ?_)
   refine BU (_::J) (h3 (t:=t) (L:=L2)) rfl rfl ?_
   (refine LU rfl rfl (by omega) (by omega)<|AO rfl rfl (by omega) (by omega)<|Am rfl<|AN rfl ?_)
   refine BS rfl (h4 (n:=val.length) (by omega)) ?_
   have hpn:AP val.length≤10:=by unfold AP;omega
   (refine AO rfl rfl (by omega) (by omega)<|Ab rfl<|Aa<|Ad<|Al rfl ?_)
   have g5:∀{d t L},PgT d t dv (.pointer (some ⟨bp,0,none⟩)) L→CS P f5 [.pointer (some ⟨bp,0,none⟩)] d L (.int .i64 ((t.free:Nat):Int)):=fun⟨n6,hp6⟩=>h5 (s:=wtc _ n6) hp6
   have hfr:t.s.free≤8192:=by have:=hg2.ok.gd.len;have:=List.countP_le_length (p:=(·==0)) (l:=t.s.kinds);unfold PD.free;omega
   refine BU (_::J++[_]) (g5 hp2) (Ahg (_::J) _ L2) rfl ?_
   by_cases k0:kind=0
   ·subst k0
    (refine Ab rfl<|Aa<|Ah<|Ad<|Ai rfl<|Ag rfl (Aj 0 rfl rfl)<|Aa<|Az<|Ad<|AJ rfl rfl<|Ae rfl<|Aa<|Ax rfl (by omega)<|Ad ?_)
    refine Dn (cs:=[]) (by simp) (by simp [Instr.fill,Bp]) (fun b110 T110=>?_)
    (apply Am;rfl)
    refine ER (R:=AM) (sz:=1) 0 rfl rfl (Aq.Km (R:=AM) (sz:=1)) rfl (RSl.src (R:=AM) hv1 Gj (by omega) _) (by omega) (by simp;omega) (by simp;omega) (fun v17 g17 o17=>?_)
    rw [Adr] at o17
    obtain⟨oa,oc,rfl⟩:=o17.val
    (refine Am rfl<|Aa<|Ad<|Al rfl<|Ai rfl<|Ag rfl (Aj 1 rfl rfl)<|Am rfl ?_)
    refine C4 (A:=tbD bt Tt _ t::g17::L2) (B:=_::J) (h6.own (Tt:=Tt) hp2 hk o17 hkl) ((Adj (l₁:=_::_::J)).trans (Aco _ (Aco _ Ack))) rfl (fun v d4 L4 hl4 ⟨_,e4,L5,e5,hp5⟩=>?_)
    subst e4;subst e5
    have hkk:=hk.BZ
    have hll:l.length≤1000:=by have:=hg2.ln;omega
    have hl4':=RSl.mono (R:=RKv) EK hl hl4
    have hk4:=RSl.mono (R:=AM) AW hk hl4
    have hv4:=RSl.mono (R:=AM) AW hv1 hl4
    refine⟨d4,g17::(bx b12 T12 [.int .i64 0,.slice ka key.length kc,.slice va0 val0.length vc0]::J++tbD bt Tt (.pointer (some ⟨bp,0,none⟩)) (BY t key val).1::L5),Vs.perm ((Adj (l₁:=_::_::J)).trans (Aco _ (Aco _ Ack))).symm,?_⟩
    rcases Iy (key:=key) with hwk|hwk
    ·rcases hg2.put hwk hvl with ⟨q1,P2,hg3⟩|⟨q1,q2,q3,hg3⟩
     ·rw [q1,hwk]
      clear q1
      generalize (BY t key val).1=t2 at hp5 hg3⊢
      (refine Ab rfl<|Aa<|Ah<|Ad<|Ab rfl<|AJ rfl rfl<|Ae rfl<|Bc rfl (by omega)<|Ap rfl<|Ap rfl<|As rfl rfl<|Ae rfl<|Ap rfl<|Ap rfl<|Ap rfl<|As rfl rfl<|Ae rfl<|Ap rfl<|Ap rfl<|Ap rfl<|Ap rfl<|As rfl rfl<|Aa<|AS rfl<|Ak<|Ah<|Ad<|Ab rfl<|Ab rfl<|AQ rfl rfl<|Aa<|Ar rfl (by omega)<|Ak<|Ah<|Ad<|Ab rfl<|AJ rfl rfl<|Aa<|Ax rfl (by omega)<|AA<|Am rfl<|Ai rfl<|Ag rfl (Aj 1 rfl rfl)<|Bd rfl (by assumption)<|Am rfl<|Bd rfl (by assumption) ?_)
      refine Bi rfl (h7 hl4' hkk (by omega) (by omega)) (fun u d5 L6 hl5 ⟨z1,_,z3⟩=>?_)
      subst z1
      obtain⟨la2,lc2,rfl⟩:=z3.val
      rw [Adr]
      have hct:=hg3.ok.ct
      (refine Am rfl<|Aa<|Ad<|Am rfl<|AN rfl<|Ab rfl<|Aa<|Az ?_)
      refine CL (α:=Nat) (fun x=>[(0,.pointer (some ⟨bp,0,none⟩)),(1,.pointer (some ⟨bt,0,none⟩)),(2,.slice a acts.length cw),(3,.int .i64 most),(10,.slice la2 (DX l key val).length lc2),(11,.int .i64 i),(17,.slice oa val.length oc),(148,.int .i64 val.length),(149,.int .i64 x)])
       (fun x dd L'=>dd=d5∧x≤val.length∧∃xs g,xs.length=val.length∧Aq 1 AM d5 (.slice oa val.length oc) xs g∧L'=g::(bx b12 T12 [.int .i64 0,.slice ka key.length kc,.slice va0 val0.length vc0]::J++tbD bt Tt (.pointer (some ⟨bp,0,none⟩)) t2::L5)) (fun x=>val.length - x) 0 ⟨rfl,rfl,rfl,rfl,rfl,rfl,rfl,rfl,rfl,trivial⟩ ⟨rfl,Adg _,val,g17,rfl,Aq.mono (R:=AM) AW o17 (hl4.trans hl5),rfl⟩ ?_
      rintro k ρ d9 L9 ⟨rfl,hk9,xs,g9,hxl,o9,rfl⟩
      by_cases e9:k<val.length
      ·obtain⟨gb,gT,gl,gc,e10,rfl,hml,hmg,hset⟩:=o9.LH (m:=k) (by omega)
       rw [hxl] at e10
       cases e10
       (refine Ad<|AE rfl rfl<|Aa<|Ah<|Ax rfl (by omega)<|Ak<|Ah<|Az<|Ad<|Ab rfl<|Ab rfl<|Aa<|AA<|Am rfl<|Ab rfl<|Bx _ rfl rfl rfl (by omega) ?_)
       refine Ag rfl (Aj 0 rfl (by rw [Aem];exact hmg)) ?_
       refine Vy rfl rfl ?_
       refine KK k rfl rfl rfl e9 ?_
       refine BN 0 rfl rfl rfl rfl (by first|omega|(simp [Ay,Value.cells];omega)) rfl ?_
       (refine Aa<|AA<|AO rfl rfl (by omega) (by omega)<|Ab rfl<|Aa ?_)
       exact⟨k+1,by omega,⟨rfl,rfl,rfl,rfl,rfl,rfl,rfl,rfl,rfl,trivial⟩,rfl,e9,xs.set k _,_,by simpa using hxl,hset _,rfl⟩
      obtain rfl:k=val.length:=by omega
      (refine Ad<|AE rfl rfl<|Aa<|Ah<|Ar rfl (by omega)<|Bj<|Ad<|Al rfl ?_)
      refine BU (_::_::J) (h14 (t:=t2) (L:=L5)) rfl rfl ?_
      (refine Am rfl<|AN rfl<|AQ rfl rfl<|Aa<|Ar rfl (by omega)<|Ak<|AA<|Ab rfl<|AO rfl rfl (by omega) (by omega)<|Ab rfl<|Aa ?_)
      exact⟨(i+1,la2,lc2,DX l key val),by simp only;omega,⟨rfl,rfl,rfl,rfl,rfl,rfl,trivial⟩,(hle.trans hl4).trans hl5,e,e2,z3,t2,P2,_::_::J,L5,rfl,hp5.mono hl5,hg3⟩
     ·rw [q1,hwk]
      clear q1
      generalize (BY t key val).1=t2 at hp5 hg3 q3⊢
      have g5':=g5 hp5
      rw [q3] at g5'
      (refine Ab rfl<|Aa<|Ah<|Ad<|Ab rfl<|AJ rfl rfl<|Ae rfl<|Be rfl (by omega)<|Af rfl<|Ab rfl<|Af rfl<|AJ rfl rfl<|AF rfl rfl<|Ae rfl<|Be rfl (by omega)<|Af rfl<|Ab rfl<|Af rfl<|Ab rfl<|Af rfl<|AE rfl rfl<|AF rfl rfl<|Ae rfl<|Be rfl (by omega)<|Af rfl<|Al rfl<|Af rfl ?_)
      refine BU (_::_::J++[_]) g5' (Ahg (_::_::J) _ L5) rfl ?_
      (refine Af rfl<|Ab rfl<|Af rfl<|AJ rfl rfl<|AF rfl rfl<|Aa<|Ax rfl (by omega)<|Bj<|AA<|Ab rfl<|AO rfl rfl (by omega) (by omega)<|Ab rfl<|Aa ?_)
      exact⟨(i+1,la,lc,l),by simp only;omega,⟨rfl,rfl,rfl,rfl,rfl,rfl,trivial⟩,hle.trans hl4,e,e2,hl4',t2,P',_::_::J,L5,rfl,hp5,hg3⟩
    ·have hF:BY t key val=(t,2):=by unfold BY;rw [if_pos (by rw [hwk];decide),hwk]
     rw [hF] at hp5⊢
     rw [hwk]
     simp only at hp5⊢
     have hct:=hg2.ok.ct
     (refine Ab rfl<|Aa<|Ah<|Ad<|Ab rfl<|AJ rfl rfl<|Ae rfl<|Bc rfl (by omega)<|Ap rfl<|Ap rfl<|As rfl rfl<|Ae rfl<|Ap rfl<|Ap rfl<|Ap rfl<|As rfl rfl<|Ae rfl<|Ap rfl<|Ap rfl<|Ap rfl<|Ap rfl<|As rfl rfl<|Aa<|AS rfl<|Ak<|Ah<|Ad<|Ab rfl<|Ab rfl<|AQ rfl rfl<|Aa<|Ar rfl (by omega)<|Ak<|Ah<|Ad<|Ab rfl<|AJ rfl rfl<|Aa<|Ar rfl (by omega)<|Ak<|Ad<|Am rfl<|AN rfl<|Ab rfl<|Aa<|Az ?_)
     refine CL (α:=Nat) (fun x=>[(0,.pointer (some ⟨bp,0,none⟩)),(1,.pointer (some ⟨bt,0,none⟩)),(2,.slice a acts.length cw),(3,.int .i64 most),(10,.slice la (l).length lc),(11,.int .i64 i),(17,.slice oa val.length oc),(148,.int .i64 val.length),(149,.int .i64 x)])
      (fun x dd L'=>dd=d4∧x≤val.length∧∃xs g,xs.length=val.length∧Aq 1 AM d4 (.slice oa val.length oc) xs g∧L'=g::(bx b12 T12 [.int .i64 0,.slice ka key.length kc,.slice va0 val0.length vc0]::J++tbD bt Tt (.pointer (some ⟨bp,0,none⟩)) t::L5)) (fun x=>val.length - x) 0 ⟨rfl,rfl,rfl,rfl,rfl,rfl,rfl,rfl,rfl,trivial⟩ ⟨rfl,Adg _,val,g17,rfl,Aq.mono (R:=AM) AW o17 hl4,rfl⟩ ?_
     rintro k ρ d9 L9 ⟨rfl,hk9,xs,g9,hxl,o9,rfl⟩
     by_cases e9:k<val.length
     ·obtain⟨gb,gT,gl,gc,e10,rfl,hml,hmg,hset⟩:=o9.LH (m:=k) (by omega)
      rw [hxl] at e10
      cases e10
      (refine Ad<|AE rfl rfl<|Aa<|Ah<|Ax rfl (by omega)<|Ak<|Ah<|Az<|Ad<|Ab rfl<|Ab rfl<|Aa<|AA<|Am rfl<|Ab rfl<|Bx _ rfl rfl rfl (by omega) ?_)
      refine Ag rfl (Aj 0 rfl (by rw [Aem];exact hmg)) ?_
      refine Vy rfl rfl ?_
      refine KK k rfl rfl rfl e9 ?_
      refine BN 0 rfl rfl rfl rfl (by first|omega|(simp [Ay,Value.cells];omega)) rfl ?_
      (refine Aa<|AA<|AO rfl rfl (by omega) (by omega)<|Ab rfl<|Aa ?_)
      exact⟨k+1,by omega,⟨rfl,rfl,rfl,rfl,rfl,rfl,rfl,rfl,rfl,trivial⟩,rfl,e9,xs.set k _,_,by simpa using hxl,hset _,rfl⟩
     obtain rfl:k=val.length:=by omega
     (refine Ad<|AE rfl rfl<|Aa<|Ah<|Ar rfl (by omega)<|Bj<|Ad<|Al rfl ?_)
     refine BU (_::_::J) (h14 (t:=t) (L:=L5)) rfl rfl ?_
     (refine Am rfl<|AN rfl<|AQ rfl rfl<|Aa<|Ar rfl (by omega)<|Ak<|AA<|Ab rfl<|AO rfl rfl (by omega) (by omega)<|Ab rfl<|Aa ?_)
     exact⟨(i+1,la,lc,l),by simp only;omega,⟨rfl,rfl,rfl,rfl,rfl,rfl,trivial⟩,hle.trans hl4,e,e2,hl4',t,P',_::_::J,L5,rfl,hp5,hg2.more (by omega)⟩
   ·have hkk:=hk.BZ
    have hll:l.length≤1000:=by have:=hg2.ln;omega
    by_cases k1:kind=1
    ·subst k1
     (refine Ab rfl<|Aa<|Ah<|Ad<|Ai rfl<|Ag rfl (Aj 0 rfl rfl)<|Aa<|Az<|Ad<|AJ rfl rfl<|Ae rfl<|Aa<|Ar rfl (by omega)<|Ad<|AJ rfl rfl<|Ae rfl<|Aa<|Ax rfl (by omega)<|Ad<|Al rfl<|Ai rfl<|Ag rfl (Aj 0 rfl rfl) ?_)
     refine A8 (_::J) (h8 (t:=t) (Tt:=Tt) hp2 hk (fun _=>hg2.ok.can hll key)) rfl rfl (fun v d4 L4 hl4 ⟨_,e4,L5,e5,hp5⟩=>?_)
     subst e4;subst e5
     have hl4':=RSl.mono (R:=RKv) EK hl hl4
     have hk4:=RSl.mono (R:=AM) AW hk hl4
     rcases Iy (key:=key) with hwk|hwk
     ·rcases hg2.del hwk with ⟨q1,q1',P2,hg3⟩|⟨q1,q1',q2,q3,hg3⟩
      ·rw [q1,q1',hwk]
       clear q1 q1'
       generalize (Dj t key).1=t2 at hp5 hg3⊢
       have hct:=hg3.ok.ct
       have hdk:(Cb l key).2=isK l key:=by unfold Cb;cases hq:isK l key<;>simp
       generalize hbb:isK l key=bb at hdk
       cases bb with
       |true=>
        clear hbb
        (refine AU rfl<|Ao rfl rfl<|Ao rfl rfl<|Ae rfl<|Ab rfl<|Aa<|Ah<|Ad<|Ab rfl<|AJ rfl rfl<|Ae rfl<|Bc rfl (by omega)<|Ap rfl<|Ap rfl<|As rfl rfl<|Ae rfl<|Ap rfl<|Ap rfl<|Ap rfl<|As rfl rfl<|Ae rfl<|Ap rfl<|Ap rfl<|Ap rfl<|Ap rfl<|As rfl rfl<|Ae rfl<|Ap rfl<|Ap rfl<|As rfl rfl<|Aa<|AS rfl<|Ak<|Ah<|Ad<|Ab rfl<|Ab rfl<|AQ rfl rfl<|Aa<|Ar rfl (by omega)<|Ak<|Ad<|Am rfl<|Ai rfl<|Ag rfl (Aj 0 rfl rfl)<|Bd rfl (by assumption) ?_)
        refine Bi rfl (h9 hl4' hkk (by omega)) (fun u d5 L6 hl5 ⟨z1,_,u2,z2,z3⟩=>?_)
        rw [hdk] at z2
        subst z1;subst z2
        obtain⟨la2,lc2,rfl⟩:=z3.val
        rw [Adr]
        clear hdk
        (refine AU rfl<|Ao rfl rfl<|Ao rfl rfl<|Am rfl<|Ae rfl<|Aa<|Ah<|Ad<|Ab rfl<|AJ rfl rfl<|Ae rfl<|Be rfl (by omega)<|Af rfl<|Ae rfl<|Af rfl<|Ae rfl<|Af rfl<|Io rfl rfl<|AF rfl rfl<|Aa<|AS rfl<|Ak<|Ad<|Ab rfl<|AJ rfl rfl<|Aa<|Ax rfl (by omega)<|AA<|Am rfl<|Am rfl<|Aa<|Ad<|Al rfl ?_)
        refine BU (_::J) (h14 (t:=t2) (L:=L5)) rfl rfl ?_
        (refine Am rfl<|AN rfl<|AQ rfl rfl<|Aa<|Ar rfl (by omega)<|Ak<|AA<|Ab rfl<|AO rfl rfl (by omega) (by omega)<|Ab rfl<|Aa ?_)
        exact⟨(i+1,la2,lc2,(Cb l key).1),by simp only;omega,⟨rfl,rfl,rfl,rfl,rfl,rfl,trivial⟩,(hle.trans hl4).trans hl5,e,e2,z3,t2,P2,_::J,L5,rfl,hp5.mono hl5,hg3.more (by omega)⟩
       |false=>
        clear hbb
        (refine AU rfl<|Ao rfl rfl<|Ao rfl rfl<|Ae rfl<|Ab rfl<|Aa<|Ah<|Ad<|Ab rfl<|AJ rfl rfl<|Ae rfl<|Bc rfl (by omega)<|Ap rfl<|Ap rfl<|As rfl rfl<|Ae rfl<|Ap rfl<|Ap rfl<|Ap rfl<|As rfl rfl<|Ae rfl<|Ap rfl<|Ap rfl<|Ap rfl<|Ap rfl<|As rfl rfl<|Ae rfl<|Ap rfl<|Ap rfl<|As rfl rfl<|Aa<|AS rfl<|Ak<|Ah<|Ad<|Ab rfl<|Ab rfl<|AQ rfl rfl<|Aa<|Ar rfl (by omega)<|Ak<|Ad<|Am rfl<|Ai rfl<|Ag rfl (Aj 0 rfl rfl)<|Bd rfl (by assumption) ?_)
        refine Bi rfl (h9 hl4' hkk (by omega)) (fun u d5 L6 hl5 ⟨z1,_,u2,z2,z3⟩=>?_)
        rw [hdk] at z2
        subst z1;subst z2
        obtain⟨la2,lc2,rfl⟩:=z3.val
        rw [Adr]
        clear hdk
        (refine AU rfl<|Ao rfl rfl<|Ao rfl rfl<|Am rfl<|Ae rfl<|Aa<|Ah<|Ad<|Ab rfl<|AJ rfl rfl<|Ae rfl<|Be rfl (by omega)<|Af rfl<|Ae rfl<|Af rfl<|Ae rfl<|Af rfl<|Io rfl rfl<|AF rfl rfl<|Aa<|AS rfl<|Ak<|Ad<|Ab rfl<|AJ rfl rfl<|Aa<|Ax rfl (by omega)<|AA<|Am rfl<|Am rfl<|Aa<|Ad<|Al rfl ?_)
        refine BU (_::J) (h14 (t:=t2) (L:=L5)) rfl rfl ?_
        (refine Am rfl<|AN rfl<|AQ rfl rfl<|Aa<|Ar rfl (by omega)<|Ak<|AA<|Ab rfl<|AO rfl rfl (by omega) (by omega)<|Ab rfl<|Aa ?_)
        exact⟨(i+1,la2,lc2,(Cb l key).1),by simp only;omega,⟨rfl,rfl,rfl,rfl,rfl,rfl,trivial⟩,(hle.trans hl4).trans hl5,e,e2,z3,t2,P2,_::J,L5,rfl,hp5.mono hl5,hg3.more (by omega)⟩
      ·rw [q1,q1',hwk]
       clear q1 q1'
       generalize (Dj t key).1=t2 at hp5 hg3 q3⊢
       have g5':=g5 hp5
       rw [q3] at g5'
       (refine AU rfl<|Ao rfl rfl<|Ao rfl rfl<|Ae rfl<|Ab rfl<|Aa<|Ah<|Ad<|Ab rfl<|AJ rfl rfl<|Ae rfl<|Be rfl (by omega)<|Af rfl<|Ab rfl<|Af rfl<|AJ rfl rfl<|AF rfl rfl<|Ae rfl<|Be rfl (by omega)<|Af rfl<|Ab rfl<|Af rfl<|Ab rfl<|Af rfl<|AE rfl rfl<|AF rfl rfl<|Ae rfl<|Be rfl (by omega)<|Af rfl<|Al rfl<|Af rfl ?_)
       refine BU (_::J++[_]) g5' (Ahg (_::J) _ L5) rfl ?_
       (refine Af rfl<|Ab rfl<|Af rfl<|AJ rfl rfl<|AF rfl rfl<|Ae rfl<|Be rfl (by omega)<|Af rfl<|Ae rfl<|Af rfl<|Bu rfl<|AF rfl rfl<|Aa<|Bh rfl<|Bj<|AA<|Ab rfl<|AO rfl rfl (by omega) (by omega)<|Ab rfl<|Aa ?_)
       exact⟨(i+1,la,lc,l),by simp only;omega,⟨rfl,rfl,rfl,rfl,rfl,rfl,trivial⟩,hle.trans hl4,e,e2,hl4',t2,P',_::J,L5,rfl,hp5,hg3.more (by omega)⟩
     ·have hF:Dj t key=(t,false,2):=by unfold Dj;rw [if_pos (by rw [hwk];decide),hwk]
      rw [hF] at hp5⊢
      rw [hwk]
      simp only at hp5⊢
      have hct:=hg2.ok.ct
      (refine AU rfl<|Ao rfl rfl<|Ao rfl rfl<|Ae rfl<|Ab rfl<|Aa<|Ah<|Ad<|Ab rfl<|AJ rfl rfl<|Ae rfl<|Bc rfl (by omega)<|Ap rfl<|Ap rfl<|As rfl rfl<|Ae rfl<|Ap rfl<|Ap rfl<|Ap rfl<|As rfl rfl<|Ae rfl<|Ap rfl<|Ap rfl<|Ap rfl<|Ap rfl<|As rfl rfl<|Ae rfl<|Ap rfl<|Ap rfl<|As rfl rfl<|Aa<|AS rfl<|Ak<|Ah<|Ad<|Ab rfl<|Ab rfl<|AQ rfl rfl<|Aa<|Ar rfl (by omega)<|Ak<|Ad<|Am rfl<|Ai rfl<|Ag rfl (Aj 0 rfl rfl)<|Bd rfl (by assumption) ?_)
      refine Bi rfl (h9 hl4' hkk (by omega)) (fun u d5 L6 hl5 ⟨z1,_,u2,z2,z3⟩=>?_)
      subst z1;subst z2
      obtain⟨la2,lc2,rfl⟩:=z3.val
      rw [Adr]
      (refine AU rfl<|Ao rfl rfl<|Ao rfl rfl<|Am rfl<|Ae rfl<|Aa<|Ah<|Ad<|Ab rfl<|AJ rfl rfl<|Ae rfl<|Bc rfl (by omega)<|Ap rfl<|Ap rfl<|Ap rfl<|As rfl rfl<|Aa<|AS rfl<|Ak<|Ad<|Ab rfl<|AJ rfl rfl<|Aa<|Ar rfl (by omega)<|Ak<|Ad<|Al rfl ?_)
      refine BU (_::J) (h14 (t:=t) (L:=L5)) rfl rfl ?_
      (refine Am rfl<|AN rfl<|AQ rfl rfl<|Aa<|Ar rfl (by omega)<|Ak<|AA<|Ab rfl<|AO rfl rfl (by omega) (by omega)<|Ab rfl<|Aa ?_)
      exact⟨(i+1,la,lc,l),by simp only;omega,⟨rfl,rfl,rfl,rfl,rfl,rfl,trivial⟩,(hle.trans hl4).trans hl5,e,e2,RSl.mono (R:=RKv) EK hl4' hl5,t,P',_::J,L5,rfl,hp5.mono hl5,hg2.more (by omega)⟩
    ·by_cases k3:kind=3
     ·subst k3
      have g10:∀{d t L},PgT d t dv (.pointer (some ⟨bp,0,none⟩)) L→Aw P f10 [.pointer (some ⟨bp,0,none⟩)] d L (Ret fun r d' L'=>r=.int .i64 0∧d'=d∧PgT d' t.flush dv (.pointer (some ⟨bp,0,none⟩)) L'):=fun⟨n6,hp6⟩=>Aw.D1 (h10 (s:=wtc _ n6) hp6) (fun r d' L' _ ⟨z1,z2,z3⟩=>⟨d',L',Vs.refl _ _,z1,z2,n6,by rw [Yh] at z3;exact z3⟩)
      have g11:∀{d t L},PgT d t dv (.pointer (some ⟨bp,0,none⟩)) L→Aw P f11 [.pointer (some ⟨bp,0,none⟩)] d L (Ret fun r d' L'=>r=.int .i64 0∧d'=d∧PgT d' t.done dv (.pointer (some ⟨bp,0,none⟩)) L'):=fun⟨n6,hp6⟩=>Aw.D1 (h11 (s:=wtc _ n6) hp6) (fun r d' L' _ ⟨z1,z2,z3⟩=>⟨d',L',Vs.refl _ _,z1,z2,n6,z3⟩)
      have hct:=hg2.ok.ct
      (refine Ab rfl<|Aa<|Ah<|Ad<|Ai rfl<|Ag rfl (Aj 0 rfl rfl)<|Aa<|Az<|Ad<|AJ rfl rfl<|Ae rfl<|Aa<|Ar rfl (by omega)<|Ad<|AJ rfl rfl<|Ae rfl<|Aa<|Ar rfl (by omega)<|Ad<|AJ rfl rfl<|Ae rfl<|Aa<|Ax rfl (by omega)<|Ad<|Al rfl ?_)
      refine A8 (_::J++[_]) (g10 hp2) (Ahg (_::J) _ L2) rfl (fun v d4 L4 hl4 ⟨e4,e5,hp5⟩=>?_)
      subst e4;subst e5
      (refine AQ rfl rfl<|Ae rfl<|Bc rfl (by omega)<|Af rfl<|Al rfl<|Af rfl ?_)
      refine A8 (_::J++[_]) (g11 hp5) rfl rfl (fun v d5 L5 hl5 ⟨e6,e7,hp6⟩=>?_)
      subst e6;subst e7
      rw [show _::J++[tb bt Tt (.pointer (some ⟨bp,0,none⟩)) t.root t.height t.count]++L5=_::(J++tbD bt Tt (.pointer (some ⟨bp,0,none⟩)) t::L5) from(Ahg (_::J) _ L5).symm]
      (refine Af rfl<|AQ rfl rfl<|As rfl rfl<|Aa<|Ar rfl (by omega)<|Ak<|Ad<|Al rfl ?_)
      refine BU (_::J) (h14 (t:=t) (L:=L5)) rfl rfl ?_
      (refine Am rfl<|AN rfl<|AQ rfl rfl<|Aa<|Ar rfl (by omega)<|Ak<|AA<|Ab rfl<|AO rfl rfl (by omega) (by omega)<|Ab rfl<|Aa ?_)
      exact⟨(i+1,la,lc,l),by simp only;omega,⟨rfl,rfl,rfl,rfl,rfl,rfl,trivial⟩,hle,e,e2,hl,{t with s:=t.s.fin},P',_::J,L5,rfl,hp6,hg2.fin.more (by omega)⟩
     ·(refine Ab rfl<|Aa<|Ah<|Ad<|Ai rfl<|Ag rfl (Aj 0 rfl rfl)<|Aa<|Az<|Ad<|AJ rfl rfl<|Ae rfl<|Aa<|Ar rfl (by omega)<|Ad<|AJ rfl rfl<|Ae rfl<|Aa<|Ar rfl (by omega)<|Ad<|AJ rfl rfl<|Ae rfl<|Aa<|Ar rfl (by omega)<|Ad<|Al rfl<|Ai rfl<|Ag rfl (Aj 0 rfl rfl) ?_)
      refine A8 (_::J) (QI (s:=t.s) (root:=t.root) (h:=t.height) (c:=t.count) (bt:=bt) (Tt:=Tt) h12 hp2 hk (by omega)) rfl rfl (fun v d4 L4 hl4 ⟨_,u,L5,e1,hu,e3,hp5⟩=>?_)
      subst e1;subst e3
      have hl4':=RSl.mono (R:=RKv) EK hl hl4
      have hk4:=RSl.mono (R:=AM) AW hk hl4
      have hct:=hg2.ok.ct
      rcases Iy (key:=key) with hwk|hwk
      ·have hF:CR ⟨t.s,t.root,t.height,t.count⟩ key=((DN l key).1,(DN l key).2,0):=hg2.ok.Eh hwk
       rw [hF] at hu⊢
       rw [hwk]
       simp only at hu⊢
       have hrk:=h13 hl4' hkk
       generalize DN l key=G at hu hrk⊢
       obtain⟨gv,gb⟩:=G
       simp only at hu hrk⊢
       obtain⟨ua,uc,rfl⟩:=hu.val
       (refine AU rfl<|Ao rfl rfl<|Ao rfl rfl<|Ao rfl rfl<|Am rfl<|Ae rfl<|Ab rfl<|Aa<|Ad<|Am rfl<|Ai rfl<|Ag rfl (Aj 0 rfl rfl)<|Bd rfl (by assumption) ?_)
       refine BS rfl hrk ?_
       cases gb with
       |true=>
        (refine AU rfl<|Ao rfl rfl<|Ao rfl rfl<|DQ rfl<|Ae rfl<|Aa<|Ad<|Ab rfl<|Ab rfl<|AQ rfl rfl<|Ae rfl<|Bc rfl (by omega)<|Af rfl<|Ab rfl<|Af rfl<|AJ rfl rfl<|Af rfl<|Ae rfl<|Be rfl (by omega)<|Af rfl<|Ae rfl<|Af rfl<|Ae rfl<|Af rfl<|Io rfl rfl<|Af rfl<|Ae rfl<|Af rfl<|Am rfl<|Af rfl<|Bd rfl (by assumption)<|Af rfl<|DQ rfl<|Af rfl<|Mg rfl rfl<|Af rfl<|As rfl rfl<|Af rfl<|AF rfl rfl<|As rfl rfl<|Ae rfl ?_)
        first|refine YO rfl (fun hq=>?_) (fun hq=>?_)|refine X7 rfl (fun hq=>?_) (fun hq=>?_)
        ·exact absurd rfl hq
        ·clear hq
         (refine Af rfl<|Ab rfl<|Af rfl<|AQ rfl rfl<|Af rfl<|Ae rfl<|Bc rfl (by omega)<|Ap rfl<|Ap rfl<|DF rfl<|DF rfl<|DF rfl<|Ap rfl<|Af rfl<|As rfl rfl<|As rfl rfl<|Aa<|AS rfl<|Ak<|Ad<|Al rfl ?_)
         refine BU (_::J) (h14 (t:=t) (L:=L5)) rfl rfl ?_
         (refine Am rfl<|AN rfl<|AQ rfl rfl<|Aa<|Ar rfl (by omega)<|Ak<|AA<|Ab rfl<|AO rfl rfl (by omega) (by omega)<|Ab rfl<|Aa ?_)
         exact⟨(i+1,la,lc,l),by simp only;omega,⟨rfl,rfl,rfl,rfl,rfl,rfl,trivial⟩,hle.trans hl4,e,e2,hl4',t,P',_::J,L5,rfl,hp5,hg2.more (by omega)⟩
       |false=>
        (refine AU rfl<|Ao rfl rfl<|Ao rfl rfl<|DQ rfl<|Ae rfl<|Aa<|Ad<|Ab rfl<|Ab rfl<|AQ rfl rfl<|Ae rfl<|Bc rfl (by omega)<|Af rfl<|Ab rfl<|Af rfl<|AJ rfl rfl<|Af rfl<|Ae rfl<|Be rfl (by omega)<|Af rfl<|Ae rfl<|Af rfl<|Ae rfl<|Af rfl<|Io rfl rfl<|Af rfl<|Ae rfl<|Af rfl<|Am rfl<|Af rfl<|Bd rfl (by assumption)<|Af rfl<|DQ rfl<|Af rfl<|Mg rfl rfl<|Af rfl<|As rfl rfl<|Af rfl<|AF rfl rfl<|As rfl rfl<|Ae rfl ?_)
        first|refine YO rfl (fun hq=>?_) (fun hq=>?_)|refine X7 rfl (fun hq=>?_) (fun hq=>?_)
        ·exact absurd rfl hq
        ·clear hq
         (refine Af rfl<|Ab rfl<|Af rfl<|AQ rfl rfl<|Af rfl<|Ae rfl<|Bc rfl (by omega)<|Ap rfl<|Ap rfl<|DF rfl<|DF rfl<|DF rfl<|Ap rfl<|Af rfl<|As rfl rfl<|As rfl rfl<|Aa<|AS rfl<|Ak<|Ad<|Al rfl ?_)
         refine BU (_::J) (h14 (t:=t) (L:=L5)) rfl rfl ?_
         (refine Am rfl<|AN rfl<|AQ rfl rfl<|Aa<|Ar rfl (by omega)<|Ak<|AA<|Ab rfl<|AO rfl rfl (by omega) (by omega)<|Ab rfl<|Aa ?_)
         exact⟨(i+1,la,lc,l),by simp only;omega,⟨rfl,rfl,rfl,rfl,rfl,rfl,trivial⟩,hle.trans hl4,e,e2,hl4',t,P',_::J,L5,rfl,hp5,hg2.more (by omega)⟩
      ·have hF:CR ⟨t.s,t.root,t.height,t.count⟩ key=([],false,2):=by unfold CR;rw [if_pos (by rw [hwk];decide),hwk]
       rw [hF] at hu⊢
       rw [hwk]
       simp only at hu⊢
       have hrk:=h13 hl4' hkk
       generalize DN l key=G at hrk
       obtain⟨gv,gb⟩:=G
       simp only at hrk
       obtain⟨ua,uc,rfl⟩:∃ua uc,u=.slice ua 0 uc:=hu.val
       (refine AU rfl<|Ao rfl rfl<|Ao rfl rfl<|Ao rfl rfl<|Am rfl<|Ae rfl<|Ab rfl<|Aa<|Ad<|Am rfl<|Ai rfl<|Ag rfl (Aj 0 rfl rfl)<|Bd rfl (by assumption) ?_)
       refine BS rfl hrk ?_
       (refine AU rfl<|Ao rfl rfl<|Ao rfl rfl<|DQ rfl<|Ae rfl<|Aa<|Ad<|Ab rfl<|Ab rfl<|AQ rfl rfl<|Ae rfl<|Bc rfl (by omega)<|Af rfl<|Ab rfl<|Af rfl<|AJ rfl rfl<|Af rfl<|Ae rfl<|Bc rfl (by omega)<|Ap rfl<|Ap rfl<|Ap rfl<|Ap rfl<|DF rfl<|DF rfl<|DF rfl<|DF rfl<|Ap rfl<|Af rfl<|As rfl rfl<|As rfl rfl<|Ae rfl<|Af rfl<|Ab rfl<|Af rfl<|AQ rfl rfl<|Af rfl<|Ae rfl<|Be rfl (by omega)<|Af rfl<|Ae rfl<|Af rfl<|Ae rfl<|Af rfl<|Am rfl<|Af rfl<|AN rfl<|Af rfl<|AQ rfl rfl<|Af rfl<|As rfl rfl<|Af rfl<|AF rfl rfl<|As rfl rfl<|Aa<|Ar rfl (by omega)<|Ak<|Ad<|Al rfl ?_)
       refine BU (_::J) (h14 (t:=t) (L:=L5)) rfl rfl ?_
       (refine Am rfl<|AN rfl<|AQ rfl rfl<|Aa<|Ar rfl (by omega)<|Ak<|AA<|Ab rfl<|AO rfl rfl (by omega) (by omega)<|Ab rfl<|Aa ?_)
       exact⟨(i+1,la,lc,l),by simp only;omega,⟨rfl,rfl,rfl,rfl,rfl,rfl,trivial⟩,hle.trans hl4,e,e2,hl4',t,P',_::J,L5,rfl,hp5,hg2.more (by omega)⟩
  ·(refine Ah<|Ad<|Ab rfl<|Am rfl<|AN rfl<|AE rfl rfl<|Ae rfl<|Be rfl (by omega)<|Af rfl<|Ab rfl<|Af rfl<|Ab rfl<|Af rfl<|AE rfl rfl<|AF rfl rfl<|Aa<|Ar rfl (by omega)<|Bj<|Ad<|Am rfl<|Am rfl<|Ae rfl<|Aa<|An ?_)
   exact Ba [.slice la l.length lc,.bool true] ⟨Av rfl,Av rfl,trivial⟩ (d':=d') (L':=tbD bt Tt (.pointer (some ⟨bp,0,none⟩)) t::L2) (Vs.drop (Adm J _)) ⟨hle,_,t,l,P',L2,rfl,hl,hg2.more (by omega),rfl,hp2⟩
 ·(refine Ah<|Ad<|Ab rfl<|Am rfl<|AN rfl<|AE rfl rfl<|Ae rfl<|Bc rfl (by omega)<|Ap rfl<|Ap rfl<|Ap rfl<|As rfl rfl<|Aa<|AS rfl<|Bj<|Ad<|Am rfl<|Am rfl<|Ae rfl<|Aa<|An ?_)
  exact Ba [.slice la l.length lc,.bool true] ⟨Av rfl,Av rfl,trivial⟩ (d':=d') (L':=tbD bt Tt (.pointer (some ⟨bp,0,none⟩)) t::L2) (Vs.drop (Adm J _)) ⟨hle,_,t,l,P',L2,rfl,hl,hg2.more (by omega),rfl,hp2⟩
end
end Go.Gk.Tre
end
section
namespace Go.Gk.Tre
open Go Go.Gk Go.Gk.Dev Go.Gk.Cch Go.Gk.Pgr Go.Gk.Chn Go.Gk.Node
theorem WK{R:RT} (hR:∀c l P,R c l P→KO (l.map Prod.fst)):∀{ks:List (List UInt8)}{cs:List Int}{l:List KV}{P:List Int},Kd R ks cs l P→KO (l.map Prod.fst)
 |[],[c],l,P,h=>hR c l P h
 |[],[],l,P,h=>h.elim
 |[],_::_::_,l,P,h=>h.elim
 |_::_,[],l,P,h=>h.elim
 |k::ks,c::cs,l,P,h=>by
  obtain⟨l1,l2,P1,P2,rfl,rfl,h1,h2,h3,h4⟩:=Kd.cons.1 h
  rw [Afk]
  refine KO.app.2 ⟨hR _ _ _ h1,WK hR h4,fun x hx y hy=>?_⟩
  obtain⟨x',hx',rfl⟩:=Agl.1 hx
  obtain⟨y',hy',rfl⟩:=Agl.1 hy
  exact Ie (h2 x' hx') (h3 y' hy')
theorem WA:∀{h:Nat}{s:PD}{k:Int}{l:List KV}{P:List Int},Tr s h k l P→KO (l.map Prod.fst)
 |0,s,k,l,P,h=>h.elim
 |h+1,s,k,l,P,⟨n,Q,hat,hne,eP,hn⟩=>by
  by_cases e:h=0
  ·rw [decide_eq_true e] at hn
   obtain⟨n1,n2⟩:=hn.leaf
   have hs:=hat.sound
   rw [Ec hs n1] at hs
   rw [←n2.keys]
   exact(CJ.1 hs).1
  ·rw [decide_eq_false e] at hn
   exact WK (fun c l P q=>WA q) hn.inner.2
theorem Tok.asc{t:TD}{l:List KV}{P:List Int} (h:Tok t l P):KO (l.map Prod.fst):=by
 rcases h.tr with ⟨_,_,rfl,_⟩|⟨x,_,e⟩
 ·exact KO.nil
 ·exact WA e
theorem get_mem{l:List KV} (h:KO (l.map Prod.fst)) {x:KV} (hx:x∈l):DN l x.1=(x.2,true)∧isK l x.1=true:=by
 obtain⟨a,b,rfl⟩:=List.append_of_mem hx
 rw [show a++x::b=a++[x]++b by simp] at h⊢
 rw [Afk,Afk] at h
 obtain⟨h1,h2,h3⟩:=KO.app.1 h
 obtain⟨h4,h5,h6⟩:=KO.app.1 h1
 have ha:∀y∈a,Lt y.1 x.1:=fun y hy=>h6 _ (Aff hy) _ (by simp)
 have hb:∀y∈b,Lt x.1 y.1:=fun y hy=>h3 _ (by simp) _ (Aff hy)
 rw [Nr ha hb,Er ha hb]
 exact⟨Q6,HB⟩
theorem Tok.Abm{t:TD}{l:List KV}{P:List Int} (h:Tok t l P) {x:KV} (hx:x∈l):BM x.1=0:=by
 have:=h.asc.1 x.1 (Aff hx)
 unfold BM
 rw [if_neg (by omega)]
theorem Tok.has{t:TD}{l:List KV}{P:List Int} (h:Tok t l P):GD t l=true:=by
 unfold GD
 rw [h.ct]
 simp only [decide_true,Bool.and_true,Acq]
 intro x hx
 unfold JF
 rw [h.Eh (h.Abm hx),(get_mem h.asc hx).1]
 simp
theorem Z3(a:Int) (m:Nat) (h:0<m):∃k:Nat,(a % 18446744073709551616) % (m:Int)=(k:Int)∧k<m:=by
 have h1:=Int.emod_nonneg (a % 18446744073709551616) (show(m:Int)≠0 by omega)
 have h2:=Int.emod_lt_of_pos (a % 18446744073709551616) (show(0:Int)<m by omega)
 exact⟨((a % 18446744073709551616) % (m:Int)).toNat,by omega,by omega⟩
theorem Gr.empty{n:Nat} (h1:1≤n) (h2:n≤8000):Gr n 0 ⟨pdN n, -1,0,0⟩ [] []:=by
 refine⟨⟨Good.new h1 (by rw [Adn];omega) (by rw [Adn];omega),Agq,rfl,.inl ⟨rfl,rfl,rfl,rfl⟩⟩,fun k=>⟨fun q=>?_,fun q=>(by cases q)⟩,Ach _,fun x hx=>(by cases hx),Gh⟩
 have key:∀x:Int,0≤x→(pdN n).kind k=x→x=0:=fun x hx hk=>by
  obtain⟨i,i1, -,i2, -⟩:=CM hk hx
  have:(pdN n).kd i=0:=by
   show(Dw n []).getD i 0=0
   rw [Jn,if_neg (fun q=>by cases q.2)]
  omega
 rcases q with q|q
 ·exact absurd (key 1 (by omega) q) (by omega)
 ·exact absurd (key 2 (by omega) q) (by omega)
theorem Ol:∀(l:List KV) (key:List UInt8),∀x∈l.take (Bm l key),Lt x.1 key
 |[],key,x,h=>by simp [Bm] at h
 |y::l,key,x,h=>by
  rw [Bm] at h
  by_cases e:Op.bytesLess y.1 key=true
  ·rw [if_pos e,List.take_succ_cons] at h
   rcases Adb.1 h with rfl|h
   ·exact e
   ·exact Ol l key x h
  ·rw [if_neg e] at h;cases h
theorem get_put{l:List KV}{key v:List UInt8}:DN (DX l key v) key=(v,true):=by
 unfold DX
 have ha:=Ol (Cb l key).1 key
 generalize (Cb l key).1.take (Bm (Cb l key).1 key)=a at ha
 generalize (Cb l key).1.drop (Bm (Cb l key).1 key)=b
 have hf:Bm (a++((key,v)::b)) key=a.length:=by rw [G2 ha,Bm,if_neg (by simp [Ey])];rfl
 have hg:(a++((key,v)::b)).getD a.length ([],[])=(key,v):=by simp [Afw]
 rw [show a++[(key,v)]++b=a++((key,v)::b) by simp]
 have hi:isK (a++((key,v)::b)) key=true:=by
  unfold isK
  rw [hf,hg];simp
 unfold DN
 rw [if_pos hi,hf,hg]
theorem Gr.AbE{N i:Nat}{t:TD}{l:List KV}{P:List Int} (h:Gr N i t l P) {key v:List UInt8} (hw:BM key=0) (hv:v.length≤16384):
  ((BY t key v).2=0∧∃P',Tok (BY t key v).1 (DX l key v) P'∧Ps (BY t key v).1.s P')∨
  ((BY t key v).2=190∧(BY t key v).1.root=t.root∧(BY t key v).1.height=t.height∧(BY t key v).1.s.free=t.s.free∧Gr N i (BY t key v).1 l P):=by
 have hk:=MA hw
 have e:BY t key v=(BT t (B4 t key v).1 (B4 t key v).2,(B4 t key v).2):=by unfold BY;rw [if_neg (fun q=>q hw),if_neg (by omega)]
 have hkp:=Rm t key v
 rw [e]
 rcases Rr h.ok hk (v:=v) hv with ⟨h1,P',h2,h3⟩|⟨h1,h2⟩
 ·refine .inl ⟨h1,P',?_⟩
  show Tok (BT t (B4 t key v).1 (B4 t key v).2) _ _∧Ps (BT t (B4 t key v).1 (B4 t key v).2).s _
  unfold BT
  rw [if_pos h1]
  exact⟨h2,h.on.mv h3⟩
 ·obtain⟨g1,g2⟩:=h.back hkp
  have ec:BT t (B4 t key v).1 (B4 t key v).2={t with s:=(B4 t key v).1.s.back t.s.mark}:=by unfold BT;rw [if_neg (by rw [h1];decide)]
  rw [ec]
  exact .inr ⟨h1,rfl,rfl,g2,g1⟩
end Go.Gk.Tre
end
section
namespace Go.Gk.Tre
open Go Go.Gk Go.Gk.Dev Go.Gk.Cch Go.Gk.Pgr Go.Gk.Chn Go.Gk.Node
attribute [local irreducible] gwp gws xwp
def H6(a0 a1 a2 a3 a4 a5 a6 a7 a8 a9:Nat):AY:=⟨104,[(.tmp 8)],(sR (o1 8 (.mv (.const (.bool false))) .done) (.seq (sR (oc 20 a0 []<|o1 21 (.un .not (tP 20)) .done) (.cond (tP 21) (sR (o1 8 (.mv (.const (.bool false))) .done) .ret) .skip)) (sR (om 23 0<|o1 24 (.cvi .u64 (tP 23))<|ob 25 .rem (tP 24) (.const (.int .u64 30))<|o1 26 (.cvi .i64 (tP 25))<|ob 27 .add (kZ 1) (tP 26)<|oc 28 a1 [(tP 27)]<|om 22 28<|oe 29 22 0<|oe 30 22 1<|om 9 29<|om 10 30 .done) (.seq (sR (om 31 10<|o1 32 (.eqp false (tP 31) (.const (.pointer none))) .done) (.cond (tP 32) (sR (o1 8 (.mv (.const (.bool false))) .done) .ret) .skip)) (sR (om 34 9<|om 35 10<|om 36 1<|oc 37 a2 [(tP 34),(tP 35),(tP 36),(kZ 40)]<|om 33 37<|oe 38 33 0<|oe 39 33 1<|om 11 38<|om 12 39 .done) (.seq (sR (om 40 12<|o1 41 (.un .not (tP 40)) .done) (.cond (tP 41) (sR (o1 8 (.mv (.const (.bool false))) .done) .ret) .skip)) (sR (om 42 10<|oc 43 a3 [(tP 42)]<|om 44 10<|oc 45 a4 [(tP 44)]<|om 46 9<|oc 47 a5 [(tP 46)]<|om 13 43<|om 14 45<|om 15 47 .done) (sR (om 48 10<|om 49 2<|om 50 3<|oc 51 a6 [(tP 50),(kZ 3000)]<|oc 52 a7 [(tP 48),(tP 49),(tP 51)]<|om 16 52 .done) (.seq (sR (om 53 16<|ob 54 .eql (tP 53) (kZ 0) .done) (.cond (tP 54) (sR (om 56 10<|om 57 2<|oc 58 a8 [(tP 56),(tP 57)]<|om 55 58<|oe 59 55 0<|oe 60 55 1<|oe 61 55 2<|om 17 59<|om 18 60<|om 19 61 .done) (.seq (.reg true (pm 62 19<|p1 63 (.bin .eql (tP 62) (kZ 0))<|pm 64 63 (.op true ⟨(some 65),(some (64,true)),(.mv (tP 18))⟩ (p1 66 (.pick (tP 64) (tP 65) (.const (.bool false))) (pm 67 66 (.op true ⟨(some 68),(some (67,true)),(.mv (tP 17))⟩ (.op true ⟨(some 69),(some (67,true)),(.b2s (tP 68))⟩ (.op true ⟨(some 70),(some (67,true)),(.mv (tP 3))⟩ (oT 71 67 (.call a6 [(tP 70),(kZ 3000)]) (.op true ⟨(some 72),(some (67,true)),(.b2s (tP 71))⟩ (.op true ⟨(some 73),(some (67,true)),(.bin .eql (tP 69) (tP 72))⟩ (p1 74 (.pick (tP 67) (tP 73) (.const (.bool false))) (.bar (pm 8 74 .done)))))))))))))) .ret)) .skip)) (sR (om 75 16<|ob 76 .eql (tP 75) (kZ 190)<|om 77 76<|gF 78 77 16<|oF 79 77 (.bin .eql (tP 78) (kZ 2))<|o1 80 (.pick (tP 77) (.const (.bool true)) (tP 79))<|om 81 80<|gT 82 81 10<|oT 83 81 (.call a3 [(tP 82)])<|gT 84 81 13<|oT 85 81 (.bin .eql (tP 83) (tP 84))<|gP 86 81 85<|om 87 86<|gT 88 87 10<|oT 89 87 (.call a4 [(tP 88)])<|gT 90 87 14<|oT 91 87 (.bin .eql (tP 89) (tP 90))<|gP 92 87 91<|om 93 92<|gT 94 93 9<|oT 95 93 (.call a5 [(tP 94)])<|gT 96 93 15<|oT 97 93 (.bin .eql (tP 95) (tP 96))<|gP 98 93 97<|om 99 98<|gT 100 99 10<|gT 101 99 11<|oT 102 99 (.call a9 [(tP 100),(tP 101)])<|gP 103 99 102<|om 8 103 .done) .ret))))))))))⟩
set_option maxRecDepth 4000 in
set_option maxHeartbeats 2000000 in
theorem treeFull{P:Program}{f f1 f2 f3 f4 f5 f6 f7 f8 f9 f10:FuncId} (hd:dec P f=some (H6 f1 f2 f3 f4 f5 f6 f7 f8 f9 f10)) (h1:Yb P f1) (h2:Ij P f2) (h3:O8 P f3) (h4:LF P f4) (h5:G5 P f5) (h6:Ld P f6) (h7:LN P f7) (h8:FA P f8) (h9:HW P f9) (h10:Rc P f10)
  {d:Ac}{pg:Int}{w kv vv:Value}{acts:List W9}{key val0:List UInt8} (hw:RSl 3 RAc d w acts) (hk:AK d kv key) (hv:AK d vv val0):Aw P f [.int .i64 pg,w,kv,vv] d [] (Ret fun r _ _=>r=.bool true):=by
 have hwl:=hw.BZ
 obtain⟨ka,kc,rfl⟩:=RSl.val hk
 obtain⟨va0,vc0,rfl⟩:=RSl.val hv
 refine AG hd (Aca rfl) ?_
 show gwp P _ _ _ _ _
 obtain⟨m0,hm,hm12⟩:=Z3 pg 30 (by omega)
 replace hm:pg % 18446744073709551616 % 30=(m0:Int):=hm
 have hni:1+pg % 18446744073709551616 % 30=((1+m0:Nat):Int):=by omega
 (refine Ad<|Ae rfl<|Aa<|Ah<|Ad ?_)
 refine Bi rfl h1 (fun v d0 L0 hl0 ⟨q7,q8⟩=>?_)
 subst q7;subst q8
 (refine Bu rfl<|Aa<|AS rfl<|Ak<|Ad<|Ab rfl<|AaI rfl<|Un rfl rfl (by omega) (by omega)<|DZ rfl (by omega) (by omega)<|AO rfl rfl (by omega) (by omega) ?_)
 rw [hni]
 refine D2 (L:=[]) (h2 (n:=1+m0) (by omega) (by omega)) rfl (fun u d1 L1 hl1 ⟨bt,Tt,bd,bp,L2,q1,q2,hp⟩=>?_)
 subst q1;subst q2
 have hw1:=RSl.mono (R:=RAc) S4 hw (hl0.trans hl1)
 (refine AU rfl<|Ao rfl rfl<|Ao rfl rfl<|Al rfl<|Al rfl<|Aa<|Ah<|Ad<|Al rfl<|C7 rfl rfl<|Aa<|AS rfl<|Ak<|Ad<|Al rfl<|Al rfl<|AL ?_)
 refine A8 [] (h3 (t:=⟨pdN (1+m0), -1,0,0⟩) (Tt:=Tt) (most:=40) (N:=1+m0) (PgT.of hp) (Gr.empty (by omega) (by omega)) hw1 (by omega)) rfl rfl (fun v d2 L3 hl2 ⟨_,u,t,l,P',L4,q3,hl,hg,q4,hp4⟩=>?_)
 subst q3;subst q4
 obtain⟨hkl,hth⟩:=hg.ok.far (by have:=hg.ln;omega)
 have hk2:=RSl.mono (R:=AM) AW hk ((hl0.trans hl1).trans hl2)
 have hv2:=RSl.mono (R:=AM) AW hv ((hl0.trans hl1).trans hl2)
 have g5:∀{d t L},PgT d t (.pointer (some ⟨bd,0,none⟩)) (.pointer (some ⟨bp,0,none⟩)) L→CS P f6 [.pointer (some ⟨bp,0,none⟩)] d L (.int .i64 ((t.free:Nat):Int)):=fun⟨n6,hp6⟩=>h6 (s:=wtc _ n6) hp6
 (refine AU rfl<|Ao rfl rfl<|Ao rfl rfl<|AL<|Ae rfl<|Aa<|Ah<|Ad<|Ae rfl<|Bu rfl<|Aa<|AS rfl<|Ak<|Ad<|Al rfl ?_)
 refine BU [] (h4 (t:=t) (L:=L4)) rfl rfl ?_
 (apply Al;rfl)
 refine BU [] (h5 (t:=t) (L:=L4)) rfl rfl ?_
 (apply Al;rfl)
 refine BU [_] (g5 hp4) rfl rfl ?_
 (refine Ab rfl<|Ab rfl<|Ab rfl<|Aa<|Ad<|Al rfl<|Am rfl<|Am rfl ?_)
 refine Bi rfl (h7 hv2 (n:=3000) (by omega)) (fun v0 d3 L5 _ ⟨z1,z2,hv3⟩=>?_)
 subst z1;subst z2
 rw [Adr]
 have hvl:(val0.take 3000).length≤3000:=by rw [Acw];omega
 generalize hval:val0.take 3000=val at hv3 hvl
 obtain⟨va,vc,rfl⟩:=RSl.val hv3
 skip
 refine A8 [] (h8.data (t:=t) (Tt:=Tt) hp4 hk2 hv3 hkl) rfl rfl (fun v d4 L6 hl4 ⟨_,e1,L7,e2,hp7⟩=>?_)
 subst e1;subst e2
 have hk4:=RSl.mono (R:=AM) AW hk2 hl4
 have hv4:=RSl.mono (R:=AM) AW hv2 hl4
 have hl4':=RSl.mono (R:=RKv) EK hl hl4
 rcases Iy (key:=key) with hwk|hwk
 ·rcases hg.AbE hwk (v:=val) (by omega) with ⟨q1,P2,hT,hO⟩|⟨q1,q2,q3,q4,hg2⟩
  ·rw [q1]
   have hget:=hT.Eh hwk
   rw [get_put] at hget
   obtain⟨hkl2,hth2⟩:=hT.far (by rw [Nk];have:=hg.ln;split<;>omega)
   clear q1
   generalize (BY t key val).1=t2 at hp7 hT hO hget hkl2 hth2⊢
   (refine Ab rfl<|Aa<|Ah<|Ad<|Ab rfl<|AJ rfl rfl<|Aa<|Ax rfl (by omega)<|Ad<|Al rfl<|Am rfl ?_)
   refine A8 [] (QI (s:=t2.s) (root:=t2.root) (h:=t2.height) (c:=t2.count) (bt:=bt) (Tt:=Tt) h9 hp7 hk4 (by omega)) rfl rfl (fun v d5 L8 hl5 ⟨_,u,L9,e1,hu,e3,hp9⟩=>?_)
   rw [show CR ⟨t2.s,t2.root,t2.height,t2.count⟩ key=(val,true,0) from hget] at e1 hu
   have e1:v=.tuple #[u,.bool true,.int .i64 0]:=e1
   have hu:AK d5 u val:=hu
   subst e1;subst e3
   obtain⟨ua,uc,rfl⟩:=RSl.val hu
   have hv5:=RSl.mono (R:=AM) AW hv4 hl5
   (refine AU rfl<|Ao rfl rfl<|Ao rfl rfl<|Ao rfl rfl<|Am rfl<|Ae rfl<|Ab rfl<|Aa<|Ah<|Bs<|Ab rfl<|AJ rfl rfl<|Ae rfl<|Be rfl (by omega)<|Af rfl<|Ae rfl<|AF rfl rfl<|Ae rfl<|Af rfl<|Am rfl<|Af rfl<|Bd rfl (by assumption)<|Af rfl<|Am rfl<|Af rfl ?_)
   refine Bi rfl (h7 hv5 (n:=3000) (by omega)) (fun v0 d6 L10 _ ⟨z1,z2,hv6⟩=>?_)
   subst z1;subst z2
   rw [Adr]
   rw [hval] at hv6
   obtain⟨va6,vc6,rfl⟩:=RSl.val hv6
   (refine Af rfl<|Bd rfl (by assumption)<|Af rfl<|Ow rfl rfl<|AF rfl rfl<|B5<|Ae rfl<|Aa<|An ?_)
   exact BE rfl (Aec _) (by show Value.bool (decide (val=val))=_;simp)
  ·rw [q1]
   have hhas:=hg2.ok.has
   obtain⟨hkl2,hth2⟩:=hg2.ok.far (by have:=hg2.ln;omega)
   clear q1
   generalize (BY t key val).1=t2 at hp7 q2 q3 q4 hhas hkl2 hth2⊢
   have r4:=h4 (d:=d4) (t:=t2) (bt:=bt) (Tt:=Tt) (L:=L7) (pb:=bp)
   have r5:=h5 (d:=d4) (t:=t2) (bt:=bt) (Tt:=Tt) (L:=L7) (pb:=bp)
   have r6:=g5 hp7
   rw [q2] at r4
   rw [q3] at r5
   rw [q4] at r6
   (refine Ab rfl<|Aa<|Ah<|Ad<|Ab rfl<|AJ rfl rfl<|Aa<|Ar rfl (by omega)<|Ak<|Ad<|Ab rfl<|AJ rfl rfl<|Ae rfl<|Be rfl (by omega)<|Ap rfl<|Ap rfl<|AF rfl rfl<|Ae rfl<|Af rfl<|Al rfl<|Af rfl ?_)
   refine BU [] r4 rfl rfl ?_
   (refine Af rfl<|Ab rfl<|Af rfl<|AJ rfl rfl<|AF rfl rfl<|Ae rfl<|Be rfl (by omega)<|Af rfl<|Al rfl<|Af rfl ?_)
   refine BU [] r5 rfl rfl ?_
   (refine Af rfl<|Ab rfl<|Af rfl<|AJ rfl rfl<|AF rfl rfl<|Ae rfl<|Be rfl (by omega)<|Af rfl<|Al rfl<|Af rfl ?_)
   refine BU [_] r6 rfl rfl ?_
   (refine Af rfl<|Ab rfl<|Af rfl<|AJ rfl rfl<|AF rfl rfl<|Ae rfl<|Be rfl (by omega)<|Af rfl<|Al rfl<|Af rfl<|AL<|Af rfl ?_)
   refine A8 [] (h10 (root:=t2.root) (h:=t2.height) (c:=t2.count) (Tt:=Tt) hp7 hl4' (by omega) (by have:=hkl2.c;omega)) rfl rfl (fun v d5 L8 hl5 ⟨_,q5,L9,q6,hp9⟩=>?_)
   rw [show GD ⟨t2.s,t2.root,t2.height,t2.count⟩ l=true from hhas] at q5
   subst q5;subst q6
   (refine AF rfl rfl<|Ae rfl<|Aa<|An ?_)
   exact BE rfl (Aec _) rfl
 ·have hF:BY t key val=(t,2):=by unfold BY;rw [if_pos (by rw [hwk];decide),hwk]
  rw [hF] at hp7⊢
  simp only at hp7⊢
  have hhas:=hg.ok.has
  have hkl2:=hkl
  have r4:=h4 (d:=d4) (t:=t) (bt:=bt) (Tt:=Tt) (L:=L7) (pb:=bp)
  have r5:=h5 (d:=d4) (t:=t) (bt:=bt) (Tt:=Tt) (L:=L7) (pb:=bp)
  have r6:=g5 hp7
  (refine Ab rfl<|Aa<|Ah<|Ad<|Ab rfl<|AJ rfl rfl<|Aa<|Ar rfl (by omega)<|Ak<|Ad<|Ab rfl<|AJ rfl rfl<|Ae rfl<|Bc rfl (by omega)<|Af rfl<|Ab rfl<|Af rfl<|AJ rfl rfl<|As rfl rfl<|Ae rfl<|Be rfl (by omega)<|Af rfl<|Al rfl<|Af rfl ?_)
  refine BU [] r4 rfl rfl ?_
  (refine Af rfl<|Ab rfl<|Af rfl<|AJ rfl rfl<|AF rfl rfl<|Ae rfl<|Be rfl (by omega)<|Af rfl<|Al rfl<|Af rfl ?_)
  refine BU [] r5 rfl rfl ?_
  (refine Af rfl<|Ab rfl<|Af rfl<|AJ rfl rfl<|AF rfl rfl<|Ae rfl<|Be rfl (by omega)<|Af rfl<|Al rfl<|Af rfl ?_)
  refine BU [_] r6 rfl rfl ?_
  (refine Af rfl<|Ab rfl<|Af rfl<|AJ rfl rfl<|AF rfl rfl<|Ae rfl<|Be rfl (by omega)<|Af rfl<|Al rfl<|Af rfl<|AL<|Af rfl ?_)
  refine A8 [] (h10 (root:=t.root) (h:=t.height) (c:=t.count) (Tt:=Tt) hp7 hl4' (by omega) (by have:=hkl2.c;omega)) rfl rfl (fun v d5 L8 hl5 ⟨_,q5,L9,q6,hp9⟩=>?_)
  rw [show GD ⟨t.s,t.root,t.height,t.count⟩ l=true from hhas] at q5
  subst q5;subst q6
  (refine AF rfl rfl<|Ae rfl<|Aa<|An ?_)
  exact BE rfl (Aec _) rfl
end Go.Gk.Tre
end
section
namespace Go.Gk.Tre
open Go Go.Gk Go.Gk.Node
theorem AbD{l:List Value} (h:l.length=3):∃a b c,l=[a,b,c]:=by
 match l,h with
 |[a,b,c],_=>exact⟨a,b,c,rfl⟩
theorem Abn{H:Type}{enc:TypeId×Value→H}{P:Program}{W:World}{t ti tb ts:TypeId}{fs:Array Field} (ht:P.underlying t=some (.struct fs)) (h3:P.cellsOf t=3)
  (f0:(fs[0]?).map (fun f=>(f.offset,f.type))=some (0,ti)) (f1:(fs[1]?).map (fun f=>(f.offset,f.type))=some (1,ts)) (f2:(fs[2]?).map (fun f=>(f.offset,f.type))=some (2,ts))
  (ci:P.cellsOf ti=1) (cb:P.cellsOf tb=1) (cs:P.cellsOf ts=1)
  (ui:P.underlying ti=some (.int .i64)) (ub:P.underlying tb=some (.int .u8)) (us:P.underlying ts=some (.slice tb)) (bb:1≤P.bytesOf tb):Rd enc P W t RAc:=by
 intro held fuel cs x h hw
 obtain⟨hl,hfs⟩:=Vr ht h hw
 obtain⟨k,e0⟩:=hfs 0 0 ti 1 f0 ci (Vu ui)
 obtain⟨y,v,e1,hv⟩:=hfs 1 1 ts 1 f1 (by assumption) (Nh us cb (by omega) bb (LJ ub))
 obtain⟨z,u,e2,hu⟩:=hfs 2 2 ts 1 f2 (by assumption) (Nh us cb (by omega) bb (LJ ub))
 obtain⟨a0,a1,a2,rfl⟩:=AbD (hl.trans h3)
 simp only [List.drop,List.take] at e0 e1 e2
 obtain⟨e0, -, -⟩:=e0
 simp only [List.cons.injEq,and_true] at e0 e1 e2
 subst e0;subst e1;subst e2
 exact⟨⟨k,y,z⟩,_,_,rfl,hv,hu⟩
end Go.Gk.Tre
end
