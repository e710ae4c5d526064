/-
  Our own texts, one behind the other: GkHO GkTr3 GkTr4 GkTr5 GkTrS GkTr6 GkTr7 GkTrF GkTr8 Gk41 GkTrK GkTrG GkTrP GkTrQ GkTrR Gk44 Gk20 Gk25 Gk45 GkTrT GkH6 GkH7 GkH8 GkTU GkTV GkTW GkTX GkWA GkWB GkWC GkWD.
-/
import Derived.Below
import Derived.Shelf.Unicode.DecodeSlow
import Derived.Shelf.Sort.Plain
import Derived.Shelf.Slices.In.SortNone
import Derived.Test.YteekdjalpmjdhaaGreatPqE
set_option linter.defProp false
set_option linter.unusedVariables false
set_option linter.unusedSimpArgs false
open Nat renaming le_of_ble_eq_true→Aea,le_refl→Aef,zero_le→Aez,succ_ne_zero→Ago,le_succ_of_le→Aio,min_eq_left→Aja
open List.Sublist renaming refl→Aeb
open Bool renaming and_eq_true→Aec,false_eq_true→Aeh,or_eq_true→Afp,not_eq_true→Agr,true_and→Ahr,not_eq_false'→Ahv,false_ne_true→Aju
open List renaming getElem?_eq_getElem→Aed,getD_eq_getElem?_getD→Aee,append_assoc→Aeg,perm_append_comm→Aei,mem_append→Aej,length_append→Aek,eq_nil_of_length_eq_zero→Ael,length_drop→Aen,mem_cons_self→Aeo,length_cons→Aep,length_take→Aer,all_eq_true→Aet,replicate→Aeu,mem_cons_of_mem→Aev,mem_singleton→Aew,mem_cons→Aex,getElem_mem→Aey,mem_append_left→Afc,mem_append_right→Afe,length_set→Aff,nil_sublist→Afg,append_nil→Afh,nil_append→Afi,perm_middle→Afj,length_replicate→Afk,take_length→Afq,take_of_length_le→Afu,sublist_append_right→Afw,getElem?_append_left→Afy,cons_append→Afz,getElem_of_mem→Aga,getElem?_append_right→Agc,mem_map_of_mem→Agl,getD_cons_succ→Agx,take_append_of_le_length→Agy,drop_of_length_le→Aha,getD_cons_zero→Ahd,length_singleton→Ahe,exists_cons_of_ne_nil→Ahh,pairwise_iff_getElem→Ahk,nodup_cons→Aht,drop_append_of_le_length→Ahw,getD→Ahx,mem_of_mem_take→Ahy,mem_map→Aid,mem_of_mem_drop→Ail,takeWhile_append_dropWhile→Aip,nodup_nil→Ait,drop_append→Ajh
open List.Perm renaming cons→Aem,swap→Afa,refl→Afr,append_right→Agz
open Option renaming getD_some→Ahf
open Int renaming toNat_natCast→Aib
section
namespace Go.Gk.Chn
open Go Go.Gk Go.Gk.Dev Go.Gk.Cch Go.Gk.Pgr
variable{s:PD}
def KD{i:Nat}(hi:i<s.kinds.length)(hk:s.kd i=1):s.drop ((s.frm+i:Nat):Int)=({s with kinds:=s.kinds.set i 0},0):=by
 unfold PD.drop;rw[if_pos (by rw[Ns hi];exact hk),show(((s.frm+i:Nat):Int) - s.frm).toNat=i by omega]
def JH{i:Nat}{k:Int}(hi:i<s.kinds.length)(hk:s.kd i=1):(s.drop ((s.frm+i:Nat):Int)).1.kind k=if k=((s.frm+i:Nat):Int) then 0 else s.kind k:=by
 rw[KD hi hk];by_cases e:k=((s.frm+i:Nat):Int)
 ·subst e;rw[if_pos Z];have:i<({s with kinds:=s.kinds.set i 0}:PD).kinds.length:=by simpa using hi
  rw[show((s.frm+i:Nat):Int)=((({s with kinds:=s.kinds.set i 0}:PD).frm+i:Nat):Int) from Z,Ns this];show(s.kinds.set i 0).getD i 0=0;rw[Dl hi,if_pos Z]
 ·rw[if_neg e];unfold PD.kind;simp only[Aff];by_cases q:(s.frm:Int)≤k∧k<(s.frm:Int)+s.kinds.length
  ·rw[if_pos q,if_pos q];show(s.kinds.set i 0).getD _ 0=s.kinds.getD _ 0;rw[Dl hi,if_neg (by omega)]
  ·rw[if_neg q,if_neg q]
def Yh{i:Nat}{k:Int}(hi:i<s.kinds.length)(hk:s.kd i=1)(e:k≠((s.frm+i:Nat):Int)):(s.drop ((s.frm+i:Nat):Int)).1.bytes k=s.bytes k:=by
 have h:=JH (k:=k) hi hk;rw[if_neg e] at h;unfold PD.bytes;rw[h,KD hi hk]
def Uo:∀{l:List Int}{s},(∀k∈l,s.kind k=1)→l.Nodup→(DM s l).free=s.free+l.length∧DP s l=(DM s l,0)∧(∀k∈l,(DM s l).kind k=0)∧∀k,k∉l→(DM s l).kind k=s.kind k∧(DM s l).bytes k=s.bytes k
 |[],s,_,_=>⟨Z,Z,fun k h=>(by cases h),fun _ _=>⟨Z,Z⟩⟩
 |k::l,s,hf,hn=>by
  obtain⟨hnk,hn'⟩:=Aht.1 hn;obtain⟨i,hi,rfl,hki, -⟩:=C0 (hf k (Aeo ..)) (by omega);have hd:=KD hi hki;have hf':∀k'∈l,(s.drop ((s.frm+i:Nat):Int)).1.kind k'=1:=fun k' hk'=>by
   rw[JH hi hki,if_neg (fun(q:k'=((s.frm+i:Nat):Int))=>hnk (by rw[←q];exact hk'))];exact hf k' (Aev _ hk')
  obtain⟨h1,h2,h3,h4⟩:=Uo hf' hn';have e:DM s (((s.frm+i:Nat):Int)::l)=DM (s.drop ((s.frm+i:Nat):Int)).1 l:=by simp[DM]
  have hfr:(s.drop ((s.frm+i:Nat):Int)).1.free=s.free+1:=by
   rw[hd];have:=O9 (s:=s) (i:=i) (x:=0) hi;rw[if_neg (by rw[←Kq hi,hki];decide),if_pos Z] at this;exact this
  rw[e];refine⟨by rw[h1,hfr,Aep];omega,?_,fun k' hk'=>?_,fun k' hk'=>?_⟩
  ·rw[DP,if_pos (by rw[hd]),h2]
  ·by_cases q:k'∈l
   ·exact h3 k' q
   ·rcases Aex.1 hk' with rfl|hk'
    ·rw[(h4 _ q).1,JH hi hki,if_pos Z]
    ·exact absurd hk' q
  ·have q1:k'∉l:=fun q=>hk' (Aev _ q);have q2:k'≠((s.frm+i:Nat):Int):=fun q=>hk' (by rw[q];exact Aeo ..);obtain⟨j1,j2⟩:=h4 k' q1;exact⟨by rw[j1,JH hi hki,if_neg q2],by rw[j2,Yh hi hki q2]⟩
def Zl{b}(hr:s.free<AP b.length):∃t,BK s b=(t,0,190)∧t.free=s.free:=by
 obtain⟨h1,h2⟩:=Li (n:=AP b.length) (Tk.nil s);have hz:(B0 s [] (AP b.length)).2.2=190:=by
  rcases h2 with ⟨-,q⟩|⟨q, -⟩
  ·omega
  ·exact q
 have ht:Bu s (AP b.length)=(DM (B0 s [] (AP b.length)).1 (B0 s [] (AP b.length)).2.1,[],190):=by unfold Bu;rw[if_neg (by rw[hz];decide),hz]
 refine⟨DM (B0 s [] (AP b.length)).1 (B0 s [] (AP b.length)).2.1,?_,?_⟩
 ·unfold BK;rw[ht];rfl
 ·obtain⟨q, -⟩:=Uo (s:=(B0 s [] (AP b.length)).1) (l:=(B0 s [] (AP b.length)).2.1) (fun k hk=>by rw[h1.kind,if_pos hk]) h1.nd;rw[q];exact h1.free
end Go.Gk.Chn
end
section
namespace Go.Gk.Tre
open Go Go.Gk Go.Gk.Dev Go.Gk.Cch Go.Gk.Pgr Go.Gk.Chn Go.Gk.Node
variable{n:Nat}{k size:Int}
section
abbrev wtc(s:PD)(n:Nat):PD:={s with tc:=n}
def Acf{s}:(wtc s n).kind k=s.kind k:=Z
def Aab{s}{b:Sec}:(wtc s n).put k b=(wtc (s.put k b).1 n,(s.put k b).2):=by
 unfold PD.put;rw[Acf];by_cases h1:s.kind k=1
 ·by_cases h2:b.length=256
  ·simp only[if_pos h1,if_pos h2]
  ·simp only[if_pos h1,if_neg h2]
 ·simp only[if_neg h1]
def Ww{s}:(wtc s n).AV=(wtc s.AV.1 n,s.AV.2):=by
 unfold PD.AV;show(match Dk 0 s.kinds with|some i=>_|none=>_)=_;cases Dk 0 s.kinds<;>rfl
def O6{s}:(wtc s n).drop k=(wtc (s.drop k).1 n,(s.drop k).2):=WD
def VA:∀{m:Nat}{s}{l:List Int},B0 (wtc s n) l m=(wtc (B0 s l m).1 n,(B0 s l m).2)
 |0,s,l=>rfl
 |m+1,s,l=>by
  rw[B0,B0,Ww];by_cases h:s.AV.2.2=0
  ·rw[if_pos h,if_pos h];exact VA
  ·rw[if_neg h,if_neg h]
def UU:∀{l:List Int}{s},DM (wtc s n) l=wtc (DM s l) n
 |[],s=>rfl
 |k::l,s=>by
  show DM ((wtc s n).drop k).1 l=wtc (DM (s.drop k).1 l) n;rw[O6];exact UU
def YK{m:Nat}{s}:Chn.Bu (wtc s n) m=(wtc (Chn.Bu s m).1 n,(Chn.Bu s m).2):=by
 unfold Chn.Bu;rw[VA];by_cases h:(B0 s [] m).2.2=0
 ·rw[if_pos h,if_pos h]
 ·rw[if_neg h,if_neg h,UU]
def Wv{s}{l:List Int}{b}:∀{i:Nat},Chn.CX (wtc s n) l b i=wtc (Chn.CX s l b i) n
 |0=>rfl
 |i+1=>by rw[Chn.CX,Chn.CX,Wv,Aab]
def O7{s b}:BK (wtc s n) b=(wtc (BK s b).1 n,(BK s b).2):=by
 unfold BK;rw[YK];simp only;by_cases h:(Chn.Bu s (AP b.length)).2.2=0
 ·rw[if_pos h,if_pos h,Wv]
 ·rw[if_neg h,if_neg h]
def Sf:∀{l:List Int}{s},DP (wtc s n) l=(wtc (DP s l).1 n,(DP s l).2)
 |[],s=>rfl
 |k::l,s=>by
  rw[DP,DP,O6];by_cases h:(s.drop k).2=0
  ·rw[if_pos h,if_pos h];exact Sf
  ·rw[if_neg h,if_neg h]
def VI{s}:Chn.BT (wtc s n) k size=Chn.BT s k size:=by
 have h:∀{m:Nat}{N:Nat}{z:Nat}{k:Int}{l:List Int}{o},DL (wtc s n) z N k l o m=DL s z N k l o m:=by
  intro m;induction m with
  |zero=>intros;rfl
  |succ m ih=>
   intro N z k l o
   rw[DL,DL]
   show(if Bs s k then if (G9 (s.bytes k)=65535)=(l.length+1=N) then if ((s.bytes k).drop _).all _ then DL (wtc s n) _ _ _ _ _ _ else _ else _ else _)=_
   simp only[ih]
   rfl
 unfold Chn.BT;simp only[h]
def YP{s}:D8 (wtc s n) k size=(wtc (D8 s k size).1 n,(D8 s k size).2):=by
 unfold D8;rw[VI];by_cases h:(Chn.BT s k size).2.2=0
 ·rw[if_pos h,if_pos h,Sf]
 ·rw[if_neg h,if_neg h]
section
variable {P:Program}{f:FuncId}{d:Ac}{s:PD}{dv pv:Value}{L:List Ac}
def PgT.mk(h:Pg d (wtc s n) dv pv L):PgT d s dv pv L:=⟨n,h⟩
def XK(h:Jv P f)(hp:PgT d s dv pv L){w}{b:Sec}(hb:AJ d w b):AA P f [pv,vZ k,w] d L (Ret fun r d' L'=>r=vZ (s.put k b).2∧PgT d' (s.put k b).1 dv pv L'):=by
 obtain⟨n,hp⟩:=hp;refine AA.DU (h (k:=k) hp hb) (fun r d' L' _ ⟨h1,h2⟩=>⟨d',L',Vs.refl _ _,?_⟩);rw[Aab] at h1 h2;exact⟨h1,n,h2⟩
def Yi(h:Pgr.Ff P f)(hp:PgT d s dv pv L):AA P f [pv] d L (Ret fun r d' L'=>r=.tuple #[vZ s.AV.2.1,vZ s.AV.2.2]∧PgT d' s.AV.1 dv pv L'):=by
 obtain⟨n,hp⟩:=hp;refine AA.DU (h hp) (fun r d' L' _ ⟨h1,h2⟩=>⟨d',L',Vs.refl _ _,?_⟩);rw[Ww] at h1 h2;exact⟨h1,n,h2⟩
def Yv(h:Gl P f)(hp:PgT d s dv pv L):AA P f [pv,vZ k] d L (Ret fun r d' L'=>r=vZ (s.drop k).2∧PgT d' (s.drop k).1 dv pv L'):=by
 obtain⟨n,hp⟩:=hp;refine AA.DU (h (k:=k) hp) (fun r d' L' _ ⟨h1,h2⟩=>⟨d',L',Vs.refl _ _,?_⟩);rw[O6] at h1 h2;exact⟨h1,n,h2⟩
def Adp(h:MF P f)(hp:PgT d s dv pv L){w b}(hb:AJ d w b)(hl:b.length≤16384):
  AA P f [pv,w] d L (Ret fun r d' L'=>Le d d'∧r=.tuple #[vZ (BK s b).2.1,vZ (BK s b).2.2]∧PgT d' (BK s b).1 dv pv L'):=by
 obtain⟨n,hp⟩:=hp
 refine AA.DU (h hp hb hl) (fun r d' L' _ ⟨h0,h1,h2⟩=>⟨d',L',Vs.refl _ _,?_⟩)
 rw[O7] at h1 h2;exact⟨h0,h1,n,h2⟩
def Zi(h:Kt P f)(hp:PgT d s dv pv L):
  AA P f [pv,vZ k,vZ size] d L (Ret fun r d' L'=>Le d d'∧r=vZ (D8 s k size).2∧PgT d' (D8 s k size).1 dv pv L'):=by
 obtain⟨n,hp⟩:=hp
 refine AA.DU (h (k:=k) (size:=size) hp) (fun r d' L' _ ⟨h0,h1,tc,h2⟩=>⟨d',L',Vs.refl _ _,?_⟩)
 rw[YP] at h1 h2;exact⟨h0,h1,tc,h2⟩
end
end
end Go.Gk.Tre
end
section
namespace Go.Gk.Tre
open Go Go.Gk Go.Gk.Dev Go.Gk.Cch Go.Gk.Pgr Go.Gk.Chn Go.Gk.Node
attribute [local irreducible] gwp gws xwp
def Je(P:Program)(f:FuncId):Prop:=∀{d s dv pv w L}{bt:Nat}{Tt}{r h c:Int}{b},Pg d s dv pv L→AJ d w b→
 AA P f [pZ bt,w] d (tb bt Tt pv r h c::L) (Ret fun v d' L'=>Le d d'∧∃u L2 tc,v=.tuple #[u,vZ (Cu s b).2]∧L'=tb bt Tt pv r h c::L2∧AJ d' u (Cu s b).1∧
  Pg d' {s with tc:=tc} dv pv L2∧((Cu s b).2=0→tc=s.tc+D3 b))
def Ri{b:List UInt8}{m:Nat}(e:(0:Int)=(m:Int))(h:m<b.length){n:Nat}(hb:(b.getD 0 0).toNat=n):(b[m]'h).toNat=n:=by
 have:m=0:=by omega
 subst this;rw[←hb,CW h]
def N4(a0 a1 a2:Nat):A0:=⟨38,[(.tmp 4),(.tmp 5)],(sR (o1 4 (.mv nS)<|o1 5 (.mv z0) .done) (.seq (sR (om 9 1<|oL 10 9<|ob 11 .gtr 10 z0<|om 12 11<|gT 13 12 1<|oT 14 12 (.idx 1 13 z0)<|oT 15 12 (.ld none 14)<|oT 16 12 (.bin .eql 15 (.const (.int .u8 0)))<|gP 17 12 16 .done) (.cond 17 (sR (om 18 1<|o1 19 (.sl 1 18 (some z1) none none)<|oc 20 a0 [19]<|om 4 20<|o1 5 (.mv z0) .done) .ret) .skip)) (sR (om 22 1<|oc 23 a1 [22]<|om 21 23<|oe 24 21 0<|oe 25 21 1<|oe 26 21 2<|om 6 24<|om 7 25<|om 8 26 .done) (.seq (sR (om 27 8<|o1 28 (.un .not 27) .done) (.cond 28 (sR (o1 4 (.mv nS)<|o1 5 (.mv (kZ 200)) .done) .ret) .skip)) (sR (om 29 0<|o1 30 (.nilc 29)<|oj 31 0 30<|ol 32 31<|om 33 6<|om 34 7<|oc 35 a2 [32,33,34]<|oe 36 35 0<|oe 37 35 1<|om 4 36<|om 5 37 .done) .ret)))))⟩
set_option maxRecDepth 4000 in
def R6{P:Program}{f f1 f2 f3:FuncId}(hd:dec P f=some (N4 f1 f2 f3))(h1:DX AH 1 P f1)(h2:Ic P f2)(h3:Kp P f3):Je P f:=by
 intro d s dv pv w L bt Tt r h c b hp hw;obtain⟨bp,rfl⟩:=hp.ptr;obtain⟨wa,wc,rfl⟩:=RSl.val hw;refine AG hd (Aea Z) ?_;show gwp P _ _ _ _ _;by_cases h0:0<b.length
 ·have g0:=CW (b:=b) (i:=0) h0;by_cases e0:b[0]=0
  ·have hb0:=Ri (b:=b) Z h0 (n:=0) (by rw[g0,e0];rfl);(refine Ad<|Aj Z<|Ab Z<|Aa<|Ag<|Ad<|Aj Z<|AI Z<|Bx Z Z<|Ae Z<|A8 Z (by omega)<|Af Z<|Aj Z<|Af Z<|Bg (sz:=1) (R:=AH) (by rfl) (by assumption) (by rfl) Z (by omega) ?_;rintro _ _ _ _ _ rfl;refine Af Z<|Ah Z (BQ (by assumption) Z)<|Af Z<|AN Z Z<|Ay Z Z<|Aa<|Aw Z (by omega)<|Ad<|Aj Z ?_);refine Eb (R:=AH) (sz:=1) (n:=1) Z hw Z Z (by omega) (fun v' hv'=>?_);have hi:inB b=true:=by unfold inB;rw[g0,e0];simp[h0]
   have hF:Cu s b=(b.drop 1,0):=by unfold Cu;rw[if_pos hi]
   have hT:D3 b=0:=by unfold D3;rw[if_pos hi]
   rw[hF,hT];refine Bl Z (h1 hv' (by have:=hw.BF;rw[Aen];omega)) (fun v d1 L1 _ ⟨e1,hh,e2,hg⟩=>?_);subst e1;subst e2;obtain⟨ga,gc,rfl⟩:=hg.val;(refine Aj Z<|Ab Z<|Aa<|Ap ?_);exact A4 [.slice ga (b.drop 1).length gc,vZ 0] ⟨Aq Z,Aq Z,trivial⟩ (d':=join d1 hh) (L':=tb bt Tt (pZ bp) r h c::L) Vs.freeze ⟨Le.Az _ _,_,L,s.tc,Z,Z,As.rsl (R:=AH) (sz:=1) hg AL (by omega) (Le.Az _ _) (Le.A6 _ _),hp.mono (Le.Az _ _),fun _=>Z⟩
  ·have hb0:=Ri (b:=b) Z h0 (n:=_) (congrArg UInt8.toNat g0);have hb1:b[0].toNat≠0:=fun q=>e0 (UInt8.toNat_inj.1 q);(refine Ad<|Aj Z<|Ab Z<|Aa<|Ag<|Ad<|Aj Z<|AI Z<|Bx Z Z<|Ae Z<|A8 Z (by omega)<|Af Z<|Aj Z<|Af Z<|Bg (sz:=1) (R:=AH) (by rfl) (by assumption) (by rfl) Z (by omega) ?_;rintro _ _ _ _ _ rfl;refine Af Z<|Ah Z (BQ (by assumption) Z)<|Af Z<|AN Z Z<|Ay Z Z<|Aa<|Ar Z (by omega)<|Ak<|Ad<|Aj Z ?_);have hi:inB b=false:=by unfold inB;rw[g0];simp[e0]
   cases hf:Fm b with
   |true=>
    have hF:Cu s b=(Chn.BT s (Fz b) (ED b)).2:=by unfold Cu;rw[hi,if_neg (by decide),hf,if_pos Z]
    have hT:D3 b=AP (ED b):=by unfold D3;rw[hi,if_neg (by decide)]
    rw[hF,hT]
    have hc:=h2 hw
    rw[hf,if_pos Z,if_pos Z] at hc
    refine BE Z hc ?_
    (refine AT Z<|Ao Z Z<|Ao Z Z<|Ao Z Z<|Ab Z<|Ab Z<|Ae Z<|Aa<|Ag<|Ad<|Ae Z<|Bn Z<|Aa<|AS Z<|Ak<|Ad<|Am Z<|AF Z<|Ai Z<|Ah Z (Al 0 Z Z)<|Ab Z<|Ab Z ?_)
    refine AY [_] (h3 (k:=Fz b) (size:=ED b) hp) Z Z (fun v d2 L2 hl ⟨_,u,tc,e1,hu,hp2,htc⟩=>?_)
    subst e1
    rw[Aib] at htc
    (refine Ao Z Z<|Ao Z Z<|AR<|Ab Z<|Aa<|Ap ?_)
    exact Cw Z Z (Aeb _) ⟨hl,u,L2,tc,Z,Z,hu,hp2,htc⟩
   |false=>
    have hF:Cu s b=([],200):=by unfold Cu;rw[hi,if_neg (by decide),hf,if_neg (by decide)]
    rw[hF]
    have hc:=h2 hw
    rw[hf,if_neg (by decide),if_neg (by decide)] at hc
    refine BE Z hc ?_
    (refine AT Z<|Ao Z Z<|Ao Z Z<|Ao Z Z<|Ab Z<|Ab Z<|Ae Z<|Aa<|Ag<|Ad<|Ae Z<|Bn Z<|Aa<|Bc Z<|Ad<|Aj Z<|Ab Z<|Aa<|Ap ?_)
    exact Cw Z Z (Aeb _) ⟨Le.refl _,_,L,s.tc,Z,Z,RSl.nil,hp,fun q=>absurd (show(200:Int)=0 from q) (by decide)⟩
 ·(refine Ad<|Aj Z<|Ab Z<|Aa<|Ag<|Ad<|Aj Z<|AI Z<|Bx Z Z<|Ae Z<|A3 Z (by omega)<|An Z<|An Z<|An Z<|An Z<|Au Z Z<|Aa<|AS Z<|Ak<|Ad<|Aj Z ?_);have hi:inB b=false:=by unfold inB;simp[h0]
  cases hf:Fm b with
  |true=>
   have hF:Cu s b=(Chn.BT s (Fz b) (ED b)).2:=by unfold Cu;rw[hi,if_neg (by decide),hf,if_pos Z]
   have hT:D3 b=AP (ED b):=by unfold D3;rw[hi,if_neg (by decide)]
   rw[hF,hT]
   have hc:=h2 hw
   rw[hf,if_pos Z,if_pos Z] at hc
   refine BE Z hc ?_
   (refine AT Z<|Ao Z Z<|Ao Z Z<|Ao Z Z<|Ab Z<|Ab Z<|Ae Z<|Aa<|Ag<|Ad<|Ae Z<|Bn Z<|Aa<|AS Z<|Ak<|Ad<|Am Z<|AF Z<|Ai Z<|Ah Z (Al 0 Z Z)<|Ab Z<|Ab Z ?_)
   refine AY [_] (h3 (k:=Fz b) (size:=ED b) hp) Z Z (fun v d2 L2 hl ⟨_,u,tc,e1,hu,hp2,htc⟩=>?_)
   subst e1
   rw[Aib] at htc
   (refine Ao Z Z<|Ao Z Z<|AR<|Ab Z<|Aa<|Ap ?_)
   exact Cw Z Z (Aeb _) ⟨hl,u,L2,tc,Z,Z,hu,hp2,htc⟩
  |false=>
   have hF:Cu s b=([],200):=by unfold Cu;rw[hi,if_neg (by decide),hf,if_neg (by decide)]
   rw[hF]
   have hc:=h2 hw
   rw[hf,if_neg (by decide),if_neg (by decide)] at hc
   refine BE Z hc ?_
   (refine AT Z<|Ao Z Z<|Ao Z Z<|Ao Z Z<|Ab Z<|Ab Z<|Ae Z<|Aa<|Ag<|Ad<|Ae Z<|Bn Z<|Aa<|Bc Z<|Ad<|Aj Z<|Ab Z<|Aa<|Ap ?_)
   exact Cw Z Z (Aeb _) ⟨Le.refl _,_,L,s.tc,Z,Z,RSl.nil,hp,fun q=>absurd (show(200:Int)=0 from q) (by decide)⟩
def Kk(P:Program)(f:FuncId):Prop:=∀{d s dv pv w L}{bt:Nat}{Tt}{r h c:Int}{b},PgT d s dv pv L→AJ d w b→
 AA P f [pZ bt,w] d (tb bt Tt pv r h c::L) (Ret fun v d' L'=>Le d d'∧v=vZ (BY s b).2∧∃L2,L'=tb bt Tt pv r h c::L2∧PgT d' (BY s b).1 dv pv L2)
def OF(a0 a1:Nat):A0:=⟨32,[(.tmp 4)],(sR (o1 4 (.mv z0) .done) (.seq (sR (om 8 1<|oL 9 8<|ob 10 .gtr 9 z0<|om 11 10<|gT 12 11 1<|oT 13 11 (.idx 1 12 z0)<|oT 14 11 (.ld none 13)<|oT 15 11 (.bin .eql 14 (.const (.int .u8 0)))<|gP 16 11 15 .done) (.cond 16 (sR (o1 4 (.mv z0) .done) .ret) .skip)) (sR (om 18 1<|oc 19 a0 [18]<|om 17 19<|oe 20 17 0<|oe 21 17 1<|oe 22 17 2<|om 5 20<|om 6 21<|om 7 22 .done) (.seq (sR (om 23 7<|o1 24 (.un .not 23) .done) (.cond 24 (sR (o1 4 (.mv (kZ 200)) .done) .ret) .skip)) (sR (om 25 0<|o1 26 (.nilc 25)<|oj 27 0 26<|ol 28 27<|om 29 5<|om 30 6<|oc 31 a1 [28,29,30]<|om 4 31 .done) .ret)))))⟩
set_option maxRecDepth 4000 in
def Ud{P:Program}{f f1 f2:FuncId}(hd:dec P f=some (OF f1 f2))(h1:Ic P f1)(h2:Kt P f2):Kk P f:=by
 intro d s dv pv w L bt Tt r h c b hp hw;obtain⟨bp,rfl⟩:=hp.ptr;obtain⟨wa,wc,rfl⟩:=RSl.val hw;refine AG hd (Aea Z) ?_;show gwp P _ _ _ _ _;by_cases h0:0<b.length
 ·have g0:=CW (b:=b) (i:=0) h0;by_cases e0:b[0]=0
  ·have hb0:=Ri (b:=b) Z h0 (n:=0) (by rw[g0,e0];rfl);(refine Ad<|Ab Z<|Aa<|Ag<|Ad<|Aj Z<|AI Z<|Bx Z Z<|Ae Z<|A8 Z (by omega)<|Af Z<|Aj Z<|Af Z<|Bg (sz:=1) (R:=AH) (by rfl) (by assumption) (by rfl) Z (by omega) ?_;rintro _ _ _ _ _ rfl;refine Af Z<|Ah Z (BQ (by assumption) Z)<|Af Z<|AN Z Z<|Ay Z Z<|Aa<|Aw Z (by omega)<|Ad<|Ab Z<|Aa<|Ap ?_);have hi:inB b=true:=by unfold inB;rw[g0,e0];simp[h0]
   have hF:BY s b=(s,0):=by unfold BY;rw[if_pos hi]
   rw[hF];exact BO Z (Aeb _) ⟨Le.refl _,Z,L,Z,hp⟩
  ·have hb0:=Ri (b:=b) Z h0 (n:=_) (congrArg UInt8.toNat g0);have hb1:b[0].toNat≠0:=fun q=>e0 (UInt8.toNat_inj.1 q);(refine Ad<|Ab Z<|Aa<|Ag<|Ad<|Aj Z<|AI Z<|Bx Z Z<|Ae Z<|A8 Z (by omega)<|Af Z<|Aj Z<|Af Z<|Bg (sz:=1) (R:=AH) (by rfl) (by assumption) (by rfl) Z (by omega) ?_;rintro _ _ _ _ _ rfl;refine Af Z<|Ah Z (BQ (by assumption) Z)<|Af Z<|AN Z Z<|Ay Z Z<|Aa<|Ar Z (by omega)<|Ak<|Ad<|Aj Z ?_);have hi:inB b=false:=by unfold inB;rw[g0];simp[e0]
   cases hf:Fm b with
   |true=>
    have hF:BY s b=D8 s (Fz b) (ED b):=by unfold BY;rw[hi,if_neg (by decide),hf,if_pos Z]
    rw[hF]
    have hc:=h1 hw
    rw[hf,if_pos Z,if_pos Z] at hc
    refine BE Z hc ?_
    clear hi hf
    (refine AT Z<|Ao Z Z<|Ao Z Z<|Ao Z Z<|Ab Z<|Ab Z<|Ae Z<|Aa<|Ag<|Ad<|Ae Z<|Bn Z<|Aa<|AS Z<|Ak<|Ad<|Am Z<|AF Z<|Ai Z<|Ah Z (Al 0 Z Z)<|Ab Z<|Ab Z ?_)
    refine AY [_] (Zi h2 (k:=Fz b) (size:=ED b) hp) Z Z (fun v d2 L2 hl ⟨_,e1,hp2⟩=>?_)
    subst e1
    (refine Ab Z<|Aa<|Ap ?_)
    exact BO Z (Aeb _) ⟨hl,Z,L2,Z,hp2⟩
   |false=>
    have hF:BY s b=(s,200):=by unfold BY;rw[hi,if_neg (by decide),hf,if_neg (by decide)]
    rw[hF]
    have hc:=h1 hw
    rw[hf,if_neg (by decide),if_neg (by decide)] at hc
    refine BE Z hc ?_
    clear hi hf
    (refine AT Z<|Ao Z Z<|Ao Z Z<|Ao Z Z<|Ab Z<|Ab Z<|Ae Z<|Aa<|Ag<|Ad<|Ae Z<|Bn Z<|Aa<|Bc Z<|Ad<|Ab Z<|Aa<|Ap ?_)
    exact BO Z (Aeb _) ⟨Le.refl _,Z,L,Z,hp⟩
 ·(refine Ad<|Ab Z<|Aa<|Ag<|Ad<|Aj Z<|AI Z<|Bx Z Z<|Ae Z<|A3 Z (by omega)<|An Z<|An Z<|An Z<|An Z<|Au Z Z<|Aa<|AS Z<|Ak<|Ad<|Aj Z ?_);have hi:inB b=false:=by unfold inB;simp[h0]
  cases hf:Fm b with
  |true=>
   have hF:BY s b=D8 s (Fz b) (ED b):=by unfold BY;rw[hi,if_neg (by decide),hf,if_pos Z]
   rw[hF]
   have hc:=h1 hw
   rw[hf,if_pos Z,if_pos Z] at hc
   refine BE Z hc ?_
   clear hi hf
   (refine AT Z<|Ao Z Z<|Ao Z Z<|Ao Z Z<|Ab Z<|Ab Z<|Ae Z<|Aa<|Ag<|Ad<|Ae Z<|Bn Z<|Aa<|AS Z<|Ak<|Ad<|Am Z<|AF Z<|Ai Z<|Ah Z (Al 0 Z Z)<|Ab Z<|Ab Z ?_)
   refine AY [_] (Zi h2 (k:=Fz b) (size:=ED b) hp) Z Z (fun v d2 L2 hl ⟨_,e1,hp2⟩=>?_)
   subst e1
   (refine Ab Z<|Aa<|Ap ?_)
   exact BO Z (Aeb _) ⟨hl,Z,L2,Z,hp2⟩
  |false=>
   have hF:BY s b=(s,200):=by unfold BY;rw[hi,if_neg (by decide),hf,if_neg (by decide)]
   rw[hF]
   have hc:=h1 hw
   rw[hf,if_neg (by decide),if_neg (by decide)] at hc
   refine BE Z hc ?_
   clear hi hf
   (refine AT Z<|Ao Z Z<|Ao Z Z<|Ao Z Z<|Ab Z<|Ab Z<|Ae Z<|Aa<|Ag<|Ad<|Ae Z<|Bn Z<|Aa<|Bc Z<|Ad<|Ab Z<|Aa<|Ap ?_)
   exact BO Z (Aeb _) ⟨Le.refl _,Z,L,Z,hp⟩
def O5(a0:Nat):A0:=⟨44,[(.tmp 4),(.tmp 5)],(sR (o1 4 (.mv nS)<|o1 5 (.mv z0) .done) (.seq (sR (om 9 1<|oL 10 9<|ob 11 .leq 10 (kZ 15) .done) (.cond 11 (sR (o1 12 (.bsl 1 1 [(.int .u8 0)] [(0,(.const (.int .u8 0)))])<|om 13 1<|o1 14 (.app 1 1 [(.int .u8 0)] 12 13)<|om 4 14<|o1 5 (.mv z0) .done) .ret) .skip)) (sR (om 16 0<|o1 17 (.nilc 16)<|oj 18 0 17<|ol 19 18<|om 20 1<|oc 21 a0 [19,20]<|om 15 21<|oe 22 15 0<|oe 23 15 1<|om 6 22<|om 7 23 .done) (sR (om 24 1<|oL 25 24<|om 8 25 .done) (sR (om 26 6<|ob 27 .shr 26 (.const (.int .u64 8))<|o1 28 (.cvi .u8 27)<|om 29 6<|o1 30 (.cvi .u8 29)<|om 31 8<|ob 32 .shr 31 (.const (.int .u64 24))<|o1 33 (.cvi .u8 32)<|om 34 8<|ob 35 .shr 34 (.const (.int .u64 16))<|o1 36 (.cvi .u8 35)<|om 37 8<|ob 38 .shr 37 (.const (.int .u64 8))<|o1 39 (.cvi .u8 38)<|om 40 8<|o1 41 (.cvi .u8 40)<|o1 42 (.bsl 7 1 [(.int .u8 0)] [(0,(.const (.int .u8 1))),(1,28),(2,30),(3,33),(4,36),(5,39),(6,41)])<|om 43 7<|om 4 42<|om 5 43 .done) .ret)))))⟩
def Uj{s}(hG:Pgr.Good s){b}:0≤(BK s b).2.1∧(BK s b).2.1≤16384:=by
 obtain⟨h1, -⟩:=Li (n:=AP b.length) (Tk.nil s);unfold BK;by_cases hz:(B0 s [] (AP b.length)).2.2=0
 ·have ht:Chn.Bu s (AP b.length)=B0 s [] (AP b.length):=by unfold Chn.Bu;rw[if_pos hz]
  rw[ht];simp only[hz,if_true];generalize (B0 s [] (AP b.length)).2.1=l at h1;cases l with
  |nil=>show 0≤(0:Int)∧(0:Int)≤16384;decide
  |cons k l=>
   obtain⟨j,j1,j2, -⟩:=h1.was k (Aeo ..)
   have:=hG.inn
   have:=hG.syn
   show 0≤k∧k≤16384
   omega
 ·have ht:(Chn.Bu s (AP b.length)).2.2≠0:=by unfold Chn.Bu;rw[if_neg hz];exact hz
  simp only[ht,if_false];show 0≤(0:Int)∧(0:Int)≤16384;decide
def Hy(P:Program)(f:FuncId):Prop:=∀{d s dv pv L}{bt:Nat}{Tt}{r h c k:Int}{cs}{n:AK},PgT d s dv pv L→Cj d cs n→A9 n≤1000000000000→
 AA P f [pZ bt,vZ k,.agg cs.toArray] d (tb bt Tt pv r h c::L) (Ret fun v d' L'=>Le d d'∧v=.tuple #[vZ (Bb s k n).2.1,vZ (Bb s k n).2.2]∧∃L2,L'=tb bt Tt pv r h c::L2∧PgT d' (Bb s k n).1 dv pv L2)
def Cj.four{d cs}{n:AK}(h:Cj d cs n):∃ka kc va vc ia ic,cs=[.bool n.leaf,.slice ka n.keys.length kc,.slice va n.vals.length vc,.slice ia n.kids.length ic]:=by
 obtain⟨kv,vv,iv,rfl,a1,a2,a3⟩:=h;obtain⟨x1,x2,rfl⟩:=a1.val;obtain⟨y1,y2,rfl⟩:=a2.val;obtain⟨z1,z2,rfl⟩:=a3.val;exact⟨_,_,_,_,_,_,Z⟩
def Qp(a0 a1 a2 a3:Nat):A0:=⟨64,[(.tmp 6),(.tmp 7)],(sR (o1 5 (.box 2)<|o1 6 (.mv z0)<|o1 7 (.mv z0) .done) (sR (o1 14 (.ld (some 4) 5)<|oc 15 a0 [14]<|om 13 15<|oe 16 13 0<|oe 17 13 1<|om 8 16<|om 9 17 .done) (.seq (sR (om 18 9<|ob 19 .neq 18 z0 .done) (.cond 19 (sR (om 20 9<|o1 6 (.mv z0)<|om 7 20 .done) .ret) .skip)) (.seq (sR (om 21 1<|ob 22 .geq 21 z0 .done) (.cond 22 (sR (om 23 0<|o1 24 (.nilc 23)<|oj 25 0 24<|ol 26 25<|om 27 1<|om 28 8<|oc 29 a1 [26,27,28]<|om 10 29 .done) (sR (om 30 10<|ob 31 .neq 30 (kZ 240) .done) (.cond 31 (sR (om 32 1<|om 33 10<|om 6 32<|om 7 33 .done) .ret) .skip))) .skip)) (sR (om 35 0<|o1 36 (.nilc 35)<|oj 37 0 36<|ol 38 37<|oc 39 a2 [38]<|om 34 39<|oe 40 34 0<|oe 41 34 1<|om 11 40<|om 9 41 .done) (.seq (sR (om 42 9<|ob 43 .neq 42 z0 .done) (.cond 43 (sR (om 44 9<|o1 6 (.mv z0)<|om 7 44 .done) .ret) .skip)) (.seq (sR (om 45 1<|ob 46 .geq 45 z0 .done) (.cond 46 (sR (om 47 0<|o1 48 (.nilc 47)<|oj 49 0 48<|ol 50 49<|om 51 1<|oc 52 a3 [50,51]<|om 12 52 .done) (sR (om 53 12<|ob 54 .neq 53 z0 .done) (.cond 54 (sR (om 55 12<|o1 6 (.mv z0)<|om 7 55 .done) .ret) .skip))) .skip)) (sR (om 56 11<|om 57 0<|o1 58 (.nilc 57)<|oj 59 0 58<|ol 60 59<|om 61 11<|om 62 8<|oc 63 a1 [60,61,62]<|om 6 56<|om 7 63 .done) .ret))))))))⟩
set_option maxRecDepth 4000 in
def Ul{P f f1 f2 f3 f4}(hd:dec P f=some (Qp f1 f2 f3 f4))(h1:IN P f1)(h2:Jv P f2)(h3:Pgr.Ff P f3)(h4:Pgr.Gl P f4):Hy P f:=by
 intro d s dv pv L bt Tt r h c k cs n hp hn hz;obtain⟨bp,rfl⟩:=hp.ptr;have hn0:=hn;obtain⟨ka,kc,va,vc,ia,ic,rfl⟩:=Cj.four hn;refine AG hd (Aea Z) ?_;show gwp P _ _ _ _ _;apply Ag;apply AE;refine Ck Z (fun b5 T5=>?_);refine Ab Z<|Ab Z<|Aa<|Ad<|Bf 0 Z Z Z<|Bl Z (Qo h1 hn0 hz) (fun v d2 L2 _ ⟨e0,u,g,e1,e2,hg⟩=>?_);subst e0;subst e1;subst e2;obtain⟨ua,uc,rfl⟩:=hg.val;cases hr:Bp n with
 |false=>
  have hF:Bb s k n=(s,0,200):=by unfold Bb;rw[hr,if_neg (by decide)]
  rw[hF]
  rw[hr,if_neg (by decide)] at hg
  rw[if_neg (by decide),if_neg (by decide)]
  clear hr hF
  (refine AT Z<|Ao Z Z<|Ao Z Z<|Aj Z<|Ab Z<|Aa<|Ag<|Ad<|Ab Z<|AO Z Z<|Aa<|Aw Z (by omega)<|Ad<|Ab Z<|Ab Z<|Ab Z<|Aa<|Ap ?_)
  exact Cw (L':=tb bt Tt (pZ bp) r h c::L) Z Z (.cons _ (.cons _ (Aeb _))) ⟨Le.refl _,Z,L,Z,hp⟩
 |true=>
  rw[hr,if_pos Z] at hg
  rw[if_pos Z,if_pos Z]
  obtain⟨d3,hle,v1,hb⟩:∃d3,Le d2 d3∧Vs d2 [g] d3 []∧AJ d3 (.slice ua (B4 n).length uc) (B4 n):=⟨join d2 g,Le.Az _ _,Vs.freeze,As.rsl (R:=AH) (sz:=1) hg AL (by omega) (Le.Az _ _) (Le.A6 _ _)⟩
  have hp3:=hp.mono hle
  refine BS _ _ (Vs.app v1 _) ?_
  have hP:Bb s k n=if 0≤k∧(s.put k (B4 n)).2≠240 then((s.put k (B4 n)).1,k,(s.put k (B4 n)).2)
    else if s.AV.2.2≠0 then(s.AV.1,0,s.AV.2.2)
    else if 0≤k then
     if (s.AV.1.drop k).2≠0 then((s.AV.1.drop k).1,0,(s.AV.1.drop k).2)
     else(((s.AV.1.drop k).1.put s.AV.2.1 (B4 n)).1,s.AV.2.1,((s.AV.1.drop k).1.put s.AV.2.1 (B4 n)).2)
    else((s.AV.1.put s.AV.2.1 (B4 n)).1,s.AV.2.1,(s.AV.1.put s.AV.2.1 (B4 n)).2):=by unfold Bb;rw[hr,if_pos Z]
  clear hr
  generalize B4 n=pg at hb hP
  by_cases hk:0≤k
  ·(refine AT Z<|Ao Z Z<|Ao Z Z<|Aj Z<|Ab Z<|Aa<|Ag<|Ad<|Ab Z<|AO Z Z<|Aa<|Ar Z (by omega)<|Ak<|Ag<|Ad<|Ab Z<|Da Z Z<|Aa<|Aw Z (by omega)<|Ad<|Am Z<|AF Z<|Ai Z<|Ah Z (Al 1 Z Z)<|Ab Z<|Aj Z ?_)
   refine AY [_,_] (XK h2 hp3 (k:=k) hb) Z Z (fun w d4 L4 hl4 ⟨e4,hp4⟩=>?_)
   subst e4
   by_cases he:(s.put k pg).2=240
   ·have hs4:(s.put k pg).1=s:=by
     unfold PD.put at he⊢;by_cases q1:s.kind k=1
     ·by_cases q2:pg.length=256
      ·simp only[if_pos q1,if_pos q2] at he;exact absurd he (by decide)
      ·simp only[if_pos q1,if_neg q2]
     ·simp only[if_neg q1]
    rw[hs4] at hp4
    rw[if_neg (fun q=>q.2 he)] at hP
    rw[he]
    have hb4:=RSl.mono (R:=AH) AL hb hl4
    (refine Ab Z<|Aa<|Ad<|Ab Z<|AO Z Z<|Aa<|Ar Z (by omega)<|Ak<|Ad<|Am Z<|AF Z<|Ai Z<|Ah Z (Al 1 Z Z) ?_)
    refine AY [_,_] (Yi h3 hp4) Z Z (fun w d5 L5 hl5 ⟨e5,hp5⟩=>?_)
    subst e5
    have hb5:=RSl.mono (R:=AH) AL hb4 hl5
    by_cases ht:s.AV.2.2=0
    ·rw[if_neg (fun q=>q ht),if_pos hk] at hP
     rw[ht]
     (refine AT Z<|Ao Z Z<|Ao Z Z<|Ab Z<|Ab Z<|Aa<|Ag<|Ad<|Ab Z<|AO Z Z<|Aa<|Ar Z (by omega)<|Ak<|Ag<|Ad<|Ab Z<|Da Z Z<|Aa<|Aw Z (by omega)<|Ad<|Am Z<|AF Z<|Ai Z<|Ah Z (Al 1 Z Z)<|Ab Z ?_)
     refine AY [_,_] (Yv h4 hp5 (k:=k)) Z Z (fun w d6 L6 hl6 ⟨e6,hp6⟩=>?_)
     subst e6
     by_cases hd6:(s.AV.1.drop k).2=0
     ·rw[if_neg (fun q=>q hd6)] at hP
      rw[hd6,hP]
      have hb6:=RSl.mono (R:=AH) AL hb5 hl6
      (refine Ab Z<|Aa<|Ad<|Ab Z<|AO Z Z<|Aa<|Ar Z (by omega)<|Ak<|Ad<|Ab Z<|Am Z<|AF Z<|Ai Z<|Ah Z (Al 1 Z Z)<|Ab Z<|Aj Z ?_)
      refine AY [_,_] (XK h2 hp6 (k:=s.AV.2.1) hb6) Z Z (fun w d7 L7 hl7 ⟨e7,hp7⟩=>?_)
      subst e7
      (refine Ab Z<|Ab Z<|Aa<|Ap ?_)
      exact Cw (L':=tb bt Tt (pZ bp) r h c::L7) Z Z (.cons _ (Aeb _)) ⟨(hle.trans hl4).trans ((hl5.trans hl6).trans hl7),Z,L7,Z,hp7⟩
     ·rw[if_pos hd6] at hP
      rw[hP]
      (refine Ab Z<|Aa<|Ad<|Ab Z<|AO Z Z<|Aa<|Aw Z (by omega)<|Ad<|Ab Z<|Ab Z<|Ab Z<|Aa<|Ap ?_)
      exact Cw (L':=tb bt Tt (pZ bp) r h c::L6) Z Z (.cons _ (Aeb _)) ⟨(hle.trans hl4).trans (hl5.trans hl6),Z,L6,Z,hp6⟩
    ·rw[if_pos ht] at hP
     rw[hP]
     (refine AT Z<|Ao Z Z<|Ao Z Z<|Ab Z<|Ab Z<|Aa<|Ag<|Ad<|Ab Z<|AO Z Z<|Aa<|Aw Z (by omega)<|Ad<|Ab Z<|Ab Z<|Ab Z<|Aa<|Ap ?_)
     exact Cw (L':=tb bt Tt (pZ bp) r h c::L5) Z Z (.cons _ (Aeb _)) ⟨(hle.trans hl4).trans hl5,Z,L5,Z,hp5⟩
   ·rw[if_pos ⟨hk,he⟩] at hP
    rw[hP]
    (refine Ab Z<|Aa<|Ad<|Ab Z<|AO Z Z<|Aa<|Aw Z (by omega)<|Ad<|Ab Z<|Ab Z<|Ab Z<|Ab Z<|Aa<|Ap ?_)
    exact Cw (L':=tb bt Tt (pZ bp) r h c::L4) Z Z (.cons _ (Aeb _)) ⟨hle.trans hl4,Z,L4,Z,hp4⟩
  ·rw[if_neg (fun q=>hk q.1)] at hP
   (refine AT Z<|Ao Z Z<|Ao Z Z<|Aj Z<|Ab Z<|Aa<|Ag<|Ad<|Ab Z<|AO Z Z<|Aa<|Ar Z (by omega)<|Ak<|Ag<|Ad<|Ab Z<|Da Z Z<|Aa<|Ar Z (by omega)<|Ak<|Ad<|Am Z<|AF Z<|Ai Z<|Ah Z (Al 1 Z Z) ?_)
   refine AY [_,_] (Yi h3 hp3) Z Z (fun w d5 L5 hl5 ⟨e5,hp5⟩=>?_)
   subst e5
   have hb5:=RSl.mono (R:=AH) AL hb hl5
   by_cases ht:s.AV.2.2=0
   ·rw[if_neg (fun q=>q ht),if_neg hk] at hP
    rw[ht,hP]
    (refine AT Z<|Ao Z Z<|Ao Z Z<|Ab Z<|Ab Z<|Aa<|Ag<|Ad<|Ab Z<|AO Z Z<|Aa<|Ar Z (by omega)<|Ak<|Ag<|Ad<|Ab Z<|Da Z Z<|Aa<|Ar Z (by omega)<|Ak<|Ad<|Ab Z<|Am Z<|AF Z<|Ai Z<|Ah Z (Al 1 Z Z)<|Ab Z<|Aj Z ?_)
    refine AY [_,_] (XK h2 hp5 (k:=s.AV.2.1) hb5) Z Z (fun w d7 L7 hl7 ⟨e7,hp7⟩=>?_)
    subst e7
    (refine Ab Z<|Ab Z<|Aa<|Ap ?_)
    exact Cw (L':=tb bt Tt (pZ bp) r h c::L7) Z Z (.cons _ (Aeb _)) ⟨(hle.trans hl5).trans hl7,Z,L7,Z,hp7⟩
   ·rw[if_pos ht] at hP
    rw[hP]
    (refine AT Z<|Ao Z Z<|Ao Z Z<|Ab Z<|Ab Z<|Aa<|Ag<|Ad<|Ab Z<|AO Z Z<|Aa<|Aw Z (by omega)<|Ad<|Ab Z<|Ab Z<|Ab Z<|Aa<|Ap ?_)
    exact Cw (L':=tb bt Tt (pZ bp) r h c::L5) Z Z (.cons _ (Aeb _)) ⟨hle.trans hl5,Z,L5,Z,hp5⟩
end Go.Gk.Tre
end
section
namespace Go.Gk.Tre
open Go Go.Gk Go.Gk.Node
def Wa{n:AK}(h:A9 n≤1000000000000):A9 (A5 n)≤1000000000000∧A9 (Be n)≤1000000000000:=by
 by_cases hc:Dt n=true
 ·have hc':=hc;simp only[Dt,Aec,decide_eq_true_eq] at hc';obtain⟨hs,hm⟩:=hc';simp only[Ba,Aec] at hs;obtain⟨hks,hrest⟩:=hs;obtain⟨ha1, -, -⟩:=ON n;cases hlf:n.leaf with
  |true=>
   simp only[hlf,if_true] at hm hrest
   have eL:A5 n=⟨true,n.keys.take (atD n),n.vals.take (atD n),[]⟩:=by simp[A5,hc,hlf]
   have eR:Be n=⟨true,n.keys.drop (atD n),n.vals.drop (atD n),[]⟩:=by simp[Be,hc,hlf]
   have hall:A9 n=2+By n n.keys.length:=by simp[A9,hlf]
   have hcl:By (A5 n) (A5 n).keys.length=By n (atD n):=by
    rw[eL];simp only[Aer,Aja (show atD n≤n.keys.length by omega)];exact HY n _ hlf.symm (a:=atD n) (fun j hj=>by simp only[Dz,getD_take hj]) (fun _ j hj=>by simp only[Fs,getD_take hj]) _ (Aef _)
   have hcr:By (Be n) (Be n).keys.length+By n (atD n)=By n n.keys.length:=by
    rw[eR];simp only[Aen];have:=HK n ⟨true,n.keys.drop (atD n),n.vals.drop (atD n),[]⟩ hlf.symm (a:=atD n) (fun j=>by simp only[Dz,GP]) (fun _ j=>by simp only[Fs,GP]) (n.keys.length - atD n);rw[this];congr 1;omega
   have hmo:=GN n (show atD n≤n.keys.length by omega)
   have sL:A9 (A5 n)=2+By (A5 n) (A5 n).keys.length:=by rw[eL];simp[A9]
   have sR:A9 (Be n)=2+By (Be n) (Be n).keys.length:=by rw[eR];simp[A9]
   omega
  |false=>
   simp only[hlf,Aeh,if_false] at hm hrest
   simp only[Aec,decide_eq_true_eq] at hrest
   obtain⟨⟨hvl,hil⟩,hia⟩:=hrest
   have ha4:at2 n≤n.keys.length - 1:=by simp only[at2];omega
   have ha5:2≤at2 n:=by simp only[at2];omega
   have eL:A5 n=⟨false,n.keys.take (at2 n - 1),[],n.kids.take (at2 n)⟩:=by simp[A5,hc,hlf]
   have eR:Be n=⟨false,n.keys.drop (at2 n),[],n.kids.drop (at2 n)⟩:=by simp[Be,hc,hlf]
   have hall:A9 n=2+2*(n.keys.length+1)+By n n.keys.length:=by simp only[A9,hlf,Aeh,if_false,hil]
   have hcl:By (A5 n) (A5 n).keys.length=By n (at2 n - 1):=by
    rw[eL];simp only[Aer,Aja (show at2 n - 1≤n.keys.length by omega)];exact HY n _ hlf.symm (a:=at2 n - 1) (fun j hj=>by simp only[Dz,getD_take hj]) (fun h=>by rw[hlf] at h;cases h) _ (Aef _)
   have hcr:By (Be n) (Be n).keys.length+By n (at2 n)=By n n.keys.length:=by
    rw[eR];simp only[Aen];have:=HK n ⟨false,n.keys.drop (at2 n),[],n.kids.drop (at2 n)⟩ hlf.symm (a:=at2 n) (fun j=>by simp only[Dz,GP]) (fun h=>by rw[hlf] at h;cases h) (n.keys.length - at2 n);rw[this];congr 1;omega
   have hmo:=GN n (show at2 n - 1≤n.keys.length by omega)
   have sL:A9 (A5 n)=2+2*(n.kids.take (at2 n)).length+By (A5 n) (A5 n).keys.length:=by rw[eL];simp[A9]
   have sR:A9 (Be n)=2+2*(n.kids.drop (at2 n)).length+By (Be n) (Be n).keys.length:=by rw[eR];simp[A9]
   rw[Aer] at sL
   rw[Aen] at sR
   omega
 ·have eL:A5 n=⟨false,[],[],[]⟩:=by simp[A5,hc]
  have eR:Be n=⟨false,[],[],[]⟩:=by simp[Be,hc]
  rw[eL,eR];decide
end Go.Gk.Tre
end
section
namespace Go.Gk.Tre
open Go Go.Gk Go.Gk.Dev Go.Gk.Cch Go.Gk.Pgr Go.Gk.Chn Go.Gk.Node
attribute [local irreducible] gwp gws xwp
def Hg(P:Program)(f:FuncId):Prop:=∀{d s dv pv L}{bt:Nat}{Tt}{r h c k:Int}{cs}{n:AK},PgT d s dv pv L→Cj d cs n→Small n→
 AA P f [pZ bt,vZ k,.agg cs.toArray] d (tb bt Tt pv r h c::L) (Ret fun v d' L'=>Le d d'∧∃ua uc L2,v=.tuple #[.agg [vZ (Bk s k n).2.1.page,vZ (Bk s k n).2.1.other,.slice ua (Bk s k n).2.1.key.length uc,vZ (Bk s k n).2.1.size].toArray,vZ (Bk s k n).2.2]∧
  AJ d' (.slice ua (Bk s k n).2.1.key.length uc) (Bk s k n).2.1.key∧L'=tb bt Tt pv r h c::L2∧PgT d' (Bk s k n).1 dv pv L2)
def OW(a0 a1 a2 a3:Nat):A0:=⟨63,[(.cell 6 (some 4)),(.tmp 7)],(sR (o1 5 (.box 2)<|o1 6 (.alo (.agg #[(vZ 0),(vZ 0),nV,(vZ 0)]))<|o1 7 (.mv z0) .done) (.seq (sR (o1 16 (.ld (some 4) 5)<|oc 17 a0 [16] .done) (.cond 17 (sR (om 19 0<|om 20 1<|o1 21 (.ld (some 4) 5)<|oc 22 a1 [19,20,21]<|om 18 22<|oe 23 18 0<|oe 24 18 1<|om 8 23<|om 9 24 .done) (sR (om 25 8<|o1 26 (.ld (some 4) 5)<|oc 27 a2 [26]<|o1 28 (.bld [(0,1),(1,1),(2,1),(3,1)] [(vZ 0),(vZ 0),nV,(vZ 0)] [(0,25),(1,(kZ (-1))),(3,27)])<|om 29 9<|o0 (.st 4 6 28)<|om 7 29 .done) .ret)) .skip)) (sR (o1 31 (.ld (some 4) 5)<|oc 32 a3 [31]<|om 30 32<|oe 33 30 0<|oe 34 30 1<|oe 35 30 2<|oe 36 30 3<|o1 10 (.alo (.agg #[(.bool false),nV,nV,nV]))<|o1 11 (.alo (.agg #[(.bool false),nV,nV,nV]))<|o0 (.st 4 10 33)<|o0 (.st 4 11 34)<|om 12 35<|om 13 36 .done) (.seq (sR (om 37 13<|ob 38 .neq 37 z0 .done) (.cond 38 (sR (o1 39 (.bld [(0,1),(1,1),(2,1),(3,1)] [(vZ 0),(vZ 0),nV,(vZ 0)] [])<|om 40 13<|o0 (.st 4 6 39)<|om 7 40 .done) .ret) .skip)) (sR (om 42 0<|om 43 1<|o1 44 (.ld (some 4) 10)<|oc 45 a1 [42,43,44]<|om 41 45<|oe 46 41 0<|oe 47 41 1<|om 14 46<|om 13 47 .done) (.seq (sR (om 48 13<|ob 49 .neq 48 z0 .done) (.cond 49 (sR (o1 50 (.bld [(0,1),(1,1),(2,1),(3,1)] [(vZ 0),(vZ 0),nV,(vZ 0)] [])<|om 51 13<|o0 (.st 4 6 50)<|om 7 51 .done) .ret) .skip)) (sR (om 53 0<|o1 54 (.ld (some 4) 11)<|oc 55 a1 [53,(kZ (-1)),54]<|om 52 55<|oe 56 52 0<|oe 57 52 1<|om 15 56<|om 13 57 .done) (sR (om 58 14<|om 59 15<|om 60 12<|o1 61 (.bld [(0,1),(1,1),(2,1),(3,1)] [(vZ 0),(vZ 0),nV,(vZ 0)] [(0,58),(1,59),(2,60),(3,(kZ 256))])<|om 62 13<|o0 (.st 4 6 61)<|om 7 62 .done) .ret))))))))⟩
set_option maxRecDepth 4000 in
set_option maxHeartbeats 2000000 in
def Vm{P f f1 f2 f3 f4}(hd:dec P f=some (OW f1 f2 f3 f4))(h1:Hh P f1)(h2:Hy P f2)(h3:Kl P f3)(h4:NC P f4):Hg P f:=by
 intro d s dv pv L bt Tt r h c k cs n hp hn hz;have hn0:=hn;obtain⟨ka,kc,va,vc,ia,ic,rfl⟩:=Cj.four hn;refine AG hd (Aea Z) ?_;show gwp P _ _ _ _ _;apply Ag;apply AE;refine Ck Z (fun b5 T5=>?_);refine BP (fun b6 T6=>?_);(refine Ab Z<|Aa<|Ag<|Ad<|Bf 1 Z Z Z ?_);have hrt:=h1 hn0 hz.1;cases hr:Bp n with
 |true=>
  rw[hr] at hrt
  have hF:Bk s k n=((Bb s k n).1,⟨(Bb s k n).2.1, -1,[],A9 n⟩,(Bb s k n).2.2):=by unfold Bk;rw[hr,if_pos Z]
  rw[hF]
  clear hr
  refine BE Z hrt ?_
  (refine Aa<|Bc Z<|Ad<|Am Z<|Ab Z<|Bf 1 Z Z Z ?_)
  refine AY [_,_] (h2 (k:=k) hp hn0 hz.1) Z Z (fun v d2 L2 hl ⟨_,e1,L3,e2,hp2⟩=>?_)
  subst e1;subst e2
  (refine AT Z<|Ao Z Z<|Ao Z Z<|Ab Z<|Ab Z<|Aa<|Ad<|Ab Z<|Bf 1 Z Z Z ?_)
  refine BE Z (h3 (hn0.mono hl) hz.1) ?_
  (refine BJ Z<|Ab Z ?_)
  refine Br 0 Z Z Z Z (Aef _) Z ?_
  (refine Ab Z<|Aa<|Ap ?_)
  exact A4 [.agg [vZ (Bb s k n).2.1,vZ (-1),nV,vZ (A9 n:Nat)].toArray,vZ (Bb s k n).2.2] ⟨AW 0 Z Z Z,Aq Z,trivial⟩ (d':=d2) (L':=tb bt Tt pv r h c::L3) (Vs.drop (.cons _ (.cons _ (Aeb _)))) ⟨hl,none,0,L3,Z,RSl.nil,Z,hp2⟩
 |false=>
  rw[hr] at hrt
  have hF:Bk s k n=if Dt n then if (Bb s k (A5 n)).2.2=0 then((Bb (Bb s k (A5 n)).1 (-1) (Be n)).1,⟨(Bb s k (A5 n)).2.1,(Bb (Bb s k (A5 n)).1 (-1) (Be n)).2.1,BM n,256⟩,(Bb (Bb s k (A5 n)).1 (-1) (Be n)).2.2)
    else((Bb s k (A5 n)).1,Cq,(Bb s k (A5 n)).2.2) else(s,Cq,200):=by unfold Bk;rw[hr,if_neg (by decide)]
  rw[hF]
  clear hr
  refine BE Z hrt ?_
  (refine Aa<|AS Z<|Ak<|Ad<|Bf 1 Z Z Z ?_)
  refine Bl Z (h4 hn0 hz) (fun v d2 L2 _ ⟨e0,ca,cb,kv,La,Lb,g,e1,e2,oa,ob,og⟩=>?_)
  subst e0;subst e1;subst e2
  obtain⟨ga,gc,rfl⟩:=og.val
  obtain⟨d3,v1,hl3,hf⟩:=Vs.HL d2 (La++Lb++[g])
  have na:=DT.JD oa hl3 (fun h hm=>hf h (by simp[hm]))
  have nb:=DT.JD ob hl3 (fun h hm=>hf h (by simp[hm]))
  have hkey:AJ d3 (.slice ga (BM n).length gc) (BM n):=As.rsl (R:=AH) (sz:=1) og AL (by omega) hl3 (hf g (by simp))
  have hp3:=hp.mono hl3
  refine BS _ _ (Vs.app v1 _) ?_
  obtain⟨xa,xc,ya,yc,za,zc,rfl⟩:=Cj.four na
  obtain⟨xa',xc',ya',yc',za',zc',rfl⟩:=Cj.four nb
  by_cases hcb:Dt n=true
  ·have hcb2:(if Dt n=true then(0:Int) else 200)=0:=if_pos hcb
   rw[if_pos hcb]
   obtain⟨zs1,zs2⟩:=Wa hz.1
   rw[hcb2]
   clear hcb hcb2 hF
   (refine AT Z<|Ao Z Z<|Ao Z Z<|Ao Z Z<|Ao Z Z<|BP (fun _ _=>BP (fun _ _=>?_)))
   rename_i b11 T11
   refine Br 1 Z Z Z Z (Aef _) Z ?_
   refine Br 0 Z Z Z Z (Aef _) Z ?_
   (refine Aj Z<|Ab Z<|Aa<|Ag<|Ad<|Ab Z<|AO Z Z<|Aa<|Ar Z (by omega)<|Ak<|Ad<|Am Z<|Ab Z<|Bf 1 Z Z Z ?_)
   refine AY [_,_,_,_] (h2 (k:=k) hp3 na zs1) Z Z (fun v d4 L4 hl4 ⟨_,e4,L5,e5,hp5⟩=>?_)
   subst e4;subst e5
   by_cases hz4:(Bb s k (A5 n)).2.2=0
   ·rw[if_pos hz4]
    rw[hz4]
    (refine AT Z<|Ao Z Z<|Ao Z Z<|Ab Z<|Ab Z<|Aa<|Ag<|Ad<|Ab Z<|AO Z Z<|Aa<|Ar Z (by omega)<|Ak<|Ad<|Am Z<|Bf 0 Z Z Z ?_)
    refine AY [_,_,_,_] (h2 (k:= -1) hp5 (nb.mono hl4) zs2) Z Z (fun v d6 L6 hl6 ⟨_,e6,L7,e7,hp7⟩=>?_)
    subst e6;subst e7
    (refine AT Z<|Ao Z Z<|Ao Z Z<|Ab Z<|Ab Z<|Aa<|Ad<|Ab Z<|Ab Z<|Aj Z<|BJ Z<|Ab Z ?_)
    refine Br 2 Z Z Z Z (Aef _) Z ?_
    (refine Ab Z<|Aa<|Ap ?_)
    exact A4 [.agg [vZ (Bb s k (A5 n)).2.1,vZ (Bb (Bb s k (A5 n)).1 (-1) (Be n)).2.1,.slice ga (BM n).length gc,vZ 256].toArray,vZ (Bb (Bb s k (A5 n)).1 (-1) (Be n)).2.2] ⟨AW 2 Z Z Z,Aq Z,trivial⟩ (d':=d6) (L':=tb bt Tt pv r h c::L7) (Vs.drop (.cons _ (.cons _ (.cons _ (.cons _ (Aeb _)))))) ⟨hl3.trans (hl4.trans hl6),ga,gc,L7,Z,RSl.mono (R:=AH) AL hkey (hl4.trans hl6),Z,hp7⟩
   ·rw[if_neg hz4]
    (refine AT Z<|Ao Z Z<|Ao Z Z<|Ab Z<|Ab Z<|Aa<|Ag<|Ad<|Ab Z<|AO Z Z<|Aa<|Aw Z (by omega)<|Ad<|BJ Z<|Ab Z ?_)
    refine Br 2 Z Z Z Z (Aef _) Z ?_
    (refine Ab Z<|Aa<|Ap ?_)
    exact A4 [.agg [vZ 0,vZ 0,nV,vZ 0].toArray,vZ (Bb s k (A5 n)).2.2] ⟨AW 2 Z Z Z,Aq Z,trivial⟩ (d':=d4) (L':=tb bt Tt pv r h c::L5) (Vs.drop (.cons _ (.cons _ (.cons _ (.cons _ (Aeb _)))))) ⟨hl3.trans hl4,none,0,L5,Z,RSl.nil,Z,hp5⟩
  ·have hcb2:(if Dt n=true then(0:Int) else 200)=200:=if_neg hcb
   rw[if_neg hcb]
   rw[hcb2]
   clear hcb hcb2 hF
   (refine AT Z<|Ao Z Z<|Ao Z Z<|Ao Z Z<|Ao Z Z<|BP (fun _ _=>BP (fun _ _=>?_)))
   rename_i b11 T11
   refine Br 1 Z Z Z Z (Aef _) Z ?_
   refine Br 0 Z Z Z Z (Aef _) Z ?_
   (refine Aj Z<|Ab Z<|Aa<|Ag<|Ad<|Ab Z<|AO Z Z<|Aa<|Aw Z (by omega)<|Ad<|BJ Z<|Ab Z ?_)
   refine Br 2 Z Z Z Z (Aef _) Z ?_
   (refine Ab Z<|Aa<|Ap ?_)
   exact A4 [.agg [vZ 0,vZ 0,nV,vZ 0].toArray,vZ 200] ⟨AW 2 Z Z Z,Aq Z,trivial⟩ (d':=d3) (L':=tb bt Tt pv r h c::L) (Vs.drop (.cons _ (.cons _ (.cons _ (.cons _ (Aeb _)))))) ⟨hl3,none,0,L,Z,RSl.nil,Z,hp3⟩
abbrev tbD(bt:Nat)(Tt:TypeId)(pv:Value)(t:TD):Ac:=tb bt Tt pv t.root t.height t.count
structure MOk (m:MdD):Prop where
 p0: -1≤m.page
 p1:m.page≤16384
 o0: -1≤m.other
 o1:m.other≤16384
 k:m.key.length≤1000
abbrev mdV(m:MdD)(ua:Option Addr)(uc:Nat):Value:=.agg [.int .i64 m.page,.int .i64 m.other,.slice ua m.key.length uc,.int .i64 m.size].toArray
def II(P:Program)(f:FuncId):Prop:=∀{d}{t:TD}{m:MdD}{dv pv L}{bt:Nat}{Tt ua}{uc:Nat},PgT d t.s dv pv L→AJ d (.slice ua m.key.length uc) m.key→MOk m→t.height≤1000000→
 AA P f [pZ bt,mdV m ua uc] d (tbD bt Tt pv t::L) (Ret fun v d' L'=>Le d d'∧v=vZ (CU t m).2∧∃L2,L'=tbD bt Tt pv (CU t m).1::L2∧PgT d' (CU t m).1.s dv pv L2)
def OI(a0:Nat):A0:=⟨41,[(.tmp 4)],(sR (o1 3 (.box 1)<|o1 4 (.mv z0) .done) (sR (om 7 0<|oj 8 0 3<|ol 9 8<|o1 10 (.nilc 7)<|oj 11 1 10<|o0 (.st 1 11 9) .done) (.seq (sR (oj 12 1 3<|ol 13 12<|ob 14 .lss 13 z0 .done) (.cond 14 (sR (o1 4 (.mv z0) .done) .ret) .skip)) (sR (om 16 0<|oj 17 2 3<|ol 18 17<|o1 19 (.bsl 1 1 [nV] [(0,18)])<|oj 20 0 3<|ol 21 20<|oj 22 1 3<|ol 23 22<|o1 24 (.bsl 2 1 [(vZ 0)] [(0,21),(1,23)])<|o1 25 (.bld [(0,1),(1,1),(2,1),(3,1)] [(.bool false),nV,nV,nV] [(1,19),(3,24)])<|oc 26 a0 [16,(kZ (-1)),25]<|om 15 26<|oe 27 15 0<|oe 28 15 1<|om 5 27<|om 6 28 .done) (sR (om 29 0<|om 30 5<|o1 31 (.nilc 29)<|oj 32 1 31<|o0 (.st 1 32 30) .done) (sR (om 33 0<|o1 34 (.nilc 33)<|oj 35 2 34<|ol 36 35<|ob 37 .add 36 z1<|o1 38 (.nilc 33)<|oj 39 2 38<|o0 (.st 1 39 37) .done) (sR (om 40 6<|om 4 40 .done) .ret)))))))⟩
set_option maxRecDepth 4000 in
def TK{P f f1}(hd:dec P f=some (OI f1))(h1:Hy P f1):II P f:=by
 intro d t m dv pv L bt Tt ua uc hp hk hm hh;obtain⟨s,root,height,count⟩:=t;simp only at hp hh;refine AG hd (Aea Z) ?_;show gwp P _ _ _ _ _;apply Ag;apply AE;refine Ck Z (fun b3 T3=>?_);refine Ab Z<|Aa<|Ad<|Am Z<|Ai Z<|Ah Z (Al 0 Z Z)<|AF Z<|Ai Z<|A7 1 [pv,vZ m.page,vZ height,vZ count] Z Z Z Z (Aea Z) Z Z ?_;by_cases ho:m.other<0
 ·have hF:CU ⟨s,root,height,count⟩ m=(⟨s,m.page,height,count⟩,0):=by unfold CU;rw[if_pos ho]
  rw[hF];(refine Aa<|Ag<|Ad<|Ai Z<|Ah Z (Al 0 Z Z)<|AB Z Z<|Aa<|Aw Z (by omega)<|Ad<|Ab Z<|Aa<|Ap ?_);exact BO (L':=tbD bt Tt pv ⟨s,m.page,height,count⟩::L) Z (.cons _ (Aeb _)) ⟨Le.refl _,Z,L,Z,hp⟩
 ·have hF:CU ⟨s,root,height,count⟩ m=(⟨(Bb s (-1) ⟨false,[m.key],[],[m.page,m.other]⟩).1,(Bb s (-1) ⟨false,[m.key],[],[m.page,m.other]⟩).2.1,height+1,count⟩,(Bb s (-1) ⟨false,[m.key],[],[m.page,m.other]⟩).2.2):=by unfold CU;rw[if_neg ho]
  rw[hF];have hm1:=hm.p0;have hm2:=hm.p1;have hm3:=hm.o0;have hm4:=hm.o1;have hm5:=hm.k;refine Aa<|Ag<|Ad<|Ai Z<|Ah Z (Al 0 Z Z)<|AB Z Z<|Aa<|Ar Z (by omega)<|Ak<|Ad<|Am Z<|Ai Z<|Ah Z (Al 0 Z Z)<|Dq (v0:=.slice ua m.key.length uc) Z Z (fun b19 T19=>?_);refine Ai Z<|Ah Z (Al 1 Z Z)<|Ai Z<|Ah Z (Al 1 Z Z)<|Adw (v0:=vZ m.page) (v1:=vZ m.other) Z Z Z Z (fun b24 T24=>?_);(apply BJ;rfl);obtain⟨d2,hle,v1,l1,l2⟩:∃d2,Le d d2∧Vs d (bx b24 T24 [vZ m.page,vZ m.other]::bx b19 T19 [.slice ua m.key.length uc]::[]) d2 []∧Le (bx b24 T24 [vZ m.page,vZ m.other]) d2∧Le (bx b19 T19 [.slice ua m.key.length uc]) d2:=
   ⟨join (join d (bx b24 T24 [vZ m.page,vZ m.other])) (bx b19 T19 [.slice ua m.key.length uc]),(Le.Az _ _).trans (Le.Az _ _),Vs.freeze.trans Vs.freeze,(Le.A6 _ _).trans (Le.Az _ _),Le.A6 _ _⟩
  have hn:Cj d2 [.bool false,.slice (some ⟨b19,0,none⟩) 1 1,nV,.slice (some ⟨b24,0,none⟩) 2 2] ⟨false,[m.key],[],[m.page,m.other]⟩:=by
   refine⟨_,_,_,Z,As.rsl (R:=RBs) (sz:=1) (d:=d) (As.D2 (x:=m.key) Z ⟨_,Z,hk⟩) C6 (by omega) hle l2,RSl.nil,As.rsl (R:=Bh) (sz:=1) (d:=d) (As.AdK (l:=[m.page,m.other]) (n:=2) Z (fun x hx=>?_) Z (Aea Z)) B6 (by omega) hle l1⟩
   simp only[Aex,List.not_mem_nil,or_false] at hx;rcases hx with rfl|rfl<;>omega
  refine BS _ _ (Vs.app v1 _) ?_;refine AY [_] (h1 (k:= -1) (hp.mono hle) hn (by simp[A9,By,Eh,Dz];omega)) Z Z (fun v d4 L4 hl4 ⟨_,e4,L5,e5,hp5⟩=>?_);subst e4;subst e5;refine AT Z<|Ao Z Z<|Ao Z Z<|Ab Z<|Ab Z<|Aa<|Ad<|Am Z<|Ab Z<|AF Z<|Ai Z<|A7 1 [pv,vZ (Bb s (-1) ⟨false,[m.key],[],[m.page,m.other]⟩).2.1,vZ height,vZ count] Z Z Z Z (Aea Z) Z Z ?_;refine Aa<|Ad<|Am Z<|AF Z<|Ai Z<|Ah Z (Al 1 Z Z)<|AM Z Z (by omega) (by omega)<|AF Z<|Ai Z<|A7 1 [pv,vZ (Bb s (-1) ⟨false,[m.key],[],[m.page,m.other]⟩).2.1,vZ ((height:Int)+1),vZ count] Z Z Z Z (Aea Z) Z Z ?_;(refine Aa<|Ad<|Ab Z<|Ab Z<|Aa<|Ap ?_);exact BO (L':=tbD bt Tt pv ⟨_,(Bb s (-1) ⟨false,[m.key],[],[m.page,m.other]⟩).2.1,height+1,count⟩::L5) Z (.cons _ (Aeb _)) ⟨hle.trans hl4,Z,L5,Z,hp5⟩
def NI(P:Program)(f:FuncId):Prop:=∀{d}{b:Bool},CP P f [.bool b] d (vZ (if b then 1 else 0))
def UA:A0:=⟨4,[(.tmp 2)],(sR (o1 2 (.mv z0) .done) (.seq (sR (om 3 0 .done) (.cond 3 (sR (o1 2 (.mv z1) .done) .ret) .skip)) (sR (o1 2 (.mv z0) .done) .ret)))⟩
def TR{P f}(hd:dec P f=some UA):NI P f:=by
 intro d b;refine AG hd (Aea Z) ?_;show gwp P _ _ _ _ _;cases b
 ·(refine Ad<|Ab Z<|Aa<|Ag<|Ad<|Ae Z<|Aa<|AS Z<|Ak<|Ad<|Ab Z<|Aa<|Ap ?_);exact Abp Z
 ·(refine Ad<|Ab Z<|Aa<|Ag<|Ad<|Ae Z<|Aa<|Bc Z<|Ad<|Ab Z<|Aa<|Ap ?_);exact Abp Z
def Ow{s}{k:Int}(h:(Bo s k).2=0):Bp (Bo s k).1=true:=by
 unfold Bo at h⊢;by_cases hl:Bs s k
 ·rw[if_pos hl] at h⊢;simp only[G0] at h;cases hr:Node.BT (s.bytes k) with
  |none=>rw[hr] at h;cases h
  |some n=>rw[D7,hr];exact(PF hr).1
 ·rw[if_neg hl] at h;cases h
def Hc{n:AK}(h:Bp n=true)(hl:n.leaf=false):n.kids.length=n.keys.length+1:=by
 simp only[Bp,Ba,hl,Aec,Aeh,if_false,decide_eq_true_eq] at h;exact h.1.2.1.2
def Im{n:AK}(h:Bp n=true)(hl:n.leaf=true):n.vals.length=n.keys.length:=by
 simp only[Bp,Ba,hl,Aec,if_true,decide_eq_true_eq] at h;exact h.1.2.1.1
def Yj{s}{k:Int}(h:(Bo s k).2=0)(hl:(Bo s k).1.leaf=false):0<(Bo s k).1.kids.length:=by
 rw[Hc (Ow h) hl];omega
def Jo(P:Program)(f:FuncId):Prop:=∀{d}{t:TD}{dv pv L}{bt:Nat}{Tt},PgT d t.s dv pv L→1≤t.height→t.height≤1000001→
 AA P f [pZ bt] d (tbD bt Tt pv t::L) (Ret fun v d' L'=>Le d d'∧v=vZ (DZ t).2∧∃L2,L'=tbD bt Tt pv (DZ t).1::L2∧PgT d' (DZ t).1.s dv pv L2)
def MK(a0 a1:Nat):A0:=⟨56,[(.tmp 2)],(sR (o1 2 (.mv z0) .done) (sR (om 7 0<|om 8 0<|o1 9 (.nilc 8)<|oj 10 1 9<|ol 11 10<|oc 12 a0 [7,11]<|om 6 12<|oe 13 6 0<|oe 14 6 1<|o1 3 (.alo (.agg #[(.bool false),nV,nV,nV]))<|o0 (.st 4 3 13)<|om 4 14 .done) (.seq (sR (om 15 4<|ob 16 .neq 15 z0<|om 17 16<|oF 18 17 (.fld 1 3)<|oF 19 17 (.ld none 18)<|oF 20 17 (.len 19)<|oF 21 17 (.bin .gtr 20 z0)<|o1 22 (.pick 17 (.const (.bool true)) 21) .done) (.cond 22 (sR (om 23 4<|om 2 23 .done) .ret) .skip)) (.seq (.seq (.reg true (pm 24 0<|p1 25 (.nilc 24)<|p1 26 (.fld 0 25)<|pl 27 26<|pm 28 0<|p1 29 (.nilc 28)<|p1 30 (.fld 1 29)<|pl 31 30<|oc 32 a1 [27,31] (.bar (pm 5 32 .done)))) (sR (om 33 5<|ob 34 .neq 33 z0 .done) (.cond 34 (sR (om 35 5<|om 2 35 .done) .ret) .skip))) (sR (om 36 0<|o1 37 (.nilc 36)<|oj 38 2 37<|ol 39 38<|ob 40 .sub 39 z1<|o1 41 (.nilc 36)<|oj 42 2 41<|o0 (.st 1 42 40) .done) (sR (om 43 0<|o1 44 (.nilc 43)<|oj 45 1 44<|o0 (.st 1 45 (kZ (-1))) .done) (.seq (sR (oj 46 0 3<|ol 47 46<|o1 48 (.un .not 47) .done) (.cond 48 (rG (om 49 0<|oj 50 3 3<|ol 51 50<|o1 52 (.idx 1 51 z0)<|ol 53 52<|o1 54 (.nilc 49)<|oj 55 1 54<|o0 (.st 1 55 53) .done)) .skip)) (sR (o1 2 (.mv z0) .done) .ret))))))))⟩
set_option maxRecDepth 4000 in
def PG{P f f1 f2}(hd:dec P f=some (MK f1 f2))(h1:IE P f1)(h2:Pgr.Gl P f2):Jo P f:=by
 intro d t dv pv L bt Tt hp hh1 hh2;obtain⟨s,root,height,count⟩:=t;simp only at hp hh1 hh2;obtain⟨bp,rfl⟩:=hp.ptr;obtain⟨tc0,hp⟩:=hp;refine AG hd (Aea Z) ?_;show gwp P _ _ _ _ _;refine Ad<|Ab Z<|Aa<|Ad<|Am Z<|Am Z<|AF Z<|Ai Z<|Ah Z (Al 0 Z Z)<|AY [] (h1 (k:=root) hp) Z Z (fun v d2 L2 hl ⟨_,cs,hk,hv,hi,L3,tc,e1,e2,hn,hp2,htc⟩=>?_);subst e1;subst e2;have hp2:PgT d2 s dv (pZ bp) L3:=⟨tc,hp2⟩
 rw[show Bo {s with tc:=tc0} root=Bo s root from Z] at hn⊢;have hrr:(Bo s root).2=0→(Bo s root).1.leaf=false→0<(Bo s root).1.kids.length:=Yj;have hn0:=hn;obtain⟨ka,kc,va,vc,ia,ic,rfl⟩:=hn.cells;have hS:DZ ⟨s,root,height,count⟩=if (Bo s root).2≠0∨(Bo s root).1.keys≠[] then(⟨s,root,height,count⟩,(Bo s root).2) else if (s.drop root).2≠0 then(⟨(s.drop root).1,root,height,count⟩,(s.drop root).2) else
  (⟨(s.drop root).1,if (Bo s root).1.leaf then -1 else(Bo s root).1.kids.getD 0 0,height - 1,count⟩,0):=Z
 rw[hS];generalize Bo s root=R at hn hn0 hrr;obtain⟨⟨lf,ks,vs,is⟩,e⟩:=R;simp only at hn hn0 hrr⊢;(refine AT Z<|Ao Z Z<|Ao Z Z<|BP (fun _ _=>?_));rename_i b3 T3;refine Br 0 Z Z Z Z (Aef _) Z ?_;by_cases he:e=0
 ·by_cases hks:ks=[]
  ·subst hks;subst he;rw[if_neg (by simp)];have hz0:([]:List (List UInt8)).length=0:=Z;refine Ab Z<|Aa<|Ag<|Ad<|Ab Z<|AO Z Z<|Ae Z<|A3 Z (by omega)<|Af Z<|Ai Z<|Af Z<|Ah Z (Al 0 Z Z)<|Af Z<|AI Z<|Af Z<|Bx Z Z<|Au Z Z<|Aa<|Ar Z (by omega)<|Ak<|Ag<|Ag<|Bw [_,_,_,_,_] L3 Z ?_;refine Am Z<|AF Z<|Ai Z<|Ah Z (Al 4 Z Z)<|Am Z<|AF Z<|Ai Z<|Ah Z (Al 4 Z Z)<|CA (Yv h2 hp2 (k:=root)) Z (fun v d4 L4 hl4 ⟨e4,hp4⟩=>?_);subst e4;by_cases hd4:(s.drop root).2=0
   ·rw[if_neg (fun q=>q hd4)];rw[hd4];refine Cd<|Ab Z<|Aa<|Ad<|Ab Z<|AO Z Z<|Aa<|Ar Z (by omega)<|Ak<|Ad<|Am Z<|AF Z<|Ai Z<|Ah Z (Al 4 Z Z)<|CV Z Z (by omega) (by omega)<|AF Z<|Ai Z<|A7 4 [pZ bp,vZ root,vZ ((height:Int) - 1),vZ count] Z Z Z Z (Aea Z) Z Z ?_;refine Aa<|Ad<|Am Z<|AF Z<|Ai Z<|A7 4 [pZ bp,vZ (-1),vZ ((height:Int) - 1),vZ count] Z Z Z Z (Aea Z) Z Z ?_;have hhh:((height:Int) - 1)=((height - 1:Nat):Int):=by omega
    cases lf with
    |true=>
     (refine Aa<|Ag<|Ad<|Ai Z<|Ah Z (Al 0 Z Z)<|Bn Z<|Aa<|AS Z<|Ak<|Ad<|Ab Z<|Aa<|Ap ?_)
     rw[hhh]
     exact BO (L':=tbD bt Tt (pZ bp) ⟨(s.drop root).1, -1,height - 1,count⟩::L4) Z (.cons _ (.cons _ (.cons _ (.cons _ (Aeb _))))) ⟨hl.trans hl4,Z,L4,Z,hp4⟩
    |false=>
     have hkk:=hrr Z Z
     obtain⟨kv,vv,iv,q,r1,r2,r3⟩:=hn0
     cases q
     obtain⟨b1,T1,l1,c1,cs1,q1,rfl,hcl,hcs,hle1,⟨rfl,hb1,hb2⟩, -⟩:=As.at (by omega) r3 hkk
     cases q1
     have c0:=hcs 0 _ Z
     (refine Aa<|Ag<|Ad<|Ai Z<|Ah Z (Al 0 Z Z)<|Bn Z<|Aa<|Bc Z<|AE<|Am Z<|Ai Z<|Ah Z (Al 0 Z Z)<|BD _ Z Z Z (by omega)<|Ah Z (Al 3 Z (by assumption))<|AF Z<|Ai Z ?_)
     have hg0:is.getD 0 0=is[0]:=by rw[Aee,Aed hkk];rfl
     refine A7 4 [pZ bp,vZ is[0],vZ ((height:Int) - 1),vZ count] Z Z Z Z (Aea Z) Z Z ?_
     (refine Aa<|Ad<|Ab Z<|Aa<|Ap ?_)
     rw[hhh,hg0]
     exact BO (L':=tbD bt Tt (pZ bp) ⟨(s.drop root).1,is[0],height - 1,count⟩::L4) Z (.cons _ (.cons _ (.cons _ (.cons _ (Aeb _))))) ⟨hl.trans hl4,Z,L4,Z,hp4⟩
   ·rw[if_pos hd4];(refine Cd<|Ab Z<|Aa<|Ad<|Ab Z<|AO Z Z<|Aa<|Aw Z (by omega)<|Ad<|Ab Z<|Ab Z<|Aa<|Ap ?_);exact BO (L':=tbD bt Tt (pZ bp) ⟨(s.drop root).1,root,height,count⟩::L4) Z (.cons _ (.cons _ (.cons _ (.cons _ (Aeb _))))) ⟨hl.trans hl4,Z,L4,Z,hp4⟩
  ·have hkl:0<ks.length:=List.length_pos_iff.2 hks;subst he;rw[if_pos (.inr hks)];(refine Ab Z<|Aa<|Ag<|Ad<|Ab Z<|AO Z Z<|Ae Z<|A3 Z (by omega)<|Af Z<|Ai Z<|Af Z<|Ah Z (Al 0 Z Z)<|Af Z<|AI Z<|Af Z<|Bx Z Z<|Au Z Z<|Aa<|Aw Z (by omega)<|Ad<|Ab Z<|Ab Z<|Aa<|Ap ?_);exact BO (L':=tbD bt Tt (pZ bp) ⟨s,root,height,count⟩::L3) Z (.cons _ (.cons _ (.cons _ (.cons _ (Aeb _))))) ⟨hl,Z,L3,Z,hp2⟩
 ·rw[if_pos (.inl he)];(refine Ab Z<|Aa<|Ag<|Ad<|Ab Z<|AO Z Z<|Ae Z<|A8 Z (by omega)<|An Z<|An Z<|An Z<|An Z<|Ay Z Z<|Aa<|Bc Z<|Ad<|Ab Z<|Ab Z<|Aa<|Ap ?_);exact BO (L':=tbD bt Tt (pZ bp) ⟨s,root,height,count⟩::L3) Z (.cons _ (.cons _ (.cons _ (.cons _ (Aeb _))))) ⟨hl,Z,L3,Z,hp2⟩
end Go.Gk.Tre
end
section
namespace Go.Gk.Tre
open Go Go.Gk Go.Gk.Dev Go.Gk.Cch Go.Gk.Pgr Go.Gk.Chn Go.Gk.Node
variable{n:AK}
structure Fit (n:AK) (N:Nat):Prop where
 k:n.keys.length≤N
 v:n.vals.length≤N
 i:n.kids.length≤N
 kl:∀x∈n.keys,x.length≤1000
 vl:∀x∈n.vals,x.length≤1000
def Rg{l:List (List UInt8)}(h:∀x∈l,x.length≤1000)(j:Nat):(l.getD j []).length≤1000:=by
 rw[Aee];cases q:l[j]? with
 |none=>simp
 |some x=>exact h x (List.mem_of_getElem? q)
def Tu(hk:∀x∈n.keys,x.length≤1000)(hv:∀x∈n.vals,x.length≤1000):∀k,By n k≤2002*k
 |0=>by simp[By]
 |k+1=>by
  have h1:=Tu hk hv k;have h2:Dz n k≤1000:=Rg hk k;have h3:Fs n k≤1000:=Rg hv k;simp only[By,Eh];split<;>omega
def Fit.small{N:Nat}(h:Fit n N)(hN:N≤100000):Small n:=by
 have h1:=Tu h.kl h.vl n.keys.length;have h2:=h.k;have h3:=h.i;have h4:=h.v;refine⟨?_,by omega,by omega,by omega⟩
 unfold A9;split<;>omega
def J7{n:AK}:∀k,k≤By n k
 |0=>Aef _
 |k+1=>by
  have:=J7 (n:=n) k;simp only[By,Eh];split<;>omega
def HP(h:Bp n=true):Fit n 257∧∀x∈n.keys,x.length≤64:=by
 have hs:Ba n=true:=by simp only[Bp,Aec] at h;exact h.1
 have hz:A9 n≤256:=by simp only[Bp,Aec,decide_eq_true_eq] at h;exact h.2
 have hk:n.keys.length≤254:=by
  have:=J7 (n:=n) n.keys.length;unfold A9 at hz;omega
 have hkl:∀x∈n.keys,x.length≤64:=fun x hx=>by
  obtain⟨k,hk,rfl⟩:=Aga hx;simp only[Ba,Aec] at hs;exact Un hs.1 hk
 refine⟨⟨by omega,?_,?_,fun x hx=>by have:=hkl x hx;omega,fun x hx=>?_⟩,hkl⟩
 ·simp only[Ba,Aec] at hs;cases hl:n.leaf with
  |true=>
   have h2:=hs.2
   simp only[hl,if_true,Aec,decide_eq_true_eq] at h2
   omega
  |false=>
   have h2:=hs.2
   simp only[hl,Aeh,if_false,Aec,decide_eq_true_eq] at h2
   omega
 ·simp only[Ba,Aec] at hs;cases hl:n.leaf with
  |true=>
   have h2:=hs.2
   simp only[hl,if_true,Aec,decide_eq_true_eq] at h2
   omega
  |false=>
   have h2:=hs.2
   simp only[hl,Aeh,if_false,Aec,decide_eq_true_eq] at h2
   omega
 ·simp only[Ba,Aec] at hs;cases hl:n.leaf with
  |true=>
   have h2:=hs.2
   simp only[hl,if_true,Aec,decide_eq_true_eq,Aet] at h2
   have:=h2.2 x hx
   simp only[Ii,decide_eq_true_eq] at this
   omega
  |false=>
   have h2:=hs.2
   simp only[hl,Aeh,if_false,Aec,decide_eq_true_eq] at h2
   have:n.vals=[]:=Ael h2.1.1
   rw[this] at hx;cases hx
def K7{α}{l:List α}{i:Nat}{y x:α}(h:x∈Cb l i y):x=y∨x∈l:=by
 unfold Cb at h;rcases Aej.1 h with h|h
 ·exact .inr (Ahy h)
 ·rcases Aex.1 h with h|h
  ·exact .inl h
  ·exact .inr (Ail h)
def MW{α}{l:List α}{i:Nat}{x:α}(h:x∈l.eraseIdx i):x∈l:=(List.eraseIdx_sublist l i).subset h
def Rm{α}{l:List α}{i:Nat}{y x:α}(h:x∈l.set i y):x=y∨x∈l:=(List.mem_or_eq_of_mem_set h).symm
end Go.Gk.Tre
end
section
namespace Go.Gk.Tre
open Go Go.Gk Go.Gk.Dev Go.Gk.Cch Go.Gk.Pgr Go.Gk.Chn Go.Gk.Node
attribute [local irreducible] gwp gws xwp
def I6(P:Program)(f:FuncId):Prop:=∀{d s dv pv L}{bt:Nat}{Tt}{r h c k:Int}{cs}{n:AK}{hk hv hi}{i:Nat}{m:MdD}{ua}{uc:Nat},
 PgT d s dv pv L→D4 d cs n hk hv hi→Fit n 1000→i<n.kids.length→(0≤m.other→i≤n.keys.length)→MOk m→AJ d (.slice ua m.key.length uc) m.key→
 AA P f [pZ bt,vZ k,.agg cs.toArray,vZ i,mdV m ua uc] d (hk::hv::hi::tb bt Tt pv r h c::L) (Ret fun v d' L'=>Le d d'∧∃ua' uc' L2,v=.tuple #[mdV (Ct s k n i m).2.1 ua' uc',vZ (Ct s k n i m).2.2]∧
  AJ d' (.slice ua' (Ct s k n i m).2.1.key.length uc') (Ct s k n i m).2.1.key∧L'=tb bt Tt pv r h c::L2∧PgT d' (Ct s k n i m).1 dv pv L2)
def N5(a0 a1 a2 a3:Nat):A0:=⟨61,[(.cell 10 (some 4)),(.tmp 11)],(sR (o1 7 (.box 2)<|o1 9 (.box 4)<|o1 10 (.alo (.agg #[(vZ 0),(vZ 0),nV,(vZ 0)]))<|o1 11 (.mv z0) .done) (.seq (.seq (.reg true (p1 12 (.fld 3 7)<|pl 13 12<|pm 14 3<|p1 15 (.idx 1 13 14)<|pl 16 15<|p1 17 (.fld 0 9)<|pl 18 17<|p1 19 (.bin .eql 16 18)<|pm 20 19 (.op true ⟨(some 21),(some (20,true)),(.fld 1 9)⟩ (.op true ⟨(some 22),(some (20,true)),(.ld none 21)⟩ (.op true ⟨(some 23),(some (20,true)),(.bin .lss 22 z0)⟩ (p1 24 (.pick 20 23 (.const (.bool false))) .done)))))) (.cond 24 (sR (om 25 1<|o1 26 (.ld (some 4) 7)<|oc 27 a0 [26]<|o1 28 (.bld [(0,1),(1,1),(2,1),(3,1)] [(vZ 0),(vZ 0),nV,(vZ 0)] [(0,25),(1,(kZ (-1))),(3,27)])<|o0 (.st 4 10 28)<|o1 11 (.mv z0) .done) .ret) .skip)) (sR (oj 29 3 7<|ol 30 29<|om 31 3<|oj 32 0 9<|ol 33 32<|oI 34 1 30 31<|o0 (.st 1 34 33) .done) (.seq (sR (oj 35 1 9<|ol 36 35<|ob 37 .geq 36 z0 .done) (.cond 37 (.reg true (p1 38 (.fld 1 7)<|pl 39 38<|pm 40 3<|p1 41 (.fld 2 9)<|pl 42 41<|p1 45 (.fld 3 7)<|pl 46 45<|pm 47 3<|p1 48 (.bin .add 47 z1)<|p1 49 (.fld 1 9)<|pl 50 49 (.par (o1 51 (.bsl 1 1 [(vZ 0)] [(0,50)]) .done) (o1 43 (.bsl 1 1 [nV] [(0,42)]) (oc 44 a1 [39,40,43] (p1 53 (.fld 1 7) .done))) (oc 52 a2 [46,48,51] (.bar (o0 (.st 1 53 44) (p1 54 (.fld 3 7) (o0 (.st 1 54 52) .done)))))))) .skip)) (sR (om 55 0<|om 56 1<|o1 57 (.ld (some 4) 7)<|oc 58 a3 [55,56,57]<|oe 59 58 0<|oe 60 58 1<|o0 (.st 4 10 59)<|om 11 60 .done) .ret)))))⟩
def _root_.Go.Gk.Vs.out{d d'}(A B:List Ac){M M'}(p:M.Perm M')(v:Vs d M' d' []):Vs d (A++(M++B)) d' (A++B):=by
 have p1:(A++(M++B)).Perm (M'++(A++B)):=by
  refine(List.perm_append_comm_assoc A M B).trans ?_;exact Agz _ p
 exact(Vs.perm p1).trans (Vs.app v (A++B))
def F3{d cs}{n:AK}{hk hv hi}(o:D4 d cs n hk hv hi):∃d2,Le d d2∧Vs d [hk,hv,hi] d2 []∧Cj d2 cs n:=by
 obtain⟨d2,h1,h2,h3⟩:=Vs.HL d [hk,hv,hi];exact⟨d2,h2,h1,o.JD h2 (h3 _ (by simp)) (h3 _ (by simp)) (h3 _ (by simp))⟩
set_option maxRecDepth 4000 in
set_option maxHeartbeats 2000000 in
def Ry{P f f1 f2 f3 f4}(hd:I4 P f=some (N5 f1 f2 f3 f4))(h1:Kl P f1)(h2:Iq RBs P f2)(h3:Iq Bh P f3)(h4:Hg P f4):I6 P f:=by
 intro d s dv pv L bt Tt r h c k cs n hk hv hi i m ua uc hp hn hfit hi0 hi1 hm hmk;have hm1:=hm.p0;have hm2:=hm.p1;have hm3:=hm.o0;have hm4:=hm.o1;have hm5:=hm.k;have hn0:=hn;obtain⟨kv,vv,iv,rfl,r1,r2,r3⟩:=hn0;obtain⟨xa,xc,rfl⟩:=r1.val;obtain⟨ya,yc,rfl⟩:=r2.val;have r3':=r3;obtain⟨b1,T1,l1,c1,cs1,q1,rfl,hcl,hcs,hle1,⟨rfl,hb1,hb2⟩,hset⟩:=As.at (by omega) r3' hi0;subst q1;have c0:=hcs 0 _ Z;have hg0:n.kids.getD i 0=n.kids[i]:=by rw[Aee,Aed hi0];rfl
 refine AG hd (Aea Z) ?_;show gwp P _ _ _ _ _;apply Ag;apply AE;refine Ck Z (fun b7 T7=>?_);refine Ck (l:=[vZ m.page,vZ m.other,.slice ua m.key.length uc,vZ m.size]) Z (fun b9 T9=>?_);refine BP (fun b10 T10=>?_);apply Ab;rfl;apply Aa;refine Gw (fun ρ d' L'=>BG ρ [(0,pZ bt),(1,vZ k),(3,vZ i),(7,pZ b7),(9,pZ b9),(10,pZ b10)]∧¬(n.kids[i]=m.page∧m.other<0)∧d=d'∧L'=[bx b10 T10 [vZ 0,vZ 0,nV,vZ 0],bx b9 T9 [vZ m.page,vZ m.other,.slice ua m.key.length uc,vZ m.size],bx b7 T7 [.bool n.leaf,.slice xa n.keys.length xc,.slice ya n.vals.length yc,.slice (some ⟨b1,0,none⟩) n.kids.length c1],hk,hv,bx b1 T1 l1,tb bt Tt pv r h c]++L) ?_ ?_
 ·by_cases hB1:n.kids[i]=m.page
  ·by_cases hA2:m.other<0
   ·have hF:Ct s k n i m=(s,⟨k, -1,[],A9 n⟩,0):=by unfold Ct;rw[hg0,if_pos ⟨hB1,hA2⟩]
    rw[hF];apply Ag;refine Bw [_,_,_,_,_,_,_] L Z ?_;refine Ai Z<|Ah Z (Al 2 Z Z)<|Ab Z<|BD _ Z Z Z (by omega)<|Ah Z (Al 5 Z (by assumption))<|Ai Z<|Ah Z (Al 1 Z Z)<|AN Z Z<|Ae Z<|A8 Z (by omega)<|Af Z<|Ai Z<|Af Z<|Ah Z (Al 1 Z Z)<|Af Z<|AB Z Z<|Ay Z Z<|AZ<|Aw Z (by omega)<|Ad<|Ab Z<|Bf 2 Z Z Z<|Iz Z (v:=vZ (A9 n)) (fun d1 hl1 hk1=>h1 (hn.JD hl1 (hk1 _ (by simp)) (hk1 _ (by simp)) (hk1 _ (by simp))) (hfit.small (by omega)).1) ?_;(apply BJ;rfl);refine Br 0 Z Z Z Z (Aef _) Z ?_;(refine Ab Z<|Aa<|Ap ?_);exact A4 [mdV ⟨k, -1,[],A9 n⟩ none 0,vZ 0] ⟨AW 0 Z Z Z,Aq Z,trivial⟩ (d':=d) (L':=tb bt Tt pv r h c::L) (Vs.drop (.cons _ (.cons _ (.cons _ (.cons _ (.cons _ (.cons _ (Aeb _)))))))) ⟨Le.refl _,none,0,L,Z,RSl.nil,Z,hp⟩
   ·apply Ag;refine Bw [_,_,_,_,_,_,_] L Z ?_;(refine Ai Z<|Ah Z (Al 2 Z Z)<|Ab Z<|BD _ Z Z Z (by omega)<|Ah Z (Al 5 Z (by assumption))<|Ai Z<|Ah Z (Al 1 Z Z)<|AN Z Z<|Ae Z<|A8 Z (by omega)<|Af Z<|Ai Z<|Af Z<|Ah Z (Al 1 Z Z)<|Af Z<|AB Z Z<|Ay Z Z<|AZ<|Ar Z (by omega)<|Ak ?_);exact⟨⟨Z,Z,Z,Z,Z,Z,trivial⟩,fun q=>hA2 q.2,Z,Z⟩
  ·apply Ag;refine Bw [_,_,_,_,_,_,_] L Z ?_;(refine Ai Z<|Ah Z (Al 2 Z Z)<|Ab Z<|BD _ Z Z Z (by omega)<|Ah Z (Al 5 Z (by assumption))<|Ai Z<|Ah Z (Al 1 Z Z)<|AN Z Z<|Ae Z<|A3 Z (by omega)<|An Z<|An Z<|An Z<|Au Z Z<|AZ<|AS Z<|Ak ?_);exact⟨⟨Z,Z,Z,Z,Z,Z,trivial⟩,fun q=>hB1 q.1,Z,Z⟩
 rintro ρ d' L' ⟨hsl,hA,hdd,hLL⟩;subst hdd;subst hLL;refine C1 _ hsl ?_;have hF:Ct s k n i m=if 0≤m.other then Bk s k {n with keys:=Cb n.keys i m.key,kids:=Cb (n.kids.set i m.page) (i+1) m.other} else Bk s k {n with kids:=n.kids.set i m.page}:=by unfold Ct;rw[hg0,if_neg hA]
 rw[hF];clear hF hA;have hrow:=hset [vZ m.page] m.page Z ⟨Z,by omega,by omega⟩;have hrl:=hrow.val;generalize hT:(if 0≤m.other then Bk s k {n with keys:=Cb n.keys i m.key,kids:=Cb (n.kids.set i m.page) (i+1) m.other} else Bk s k {n with kids:=n.kids.set i m.page})=T;refine Ad<|Ai Z<|Ah Z (Al 2 Z Z)<|Ab Z<|Ai Z<|Ah Z (Al 1 Z Z)<|BD _ Z Z Z (by omega)<|A7 5 (patch l1 (i*1) [vZ m.page]) Z Z Z Z (by omega) Z Z ?_;apply Aa;refine Gw (fun ρ d' L'=>Le d d'∧∃cs' n' hk' hv' hi' Lr,BG ρ [(0,pZ bt),(1,vZ k),(7,pZ b7),(10,pZ b10)]∧D4 d' cs' n' hk' hv' hi'∧Fit n' 1001∧Bk s k n'=T∧Lr.Perm [hk',hv',hi']∧
  L'=bx b10 T10 [vZ 0,vZ 0,nV,vZ 0]::bx b9 T9 [vZ m.page,vZ m.other,.slice ua m.key.length uc,vZ m.size]::bx b7 T7 cs'::(Lr++tb bt Tt pv r h c::L)) ?_ ?_
 ·by_cases ho:0≤m.other
  ·rw[if_pos ho] at hT;have hi2:=hi1 ho;have hfi:=hfit.i;have hfk:=hfit.k;refine Ad<|Ai Z<|Ah Z (Al 1 Z Z)<|Da Z Z<|Aa<|Aw Z (by omega)<|Bw [_,_,_] (hk::hv::bx b1 T1 (patch l1 (i*1) [vZ m.page])::tb bt Tt pv r h c::L) Z ?_;refine Ai Z<|Ah Z (Al 2 Z Z)<|Ab Z<|Ai Z<|Ah Z (Al 1 Z Z)<|Ai Z<|Ah Z (Al 2 Z Z)<|Ab Z<|AM Z Z (by omega) (by omega)<|Ai Z<|Ah Z (Al 1 Z Z)<|FQ (α:=Nat×TypeId) (β:=Option Addr×Nat×Ac) [(0,pZ bt),(1,vZ k),(7,pZ b7),(10,pZ b10),(46,.slice (some ⟨b1,0,none⟩) n.kids.length c1),(48,vZ ((i:Int)+1))]
    (fun x=>[(51,.slice (some ⟨x.1,0,none⟩) 1 1)]) (fun x d L=>L=[bx x.1 x.2 [vZ m.other]]) (fun y=>[(44,.slice y.1 (n.keys.length+1) y.2.1),(53,.pointer (some ⟨b7,1,none⟩))])
    (fun y d' M=>As 1 RBs d' (.slice y.1 (n.keys.length+1) y.2.1) (Cb n.keys i m.key) y.2.2∧M=y.2.2::hv::bx b1 T1 (patch l1 (i*1) [vZ m.page])::tb bt Tt pv r h c::L) [] _ Z
    (fun x d d' M hl h=>h) (fun y d d' M hl h=>⟨h.1.DI hl,h.2⟩) (fun x=>Z) (fun y=>Z) Z ⟨Z,Z,Z,Z,Z,Z,trivial⟩ ?_ ?_ ?_
   ·refine Dq (v0:=vZ m.other) Z Z (fun b51 T51=>?_);(apply AZ);exact⟨_,Z,(b51,T51),⟨Z,trivial⟩,Z⟩
   ·refine Dq (v0:=.slice ua m.key.length uc) Z Z (fun b43 T43=>?_);refine DY (A:=[_,_]) Z Z (h2 r1 hi2 (by omega) ⟨_,Z,hmk⟩ E6) (fun v d1 L1 hl1 ⟨e0,h',e1,hg⟩=>?_);subst e0;subst e1;have hgl:=Fy (y:=m.key) hi2;obtain⟨ga,gc,rfl⟩:=hg.val;rw[hgl] at hg⊢;(refine Ai Z<|AZ ?_);exact⟨_,Z,(ga,gc,h'),⟨Z,Z,trivial⟩,hg,Z⟩
   ·rintro⟨b51,T51⟩ ⟨ga,gc,h44⟩ ρ2 d2 M1 M2 hl2 hM1 ⟨hg44,hM2⟩;subst hM1;subst hM2;simp only at hg44⊢;refine Ds (A:=[bx b51 T51 [vZ m.other],bx b1 T1 (patch l1 (i*1) [vZ m.page])]) (h3 (i:=i+1) (y:=m.other) (hrow.JF hl2) (by simp;omega) (by simp;omega) ⟨Z,by omega,by omega⟩ DF) (Aem _ (Afj (l₁:=[_,_]))) Z (fun v d3 L3 hl3 ⟨e0,h52,e1,hg52⟩=>?_);subst e0;subst e1;obtain⟨za,zc,rfl⟩:=hg52.val;refine⟨_,_,Vs.refl _ _,?_⟩
    apply Cd;refine A7 2 [.bool n.leaf,.slice ga (n.keys.length+1) gc,.slice ya n.vals.length yc,.slice (some ⟨b1,0,none⟩) n.kids.length c1] Z Z Z Z (Aea Z) Z Z ?_;(apply Ai;rfl);refine A7 2 [.bool n.leaf,.slice ga (n.keys.length+1) gc,.slice ya n.vals.length yc,.slice za (Cb (n.kids.set i m.page) (i+1) m.other).length zc] Z Z Z Z (Aea Z) Z Z ?_;(apply Aa);refine⟨hl2,_,{n with keys:=Cb n.keys i m.key,kids:=Cb (n.kids.set i m.page) (i+1) m.other},h44,hv,h52,[_,_,_],⟨Z,Z,Z,Z,trivial⟩,⟨_,_,_,Z,hg44,r2.DI hl2,hg52⟩,⟨?_,?_,?_,fun x hx=>?_,hfit.vl⟩,hT,Aei (l₁:=[_]) (l₂:=[_,_]),Z⟩
    ·show(Cb n.keys i m.key).length≤_;rw[Fy hi2];omega
    ·exact Aio hfit.v
    ·show(Cb (n.kids.set i m.page) (i+1) m.other).length≤_;rw[Fy (by simp;omega),Aff];omega
    ·rcases K7 hx with rfl|hx
     ·exact hm5
     ·exact hfit.kl x hx
  ·rw[if_neg ho] at hT;(refine Ad<|Ai Z<|Ah Z (Al 1 Z Z)<|Da Z Z<|Aa<|Ar Z (by omega)<|Ak ?_);obtain⟨za,zc,hza⟩:=hrl;exact⟨Le.refl _,_,{n with kids:=n.kids.set i m.page},hk,hv,_,[_,_,_],⟨Z,Z,Z,Z,trivial⟩,⟨_,_,_,Z,r1,r2,hrow⟩,⟨Aio hfit.k,Aio hfit.v,by simp only[Aff];exact Aio hfit.i,hfit.kl,hfit.vl⟩,hT,Afr _,Z⟩
 rintro ρ d' L' ⟨hle,cs',n',hk',hv',hi',Lr,hsl,hn',hfit',hT',hpm,hLL⟩;subst hLL;subst hT';obtain⟨ka,kc,va,vc,ia,ic,rfl⟩:=hn'.cells;refine C1 _ hsl ?_;obtain⟨d2,hl2,v2,hn2⟩:=F3 hn';refine Ad<|Am Z<|Ab Z<|Bf 2 Z Z Z<|BS _ _ (Vs.out [_,_,_] _ hpm v2) ?_;refine AY [_,_,_] (h4 (k:=k) (hp.mono (hle.trans hl2)) hn2 (hfit'.small (by omega))) Z Z (fun v d4 L4 hl4 ⟨_,wa,wc,L5,e4,hk4,e5,hp5⟩=>?_);subst e4;subst e5;refine Ao Z Z<|Ao Z Z<|Br 0 Z Z Z Z (Aef _) Z ?_;(refine Ab Z<|Aa<|Ap ?_);exact A4 [mdV (Bk s k n').2.1 wa wc,vZ (Bk s k n').2.2] ⟨AW 0 Z Z Z,Aq Z,trivial⟩ (d':=d4) (L':=tb bt Tt pv r h c::L5) (Vs.drop (.cons _ (.cons _ (.cons _ (Aeb _))))) ⟨(hle.trans hl2).trans hl4,wa,wc,L5,Z,hk4,Z,hp5⟩
end Go.Gk.Tre
end
section
namespace Go.Gk
open Go
section
def Yq(pr:Bool)(P:Program)(f:FuncId):Option LA:=
 match P.funcs[f]? with
 |some fn=>
  if fn.name== "runtime.NumGoroutine" || !P.follows .mixedOrders then none else
  match fn.body with
  |some (.seq a (.seq b (.seq (.region _ ops false) c)))=>
   match SK fn.ntmps ops.toList,fn.results.toList.mapM (HU P fn.ntmps) with
   |some (fd,g,cs),some rs=>if rs.all (fun r=> !(Jz c).contains (AbC r)) then some ⟨fn.ntmps,rs,.seq (Er pr P fn.ntmps a) (Er pr P fn.ntmps b),fd,g,cs,Er pr P fn.ntmps c⟩ else none
   |_,_=>none
  |_=>none
 |none=>none
section
variable {pr:Bool}{P:Program}
def Yt{pr':Bool}{f}{g:LA}{v:A0}(hd:Yq pr P f=some g)(hv:JW pr' P g.g=some v)(hvr:v.res=[]){args}(ha:args.length≤g.n)(hcl:g.caps.length≤v.n){d L R}
  (h:gwp P g.a (S1 P g v R) (GA args) d L):AA P f args d L R:=by
 simp only[Yq] at hd
 split at hd<;>try cases hd
 rename_i fn hf
 split at hd<;>try cases hd
 rename_i hn
 split at hd<;>try cases hd
 rename_i A1 A2 id ops C hb
 split at hd<;>try cases hd
 rename_i fd gg cs rs hdf hrs
 split at hd<;>cases hd
 rename_i hall
 simp only[Afp,not_or,Agr,Ahv] at hn
 have hm:P.follows .mixedOrders=true:=by simpa using hn.2
 obtain⟨o1,o2,caps,ats,rfl,h1,h2,h3,h4,h5,h6,h7,h8⟩:=PE hdf
 simp only at h1 h2 h5 h7 h8 hv hcl ha h
 have hvc:KU P gg:=by
  have hv':=hv;simp only[JW] at hv';split at hv'<;>try cases hv'
  rename_i fn' hf';split at hv'<;>try cases hv'
  rename_i hn';split at hv'<;>try cases hv'
  rename_i hb';simp only[Afp,not_or,Agr,Ahv] at hn';exact⟨fn',hf',by rw[hb'];rfl,hn'.1⟩
 refine⟨⟨fn,hf,by rw[hb];rfl,hn.1⟩,fun F W hOk=>?_⟩
 refine calls_of_wp_defers hf hb ?_
 rw[O2 ha]
 refine wp_seq (wp_mono (Fx (ds:=[]) (F:=F) (W0:=W) (d0:=d) hm A1 _ _ d L W h hOk (Le.refl d) (AQ.refl W)) ?_)
 intro e a w hq
 cases e with
 |panic c=>obtain⟨_,_,_,_,_,_,hh⟩:=hq;exact hh.elim
 |exit i=>obtain⟨_,_,_,_,_,_,_,hh⟩:=hq;exact hh.elim
 |ret=>obtain⟨_,_,_,_,_,_,_,hh⟩:=hq;exact hh.elim
 |goto l=>exact hq.elim
 |outgrown=>exact hq.elim
 |normal=>
 obtain⟨ρ0,d01,L01,rfl,k1,k2,k3,k4⟩:=hq
 refine wp_seq (wp_mono (Fx (ds:=[]) (F:=F) (W0:=W) (d0:=d) hm A2 _ _ d01 L01 w k4 k1 k2 k3) ?_)
 intro e a w hq
 cases e with
 |panic c=>obtain⟨_,_,_,_,_,_,hh⟩:=hq;exact hh.elim
 |exit i=>obtain⟨_,_,_,_,_,_,_,hh⟩:=hq;exact hh.elim
 |ret=>obtain⟨_,_,_,_,_,_,_,hh⟩:=hq;exact hh.elim
 |goto l=>exact hq.elim
 |outgrown=>exact hq.elim
 |normal=>
 obtain⟨ρ,d1,L1,rfl,k1,k2,k3,k4⟩:=hq
 simp only[S1] at k4
 refine wp_seq (wp_region ?_)
 have l:List.range (#[o1,o2]:Array Oper).size=[0,1]:=Z
 rw[l]
 have g0:(#[o1,o2]:Array Oper)[0]?=some o1:=Z
 have g1:(#[o1,o2]:Array Oper)[1]?=some o2:=Z
 have e1:∀ys,Region.wanted o1 ys=true:=fun ys=>by simp[Region.wanted,h3]
 have e2:∀ys,Region.wanted o2 ys=true:=fun ys=>by simp[Region.wanted,h6]
 have hcv:caps.map (act fn.ntmps ρ []).eval=(cs.map ρ).toArray:=by
  have:=JT (ρ:=ρ) (ds:=[]) h8;exact Array.ext' (by rw[Array.toList_map,this])
 have x1:∀w,(execOp (act fn.ntmps ρ []).eval o1).run P w=.ok (.value (El gg (cs.map ρ))) w:=by
  intro w;simp[execOp,h2,Instr.makeFunc,hcv,El]
 have hfd:(act fn.ntmps (upd ρ fd (El gg (cs.map ρ))) []).eval (.tmp fd)=El gg (cs.map ρ):=by
  rw[Bi (x:=.tmp fd) (by simpa [D5] using h7)];simp[ev,upd]
 have x2:∀w,(execOp (act fn.ntmps (upd ρ fd (El gg (cs.map ρ))) []).eval o2).run P w=.ok (.defer {target:=.fn (.func gg) (cs.map ρ).toArray,args:= #[]}) w:=by
  intro w;generalize (act fn.ntmps (upd ρ fd (El gg (cs.map ρ))) []).eval=e at hfd;simp[execOp,h5,resolve,hfd,El,Deferred.ofValue]
 have p1:(act fn.ntmps ρ []).put o1.dst (El gg (cs.map ρ))=act fn.ntmps (upd ρ fd (El gg (cs.map ρ))) []:=by
  rw[h1,Fh (d:=some fd) (fun _ e=>by cases e;exact h7)];rfl
 simp only[wpOps_cons,wpOp,g0,e1,if_true]
 refine .inl ?_
 simp only[Oper.wp,x1,Oper.upon,p1,wpOps_cons,wpOp,g1,e2,if_true]
 refine .inl ?_
 simp only[x2,h4]
 show Code.wp P C _ (act fn.ntmps (upd ρ fd (El gg (cs.map ρ))) [{target:=.fn (.func gg) (cs.map ρ).toArray,args:= #[]}]) w
 have hlen:(cs.map ρ).length≤v.n:=by simpa using hcl
 have hinv:∀w,(invoke (.fn (.func gg) (cs.map ρ).toArray) #[]).run P w=.ok (.enter gg (cs.map ρ).toArray) w:=by
  intro w;simp[invoke,Fi hvc]
 generalize hD:(⟨.fn (.func gg) (cs.map ρ).toArray, #[]⟩:Deferred)=D
 refine wp_mono (Fx (ds:=[D]) (F:=F) (W0:=W) (d0:=d) hm C _ _ d1 L1 w k4 k1 k2 k3) ?_
 subst hD
 have fin:∀a w,(∃ρ' d' L',a=act fn.ntmps ρ' [⟨.fn (.func gg) (cs.map ρ).toArray, #[]⟩]∧Ok (d'::(L'++F)) w∧Le d d'∧AQ W w∧gwp P v.code (M9 (CL rs R ρ')) (GA (cs.map ρ)) d' L')→
   Leaves P fn a.tmps (fun e W'=>∃d' L',Ok (d'::(L'++F)) W'∧Le d d'∧AQ W W'∧R e d' L') a.defers .returning w:=by
  rintro a w ⟨ρ',d',L',rfl,j1,j2,j3,j4⟩
  refine leaves_cons (by simp) (hinv w) ((LJ hv hvr hlen j4 j1).mono ?_)
  rintro e u' w' ⟨⟨r,rfl⟩,rfl,d2,L2,q1,q2,q3,vs,q4,d3,L3,q5,q6⟩
  exact⟨Lo vs,Ty hrs q1 q4,d3,L3,q5.2 F w' q1,(j2.trans q2).trans q5.1,j3.trans q3,q6⟩
 intro e a w hq
 cases e with
 |normal=>exact fin a w hq
 |ret=>exact fin a w hq
 |panic c=>obtain⟨_,_,_,_,_,_,hh⟩:=hq;exact hh.elim
 |exit i=>obtain⟨_,_,_,_,_,_,_,hh⟩:=hq;exact hh.elim
 |goto l=>exact hq.elim
 |outgrown=>exact hq.elim
end
end
end Go.Gk
end
section
namespace Go.Gk.Tre
open Go Go.Gk Go.Gk.Dev Go.Gk.Cch Go.Gk.Pgr Go.Gk.Chn Go.Gk.Node
attribute [local irreducible] gwp gws xwp
section
def HQ(P:Program)(f:FuncId):Prop:=∀{d}{t t':TD}{e:Int}{dv pv L X X'}{bt:Nat}{Tt g caps},PgT d t.s dv pv L→Pgr.AQ t.s t'.s→
 (∀d1,Le d d1→AA P g caps d1 (tbD bt Tt pv t::(X++L)) (Ret fun v d' L'=>Le d1 d'∧v=vZ e∧∃L2,L'=tbD bt Tt pv t'::(X'++L2)∧PgT d' t'.s dv pv L2))→
 AA P f [pZ bt,.func (.func g) #[] caps.toArray] d (tbD bt Tt pv t::(X++L)) (Ret fun v d' L'=>Le d d'∧v=vZ e∧∃L2,L'=tbD bt Tt pv (Cp t t' e)::(X'++L2)∧PgT d' (Cp t t' e).s dv pv L2)
def MO(a0 a1:Nat):LA:=⟨18,[(.cell 4 none)],(sR (o1 2 (.box 0)<|o1 4 (.alo (vZ 0)) .done) (.reg true (pl 7 2<|p1 8 (.nilc 7)<|p1 9 (.fld 0 8)<|pl 10 9<|pl 12 2<|p1 13 (.nilc 12) (.par (o1 14 (.ld (some 4) 13) .done) (.par (o1 6 (.alo (.agg #[(.pointer none),(vZ 0),(vZ 0),(vZ 0)])) .done) (.par (oc 11 a0 [10] .done) (o1 5 (.alo (.pointer none)) .done) .done) (o0 (.st 1 5 11) .done)) (o0 (.st 4 6 14) .done))))),15,a1,[4,6,2,5],(sR (om 16 1<|o1 17 (.callv 16 [])<|o0 (.st 1 4 17) .done) .ret)⟩
def GV(a0:Nat):A0:=⟨15,[],(sR (ol 4 0<|ob 5 .neq 4 z0 .done) (.cond 5 (sR (ol 6 2<|o1 7 (.ld (some 4) 1)<|o1 8 (.nilc 6)<|o0 (.st 4 8 7) .done) (.reg true (pl 9 2<|p1 10 (.nilc 9)<|p1 11 (.fld 0 10)<|pl 12 11<|pl 13 3<|oc 14 a0 [12,13] .done))) .skip))⟩
def P8(P:Program)(f:FuncId):Prop:=∃f3,dec P f=some (GV f3)∧Kw P f3
def Wm{P f f3}(hd:dec P f=some (GV f3))(h:Kw P f3):P8 P f:=⟨f3,hd,h⟩
section
variable {P:Program}{pan:List PanicEntry→AU}{Qn:Env→AU}{Ls L:List Ac}{ρ:Env}{d:Ac}{s:GS}{t:Nat}
def Pr{f g}{first cap:Array Value}{args R vs A B}(hp:L.Perm (A++B))(ef:ev ρ f=.func (.func g) first cap)(ea:first.toList++args.map (ev ρ)++cap.toList=vs)
  (hc:AA P g vs d A (Ret R)) (h:∀v d' L',Le d d'→R v d' L'→gws P pan Qn s Ls (upd ρ t v) d' (L'++B)):gws P pan Qn (.op false ⟨some t,none,.callv f args⟩ s) Ls ρ d L:=
 BS d (A++B) (Vs.perm hp) (KA A.length ef ea (by rw[List.take_left];exact hc) (fun v d' L' hl hr=>by rw[List.drop_left];exact h v d' L' hl hr))
end
def X9{P f}(h:G4 P f){d s dv pv L}(hp:PgT d s dv pv L):AA P f [pv] d L (Ret fun r d' L'=>L'=L∧Le d d'∧Mk d' s.mark s.frm pv r):=by
 obtain⟨n,hp⟩:=hp;have:=h hp;exact this
def Adx{P f}(h:Kw P f){d s s0 dv pv v L}(hp:PgT d s dv pv L)(hG:Pgr.Good s0)(hk:Pgr.AQ s0 s)(hm:Mk d s0.mark s0.frm pv v):
  AA P f [pv,v] d L (Ret fun r d' L'=>d'=d∧r=vZ 0∧PgT d (s.back s0.mark) dv pv L'):=by
 obtain⟨n,hp⟩:=hp
 have hg:=hG.kd
 have hr:wr s0.mark.round=wr s.round:=by rw[show s0.mark.round=s0.round from Z,hk.round]
 refine AA.DU (h (m:=s0.mark) hp (by rw[show({s with tc:=n}:PD).frm=s.frm from Z,hk.frm];exact hm) (fun _=>⟨hk.og,fun i=>hg i⟩)) (fun r d' L' _ ⟨h1,h2,_⟩=>⟨d',L',Vs.refl _ _,?_⟩)
 obtain⟨h3,h4⟩:=h2 hr
 exact⟨h1,h3,n,h4⟩
set_option maxRecDepth 4000 in
set_option maxHeartbeats 2000000 in
def PQ{P f f1 f2}(hd:Yq true P f=some (MO f1 f2))(h1:G4 P f1)(h2:P8 P f2):HQ P f:=by
 obtain⟨f3,hv,h3⟩:=h2;intro d t t' e dv pv L X X' bt Tt g caps hp hk hdo;obtain⟨bp,rfl⟩:=hp.ptr;have hG:=hp.EL;refine Yt hd hv Z (Aea Z) (Aea Z) ?_;show gwp P _ _ _ _ _;apply Ag;apply AE;refine Fb Z (fun b2 T2=>?_);refine Dg (fun b4 T4=>?_);apply Aa;refine Bw [bx b4 T4 [vZ 0],bx b2 T2 [pZ bt],tbD bt Tt (pZ bp) t] (X++L) Z ?_;refine Ah Z (Al 1 Z Z)<|AF Z<|Ai Z<|Ah Z (Al 2 Z Z)<|Ah Z (Al 1 Z Z)<|AF Z<|FQ (α:=Unit) (β:=(Nat×TypeId)×(Nat×TypeId)×Value) [(1,.func (.func g) #[] caps.toArray),(2,pZ b2),(4,pZ b4)]
  (fun _=>[(14,.agg [pZ bp,vZ t.root,vZ t.height,vZ t.count].toArray)]) (fun _ _ M=>M=[]) (fun y=>[(6,.pointer (some ⟨y.1.1,0,none⟩)),(5,.pointer (some ⟨y.2.1.1,0,none⟩))])
  (fun y d' M=>Mk d' t.s.mark t.s.frm (pZ bp) y.2.2∧M=bx y.1.1 y.1.2 [.pointer none,vZ 0,vZ 0,vZ 0]::bx y.2.1.1 y.2.1.2 [y.2.2]::(X++L)) [] (X++L) Z
  (fun x d d' M hl h=>h) (fun y d d' M hl h=>⟨h.1.mono hl,h.2⟩) (fun x=>Z) (fun y=>Z) Z ⟨Z,Z,Z,trivial⟩ ?_ ?_ ?_
 ·(refine Bf 2 Z Z Z<|AZ ?_);exact⟨_,Z,(),⟨Z,trivial⟩,Z⟩
 ·refine FQ (α:=Nat×TypeId) (β:=(Nat×TypeId)×Value) [] (fun x=>[(6,.pointer (some ⟨x.1,0,none⟩))]) (fun x _ M=>M=[bx x.1 x.2 [.pointer none,vZ 0,vZ 0,vZ 0]])
   (fun y=>[(11,y.2),(5,.pointer (some ⟨y.1.1,0,none⟩))]) (fun y d' M=>Mk d' t.s.mark t.s.frm (pZ bp) y.2∧M=(X++L)++[bx y.1.1 y.1.2 [.pointer none]]) [] (X++L) Z
   (fun x d d' M hl h=>h) (fun y d d' M hl h=>⟨h.1.mono hl,h.2⟩) (fun x=>Z) (fun y=>Z) Z trivial ?_ ?_ ?_
  ·refine BP (fun b6 T6=>?_);(apply AZ);exact⟨_,Z,(b6,T6),⟨Z,trivial⟩,Z⟩
  ·refine FQ (α:=Value) (β:=Nat×TypeId) [] (fun x=>[(11,x)]) (fun x d' M=>Mk d' t.s.mark t.s.frm (pZ bp) x∧M=X++L) (fun y=>[(5,.pointer (some ⟨y.1,0,none⟩))]) (fun y _ M=>M=[bx y.1 y.2 [.pointer none]]) (X++L) [] (by simp)
    (fun x d d' M hl h=>⟨h.1.mono hl,h.2⟩) (fun y d d' M hl h=>h) (fun x=>Z) (fun y=>Z) Z trivial ?_ ?_ ?_
   ·refine AY X (X9 h1 hp) Z Z (fun v d2 L2 hl2 ⟨e1,_,hm⟩=>?_);subst e1;(apply AZ);exact⟨_,Z,v,⟨Z,trivial⟩,hm,Z⟩
   ·refine Dg (fun b5 T5=>?_);(apply AZ);exact⟨_,Z,(b5,T5),⟨Z,trivial⟩,Z⟩
   ·rintro mv ⟨b5,T5⟩ ρ2 d2 M1 M2 hl2 ⟨hm,hM1⟩ hM2;subst hM1;subst hM2;(apply AZ);exact⟨_,Z,((b5,T5),mv),⟨Z,Z,trivial⟩,hm,Z⟩
  ·rintro⟨b6,T6⟩ ⟨⟨b5,T5⟩,mv⟩ ρ2 d2 M1 M2 hl2 hM1 ⟨hm,hM2⟩;subst hM1;subst hM2;refine BS _ (bx b5 T5 [.pointer none]::bx b6 T6 [.pointer none,vZ 0,vZ 0,vZ 0]::(X++L)) (Vs.perm ((Aei (l₁:=_::(X++L)) (l₂:=[_])))) ?_;have hmc:∃bm,mv=pZ bm:=by obtain⟨bm,_,_,_,_,_,q,_⟩:=hm;exact⟨bm,q⟩
   obtain⟨bm,rfl⟩:=hmc;refine A7 0 [pZ bm] Z Z Z Z (Aef _) Z Z ?_;refine IG ⟨d2,_,Vs.perm (List.Perm.append_left _ (Afa _ _ _)),?_⟩;exact⟨_,Z,((b6,T6),(b5,T5),_),⟨Z,Z,trivial⟩,hm,Z⟩
 rintro _ ⟨⟨b6,T6⟩,⟨b5,T5⟩,mv⟩ ρ2 d2 M1 M2 hl2 hM1 ⟨hm,hM2⟩;subst hM1;subst hM2;simp only at hm⊢;refine Br 0 Z Z Z Z (Aef _) Z ?_;apply AZ;show gwp P _ _ _ _ _;refine Ad<|FE Z<|Pr (A:=tbD bt Tt (pZ bp) t::(X++L)) (B:=[_,_,_,_]) ((Afj (l₁:=[_,_])).trans (Aem _ (Aei (l₁:=[_,_,_,_])))) Z Z (hdo d2 hl2) (fun v d3 L3 hl3 ⟨_,e1,L4,e2,hp4⟩=>?_);subst e1;subst e2;refine BS _ _ (Vs.perm (Aei (l₂:=[_,_,_,_]))) ?_;refine A7 0 [vZ e] Z Z Z Z (Aef _) Z Z ?_;(refine Aa<|Ap<|Ad<|Ah Z (Al 0 Z Z)<|AO Z Z<|Aa ?_);show gwp P _ _ _ _ _;skip;by_cases he:e=0
 ·have hF:Cp t t' e=t':=by unfold Cp;rw[if_pos he]
  rw[hF];(refine Ar Z (by omega)<|Ak ?_);exact A4 [vZ e] ⟨⟨_,_,Z,Al 0 Z Z⟩,trivial⟩ (d':=d3) (L':=tbD bt Tt (pZ bp) t'::(X'++L4)) (Vs.drop (.cons _ (.cons _ (.cons _ (.cons _ (Aeb _)))))) ⟨hl2.trans hl3,Z,L4,Z,hp4⟩
 ·have hF:Cp t t' e={t with s:=t'.s.back t.s.mark}:=by unfold Cp;rw[if_neg he]
  rw[hF];refine Aw Z (by omega)<|Ad<|Ah Z (Al 1 Z Z)<|Bf 2 Z Z Z<|AF Z<|Br 4 Z Z Z Z (Aef _) Z ?_;(apply Aa);refine Bw [_,_,_,_,_] (X'++L4) Z ?_;refine Ah Z (Al 1 Z Z)<|AF Z<|Ai Z<|Ah Z (Al 4 Z Z)<|Ah Z (Al 3 Z Z)<|AY X' (Adx h3 hp4 hG hk (hm.mono hl3)) Z Z (fun v d5 L5 hl5 ⟨e5,_,hp5⟩=>?_);subst e5;(apply AZ);exact A4 [vZ e] ⟨⟨_,_,Z,Al 0 Z Z⟩,trivial⟩ (d':=d5) (L':=tbD bt Tt (pZ bp) {t with s:=t'.s.back t.s.mark}::(X'++L5)) (Vs.drop (.cons _ (.cons _ (.cons _ (.cons _ (Aeb _)))))) ⟨hl2.trans hl3,Z,L5,Z,hp5⟩
end
end Go.Gk.Tre
end
section
namespace Go.Gk.Tre
open Go Go.Gk Go.Gk.Dev Go.Gk.Cch Go.Gk.Pgr Go.Gk.Chn Go.Gk.Node
variable{n:AK}
section
def Fw{s}(h:Pgr.Good s):Pgr.Good s.AV.1:=by
 unfold PD.AV;cases q:Dk 0 s.kinds with
 |none=>exact h
 |some i=>
  obtain⟨a,b,c,e,g⟩:=h.kds (ks:=s.kinds.set i 1) Z (by decide) (by decide)
  exact⟨a,b,c,e,g⟩
def I1{s}(h:Pgr.Good s)(k:Int)(b:Sec):Pgr.Good (s.put k b).1:=by
 unfold PD.put;split
 ·split
  ·exact⟨h.one,h.len,h.inn,h.syn,h.kd⟩
  ·exact h
 ·exact h
def JA{s}(h:Pgr.Good s)(k:Int):Pgr.Good (s.drop k).1:=by
 unfold PD.drop;split
 ·exact h.kds Z (by decide) (by decide)
 ·split
  ·exact h.kds Z (by decide) (by decide)
  ·exact h
def RI{s}(h:Pgr.Good s){k:Int}:Pgr.Good (Bb s k n).1:=by
 unfold Bb;split
 ·split
  ·exact I1 h _ _
  ·split
   ·exact Fw h
   ·split
    ·split
     ·exact JA (Fw h) _
     ·exact I1 (JA (Fw h) _) _ _
    ·exact I1 (Fw h) _ _
 ·exact h
def Pb{s}(h:Pgr.Good s){k:Int}(h0: -1≤k)(h1:k≤16384): -1≤(Bb s k n).2.1∧(Bb s k n).2.1≤16384:=by
 have ht:=Sk h;have hz: -1≤(0:Int)∧(0:Int)≤16384:=by decide
 have ht': -1≤s.AV.2.1∧s.AV.2.1≤16384:=by omega
 unfold Bb;split
 ·split
  ·exact⟨h0,h1⟩
  ·split
   ·exact hz
   ·split
    ·split
     ·exact hz
     ·exact ht'
    ·exact ht'
 ·exact hz
def Se(h:Bp n=true):∀x∈n.kids,0≤x∧x≤8191:=by
 simp only[Bp,Ba,Aec] at h;intro x hx;cases hl:n.leaf with
 |true=>
  have h2:=h.1.2
  simp only[hl,if_true,Aec,decide_eq_true_eq] at h2
  have:n.kids=[]:=Ael h2.1.2
  rw[this] at hx;cases hx
 |false=>
  have h2:=h.1.2
  simp only[hl,Aeh,if_false,Aec,decide_eq_true_eq,Aet] at h2
  have:=h2.2 x hx
  simpa [Gt] using this
def Z4(h:∀x∈n.keys,x.length≤1000):(BM n).length≤1000:=by
 unfold BM;split
 ·exact Rg h _
 ·simp
def Eu:MOk Cq:=⟨by decide,by decide,by decide,by decide,by decide⟩
def Hv{s}(h:Pgr.Good s){k:Int}(h0: -1≤k)(h1:k≤16384)(hk:∀x∈n.keys,x.length≤1000):MOk (Bk s k n).2.1:=by
 unfold Bk;split
 ·obtain⟨a,b⟩:=Pb h (n:=n) h0 h1;exact⟨a,b,(by decide:(-1:Int)≤ -1),(by decide:(-1:Int)≤16384),Aez _⟩
 ·split
  ·show MOk (if (Bb s k (A5 n)).2.2=0 then _ else _:PD×MdD×Int).2.1;split
   ·obtain⟨a,b⟩:=Pb h (n:=A5 n) h0 h1;obtain⟨c,e⟩:=Pb (RI h (k:=k) (n:=A5 n)) (k:= -1) (n:=Be n) (by decide) (by decide);exact⟨a,b,c,e,Z4 hk⟩
   ·exact Eu
  ·exact Eu
def R8{s}(h:Pgr.Good s){k:Int}{i:Nat}{m:MdD}(h0: -1≤k)(h1:k≤16384)(hk:∀x∈n.keys,x.length≤1000)(hm:MOk m):MOk (Ct s k n i m).2.1:=by
 unfold Ct;split
 ·exact⟨h0,h1,(by decide:(-1:Int)≤ -1),(by decide:(-1:Int)≤16384),Aez _⟩
 ·split
  ·refine Hv h h0 h1 (fun x hx=>?_);rcases K7 hx with rfl|hx
   ·exact hm.k
   ·exact hk x hx
  ·exact Hv h h0 h1 hk
def KK{key}:(findD n key).1≤n.keys.length:=by
 have h:low n key≤n.keys.length:=(List.takeWhile_sublist _).length_le;unfold findD;split
 ·exact h
 ·have:=(List.takeWhile_sublist (fun k=>decide (k=key)) (l:=n.keys.drop (low n key))).length_le;rw[Aen] at this;show low n key+_≤_;omega
def OM{key}(h:(findD n key).2=true):(findD n key).1<n.keys.length:=by
 unfold findD at h⊢;split
 ·rename_i hl;rw[if_pos hl] at h;simp only[Aec,decide_eq_true_eq] at h;exact h.1
 ·rename_i hl;rw[if_neg hl] at h;cases h
section
variable {s:PD}{k:Int}{key cell:List UInt8}{x:Nat}
def HB{h:Int}(e:(AX s k h).2=0):Bp (AX s k h).1=true∧(AX s k h).1.leaf=decide (h=1):=by
 unfold AX at e⊢;by_cases q:(Bo s k).2=0∧(Bo s k).1.leaf≠decide (h=1)
 ·rw[if_pos q] at e;exact absurd (show(200:Int)=0 from e) (by decide)
 ·rw[if_neg q] at e;exact⟨Ow e,Classical.byContradiction fun w=>q ⟨e,w⟩⟩
def Aal(h:(AX s k ((x+1:Nat):Int)).2≠0):B9 s k key cell (x+1)=(s,Cq,false,(AX s k ((x+1:Nat):Int)).2):=by
 rw[B9];exact if_pos h
def W9(h:(AX s k ((0+1:Nat):Int)).2=0)(hn:(AX s k ((0+1:Nat):Int)).1=n){i:Nat}(hf:findD n key=(i,true)):
  B9 s k key cell (0+1)=if (BY s (n.vals.getD i [])).2≠0 then((BY s (n.vals.getD i [])).1,Cq,false,(BY s (n.vals.getD i [])).2) else
   ((Bk (BY s (n.vals.getD i [])).1 k {n with vals:=n.vals.set i cell}).1,(Bk (BY s (n.vals.getD i [])).1 k {n with vals:=n.vals.set i cell}).2.1,false,(Bk (BY s (n.vals.getD i [])).1 k {n with vals:=n.vals.set i cell}).2.2):=by
 subst hn
 rw[B9]
 refine(if_neg (fun q=>q h)).trans ((if_pos Z).trans ((if_pos (by rw[hf])).trans ?_))
 rw[hf]
def WI(h:(AX s k ((0+1:Nat):Int)).2=0)(hn:(AX s k ((0+1:Nat):Int)).1=n){i:Nat}(hf:findD n key=(i,false)):
  B9 s k key cell (0+1)=((Bk s k {n with keys:=Cb n.keys i key,vals:=Cb n.vals i cell}).1,(Bk s k {n with keys:=Cb n.keys i key,vals:=Cb n.vals i cell}).2.1,true,(Bk s k {n with keys:=Cb n.keys i key,vals:=Cb n.vals i cell}).2.2):=by
 subst hn
 rw[B9]
 refine(if_neg (fun q=>q h)).trans ((if_pos Z).trans ((if_neg (by rw[hf];exact Aju)).trans ?_))
 rw[hf]
def QH(h:(AX s k ((x+1+1:Nat):Int)).2=0)(hn:(AX s k ((x+1+1:Nat):Int)).1=n){i:Nat}{b:Bool}(hf:findD n key=(i,b)):
  B9 s k key cell (x+1+1)=if (B9 s (n.kids.getD i 0) key cell (x+1)).2.2.2≠0 then((B9 s (n.kids.getD i 0) key cell (x+1)).1,Cq,false,(B9 s (n.kids.getD i 0) key cell (x+1)).2.2.2) else
   ((Ct (B9 s (n.kids.getD i 0) key cell (x+1)).1 k n i (B9 s (n.kids.getD i 0) key cell (x+1)).2.1).1,(Ct (B9 s (n.kids.getD i 0) key cell (x+1)).1 k n i (B9 s (n.kids.getD i 0) key cell (x+1)).2.1).2.1,(B9 s (n.kids.getD i 0) key cell (x+1)).2.2.1,(Ct (B9 s (n.kids.getD i 0) key cell (x+1)).1 k n i (B9 s (n.kids.getD i 0) key cell (x+1)).2.1).2.2):=by
 subst hn
 rw[B9]
 refine(if_neg (fun q=>q h)).trans ((if_neg (Ago _)).trans ?_)
 rw[hf]
def Aba(h:(AX s k ((x+1:Nat):Int)).2≠0):B3 s k key (x+1)=(s,Cq,false,(AX s k ((x+1:Nat):Int)).2):=by
 rw[B3];exact if_pos h
def WO(h:(AX s k ((0+1:Nat):Int)).2=0)(hn:(AX s k ((0+1:Nat):Int)).1=n){i:Nat}(hf:findD n key=(i,true)):
  B3 s k key (0+1)=if (BY s (n.vals.getD i [])).2≠0 then((BY s (n.vals.getD i [])).1,Cq,false,(BY s (n.vals.getD i [])).2) else
   ((Bk (BY s (n.vals.getD i [])).1 k {n with keys:=n.keys.eraseIdx i,vals:=n.vals.eraseIdx i}).1,(Bk (BY s (n.vals.getD i [])).1 k {n with keys:=n.keys.eraseIdx i,vals:=n.vals.eraseIdx i}).2.1,true,(Bk (BY s (n.vals.getD i [])).1 k {n with keys:=n.keys.eraseIdx i,vals:=n.vals.eraseIdx i}).2.2):=by
 subst hn
 rw[B3]
 refine(if_neg (fun q=>q h)).trans ((if_pos Z).trans ((if_pos (by rw[hf])).trans ?_))
 rw[hf]
def WB(h:(AX s k ((0+1:Nat):Int)).2=0)(hn:(AX s k ((0+1:Nat):Int)).1=n){i:Nat}(hf:findD n key=(i,false)):B3 s k key (0+1)=(s,⟨k, -1,[],256⟩,false,0):=by
 subst hn;rw[B3];exact(if_neg (fun q=>q h)).trans ((if_pos Z).trans (if_neg (by rw[hf];exact Aju)))
def PK(h:(AX s k ((x+1+1:Nat):Int)).2=0)(hn:(AX s k ((x+1+1:Nat):Int)).1=n){i:Nat}{b:Bool}(hf:findD n key=(i,b)){u:PD×MdD×Bool×Int}(hu:B3 s (n.kids.getD i 0) key (x+1)=u):
  B3 s k key (x+1+1)=if u.2.2.2≠0∨u.2.2.1=false then(u.1,⟨k, -1,[],256⟩,u.2.2.1,u.2.2.2) else
   if u.2.1.other<0∧u.2.1.size<80 then((DW u.1 k {n with kids:=n.kids.set i u.2.1.page} i).1,(DW u.1 k {n with kids:=n.kids.set i u.2.1.page} i).2.1,true,(DW u.1 k {n with kids:=n.kids.set i u.2.1.page} i).2.2)
   else((Ct u.1 k n i u.2.1).1,(Ct u.1 k n i u.2.1).2.1,true,(Ct u.1 k n i u.2.1).2.2):=by
 subst hn;subst hu
 rw[B3]
 refine(if_neg (fun q=>q h)).trans ((if_neg (Ago _)).trans ?_)
 rw[hf]
 by_cases q:(B3 s ((AX s k ((x+1+1:Nat):Int)).1.kids.getD i 0) key (x+1)).2.2.2≠0∨(B3 s ((AX s k ((x+1+1:Nat):Int)).1.kids.getD i 0) key (x+1)).2.2.1=false
 ·rw[if_pos q,if_pos q]
 ·rw[if_neg q,if_neg q]
  split<;>rfl
end
end
end Go.Gk.Tre
end
section
namespace Go.Gk.Tre
open Go Go.Gk Go.Gk.Dev Go.Gk.Cch Go.Gk.Pgr Go.Gk.Chn Go.Gk.Node
attribute [local irreducible] gwp gws xwp
variable{n:AK}
section
def NF{s}{n:Nat}{c}:Cu {s with tc:=n} c=Cu s c:=by unfold Cu;rw[show Chn.BT {s with tc:=n} (Fz c) (ED c)=Chn.BT s (Fz c) (ED c) from VI]
def AcN{P f}(h:Je P f){d s}{n:Nat}{dv pv w L}{bt:Nat}{Tt}{r h' c:Int}{b}(hp:Pg d {s with tc:=n} dv pv L)(hw:AJ d w b):
  AA P f [pZ bt,w] d (tb bt Tt pv r h' c::L) (Ret fun v d' L'=>Le d d'∧∃u L2 tc,v=.tuple #[u,vZ (Cu s b).2]∧L'=tb bt Tt pv r h' c::L2∧AJ d' u (Cu s b).1∧Pg d' {s with tc:=tc} dv pv L2∧((Cu s b).2=0→tc=n+D3 b)):=by
 refine AA.DU (h hp hw) (fun r d' L' _ ⟨q0,u,L2,tc,q1,q2,q3,q4,q5⟩=>⟨d',L',Vs.refl _ _,?_⟩)
 rw[NF] at q1 q3 q5
 exact⟨q0,u,L2,tc,q1,q2,q3,q4,q5⟩
def Ex(t:TD)(key:List UInt8):List UInt8×Bool×Int:=if BZ key≠0 then([],false,BZ key) else E4 t.s key t.root t.height
def MX(P:Program)(f:FuncId):Prop:=∀{d}{t:TD}{dv pv kv L}{bt:Nat}{Tt key},Pg d t.s dv pv L→AJ d kv key→t.height≤1000000→
 AA P f [pZ bt,kv] d (tbD bt Tt pv t::L) (Ret fun v d' L'=>Le d d'∧∃u L2 tc,v=.tuple #[u,.bool (Ex t key).2.1,vZ (Ex t key).2.2]∧AJ d' u (Ex t key).1∧L'=tbD bt Tt pv t::L2∧Pg d' {t.s with tc:=tc} dv pv L2∧
  (BZ key=0→(Ex t key).2.2=0→tc=t.s.tc+Hn t.s key t.root t.height))
section
variable {s:PD}{k:Int}{key:List UInt8}{x:Nat}
def Aa1(h:(AX s k ((x+1:Nat):Int)).2≠0):E4 s key k (x+1)=([],false,(AX s k ((x+1:Nat):Int)).2):=by
 rw[E4];exact if_pos h
def Xf(h:(AX s k ((0+1:Nat):Int)).2=0)(hn:(AX s k ((0+1:Nat):Int)).1=n){i:Nat}(hf:findD n key=(i,true)):
  E4 s key k (0+1)=((Cu s (n.vals.getD i [])).1,decide ((Cu s (n.vals.getD i [])).2=0),(Cu s (n.vals.getD i [])).2)∧Hn s key k (0+1)=1+D3 (n.vals.getD i []):=by
 subst hn
 rw[E4,Hn]
 refine⟨(if_neg (fun q=>q h)).trans ((if_pos Z).trans ((if_pos (by rw[hf])).trans ?_)),(if_pos Z).trans ((if_pos (by rw[hf])).trans ?_)⟩
 ·rw[hf]
 ·rw[hf]
def Xo(h:(AX s k ((0+1:Nat):Int)).2=0)(hn:(AX s k ((0+1:Nat):Int)).1=n){i:Nat}(hf:findD n key=(i,false)):E4 s key k (0+1)=([],false,0)∧Hn s key k (0+1)=1:=by
 subst hn;rw[E4,Hn];exact⟨(if_neg (fun q=>q h)).trans ((if_pos Z).trans (if_neg (by rw[hf];exact Aju))),(if_pos Z).trans (if_neg (by rw[hf];exact Aju))⟩
def PL(h:(AX s k ((x+1+1:Nat):Int)).2=0)(hn:(AX s k ((x+1+1:Nat):Int)).1=n){i:Nat}{b:Bool}(hf:findD n key=(i,b)):
  E4 s key k (x+1+1)=E4 s key (n.kids.getD i 0) (x+1)∧Hn s key k (x+1+1)=1+Hn s key (n.kids.getD i 0) (x+1):=by
 subst hn
 rw[E4,Hn]
 refine⟨(if_neg (fun q=>q h)).trans ((if_neg (Ago _)).trans ?_),(if_neg (Ago _)).trans ?_⟩
 ·rw[hf]
 ·rw[hf]
end
def JC(a0 a1 a2 a3:Nat):A0:=⟨71,[(.tmp 4),(.tmp 5),(.tmp 6)],(sR (o1 4 (.mv nS)<|o1 5 (.mv (.const (.bool false)))<|o1 6 (.mv z0) .done) (.seq (sR (om 14 0<|om 15 1<|oc 16 a0 [14,15]<|om 7 16 .done) (sR (om 17 7<|ob 18 .neq 17 z0 .done) (.cond 18 (sR (om 19 7<|o1 4 (.mv nS)<|o1 5 (.mv (.const (.bool false)))<|om 6 19 .done) .ret) .skip))) (sR (om 20 0<|o1 21 (.nilc 20)<|oj 22 1 21<|ol 23 22<|om 8 23 .done) (.seq (sR (om 24 0<|o1 25 (.nilc 24)<|oj 26 2 25<|ol 27 26<|om 9 27 .done) (.block 0 (.loop (.seq (sR (om 28 9<|ob 29 .gtr 28 z0 .done) (.cond 29 .skip (.exit 0))) (.seq (.block 1 (sR (om 33 0<|om 34 8<|om 35 9<|oc 36 a1 [33,34,35]<|om 32 36<|oe 37 32 0<|oe 38 32 1<|o1 10 (.alo (.agg #[(.bool false),nV,nV,nV]))<|o0 (.st 4 10 37)<|om 11 38 .done) (.seq (sR (om 39 11<|ob 40 .neq 39 z0 .done) (.cond 40 (sR (om 41 11<|o1 4 (.mv nS)<|o1 5 (.mv (.const (.bool false)))<|om 6 41 .done) .ret) .skip)) (sR (o1 43 (.ld (some 4) 10)<|om 44 1<|oc 45 a2 [43,44]<|om 42 45<|oe 46 42 0<|oe 47 42 1<|om 12 46<|om 13 47 .done) (.seq (sR (om 48 9<|ob 49 .gtr 48 z1 .done) (.cond 49 (sR (oj 50 3 10<|ol 51 50<|om 52 12<|oI 53 1 51 52<|ol 54 53<|om 8 54 .done) (.exit 1)) .skip)) (.seq (sR (om 55 13<|o1 56 (.un .not 55) .done) (.cond 56 (sR (o1 4 (.mv nS)<|o1 5 (.mv (.const (.bool false)))<|o1 6 (.mv z0) .done) .ret) .skip)) (sR (om 58 0<|oj 59 2 10<|ol 60 59<|om 61 12<|oI 62 1 60 61<|ol 63 62<|oc 64 a3 [58,63]<|om 57 64<|oe 65 57 0<|oe 66 57 1<|om 4 65<|om 11 66 .done) (sR (om 67 4<|om 68 11<|ob 69 .eql 68 z0<|om 70 11<|om 4 67<|om 5 69<|om 6 70 .done) .ret)))))))) (rG (om 30 9<|ob 31 .sub 30 z1<|om 9 31 .done))))))) (sR (o1 4 (.mv nS)<|o1 5 (.mv (.const (.bool false)))<|o1 6 (.mv z0) .done) .ret)))))⟩
set_option maxRecDepth 4000 in
set_option maxHeartbeats 4000000 in
def Wt{P f f1 f2 f3 f4}(hd:dec P f=some (JC f1 f2 f3 f4))(h1:Jh P f1)(h2:Hk P f2)(h3:HR P f3 findD)(h4:Je P f4):MX P f:=by
 intro d t dv pv kv L bt Tt key hp hk hh;obtain⟨bp,rfl⟩:=hp.ptr;obtain⟨ka,kc,rfl⟩:=hk.val;obtain⟨s,root,height,count⟩:=t;simp only at hp hh;refine AG hd (Aea Z) ?_;show gwp P _ _ _ _ _;refine Ad<|Aj Z<|Ae Z<|Ab Z<|Aa<|Ag<|Ad<|Am Z<|Aj Z<|AY [] (h1 (L:=L) hk) Z Z (fun v d2 L2 _ ⟨e1,e2,e3⟩=>?_);subst e1;subst e2;subst e3;by_cases hw:BZ key=0
 ·have hF:Ex ⟨s,root,height,count⟩ key=E4 s key root height:=by unfold Ex;rw[if_neg (fun q=>q hw)]
  rw[hF,hw];show gws P _ _ _ _ _ _ _;refine Ab Z<|Aa<|Ad<|Ab Z<|AO Z Z<|Aa<|Ar Z (by omega)<|Ak<|Ad<|Am Z<|AF Z<|Ai Z<|Ah Z (Al 0 Z Z)<|Ab Z<|Aa<|Ag<|Ad<|Am Z<|AF Z<|Ai Z<|Ah Z (Al 0 Z Z)<|Ab Z<|Aa<|Ax<|B8 (α:=Nat×Int) (fun x=>[(0,pZ bt),(1,.slice ka key.length kc),(8,vZ x.2),(9,vZ x.1)])
   (fun x d' L'=>Le d2 d'∧x.1≤height∧E4 s key root height=E4 s key x.2 x.1∧∃J L2 tc,L'=J++tb bt Tt (pZ bp) root height count::L2∧Pg d' {s with tc:=tc} dv (pZ bp) L2∧tc+Hn s key x.2 x.1=s.tc+Hn s key root height)
   (fun x=>x.1) (height,root) ⟨Z,Z,Z,Z,trivial⟩ ⟨Le.refl _,Aef _,Z,[],L,s.tc,Z,hp,Z⟩ ?_
  rintro⟨h,page⟩ ρ d' L' ⟨hle,hhh,hgt,J,L3,tc,rfl,hp3,htt⟩;simp only at hhh hgt hp3 htt⊢;by_cases hz:h=0
  ·subst hz;rw[hgt,E4];rw[Hn] at htt;(refine Ag<|Ad<|Ab Z<|Bx Z Z<|Aa<|Ar Z (by omega)<|Bd<|Ad<|Aj Z<|Ae Z<|Ab Z<|Aa<|Ap ?_);exact A4 [nV,.bool false,vZ 0] ⟨Aq Z,Aq Z,Aq Z,trivial⟩ (d':=d') (L':=tb bt Tt (pZ bp) root height count::L3) (Vs.drop (Afw J _)) ⟨hle,_,L3,tc,Z,RSl.nil,Z,hp3,fun _ _=>htt⟩
  ·obtain⟨x,rfl⟩:∃x,h=x+1:=⟨h - 1,by omega⟩
   refine Ag<|Ad<|Ab Z<|Bx Z Z<|Aa<|Aw Z (by omega)<|Ak<|Ag<|Ax<|Ad<|Am Z<|Ab Z<|Ab Z<|AY J (h2 (k:=page) (x:=((x+1:Nat):Int)) hp3) Z Z (fun v d4 L4 hl4 ⟨_,cs,hk4,hv4,hi4,L5,tc5,e1,e2,hn,hp5,htc5⟩=>?_);subst e1;subst e2;rw[show AX {s with tc:=tc} page ((x+1:Nat):Int)=AX s page ((x+1:Nat):Int) from Z] at hn htc5⊢;have hp5:Pg d4 {s with tc:=tc5} dv (pZ bp) L5:=hp5;have htc5:(AX s page ((x+1:Nat):Int)).2=0→tc5=tc+1:=htc5;obtain⟨d6,hl6,v6,hn6⟩:=F3 hn;have hp6:=hp5.mono hl6;refine BS _ _ (Vs.out (M:=[_,_,_]) J _ (Afr _) v6) ?_;obtain⟨xa,xc,ya,yc,za,zc,rfl⟩:=Cj.four hn6;have hk6:=RSl.mono (R:=AH) AL hk ((hle.trans hl4).trans hl6);(refine AT Z<|Ao Z Z<|Ao Z Z<|BP (fun _ _=>?_));rename_i b10 T10;refine Br 0 Z Z Z Z (Aef _) Z ?_;by_cases he:(AX s page ((x+1:Nat):Int)).2=0
   ·have htc6:=htc5 he;obtain⟨hr,hlf⟩:=HB he;obtain⟨n,hne⟩:∃n,(AX s page ((x+1:Nat):Int)).1=n:=⟨_,Z⟩
    rw[hne] at hn6 hr hlf⊢;obtain⟨i,b,hfd⟩:∃i b,findD n key=(i,b):=⟨_,_,Z⟩
    have hile:i≤n.keys.length:=by have:=KK (n:=n) (key:=key);rw[hfd] at this;exact this
    rw[he];have hlv:n.leaf=true→n.vals.length=n.keys.length:=Im hr;have hli:n.leaf=false→n.kids.length=n.keys.length+1:=Hc hr;clear hr;have hfc:=h3 hn6 hk6;rw[hfd] at hfc;obtain⟨kv,vv,iv,q,r1,r2,r3⟩:=hn6;cases q;refine Ab Z<|Aa<|Ag<|Ad<|Ab Z<|AO Z Z<|Aa<|Ar Z (by omega)<|Ak<|Ad<|Bf 0 Z Z Z<|Aj Z<|BE Z hfc ?_;(refine AT Z<|Ao Z Z<|Ao Z Z<|Ab Z<|Ae Z<|Aa ?_);apply Ag;apply Ag;apply AE;(refine Ab Z<|Bx Z Z<|Aa ?_);by_cases hx0:x=0
    ·subst hx0;have hvl:=hlv (by rw[hlf];rfl);clear hlv hli hlf;refine Ar Z (by omega) ?_;cases b with
     |true=>
      have hilt:i<n.keys.length:=by have:=OM (n:=n) (key:=key) (by rw[hfd]);rw[hfd] at this;exact this
      have hiv:i<n.vals.length:=by omega
      have hgv:n.vals.getD i []=n.vals[i]:=by rw[Aee,Aed hiv];rfl
      obtain⟨hI1,hI2⟩:=Xf he hne hfd
      rw[hgv] at hI1 hI2
      rw[hgt,hI1]
      rw[hI2] at htt
      (refine Ak<|Ag<|Ad<|Ae Z<|Bn Z<|Aa<|AS Z<|Ak<|Ad<|Am Z<|Ai Z<|Ah Z (Al 0 Z Z)<|Ab Z<|Bg (sz:=1) (R:=RBs) (by rfl) (by assumption) (by rfl) Z (by omega) ?_;rintro _ _ _ _ _ ⟨_,rfl,_⟩;apply Ah;rfl;exact BQ (by assumption) Z)
      refine AY (_::J) (AcN h4 (b:=n.vals[i]) hp6 (by assumption)) Z Z (fun v d7 L7 hl7 ⟨_,u,L8,tc8,e7,e8,hu,hp8,htc8⟩=>?_)
      subst e7;subst e8
      obtain⟨ua,uc,rfl⟩:=hu.val
      generalize Cu s n.vals[i]=V at hu htc8⊢
      (refine AT Z<|Ao Z Z<|Ao Z Z<|Aj Z<|Ab Z<|Aa<|Ad<|Aj Z<|Ab Z<|AN Z Z<|Ab Z<|Aj Z<|Ae Z<|Ab Z<|Aa<|Ap ?_)
      exact A4 [.slice ua V.1.length uc,.bool (decide (V.2=0)),vZ V.2] ⟨Aq Z,Aq Z,Aq Z,trivial⟩ (d':=d7) (L':=tb bt Tt (pZ bp) root height count::L8) (Vs.drop (.cons _ (Afw J _))) ⟨((hle.trans hl4).trans hl6).trans hl7,_,L8,tc8,Z,hu,Z,hp8,fun _ q=>(by have h8:tc8=tc5+D3 n.vals[i]:=htc8 q;omega)⟩
     |false=>
      obtain⟨hI1,hI2⟩:=Xo he hne hfd
      rw[hgt,hI1]
      rw[hI2] at htt
      (refine Ak<|Ag<|Ad<|Ae Z<|Bn Z<|Aa<|Bc Z<|Ad<|Aj Z<|Ae Z<|Ab Z<|Aa<|Ap ?_)
      exact A4 [nV,.bool false,vZ 0] ⟨Aq Z,Aq Z,Aq Z,trivial⟩ (d':=d6) (L':=tb bt Tt (pZ bp) root height count::L5) (Vs.drop (.cons _ (Afw J _))) ⟨(hle.trans hl4).trans hl6,_,L5,tc5,Z,RSl.nil,Z,hp6,fun _ _=>(by omega)⟩
    ·obtain⟨x,rfl⟩:∃y,x=y+1:=⟨x - 1,by omega⟩
     have hil:=hli (by rw[hlf];simp;omega);clear hlv hli hlf;have hii:i<n.kids.length:=by omega
     have hgk:n.kids.getD i 0=n.kids[i]:=by rw[Aee,Aed hii];rfl
     obtain⟨hI1,hI2⟩:=PL (key:=key) he hne hfd;rw[hgk] at hI1 hI2;refine Aw Z (by omega) ?_;(refine Ad<|Ai Z<|Ah Z (Al 0 Z Z)<|Ab Z<|Bg (sz:=1) (R:=Bh) (by rfl) (by assumption) (by rfl) Z (by omega) ?_;rintro _ _ _ _ _ ⟨rfl,_,_⟩;refine Ah Z (BQ (by assumption) Z)<|Ab Z<|Aa<|Bd<|AE<|Ab Z<|CV Z Z (by omega) (by omega)<|Ab Z<|Aa ?_);exact⟨(x+1,n.kids[i]),by simp only;omega,⟨Z,Z,Z,congrArg (Value.int .i64) (by push_cast;omega),trivial⟩,(hle.trans hl4).trans hl6,by simp only;omega,hgt.trans hI1,_::J,L5,tc5,Z,hp6,by simp only;omega⟩
   ·rw[hgt,Aa1 he];(refine Ab Z<|Aa<|Ag<|Ad<|Ab Z<|AO Z Z<|Aa<|Aw Z (by omega)<|Ad<|Ab Z<|Aj Z<|Ae Z<|Ab Z<|Aa<|Ap ?_);exact A4 [nV,.bool false,vZ (AX s page ((x+1:Nat):Int)).2] ⟨Aq Z,Aq Z,Aq Z,trivial⟩ (d':=d6) (L':=tb bt Tt (pZ bp) root height count::L5) (Vs.drop (.cons _ (Afw J _))) ⟨(hle.trans hl4).trans hl6,_,L5,tc5,Z,RSl.nil,Z,hp6,fun _ q=>absurd q he⟩
 ·have hF:Ex ⟨s,root,height,count⟩ key=([],false,BZ key):=by unfold Ex;rw[if_pos hw]
  rw[hF];(refine Ab Z<|Aa<|Ad<|Ab Z<|AO Z Z<|Aa<|Aw Z (by omega)<|Ad<|Ab Z<|Aj Z<|Ae Z<|Ab Z<|Aa<|Ap ?_);exact A4 [nV,.bool false,vZ (BZ key)] ⟨Aq Z,Aq Z,Aq Z,trivial⟩ (d':=d2) (L':=_::L) (Vs.refl _ _) ⟨Le.refl _,_,L,s.tc,Z,RSl.nil,Z,hp,fun q=>absurd q hw⟩
end
def Qf(P:Program)(f:FuncId):Prop:=∀{d s dv pv L},Pg d s dv pv L→
 AA P f [pv] d L (Ret fun v d' L'=>Le d d'∧∃bt Tt,v=.tuple #[pZ bt,vZ 0]∧L'=tbD bt Tt pv ⟨s, -1,0,0⟩::L)
def Yp(a0:Nat):A0:=⟨10,[(.tmp 2),(.tmp 3)],(sR (o1 2 (.mv (.const (.pointer none)))<|o1 3 (.mv z0) .done) (.seq (sR (om 4 0<|oc 5 a0 [4]<|o1 6 (.eqp false 5 (.const (.pointer none))) .done) (.cond 6 (sR (o1 2 (.mv (.const (.pointer none)))<|o1 3 (.mv z1) .done) .ret) .skip)) (sR (om 7 0<|o1 8 (.bld [(0,1),(1,1),(2,1),(3,1)] [(.pointer none),(vZ 0),(vZ 0),(vZ 0)] [(0,7),(1,(kZ (-1)))])<|o1 9 (.box 8)<|om 2 9<|o1 3 (.mv z0) .done) .ret)))⟩
def WY{P f f1}(hd:dec P f=some (Yp f1))(h1:G4 P f1):Qf P f:=by
 intro d s dv pv L hp;obtain⟨bp,rfl⟩:=hp.ptr;refine AG hd (Aea Z) ?_;show gwp P _ _ _ _ _;refine Ad<|Am Z<|Ab Z<|Aa<|Ag<|Ad<|Am Z<|CA (h1 hp) Z (fun v d2 L2 hl2 ⟨e1,_,hm⟩=>?_);subst e1;have hmc:∃bm,v=pZ bm:=by obtain⟨bm,_,_,_,_,_,q,_⟩:=hm;exact⟨bm,q⟩
 obtain⟨bm,rfl⟩:=hmc;(refine Cg Z Z<|Aa<|AS Z<|Ak<|Ad<|Am Z<|BJ Z<|Ck Z (fun _ _=>Am Z<|Ab Z<|Aa<|Ap ?_));exact A4 [pZ _,vZ 0] ⟨Aq Z,Aq Z,trivial⟩ (Vs.refl _ _) ⟨hl2,_,_,Z,Z⟩
def Dn(root height count:Int):Bool:=(decide (height=0)&& decide (root= -1)&& decide (count=0))||(decide (1≤height)&& decide (0≤root)&& decide (1≤count))
def J4(P:Program)(f:FuncId):Prop:=∀{d s dv pv L}{root height count:Int},Pg d s dv pv L→ -1000000000≤root→root≤1000000000→ -1000000000≤height→height≤1000000000→ -1000000000≤count→count≤1000000000→
 AA P f [pv,vZ root,vZ height,vZ count] d L (Ret fun v d' L'=>Le d d'∧((Dn root height count=true∧∃bt Tt,v=.tuple #[pZ bt,vZ 0]∧L'=tb bt Tt pv root height count::L)∨(Dn root height count=false∧v=.tuple #[.pointer none,vZ 2]∧L'=L)))
def Wi(a0:Nat):A0:=⟨46,[(.tmp 8),(.tmp 9)],(sR (o1 8 (.mv (.const (.pointer none)))<|o1 9 (.mv z0) .done) (sR (om 11 2<|ob 12 .eql 11 z0<|om 13 12<|gT 14 13 1<|oT 15 13 (.bin .eql 14 (kZ (-1)))<|gP 16 13 15<|om 17 16<|gT 18 17 3<|oT 19 17 (.bin .eql 18 z0)<|gP 20 17 19<|om 10 20 .done) (.seq (.block 0 (sR (om 22 0<|oc 23 a0 [22]<|o1 24 (.eqp false 23 (.const (.pointer none)))<|om 21 24 .done) (.cond 21 (sR (o1 8 (.mv (.const (.pointer none)))<|o1 9 (.mv z1) .done) .ret) (sR (om 26 10<|o1 27 (.un .not 26)<|om 28 27<|gT 29 28 2<|oT 30 28 (.bin .lss 29 z1)<|gT 31 28 30<|gF 32 31 1<|oF 33 31 (.bin .lss 32 z0)<|oT 34 28 (.pick 31 (.const (.bool true)) 33)<|gT 35 28 34<|gF 36 35 3<|oF 37 35 (.bin .lss 36 z1)<|oT 38 28 (.pick 35 (.const (.bool true)) 37)<|gP 39 28 38<|om 25 39 .done) (.cond 25 (sR (o1 8 (.mv (.const (.pointer none)))<|o1 9 (.mv z2) .done) .ret) .skip))))) (sR (om 40 0<|om 41 1<|om 42 2<|om 43 3<|o1 44 (.bld [(0,1),(1,1),(2,1),(3,1)] [(.pointer none),(vZ 0),(vZ 0),(vZ 0)] [(0,40),(1,41),(2,42),(3,43)])<|o1 45 (.box 44)<|om 8 45<|o1 9 (.mv z0) .done) .ret))))⟩
def VC{P f f1}(hd:dec P f=some (Wi f1))(h1:G4 P f1):J4 P f:=by
 intro d s dv pv L root height count hp r0 r1 q0 q1 c0 c1;obtain⟨bp,rfl⟩:=hp.ptr;have hmk:∀{d1 v},Mk d1 s.mark s.frm (pZ bp) v→∃bm,v=pZ bm:=fun⟨bm,_,_,_,_,_,q,_⟩=>⟨bm,q⟩
 refine AG hd (Aea Z) ?_;show gwp P _ _ _ _ _;by_cases e1:height=0
 ·by_cases e2:root= -1
  ·by_cases e3:count=0
   ·refine Ad<|Am Z<|Ab Z<|Aa<|Ad<|Ab Z<|AN Z Z<|Ae Z<|A8 Z (by omega)<|Af Z<|Ab Z<|Af Z<|AN Z Z<|Ay Z Z<|Ae Z<|A8 Z (by omega)<|Af Z<|Ab Z<|Af Z<|AN Z Z<|Ay Z Z<|Ae Z<|Aa<|Ag<|Ax<|Ad<|Am Z<|CA (h1 hp) Z (fun v d2 L2 hl2 ⟨e4,_,hm⟩=>?_);subst e4;obtain⟨bm,rfl⟩:=hmk hm;(refine Cg Z Z<|Ae Z<|Aa<|AS Z<|Ad<|Ae Z<|Bn Z<|Ae Z ?_);first|refine SF rfl (fun h9=>?_) (fun h9=>?_)|refine TQ rfl (fun h9=>?_) (fun h9=>?_)
    ·exact absurd (show decide (count=0)=false by simpa using h9) (by simp[e3])
    ·clear h9;(refine An Z<|An Z<|An Z<|B1 Z<|B1 Z<|An Z<|An Z<|B1 Z<|B1 Z<|An Z<|Au Z Z<|Ae Z<|Aa<|AS Z<|Ak<|Ad<|Am Z<|Ab Z<|Ab Z<|Ab Z<|BJ Z<|Ck Z (fun _ _=>Am Z<|Ab Z<|Aa<|Ap ?_));exact A4 [pZ _,vZ 0] ⟨Aq Z,Aq Z,trivial⟩ (Vs.refl _ _) ⟨hl2,.inl ⟨by simp[Dn,e1,e2,e3],_,_,Z,Z⟩⟩
   ·refine Ad<|Am Z<|Ab Z<|Aa<|Ad<|Ab Z<|AN Z Z<|Ae Z<|A8 Z (by omega)<|Af Z<|Ab Z<|Af Z<|AN Z Z<|Ay Z Z<|Ae Z<|A8 Z (by omega)<|Af Z<|Ab Z<|Af Z<|AN Z Z<|Ay Z Z<|Ae Z<|Aa<|Ag<|Ax<|Ad<|Am Z<|CA (h1 hp) Z (fun v d2 L2 hl2 ⟨e4,_,hm⟩=>?_);subst e4;obtain⟨bm,rfl⟩:=hmk hm;(refine Cg Z Z<|Ae Z<|Aa<|AS Z<|Ad<|Ae Z<|Bn Z<|Ae Z ?_);first|refine SF rfl (fun h9=>?_) (fun h9=>?_)|refine TQ rfl (fun h9=>?_) (fun h9=>?_)
    ·clear h9;(refine Af Z<|Ab Z<|Af Z<|AB Z Z<|Af Z<|Ae Z<|A8 Z (by omega)<|An Z<|An Z<|Af Z<|Ay Z Z<|Af Z<|Ae Z<|An Z<|An Z<|Af Z<|Ay Z Z<|Ay Z Z<|Ae Z<|Aa<|Bc Z<|Ad<|Am Z<|Ab Z<|Aa<|Ap ?_);exact A4 [.pointer none,vZ 2] ⟨Aq Z,Aq Z,trivial⟩ (Vs.refl _ _) ⟨hl2,.inr ⟨by simp[Dn,e1,e2,e3],Z,Z⟩⟩
    ·exact absurd (show decide (count=0)=true by simpa using h9) (by simp[e3])
  ·refine Ad<|Am Z<|Ab Z<|Aa<|Ad<|Ab Z<|AN Z Z<|Ae Z<|A8 Z (by omega)<|Af Z<|Ab Z<|Af Z<|AN Z Z<|Ay Z Z<|Ae Z<|A3 Z (by omega)<|An Z<|An Z<|Au Z Z<|Ae Z<|Aa<|Ag<|Ax<|Ad<|Am Z<|CA (h1 hp) Z (fun v d2 L2 hl2 ⟨e4,_,hm⟩=>?_);subst e4;obtain⟨bm,rfl⟩:=hmk hm;(refine Cg Z Z<|Ae Z<|Aa<|AS Z<|Ad<|Ae Z<|Bn Z<|Ae Z<|Af Z<|Ab Z<|Af Z<|AB Z Z<|Af Z<|Ae Z<|A8 Z (by omega)<|An Z<|An Z<|Af Z<|Ay Z Z<|Af Z<|Ae Z<|An Z<|An Z<|Af Z<|Ay Z Z<|Ay Z Z<|Ae Z<|Aa<|Bc Z<|Ad<|Am Z<|Ab Z<|Aa<|Ap ?_);exact A4 [.pointer none,vZ 2] ⟨Aq Z,Aq Z,trivial⟩ (Vs.refl _ _) ⟨hl2,.inr ⟨by simp[Dn,e1,e2],Z,Z⟩⟩
 ·by_cases e2:height<1
  ·refine Ad<|Am Z<|Ab Z<|Aa<|Ad<|Ab Z<|AN Z Z<|Ae Z<|A3 Z (by omega)<|An Z<|An Z<|Au Z Z<|Ae Z<|An Z<|An Z<|Au Z Z<|Ae Z<|Aa<|Ag<|Ax<|Ad<|Am Z<|CA (h1 hp) Z (fun v d2 L2 hl2 ⟨e4,_,hm⟩=>?_);subst e4;obtain⟨bm,rfl⟩:=hmk hm;(refine Cg Z Z<|Ae Z<|Aa<|AS Z<|Ad<|Ae Z<|Bn Z<|Ae Z<|Af Z<|Ab Z<|Af Z<|AB Z Z<|Af Z<|Ae Z<|A8 Z (by omega)<|An Z<|An Z<|Af Z<|Ay Z Z<|Af Z<|Ae Z<|An Z<|An Z<|Af Z<|Ay Z Z<|Ay Z Z<|Ae Z<|Aa<|Bc Z<|Ad<|Am Z<|Ab Z<|Aa<|Ap ?_);exact A4 [.pointer none,vZ 2] ⟨Aq Z,Aq Z,trivial⟩ (Vs.refl _ _) ⟨hl2,.inr ⟨by simp[Dn,e1];omega,Z,Z⟩⟩
  ·by_cases e3:root<0
   ·refine Ad<|Am Z<|Ab Z<|Aa<|Ad<|Ab Z<|AN Z Z<|Ae Z<|A3 Z (by omega)<|An Z<|An Z<|Au Z Z<|Ae Z<|An Z<|An Z<|Au Z Z<|Ae Z<|Aa<|Ag<|Ax<|Ad<|Am Z<|CA (h1 hp) Z (fun v d2 L2 hl2 ⟨e4,_,hm⟩=>?_);subst e4;obtain⟨bm,rfl⟩:=hmk hm;(refine Cg Z Z<|Ae Z<|Aa<|AS Z<|Ad<|Ae Z<|Bn Z<|Ae Z<|Af Z<|Ab Z<|Af Z<|AB Z Z<|Af Z<|Ae Z<|A3 Z (by omega)<|Af Z<|Ab Z<|Af Z<|AB Z Z<|Af Z<|Au Z Z<|Af Z<|Ae Z<|A8 Z (by omega)<|An Z<|An Z<|Af Z<|Ay Z Z<|Ay Z Z<|Ae Z<|Aa<|Bc Z<|Ad<|Am Z<|Ab Z<|Aa<|Ap ?_);exact A4 [.pointer none,vZ 2] ⟨Aq Z,Aq Z,trivial⟩ (Vs.refl _ _) ⟨hl2,.inr ⟨by simp[Dn,e1];omega,Z,Z⟩⟩
   ·by_cases e5:count<1
    ·refine Ad<|Am Z<|Ab Z<|Aa<|Ad<|Ab Z<|AN Z Z<|Ae Z<|A3 Z (by omega)<|An Z<|An Z<|Au Z Z<|Ae Z<|An Z<|An Z<|Au Z Z<|Ae Z<|Aa<|Ag<|Ax<|Ad<|Am Z<|CA (h1 hp) Z (fun v d2 L2 hl2 ⟨e4,_,hm⟩=>?_);subst e4;obtain⟨bm,rfl⟩:=hmk hm;(refine Cg Z Z<|Ae Z<|Aa<|AS Z<|Ad<|Ae Z<|Bn Z<|Ae Z<|Af Z<|Ab Z<|Af Z<|AB Z Z<|Af Z<|Ae Z<|A3 Z (by omega)<|Af Z<|Ab Z<|Af Z<|AB Z Z<|Af Z<|Au Z Z<|Af Z<|Ae Z<|A3 Z (by omega)<|Af Z<|Ab Z<|Af Z<|AB Z Z<|Af Z<|Au Z Z<|Ay Z Z<|Ae Z<|Aa<|Aw Z (by omega)<|Ad<|Am Z<|Ab Z<|Aa<|Ap ?_);exact A4 [.pointer none,vZ 2] ⟨Aq Z,Aq Z,trivial⟩ (Vs.refl _ _) ⟨hl2,.inr ⟨by simp[Dn,e1];omega,Z,Z⟩⟩
    ·refine Ad<|Am Z<|Ab Z<|Aa<|Ad<|Ab Z<|AN Z Z<|Ae Z<|A3 Z (by omega)<|An Z<|An Z<|Au Z Z<|Ae Z<|An Z<|An Z<|Au Z Z<|Ae Z<|Aa<|Ag<|Ax<|Ad<|Am Z<|CA (h1 hp) Z (fun v d2 L2 hl2 ⟨e4,_,hm⟩=>?_);subst e4;obtain⟨bm,rfl⟩:=hmk hm;(refine Cg Z Z<|Ae Z<|Aa<|AS Z<|Ad<|Ae Z<|Bn Z<|Ae Z<|Af Z<|Ab Z<|Af Z<|AB Z Z<|Af Z<|Ae Z<|A3 Z (by omega)<|Af Z<|Ab Z<|Af Z<|AB Z Z<|Af Z<|Au Z Z<|Af Z<|Ae Z<|A3 Z (by omega)<|Af Z<|Ab Z<|Af Z<|AB Z Z<|Af Z<|Au Z Z<|Ay Z Z<|Ae Z<|Aa<|Ar Z (by omega)<|Ak<|Ad<|Am Z<|Ab Z<|Ab Z<|Ab Z<|BJ Z<|Ck Z (fun _ _=>Am Z<|Ab Z<|Aa<|Ap ?_));exact A4 [pZ _,vZ 0] ⟨Aq Z,Aq Z,trivial⟩ (Vs.refl _ _) ⟨hl2,.inl ⟨by simp[Dn,e1];omega,_,_,Z,Z⟩⟩
end Go.Gk.Tre
end
section
namespace Go.Gk.Tre
open Go Go.Gk Go.Gk.Dev Go.Gk.Cch Go.Gk.Pgr Go.Gk.Chn Go.Gk.Node
section
attribute [local irreducible] gwp gws xwp
end
end Go.Gk.Tre
end
section
namespace Go.Gk
open Go
section
def AA.pre{P f args d A L R}(p:L.Perm A)(h:AA P f args d A R):AA P f args d L R:=
 ⟨h.1,fun F W ok=>h.2 F W (ok.perm (Aem d (Agz F p)))⟩
def AA.Y0{P f args d A B R R'}(h:AA P f args d A (Ret R))(hR:∀v d' A',Le d d'→R v d' A'→∃L',(A'++B).Perm L'∧R' v d' L'):AA P f args d (A++B) (Ret R'):=by
 refine⟨h.1,fun F W ok=>(h.2 (B++F) W (by rwa [←Aeg])).mono ?_⟩
 rintro e W' ⟨d',A',h1,h2,h3,h4⟩;cases e with
 |returned v=>
  obtain⟨L',p,hr⟩:=hR v d' A' h2 h4
  refine⟨d',L',?_,h2,h3,hr⟩
  rw[←Aeg] at h1
  exact h1.perm (Aem d' (Agz F p))
 |panicked c=>exact h4.elim
 |outgrown=>exact h4.elim
section
variable {P:Program}{pan:List PanicEntry→AU}{Qn:Env→AU}{Ls L:List Ac}{ρ:Env}{d:Ac}{s:GS}{t:Nat}
def Xc{f args R vs A B}(hc:AA P f vs d A (Ret R))(hp:(Ls++L).Perm (A++B))(ea:args.map (ev ρ)=vs)
  (h:∀v d' A',Le d d'→R v d' A'→∃L'',(A'++B).Perm (Ls++L'')∧gws P pan Qn s Ls (upd ρ t v) d' L''):gws P pan Qn (.op false ⟨some t,none,.call f args⟩ s) Ls ρ d L:=
 ⟨d,L,Vs.refl d L,.inr ⟨Ls,Ret fun v d' L'=>∃L'',L'=Ls++L''∧gws P pan Qn s Ls (upd ρ t v) d' L'',Z,
  by rw[ea];exact AA.pre hp (AA.Y0 hc (fun v d' A' hl hr=>by obtain⟨L'',p,k⟩:=h v d' A' hl hr;exact⟨Ls++L'',p,L'',Z,k⟩)),
  fun e d' L' hl hr=>by
   cases e with
   |returned v=>
    obtain⟨L'',e1,k⟩:=hr
    exact⟨L'',e1,_,_,Vs.refl _ _,k⟩
   |panicked c=>exact hr.elim
   |outgrown=>exact hr.elim⟩⟩
end
end
end Go.Gk
end
section
namespace Go.Gk
open Go Go.Proofs Go.RowKit
def AaB(g3 g4:Nat)(d:Ac):Prop:=(∀c,c<256→DC d g3 c (.int .u8 (Lib.firstT c)))∧∀i,i<16→DC d g4 (2*i) (.int .u8 (Lib.accLo i))∧DC d g4 (2*i+1) (.int .u8 (Lib.accHi i))
def AaB.mono{g3 g4:Nat}{d d'}(h:AaB g3 g4 d)(hl:Le d d'):AaB g3 g4 d':=⟨fun c hc=>(h.1 c hc).mono hl,fun i hi=>⟨(h.2 i hi).1.mono hl,(h.2 i hi).2.mono hl⟩⟩
end Go.Gk
end
section
namespace Go.Gk
open Go Go.Proofs Go.RowKit Go.Shelf
end Go.Gk
end
section
namespace Go.Gk
open Go Go.Proofs Go.RowKit Go.Shelf
end Go.Gk
end
section
namespace Go.Gk.Tre
open Go Go.Gk Go.Gk.Dev Go.Gk.Cch Go.Gk.Pgr Go.Gk.Chn Go.Gk.Node
section
attribute [local irreducible] gwp gws xwp
end
end Go.Gk.Tre
end
section
namespace Go.Gk.Chn
open Go Go.Gk Go.Gk.Dev Go.Gk.Cch Go.Gk.Pgr Go.Gk.Node
section
def Pz{P}{pan:List PanicEntry→AU}{Qn:Env→AU}{Ls L ρ d s}{t:Nat}{sz by_:Nat}{z x y k k'}{n c:Nat}(ex:ev ρ x=.int k (n:Nat))(ey:ev ρ y=.int k' (c:Nat))(h1:n≤c)(h2:c≤9223372036854775807)(h3:by_*c≤281474976710656)
  (h:∀b T,gws P pan Qn s Ls (upd ρ t (.slice (some ⟨b,0,none⟩) n c)) (join d (bx b T (Bq z (c*sz)))) L):gws P pan Qn (.op false ⟨some t,none,.mks sz by_ z x y⟩ s) Ls ρ d L:=
 ⟨d,L,Vs.refl d L,k,k',n,c,ex,ey,h1,h2,h3,fun b T=>⟨_,_,Vs.freeze,h b T⟩⟩
attribute [local irreducible] gwp gws xwp
def SJ(P:Program)(f:FuncId):Prop:=∀{d}{n:Nat},1≤n→n≤8192→AA P f [vZ n] d [] (Ret fun r d' L'=>L'=[]∧∃b a c,r=.tuple #[pZ b,vZ 0]∧DC d' b 0 (.slice a n c))
def Mt:A0:=⟨31,[(.tmp 2),(.tmp 3)],(sR (o1 2 (.mv (.const (.pointer none)))<|o1 3 (.mv z0) .done) (.seq (sR (om 6 0<|ob 7 .lss 6 z1<|om 8 7<|gF 9 8 0<|oF 10 8 (.bin .gtr 9 (kZ 8192))<|o1 11 (.pick 8 (.const (.bool true)) 10) .done) (.cond 11 (sR (o1 2 (.mv (.const (.pointer none)))<|o1 3 (.mv z2) .done) .ret) .skip)) (sR (o1 12 (.bld [(0,1),(1,1),(2,1),(3,1)] [nV,nV,(vZ 0),(vZ 0)] [(3,(kZ (-1)))])<|o1 13 (.box 12)<|om 4 13 .done) (.seq (sR (o1 5 (.mv z0) .done) (.block 0 (.loop (.seq (sR (om 14 5<|om 15 0<|ob 16 .lss 14 15 .done) (.cond 16 .skip (.exit 0))) (.seq (.block 1 (.reg true (pm 19 4<|pm 20 4<|p1 21 (.nilc 20)<|p1 22 (.fld 0 21)<|pl 23 22<|o1 24 (.mks 1 1 [(.int .u8 0)] (kZ 256) (kZ 256))<|p1 25 (.b2s 24)<|o1 26 (.bsl 1 1 [(Bm [])] [(0,25)])<|o1 27 (.app 1 16 [(Bm [])] 23 26)<|p1 28 (.nilc 19)<|p1 29 (.fld 0 28) (.bar (o0 (.st 1 29 27) .done))))) (rG (om 17 5<|ob 18 .add 17 z1<|om 5 18 .done))))))) (sR (om 30 4<|om 2 30<|o1 3 (.mv z0) .done) .ret)))))⟩
set_option maxRecDepth 4000 in
set_option maxHeartbeats 1000000 in
def Zf{P f}(hd:I4 P f=some Mt):SJ P f:=by
 intro d n hn1 hn2;refine AG hd (Aea Z) ?_;show gwp P _ _ _ _ _;refine Ad<|BS d [emp] Vs.emp ?_;(refine Am Z<|Ab Z<|Aa<|Ag<|Ad<|Ab Z<|AB Z Z<|Ae Z<|A3 Z (by omega)<|Af Z<|Ab Z<|Af Z<|Bx Z Z<|Au Z Z<|Aa<|Ar Z (by omega)<|Ak<|Ad<|BJ Z<|Ck Z (fun _ _=>Am Z<|Aa<|Ag<|Ad<|Ab Z<|Aa<|Ax ?_));rename_i b T;refine B8 (α:=Nat×Option Addr×Nat) (fun x=>[(0,vZ n),(4,pZ b),(5,vZ x.1)])
  (fun x d' L'=>Le d d'∧x.1≤n∧∃h,[bx b T [.slice x.2.1 x.1 x.2.2,nV,vZ 0,vZ (-1)],h].Sublist L'∧As 1 Me d' (.slice x.2.1 x.1 x.2.2) (Aeu x.1 (Aeu 256 0)) h) (fun x=>n - x.1) (0,none,0) ⟨Z,Z,Z,trivial⟩ ⟨Le.refl _,Aez _,emp,Aeb _,As.nil⟩ ?_
 rintro⟨i,a,c⟩ ρ d' L' ⟨hle,hi,h,hsub,hrow⟩;simp only at hi hsub hrow⊢;apply Ag;apply Ag;apply AE;refine BS d' _ (Vs.drop hsub) ?_;by_cases e:i<n
 ·refine Ab Z<|Ab Z<|AB Z Z<|Aa<|Aw Z (by omega)<|Ak<|Ag<|Ax<|Bw [bx b T [.slice a i c,nV,vZ 0,vZ (-1)]] [h] Z ?_;refine Am Z<|Am Z<|AF Z<|Ai Z<|Ah Z (Al 0 Z Z)<|Pz (n:=256) (c:=256) Z Z (Aef _) (by omega) (by omega) (fun b24 T24=>?_);have hg:As 1 AH d' (.slice (some ⟨b24,0,none⟩) 256 256) (Aeu 256 0) (bx b24 T24 (Bq [.int .u8 0] (256*1))):=As.zero Z (by omega) Z (by omega);have hgr:=As.rsl (R:=AH) (sz:=1) hg AL (by omega) (Le.Az _ _) (Le.A6 d' (bx b24 T24 (Bq [.int .u8 0] (256*1))));have hl2:Le d' (join d' (bx b24 T24 (Bq [.int .u8 0] (256*1)))):=Le.Az _ _;refine Bj Z hgr ?_;refine Dq (v0:=Bm (Aeu 256 0)) Z Z (fun b26 T26=>?_);have hrow2:As 1 Me (join d' (bx b24 T24 (Bq [.int .u8 0] (256*1)))) (.slice a i c) (Aeu i (Aeu 256 0)) h:=by
   have:=As.mono (R:=Me) AaL hrow hl2;exact this
  have hil:(Aeu i (Aeu 256 (0:UInt8))).length=i:=Afk;refine Dj (R:=Me) 0 Z Z hrow2 Z (As.D2 (R:=Me) (x:=Aeu 256 0) Z ⟨Z,by simp⟩) Zm (by omega) (by simp;omega) (by simp;omega) (fun v' h' ho'=>?_);rw[←List.replicate_succ'] at ho';obtain⟨a',c',rfl⟩:=ho'.val;rw[Afk] at ho'⊢;refine AF Z<|Ai Z<|Cd<|A7 0 [.slice a' (i+1) c',nV,vZ 0,vZ (-1)] Z Z Z Z (Aea Z) Z Z ?_;(refine Aa<|AE<|Ab Z<|AM Z Z (by omega) (by omega)<|Ab Z<|Aa ?_);exact⟨(i+1,a',c'),by simp only;omega,⟨Z,Z,Z,trivial⟩,hle.trans hl2,e,h',Aeb _,ho'⟩
 ·have:i=n:=by omega
  subst this;(refine Ab Z<|Ab Z<|AB Z Z<|Aa<|Ar Z (by omega)<|Bd<|Ad<|Am Z<|Am Z<|Ab Z<|Aa<|Ap ?_);exact A4 [pZ b,vZ 0] ⟨Z,Z,trivial⟩ (d':=join (join d' (bx b T [.slice a i c,nV,vZ 0,vZ (-1)])) h) (L':=[]) (Vs.freeze.trans Vs.freeze) ⟨Z,b,a,c,Z,(Le.dcs ((Le.A6 _ _).trans (Le.Az _ _))).at (i:=0) Z⟩
end
end Go.Gk.Chn
end
section
namespace Go.Gk.Chn
open Go Go.Gk Go.Gk.Dev Go.Gk.Cch Go.Gk.Pgr Go.Gk.Node
attribute [local irreducible] gwp gws xwp
def SO(P:Program)(f:FuncId):Prop:=∀{d}{b n c:Nat}{a},DC d b 0 (.slice a (n+2) c)→1≤n→n≤8000→CP P f [pZ b,vZ 2,vZ n] d (.bool true)
def Kr:A0:=⟨31,[(.tmp 6)],(sR (o1 6 (.mv (.const (.bool false))) .done) (sR (om 8 0<|o1 9 (.nilc 8)<|oj 10 0 9<|ol 11 10<|oL 12 11<|om 7 12 .done) (sR (om 13 1<|ob 14 .geq 13 z0<|om 15 14<|gT 16 15 1<|gT 17 15 7<|oT 18 15 (.bin .leq 16 17)<|gP 19 15 18<|om 20 19<|gT 21 20 2<|oT 22 20 (.bin .geq 21 z1)<|gP 23 20 22<|om 24 23<|gT 25 24 2<|gT 26 24 7<|gT 27 24 1<|oT 28 24 (.bin .sub 26 27)<|oT 29 24 (.bin .leq 25 28)<|gP 30 24 29<|om 6 30 .done) .ret)))⟩
def Aad{P f}(hd:dec P f=some Kr):SO P f:=by
 intro d b n c a hb hn1 hn2;refine AG hd (Aea Z) ?_;show gwp P _ _ _ _ _;have h2:(2:Int)≤((n+2:Nat):Int):=by omega
 have h3:(n:Int)≤((n+2:Nat):Int) - 2:=by omega
 (refine Ad<|Ae Z<|Aa<|Ad<|Am Z<|AF Z<|Ai Z<|Ah Z (BB (by assumption))<|AI Z<|Ab Z<|Aa<|Ad<|Ab Z<|Da Z Z<|Ae Z<|A8 Z (by omega)<|Af Z<|Ab Z<|Af Z<|Ab Z<|Af Z<|Ga Z Z<|Ay Z Z<|Ae Z<|A8 Z (by omega)<|Af Z<|Ab Z<|Af Z<|Da Z Z<|Ay Z Z<|Ae Z<|A8 Z (by omega)<|Af Z<|Ab Z<|Af Z<|Ab Z<|Af Z<|Ab Z<|Af Z<|CV Z Z (by omega) (by omega)<|Af Z<|Ga Z Z<|Ay Z Z<|Ae Z<|Aa<|Ap ?_);exact BO (v:=.bool (decide ((n:Int)≤((n+2:Nat):Int) - 2))) Z (Aeb _) ⟨congrArg Value.bool (decide_eq_true h3),Z,Z⟩
def SH(P:Program)(f:FuncId):Prop:=∀{d}{b q n c:Nat}{a},DC d b 0 (.slice a (n+2) c)→1≤n→n≤8000→
 AA P f [pZ b,pZ q,vZ 2,vZ n,nV] d [] (Ret fun r _ L'=>L'=[]∧∃v,r=.tuple #[pZ v,vZ 0])
def Mc(a0 a1:Nat):A0:=⟨52,[(.tmp 10),(.tmp 11)],(sR (o1 10 (.mv (.const (.pointer none)))<|o1 11 (.mv z0) .done) (.seq (sR (om 14 0<|om 15 2<|om 16 3<|oc 17 a0 [14,15,16]<|o1 18 (.un .not 17) .done) (.cond 18 (sR (o1 10 (.mv (.const (.pointer none)))<|o1 11 (.mv z2) .done) .ret) .skip)) (sR (om 19 0<|om 20 1<|om 21 2<|om 22 3<|o1 23 (.mks 2 24 [(vZ 0),(Bm [])] 22 22)<|o1 24 (.bld [(0,1),(1,1),(2,1),(3,1),(4,1),(5,1)] [(.pointer none),(.pointer none),(vZ 0),nV,(vZ 0),(vZ 0)] [(0,19),(1,20),(2,21),(3,23)])<|o1 25 (.box 24)<|om 12 25 .done) (.seq (sR (o1 13 (.mv z0) .done) (.block 0 (.loop (.seq (sR (om 26 13<|om 27 4<|oL 28 27<|ob 29 .lss 26 28 .done) (.cond 29 .skip (.exit 0))) (.seq (.block 1 (.seq (sR (om 32 12<|om 33 4<|om 34 13<|oI 35 1 33 34<|ol 36 35<|oc 37 a1 [32,36]<|ob 38 .neq 37 z0 .done) (.cond 38 (sR (o1 10 (.mv (.const (.pointer none)))<|o1 11 (.mv z2) .done) .ret) .skip)) (.reg true (pm 39 12<|p1 40 (.nilc 39)<|p1 41 (.fld 3 40)<|pl 42 41<|pm 43 4<|pm 44 13<|p1 45 (.idx 1 43 44)<|pl 46 45<|pm 47 2<|p1 48 (.bin .sub 46 47)<|p1 49 (.idx 2 42 48)<|p1 50 (.fld 0 49)<|o0 (.st 1 50 z2) .done)))) (rG (om 30 13<|ob 31 .add 30 z1<|om 13 31 .done))))))) (sR (om 51 12<|om 10 51<|o1 11 (.mv z0) .done) .ret)))))⟩
set_option maxRecDepth 4000 in
def Y6{P f f1 f2}(hd:dec P f=some (Mc f1 f2))(h1:SO P f1):SH P f:=by
 intro d b q n c a hb hn1 hn2;refine AG hd (Aea Z) ?_;show gwp P _ _ _ _ _;refine Ad<|Am Z<|Ab Z<|Aa<|Ag<|Ad<|Am Z<|Ab Z<|Ab Z<|Bl Z (h1 hb hn1 hn2) (fun u d1 L1 _ ⟨e1,e2,e3⟩=>?_);subst e1;subst e2;subst e3;refine Bn Z<|Aa<|AS Z<|Ak<|Ad<|Am Z<|Am Z<|Ab Z<|Ab Z<|It (n:=n) (c:=n) Z Z (Aef _) (by omega) (by omega) (fun b23 T23=>?_);(refine BJ Z<|Ck Z (fun _ _=>Am Z<|Aa<|Ag<|Ad<|Ab Z<|Aa<|Ax ?_));rename_i bb TT;refine B8 (α:=Unit) (fun _=>[(4,nV),(12,pZ bb),(13,vZ 0)]) (fun _ _ _=>True) (fun _=>0) () ⟨Z,Z,Z,trivial⟩ trivial ?_;rintro - ρ d' L' -;(refine Ag<|Ad<|Ab Z<|Aj Z<|AI Z<|AB Z Z<|Aa<|Ar Z (by omega)<|Bd<|Ad<|Am Z<|Am Z<|Ab Z<|Aa<|Ap ?_);exact Cw Z Z (Afg _) ⟨Z,_,Z⟩
def S2(P:Program)(f:FuncId):Prop:=∀{d}{b:Nat},AA P f [pZ b,vZ 4] d [] (Ret fun r _ L'=>L'=[]∧∃q,r=.tuple #[pZ q,vZ 0])
def MJ:A0:=⟨48,[(.tmp 4),(.tmp 5)],(sR (o1 4 (.mv (.const (.pointer none)))<|o1 5 (.mv z0) .done) (.seq (sR (om 8 1<|ob 9 .lss 8 z1<|om 10 9<|gF 11 10 1<|oF 12 10 (.bin .gtr 11 (kZ 64))<|o1 13 (.pick 10 (.const (.bool true)) 12) .done) (.cond 13 (sR (o1 4 (.mv (.const (.pointer none)))<|o1 5 (.mv z2) .done) .ret) .skip)) (.seq (.reg true (pm 14 0<|pm 15 1<|pm 17 1<|pm 19 1 (.par (o1 20 (.mks 1 16 [(Bm [])] 19 19) .done) (.par (o1 16 (.mks 1 8 [(vZ 0)] 15 15) .done) (o1 18 (.mks 1 1 [(.bool false)] 17 17) .done) .done) (p1 21 (.bld [(0,1),(1,1),(2,1),(3,1),(4,1),(5,1),(6,1),(7,1),(8,1)] [(.pointer none),nV,nV,nV,nV,nV,(vZ 0),(vZ 0),(vZ 0)] [(0,14),(2,16),(3,18),(4,20)]) (o1 22 (.box 21) (.bar (pm 6 22 .done))))))) (.seq (sR (o1 7 (.mv z0) .done) (.block 0 (.loop (.seq (sR (om 23 7<|om 24 1<|ob 25 .lss 23 24 .done) (.cond 25 .skip (.exit 0))) (.seq (.block 1 (sR (om 28 6<|om 29 6<|o1 30 (.nilc 29)<|oj 31 1 30<|ol 32 31<|o1 33 (.bsl 1 1 [(vZ 0)] [(0,(kZ (-1)))])<|o1 34 (.app 1 8 [(vZ 0)] 32 33)<|o1 35 (.nilc 28)<|oj 36 1 35<|o0 (.st 1 36 34) .done) (rG (om 37 6<|om 38 6<|o1 39 (.nilc 38)<|oj 40 5 39<|ol 41 40<|om 42 7<|o1 43 (.bsl 1 1 [(vZ 0)] [(0,42)])<|o1 44 (.app 1 8 [(vZ 0)] 41 43)<|o1 45 (.nilc 37)<|oj 46 5 45<|o0 (.st 1 46 44) .done)))) (rG (om 26 7<|ob 27 .add 26 z1<|om 7 27 .done))))))) (sR (om 47 6<|om 4 47<|o1 5 (.mv z0) .done) .ret)))))⟩
set_option maxRecDepth 4000 in
set_option maxHeartbeats 1000000 in
def Aaa{P f}(hd:I4 P f=some MJ):S2 P f:=by
 intro d b;refine AG hd (Aea Z) ?_;show gwp P _ _ _ _ _;refine Ad<|Am Z<|Ab Z<|Aa<|Ag<|Ad<|Ab Z<|AB Z Z<|Ae Z<|A3 Z (by omega)<|Af Z<|Ab Z<|Af Z<|Bx Z Z<|Au Z Z<|Aa<|Ar Z (by omega)<|Ak<|Ag<|Bw [] [] Z ?_;refine Am Z<|Ab Z<|Ab Z<|Ab Z<|FQ (α:=Nat) (β:=Nat×Nat) [(1,vZ 4),(14,pZ b)] (fun x=>[(20,.slice (some ⟨x,0,none⟩) 4 4)]) (fun _ _ L=>L=[]) (fun y=>[(16,.slice (some ⟨y.1,0,none⟩) 4 4),(18,.slice (some ⟨y.2,0,none⟩) 4 4)]) (fun _ _ L=>L=[]) [] [] Z
  (fun _ _ _ _ _ q=>q) (fun _ _ _ _ _ q=>q) (fun _=>Z) (fun _=>Z) Z ⟨Z,Z,trivial⟩ ?_ ?_ ?_
 ·refine Pz (n:=4) (c:=4) Z Z (Aef _) (by omega) (by omega) (fun b20 T20=>?_);(apply Aa);exact⟨_,Z,b20,⟨Z,trivial⟩,Z⟩
 ·refine FQ (α:=Nat) (β:=Nat) [] (fun x=>[(16,.slice (some ⟨x,0,none⟩) 4 4)]) (fun _ _ L=>L=[]) (fun y=>[(18,.slice (some ⟨y,0,none⟩) 4 4)]) (fun _ _ L=>L=[]) [] [] Z
   (fun _ _ _ _ _ q=>q) (fun _ _ _ _ _ q=>q) (fun _=>Z) (fun _=>Z) Z trivial ?_ ?_ ?_
  ·refine Pz (n:=4) (c:=4) Z Z (Aef _) (by omega) (by omega) (fun b16 T16=>?_);(apply Aa);exact⟨_,Z,b16,⟨Z,trivial⟩,Z⟩
  ·refine Pz (n:=4) (c:=4) Z Z (Aef _) (by omega) (by omega) (fun b18 T18=>?_);(apply Aa);exact⟨_,Z,b18,⟨Z,trivial⟩,Z⟩
  ·rintro b16 b18 ρ2 d2 M1 M2 hl2 rfl rfl;(apply Aa);exact⟨_,Z,(b16,b18),⟨Z,Z,trivial⟩,Z⟩
 ·rintro b20 ⟨b16,b18⟩ ρ2 d2 M1 M2 hl2 rfl rfl;refine BJ (cs:=[pZ b,nV,.slice (some ⟨b16,0,none⟩) 4 4,.slice (some ⟨b18,0,none⟩) 4 4,.slice (some ⟨b20,0,none⟩) 4 4,nV,vZ 0,vZ 0,vZ 0]) Z ?_;refine BS d2 [emp,emp] (Vs.emp.trans Vs.emp) ?_;refine Ck Z (fun q T=>?_);refine Cd<|Am Z<|Aa<|Ag<|Ad<|Ab Z<|Aa<|Ax<|B8 (α:=Nat×Option Addr×Nat×Option Addr×Nat) (fun x=>[(1,vZ 4),(6,pZ q),(7,vZ x.1)])
   (fun x d' L'=>x.1≤4∧∃h1 h5 xs ys,[bx q T [pZ b,.slice x.2.1 x.1 x.2.2.1,.slice (some ⟨b16,0,none⟩) 4 4,.slice (some ⟨b18,0,none⟩) 4 4,.slice (some ⟨b20,0,none⟩) 4 4,.slice x.2.2.2.1 x.1 x.2.2.2.2,vZ 0,vZ 0,vZ 0],h1,h5].Sublist L'∧
    As 1 Bh d' (.slice x.2.1 x.1 x.2.2.1) xs h1∧As 1 Bh d' (.slice x.2.2.2.1 x.1 x.2.2.2.2) ys h5∧xs.length=x.1∧ys.length=x.1) (fun x=>4 - x.1) (0,none,0,none,0) ⟨Z,Z,Z,trivial⟩ ⟨Aez _,emp,emp,[],[],Aeb _,As.nil,As.nil,Z,Z⟩ ?_
  rintro⟨i,a1,c1,a5,c5⟩ ρ d' L' ⟨hi,h1,h5,xs,ys,hsub,r1,r5,x1,y1⟩;simp only at hi hsub r1 r5 x1 y1⊢;apply Ag;apply Ag;apply AE;refine BS d' _ (Vs.drop hsub) ?_;by_cases e:i<4
  ·refine Ab Z<|Ab Z<|AB Z Z<|Aa<|Aw Z (by omega)<|Ak<|Ag<|Ax<|Ad<|Am Z<|Am Z<|AF Z<|Ai Z<|Ah Z (Al 0 Z Z)<|Dq (v0:=vZ (-1)) Z Z (fun b33 T33=>?_);refine Dj (R:=Bh) 1 Z Z r1 Z (As.D2 (R:=Bh) (x:= -1) Z ⟨Z,by omega,by omega⟩) DF (by omega) (by simp;omega) (by simp;omega) (fun v1 h1' o1=>?_);obtain⟨a1',c1',rfl⟩:=o1.val;rw[Aek,x1] at o1⊢;refine AF Z<|Ai Z<|A7 0 [pZ b,.slice a1' (i+1) c1',.slice (some ⟨b16,0,none⟩) 4 4,.slice (some ⟨b18,0,none⟩) 4 4,.slice (some ⟨b20,0,none⟩) 4 4,.slice a5 i c5,vZ 0,vZ 0,vZ 0] Z Z Z Z (Aea Z) Z Z ?_;refine Aa<|AE<|Am Z<|Am Z<|AF Z<|Ai Z<|Ah Z (Al 0 Z Z)<|Ab Z<|Dq (v0:=vZ i) Z Z (fun b43 T43=>?_);refine Dj (R:=Bh) 2 Z Z r5 Z (As.D2 (R:=Bh) (x:=(i:Int)) Z ⟨Z,by omega,by omega⟩) DF (by omega) (by simp;omega) (by simp;omega) (fun v5 h5' o5=>?_);obtain⟨a5',c5',rfl⟩:=o5.val;rw[Aek,y1] at o5⊢;refine AF Z<|Ai Z<|A7 0 [pZ b,.slice a1' (i+1) c1',.slice (some ⟨b16,0,none⟩) 4 4,.slice (some ⟨b18,0,none⟩) 4 4,.slice (some ⟨b20,0,none⟩) 4 4,.slice a5' (i+1) c5',vZ 0,vZ 0,vZ 0] Z Z Z Z (Aea Z) Z Z ?_;(refine Aa<|AE<|Ab Z<|AM Z Z (by omega) (by omega)<|Ab Z<|Aa ?_);exact⟨(i+1,a1',c1',a5',c5'),by simp only;omega,⟨Z,Z,Z,trivial⟩,e,h1',h5',_,_,Aeb _,o1,o5,by rw[Aek,x1];rfl,by rw[Aek,y1];rfl⟩
  ·have:i=4:=by omega
   subst this;(refine Ab Z<|Ab Z<|AB Z Z<|Aa<|Ar Z (by omega)<|Bd<|Ad<|Am Z<|Am Z<|Ab Z<|Aa<|Ap ?_);exact Cw Z Z (Afg _) ⟨Z,q,Z⟩
def pdN(n:Nat):PD:=⟨2,DV n [],fun _=>[],Aeu (n+2) JP,0,0⟩
def Lm(P:Program)(f:FuncId):Prop:=∀{d}{n:Nat},1≤n→n≤1000→AA P f [vZ n] d [] (Ret fun r d' L'=>∃b bd bp,r=pZ b∧DC d' b 0 (pZ bp)∧Pg d' (pdN n) (pZ bd) (pZ bp) L')
def LU(a0 a1 a2 a3 a4 a5:Nat):A0:=⟨75,[(.tmp 2)],(sR (o1 2 (.mv (.const (.pointer none))) .done) (sR (om 14 0<|ob 15 .add 14 z2<|oc 16 a0 [15]<|om 13 16<|oe 17 13 0<|oe 18 13 1<|om 3 17<|om 4 18 .done) (sR (om 20 0<|ob 21 .add 20 z2<|oc 22 a1 [21]<|om 19 22<|oe 23 19 0<|oe 24 19 1<|om 5 23<|om 6 24 .done) (.seq (sR (om 25 4<|ob 26 .neq 25 z0<|om 27 26<|gF 28 27 3<|oF 29 27 (.eqp false 28 (.const (.pointer none)))<|o1 30 (.pick 27 (.const (.bool true)) 29)<|om 31 30<|gF 32 31 5<|oF 33 31 (.eqp false 32 (.const (.pointer none)))<|o1 34 (.pick 31 (.const (.bool true)) 33) .done) (.cond 34 (sR (o1 2 (.mv (.const (.pointer none))) .done) .ret) .skip)) (sR (om 36 3<|oc 37 a2 [36,(kZ 4)]<|om 35 37<|oe 38 35 0<|oe 39 35 1<|om 7 38<|om 4 39 .done) (sR (om 41 5<|oc 42 a3 [41,(kZ 4)]<|om 40 42<|oe 43 40 0<|oe 44 40 1<|om 8 43<|om 9 44 .done) (.seq (sR (om 45 4<|ob 46 .neq 45 z0<|om 47 46<|gF 48 47 7<|oF 49 47 (.eqp false 48 (.const (.pointer none)))<|o1 50 (.pick 47 (.const (.bool true)) 49) .done) (.cond 50 (sR (o1 2 (.mv (.const (.pointer none))) .done) .ret) .skip)) (sR (om 52 3<|om 53 7<|om 54 0<|oc 55 a4 [52,53,z2,54,nS]<|om 51 55<|oe 56 51 0<|oe 57 51 1<|om 10 56<|om 4 57 .done) (sR (om 59 5<|om 60 8<|om 61 0<|oc 62 a5 [59,60,z2,61,nS]<|om 58 62<|oe 63 58 0<|oe 64 58 1<|om 11 63<|om 12 64 .done) (.seq (sR (om 65 4<|ob 66 .neq 65 z0<|om 67 66<|gF 68 67 10<|oF 69 67 (.eqp false 68 (.const (.pointer none)))<|o1 70 (.pick 67 (.const (.bool true)) 69) .done) (.cond 70 (sR (o1 2 (.mv (.const (.pointer none))) .done) .ret) .skip)) (sR (om 71 10<|om 72 11<|o1 73 (.bld [(0,1),(1,1)] [(.pointer none),(.pointer none)] [(0,71),(1,72)])<|o1 74 (.box 73)<|om 2 74 .done) .ret)))))))))))⟩
set_option maxRecDepth 4000 in
set_option maxHeartbeats 1000000 in
def R2{P f f1 f2 f3 f4 f5 f6}(hd:dec P f=some (LU f1 f2 f3 f4 f5 f6))(h1:KW P f1)(h2:SJ P f2)(h3:Ik P f3)(h4:S2 P f4)(h5:PC P f5)(h6:SH P f6):Lm P f:=by
 intro d n hn1 hn2;refine AG hd (Aea Z) ?_;show gwp P _ _ _ _ _;refine Ad<|Am Z<|Aa<|Ad<|Ab Z<|AM Z Z (by omega) (by omega)<|CA (h1 (n:=n+2) (by omega) (by omega)) Z (fun u d1 L1 hl1 ⟨dv,e1,e2,e3⟩=>?_);subst e1;subst e2;obtain⟨bd,rfl⟩:∃b,dv=pZ b:=let ⟨b,_,_,_,_,_,_,h,_⟩:=e3;⟨b,h⟩
 refine AT Z<|Ao Z Z<|Ao Z Z<|Am Z<|Ab Z<|Aa<|Ad<|Ab Z<|AM Z Z (by omega) (by omega)<|DY (A:=[]) (B:=L1) Z Z (h2 (n:=n+2) (by omega) (by omega)) (fun u d2 L2 hl2 ⟨q1,br,ar,cr,q2,q3⟩=>?_);subst q1;subst q2;rw[Afi];refine AT Z<|Ao Z Z<|Ao Z Z<|Am Z<|Ab Z<|Aa<|Ag<|Ad<|Ab Z<|AO Z Z<|Ae Z<|A3 Z (by omega)<|Af Z<|Am Z<|Af Z<|Cg Z Z<|Au Z Z<|Ae Z<|Af Z<|Am Z<|Af Z<|Cg Z Z<|Au Z Z<|Aa<|AS Z<|Ak<|Ad<|Am Z<|CA (h3 (n:=4) (e3.mono hl2) (show 1≤(Aeu (n+2) JP).length by rw[Afk];omega) (by omega) (by omega)) Z (fun u d3 L3 _ ⟨q4,cv,LC,q5,q6,q7⟩=>?_);subst q4;subst q5;subst q6;obtain⟨bc,rfl⟩:∃b,cv=pZ b:=let ⟨b,_,_,_,_,_,_,_,_,h,_⟩:=q7;⟨b,h⟩
 refine AT Z<|Ao Z Z<|Ao Z Z<|Am Z<|Ab Z<|Aa<|Ad<|Am Z<|DY (A:=[]) (B:=LC++L1) Z Z (h4 (b:=br)) (fun u d4 L4 hl4 ⟨p1,bq,p2⟩=>?_);subst p1;subst p2;rw[Afi];refine AT Z<|Ao Z Z<|Ao Z Z<|Am Z<|Ab Z<|Aa<|Ag<|Ad<|Ab Z<|AO Z Z<|Ae Z<|A3 Z (by omega)<|Af Z<|Am Z<|Af Z<|Cg Z Z<|Au Z Z<|Aa<|AS Z<|Ak<|Ad<|Am Z<|Am Z<|Ab Z<|CA (h5 (frm:=2) (n:=n) (m:=4) (live:=[]) ((e3.mono hl2).mono hl4) (q7.mono hl4) (by omega) (by omega) (by omega) (by rw[Afk];omega) (by rw[Afk];omega) Ait (fun k hk=>(by cases hk)) (RSl.nil:DS d4 nV [])) Z (fun u d5 L5 hl5 ⟨pv,g1,g2,g3⟩=>?_);subst g1;obtain⟨bp,rfl⟩:=g3.ptr;refine AT Z<|Ao Z Z<|Ao Z Z<|Am Z<|Ab Z<|Aa<|Ad<|Am Z<|Am Z<|Ab Z<|DY (A:=[]) (B:=L5) Z Z (h6 (n:=n) (b:=br) (q:=bq) ((q3.mono hl4).mono hl5) hn1 (by omega)) (fun u d6 L6 hl6 ⟨p1,xv,p2⟩=>?_);subst p1;subst p2;rw[Afi];(refine AT Z<|Ao Z Z<|Ao Z Z<|Am Z<|Ab Z<|Aa<|Ag<|Ad<|Ab Z<|AO Z Z<|Ae Z<|A3 Z (by omega)<|Af Z<|Am Z<|Af Z<|Cg Z Z<|Au Z Z<|Aa<|AS Z<|Ak<|Ad<|Am Z<|Am Z<|BJ Z<|Ck Z (fun _ _=>Am Z<|Aa<|Ap ?_));rename_i bm Tm;exact A4 [pZ bm] ⟨Z,trivial⟩ (d':=join d6 (bx bm Tm [pZ bp,pZ xv])) (L':=L5) Vs.freeze ⟨bm,bd,bp,Z,(Le.dcs (Le.A6 _ _)).at (i:=0) Z,(g3.mono hl6).mono (Le.Az _ _)⟩
end Go.Gk.Chn
end
section
namespace Go.Gk.Tre
open Go Go.Gk Go.Gk.Dev Go.Gk.Cch Go.Gk.Pgr Go.Gk.Chn Go.Gk.Node
attribute [local irreducible] gwp gws xwp
variable{P:Program}{f f1:FuncId}
def LB(P:Program)(f:FuncId):Prop:=∀{d w key},AJ d w key→CP P f [w] d (vZ (BZ key))
def LH:A0:=⟨11,[(.tmp 2)],(sR (o1 2 (.mv z0) .done) (.seq (sR (om 3 0<|oL 4 3<|ob 5 .lss 4 z1<|om 6 5<|gF 7 6 0<|oF 8 6 (.len 7)<|oF 9 6 (.bin .gtr 8 (kZ 64))<|o1 10 (.pick 6 (.const (.bool true)) 9) .done) (.cond 10 (sR (o1 2 (.mv z2) .done) .ret) .skip)) (sR (o1 2 (.mv z0) .done) .ret)))⟩
def R5(hd:dec P f=some LH):LB P f:=by
 intro d w key hw;have hwl:=hw.BF;obtain⟨a,c,rfl⟩:=hw.val;refine AG hd (Aea Z) ?_;show gwp P _ _ _ _ _;by_cases e1:key.length<1
 ·have hF:BZ key=2:=by unfold BZ;rw[if_pos (.inl e1)]
  rw[hF];(refine Ad<|Ab Z<|Aa<|Ag<|Ad<|Aj Z<|AI Z<|AB Z Z<|Ae Z<|A8 Z (by omega)<|An Z<|An Z<|An Z<|Ay Z Z<|Aa<|Bc Z<|Ad<|Ab Z<|Aa<|Ap ?_);exact BO Z (Aeb _) ⟨Z,Z,Z⟩
 ·by_cases e2:64<key.length
  ·have hF:BZ key=2:=by unfold BZ;rw[if_pos (.inr e2)]
   rw[hF];(refine Ad<|Ab Z<|Aa<|Ag<|Ad<|Aj Z<|AI Z<|AB Z Z<|Ae Z<|A3 Z (by omega)<|Af Z<|Aj Z<|Af Z<|AI Z<|Af Z<|Bx Z Z<|Au Z Z<|Aa<|Aw Z (by omega)<|Ad<|Ab Z<|Aa<|Ap ?_);exact BO Z (Aeb _) ⟨Z,Z,Z⟩
  ·have hF:BZ key=0:=by unfold BZ;rw[if_neg (by omega)]
   rw[hF];(refine Ad<|Ab Z<|Aa<|Ag<|Ad<|Aj Z<|AI Z<|AB Z Z<|Ae Z<|A3 Z (by omega)<|Af Z<|Aj Z<|Af Z<|AI Z<|Af Z<|Bx Z Z<|Au Z Z<|Aa<|Ar Z (by omega)<|Ak<|Ad<|Ab Z<|Aa<|Ap ?_);exact BO Z (Aeb _) ⟨Z,Z,Z⟩
def NA(P:Program)(f:FuncId):Prop:=∀{d w b}{n:Nat},AJ d w b→n≤1000000→AA P f [w,vZ n] d [] (Ret fun v d' L'=>L'=[]∧d'=d∧AJ d v (b.take n))
def KZ:A0:=⟨13,[(.tmp 4)],(sR (o1 4 (.mv nS) .done) (.seq (sR (om 5 0<|oL 6 5<|om 7 1<|ob 8 .gtr 6 7 .done) (.cond 8 (sR (om 9 0<|om 10 1<|o1 11 (.sl 1 9 none (some 10) none)<|om 4 11 .done) .ret) .skip)) (sR (om 12 0<|om 4 12 .done) .ret)))⟩
def UF(hd:dec P f=some KZ):NA P f:=by
 intro d w b n hw hn;have hwl:=hw.BF;obtain⟨a,c,rfl⟩:=hw.val;refine AG hd (Aea Z) ?_;show gwp P _ _ _ _ _;by_cases e1:n<b.length
 ·refine Ad<|Aj Z<|Aa<|Ag<|Ad<|Aj Z<|AI Z<|Ab Z<|Bx Z Z<|Aa<|Aw Z (by omega)<|Ad<|Aj Z<|Ab Z<|Qt (n:=n) Z hw Z Z (by omega) (fun v11 r11=>?_);obtain⟨a1,c1,rfl⟩:=r11.val;(refine Aj Z<|Aa<|Ap ?_);exact BO Z (Aeb _) ⟨Z,Z,r11⟩
 ·rw[Afu (by omega)];(refine Ad<|Aj Z<|Aa<|Ag<|Ad<|Aj Z<|AI Z<|Ab Z<|Bx Z Z<|Aa<|Ar Z (by omega)<|Ak<|Ad<|Aj Z<|Aj Z<|Aa<|Ap ?_);exact BO Z (Aeb _) ⟨Z,Z,hw⟩
def GQ(P:Program)(f:FuncId):Prop:=∀{d}{n:Nat},1≤n→n≤1000→AA P f [vZ n] d [] (Ret fun r d' L'=>∃bt Tt bd bp L2,r=.tuple #[pZ bp,pZ bt]∧L'=tb bt Tt (pZ bp) (-1) 0 0::L2∧Pg d' (pdN n) (pZ bd) (pZ bp) L2)
def JU(a0 a1:Nat):A0:=⟨26,[(.tmp 2),(.tmp 3)],(sR (o1 2 (.mv (.const (.pointer none)))<|o1 3 (.mv (.const (.pointer none))) .done) (sR (om 7 0<|oc 8 a0 [7]<|om 4 8 .done) (.seq (sR (om 9 4<|o1 10 (.eqp false 9 (.const (.pointer none))) .done) (.cond 10 (sR (o1 2 (.mv (.const (.pointer none)))<|o1 3 (.mv (.const (.pointer none))) .done) .ret) .skip)) (sR (om 12 4<|o1 13 (.nilc 12)<|oj 14 0 13<|ol 15 14<|oc 16 a1 [15]<|om 11 16<|oe 17 11 0<|oe 18 11 1<|om 5 17<|om 6 18 .done) (.seq (sR (om 19 6<|ob 20 .neq 19 z0 .done) (.cond 20 (sR (o1 2 (.mv (.const (.pointer none)))<|o1 3 (.mv (.const (.pointer none))) .done) .ret) .skip)) (sR (om 21 4<|o1 22 (.nilc 21)<|oj 23 0 22<|ol 24 23<|om 25 5<|om 2 24<|om 3 25 .done) .ret))))))⟩
def P0{f2}(hd:dec P f=some (JU f1 f2))(h1:Lm P f1)(h2:Qf P f2):GQ P f:=by
 intro d n hn1 hn2;refine AG hd (Aea Z) ?_;show gwp P _ _ _ _ _;refine Ad<|Am Z<|Am Z<|Aa<|Ad<|Ab Z<|CA (h1 (n:=n) hn1 hn2) Z (fun u d1 L1 hl1 ⟨b,bd,bp,e1,e2,e3⟩=>?_);subst e1;refine Am Z<|Aa<|Ag<|Ad<|Am Z<|Cg Z Z<|Aa<|AS Z<|Ak<|Ad<|Am Z<|AF Z<|Ai Z<|Ah Z (BB (by assumption))<|CA (h2 e3) Z (fun u d2 L2 hl2 ⟨_,bt,Tt,e4,e5⟩=>?_);subst e4;subst e5;have e2':=e2.mono hl2;(refine AT Z<|Ao Z Z<|Ao Z Z<|Am Z<|Ab Z<|Aa<|Ag<|Ad<|Ab Z<|AO Z Z<|Aa<|Ar Z (by omega)<|Ak<|Ad<|Am Z<|AF Z<|Ai Z<|Ah Z (BB (by assumption))<|Am Z<|Am Z<|Am Z<|Aa<|Ap ?_);exact A4 [pZ bp,pZ bt] ⟨Aq Z,Aq Z,trivial⟩ (Vs.refl _ _) ⟨bt,Tt,bd,bp,_,Z,Z,e3.mono hl2⟩
abbrev KV:=List UInt8×List UInt8
def RKv(_:Ac)(cs:List Value)(x:KV):Prop:=cs=[Bm x.1,Bm x.2]∧x.1.length≤140737488355328∧x.2.length≤140737488355328
def Dr:FZ RKv:=fun _ h=>h
def Bz:List KV→List UInt8→Nat
 |[],_=>0
 |x::l,key=>if Op.bytesLess x.1 key=true then Bz l key+1 else 0
def IK(P:Program)(f:FuncId):Prop:=∀{d w l key},RSl 2 RKv d w l→key.length≤140737488355328→CP P f [w,Bm key] d (vZ (Bz l key:Nat))
def LX:A0:=⟨22,[(.tmp 4)],(sR (o1 4 (.mv z0) .done) (sR (o1 5 (.mv z0) .done) (.seq (.block 0 (.loop (.seq (sR (om 6 5<|om 7 0<|oL 8 7<|ob 9 .lss 6 8<|om 10 9<|gT 11 10 0<|gT 12 10 5<|oT 13 10 (.idx 2 11 12)<|oT 14 10 (.fld 0 13)<|oT 15 10 (.ld none 14)<|gT 16 10 1<|oT 17 10 (.bin .lss 15 16)<|gP 18 10 17 .done) (.cond 18 .skip (.exit 0))) (.block 1 (rG (om 19 5<|ob 20 .add 19 z1<|om 5 20 .done)))))) (sR (om 21 5<|om 4 21 .done) .ret))))⟩
def Pt(hd:dec P f=some LX):IK P f:=by
 intro d w l key hw hk;have hwl:=hw.BF;obtain⟨a,c,rfl⟩:=hw.val;refine AG hd (Aea Z) ?_;show gwp P _ _ _ _ _;refine Ad<|Ab Z<|Aa<|Ad<|Ab Z<|Aa<|Ag<|Ax<|B8 (α:=Nat) (fun x=>[(0,.slice a l.length c),(1,Bm key),(5,vZ x)]) (fun x d' L'=>d'=d∧L'=[]∧x≤l.length∧Bz l key=x+Bz (l.drop x) key) (fun x=>l.length - x) 0 ⟨Z,Z,Z,trivial⟩ ⟨Z,Z,Aez _,by simp⟩ ?_;rintro i ρ d' L' ⟨rfl,rfl,hi,hf⟩;simp only at hi hf⊢;by_cases e:i<l.length
 ·rw[List.drop_eq_getElem_cons e,Bz] at hf;refine Ag<|Ad<|Ab Z<|Aj Z<|AI Z<|AB Z Z<|Ae Z<|A8 Z (by omega)<|Af Z<|Aj Z<|Af Z<|Ab Z<|Af Z<|Bg (m:=i) Z hw Z Z e (fun b o cs hcl hdc ⟨q,q1,q2⟩=>?_);subst q;by_cases e2:Op.bytesLess l[i].1 key=true
  ·rw[if_pos e2] at hf;(refine Af Z<|Ai Z<|Af Z<|Ah Z (B2 (by assumption) Z)<|Af Z<|CY Z<|Af Z<|Fc Z Z<|Ay Z Z<|Aa ?_;apply PR;rfl;(with_reducible assumption);refine Ak<|Ax<|AE<|Ab Z<|AM Z Z (by omega) (by omega)<|Ab Z<|Aa ?_);exact⟨i+1,by omega,⟨Z,Z,Z,trivial⟩,Z,Z,e,by omega⟩
  ·rw[if_neg e2,Nat.add_zero] at hf;(refine Af Z<|Ai Z<|Af Z<|Ah Z (B2 (by assumption) Z)<|Af Z<|CY Z<|Af Z<|Fc Z Z<|Ay Z Z<|Aa ?_);show gwp P _ _ _ _ _;first|refine JK rfl (fun h9=>?_) (fun h9=>?_)|refine MA rfl (fun h9=>?_) (fun h9=>?_)
   ·exact absurd h9 e2
   ·clear h9 e2;rw[hf];(refine Bd<|Ad<|Ab Z<|Ab Z<|Aa<|Ap ?_);exact BO Z (Aeb _) ⟨Z,Z,Z⟩
 ·have:i=l.length:=by omega
  subst this;rw[List.drop_length,Bz] at hf;rw[hf];(refine Ag<|Ad<|Ab Z<|Aj Z<|AI Z<|AB Z Z<|Ae Z<|A3 Z (by omega)<|An Z<|An Z<|An Z<|An Z<|An Z<|An Z<|An Z<|Au Z Z<|Aa<|AS Z<|Bd<|Ad<|Ab Z<|Ab Z<|Aa<|Ap ?_);exact BO Z (Aeb _) ⟨Z,Z,Z⟩
def Hw:FC RKv:=fun _ _ _ h=>by obtain⟨rfl,_⟩:=h;rfl
def isK(l:List KV)(key:List UInt8):Bool:=decide (Bz l key<l.length)&& decide ((l.getD (Bz l key) ([],[])).1=key)
def En(l:List KV)(key:List UInt8):List UInt8×Bool:=if isK l key=true then((l.getD (Bz l key) ([],[])).2,true) else([],false)
def Cn(l:List KV)(key:List UInt8):List KV×Bool:=if isK l key=true then(l.take (Bz l key)++l.drop (Bz l key+1),true) else(l,false)
def Gy:∀(l:List KV) (key:List UInt8),Bz l key≤l.length
 |[],_=>Aef _
 |x::l,key=>by
  rw[Bz,Aep];have:=Gy l key;by_cases h:Op.bytesLess x.1 key=true
  ·rw[if_pos h];omega
  ·rw[if_neg h];omega
def Np(P:Program)(f:FuncId):Prop:=∀{d w l key},RSl 2 RKv d w l→key.length≤140737488355328→CP P f [w,Bm key] d (.tuple #[Bm (En l key).1,.bool (En l key).2])
def Nb(a0:Nat):A0:=⟨28,[(.tmp 4),(.tmp 5)],(sR (o1 4 (.mv (.const (Bm [])))<|o1 5 (.mv (.const (.bool false))) .done) (sR (om 7 0<|om 8 1<|oc 9 a0 [7,8]<|om 6 9 .done) (.seq (sR (om 10 6<|om 11 0<|oL 12 11<|ob 13 .lss 10 12<|om 14 13<|gT 15 14 0<|gT 16 14 6<|oT 17 14 (.idx 2 15 16)<|oT 18 14 (.fld 0 17)<|oT 19 14 (.ld none 18)<|gT 20 14 1<|oT 21 14 (.bin .eql 19 20)<|gP 22 14 21 .done) (.cond 22 (sR (om 23 0<|om 24 6<|oI 25 2 23 24<|oj 26 1 25<|ol 27 26<|om 4 27<|o1 5 (.mv (.const (.bool true))) .done) .ret) .skip)) (sR (o1 4 (.mv (.const (Bm [])))<|o1 5 (.mv (.const (.bool false))) .done) .ret))))⟩
def Vo(hd:dec P f=some (Nb f1))(h1:IK P f1):Np P f:=by
 intro d w l key hw hk;have hwl:=hw.BF;have hc:=h1 hw hk;have hfl:=Gy l key;obtain⟨i,hi⟩:∃i,Bz l key=i:=⟨_,Z⟩
 rw[hi] at hc hfl;have hIs:isK l key=(decide (i<l.length)&& decide ((l.getD i ([],[])).1=key)):=by unfold isK;rw[hi]
 have hG:En l key=if isK l key=true then((l.getD i ([],[])).2,true) else([],false):=by unfold En;rw[hi]
 rw[hG,hIs];clear hG hIs hi;obtain⟨a,c,rfl⟩:=hw.val;refine AG hd (Aea Z) ?_;show gwp P _ _ _ _ _;refine Ad<|CY Z<|Ae Z<|Aa<|Ad<|Aj Z<|CY Z<|BE Z hc ?_;by_cases e:i<l.length
 ·have hgd:l.getD i ([],[])=l[i]:=by rw[Aee,Aed e];rfl
  rw[hgd];by_cases e2:l[i].1=key
  ·rw[if_pos (by simp[e,e2])];refine Ab Z<|Aa<|Ag<|Ad<|Ab Z<|Aj Z<|AI Z<|AB Z Z<|Ae Z<|A8 Z (by omega)<|Af Z<|Aj Z<|Af Z<|Ab Z<|Af Z<|Bg (m:=i) Z hw Z Z e (fun b o cs hcl hdc ⟨q,q1,q2⟩=>?_);subst q;refine Af Z<|Ai Z<|Af Z<|Ah Z (B2 (by assumption) Z)<|Af Z<|CY Z<|Af Z<|Jm Z Z<|Ay Z Z<|Aa<|Aw Z (by omega)<|Ad<|Aj Z<|Ab Z<|Bg (m:=i) Z hw Z Z e (fun b o cs hcl hdc ⟨q,q1,q2⟩=>?_);subst q;(refine Ai Z<|Ah Z (B2 (by assumption) Z)<|CY Z<|Ae Z<|Aa<|Ap ?_);exact A4 [Bm l[i].2,.bool true] ⟨Aq Z,Aq Z,trivial⟩ (Vs.refl _ _) ⟨Z,Z,Z⟩
  ·rw[if_neg (by simp[e2])];refine Ab Z<|Aa<|Ag<|Ad<|Ab Z<|Aj Z<|AI Z<|AB Z Z<|Ae Z<|A8 Z (by omega)<|Af Z<|Aj Z<|Af Z<|Ab Z<|Af Z<|Bg (m:=i) Z hw Z Z e (fun b o cs hcl hdc ⟨q,q1,q2⟩=>?_);subst q;(refine Af Z<|Ai Z<|Af Z<|Ah Z (B2 (by assumption) Z)<|Af Z<|CY Z<|Af Z<|Jm Z Z<|Ay Z Z<|Aa<|Ar Z (by omega)<|Ak<|Ad<|CY Z<|Ae Z<|Aa<|Ap ?_);exact A4 [Bm [],.bool false] ⟨Aq Z,Aq Z,trivial⟩ (Vs.refl _ _) ⟨Z,Z,Z⟩
 ·rw[if_neg (by simp[e])];(refine Ab Z<|Aa<|Ag<|Ad<|Ab Z<|Aj Z<|AI Z<|AB Z Z<|Ae Z<|A3 Z (by omega)<|An Z<|An Z<|An Z<|An Z<|An Z<|An Z<|An Z<|Au Z Z<|Aa<|AS Z<|Ak<|Ad<|CY Z<|Ae Z<|Aa<|Ap ?_);exact A4 [Bm [],.bool false] ⟨Aq Z,Aq Z,trivial⟩ (Vs.refl _ _) ⟨Z,Z,Z⟩
def KB(P:Program)(f:FuncId):Prop:=∀{d w l key},RSl 2 RKv d w l→key.length≤140737488355328→l.length≤1000000→
 AA P f [w,Bm key] d [] (Ret fun v d' L'=>L'=[]∧Le d d'∧∃u,v=.tuple #[u,.bool (Cn l key).2]∧RSl 2 RKv d' u (Cn l key).1)
def M6(a0:Nat):A0:=⟨34,[(.tmp 4),(.tmp 5)],(sR (o1 4 (.mv nS)<|o1 5 (.mv (.const (.bool false))) .done) (sR (om 7 0<|om 8 1<|oc 9 a0 [7,8]<|om 6 9 .done) (.seq (sR (om 10 6<|om 11 0<|oL 12 11<|ob 13 .eql 10 12<|om 14 13<|gF 15 14 0<|gF 16 14 6<|oF 17 14 (.idx 2 15 16)<|oF 18 14 (.fld 0 17)<|oF 19 14 (.ld none 18)<|gF 20 14 1<|oF 21 14 (.bin .neq 19 20)<|o1 22 (.pick 14 (.const (.bool true)) 21) .done) (.cond 22 (sR (om 23 0<|om 4 23<|o1 5 (.mv (.const (.bool false))) .done) .ret) .skip)) (.seq (.reg true (pm 25 0<|pm 26 6<|p1 27 (.sl 2 25 none (some 26) none)<|pm 29 0<|pm 30 6<|p1 31 (.bin .add 30 z1)<|p1 32 (.sl 2 29 (some 31) none none)<|o1 24 (.bsl 0 2 [(Bm []),(Bm [])] [])<|o1 28 (.app 2 32 [(Bm []),(Bm [])] 24 27)<|o1 33 (.app 2 32 [(Bm []),(Bm [])] 28 32) (.bar (pm 4 33 (p1 5 (.mv (.const (.bool true))) .done))))) .ret))))⟩
def Vu(hd:dec P f=some (M6 f1))(h1:IK P f1):KB P f:=by
 intro d w l key hw hk hln;have hwl:=hw.BF;have hc:=h1 hw hk;have hfl:=Gy l key;obtain⟨i,hi⟩:∃i,Bz l key=i:=⟨_,Z⟩
 rw[hi] at hc hfl;have hIs:isK l key=(decide (i<l.length)&& decide ((l.getD i ([],[])).1=key)):=by unfold isK;rw[hi]
 have hG:Cn l key=if isK l key=true then(l.take i++l.drop (i+1),true) else(l,false):=by unfold Cn;rw[hi]
 rw[hG,hIs];clear hG hIs hi;obtain⟨a,c,rfl⟩:=hw.val;refine AG hd (Aea Z) ?_;show gwp P _ _ _ _ _;refine Ad<|Aj Z<|Ae Z<|Aa<|Ad<|Aj Z<|CY Z<|BE Z hc ?_;by_cases e:i<l.length
 ·have hgd:l.getD i ([],[])=l[i]:=by rw[Aee,Aed e];rfl
  rw[hgd];by_cases e2:l[i].1=key
  ·rw[if_pos (by simp[e,e2])];refine Ab Z<|Aa<|Ag<|Ad<|Ab Z<|Aj Z<|AI Z<|AN Z Z<|Ae Z<|A3 Z (by omega)<|Af Z<|Aj Z<|Af Z<|Ab Z<|Af Z<|Bg (m:=i) Z hw Z Z e (fun b o cs hcl hdc ⟨q,q1,q2⟩=>?_);subst q;(refine Af Z<|Ai Z<|Af Z<|Ah Z (B2 (by assumption) Z)<|Af Z<|CY Z<|Af Z<|JE Z Z<|Au Z Z<|Aa ?_);show gwp P _ _ _ _ _;first|refine JK rfl (fun h9=>?_) (fun h9=>?_)|refine MA rfl (fun h9=>?_) (fun h9=>?_)
   ·exact absurd e2 h9
   ·clear h9;refine Ak<|Ag<|Bv ?_;refine Aj Z<|Ab Z<|Qt (n:=i) Z hw Z Z (by omega) (fun v27 r27=>?_);refine Aj Z<|Ab Z<|AM Z Z (by omega) (by omega)<|Eb (n:=i+1) Z hw Z Z (by omega) (fun v32 r32=>?_);refine AcI (R:=RKv) (xs:=l.take i) (ys:=l.drop (i+1)) Dr Hw (by omega) Z r27 r32 (fun _=>Z) (fun _ _=>Z) (by simp;omega) (by simp;omega) (fun v0 v1 a c d3 hl3 hr3=>?_);(refine Cd<|Aj Z<|Ae Z<|Aa<|Ap ?_);exact A4 [.slice a (l.take i++l.drop (i+1)).length c,.bool true] ⟨Aq Z,Aq Z,trivial⟩ (Vs.refl _ _) ⟨Z,hl3,_,Z,hr3⟩
  ·rw[if_neg (by simp[e2])];refine Ab Z<|Aa<|Ag<|Ad<|Ab Z<|Aj Z<|AI Z<|AN Z Z<|Ae Z<|A3 Z (by omega)<|Af Z<|Aj Z<|Af Z<|Ab Z<|Af Z<|Bg (m:=i) Z hw Z Z e (fun b o cs hcl hdc ⟨q,q1,q2⟩=>?_);subst q;(refine Af Z<|Ai Z<|Af Z<|Ah Z (B2 (by assumption) Z)<|Af Z<|CY Z<|Af Z<|JE Z Z<|Au Z Z<|Aa<|Aw Z (by omega)<|Ad<|Aj Z<|Aj Z<|Ae Z<|Aa<|Ap ?_);exact A4 [.slice a l.length c,.bool false] ⟨Aq Z,Aq Z,trivial⟩ (Vs.refl _ _) ⟨Z,Le.refl _,_,Z,hw⟩
 ·rw[if_neg (by simp[e])];(refine Ab Z<|Aa<|Ag<|Ad<|Ab Z<|Aj Z<|AI Z<|AN Z Z<|Ae Z<|A8 Z (by omega)<|An Z<|An Z<|An Z<|An Z<|An Z<|An Z<|An Z<|Ay Z Z<|Aa<|Bc Z<|Ad<|Aj Z<|Aj Z<|Ae Z<|Aa<|Ap ?_);exact A4 [.slice a l.length c,.bool false] ⟨Aq Z,Aq Z,trivial⟩ (Vs.refl _ _) ⟨Z,Le.refl _,_,Z,hw⟩
def Em(l:List KV)(key v:List UInt8):List KV:=(Cn l key).1.take (Bz (Cn l key).1 key)++[(key,v)]++(Cn l key).1.drop (Bz (Cn l key).1 key)
def Xe(l:List KV)(key:List UInt8):(Cn l key).1.length≤l.length:=by
 unfold Cn;by_cases h:isK l key=true
 ·rw[if_pos h];simp only[Aek,Aer,Aen];omega
 ·rw[if_neg h];exact Aef _
def Ny(P:Program)(f:FuncId):Prop:=∀{d w l key v},RSl 2 RKv d w l→key.length≤140737488355328→v.length≤140737488355328→l.length≤1000000→
 AA P f [w,Bm key,Bm v] d [] (Ret fun r d' L'=>L'=[]∧Le d d'∧RSl 2 RKv d' r (Em l key v))
def Mn(a0 a1:Nat):A0:=⟨31,[(.tmp 6)],(sR (o1 6 (.mv nS) .done) (sR (om 9 0<|om 10 1<|oc 11 a0 [9,10]<|om 8 11<|oe 12 8 0<|oe 13 8 1<|om 0 12 .done) (sR (om 14 0<|om 15 1<|oc 16 a1 [14,15]<|om 7 16 .done) (.seq (.reg true (pm 18 0<|pm 19 7<|p1 20 (.sl 2 18 none (some 19) none)<|pm 22 1<|pm 23 2<|p1 24 (.bld [(0,1),(1,1)] [(Bm []),(Bm [])] [(0,22),(1,23)])<|pm 27 0<|pm 28 7<|p1 29 (.sl 2 27 (some 28) none none) (.par (o1 25 (.bsl 1 2 [(Bm []),(Bm [])] [(0,24)]) .done) (o1 17 (.bsl 0 2 [(Bm []),(Bm [])] []) (o1 21 (.app 2 32 [(Bm []),(Bm [])] 17 20) .done)) (o1 26 (.app 2 32 [(Bm []),(Bm [])] 21 25) (o1 30 (.app 2 32 [(Bm []),(Bm [])] 26 29) (.bar (pm 6 30 .done))))))) .ret))))⟩
set_option maxRecDepth 4000 in
def Ug{f2}(hd:I4 P f=some (Mn f1 f2))(h1:KB P f1)(h2:IK P f2):Ny P f:=by
 intro d w l key v hw hk hv hln;have hwl:=hw.BF;have hdl:=Xe l key;obtain⟨a,c,rfl⟩:=hw.val;refine AG hd (Aea Z) ?_;show gwp P _ _ _ _ _;refine Ad<|Aj Z<|Aa<|Ad<|Aj Z<|CY Z<|CA (h1 hw hk hln) Z (fun u d2 L2 hl2 ⟨e1,_,w2,e2,hw2⟩=>?_);subst e1;subst e2;have hc:=h2 hw2 hk;have hfl:=Gy (Cn l key).1 key;unfold Em;generalize hm:(Cn l key).1=m at hw2 hc hfl hdl⊢;generalize hi:Bz m key=i at hc hfl⊢;obtain⟨a2,c2,rfl⟩:=hw2.val;clear hm hi hw;refine AT Z<|Ao Z Z<|Ao Z Z<|Aj Z<|Aa<|Ad<|Aj Z<|CY Z<|BE Z hc ?_;refine Ab Z<|Aa<|Ag<|Bv ?_;refine Aj Z<|Ab Z<|Qt (n:=i) Z hw2 Z Z (by omega) (fun v20 r20=>?_);refine CY Z<|CY Z<|BJ Z<|Aj Z<|Ab Z<|Eb (n:=i) Z hw2 Z Z (by omega) (fun v29 r29=>?_);refine FQ (α:=Nat×TypeId) (β:=Value×Ac) [(29,v29)]
  (fun x=>[(25,.slice (some ⟨x.1,0,none⟩) 1 1)]) (fun x d L=>L=[bx x.1 x.2 [Bm key,Bm v]])
  (fun y=>[(21,y.1)]) (fun y d L=>As 2 RKv d y.1 (m.take i) y.2∧L=[y.2]) [] [] Z
  (fun x d d' M hl h=>h) (fun y d d' M hl h=>⟨As.mono (R:=RKv) Dr h.1 hl,h.2⟩) (fun x=>Z) (fun y=>Z) Z ⟨Z,trivial⟩ ?_ ?_ ?_
 ·refine VB (cs:=[Bm key,Bm v]) Z Z Z (by omega) (fun b25 T25=>?_);refine AZ ?_;exact⟨_,Z,(b25,T25),⟨Z,trivial⟩,Z⟩
 ·refine Acu (R:=RKv) (xs:=m.take i) Dr Hw (by omega) r20 (fun _=>Z) (by simp;omega) (by simp;omega) (fun v0 v1 g1 o1=>?_);refine AZ ?_;exact⟨_,Z,(v1,g1),⟨Z,trivial⟩,o1,Z⟩
 rintro⟨b25,T25⟩ ⟨v21,g21⟩ ρ d5 M1 M2 hl5 hM1 ⟨o21,hM2⟩;subst hM1;subst hM2;refine Dj (R:=RKv) 0 Z Z o21 Z (As.D2 (R:=RKv) (x:=(key,v)) Z ⟨Z,hk,hv⟩) Hw (by omega) (by simp;omega) (by simp;omega) (fun v26 g26 o26=>?_);refine IL (R:=RKv) (xs:=m.take i++[(key,v)]) (ys:=m.drop i) Dr Z o26 Z (RSl.src (R:=RKv) (RSl.mono (R:=RKv) Dr r29 hl5) Hw (by omega) _) (by omega) (by simp;omega) (by simp;omega) (fun a30 c30 d6 hl6 r30=>?_);(refine Cd<|Aj Z<|Aa<|Ap ?_);exact BO Z (Aeb _) ⟨Z,(hl2.trans hl5).trans hl6,r30⟩
end Go.Gk.Tre
end
section
namespace Go.Gk.Tre
open Go Go.Gk Go.Gk.Dev Go.Gk.Cch Go.Gk.Pgr Go.Gk.Chn Go.Gk.Node
variable{a b c key v:List UInt8}{ks:List (List UInt8)}{cs A B P Q:List Int}{n:AK}{m l:List KV}{s t:PD}{c' h z:Nat}{k:Int}{lf:Bool}
abbrev Lt(a b:List UInt8):Prop:=Op.bytesLess a b=true
def I3:¬Lt a a:=by simp[Lt,EO]
def FP(h:Lt a b)(k:Lt b c):Lt a c:=Ll h k
def K5(h:Lt a b):¬Lt b a:=fun k=>I3 (FP h k)
def NH(h:¬Lt b a)(k:Lt b c):Lt a c:=by
 rcases K0 a b with q|q|q
 ·exact FP q k
 ·rw[q];exact k
 ·exact absurd q h
def HG(h:Lt a b)(k:¬Lt c b):Lt a c:=by
 rcases K0 b c with q|q|q
 ·exact FP h q
 ·rw[←q];exact h
 ·exact absurd q k
def Abh(h:¬Lt b a)(k:¬Lt c b):¬Lt c a:=fun q=>k (HG q h)
def Abl(h:¬Lt a b):a=b∨Lt b a:=by
 rcases K0 a b with q|q|q
 ·exact absurd q h
 ·exact .inl q
 ·exact .inr q
def KO(ks:List (List UInt8)):Prop:=(∀k∈ks,1≤k.length∧k.length≤64)∧ks.Pairwise Lt
def R1:DE ks ks.length=true↔KO ks:=by
 constructor
 ·intro h;refine⟨fun k hk=>?_,Ahk.2 fun i j hi hj hij=>Mm h hj hij⟩
  obtain⟨i,hi,rfl⟩:=Aga hk;have:=G7.1 h i hi;simp only[kOk,Aec,decide_eq_true_eq,Aee,Aed hi,Ahf] at this;exact this.1
 ·rintro⟨h1,h2⟩;rw[G7];intro k hk;have:=h1 _ (Aey hk);simp only[kOk,Aec,decide_eq_true_eq,Aee,Aed hk,Ahf,Afp,beq_iff_eq];refine⟨this,?_⟩
  by_cases e:k=0
  ·exact .inl e
  ·refine .inr ?_;rw[Aed (show k - 1<ks.length by omega)];exact Ahk.1 h2 (k - 1) k (by omega) hk (by omega)
def KO.app{a b}:KO (a++b)↔KO a∧KO b∧∀x∈a,∀y∈b,Lt x y:=by
 simp only[KO,List.pairwise_append,Aej];exact⟨fun⟨h,p1,p2,p3⟩=>⟨⟨fun k hk=>h k (.inl hk),p1⟩,⟨fun k hk=>h k (.inr hk),p2⟩,p3⟩,
  fun⟨⟨a1,a2⟩,⟨b1,b2⟩,c⟩=>⟨fun k hk=>hk.elim (a1 k) (b1 k),a2,b2,c⟩⟩
def KO.cons{x b}:KO (x::b)↔(1≤x.length∧x.length≤64)∧KO b∧∀y∈b,Lt x y:=by
 simp only[KO,List.pairwise_cons,Aex];exact⟨fun⟨h,p1,p2⟩=>⟨h x (.inl Z),⟨fun k hk=>h k (.inr hk),p2⟩,p1⟩,
  fun⟨a,⟨b1,b2⟩,c⟩=>⟨fun k hk=>hk.elim (fun e=>e▸a) (b1 k),c,b2⟩⟩
def KO.nil:KO []:=⟨fun _ h=>(by cases h),List.Pairwise.nil⟩
def CC{vs}:Ba ⟨true,ks,vs,[]⟩=true↔KO ks∧vs.length=ks.length∧∀v∈vs,v.length≤16:=by
 simp only[Ba,Aec,if_true,decide_eq_true_eq,Aet,Ii,R1];exact⟨fun⟨a,⟨b,_⟩,c⟩=>⟨a,b,c⟩,fun⟨a,b,c⟩=>⟨a,⟨b,Z⟩,c⟩⟩
def Ch:Ba ⟨false,ks,[],cs⟩=true↔KO ks∧cs.length=ks.length+1∧∀c∈cs,0≤c∧c≤8191:=by
 simp only[Ba,Aec,Aeh,if_false,decide_eq_true_eq,Aet,Gt,R1];exact⟨fun⟨a,⟨_,b⟩,c⟩=>⟨a,b,c⟩,fun⟨a,b,c⟩=>⟨a,⟨Z,b⟩,c⟩⟩
def Eo(h:Ba n=true)(hl:n.leaf=true):n=⟨true,n.keys,n.vals,[]⟩:=by
 obtain⟨lf,ks,vs,cs⟩:=n;simp only at hl;subst hl;simp only[Ba,Aec,if_true,decide_eq_true_eq] at h;rw[Ael h.2.1.2]
def Eg(h:Ba n=true)(hl:n.leaf=false):n=⟨false,n.keys,[],n.kids⟩:=by
 obtain⟨lf,ks,vs,cs⟩:=n;simp only at hl;subst hl;simp only[Ba,Aec,Aeh,if_false,decide_eq_true_eq] at h;rw[Ael h.2.1.1]
def C5:List (List UInt8)→Nat
 |[]=>0
 |x::l=>x.length+C5 l
def DQ:∀a b:List (List UInt8),C5 (a++b)=C5 a+C5 b
 |[],b=>by simp[C5]
 |x::a,b=>by simp only[Afz,C5,DQ a b];omega
def Mp{l:List (List UInt8)}{k:Nat}(h:k<l.length):C5 (l.take (k+1))=C5 (l.take k)+l[k].length:=by
 rw[List.take_succ_eq_append_getElem h,DQ];simp[C5]
def size_leaf{vs}(h:vs.length=ks.length):A9 ⟨true,ks,vs,[]⟩=2+2*ks.length+C5 ks+C5 vs:=by
 have key:∀k,k≤ks.length→By ⟨true,ks,vs,[]⟩ k=2*k+C5 (ks.take k)+C5 (vs.take k):=by
  intro k;induction k with
  |zero=>intro _;simp[By,C5]
  |succ k ih=>
   intro hk
   rw[By,ih (by omega),Mp (show k<ks.length by omega),Mp (show k<vs.length by omega)]
   simp only[Eh,if_true,Dz,Fs,Aee,Aed (show k<ks.length by omega),Aed (show k<vs.length by omega),Ahf]
   omega
 have:=key ks.length (Aef _);rw[Afq,←h,Afq,h] at this;simp only[A9,if_true,this];omega
def size_inner:A9 ⟨false,ks,[],cs⟩=2+2*cs.length+ks.length+C5 ks:=by
 have key:∀k,k≤ks.length→By ⟨false,ks,[],cs⟩ k=k+C5 (ks.take k):=by
  intro k;induction k with
  |zero=>intro _;simp[By,C5]
  |succ k ih=>
   intro hk
   rw[By,ih (by omega),Mp (show k<ks.length by omega)]
   simp only[Eh,Aeh,if_false,Dz,Aee,Aed (show k<ks.length by omega),Ahf]
   omega
 have:=key ks.length (Aef _);rw[Afq] at this;simp only[A9,Aeh,if_false,this];omega
def Re{l}{n:Nat}(h:∀x∈l,x.length≤n):C5 l≤n*l.length:=by
 induction l with
 |nil=>simp[C5]
 |cons x l ih=>
  have h1:=ih (fun y hy=>h y (Aev _ hy))
  have h2:=h x (Aeo ..)
  simp only[C5,Aep,Nat.mul_succ];omega
def Zc(hs:Ba n=true)(h:256<A9 n):Dt n=true:=by
 cases hl:n.leaf with
 |true=>
  have e:=Eo hs hl
  rw[e] at hs h⊢
  obtain⟨h1,h2,h3⟩:=CC.1 hs
  rw[size_leaf h2] at h
  have k1:=Re (fun x hx=>(h1.1 x hx).2)
  have k2:=Re h3
  simp only[Dt,hs,Ahr,if_true,decide_eq_true_eq]
  omega
 |false=>
  have e:=Eg hs hl
  rw[e] at hs h⊢
  obtain⟨h1,h2,h3⟩:=Ch.1 hs
  rw[size_inner] at h
  have k1:=Re (fun x hx=>(h1.1 x hx).2)
  simp only[Dt,hs,Ahr,Aeh,if_false,decide_eq_true_eq]
  omega
def Ju{vs}(hk:KO ks)(key:List UInt8):
  (∃a b,ks=a++key::b∧findD ⟨true,ks,vs,[]⟩ key=(a.length,true)∧(∀x∈a,Lt x key)∧∀x∈b,Lt key x)∨
  (∃a b,ks=a++b∧findD ⟨true,ks,vs,[]⟩ key=(a.length,false)∧(∀x∈a,Lt x key)∧∀x∈b,Lt key x):=by
 have e:ks=ks.takeWhile (Op.bytesLess · key)++ks.dropWhile (Op.bytesLess · key):=(Aip).symm
 have h1:∀x∈ks.takeWhile (Op.bytesLess · key),Lt x key:=fun x hx=>by
  have:=List.all_takeWhile (p:=(Op.bytesLess · key)) (l:=ks);exact Aet.1 this x hx
 have hl:low ⟨true,ks,vs,[]⟩ key=(ks.takeWhile (Op.bytesLess · key)).length:=Z
 have hf:findD ⟨true,ks,vs,[]⟩ key=(low ⟨true,ks,vs,[]⟩ key,decide (low ⟨true,ks,vs,[]⟩ key<ks.length)&& decide (ks.getD (low ⟨true,ks,vs,[]⟩ key) []=key)):=Z
 rw[hf,hl]
 generalize hA:ks.takeWhile (Op.bytesLess · key)=A at*
 cases hB:ks.dropWhile (Op.bytesLess · key) with
 |nil=>
  rw[hB] at e
  refine .inr ⟨A,[],e,?_,h1,fun x hx=>(by cases hx)⟩
  rw[e];simp
 |cons y B=>
  rw[hB] at e
  have hy:¬Lt y key:=by
   have:=List.head?_dropWhile_not (Op.bytesLess · key) ks;rw[hB] at this;simpa [Lt] using this
  have hr:∀x∈B,Lt y x:=by
   rw[e] at hk;exact(KO.cons.1 (KO.app.1 hk).2.1).2.2
  have hg:(A++y::B).getD A.length []=y:=by simp
  rcases Abl hy with q|q
  ·subst q
   refine .inl ⟨A,B,e,?_,h1,hr⟩
   rw[e,hg];simp
  ·refine .inr ⟨A,y::B,e,?_,h1,fun x hx=>?_⟩
   ·rw[e,hg]
    have:y≠key:=fun h=>I3 (h▸q)
    simp[this]
   ·rcases Aex.1 hx with rfl|hx
    ·exact q
    ·exact FP q (hr x hx)
def Iv(hs:Ba ⟨false,ks,[],cs⟩=true)(key:List UInt8):
  ∃a b,ks=a++b∧findD ⟨false,ks,[],cs⟩ key=(a.length,false)∧(∀x∈a,¬Lt key x)∧∀x∈b,Lt key x:=by
 have hk:=(Ch.1 hs).1
 rw[find_eq _ _ hs]
 refine⟨ks.takeWhile (leB · key),ks.dropWhile (leB · key),(Aip).symm,Z,fun x hx=>?_,fun x hx=>?_⟩
 ·have:=Aet.1 (List.all_takeWhile (p:=(leB · key)) (l:=ks)) x hx
  simp only[leB,Afp,decide_eq_true_eq] at this
  rcases this with h|h
  ·exact K5 h
  ·rw[h];exact I3
 ·cases hB:ks.dropWhile (leB · key) with
  |nil=>rw[hB] at hx;cases hx
  |cons y B=>
   have hy:Lt key y:=by
    have:=List.head?_dropWhile_not (leB · key) ks;rw[hB] at this;simp only[leB,List.head?_cons,Bool.or_eq_false_iff,decide_eq_false_iff_not] at this;rcases Abl (a:=y) (b:=key) (by simp[Lt,this.1]) with q|q
    ·exact absurd q this.2
    ·exact q
   have hr:∀x∈B,Lt y x:=by
    rw[←Aip (p:=(leB · key)) (l:=ks),hB] at hk;exact(KO.cons.1 (KO.app.1 hk).2.1).2.2
   rw[hB] at hx
   rcases Aex.1 hx with rfl|hx
   ·exact hy
   ·exact FP hy (hr x hx)
def HS{a b}(h:∀x∈a,Lt x.1 key):Bz (a++b) key=a.length+Bz b key:=by
 induction a with
 |nil=>simp
 |cons x a ih=>
  rw[Afz,Bz,if_pos (h x (Aeo ..)),ih (fun y hy=>h y (Aev _ hy)),Aep];omega
def Jn{b}(h:∀x∈b,Lt key x.1):Bz (m++b) key=Bz m key:=by
 induction m with
 |nil=>
  cases b with
  |nil=>rfl
  |cons x b=>
   have:=K5 (h x (Aeo ..))
   show(if Op.bytesLess x.1 key=true then Bz b key+1 else 0)=0
   rw[if_neg this]
 |cons x m ih=>
  rw[Afz,Bz,Bz,ih]
def Ft{a b}(ha:∀x∈a,Lt x.1 key)(hb:∀x∈b,Lt key x.1):isK (a++m++b) key=isK m key:=by
 unfold isK;rw[Aeg,HS ha,Jn hb];have hle:=Gy m key;by_cases e:Bz m key<m.length
 ·rw[show(a++(m++b)).getD (a.length+Bz m key) ([],[])=m.getD (Bz m key) ([],[]) by simp[Ahx,Agc,Afy e]];simp[e];omega
 ·have e1:Bz m key=m.length:=by omega
  rw[e1];cases b with
  |nil=>simp
  |cons x b=>
   have hx:=hb x (Aeo ..)
   have:(a++(m++x::b)).getD (a.length+m.length) ([],[])=x:=by simp[Ahx]
   rw[this]
   have hne:x.1≠key:=fun h=>I3 (h▸hx)
   simp[hne]
def Pq{a b}(ha:∀x∈a,Lt x.1 key)(hb:∀x∈b,Lt key x.1):Cn (a++m++b) key=(a++(Cn m key).1++b,isK m key):=by
 unfold Cn;rw[Ft ha hb];by_cases h:isK m key=true
 ·have hlt:Bz m key<m.length:=by simp only[isK,Aec,decide_eq_true_eq] at h;exact h.1
  rw[if_pos h,if_pos h,h,Aeg,HS ha,Jn hb];congr 1;rw[List.take_append,Ajh,Afu (show a.length≤a.length+Bz m key by omega),Aha (show a.length≤a.length+Bz m key+1 by omega),
   show a.length+Bz m key - a.length=Bz m key by omega,show a.length+Bz m key+1 - a.length=Bz m key+1 by omega,Agy (by omega),Ahw (by omega)]
  simp
 ·rw[if_neg h,if_neg h];simp only[Agr] at h;rw[h]
def Tp{a b}(ha:∀x∈a,Lt x.1 key)(hb:∀x∈b,Lt key x.1):En (a++m++b) key=En m key:=by
 unfold En;rw[Ft ha hb];by_cases h:isK m key=true
 ·have hlt:Bz m key<m.length:=by simp only[isK,Aec,decide_eq_true_eq] at h;exact h.1
  rw[if_pos h,if_pos h,Aeg,HS ha,Jn hb];congr 2;simp[Ahx,Agc,Afy hlt]
 ·rw[if_neg h,if_neg h]
def OU{a b}(ha:∀x∈a,Lt x.1 key)(hb:∀x∈b,Lt key x.1):Em (a++m++b) key v=a++Em m key v++b:=by
 unfold Em;rw[Pq ha hb];simp only;generalize (Cn m key).1=m;have hle:=Gy m key;rw[show a++m++b=a++(m++b) from Aeg ..,HS ha,Jn hb,List.take_append,Ajh,Afu (show a.length≤a.length+Bz m key by omega),Aha (show a.length≤a.length+Bz m key by omega),
   show a.length+Bz m key - a.length=Bz m key by omega,Agy (by omega),Ahw (by omega)]
 simp
def Rn:isK [] key=false:=Z
def Aav:Em [] key v=[(key,v)]:=Z
def Kx{w}:isK [(key,w)] key=true:=by
 simp[isK,Bz,EO]
def Vy{w}:(Cn [(key,w)] key).1=[]:=by
 simp[Cn,Kx,Bz,EO]
def AaN{w}:Em [(key,w)] key v=[(key,v)]:=by
 unfold Em;rw[Vy];rfl
def AaI{w}:En [(key,w)] key=(w,true):=by
 simp[En,Kx,Bz,EO]
def Jd{x:KV}(h:x∈(Cn l key).1):x∈l:=by
 unfold Cn at h;split at h
 ·rcases Aej.1 h with q|q
  ·exact Ahy q
  ·exact Ail q
 ·exact h
def OY{x:KV}(h:x∈Em l key v):x=(key,v)∨x∈l:=by
 unfold Em at h;rcases Aej.1 h with q|q
 ·rcases Aej.1 q with q|q
  ·exact .inr (Jd (Ahy q))
  ·exact .inl (Aew.1 q)
 ·exact .inr (Jd (Ail q))
def UY:(Cn l key).1.length+(if isK l key=true then 1 else 0)=l.length:=by
 unfold Cn;by_cases h:isK l key=true
 ·have hlt:Bz l key<l.length:=by simp only[isK,Aec,decide_eq_true_eq] at h;exact h.1
  rw[if_pos h,if_pos h];simp only[Aek,Aer,Aen];omega
 ·rw[if_neg h,if_neg h];rfl
def VF:(Em l key v).length=l.length+(if isK l key=true then 0 else 1):=by
 have h1:=UY (l:=l) (key:=key);have h2:=Gy (Cn l key).1 key;unfold Em;simp only[Aek,Aer,Aen,Ahe];by_cases h:isK l key=true
 ·rw[if_pos h] at h1⊢;omega
 ·rw[if_neg h] at h1⊢;omega
structure Mv (s t:PD) (A B:List Int) (c:Nat):Prop where
 lv:∀k,Bs t k↔(Bs s k∧k∉A)∨k∈B
 nw:∀k∈B,Bs s k→k∈A
 nd:B.Nodup
 st:∀k,Bs s k→k∉A→t.kind k=s.kind k∧t.bytes k=s.bytes k
 fr:s.free≤t.free+c
 gd:Pgr.Good t
def Mv.refl(h:Pgr.Good s):Mv s s [] [] 0:=⟨fun k=>by simp,fun k hk=>(by cases hk),Ait,fun _ _ _=>⟨Z,Z⟩,Aef _,h⟩
def Mv.trans{u}{C:List Int}{c:Nat}(h:Mv s t A B c)(k:Mv t u B C c'):Mv s u A C (c+c'):=by
 have hx:∀p,Bs s p→p∉A→p∉B:=fun p h1 h2 h3=>h2 (h.nw p h3 h1);refine⟨fun p=>?_,fun p hp hs=>?_,k.nd,fun p hs hA=>?_,by have:=h.fr;have:=k.fr;omega,k.gd⟩
 ·rw[k.lv,h.lv];constructor
  ·rintro(⟨h1|h1,h2⟩|h1)
   ·exact .inl h1
   ·exact absurd h1 h2
   ·exact .inr h1
  ·rintro(h1|h1)
   ·exact .inl ⟨.inl h1,hx p h1.1 h1.2⟩
   ·exact .inr h1
 ·by_cases q:p∈A
  ·exact q
  ·exact absurd (k.nw p hp ((h.lv p).2 (.inl ⟨hs,q⟩))) (hx p hs q)
 ·obtain⟨a1,a2⟩:=h.st p hs hA;obtain⟨b1,b2⟩:=k.st p ((h.lv p).2 (.inl ⟨hs,hA⟩)) (hx p hs hA);exact⟨b1.trans a1,b2.trans a2⟩
def Mv.frame{R:List Int}{c:Nat}(h:Mv s t A B c)(h1:∀k∈R,Bs s k)(h2:R.Nodup)(h3:∀k∈R,k∉A):Mv s t (A++R) (B++R) c:=by
 refine⟨fun p=>?_,fun p hp hs=>?_,?_,fun p hs hA=>h.st p hs (fun q=>hA (Afc _ q)),h.fr,h.gd⟩
 ·rw[h.lv];simp only[Aej];constructor
  ·rintro(⟨a,b⟩|a)
   ·by_cases q:p∈R
    ·exact .inr (.inr q)
    ·exact .inl ⟨a,fun e=>e.elim b q⟩
   ·exact .inr (.inl a)
  ·rintro(⟨a,b⟩|a|a)
   ·exact .inl ⟨a,fun q=>b (.inl q)⟩
   ·exact .inr a
   ·exact .inl ⟨h1 p a,h3 p a⟩
 ·rcases Aej.1 hp with q|q
  ·exact Afc _ (h.nw p q hs)
  ·exact Afe _ q
 ·refine List.nodup_append.2 ⟨h.nd,h2,fun a ha b hb e=>?_⟩;subst e;exact h3 a hb (h.nw a ha (h1 a hb))
def Mv.perm{A' B':List Int}{c:Nat}(h:Mv s t A B c)(ha:A'.Perm A)(hb:B'.Perm B):Mv s t A' B' c:=
 ⟨fun p=>by rw[h.lv,ha.mem_iff,hb.mem_iff],fun p hp hs=>ha.mem_iff.2 (h.nw p (hb.mem_iff.1 hp) hs),hb.nodup_iff.2 h.nd,fun p hs hA=>h.st p hs (fun q=>hA (ha.mem_iff.2 q)),h.fr,h.gd⟩
def Mv.mono{c:Nat}(h:Mv s t A B c)(hc:c≤c'):Mv s t A B c':=⟨h.lv,h.nw,h.nd,h.st,by have:=h.fr;omega,h.gd⟩
def Mv.then{u}{A' B' R:List Int}{c:Nat}(h:Mv s t A B c)(k:Mv t u A' B' c')(hp:(B++R).Perm A')(h1:∀k∈R,Bs s k)(h2:R.Nodup)(h3:∀k∈R,k∉A):Mv s u (A++R) B' (c+c'):=
 (h.frame h1 h2 h3).trans (k.perm hp (Afr _))
def AaS{i:Nat}{x:Int}{fb:Nat→Sec}(hi:i<s.kinds.length):({s with kinds:=s.kinds.set i x,fb:=fb}:PD).kind k=if k=((s.frm+i:Nat):Int) then x else s.kind k:=by
 unfold PD.kind;simp only[Aff];by_cases e:k=((s.frm+i:Nat):Int)
 ·subst e;rw[if_pos (by omega),if_pos Z];show(s.kinds.set i x).getD _ 0=x;rw[Dl hi,if_pos (by omega)]
 ·rw[if_neg e];by_cases q:(s.frm:Int)≤k∧k<(s.frm:Int)+s.kinds.length
  ·rw[if_pos q,if_pos q];show(s.kinds.set i x).getD _ 0=s.kinds.getD _ 0;rw[Dl hi,if_neg (by omega)]
  ·rw[if_neg q,if_neg q]
def JL(hG:Pgr.Good s)(hk:Bs s k):(s.drop k).2=0∧Mv s (s.drop k).1 [k] [] 0:=by
 obtain⟨x,hx,i,i1,rfl,i2,i3,he⟩:∃x:Int,(x=0∨x=3)∧∃i,i<s.kinds.length∧k=((s.frm+i:Nat):Int)∧(s.kd i=1∨s.kd i=2)∧(k - s.frm).toNat=i∧s.drop k=({s with kinds:=s.kinds.set i x},0):=by
  rcases hk with hk|hk
  ·obtain⟨i,i1,i2,i3,i4⟩:=C0 hk (by omega);exact⟨0,.inl Z,i,i1,i2,.inl i3,i4,by unfold PD.drop;rw[if_pos hk,i4]⟩
  ·obtain⟨i,i1,i2,i3,i4⟩:=C0 hk (by omega);exact⟨3,.inr Z,i,i1,i2,.inr i3,i4,by unfold PD.drop;rw[if_neg (by omega),if_pos hk,i4]⟩
 have hGd:=JA hG ((s.frm+i:Nat):Int);rw[he] at hGd⊢;have hkind:∀p,({s with kinds:=s.kinds.set i x}:PD).kind p=if p=((s.frm+i:Nat):Int) then x else s.kind p:=fun p=>AaS (fb:=s.fb) i1
 refine⟨Z,fun p=>?_,fun p hp=>(by cases hp),Ait,fun p hs hp=>?_,?_,hGd⟩
 ·unfold Bs;rw[hkind];by_cases e:p=((s.frm+i:Nat):Int)
  ·subst e;rw[if_pos Z];rcases hx with rfl|rfl<;>simp
  ·rw[if_neg e];exact⟨fun h=>.inl ⟨h,fun q=>e (Aew.1 q)⟩,fun h=>h.elim And.left (fun q=>by cases q)⟩
 ·have e:p≠((s.frm+i:Nat):Int):=by simpa using hp
  have:=hkind p;rw[if_neg e] at this;refine⟨this,?_⟩
  unfold PD.bytes;rw[this]
 ·have:=O9 (s:=s) (i:=i) (x:=x) i1;rw[if_neg (by rw[←Kq i1];omega)] at this;show s.free≤(s.kinds.set i x).countP (·==0)+0;omega
def Tk.mv{l:List Int}(h:Tk s t l)(hG:Pgr.Good t):Mv s t [] l l.length:=by
 refine⟨fun p=>?_,fun p hp hs=>?_,h.nd,fun p hs _=>?_,by have:=h.free;omega,hG⟩
 ·unfold Bs;rw[h.kind];by_cases q:p∈l
  ·simp[q]
  ·simp[q]
 ·refine absurd hp (h.not ?_);rcases hs with hs|hs<;>omega
 ·have:p∉l:=h.not (by rcases hs with hs|hs<;>omega);exact⟨by rw[h.kind,if_neg this],h.bytes this⟩
def QN(hG:Pgr.Good s):(s.AV.2.2=0∧Mv s s.AV.1 [] [s.AV.2.1] 1∧s.AV.1.kind s.AV.2.1=1)∨(s.AV.2.2=190∧s.free=0):=by
 rcases (Tk.nil s).take with ⟨h1,h2⟩|⟨h1,_,h3⟩
 ·refine .inl ⟨h1,Tk.mv h2 (Fw hG),?_⟩;rw[h2.kind,if_pos (by simp)]
 ·exact .inr ⟨h1,h3⟩
def TS(hG:Pgr.Good s){b:Sec}(hk:s.kind k=1)(hb:b.length=256):(s.put k b).2=0∧Mv s (s.put k b).1 [k] [k] 0∧(s.put k b).1.bytes k=b∧(s.put k b).1.kind k=1:=by
 have hg:=I1 hG k b;have hkd:=fun p=>Us (k':=p) hk hb;have hby:=fun p=>Mh (k':=p) hk hb;refine⟨by unfold PD.put;rw[if_pos hk,if_pos hb],⟨fun p=>?_,fun p hp _=>hp,by simp,fun p hs hp=>⟨hkd p,?_⟩,?_,hg⟩,by rw[hby,if_pos Z],by rw[hkd];exact hk⟩
 ·unfold Bs;rw[hkd];by_cases e:p=k
  ·subst e;simp[hk]
  ·simp[e]
 ·rw[hby,if_neg (by simpa using hp)]
 ·rw[Jw hk hb];exact Aef _
structure At (s:PD) (k:Int) (n:AK):Prop where
 liv:Bs s k
 byt:s.bytes k=B4 n
 rgt:Bp n=true
def At.sound(h:At s k n):Ba n=true:=by have:=h.rgt;simp only[Bp,Aec] at this;exact this.1
def At.size(h:At s k n):A9 n≤256:=by have:=h.rgt;simp only[Bp,Aec,decide_eq_true_eq] at this;exact this.2
def At.read(h:At s k n):Bo s k=(n,0):=by
 unfold Bo D7 G0;rw[if_pos h.liv,h.byt,ZV h.rgt];rfl
def At.level{x:Int}(h:At s k n)(hl:n.leaf=decide (x=1)):AX s k x=(n,0):=by
 unfold AX;rw[h.read];simp[hl]
def At.stay(h:At s k n)(hs:t.kind k=s.kind k∧t.bytes k=s.bytes k):At t k n:=
 ⟨by unfold Bs;rw[hs.1];exact h.liv,by rw[hs.2];exact h.byt,h.rgt⟩
def D9(hG:Pgr.Good s)(h:Bs s k):0≤k∧k≤8191:=by
 have key:∀x:Int,0≤x→s.kind k=x→0≤k∧k≤8191:=fun x hx hk=>by
  obtain⟨i,i1,rfl, -⟩:=C0 hk hx;have:=hG.inn;have:=hG.syn;omega
 rcases h with h|h
 ·exact key 1 (by omega) h
 ·exact key 2 (by omega) h
def NB(hG:Pgr.Good s)(hr:Bp n=true):
  ((Bb s (-1) n).2.2=0∧Mv s (Bb s (-1) n).1 [] [(Bb s (-1) n).2.1] 1∧At (Bb s (-1) n).1 (Bb s (-1) n).2.1 n)∨((Bb s (-1) n).2.2=190∧s.free<1):=by
 have hg:=RI hG (k:= -1) (n:=n)
 unfold Bb at*
 rw[if_pos hr,if_neg (by omega)] at*
 rcases QN hG with ⟨h1,h2,h3⟩|⟨h1,h2⟩
 ·rw[if_neg (by omega),if_neg (by omega)] at*
  obtain⟨p1,p2,p3,p4⟩:=TS h2.gd h3 (FX hr)
  refine .inl ⟨p1,(h2.trans p2).mono (by omega),⟨.inl p4,p3,hr⟩⟩
 ·rw[if_pos (by omega)]
  exact .inr ⟨h1,by omega⟩
def YE(hG:Pgr.Good s)(hr:Bp n=true)(hk:Bs s k):
  ((Bb s k n).2.2=0∧Mv s (Bb s k n).1 [k] [(Bb s k n).2.1] 1∧At (Bb s k n).1 (Bb s k n).2.1 n)∨((Bb s k n).2.2=190∧s.free<1):=by
 have h0:=(D9 hG hk).1
 unfold Bb
 rw[if_pos hr]
 rcases hk with hk|hk
 ·obtain⟨p1,p2,p3,p4⟩:=TS hG hk (FX hr)
  rw[if_pos ⟨h0,by rw[p1];decide⟩]
  exact .inl ⟨p1,p2.mono (by omega),⟨.inl p4,p3,hr⟩⟩
 ·rw[if_neg (by unfold PD.put;rw[if_neg (by omega)];simp)]
  rcases QN hG with ⟨h1,h2,h3⟩|⟨h1,h2⟩
  ·rw[if_neg (by omega),if_pos h0]
   have hl:Bs s.AV.1 k:=(h2.lv k).2 (.inl ⟨.inr hk,by simp⟩)
   obtain⟨d1,d2⟩:=JL h2.gd hl
   rw[if_neg (by omega)]
   have hne:s.AV.2.1≠k:=fun e=>by
    have:=h2.nw s.AV.2.1 (by simp) (by rw[e];exact .inr hk);cases this
   have hl2:Bs s.AV.1 s.AV.2.1:=.inl h3
   have hk2:(s.AV.1.drop k).1.kind s.AV.2.1=1:=by rw[(d2.st _ hl2 (by simpa using hne)).1];exact h3
   obtain⟨p1,p2,p3,p4⟩:=TS d2.gd hk2 (FX hr)
   refine .inl ⟨p1,?_,⟨.inl p4,p3,hr⟩⟩
   have m1:=h2.frame (R:=[k]) (by simp;exact .inr hk) (by simp) (by simp)
   have m2:=d2.frame (R:=[s.AV.2.1]) (by simp;exact hl2) (by simp) (by simpa using hne)
   exact((m1.trans (m2.perm (by simpa using Afa _ _ _) (Afr _))).trans p2).mono (by omega)
  ·rw[if_pos (by omega)]
   exact .inr ⟨h1,by omega⟩
def Ach(hG:Pgr.Good s)(hs:Ba n=true)(hh:256<A9 n→PW n)(hk:Bs s k):
  ((Bk s k n).2.2=0∧((∃p,(Bk s k n).2.1=⟨p, -1,[],A9 n⟩∧Mv s (Bk s k n).1 [k] [p] 2∧At (Bk s k n).1 p n)∨
   (Dt n=true∧PW n∧∃p q,(Bk s k n).2.1=⟨p,q,BM n,256⟩∧0≤q∧Mv s (Bk s k n).1 [k] [p,q] 2∧At (Bk s k n).1 p (A5 n)∧At (Bk s k n).1 q (Be n))))∨
  ((Bk s k n).2.2=190∧s.free<2):=by
 unfold Bk
 by_cases hr:Bp n=true
 ·rw[if_pos hr]
  rcases YE hG hr hk with ⟨h1,h2,h3⟩|⟨h1,h2⟩
  ·exact .inl ⟨h1,.inl ⟨_,Z,h2.mono (by omega),h3⟩⟩
  ·exact .inr ⟨h1,by omega⟩
 ·have hz:256<A9 n:=by
   simp only[Bp,hs,Ahr,decide_eq_true_eq] at hr;omega
  have hc:=Zc hs hz
  have hH:=hh hz
  rw[if_neg hr,if_pos hc]
  dsimp only
  rcases YE hG hH.r1 hk with ⟨h1,h2,h3⟩|⟨h1,h2⟩
  ·rw[if_pos h1]
   rcases NB h2.gd hH.r2 with ⟨k1,k2,k3⟩|⟨k1,k2⟩
   ·refine .inl ⟨k1,.inr ⟨hc,hH,_,_,Z,(D9 k2.gd k3.liv).1,?_,?_,k3⟩⟩
    ·refine((h2.trans (k2.frame (R:=[(Bb s k (A5 n)).2.1]) (by simp;exact h3.liv) (by simp) (by simp))).perm (Afr _) ?_).mono (by omega)
     exact Afa _ _ _
    ·exact h3.stay (k2.st _ h3.liv (by simp))
   ·exact .inr ⟨k1,by have:=h2.fr;omega⟩
  ·rw[if_neg (by omega)]
   exact .inr ⟨h1,by omega⟩
def Ce(s:PD)(c v:List UInt8)(P:List Int):Prop:=(v.length≤15∧c=0::v∧P=[])∨(15<v.length∧v.length≤16384∧Gu s v P∧c=FM (P.getD 0 0) v.length)
def J1{x:Int}(_:0≤x):(bI x).toNat=(x % 256).toNat:=by
 unfold bI;rw[UInt8.toNat_ofNat'];omega
def Tv{h n:Int}:Fm (FM h n)=true:=by simp[Fm,FM]
def QM{h n:Int}:inB (FM h n)=false:=by simp[inB,FM]
def TI{h n:Int}(h0:0≤h)(h1:h<65536):((Fz (FM h n):Nat):Int)=h:=by
 unfold Fz FM;simp only[Ahd,Agx];rw[J1 (by omega),J1 h0];omega
def OE{h:Int}{n:Nat}(h1:n<4294967296):ED (FM h n)=n:=by
 unfold ED FM;simp only[Ahd,Agx];rw[J1 (by omega),J1 (by omega),J1 (by omega),J1 (by omega)];omega
def Ce.len(h:Ce s c v P):c.length≤16:=by
 rcases h with ⟨h1,rfl, -⟩|⟨-, -, -,rfl⟩
 ·simp;omega
 ·simp[FM]
def Ce.live(h:Ce s c v P):∀k∈P,Bs s k:=by
 rcases h with ⟨-, -,rfl⟩|⟨-, -,h, -⟩
 ·exact fun k hk=>by cases hk
 ·intro k hk;obtain⟨j,hj,rfl⟩:=Aga hk;exact h.live j hj
def Ce.stay(h:Ce s c v P)(hs:∀k∈P,t.kind k=s.kind k∧t.bytes k=s.bytes k):Ce t c v P:=by
 rcases h with h|⟨h1,h2,h3,h4⟩
 ·exact .inl h
 ·exact .inr ⟨h1,h2,h3.stay hs,h4⟩
def Qy(h:Gu s v P):0≤P.getD 0 0∧P.getD 0 0<65535:=by
 have h0:0<P.length:=by rw[h.len];exact RR
 rw[IH h0];exact h.rng _ (Aey h0)
def Ce.val(h:Ce s c v P):Cu s c=(v,0):=by
 unfold Cu;rcases h with ⟨h1,rfl, -⟩|⟨h1,h2,h3,rfl⟩
 ·rw[if_pos (by simp[inB])];rfl
 ·obtain⟨q1,q2⟩:=Qy h3;rw[if_neg (by rw[QM];decide),if_pos Tv,OE (by omega),TI q1 (by omega),Ol h3 h2]
def Ce.D3(h:Ce s c v P):D3 c=if 15<v.length then AP v.length else 0:=by
 unfold Tre.D3;rcases h with ⟨h1,rfl, -⟩|⟨h1,h2,h3,rfl⟩
 ·rw[if_pos (by simp[inB]),if_neg (by omega)]
 ·rw[if_neg (by rw[QM];decide),if_pos h1,OE (by omega)]
def PS:∀{l:List Int}{s},Pgr.Good s→(∀k∈l,Bs s k)→l.Nodup→(DP s l).2=0∧Mv s (DP s l).1 l [] 0
 |[],s,hG,_,_=>⟨Z,Mv.refl hG⟩
 |k::l,s,hG,hl,hn=>by
  obtain⟨n1,n2⟩:=Aht.1 hn;obtain⟨d1,d2⟩:=JL hG (hl k (Aeo ..));have hne:∀p∈l,p∉ [k]:=fun p hp q=>n1 (Aew.1 q▸hp);obtain⟨k1,k2⟩:=PS (l:=l) d2.gd (fun p hp=>(d2.lv p).2 (.inl ⟨hl p (Aev _ hp),hne p hp⟩)) n2;rw[DP,if_pos d1];refine⟨k1,?_⟩
  have:=d2.then (R:=l) k2 (Afr _) (fun p hp=>hl p (Aev _ hp)) n2 hne;exact this
def Ce.AcP(hG:Pgr.Good s)(h:Ce s c v P)(hn:P.Nodup):(BY s c).2=0∧Mv s (BY s c).1 P [] 0:=by
 have hl:=h.live;unfold BY;rcases h with ⟨h1,rfl,rfl⟩|⟨h1,h2,h3,rfl⟩
 ·rw[if_pos (by simp[inB])];exact⟨Z,Mv.refl hG⟩
 ·obtain⟨q1,q2⟩:=Qy h3;rw[if_neg (by rw[QM];decide),if_pos Tv,OE (by omega),TI q1 (by omega)];unfold D8;rw[Ol h3 h2,if_pos Z];exact PS hG hl hn
def Lw:∀(n:Nat) {s}(l:List Int),Pgr.Good s→Pgr.Good (B0 s l n).1
 |0,s,l,h=>h
 |n+1,s,l,h=>by
  rw[B0];split
  ·exact Lw n _ (Fw h)
  ·exact Fw h
def QB:∀(l:List Int) {s},Pgr.Good s→Pgr.Good (DM s l)
 |[],_,h=>h
 |k::l,_,h=>QB l (JA h k)
def Rw(h:Pgr.Good s){l:List Int}:∀i,Pgr.Good (Chn.CX s l b i)
 |0=>h
 |i+1=>I1 (Rw h i) _ _
def YO(h:Pgr.Good s):Pgr.Good (BK s b).1:=by
 have ht:Pgr.Good (Chn.Bu s (AP b.length)).1:=by
  unfold Chn.Bu;split
  ·exact Lw _ _ h
  ·exact QB _ (Lw _ _ h)
 unfold BK;dsimp only;split
 ·exact Rw ht _
 ·exact ht
def Ab8(hG:Pgr.Good s)(hv:v.length≤16384):
  ((BR s v).2.2=0∧∃P,Mv s (BR s v).1 [] P (AP v.length)∧Ce (BR s v).1 (BR s v).2.1 v P)∨((BR s v).2.2=190∧s.free<AP v.length):=by
 have hg:Pgr.Good (BR s v).1:=by
  unfold BR;split
  ·exact hG
  ·exact YO hG
 unfold BR at*
 by_cases h:v.length≤15
 ·rw[if_pos h] at*
  exact .inl ⟨Z,[],(Mv.refl hG).mono (Aez _),.inl ⟨h,Z,Z⟩⟩
 ·rw[if_neg h] at*
  by_cases hr:AP v.length≤s.free
  ·obtain⟨t,l,e,h1,h2,h3,h4,h5,h6⟩:=Zt hG hr
   rw[e] at hg⊢
   refine .inl ⟨Z,l,⟨fun p=>?_,fun p hp hs=>?_,h6,fun p hs _=>?_,(by show s.free≤t.free+_;omega),hg⟩,.inr ⟨by omega,hv,h1,Z⟩⟩
   ·by_cases q:p∈l
    ·have:=(h2 p q).1;simp[Bs,q,this]
    ·have:=(h5 p q).1;simp[Bs,q,this]
   ·have:=(h2 p hp).2
    rcases hs with hs|hs<;>omega
   ·refine h5 p (fun hp=>?_)
    have:=(h2 p hp).2
    rcases hs with hs|hs<;>omega
  ·obtain⟨t,e, -⟩:=Zl (b:=v) (show s.free<AP v.length by omega)
   rw[e]
   exact .inr ⟨Z,by omega⟩
def Lf(s:PD):List (List UInt8)→List (List UInt8)→List KV→List Int→Prop
 |[],[],l,P=>l=[]∧P=[]
 |k::ks,c::cs,l,P=>∃v l' P1 P2,l=(k,v)::l'∧P=P1++P2∧Ce s c v P1∧Lf s ks cs l' P2
 |_,_,_,_=>False
def Lf.len:∀{ks vs l}{P:List Int},Lf s ks vs l P→vs.length=ks.length∧l.length=ks.length
 |[],[],l,P,h=>by rw[Lf] at h;rw[h.1];exact⟨Z,Z⟩
 |[],_::_,l,P,h=>by rw[Lf] at h<;>simp_all
 |_::_,[],l,P,h=>by rw[Lf] at h<;>simp_all
 |k::ks,c::cs,l,P,h=>by
  rw[Lf] at h;obtain⟨v,l',P1,P2,rfl,rfl,h1,h2⟩:=h;obtain⟨a,b⟩:=h2.len;simp[a,b]
def Lf.keys:∀{ks vs l}{P:List Int},Lf s ks vs l P→ks=l.map Prod.fst
 |[],[],l,P,h=>by rw[Lf] at h;rw[h.1];rfl
 |[],_::_,l,P,h=>by rw[Lf] at h<;>simp_all
 |_::_,[],l,P,h=>by rw[Lf] at h<;>simp_all
 |k::ks,c::cs,l,P,h=>by
  rw[Lf] at h;obtain⟨v,l',P1,P2,rfl,rfl,h1,h2⟩:=h;rw[List.map_cons,←h2.keys]
def Lf.join:∀{ks vs ks' vs' l l'}{P P':List Int},Lf s ks vs l P→Lf s ks' vs' l' P'→Lf s (ks++ks') (vs++vs') (l++l') (P++P')
 |[],[],ks',vs',l,l',P,P',h,h'=>by rw[Lf] at h;obtain⟨rfl,rfl⟩:=h;exact h'
 |[],_::_,ks',vs',l,l',P,P',h,h'=>by rw[Lf] at h<;>simp_all
 |_::_,[],ks',vs',l,l',P,P',h,h'=>by rw[Lf] at h<;>simp_all
 |k::ks,c::cs,ks',vs',l,l',P,P',h,h'=>by
  rw[Lf] at h;obtain⟨v,l1,P1,P2,rfl,rfl,h1,h2⟩:=h;rw[Afz,Afz,Lf];exact⟨v,l1++l',P1,P2++P',Z,by rw[Aeg],h1,h2.join h'⟩
def Lf.split:∀{ks vs ks' vs' l}{P:List Int},Lf s (ks++ks') (vs++vs') l P→vs.length=ks.length→∃l1 l2 P1 P2,l=l1++l2∧P=P1++P2∧Lf s ks vs l1 P1∧Lf s ks' vs' l2 P2
 |[],[],ks',vs',l,P,h,_=>⟨[],l,[],P,Z,Z,⟨Z,Z⟩,h⟩
 |[],_::_,ks',vs',l,P,h,e=>by cases e
 |_::_,[],ks',vs',l,P,h,e=>by cases e
 |k::ks,c::cs,ks',vs',l,P,h,e=>by
  rw[Afz,Afz,Lf] at h;obtain⟨v,l',P1,P2,rfl,rfl,h1,h2⟩:=h;obtain⟨l1,l2,Q1,Q2,rfl,rfl,k1,k2⟩:=h2.split (by simpa using e);exact⟨(k,v)::l1,l2,P1++Q1,Q2,Z,by rw[Aeg],⟨v,l1,P1,Q1,Z,Z,h1,k1⟩,k2⟩
def Lf.stay:∀{ks vs l}{P:List Int},Lf s ks vs l P→(∀k∈P,t.kind k=s.kind k∧t.bytes k=s.bytes k)→Lf t ks vs l P
 |[],[],l,P,h,_=>by rw[Lf] at h⊢;exact h
 |[],_::_,l,P,h,_=>by rw[Lf] at h<;>simp_all
 |_::_,[],l,P,h,_=>by rw[Lf] at h<;>simp_all
 |k::ks,c::cs,l,P,h,hs=>by
  rw[Lf] at h⊢;obtain⟨v,l',P1,P2,rfl,rfl,h1,h2⟩:=h;exact⟨v,l',P1,P2,Z,Z,h1.stay (fun k hk=>hs k (Afc _ hk)),h2.stay (fun k hk=>hs k (Afe _ hk))⟩
def Lf.live:∀{ks vs l}{P:List Int},Lf s ks vs l P→∀k∈P,Bs s k
 |[],[],l,P,h=>by rw[Lf] at h;rw[h.2];exact fun k hk=>by cases hk
 |[],_::_,l,P,h=>by rw[Lf] at h<;>simp_all
 |_::_,[],l,P,h=>by rw[Lf] at h<;>simp_all
 |k::ks,c::cs,l,P,h=>by
  rw[Lf] at h;obtain⟨v,l',P1,P2,rfl,rfl,h1,h2⟩:=h;intro k hk;rcases Aej.1 hk with q|q
  ·exact h1.live k q
  ·exact h2.live k q
def Lf.one{k}(h:Ce s c v P):Lf s [k] [c] [(k,v)] P:=⟨v,[],P,[],Z,by simp,h,⟨Z,Z⟩⟩
def Lf.AcD{k}(h:Lf s [k] [c] l P):∃v,l=[(k,v)]∧Ce s c v P:=by
 rw[Lf] at h;obtain⟨v,l',P1,P2,rfl,rfl,h1,h2⟩:=h;rw[Lf] at h2;obtain⟨rfl,rfl⟩:=h2;exact⟨v,Z,by simpa using h1⟩
abbrev RT:=Int→List KV→List Int→Prop
def Kd(R:RT):List (List UInt8)→List Int→List KV→List Int→Prop
 |[],[c],l,P=>R c l P
 |k::ks,c::cs,l,P=>∃l1 l2 P1 P2,l=l1++l2∧P=P1++P2∧R c l1 P1∧(∀x∈l1,Lt x.1 k)∧(∀x∈l2,¬Lt x.1 k)∧Kd R ks cs l2 P2
 |_,_,_,_=>False
def Kd.one{R:RT}{c:Int}:Kd R [] [c] l P↔R c l P:=Iff.rfl
def Kd.cons{R:RT}{k}{c:Int}:
  Kd R (k::ks) (c::cs) l P↔∃l1 l2 P1 P2,l=l1++l2∧P=P1++P2∧R c l1 P1∧(∀x∈l1,Lt x.1 k)∧(∀x∈l2,¬Lt x.1 k)∧Kd R ks cs l2 P2:=Iff.rfl
def Kd.len{R:RT}:∀{ks}{cs:List Int}{l}{P:List Int},Kd R ks cs l P→cs.length=ks.length+1
 |[],[c],l,P,_=>rfl
 |[],[],l,P,h=>h.elim
 |[],_::_::_,l,P,h=>h.elim
 |_::_,[],l,P,h=>h.elim
 |k::ks,c::cs,l,P,h=>by
  obtain⟨l1,l2,P1,P2,rfl,rfl,h1,h2,h3,h4⟩:=Kd.cons.1 h;simp[h4.len]
def Kd.mono{R R':RT}:∀{ks}{cs:List Int}{l}{P:List Int},Kd R ks cs l P→(∀c l Q,(∀k∈Q,k∈P)→R c l Q→R' c l Q)→Kd R' ks cs l P
 |[],[c],l,P,h,hR=>hR c l P (fun _ h=>h) h
 |[],[],l,P,h,_=>h.elim
 |[],_::_::_,l,P,h,_=>h.elim
 |_::_,[],l,P,h,_=>h.elim
 |k::ks,c::cs,l,P,h,hR=>by
  obtain⟨l1,l2,P1,P2,rfl,rfl,h1,h2,h3,h4⟩:=Kd.cons.1 h;exact Kd.cons.2 ⟨l1,l2,P1,P2,Z,Z,hR _ _ _ (fun k hk=>Afc _ hk) h1,h2,h3,h4.mono (fun c l Q hQ=>hR c l Q (fun k hk=>Afe _ (hQ k hk)))⟩
def Kd.split{R:RT}:∀{ks ks' k}{cs cs':List Int}{l}{P:List Int},Kd R (ks++k::ks') (cs++cs') l P→cs.length=ks.length+1→(∀x∈ks,Lt x k)→
  ∃l1 l2 P1 P2,l=l1++l2∧P=P1++P2∧Kd R ks cs l1 P1∧Kd R ks' cs' l2 P2∧(∀x∈l1,Lt x.1 k)∧∀x∈l2,¬Lt x.1 k
 |_,_,_,[],_,_,_,_,e,_=>by cases e
 |[],ks',k,[c],cs',l,P,h,_,_=>by
  obtain⟨l1,l2,P1,P2,rfl,rfl,h1,h2,h3,h4⟩:=Kd.cons.1 h;exact⟨l1,l2,P1,P2,Z,Z,h1,h4,h2,h3⟩
 |[],_,_,_::_::_,_,_,_,_,e,_=>by simp at e
 |k0::ks,ks',k,c::cs,cs',l,P,h,e,hk=>by
  obtain⟨l1,l2,P1,P2,rfl,rfl,h1,h2,h3,h4⟩:=Kd.cons.1 h;obtain⟨m1,m2,Q1,Q2,rfl,rfl,g1,g2,g3,g4⟩:=Kd.split h4 (by simpa using e) (fun x hx=>hk x (Aev _ hx));refine⟨l1++m1,m2,P1++Q1,Q2,by rw[Aeg],by rw[Aeg],Kd.cons.2 ⟨l1,m1,P1,Q1,Z,Z,h1,h2,fun x hx=>h3 x (Afc _ hx),g1⟩,g2,fun x hx=>?_,g4⟩
  rcases Aej.1 hx with q|q
  ·exact FP (h2 x q) (hk k0 (Aeo ..))
  ·exact g3 x q
def Kd.join{R:RT}:∀{ks ks' k}{cs cs':List Int}{l l'}{P P':List Int},Kd R ks cs l P→Kd R ks' cs' l' P'→(∀x∈ks,Lt x k)→(∀x∈l,Lt x.1 k)→(∀x∈l',¬Lt x.1 k)→
  Kd R (ks++k::ks') (cs++cs') (l++l') (P++P')
 |[],ks',k,[c],cs',l,l',P,P',h,h',_,h1,h2=>Kd.cons.2 ⟨l,l',P,P',Z,Z,h,h1,h2,h'⟩
 |[],_,_,[],_,_,_,_,_,h,_,_,_,_=>h.elim
 |[],_,_,_::_::_,_,_,_,_,_,h,_,_,_,_=>h.elim
 |_::_,_,_,[],_,_,_,_,_,h,_,_,_,_=>h.elim
 |k0::ks,ks',k,c::cs,cs',l,l',P,P',h,h',hk,h1,h2=>by
  obtain⟨l1,l2,P1,P2,rfl,rfl,g1,g2,g3,g4⟩:=Kd.cons.1 h;refine Kd.cons.2 ⟨l1,l2++l',P1,P2++P',by rw[Aeg],by rw[Aeg],g1,g2,fun x hx=>?_,Kd.join g4 h' (fun x hx=>hk x (Aev _ hx)) (fun x hx=>h1 x (Afe _ hx)) h2⟩;rcases Aej.1 hx with q|q
  ·exact g3 x q
  ·exact fun e=>h2 x q (FP e (hk k0 (Aeo ..)))
def Kd.btw{R:RT}(hR:∀c l P,R c l P→l≠[]):∀{ks}{cs:List Int}{l}{P:List Int},Kd R ks cs l P→l≠[]∧∀k∈ks,(∃x∈l,Lt x.1 k)∧∃x∈l,¬Lt x.1 k
 |[],[c],l,P,h=>⟨hR c l P h,fun k hk=>by cases hk⟩
 |[],[],l,P,h=>h.elim
 |[],_::_::_,l,P,h=>h.elim
 |_::_,[],l,P,h=>h.elim
 |k0::ks,c::cs,l,P,h=>by
  obtain⟨l1,l2,P1,P2,rfl,rfl,g1,g2,g3,g4⟩:=Kd.cons.1 h;obtain⟨i1,i2⟩:=Kd.btw hR g4;obtain⟨x1,r1,e1⟩:=Ahh (hR _ _ _ g1);obtain⟨x2,r2,e2⟩:=Ahh i1;refine⟨by simp[e1],fun k hk=>?_⟩
  rcases Aex.1 hk with rfl|hk
  ·exact⟨⟨x1,by simp[e1],g2 x1 (by simp[e1])⟩,x2,by simp[e2],g3 x2 (by simp[e2])⟩
  ·obtain⟨⟨y,y1,y2⟩,z,z1,z2⟩:=i2 k hk;exact⟨⟨y,Afe _ y1,y2⟩,z,Afe _ z1,z2⟩
def KL(R:RT)(ks:List (List UInt8))(cs:List Int)(l:List KV)(P:List Int):Prop:=(ks=[]∧cs=[]∧l=[]∧P=[])∨∃ks' k,ks=ks'++[k]∧Kd R ks' cs l P∧(∀x∈l,Lt x.1 k)
def KR(R:RT)(ks:List (List UInt8))(cs:List Int)(l:List KV)(P:List Int):Prop:=(ks=[]∧cs=[]∧l=[]∧P=[])∨∃k ks',ks=k::ks'∧Kd R ks' cs l P∧(∀x∈l,¬Lt x.1 k)
def KL.mono{R R':RT}(h:KL R ks cs l P)(hR:∀c l Q,(∀k∈Q,k∈P)→R c l Q→R' c l Q):KL R' ks cs l P:=by
 rcases h with h|⟨ks',k,e,h1,h2⟩
 ·exact .inl h
 ·exact .inr ⟨ks',k,e,h1.mono hR,h2⟩
def KR.mono{R R':RT}(h:KR R ks cs l P)(hR:∀c l Q,(∀k∈Q,k∈P)→R c l Q→R' c l Q):KR R' ks cs l P:=by
 rcases h with h|⟨ks',k,e,h1,h2⟩
 ·exact .inl h
 ·exact .inr ⟨ks',k,e,h1.mono hR,h2⟩
def KL.below{R:RT}(h:KL R ks cs l P):∀x∈l,∃k∈ks,Lt x.1 k:=by
 rcases h with ⟨_,_,rfl,_⟩|⟨ks',k,rfl,h1,h2⟩
 ·exact fun x hx=>by cases hx
 ·exact fun x hx=>⟨k,by simp,h2 x hx⟩
def KR.SR{R:RT}(h:KR R ks cs l P):∀x∈l,∃k∈ks,¬Lt x.1 k:=by
 rcases h with ⟨_,_,rfl,_⟩|⟨k,ks',rfl,h1,h2⟩
 ·exact fun x hx=>by cases hx
 ·exact fun x hx=>⟨k,by simp,h2 x hx⟩
def Kd.focus{R:RT}{ka km kb}{ca cm cb:List Int}(h:Kd R (ka++km++kb) (ca++cm++cb) l P)(hk:KO (ka++km++kb))(e1:ca.length=ka.length)(e2:cm.length=km.length+1):
  ∃l1 m l2 P1 Pm P2,l=l1++m++l2∧P=P1++Pm++P2∧KL R ka ca l1 P1∧Kd R km cm m Pm∧KR R kb cb l2 P2∧(∀k∈ka,∀x∈m,¬Lt x.1 k)∧∀k∈kb,∀x∈m,Lt x.1 k:=by
 have hlen:=h.len
 simp only[Aek] at hlen
 obtain⟨hk1,hk2,hk3⟩:=KO.app.1 hk
 obtain⟨hk4,hk5,hk6⟩:=KO.app.1 hk1
 have right:∀{cm:List Int}{km l}{P:List Int},Kd R (km++kb) (cm++cb) l P→cm.length=km.length+1→KO (km++kb)→∃m l2 Pm P2,l=m++l2∧P=Pm++P2∧Kd R km cm m Pm∧KR R kb cb l2 P2∧∀k∈kb,∀x∈m,Lt x.1 k:=by
  intro cm km l P h e2 hk;cases kb with
  |nil=>
   have hl:=h.len
   simp only[Afh,Aek] at hl h
   have:cb=[]:=Ael (by omega)
   subst this
   rw[Afh] at h
   exact⟨l,[],P,[],by simp,by simp,h,.inl ⟨Z,Z,Z,Z⟩,fun k hk=>by cases hk⟩
  |cons k kb=>
   obtain⟨q1,q2,q3⟩:=KO.app.1 hk
   obtain⟨l1,l2,P1,P2,rfl,rfl,g1,g2,g3,g4⟩:=h.split e2 (fun x hx=>q3 x hx k (Aeo ..))
   refine⟨l1,l2,P1,P2,Z,Z,g1,.inr ⟨k,kb,Z,g2,g4⟩,fun k' hk' x hx=>?_⟩
   rcases Aex.1 hk' with rfl|hk'
   ·exact g3 x hx
   ·exact FP (g3 x hx) ((KO.cons.1 q2).2.2 k' hk')
 rcases List.eq_nil_or_concat ka with rfl|⟨ka',k,rfl⟩
 ·have:ca=[]:=Ael e1
  subst this
  simp only[Afi] at h hk
  obtain⟨m,l2,Pm,P2,rfl,rfl,g1,g2,g3⟩:=right h e2 hk
  exact⟨[],m,l2,[],Pm,P2,by simp,by simp,.inl ⟨Z,Z,Z,Z⟩,g1,g2,fun k hk=>(by cases hk),g3⟩
 ·have h:Kd R (ka'++k::(km++kb)) (ca++(cm++cb)) l P:=by simpa using h
  have hk:KO (ka'++k::(km++kb)):=by simpa using hk
  obtain⟨q1,q2,q3⟩:=KO.app.1 hk
  obtain⟨l1,l2,P1,P2,rfl,rfl,g1,g2,g3,g4⟩:=h.split (by simpa using e1) (fun x hx=>q3 x hx k (Aeo ..))
  obtain⟨m,l2,Pm,P2,rfl,rfl,f1,f2,f3⟩:=right g2 e2 (KO.cons.1 q2).2.1
  refine⟨l1,m,l2,P1,Pm,P2,by simp,by simp,.inr ⟨ka',k,by simp,g1,g3⟩,f1,f2,fun k' hk' x hx=>?_,f3⟩
  have hx':=g4 x (Afc _ hx)
  rcases Aej.1 (show k'∈ka'++[k] by simpa using hk') with q|q
  ·exact fun e=>hx' (FP e (q3 k' q k (Aeo ..)))
  ·rw[Aew.1 q];exact hx'
def Kd.Ka{R:RT}{ka km kb}{ca cm cb:List Int}{l1 l2}{P1 Pm P2:List Int}(h1:KL R ka ca l1 P1)(h2:Kd R km cm m Pm)(h3:KR R kb cb l2 P2)(hk:KO (ka++km++kb))
  (ha:∀k∈ka,∀x∈m,¬Lt x.1 k) (hb:∀k∈kb,∀x∈m,Lt x.1 k):Kd R (ka++km++kb) (ca++cm++cb) (l1++m++l2) (P1++Pm++P2):=by
 obtain⟨hk1,hk2,hk3⟩:=KO.app.1 hk
 obtain⟨hk4,hk5,hk6⟩:=KO.app.1 hk1
 have right:Kd R (km++kb) (cm++cb) (m++l2) (Pm++P2):=by
  rcases h3 with ⟨rfl,rfl,rfl,rfl⟩|⟨k,ks',rfl,g1,g2⟩
  ·simpa using h2
  ·exact h2.join g1 (fun x hx=>hk3 x (Afe _ hx) k (Aeo ..)) (fun x hx=>hb k (Aeo ..) x hx) g2
 rcases h1 with ⟨rfl,rfl,rfl,rfl⟩|⟨ks',k,rfl,g1,g2⟩
 ·simpa using right
 ·have hl2:∀x∈l2,¬Lt x.1 k:=fun x hx=>by
   obtain⟨k',q1,q2⟩:=h3.SR x hx;exact fun e=>q2 (FP e (hk3 k (by simp) k' q1))
  have:=g1.join right (k:=k) (fun x hx=>(KO.app.1 hk4).2.2 x hx k (by simp)) g2 (fun x hx=>(Aej.1 hx).elim (ha k (by simp) x) (hl2 x))
  simpa using this
variable{R:RT}
def Nd(s:PD)(R:RT)(lf:Bool)(n:AK)(l:List KV)(Q:List Int):Prop:=n.leaf=lf∧if lf=true then Lf s n.keys n.vals l Q else Kd R n.keys n.kids l Q
def Tr(s:PD):Nat→RT
 |0,_,_,_=>False
 |h+1,k,l,P=>∃n Q,At s k n∧n.keys≠[]∧P=k::Q∧Nd s (Tr s h) (decide (h=0)) n l Q
def Nd.leaf(h:Nd s R true n l Q):n.leaf=true∧Lf s n.keys n.vals l Q:=by
 obtain⟨h1,h2⟩:=h;rw[if_pos Z] at h2;exact⟨h1,h2⟩
def Nd.inner(h:Nd s R false n l Q):n.leaf=false∧Kd R n.keys n.kids l Q:=by
 obtain⟨h1,h2⟩:=h;rw[if_neg (by decide)] at h2;exact⟨h1,h2⟩
def Nd.mkl(h1:n.leaf=true)(h2:Lf s n.keys n.vals l Q):Nd s R true n l Q:=⟨h1,by rw[if_pos Z];exact h2⟩
def Nd.mki(h1:n.leaf=false)(h2:Kd R n.keys n.kids l Q):Nd s R false n l Q:=⟨h1,by rw[if_neg (by decide)];exact h2⟩
def Kd.all{S:Int→Prop}(hR:∀c l P,R c l P→∀p∈P,S p):∀{ks}{cs:List Int}{l}{P:List Int},Kd R ks cs l P→∀p∈P,S p
 |[],[c],l,P,h=>hR c l P h
 |[],[],l,P,h=>h.elim
 |[],_::_::_,l,P,h=>h.elim
 |_::_,[],l,P,h=>h.elim
 |k::ks,c::cs,l,P,h=>by
  obtain⟨l1,l2,P1,P2,rfl,rfl,h1,h2,h3,h4⟩:=Kd.cons.1 h;intro p hp;exact(Aej.1 hp).elim (hR _ _ _ h1 p) (Kd.all hR h4 p)
def Tr.live:∀{h:Nat}{k:Int}{l}{P:List Int},Tr s h k l P→∀p∈P,Bs s p
 |0,k,l,P,h=>h.elim
 |h+1,k,l,P,⟨n,Q,h1,h2,e,h3⟩=>by
  subst e;intro p hp;rcases Aex.1 hp with rfl|hp
  ·exact h1.liv
  ·by_cases e:h=0
   ·rw[decide_eq_true e] at h3;exact h3.leaf.2.live p hp
   ·rw[decide_eq_false e] at h3;exact Kd.all (fun c l P q=>Tr.live q) h3.inner.2 p hp
def Nd.live(h3:Nd s (Tr s h) lf n l Q):∀p∈Q,Bs s p:=by
 cases lf with
 |true=>exact h3.leaf.2.live
 |false=>exact Kd.all (fun c l P q=>Tr.live q) h3.inner.2
def Tr.ne:∀{h:Nat}{k:Int}{l}{P:List Int},Tr s h k l P→l≠[]
 |0,k,l,P,h=>h.elim
 |h+1,k,l,P,⟨n,Q,h1,h2,e,h3⟩=>by
  by_cases e:h=0
  ·rw[decide_eq_true e] at h3;have:=h3.leaf.2.len.2;intro q;rw[q] at this;exact h2 (Ael this.symm)
  ·rw[decide_eq_false e] at h3;exact(Kd.btw (fun c l P q=>Tr.ne q) h3.inner.2).1
def FN(s t:PD)(P:List Int):Prop:=∀p∈P,t.kind p=s.kind p∧t.bytes p=s.bytes p
def Nd.mono{R':RT}(h:Nd s R lf n l Q)(hs:FN s t Q)(hR:∀c l P,(∀p∈P,p∈Q)→R c l P→R' c l P):Nd t R' lf n l Q:=by
 cases lf with
 |true=>exact .mkl h.leaf.1 (h.leaf.2.stay hs)
 |false=>exact .mki h.inner.1 (h.inner.2.mono hR)
def Tr.stay:∀{h:Nat}{k:Int}{l}{P:List Int},Tr s h k l P→FN s t P→Tr t h k l P
 |0,k,l,P,h,_=>h.elim
 |h+1,k,l,P,⟨n,Q,h1,h2,e,h3⟩,hs=>by
  subst e;exact⟨n,Q,h1.stay (hs k (Aeo ..)),h2,Z,h3.mono (fun p hp=>hs p (Aev _ hp)) (fun c l P hP q=>q.stay (fun p hp=>hs p (Aev _ (hP p hp))))⟩
def Nd.stay(h3:Nd s (Tr s h) lf n l Q)(hs:FN s t Q):Nd t (Tr t h) lf n l Q:=
 h3.mono hs (fun _ _ _ hP q=>q.stay (fun p hp=>hs p (hP p hp)))
def KL.stay(h3:KL (Tr s h) ks cs l Q)(hs:FN s t Q):KL (Tr t h) ks cs l Q:=
 h3.mono (fun _ _ _ hP q=>q.stay (fun p hp=>hs p (hP p hp)))
def KR.stay(h3:KR (Tr s h) ks cs l Q)(hs:FN s t Q):KR (Tr t h) ks cs l Q:=
 h3.mono (fun _ _ _ hP q=>q.stay (fun p hp=>hs p (hP p hp)))
def Mv.same{c:Nat}(h:Mv s t A B c)(h1:∀p∈Q,Bs s p)(h2:∀p∈Q,p∉A):FN s t Q:=fun p hp=>h.st p (h1 p hp) (h2 p hp)
def Nd.join(hR:∀c l P,R c l P→l≠[]){a b:AK}{l1 l2}{Q1 Q2:List Int}(ha:Nd s R lf a l1 Q1)(hb:Nd s R lf b l2 Q2)(sa:Ba a=true)(sb:Ba b=true)
  (h1:∀x∈l1,Lt x.1 key) (h2:∀x∈l2,¬Lt x.1 key) (hk:1≤key.length∧key.length≤64):
  Nd s R lf (Cs a b key) (l1++l2) (Q1++Q2)∧Ba (Cs a b key)=true∧A9 (Cs a b key)+2≤A9 a+A9 b+(if lf=true then 0 else 65)∧(Cs a b key).leaf=lf∧
  ((Cs a b key).keys=[]→lf=true∧a.keys=[]∧b.keys=[]):=by
 cases lf with
 |true=>
  obtain⟨a1,a2⟩:=ha.leaf
  obtain⟨b1,b2⟩:=hb.leaf
  have ea:=Eo sa a1
  have eb:=Eo sb b1
  have ka:=a2.keys
  have kb:=b2.keys
  have e:Cs a b key=⟨true,a.keys++b.keys,a.vals++b.vals,[]⟩:=by unfold Cs;rw[if_pos a1]
  rw[ea] at sa
  rw[eb] at sb
  obtain⟨s1,s2,s3⟩:=CC.1 sa
  obtain⟨t1,t2,t3⟩:=CC.1 sb
  have hso:Ba ⟨true,a.keys++b.keys,a.vals++b.vals,[]⟩=true:=by
   refine CC.2 ⟨KO.app.2 ⟨s1,t1,fun x hx y hy=>?_⟩,by simp[s2,t2],fun v hv=>(Aej.1 hv).elim (s3 v) (t3 v)⟩;rw[ka] at hx;rw[kb] at hy;obtain⟨x',hx',rfl⟩:=Aid.1 hx;obtain⟨y',hy',rfl⟩:=Aid.1 hy;exact HG (h1 x' hx') (h2 y' hy')
  rw[e]
  refine⟨.mkl Z (a2.join b2),hso,?_,Z,fun q=>⟨Z,List.append_eq_nil_iff.1 q⟩⟩
  have za:=(congrArg A9 ea).trans (size_leaf s2)
  have zb:=(congrArg A9 eb).trans (size_leaf t2)
  rw[za,zb,size_leaf (by simp[s2,t2]),DQ,DQ,Aek,if_pos Z]
  omega
 |false=>
  obtain⟨a1,a2⟩:=ha.inner
  obtain⟨b1,b2⟩:=hb.inner
  have ea:=Eg sa a1
  have eb:=Eg sb b1
  have e:Cs a b key=⟨false,a.keys++[key]++b.keys,[],a.kids++b.kids⟩:=by unfold Cs;rw[if_neg (by rw[a1];decide)]
  have ka:=(Kd.btw hR a2).2
  have kb:=(Kd.btw hR b2).2
  rw[ea] at sa
  rw[eb] at sb
  obtain⟨s1,s2,s3⟩:=Ch.1 sa
  obtain⟨t1,t2,t3⟩:=Ch.1 sb
  have ka':∀k∈a.keys,Lt k key:=fun k q=>by
   obtain⟨-,x,x1,x2⟩:=ka k q;exact NH x2 (h1 x x1)
  have kb':∀k∈b.keys,Lt key k:=fun k q=>by
   obtain⟨⟨x,x1,x2⟩, -⟩:=kb k q;exact NH (h2 x x1) x2
  have hso:Ba ⟨false,a.keys++[key]++b.keys,[],a.kids++b.kids⟩=true:=by
   refine Ch.2 ⟨?_,by simp[s2,t2];omega,fun v hv=>(Aej.1 hv).elim (s3 v) (t3 v)⟩;rw[Aeg];refine KO.app.2 ⟨s1,KO.cons.2 ⟨hk,t1,kb'⟩,fun x hx y hy=>?_⟩;rcases Aex.1 hy with rfl|hy
   ·exact ka' x hx
   ·exact FP (ka' x hx) (kb' y hy)
  rw[e]
  refine⟨.mki Z ?_,hso,?_,Z,fun q=>by simp at q⟩
  ·show Kd R (a.keys++[key]++b.keys) (a.kids++b.kids) _ _
   rw[Aeg]
   exact a2.join b2 ka' h1 h2
  ·have za:=(congrArg A9 ea).trans size_inner
   have zb:=(congrArg A9 eb).trans size_inner
   rw[za,zb,size_inner,DQ,DQ,Aek,Aek,Aek,if_neg (by decide)]
   simp only[C5,Ahe]
   omega
def VO(hc:Dt n=true):(A5 n).leaf=n.leaf:=by
 unfold A5;rw[if_pos hc];cases h:n.leaf<;>simp
def V0(hc:Dt n=true):(Be n).leaf=n.leaf:=by
 unfold Be;rw[if_pos hc];cases h:n.leaf<;>simp
def XE(hc:Dt n=true):BM n∈n.keys:=by
 obtain⟨h1, -⟩:=ON n;unfold BM;rw[if_pos hc];simp only[Dt,Aec,decide_eq_true_eq] at hc;have hm:=hc.2;have:(if n.leaf=true then atD n else at2 n - 1)<n.keys.length:=by
  cases hl:n.leaf with
  |true=>rw[hl] at hm;simp only[if_true] at hm⊢;omega
  |false=>rw[hl] at hm;simp only[Aeh,if_false,at2] at hm⊢;omega
 rw[Aee,Aed this];exact Aey this
def Oc(h:Bp n=true):Ba n=true:=by simp only[Bp,Aec] at h;exact h.1
def Nd.split(hn:Nd s R lf n l Q)(hs:Ba n=true)(hc:Dt n=true)(hH:PW n):
  ∃l1 l2 Q1 Q2,l=l1++l2∧Q=Q1++Q2∧Nd s R lf (A5 n) l1 Q1∧Nd s R lf (Be n) l2 Q2∧(∀x∈l1,Lt x.1 (BM n))∧(∀x∈l2,¬Lt x.1 (BM n))∧1≤(BM n).length∧(BM n).length≤64:=by
 have hkm:=XE hc
 have eL:=VO hc
 have eR:=V0 hc
 have sL:=Oc hH.r1
 have sR:=Oc hH.r2
 have hall:=hH.all
 have hlo:∀k∈(A5 n).keys,Lt k (BM n):=fun k hk=>by
  obtain⟨i,hi,rfl⟩:=Aga hk;exact hH.lo i hi
 have hhi:∀k∈(Be n).keys,¬Lt k (BM n):=fun k hk=>by
  obtain⟨i,hi,rfl⟩:=Aga hk;rcases hH.hi i hi with q|⟨q,_⟩
  ·exact K5 q
  ·rw[q];exact I3
 cases lf with
 |true=>
  obtain⟨n1,n2⟩:=hn.leaf
  have ho:1≤(BM n).length∧(BM n).length≤64:=by
   rw[Eo hs n1] at hs;exact(CC.1 hs).1.1 _ hkm
  rw[n1] at eL eR
  unfold Cs at hall
  rw[if_pos eL] at hall
  have k1:(A5 n).keys++(Be n).keys=n.keys:=congrArg AK.keys hall
  have k2:(A5 n).vals++(Be n).vals=n.vals:=congrArg AK.vals hall
  rw[←k1,←k2] at n2
  have hL:(A5 n).vals.length=(A5 n).keys.length:=by
   rw[Eo sL eL] at sL;exact(CC.1 sL).2.1
  obtain⟨l1,l2,Q1,Q2,rfl,rfl,g1,g2⟩:=n2.split hL
  refine⟨l1,l2,Q1,Q2,Z,Z,.mkl eL g1,.mkl eR g2,fun x hx=>hlo _ ?_,fun x hx=>hhi _ ?_,ho⟩
  ·rw[g1.keys];exact Agl hx
  ·rw[g2.keys];exact Agl hx
 |false=>
  obtain⟨n1,n2⟩:=hn.inner
  have ho:1≤(BM n).length∧(BM n).length≤64:=by
   rw[Eg hs n1] at hs;exact(Ch.1 hs).1.1 _ hkm
  rw[n1] at eL eR
  unfold Cs at hall
  rw[if_neg (by rw[eL];decide)] at hall
  have k1:(A5 n).keys++[BM n]++(Be n).keys=n.keys:=congrArg AK.keys hall
  have k2:(A5 n).kids++(Be n).kids=n.kids:=congrArg AK.kids hall
  rw[←k1,←k2,Aeg] at n2
  have hL:(A5 n).kids.length=(A5 n).keys.length+1:=by
   rw[Eg sL eL] at sL;exact(Ch.1 sL).2.1
  obtain⟨l1,l2,Q1,Q2,rfl,rfl,g1,g2,g3,g4⟩:=Kd.split n2 hL hlo
  exact⟨l1,l2,Q1,Q2,Z,Z,.mki eL g1,.mki eR g2,g3,g4,ho⟩
def Out(s:PD)(h z:Nat)(m:MdD)(l:List KV)(P:List Int):Prop:=
 (m.other<0∧∃n Q,At s m.page n∧m.size=A9 n∧P=m.page::Q∧z≤n.keys.length∧Nd s (Tr s h) (decide (h=0)) n l Q)∨
 (0≤m.other∧m.size=256∧∃l1 l2 P1 P2,l=l1++l2∧P=P1++P2∧Tr s (h+1) m.page l1 P1∧Tr s (h+1) m.other l2 P2∧(∀x∈l1,Lt x.1 m.key)∧(∀x∈l2,¬Lt x.1 m.key)∧1≤m.key.length∧m.key.length≤64)
def Out.stay{m:MdD}(o:Out s h z m l P)(hs:FN s t P):Out t h z m l P:=by
 rcases o with ⟨h1,n,Q,h2,h3,rfl,h4,h5⟩|⟨h1,h2,l1,l2,P1,P2,rfl,rfl,h3,h4,h5⟩
 ·exact .inl ⟨h1,n,Q,h2.stay (hs _ (Aeo ..)),h3,Z,h4,h5.stay (fun p hp=>hs p (Aev _ hp))⟩
 ·exact .inr ⟨h1,h2,l1,l2,P1,P2,Z,Z,h3.stay (fun p hp=>hs p (Afc _ hp)),h4.stay (fun p hp=>hs p (Afe _ hp)),h5⟩
def Out.live{m:MdD}(o:Out s h z m l P):∀p∈P,Bs s p:=by
 rcases o with ⟨h1,n,Q,h2,h3,rfl,h4,h5⟩|⟨h1,h2,l1,l2,P1,P2,rfl,rfl,h3,h4,h5⟩
 ·intro p hp;rcases Aex.1 hp with rfl|hp
  ·exact h2.liv
  ·exact h5.live p hp
 ·exact fun p hp=>(Aej.1 hp).elim (h3.live p) (h4.live p)
def Out.tr{m:MdD}(o:Out s h z m l P)(h1:m.other<0)(hz:1≤z):Tr s (h+1) m.page l P:=by
 rcases o with ⟨h1,n,Q,h2,h3,rfl,h4,h5⟩|⟨h2,_⟩
 ·exact⟨n,Q,h2,fun e=>by rw[e] at h4;simp at h4;omega,Z,h5⟩
 ·omega
def F0{α}{l:List α}:l≠[]↔1≤l.length:=by cases l<;>simp
def GC(hG:Pgr.Good s)(hn:Nd s (Tr s h) (decide (h=0)) n l Q)(hs:Ba n=true)(hh:A9 n≤if n.leaf=true then 340 else 440)(hk:Bs s k)(hz:z≤n.keys.length)
  (hnd:(k::Q).Nodup):
  ((Bk s k n).2.2=0∧∃P',Mv s (Bk s k n).1 (k::Q) P' 2∧Out (Bk s k n).1 h z (Bk s k n).2.1 l P')∨((Bk s k n).2.2=190∧s.free<2):=by
 obtain⟨hkQ,hQ⟩:=Aht.1 hnd
 have hl:=hn.live
 have hkq:∀p∈Q,p∉ [k]:=fun p hp q=>hkQ (Aew.1 q▸hp)
 rcases Ach hG hs (fun hz=>Ab7 hh (Zc hs hz)) hk with ⟨h1,⟨p,e,h2,h3⟩|⟨hc,hH,p,q,e,h0,h2,h3,h4⟩⟩|h1
 ·refine .inl ⟨h1,p::Q,h2.frame hl hQ hkq,.inl ?_⟩
  rw[e]
  exact⟨(by show(-1:Int)<0;decide),n,Q,h3,Z,Z,hz,hn.stay (h2.same hl hkq)⟩
 ·obtain⟨l1,l2,Q1,Q2,rfl,rfl,g1,g2,g3,g4,g5⟩:=(hn.stay (h2.same hl hkq)).split hs hc hH
  refine .inl ⟨h1,(p::Q1)++(q::Q2),(h2.frame hl hQ hkq).perm (Afr _) ?_,.inr ?_⟩
  ·refine List.perm_iff_count.2 fun a=>?_
   simp only[List.count_append,List.count_cons,List.count_nil];omega
  ·rw[e]
   exact⟨h0,Z,l1,l2,_,_,Z,Z,⟨_,Q1,h3,F0.2 hH.n1,Z,g1⟩,⟨_,Q2,h4,F0.2 hH.n2,Z,g2⟩,g3,g4,g5⟩
 ·exact .inr h1
end Go.Gk.Tre
end
