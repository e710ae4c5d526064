/-
  Our own texts, one behind the other: GkE0 GkE1 GkC0 GkC4 GkPg0 GkE2 GkC1 GkC2 GkC3 GkCl GkPg1 GkPg2 GkPg3 GkPg4 GkPg5 GkC5 GkPg6 GkPg7 GkPg8 GkPgL GkPgM Gk28 Gk29 Gk40 GkH1 GkH2 GkH3 GkH4 GkH5 GkHD GkNode1 GkNode2 GkNode3 GkNode4 GkNode5 GkNode6 GkNode7 GkNode8 GkNodeA GkNodeB GkNodeC GkNodeD GkNodeE GkNodeF GkNodeH GkNodeI GkNodeJ GkNodeK GkNodeG GkNodeL GkNodeM GkNodeO Gk42 GkIns GkTr0 GkTr1 Gk43 GkTr2 GkHL GkHM GkHN GkHO GkTr3 GkTr4 GkTr5 GkTrS GkTr6 GkTr7 GkTrF GkTr8 GkTrG GkTr9 Gk41 GkTrK GkTrL Gk44 GkTrM GkTrN GkTrQ GkTrP GkTrR Gk20 Gk25 Gk45 GkTrT GkH6 GkH7 GkH8 GkTU GkBN.
-/
import Derived.Recover
import Derived.BigFrame
import Derived.Below
import Derived.Shelf.Unicode.DecodeSlow
import Derived.Shelf.Sort.Plain
import Derived.Shelf.Slices.In.SortNone
import Derived.Test.YteekdjalpmjdhaaGreatPnB
set_option linter.defProp false
set_option linter.unusedVariables false
set_option linter.unusedSimpArgs false
open List renaming getElem?_eq_getElem→Mt,getD_eq_getElem?_getD→Mu,replicate→Mv,mem_append→Mw,range→Mz,length_append→MH,perm_append_comm→MJ,mem_cons_self→MN,mem_cons→MO,getElem?_eq_none→MP,length_replicate→MQ,sublist_cons_self→MU,getElem_mem→MV,length_take→MW,mem_cons_of_mem→MX,mem_singleton→MY,length_set→M0,drop_eq_getElem_cons→M5,set_eq_of_length_le→M7,append_nil→M9,nil_sublist→Nc,mem_range→Nf,getElem?_map→Nt,ext_getElem?→Nu,mem_append_left→Nv,getElem_of_mem→Nx
open Bool renaming false_eq_true→ME
open Nat renaming le_of_ble_eq_true→Ms,mul_le_mul_right→MF,le_refl→MR,add_mul→MT,mod_lt→Ni,one_mul→Nk,not_lt_zero→Ns,mod_eq_of_lt→Nw
open List.Perm renaming cons→My,swap→ML
open List.Sublist renaming refl→MC
section
namespace Go.Gk
open Go
def IA:List Value:=Mv 256 (.int .u8 0)
def JE:IA.length=256:=MQ
def IX{l cs}(h:l.length=cs.length):patch l 0 cs=cs:=by simp[patch,h]
section
variable {P:Program}{pan:List PanicEntry→Ah}{Qn:Env→Ah}{Ls L:List Aa}{ρ:Env}{d:Aa}{s:GS}{t:Nat}{tk:Bool}
def Lr{l}(h:∀b T,gws P pan Qn s Ls (upd ρ t (pZ b)) d (bx b T l::L)):
  gws P pan Qn (.op false ⟨some t,none,.alo (.agg l.toArray)⟩ s) Ls ρ d L:=LU h
def Mf{n:Nat}{x y}{b:Nat}{T l cs}(i:Nat)(hi:L[i]?=some (bx b T l))(ex:ev ρ x=pZ b)(ey:ev ρ y=.agg cs.toArray)(hn:cs.length=n)(hl:l.length=n)(h1:(cs.all (·.oneCell'))=true)
  (h:gws P pan Qn s Ls ρ d (L.set i (bx b T cs))):gws P pan Qn (.op false ⟨none,none,.st n x y⟩ s) Ls ρ d L:=
 Ln (v:=.agg cs.toArray) i hi ex ey (by simpa [Value.cells] using hn) (by omega) (by simpa [Value.cells] using h1) (by
  have:patch l 0 (Value.agg cs.toArray).cells.toList=cs:=by simp only[Value.cells];exact IX (by omega)
  rw[this];exact h)
def Mb{x}{n b o:Nat}{T l}(cs:List Value)(i:Nat)(e:ev ρ x=.pointer (some ⟨b,o,none⟩))(hi:(lk tk Ls L)[i]?=some (bx b T l))(hn:cs.length=n)(hc:∀j u,cs[j]?=some u→l[o+j]?=some u)
  (h:gws P pan Qn s Ls (upd ρ t (.agg cs.toArray)) d L):gws P pan Qn (.op tk ⟨some t,none,.ld (some n) x⟩ s) Ls ρ d L:=
 w_q rfl ⟨b,o,cs,e,hn,fun j u hu=>A5 i hi (hc j u hu),rfl⟩ h
def C8{x i}{sz b n c:Nat}{k}{j:Int}(m:Nat)(ex:ev ρ x=.slice (some ⟨b,0,none⟩) n c)(ei:ev ρ i=.int k j)(hm:j=(m:Int))(hl:m<n)
  (h:gws P pan Qn s Ls (upd ρ t (.pointer (some ⟨b,m*sz,none⟩))) d L):gws P pan Qn (.op tk ⟨some t,none,.idx sz x i⟩ s) Ls ρ d L:=
 Kn (o:=0) m ex ei hm hl (SAd.some n b 0) (by rw[Nat.zero_add];exact h)
end
def Ai.at{α}{sz:Nat}{R d v}{xs:List α}{h}(hsz:0<sz)(o:Ai sz R d v xs h){m:Nat}(hm:m<xs.length):
  ∃b T l c cs,v=.slice (some ⟨b,0,none⟩) xs.length c∧h=bx b T l∧cs.length=sz∧(∀j u,cs[j]?=some u→l[m*sz+j]?=some u)∧m*sz+sz≤l.length∧R d cs xs[m]∧
   ∀cs' x,cs'.length=sz→R d cs' x→Ai sz R d v (xs.set m x) (bx b T (patch l (m*sz) cs')):=by
 obtain⟨b,T,l,c,e1,e2,e3,e4⟩:=o.LX hsz hm
 obtain⟨cs,⟨h1,h2,⟨q1,h0,q2⟩|⟨b',T',l',c',q1,q2,h3,h4,h5,h6⟩⟩,hr⟩:=o
 ·omega
 ·have hmz:m*sz+sz≤xs.length*sz:=by have:=MF sz (show m+1≤xs.length from hm);rwa [MT,Nk] at this
  have hbl:l'.toArray=l.toArray∧b'=b:=by
   rw[e2] at q2;have:=(congrFun (congrFun q2 b) (.cells l.toArray T (0,0))).mp (AY _ _);obtain⟨z1,z2⟩:=DF this;injection z2 with z3
   exact⟨z3.symm,z1.symm⟩
  have hl':l'=l:=by simpa using hbl.1
  subst hl'
  refine⟨b,T,l',c,chunk cs m sz,e1,e2,?_,fun j u hu=>?_,e3,hr m hm,e4⟩
  ·exact Gq h1 hm
  ·rw[Ds] at hu
   split at hu
   ·rename_i hj
    rw[←h6,List.getElem?_take] at hu
    split at hu
    ·exact hu
    ·cases hu
   ·cases hu
def Ai.zero{α:Type}{sz:Nat}{R:Aa→List Value→α→Prop}{d:Aa}{b n:Nat}{T:TypeId}{z:List Value}{x:α}(hz:z.length=sz)(_:0<sz)(hx:R d z x)(hn:n≤140737488355328):
  Ai sz R d (.slice (some ⟨b,0,none⟩) n n) (Mv n x) (bx b T (Aw z (n*sz))):=by
 refine Ai.lit (by simp) (by simp[Aw]) (by simpa using hn) (fun i hi=>?_)
 have hin:i<n:=by simpa using hi
 have:chunk (Aw z (n*sz)) i sz=z:=by
  refine Nu fun k=>?_;rw[Ds];by_cases hk:k<sz
  ·have h1:(i+1)*sz≤n*sz:=MF sz hin;rw[MT,Nk] at h1;rw[if_pos hk,Aw,Nt,List.getElem?_range (by omega),Option.map_some,hz,show i*sz+k=k+sz*i by rw[Nat.mul_comm];omega,Nat.add_mul_mod_self_left,Nw hk];rw[Mu,Mt (by omega)];simp
  ·rw[if_neg hk,MP (by omega)]
 rw[this]
 simpa using hx
end Go.Gk
namespace Go.Gk
open Go
def Cv(P:Program)(f:FuncId)(args:List Value)(d:Aa)(L:List Aa)(v:Value):Prop:=Aj P f args d L (Ret fun r d' L'=>r=v∧d'=d∧L'=L)
section
variable {P:Program}{pan:List PanicEntry→Ah}{Qn:Env→Ah}{Ls L:List Aa}{ρ:Env}{d:Aa}{s:GS}{t:Nat}
def Hb{f args vs v A B}(hL:L=A++B)(ea:args.map (ev ρ)=vs)(hc:Cv P f vs d A v)(h:gws P pan Qn s Ls (upd ρ t v) d L):
  gws P pan Qn (.op false ⟨some t,none,.call f args⟩ s) Ls ρ d L:=
 C4 hL ea hc (fun r d' L' _ ⟨h1,h2,h3⟩=>by subst h1;subst h2;subst h3;rw[←hL];exact h)
def FV{v L1}(e:ρ t=v)(hs:L1.Sublist L):Bq [.tmp t] (Ret fun r d' L'=>r=v∧d'=d∧L'=L1) ρ d L:=FZ e hs ⟨rfl,rfl,rfl⟩
end
end Go.Gk
namespace Go.Gk
open Go
end Go.Gk
namespace Go.Gk
open Go
section
variable {P:Program}{pan:List PanicEntry→Ah}{Qn:Env→Ah}{Ls L:List Aa}{ρ:Env}{d:Aa}{s:GS}{t:Nat}
def HE{f args R vs A B}(hp:L.Perm (A++B))(ea:args.map (ev ρ)=vs)(hc:Aj P f vs d A (Ret R))
  (h:∀v d' L',Le d d'→R v d' L'→∃d2 L2,Vs d' (L'++B) d2 L2∧gws P pan Qn s Ls (upd ρ t v) d2 L2):gws P pan Qn (.op false ⟨some t,none,.call f args⟩ s) Ls ρ d L:=by
 refine Dz d (A++B) (Vs.perm hp) ⟨d,A++B,Vs.refl d _,.inl ⟨A,B,Ret R,rfl,by rw[ea];exact hc,fun e d' L' hl hr=>?_⟩⟩
 cases e with
 |returned v=>exact h v d' L' hl hr
 |panicked c=>exact hr.elim
 |outgrown=>exact hr
def KB{f args R vs A B}(hc:Aj P f vs d A (Ret R))(hp:L.Perm (A++B))(ea:args.map (ev ρ)=vs)
  (h:∀v d' L',Le d d'→R v d' L'→∃d2 L2,Vs d' (L'++B) d2 L2∧gws P pan Qn s Ls (upd ρ t v) d2 L2):gws P pan Qn (.op false ⟨some t,none,.call f args⟩ s) Ls ρ d L:=HE hp ea hc h
def Bw{f args R vs}(hc:Aj P f vs d L (Ret R))(ea:args.map (ev ρ)=vs)
  (h:∀v d' L',Le d d'→R v d' L'→gws P pan Qn s Ls (upd ρ t v) d' L'):gws P pan Qn (.op false ⟨some t,none,.call f args⟩ s) Ls ρ d L:=
 C4 (B:=[]) (M9 _).symm ea hc (fun v d' L' hl hr=>by rw[M9];exact h v d' L' hl hr)
def HB{f args vs v A B}(hp:L.Perm (A++B))(ea:args.map (ev ρ)=vs)(hc:Cv P f vs d A v)(h:gws P pan Qn s Ls (upd ρ t v) d L):
  gws P pan Qn (.op false ⟨some t,none,.call f args⟩ s) Ls ρ d L:=
 HE hp ea hc (fun r d' L' _ ⟨h1,h2,h3⟩=>by subst h1;subst h2;subst h3;exact⟨d',L,Vs.perm hp.symm,h⟩)
end
end Go.Gk
namespace Go.Gk
open Go
section
variable {P:Program}{pan:List PanicEntry→Ah}{Qn:Env→Ah}{Ls L:List Aa}{ρ:Env}{d:Aa}{s:GS}{t:Nat}
def Ki{by_:Nat}{x k}{n:Nat}(ex:ev ρ x=.int k (n:Nat))(h1:by_*n+112≤281474976710656)(h2:n<9223372036854775808)
  (h:∀b,gws P pan Qn s Ls (upd ρ t (.chan (some b))) d (sg b (.chan n #[] false 0 0 false)::L)):gws P pan Qn (.op false ⟨some t,none,.mop (.mkc by_ x)⟩ s) Ls ρ d L:=
 ⟨d,L,Vs.refl d L,by simp only[gop,gi,mi];exact⟨k,n,ex,h1,h2,fun b=>⟨_,_,Vs.refl _ _,h b⟩⟩⟩
end
end Go.Gk
namespace Go.Gk
open Go
section
variable {P:Program}{pan:List PanicEntry→Ah}{Qn:Env→Ah}{Ls L:List Aa}{ρ:Env}{d:Aa}{s:GS}{t:Nat}
end
end Go.Gk
namespace Go.Gk
open Go
section
variable {P:Program}{pan:List PanicEntry→Ah}{Qn:Env→Ah}{Ls L:List Aa}{ρ:Env}{d:Aa}{s:GS}{t:Nat}{tk:Bool}
def LA{neg:Bool}{x y}{b:Nat}(ex:ev ρ x=.map (some b))(ey:ev ρ y=.map none)(h:gws P pan Qn s Ls (upd ρ t (.bool neg)) d L):
  gws P pan Qn (.op tk ⟨some t,none,.eqm neg x y⟩ s) Ls ρ d L:=w_q rfl ⟨some b,ex,ey,by cases neg<;>rfl⟩ h
def LV{T x v}(ex:ev ρ x=.iface T v)(h:gws P pan Qn s Ls (upd ρ t v) d L):
  gws P pan Qn (.op tk ⟨some t,none,.tas T x⟩ s) Ls ρ d L:=w_q rfl ex h
def LM{x T}{b c:Nat}{es:Array MapEntry}(ex:ev ρ x=.iface T (.map (some b)))(hm:HO d (Ls++L++L) b (.map es c))(h:∀q,gws P pan Qn s Ls (upd ρ t (.iface T (.map (some q)))) d (sg q (.map es c)::L)):
  gws P pan Qn (.op false ⟨some t,none,.mop (.cln x)⟩ s) Ls ρ d L:=
 ⟨d,L,Vs.refl d L,by simp only[gop,gi,mi];exact⟨T,b,es,c,ex,hm,fun q=>⟨_,_,Vs.refl _ _,h q⟩⟩⟩
end
end Go.Gk
namespace Go.Gk
open Go
end Go.Gk
end
section
namespace Go.Gk.Dev
open Go Go.Gk
attribute [local irreducible] gwp gws xwp
abbrev Sec:=List UInt8
structure CW where
 syn:List Sec
 opn:List (Nat×Sec)
def HW(_:Aa)(cs:List Value)(x:Sec):Prop:=cs=x.map AO∧x.length=256
def RWr(_:Aa)(cs:List Value)(x:Nat×Sec):Prop:=cs=vZ x.1::x.2.map AO∧x.2.length=256
def Jx:D1 HW:=fun _ h=>h
def Kq:D1 RWr:=fun _ h=>h
def Fb:Sec:=Mv 256 0
def Ld{d}:HW d IA Fb:=⟨by rw[Fb,List.map_replicate];rfl,MQ⟩
def J9(k:Nat):List (Nat×Sec)→Option Sec
 |[]=>none
 |w::l=>match J9 k l with|some b=>some b|none=>if w.1=k then some w.2 else none
def CW.cur(D:CW)(k:Nat):Sec:=(J9 k D.opn).getD (D.syn.getD k [])
def synced(l:List (Nat×Sec))(s:List Sec):List Sec:=l.foldl (fun s w=>s.set w.1 w.2) s
def D3(l:List (Nat×Sec)):∀s,(synced l s).length=s.length:=by
 induction l with
 |nil=>exact fun _=>rfl
 |cons w l ih=>intro s;rw[synced,List.foldl_cons];exact(ih _).trans (M0 ..)
def Dv(d:Aa)(D:CW)(v:Value)(L:List Aa):Prop:=
 ∃b T vs vo r hs ho,v=pZ b∧L=[bx b T [vs,vo,vZ r,vZ 0],hs,ho]∧Ai 256 HW d vs D.syn hs∧Ai 257 RWr d vo D.opn ho∧(∀w∈D.opn,w.1<D.syn.length)∧D.syn.length≤8192
def Dv.mono{d d'}{D:CW}{v L}(h:Dv d D v L)(hl:Le d d'):Dv d' D v L:=
 let ⟨b,T,vs,vo,r,hs,ho,h1,h2,h3,h4,h5,h6⟩:=h
 ⟨b,T,vs,vo,r,hs,ho,h1,h2,Ai.mono (R:=HW) Jx h3 hl,Ai.mono (R:=RWr) Kq h4 hl,h5,h6⟩
def EB(P:Program)(f:FuncId):Prop:=∀{d}{D:CW}{v L},Dv d D v L→Cv P f [v] d L (vZ D.syn.length)
def DS:A3:=⟨10,[(.tmp 2)],(sR (o1 2 (.mv z0) .done) (.seq (sR (om 3 0<|o1 4 (.eqp false 3 (.const (.pointer none))) .done) (.cond 4 (sR (o1 2 (.mv z0) .done) .ret) .skip)) (sR (om 5 0<|o1 6 (.nilc 5)<|oj 7 0 6<|ol 8 7<|oL 9 8<|om 2 9 .done) .ret)))⟩
def Jv{P f}(hd:dec P f=some DS):EB P f:=by
 intro d D v L h;obtain⟨b,T,vs,vo,r,hs,ho,rfl,rfl,h3,h4,h5,h6⟩:=h;refine Aq hd (Ms rfl) ?_;show gwp P _ _ _ _ _;(refine Ae<|Ac rfl<|Ab<|An<|Ae<|Ad rfl<|A1 rfl rfl<|Ab<|Bd rfl<|Av<|Ae<|Ad rfl<|AM rfl<|AR rfl<|AX rfl (A5 0 rfl rfl)<|LH rfl (by assumption)<|Ac rfl<|Ab<|As ?_);exact FV rfl (MC _)
def Fs(P:Program)(f:FuncId):Prop:=∀{d}{n:Nat},1≤n→n≤8192→Aj P f [vZ n] d [] (Ret fun r d' L'=>∃v,r=.tuple #[v,vZ 0]∧d'=d∧Dv d ⟨Mv n Fb,[]⟩ v L')
def GP:A3:=⟨14,[(.tmp 2),(.tmp 3)],(sR (o1 2 (.mv (.const (.pointer none)))<|o1 3 (.mv z0) .done) (.seq (sR (om 4 0<|ob 5 .lss 4 z1<|om 6 5<|gF 7 6 0<|oF 8 6 (.bin .gtr 7 (kZ 8192))<|o1 9 (.pick 6 (.const (.bool true)) 8) .done) (.cond 9 (sR (o1 2 (.mv (.const (.pointer none)))<|o1 3 (.mv z2) .done) .ret) .skip)) (sR (om 10 0<|o1 11 (.mks 256 256 IA 10 10)<|o1 12 (.bld [(0,1),(1,1),(2,1),(3,1)] [(.slice none 0 0),(.slice none 0 0),(vZ 0),(vZ 0)] [(0,11)])<|o1 13 (.box 12)<|om 2 13<|o1 3 (.mv z0) .done) .ret)))⟩
def KO{P f}(hd:dec P f=some GP):Fs P f:=by
 intro d n h1 h2;refine Aq hd (Ms rfl) ?_;show gwp P _ _ _ _ _;(refine Ae<|Ad rfl<|Ac rfl<|Ab<|An<|Ae<|Ac rfl<|AI rfl rfl<|Ag rfl<|AA rfl (by omega)<|Af rfl<|Ac rfl<|Af rfl<|EL rfl rfl<|Al rfl rfl<|Ab<|A2 rfl (by omega)<|Av<|Ae<|Ac rfl ?_);refine Fz rfl rfl (MR n) (by omega) (by omega) (fun b T=>?_);(refine BT rfl<|BF rfl (fun _ _=>Ad rfl<|Ac rfl<|Ab<|As ?_));rename_i b2 T2;refine Cm [_,_] ⟨rfl,rfl,trivial⟩ (d':=d) (L':=[bx b2 T2 [.slice (some ⟨b,0,none⟩) n n,.slice none 0 0,vZ 0,vZ 0],bx b T (Aw IA (n*256)),emp]) ?_ ⟨_,rfl,rfl,_,_,_,_,_,_,_,rfl,rfl,?_,Ai.nil,fun w hw=>(by cases hw),by simpa using h2⟩
 ·exact(Vs.emp).trans (Vs.perm (MJ (l₁:=[emp])))
 ·exact Ai.zero JE (by omega) Ld (by omega)
end Go.Gk.Dev
end
section
namespace Go.Gk.Cch
open Go Go.Gk Go.Gk.Dev
structure Fr where
 held:Bool
 sec:Nat
 pins:Nat
 late:Bool
 b:Sec
def fz:Fr:=⟨false,0,0,false,[]⟩
structure CD where
 fr:List Fr
 free:List Nat
 hand:Nat
 hits:Nat
 miss:Nat
def findF(k:Nat):List Fr→Option Nat
 |[]=>none
 |f::l=>if f.held=true∧f.sec=k then some 0 else(findF k l).map (·+1)
def D2{k:Nat}:∀{l:List Fr}{i:Nat},findF k l=some i→∃h:i<l.length,l[i].held=true∧l[i].sec=k
 |[],i,h=>by cases h
 |f::l,i,h=>by
  rw[findF] at h;split at h
  ·rename_i e;cases h;exact⟨by simp,e⟩
  ·cases hf:findF k l with
   |none=>rw[hf] at h;cases h
   |some j=>
    rw[hf] at h;cases h
    obtain⟨h1,h2⟩:=D2 hf
    exact⟨by simpa using h1,by simpa using h2⟩
def Fv{k:Nat}:∀{l:List Fr},findF k l=none→∀f∈l,¬(f.held=true∧f.sec=k)
 |f::l,h,g,hg=>by
  rw[findF] at h;split at h
  ·cases h
  ·rename_i e;rcases MO.1 hg with rfl|hg
   ·exact e
   ·refine Fv ?_ g hg;cases hf:findF k l with
    |none=>rfl
    |some j=>rw[hf] at h;cases h
def Bp(l:List Fr):Bool:=l.all fun f=>f.pins !=0
def DK(l:List Fr)(h:Nat):Bool:=(l.getD h fz).pins==0 && !(l.getD h fz).late
def BM(l:List Fr)(h:Nat):List Fr:=if (l.getD h fz).pins=0 then l.set h {l.getD h fz with late:=false} else l
def Bc(l:List Fr)(h:Nat):Nat:=(h+1) % l.length
def BR:Nat→List Fr→Nat→List Fr×Nat×Nat
 |0,l,h=>(l,Bc l h,h)
 |n+1,l,h=>if DK l h then(l,Bc l h,h) else BR n (BM l h) (Bc l h)
def CT(l:List Fr)(h:Nat):(BM l h).length=l.length:=by unfold BM;split<;>simp
def GG(l:List Fr):Nat:=l.countP fun f=>f.pins==0 && f.late
def Cd(l:List Fr):Nat→Nat→Nat
 |0,_=>0
 |n+1,h=>if (l.getD h fz).pins=0 then 0 else Cd l n (Bc l h)+1
def CE(l:List Fr)(h:Nat):Nat:=GG l*(l.length+1)+Cd l l.length h
def HF(l:List Fr):∀n h,Cd l n h≤n
 |0,_=>MR _
 |n+1,h=>by rw[Cd];split;omega;have:=HF l n (Bc l h);omega
def E5{l:List Fr}{j:Nat}(hj:j<l.length)(hp:(l.getD j fz).pins=0):∀(n h:Nat),h<l.length→(h+n) % l.length=j→∀m,n<m→Cd l m h=Cd l (n+1) h
 |0,h,hh,e,m,hm=>by
  rw[Nat.add_zero,Nw hh] at e;subst e;cases m with
  |zero=>omega
  |succ m=>rw[Cd,Cd,if_pos hp,if_pos hp]
 |n+1,h,hh,e,m,hm=>by
  cases m with
  |zero=>omega
  |succ m=>
   rw[Cd,Cd]
   by_cases q:(l.getD h fz).pins=0
   ·rw[if_pos q,if_pos q]
   ·rw[if_neg q,if_neg q]
    have h1:Bc l h<l.length:=Ni _ (by omega)
    have h2:(Bc l h+n) % l.length=j:=by
     rw[Bc,Nat.mod_add_mod,←e];congr 1;omega
    rw[E5 hj hp n (Bc l h) h1 h2 m (by omega)]
def I1{l:List Fr}{h:Nat}(hh:h<l.length)(hn:Bp l=false)(hp:(l.getD h fz).pins≠0):Cd l l.length (Bc l h)<Cd l l.length h:=by
 obtain⟨f,hf,hq⟩:=by simpa [Bp] using hn
 obtain⟨j,hj,rfl⟩:=Nx hf;have hj0:(l.getD j fz).pins=0:=by rw[Mu,Mt hj];exact hq
 have hpos:0<l.length:=by omega
 have key:∃n,n<l.length∧(Bc l h+n) % l.length=j:=by
  have h1:Bc l h<l.length:=Ni _ hpos;refine⟨(j+l.length - Bc l h) % l.length,Ni _ hpos,?_⟩
  rw[Nat.add_mod_mod,show Bc l h+(j+l.length - Bc l h)=j+l.length by omega,Nat.add_mod_right,Nw hj]
 obtain⟨n,hn1,hn2⟩:=key;have h1:Bc l h<l.length:=Ni _ hpos;have hn3:n≠l.length - 1:=by
  intro e;subst e;rw[Bc,Nat.mod_add_mod,show h+1+(l.length - 1)=h+l.length by omega,Nat.add_mod_right,Nw hh] at hn2;subst hn2;exact hp hj0
 obtain⟨m,hm⟩:∃m,l.length=m+1:=⟨l.length - 1,by omega⟩
 have e1:=E5 hj hj0 n (Bc l h) h1 hn2 l.length hn1;have e2:=E5 hj hj0 n (Bc l h) h1 hn2 m (by omega);have e3:Cd l l.length h=Cd l m (Bc l h)+1:=by
  rw[hm,Cd,if_neg hp]
 rw[e3,e1,e2];omega
def Jf{l:List Fr}{h:Nat}(hh:h<l.length)(hp:(l.getD h fz).pins=0)(hl:(l.getD h fz).late=true):GG (l.set h {l.getD h fz with late:=false})+1=GG l:=by
 unfold GG;have e:l.getD h fz=l[h]:=by rw[Mu,Mt hh];rfl
 rw[e] at hp hl⊢;rw[List.countP_set hh];simp only[hp,hl];have:0<l.countP fun f=>f.pins==0 && f.late:=List.countP_pos_iff.2 ⟨l[h],MV hh,by simp[hp,hl]⟩;simp;omega
def Jt{l:List Fr}{h:Nat}(hh:h<l.length)(hn:Bp l=false)(ht:DK l h=false):CE (BM l h) (Bc l h)<CE l h:=by
 have hd:=HF (BM l h) (BM l h).length (Bc l h);rw[CT] at hd;unfold CE;rw[CT];by_cases hp:(l.getD h fz).pins=0
 ·have hl:(l.getD h fz).late=true:=by
   unfold DK at ht;rw[hp] at ht;simpa using ht
  have:=Jf hh hp hl;have e:BM l h=l.set h {l.getD h fz with late:=false}:=by rw[BM,if_pos hp]
  rw[e] at hd⊢;rw[←this,MT,Nk];omega
 ·have e:BM l h=l:=by rw[BM,if_neg hp]
  rw[e];have:=I1 hh hn hp;omega
def Hl{l:List Fr}{h:Nat}:Bp (BM l h)=Bp l:=by
 unfold BM;split
 ·rename_i hp;by_cases hh:h<l.length
  ·have e:l.getD h fz=l[h]:=by rw[Mu,Mt hh];rfl
   rw[e] at hp⊢;have h1:Bp l=false:=by
    unfold Bp;rw[List.all_eq_false];exact⟨l[h],MV hh,by simp[hp]⟩
   have h2:Bp (l.set h {l[h] with late:=false})=false:=by
    unfold Bp;rw[List.all_eq_false];exact⟨_,List.mem_set hh _,by simp[hp]⟩
   rw[h1,h2]
  ·rw[M7 (by omega)]
 ·rfl
def DW(c:CD):CD×Option Nat:=
 match c.free with
 |i::r=>({c with free:=r},some i)
 |[]=>if Bp c.fr then(c,none) else let s:=BR (CE c.fr c.hand+1) c.fr c.hand;({c with fr:=s.1,hand:=s.2.1},some s.2.2)
def Cw(b:Sec)(c:CD)(k:Nat):CD×Option Sec:=
 match findF k c.fr with
 |some i=>({c with fr:=c.fr.set i {c.fr.getD i fz with pins:=(c.fr.getD i fz).pins+1,late:=true},hits:=c.hits+1},some (c.fr.getD i fz).b)
 |none=>match DW c with
  |(c',none)=>(c',none)
  |(c',some i)=>({c' with fr:=c'.fr.set i ⟨true,k,1,true,b⟩,miss:=c'.miss+1},some b)
def By(c:CD)(k:Nat):CD×Int:=
 match findF k c.fr with
 |none=>(c,240)
 |some i=>if (c.fr.getD i fz).pins=0 then(c,180) else({c with fr:=c.fr.set i {c.fr.getD i fz with pins:=(c.fr.getD i fz).pins - 1}},0)
def EF(c:CD)(k:Nat):CD×Int:=
 match findF k c.fr with
 |none=>(c,240)
 |some i=>if (c.fr.getD i fz).pins>0 then(c,180) else({c with fr:=c.fr.set i fz,free:=c.free++[i]},0)
def Bo(c:CD):List Int:=c.fr.map fun f=>if f.held then(f.sec:Int) else -1
end Go.Gk.Cch
namespace Go.Gk.Cch
open Go Go.Gk Go.Gk.Dev
def Fi(c:CD)(n:Nat):Prop:=∀f∈c.fr,f.pins≤n
def Fk:∀(n:Nat) {l:List Fr}{h:Nat},h<l.length→(BR n l h).1.length=l.length∧(BR n l h).2.2<l.length∧(BR n l h).2.1<l.length
 |0,l,h,hh=>⟨rfl,hh,Ni _ (by omega)⟩
 |n+1,l,h,hh=>by
  rw[BR];split
  ·exact⟨rfl,hh,Ni _ (by omega)⟩
  ·have:=Fk n (l:=BM l h) (h:=Bc l h) (by rw[CT];exact Ni _ (by omega));rw[CT] at this;exact this
def KJ{c c1:CD}{i:Nat}(hh:c.hand<c.fr.length)(hf:∀i∈c.free,i<c.fr.length)(h:DW c=(c1,some i)):i<c1.fr.length:=by
 unfold DW at h;split at h
 ·rename_i j r e;cases h;exact hf _ (by rw[e];exact MN ..)
 ·split at h
  ·cases h
  ·cases h;have:=Fk (CE c.fr c.hand+1) hh;simp only;omega
end Go.Gk.Cch
end
section
namespace Go.Gk.Cch
open Go Go.Gk Go.Gk.Dev
variable{i k N:Nat}{c c':CD}{cur:Nat→Sec}
def D6:∀{l m:List Nat},l.Nodup→(∀x∈l,x∈m)→l.length≤m.length
 |[],_,_,_=>Nat.zero_le _
 |x::l,m,h,hs=>by
  have hx:=hs x (MN ..);have:=D6 (l:=l) (m:=m.erase x) (List.nodup_cons.1 h).2 (fun y hy=>by
   have hne:y≠x:=fun e=>(List.nodup_cons.1 h).1 (e▸hy);exact(List.mem_erase_of_ne hne).2 (hs y (MX _ hy)))
  rw[List.length_erase_of_mem hx] at this;have:=List.length_pos_of_mem hx;simp only[List.length_cons];omega
abbrev CD.at(c:CD)(i:Nat):Fr:=c.fr.getD i fz
structure Inv (cur:Nat→Sec) (N:Nat) (c:CD):Prop where
 n1:1≤c.fr.length
 n2:c.fr.length≤64
 hd:c.hand<c.fr.length
 fl:∀i∈c.free,i<c.fr.length
 nd:c.free.Nodup
 fh:∀i,i<c.fr.length→((c.at i).held=false↔i∈c.free)
 ds:∀i j,i<c.fr.length→j<c.fr.length→(c.at i).held=true→(c.at j).held=true→(c.at i).sec=(c.at j).sec→i=j
 vl:∀i,i<c.fr.length→(c.at i).held=true→(c.at i).sec<N∧(c.at i).b=cur (c.at i).sec
 pz:∀i,i<c.fr.length→(c.at i).held=false→(c.at i).pins=0∧(c.at i).sec=0
def AW(c:CD)(k:Nat):Nat:=match findF k c.fr with|some i=>(c.at i).pins|none=>0
def at_set{l:List Fr}{j:Nat}{f:Fr}(hi:i<l.length):(l.set i f).getD j fz=if j=i then f else l.getD j fz:=by
 simp only[Mu,List.getElem?_set];by_cases e:i=j
 ·subst e;simp[hi]
 ·rw[if_neg e,if_neg (fun h=>e h.symm)]
def Cf{l:List Fr}{i:Nat}(hi:i<l.length):l.getD i fz=l[i]:=by rw[Mu,Mt hi];rfl
def Bs(h:findF k c.fr=some i):i<c.fr.length∧(c.at i).held=true∧(c.at i).sec=k:=by
 obtain⟨h1,h2,h3⟩:=D2 h;exact⟨h1,by rw[CD.at,Cf h1];exact h2,by rw[CD.at,Cf h1];exact h3⟩
def Ck(h:findF k c.fr=none)(hi:i<c.fr.length)(hh:(c.at i).held=true):(c.at i).sec≠k:=by
 intro e;rw[CD.at,Cf hi] at hh e;exact Fv h _ (MV hi) ⟨hh,e⟩
def Inv.find(h:Inv cur N c)(hi:i<c.fr.length)(hh:(c.at i).held=true)(hs:(c.at i).sec=k):findF k c.fr=some i:=by
 cases hf:findF k c.fr with
 |none=>exact absurd hs (Ck hf hi hh)
 |some j=>
  obtain⟨h1,h2,h3⟩:=Bs hf
  rw[h.ds j i h1 hi h2 hh (h3.trans hs.symm)]
def He(h:Inv cur N c)(hi:i<c.fr.length)(hh:(c.at i).held=true):AW c (c.at i).sec=(c.at i).pins:=by
 rw[AW,h.find hi hh rfl]
def BA(l m:List Fr):Prop:=l.length=m.length∧∀i,(l.getD i fz).held=(m.getD i fz).held∧(l.getD i fz).sec=(m.getD i fz).sec∧(l.getD i fz).pins=(m.getD i fz).pins∧(l.getD i fz).b=(m.getD i fz).b
def BA.refl(l:List Fr):BA l l:=⟨rfl,fun _=>⟨rfl,rfl,rfl,rfl⟩⟩
def BA.trans{a b c:List Fr}(h:BA a b)(k:BA b c):BA a c:=
 ⟨h.1.trans k.1,fun i=>let ⟨x,y,z,w⟩:=h.2 i;let ⟨x',y',z',w'⟩:=k.2 i;⟨x.trans x',y.trans y',z.trans z',w.trans w'⟩⟩
def Gh(l:List Fr)(h:Nat):BA (BM l h) l:=by
 unfold BM;split
 ·by_cases hh:h<l.length
  ·refine⟨by simp,fun i=>?_⟩
   rw[at_set hh];by_cases e:i=h
   ·subst e;rw[if_pos rfl];exact⟨rfl,rfl,rfl,rfl⟩
   ·rw[if_neg e];exact⟨rfl,rfl,rfl,rfl⟩
  ·rw[M7 (by omega)];exact BA.refl l
 ·exact BA.refl l
def DU:∀(n:Nat) (l:List Fr) (h:Nat),BA (BR n l h).1 l
 |0,l,_=>BA.refl l
 |n+1,l,h=>by
  rw[BR];split
  ·exact BA.refl l
  ·exact(DU n _ _).trans (Gh l h)
def FC:∀(n:Nat) {l:List Fr}{h:Nat},h<l.length→Bp l=false→CE l h<n→(l.getD (BR n l h).2.2 fz).pins=0
 |0,_,_,_,_,hm=>by omega
 |n+1,l,h,hh,hn,hm=>by
  rw[BR];cases ht:DK l h with
  |true=>
   simp only[if_true]
   unfold DK at ht
   simp only[Bool.and_eq_true,beq_iff_eq] at ht
   exact ht.1
  |false=>
   simp only[ME,if_false]
   have:=FC n (l:=BM l h) (h:=Bc l h) (by rw[CT];exact Ni _ (by omega)) (by rw[Hl];exact hn) (by have:=Jt hh hn ht;omega)
   rw[((Gh l h).2 _).2.2.1] at this
   exact this
def Inv.same(h:Inv cur N c)(hl:c'.fr.length=c.fr.length)(hf:c'.free=c.free)(hh:c'.hand<c.fr.length)
  (he:∀i,(c'.at i).held=(c.at i).held∧(c'.at i).sec=(c.at i).sec∧(c'.at i).b=(c.at i).b∧((c.at i).held=false→(c'.at i).pins=(c.at i).pins)):Inv cur N c' where
 n1:=by rw[hl];exact h.n1
 n2:=by rw[hl];exact h.n2
 hd:=by rw[hl];exact hh
 fl:=by rw[hl,hf];exact h.fl
 nd:=by rw[hf];exact h.nd
 fh:=fun i hi=>by rw[(he i).1,hf];exact h.fh i (hl▸hi)
 ds:=fun i j hi hj h1 h2 h3=>by rw[(he i).1] at h1;rw[(he j).1] at h2;rw[(he i).2.1,(he j).2.1] at h3;exact h.ds i j (hl▸hi) (hl▸hj) h1 h2 h3
 vl:=fun i hi h1=>by rw[(he i).1] at h1;rw[(he i).2.1,(he i).2.2.1];exact h.vl i (hl▸hi) h1
 pz:=fun i hi h1=>by rw[(he i).1] at h1;rw[(he i).2.2.2 h1,(he i).2.1];exact h.pz i (hl▸hi) h1
def Inv.take{c1:CD}(h:Inv cur N c)(hl:BA c1.fr c.fr)(hh:c1.hand<c.fr.length)(hi:i<c.fr.length)(hk:k<N)(hn:findF k c.fr=none)
  (hf:(c.free=i::c1.free)∨(c.free=[]∧c1.free=[]∧(c.at i).pins=0)) {m:Nat}(c2:CD) (e:c2={c1 with fr:=c1.fr.set i ⟨true,k,1,true,cur k⟩,miss:=m}):
  Inv cur N c2∧(∀s,AW c2 s=if s=k then AW c s+1 else AW c s)∧findF k c2.fr=some i:=by
 have hi1:i<c1.fr.length:=by rw[hl.1];exact hi
 have hlen:c2.fr.length=c.fr.length:=by subst e;simp[hl.1]
 have hat:∀j,c2.at j=if j=i then⟨true,k,1,true,cur k⟩ else c1.fr.getD j fz:=fun j=>by subst e;exact at_set hi1
 have hsame:∀j,j≠i→(c2.at j).held=(c.at j).held∧(c2.at j).sec=(c.at j).sec∧(c2.at j).pins=(c.at j).pins∧(c2.at j).b=(c.at j).b:=fun j hj=>by
  rw[hat,if_neg hj];exact hl.2 j
 have hself:c2.at i=⟨true,k,1,true,cur k⟩:=by rw[hat,if_pos rfl]
 have hfree:c2.free=c1.free:=by subst e;rfl
 have hsub:∀j,j≠i→(j∈c1.free↔j∈c.free):=fun j hj=>by
  rcases hf with hf|⟨hf1,hf2,_⟩
  ·rw[hf];simp[hj]
  ·rw[hf1,hf2]
 have hni:i∉c1.free:=by
  rcases hf with hf|⟨_,hf2,_⟩
  ·have:=h.nd;rw[hf] at this;exact(List.nodup_cons.1 this).1
  ·rw[hf2];exact List.not_mem_nil
 have hpi:(c.at i).pins=0:=by
  rcases hf with hf|⟨_,_,hp⟩
  ·exact(h.pz i hi ((h.fh i hi).2 (by rw[hf];exact MN ..))).1
  ·exact hp
 have I:Inv cur N c2:=
 {n1:=by rw[hlen];exact h.n1
  n2:=by rw[hlen];exact h.n2
  hd:=by rw[hlen];subst e;exact hh
  fl:=fun j hj=>by
   rw[hfree] at hj;rw[hlen];by_cases q:j=i
   ·subst q;exact absurd hj hni
   ·exact h.fl j ((hsub j q).1 hj)
  nd:=by
   rw[hfree];rcases hf with hf|⟨_,hf2,_⟩
   ·have:=h.nd;rw[hf] at this;exact(List.nodup_cons.1 this).2
   ·rw[hf2];exact List.nodup_nil
  fh:=fun j hj=>by
   rw[hlen] at hj;rw[hfree];by_cases q:j=i
   ·subst q;rw[hself];exact⟨(fun z=>by cases z),fun z=>absurd z hni⟩
   ·rw[(hsame j q).1,hsub j q];exact h.fh j hj
  ds:=fun a b ha hb h1 h2 h3=>by
   rw[hlen] at ha hb;by_cases qa:a=i
   ·by_cases qb:b=i
    ·omega
    ·subst qa;rw[hself,(hsame b qb).2.1] at h3;rw[(hsame b qb).1] at h2;exact absurd h3.symm (Ck hn hb h2)
   ·by_cases qb:b=i
    ·subst qb;rw[hself,(hsame a qa).2.1] at h3;rw[(hsame a qa).1] at h1;exact absurd h3 (Ck hn ha h1)
    ·rw[(hsame a qa).1] at h1;rw[(hsame b qb).1] at h2;rw[(hsame a qa).2.1,(hsame b qb).2.1] at h3;exact h.ds a b ha hb h1 h2 h3
  vl:=fun a ha h1=>by
   rw[hlen] at ha;by_cases qa:a=i
   ·subst qa;rw[hself];exact⟨hk,rfl⟩
   ·rw[(hsame a qa).1] at h1;rw[(hsame a qa).2.1,(hsame a qa).2.2.2];exact h.vl a ha h1
  pz:=fun a ha h1=>by
   rw[hlen] at ha;by_cases qa:a=i
   ·subst qa;rw[hself] at h1;cases h1
   ·rw[(hsame a qa).1] at h1;rw[(hsame a qa).2.2.1,(hsame a qa).2.1];exact h.pz a ha h1}
 have hfk:findF k c2.fr=some i:=I.find (by rw[hlen];exact hi) (by rw[hself]) (by rw[hself])
 refine⟨I,fun s=>?_,hfk⟩
 by_cases q:s=k
 ·subst q
  rw[if_pos rfl,AW,hfk,AW,hn]
  show(c2.at i).pins=_
  rw[hself]
 ·rw[if_neg q]
  cases hs:findF s c.fr with
  |some j=>
   obtain⟨h1,h2,h3⟩:=Bs hs
   by_cases qj:j=i
   ·subst qj
    have e1:AW c s=0:=by rw[AW,hs];exact hpi
    rw[e1,AW]
    cases ht:findF s c2.fr with
    |none=>rfl
    |some a=>
     obtain⟨g1,g2,g3⟩:=Bs ht
     by_cases qa:a=j
     ·subst qa;rw[hself] at g3;exact absurd g3.symm q
     ·rw[hlen] at g1
      rw[(hsame a qa).1] at g2;rw[(hsame a qa).2.1] at g3
      exact absurd (h.ds a j g1 h1 g2 h2 (g3.trans h3.symm)) qa
   ·have:findF s c2.fr=some j:=I.find (by rw[hlen];exact h1) (by rw[(hsame j qj).1];exact h2) (by rw[(hsame j qj).2.1];exact h3)
    rw[AW,this,AW,hs]
    exact(hsame j qj).2.2.1
  |none=>
   have e1:AW c s=0:=by rw[AW,hs]
   rw[e1,AW]
   cases ht:findF s c2.fr with
   |none=>rfl
   |some a=>
    obtain⟨g1,g2,g3⟩:=Bs ht
    rw[hlen] at g1
    by_cases qa:a=i
    ·subst qa;rw[hself] at g3;exact absurd g3.symm q
    ·rw[(hsame a qa).1] at g2;rw[(hsame a qa).2.1] at g3
     exact absurd g3 (Ck hs g1 g2)
def get_some{b:Sec}(h:Inv cur N c)(hk:k<N)(hg:Cw (cur k) c k=(c',some b)):
  Inv cur N c'∧b=cur k∧(∀s,AW c' s=if s=k then AW c s+1 else AW c s)∧(∃i,findF k c'.fr=some i)∧c'.fr.length=c.fr.length∧
   (match findF k c.fr with|some _=>c'.hits=c.hits+1∧c'.miss=c.miss|none=>c'.hits=c.hits∧c'.miss=c.miss+1)∧
   (c.free≠[]∨findF k c.fr≠none→∀s,s≠k→(findF s c'.fr=none↔findF s c.fr=none)):=by
 unfold Cw at hg
 cases hf:findF k c.fr with
 |some i=>
  rw[hf] at hg
  cases hg
  obtain⟨h1,h2,h3⟩:=Bs hf
  have hat:∀j,((c.fr.set i {c.fr.getD i fz with pins:=(c.fr.getD i fz).pins+1,late:=true}).getD j fz)=if j=i then{c.fr.getD i fz with pins:=(c.fr.getD i fz).pins+1,late:=true} else c.fr.getD j fz:=fun j=>at_set h1
  have hsame:BA (c.fr.set i {c.fr.getD i fz with pins:=(c.fr.getD i fz).pins,late:=true}) c.fr:=⟨by simp,fun j=>by
   rw[at_set h1];by_cases q:j=i
   ·subst q;rw[if_pos rfl];exact⟨rfl,rfl,rfl,rfl⟩
   ·rw[if_neg q];exact⟨rfl,rfl,rfl,rfl⟩⟩
  have hfind:∀s,findF s (c.fr.set i {c.fr.getD i fz with pins:=(c.fr.getD i fz).pins+1,late:=true})=findF s c.fr:=by
   intro s;have gen:∀(l:List Fr) (i:Nat) (f:Fr),f.held=(l.getD i fz).held→f.sec=(l.getD i fz).sec→findF s (l.set i f)=findF s l:=by
    intro l;induction l with
    |nil=>intro i f _ _;rfl
    |cons g l ih=>
     intro i f e1 e2
     cases i with
     |zero=>simp only[List.getD_cons_zero] at e1 e2;rw[List.set_cons_zero,findF,findF,e1,e2]
     |succ i=>simp only[List.getD_cons_succ] at e1 e2;rw[List.set_cons_succ,findF,findF,ih i f e1 e2]
   exact gen c.fr i _ rfl rfl
  refine⟨h.same (by simp) rfl h.hd (fun j=>?_),?_,fun s=>?_,⟨i,by rw[hfind];exact hf⟩,by simp,⟨rfl,rfl⟩,fun _ s _=>by rw[hfind]⟩
  ·simp only[CD.at,hat]
   by_cases q:j=i
   ·subst q;rw[if_pos rfl];exact⟨rfl,rfl,rfl,fun z=>by rw[CD.at] at h2;rw[h2] at z;cases z⟩
   ·rw[if_neg q];exact⟨rfl,rfl,rfl,fun _=>rfl⟩
  ·rw[(h.vl i h1 h2).2,h3]
  ·simp only[AW,hfind,CD.at]
   by_cases q:s=k
   ·subst q
    rw[if_pos rfl,hf]
    simp only[hat,if_true]
   ·rw[if_neg q]
    cases hs:findF s c.fr with
    |none=>rfl
    |some j=>
     have hj:j≠i:=by
      rintro rfl;obtain⟨_,_,g3⟩:=Bs hs;exact q (g3.symm.trans h3)
     simp only[hat,if_neg hj]
 |none=>
  rw[hf] at hg
  simp only at hg
  unfold DW at hg
  cases hfr:c.free with
  |cons i r=>
   rw[hfr] at hg
   simp only at hg
   cases hg
   have hi:=h.fl i (by rw[hfr];exact MN ..)
   obtain⟨g1,g2,g3⟩:=h.take (c1:={c with free:=r}) (BA.refl _) h.hd hi hk hf (.inl hfr) _ rfl
   refine⟨g1,rfl,g2,⟨i,g3⟩,by simp,⟨rfl,rfl⟩,fun _ s hs=>?_⟩
   have hnh:(c.at i).held=false:=(h.fh i hi).2 (by rw[hfr];exact MN ..)
   constructor
   ·intro z
    cases q:findF s c.fr with
    |none=>rfl
    |some j=>
     obtain⟨y1,y2,y3⟩:=Bs q
     have hj:j≠i:=by rintro rfl;rw[hnh] at y2;cases y2
     have e:(c.fr.set i ⟨true,k,1,true,cur k⟩).getD j fz=c.fr.getD j fz:=by rw[at_set hi,if_neg hj]
     have:=g1.find (k:=s) (i:=j) (by simpa using y1) (by simp only[CD.at];rw[e];exact y2) (by simp only[CD.at];rw[e];exact y3)
     rw[this] at z;cases z
   ·intro z
    cases q:findF s (c.fr.set i ⟨true,k,1,true,cur k⟩) with
    |none=>rfl
    |some j=>
     obtain⟨y1,y2,y3⟩:=Bs (c:={c with free:=r,fr:=c.fr.set i ⟨true,k,1,true,cur k⟩}) q
     simp only[CD.at] at y2 y3
     rw[at_set hi] at y2 y3
     by_cases hj:j=i
     ·rw[if_pos hj] at y3;exact absurd y3.symm hs
     ·rw[if_neg hj] at y2 y3
      exact absurd y3 (Ck z (by simpa using y1) y2)
  |nil=>
   rw[hfr] at hg
   simp only at hg
   cases hp:Bp c.fr with
   |true=>rw[hp] at hg;simp only[if_true] at hg;cases hg
   |false=>
    rw[hp] at hg
    simp only[ME,if_false] at hg
    cases hg
    have hs:=DU (CE c.fr c.hand+1) c.fr c.hand
    have hl:=Fk (CE c.fr c.hand+1) h.hd
    have hpz:=FC _ h.hd hp (Nat.lt_succ_self _)
    obtain⟨g1,g2,g3⟩:=h.take (c1:=⟨(BR (CE c.fr c.hand+1) c.fr c.hand).1,[],(BR (CE c.fr c.hand+1) c.fr c.hand).2.1,c.hits,c.miss⟩) hs hl.2.2 hl.2.1 hk hf (.inr ⟨hfr,rfl,hpz⟩) _ rfl
    exact⟨g1,rfl,g2,⟨_,g3⟩,by simp[hl.1],⟨rfl,rfl⟩,fun z=>by rcases z with z|z<;>exact absurd rfl z⟩
def get_none(_:Inv cur N c)(hg:Cw (cur k) c k=(c',none)):c'=c∧findF k c.fr=none∧c.free=[]∧Bp c.fr=true:=by
 unfold Cw at hg;cases hf:findF k c.fr with
 |some i=>rw[hf] at hg;cases hg
 |none=>
  rw[hf] at hg
  simp only at hg
  unfold DW at hg
  cases hfr:c.free with
  |cons i r=>rw[hfr] at hg;cases hg
  |nil=>
   rw[hfr] at hg
   simp only at hg
   cases hp:Bp c.fr with
   |true=>rw[hp] at hg;simp only[if_true] at hg;cases hg;exact⟨rfl,rfl,rfl,rfl⟩
   |false=>rw[hp] at hg;simp only[ME,if_false] at hg;cases hg
def Inv.full(h:Inv cur N c)(hf:c.free=[]){S:List Nat}(hS:∀i,i<c.fr.length→(c.at i).sec∈S):c.fr.length≤S.length:=by
 have hheld:∀i,i<c.fr.length→(c.at i).held=true:=fun i hi=>by
  cases q:(c.at i).held with
  |true=>rfl
  |false=>have:=(h.fh i hi).1 q;rw[hf] at this;cases this
 have hn:((Mz c.fr.length).map fun i=>(c.at i).sec).Nodup:=by
  refine List.pairwise_map.2 (List.Pairwise.imp_of_mem (fun{a b} ha hb hne e=>hne ?_) List.nodup_range);exact h.ds a b (Nf.1 ha) (Nf.1 hb) (hheld a (Nf.1 ha)) (hheld b (Nf.1 hb)) e
 have:=D6 hn (m:=S) (fun x hx=>by
  obtain⟨i,hi,rfl⟩:=List.mem_map.1 hx;exact hS i (Nf.1 hi))
 simpa using this
def I5(h:Inv cur N c)(hp:AW c k≠0):
  Inv cur N (By c k).1∧(By c k).2=0∧(∀s,AW (By c k).1 s=if s=k then AW c s - 1 else AW c s)∧(By c k).1.fr.length=c.fr.length∧(By c k).1.hits=c.hits∧(By c k).1.miss=c.miss∧(By c k).1.free=c.free∧
   ∀s,findF s (By c k).1.fr=findF s c.fr:=by
 unfold By
 cases hf:findF k c.fr with
 |none=>rw[AW,hf] at hp;exact absurd rfl hp
 |some i=>
  have hpi:(c.fr.getD i fz).pins≠0:=by rw[AW,hf] at hp;exact hp
  simp only[if_neg hpi]
  obtain⟨h1,h2,h3⟩:=Bs hf
  have hfind:∀s,findF s (c.fr.set i {c.fr.getD i fz with pins:=(c.fr.getD i fz).pins - 1})=findF s c.fr:=by
   intro s;have gen:∀(l:List Fr) (i:Nat) (f:Fr),f.held=(l.getD i fz).held→f.sec=(l.getD i fz).sec→findF s (l.set i f)=findF s l:=by
    intro l;induction l with
    |nil=>intro i f _ _;rfl
    |cons g l ih=>
     intro i f e1 e2
     cases i with
     |zero=>simp only[List.getD_cons_zero] at e1 e2;rw[List.set_cons_zero,findF,findF,e1,e2]
     |succ i=>simp only[List.getD_cons_succ] at e1 e2;rw[List.set_cons_succ,findF,findF,ih i f e1 e2]
   exact gen c.fr i _ rfl rfl
  refine⟨h.same (by simp) rfl h.hd (fun j=>?_),trivial,fun s=>?_,by simp,trivial,trivial,trivial,hfind⟩
  ·simp only[CD.at,at_set h1]
   by_cases q:j=i
   ·subst q;rw[if_pos rfl];exact⟨rfl,rfl,rfl,fun z=>by rw[CD.at] at h2;rw[h2] at z;cases z⟩
   ·rw[if_neg q];exact⟨rfl,rfl,rfl,fun _=>rfl⟩
  ·simp only[AW,hfind,CD.at]
   by_cases q:s=k
   ·subst q
    rw[if_pos rfl,hf]
    simp only[at_set h1,if_true]
   ·rw[if_neg q]
    cases hs:findF s c.fr with
    |none=>rfl
    |some j=>
     have hj:j≠i:=by
      rintro rfl;obtain⟨_,_,g3⟩:=Bs hs;exact q (g3.symm.trans h3)
     simp only[at_set h1,if_neg hj]
def Kt(cur:Nat→Sec)(N n:Nat)(h1:1≤n)(h2:n≤64):Inv cur N ⟨Mv n fz,Mz n,0,0,0⟩:=by
 have hat:∀i,(Mv n fz).getD i fz=fz:=fun i=>by
  rw[Mu,List.getElem?_replicate];split<;>rfl
 exact
 {n1:=by simpa using h1
  n2:=by simpa using h2
  hd:=by simp only[MQ];omega
  fl:=fun i hi=>by simpa using hi
  nd:=List.nodup_range
  fh:=fun i hi=>by simp only[CD.at,hat];simp at hi;simpa [fz] using hi
  ds:=fun i j _ _ hh _ _=>by simp only[CD.at,hat] at hh;cases hh
  vl:=fun i _ hh=>by simp only[CD.at,hat] at hh;cases hh
  pz:=fun i _ _=>by simp only[CD.at,hat];exact⟨rfl,rfl⟩}
def E4(n k:Nat):findF k (Mv n fz)=none:=by
 induction n with
 |zero=>rfl
 |succ n ih=>rw[List.replicate_succ,findF,ih];simp[fz]
def Inv.held(h:Inv cur N c):∀i (hi:i<(Bo c).length),(Bo c)[i]<N∧(∀j (hj:j<i),0≤(Bo c)[i]→(Bo c)[j]≠(Bo c)[i]):=by
 have hlen:(Bo c).length=c.fr.length:=by simp[Bo]
 have hget:∀i (hi:i<(Bo c).length),(Bo c)[i]=if (c.at i).held then((c.at i).sec:Int) else -1:=fun i hi=>by
  have e:c.at i=c.fr[i]'(hlen▸hi):=Cf _;rw[e];simp[Bo]
 intro i hi;rw[hget i hi];cases q:(c.at i).held with
 |false=>exact⟨by simp only[ME,if_false];omega,fun j _ z=>by simp at z⟩
 |true=>
  refine⟨by simp only[if_true];have:=(h.vl i (hlen▸hi) q).1;omega,fun j hj _ e=>?_⟩
  rw[hget j (by omega)] at e
  cases q':(c.at j).held with
  |false=>rw[q'] at e;simp at e
  |true=>
   rw[q'] at e
   simp only[if_true] at e
   have:=h.ds j i (by omega) (hlen▸hi) q' q (by omega)
   omega
def KX(h:Inv cur N c){m:Nat}(hp:∀s,AW c s≤m):∀f∈c.fr,f.pins≤m:=by
 intro f hf;obtain⟨i,hi,rfl⟩:=Nx hf;have e:c.at i=c.fr[i]:=Cf hi;cases q:(c.at i).held with
 |true=>have:=He h hi q;have:=hp (c.at i).sec;rw[←e];omega
 |false=>have:=(h.pz i hi q).1;rw[e] at this;omega
end Go.Gk.Cch
end
section
namespace Go.Gk.Pgr
open Go Go.Gk Go.Gk.Dev Go.Gk.Cch
structure PD where
 frm:Nat
 kinds:List Int
 fb:Nat→Sec
 syn:List Sec
 round:Nat
 tc:Nat
abbrev PD.kd(s:PD)(i:Nat):Int:=s.kinds.getD i 0
def PD.kind(s:PD)(k:Int):Int:=if (s.frm:Int)≤k∧k<(s.frm:Int)+s.kinds.length then s.kd (k - s.frm).toNat else -1
def Ix(fb:Nat→Sec)(i:Nat)(b:Sec):Nat→Sec:=fun j=>if j=i then b else fb j
def B1(x:Int):List Int→Option Nat
 |[]=>none
 |y::l=>if x=y then some 0 else(B1 x l).map (·+1)
def PD.FG(s:PD)(i:Nat):PD:={s with kinds:=s.kinds.set i 1,fb:=Ix s.fb i Fb}
def PD.take(s:PD):Option (Nat×PD):=(B1 0 s.kinds).map fun i=>(s.frm+i,s.FG i)
def PD.put(s:PD)(k:Int)(b:Sec):PD×Int:=if s.kind k=1 then(if b.length=256 then({s with fb:=Ix s.fb (k - s.frm).toNat b},0) else(s,2)) else(s,240)
def PD.get(s:PD)(k:Int):PD×Option Sec:=
 if s.kind k=1 then({s with tc:=s.tc+1},some (s.fb (k - s.frm).toNat)) else if s.kind k=2 then({s with tc:=s.tc+1},some (s.syn.getD k.toNat [])) else(s,none)
def PD.drop(s:PD)(k:Int):PD×Int:=
 if s.kind k=1 then({s with kinds:=s.kinds.set (k - s.frm).toNat 0},0) else if s.kind k=2 then({s with kinds:=s.kinds.set (k - s.frm).toNat 3},0) else(s,240)
def PD.writes(s:PD):Nat→List (Nat×Sec)
 |0=>[]
 |n+1=>s.writes n++(if s.kd n=1 then [(s.frm+n,s.fb n)] else [])
def PD.flush(s:PD):PD:={s with syn:=synced (s.writes s.kinds.length) s.syn}
def DZ(x:Int):Int:=if x=3 then 0 else if x=1 then 2 else x
def PD.done(s:PD):PD:={s with kinds:=s.kinds.map DZ,round:=s.round+1}
structure MD where
 kinds:List Int
 fb:Nat→Sec
 round:Nat
def PD.mark(s:PD):MD:=⟨s.kinds,s.fb,s.round⟩
def PD.free(s:PD):Nat:=s.kinds.countP (·==0)
def Is(frm:Nat):List Int→Nat→List Int
 |[],_=>[]
 |x::l,i=>if x=2 then((frm+i:Nat):Int)::Is frm l (i+1) else Is frm l (i+1)
def PD.AV(s:PD):List Int:=Is s.frm s.kinds 0
structure Good (s:PD):Prop where
 one:1≤s.kinds.length
 len:s.kinds.length≤8192
 inn:s.frm+s.kinds.length≤s.syn.length
 syn:s.syn.length≤8192
 kd:∀i,0≤s.kd i∧s.kd i≤3
structure BQ (s:PD) (c:CD):Prop where
 inv:Inv (fun k=>s.syn.getD k []) s.syn.length c
 zer:∀k,AW c k=0
 hold:∀k,findF k c.fr≠none→s.frm≤k∧k<s.frm+s.kinds.length∧2≤s.kd (k - s.frm)
def Dy{x:Int}:∀{l:List Int}{i:Nat},B1 x l=some i→∃h:i<l.length,l[i]=x
 |y::l,i,h=>by
  rw[B1] at h;split at h
  ·rename_i e;cases h;exact⟨by simp,by simp[e]⟩
  ·cases q:B1 x l with
   |none=>rw[q] at h;cases h
   |some j=>
    rw[q] at h;cases h
    obtain⟨h1,h2⟩:=Dy q
    exact⟨by simpa using h1,by simpa using h2⟩
def GX{s:PD}{i:Nat}(h:i<s.kinds.length):s.kd i=s.kinds[i]:=by rw[PD.kd,Mu,Mt h];rfl
def CA{l:List Int}{i j:Nat}{x:Int}(hi:i<l.length):(l.set i x).getD j 0=if j=i then x else l.getD j 0:=by
 simp only[Mu,List.getElem?_set];by_cases e:i=j
 ·subst e;simp[hi]
 ·rw[if_neg e,if_neg (fun h=>e h.symm)]
def DI{s:PD}{k:Int}{x:Int}(h:s.kind k=x)(hx:0≤x):∃i,i<s.kinds.length∧k=((s.frm+i:Nat):Int)∧s.kd i=x∧(k - s.frm).toNat=i:=by
 unfold PD.kind at h;split at h
 ·rename_i e;exact⟨(k - s.frm).toNat,by omega,by omega,h,rfl⟩
 ·omega
def KN{s:PD}{i:Nat}(hi:i<s.kinds.length):s.kind ((s.frm+i:Nat):Int)=s.kd i:=by
 unfold PD.kind;rw[if_pos (by omega)];congr 1;omega
def Og(l m:List Int):Prop:=l.length=m.length∧∀i,2≤l.getD i 0↔2≤m.getD i 0
def Og.refl(l:List Int):Og l l:=⟨rfl,fun _=>Iff.rfl⟩
def Og.trans{a b c:List Int}(h:Og a b)(k:Og b c):Og a c:=⟨h.1.trans k.1,fun i=>(h.2 i).trans (k.2 i)⟩
def Og.symm{a b:List Int}(h:Og a b):Og b a:=⟨h.1.symm,fun i=>(h.2 i).symm⟩
def Og.set{l:List Int}{i:Nat}{x:Int}(h:2≤x↔2≤l.getD i 0):Og (l.set i x) l:=by
 refine⟨by simp,fun j=>?_⟩
 by_cases hi:i<l.length
 ·rw[CA hi];by_cases e:j=i
  ·subst e;rw[if_pos rfl];exact h
  ·rw[if_neg e]
 ·rw[M7 (by omega)]
def Iw{b b':Sec}{c c':CD}{k:Nat}(hf:∀i∈c.free,i<c.fr.length)(hh:c.hand<c.fr.length)(h:Cw b c k=(c',some b')):∃m i f,c'.fr=m.set i f∧BA m c.fr∧i<m.length∧f.sec=k:=by
 unfold Cw at h;cases hq:findF k c.fr with
 |some i=>
  rw[hq] at h
  cases h
  obtain⟨h1,h2,h3⟩:=Bs hq
  exact⟨c.fr,i,_,rfl,BA.refl _,h1,h3⟩
 |none=>
  rw[hq] at h
  simp only at h
  cases hr:DW c with
  |mk c1 o=>
  rw[hr] at h
  cases o with
  |none=>cases h
  |some i=>
   cases h
   have hi:=KJ hh hf hr
   refine⟨c1.fr,i,_,rfl,?_,hi,rfl⟩
   unfold DW at hr
   split at hr
   ·cases hr;exact BA.refl _
   ·split at hr
    ·cases hr
    ·cases hr;exact DU _ _ _
def Kw{cur:Nat→Sec}{N:Nat}{c c':CD}{k:Nat}{b b':Sec}(h:Inv cur N c)(hg:Cw b c k=(c',some b')){s:Nat}(hs:s≠k)(hn:findF s c.fr=none):findF s c'.fr=none:=by
 obtain⟨m,i,f,e1,e2,e3,e4⟩:=Iw h.fl h.hd hg;cases q:findF s c'.fr with
 |none=>rfl
 |some j=>
  obtain⟨g1,g2,g3⟩:=Bs q
  simp only[CD.at,e1] at g1 g2 g3
  rw[at_set e3] at g2 g3
  by_cases hj:j=i
  ·rw[if_pos hj] at g3;exact absurd (g3.symm.trans e4) hs
  ·rw[if_neg hj] at g2 g3
   rw[(e2.2 j).1] at g2;rw[(e2.2 j).2.1] at g3
   exact absurd g3 (Ck hn (by rw[←e2.1];simpa using g1) g2)
def BQ.get{s}{c:CD}(h:BQ s c){k:Nat}(hk:k<s.syn.length)(h1:s.frm≤k)(h2:k<s.frm+s.kinds.length)(h3:2≤s.kd (k - s.frm)):
  ∃c',Cw (s.syn.getD k []) c k=(c',some (s.syn.getD k []))∧Fi c 4611686018427387904∧Fi c' 4611686018427387904∧(By c' k).2=0∧BQ s (By c' k).1:=by
 have hpb:∀{c:CD}{n:Nat},Inv (fun k=>s.syn.getD k []) s.syn.length c→(∀s,AW c s≤n)→n≤1000→Fi c 4611686018427387904:=fun hi hz hn f hf=>by
  have:=KX hi hz f hf;omega
 cases hr:Cw (s.syn.getD k []) c k with
 |mk c' o=>
 cases o with
 |none=>
  obtain⟨-,g2,g3,g4⟩:=get_none (cur:=fun k=>s.syn.getD k []) h.inv hr
  exfalso
  have h0:=h.inv.n1
  have hheld:(c.at 0).held=true:=by
   cases q:(c.at 0).held with
   |true=>rfl
   |false=>have:=(h.inv.fh 0 h0).1 q;rw[g3] at this;cases this
  have e:=He h.inv h0 hheld
  rw[h.zer] at e
  have:=List.all_eq_true.1 g4 _ (MV h0)
  rw[show c.at 0=c.fr[0] from Cf h0] at e
  simp[←e] at this
 |some b'=>
  obtain⟨g1,rfl,g3,g4,g5,g6,g7⟩:=get_some (cur:=fun k=>s.syn.getD k []) h.inv hk hr
  obtain⟨q1,q2,q3,q4,q5,q6,q7,q8⟩:=I5 g1 (k:=k) (by rw[g3,if_pos rfl];omega)
  refine⟨c',rfl,hpb h.inv (n:=0) (fun s=>by rw[h.zer];omega) (by omega),hpb g1 (n:=1) (fun s=>by rw[g3,h.zer];split<;>omega) (by omega),q2,q1,fun s=>?_,fun t ht=>?_⟩
  ·rw[q3,g3,h.zer];split<;>omega
  ·rw[q8] at ht
   by_cases e:t=k
   ·subst e;exact⟨h1,h2,h3⟩
   ·exact h.hold t (fun z=>ht (Kw h.inv hr e z))
end Go.Gk.Pgr
namespace Go.Gk.Pgr
open Go Go.Gk Go.Gk.Dev Go.Gk.Cch
def PD.Br(s:PD):PD×Int×Int:=match B1 0 s.kinds with|some i=>(s.FG i,((s.frm+i:Nat):Int),0)|none=>(s,0,190)
def Good.to'{s s'}(h:Good s)(h1:s'.frm=s.frm)(h2:s'.syn.length=s.syn.length)(e:s'.kinds=s.kinds):Good s':=
 ⟨by rw[e];exact h.one,by rw[e];exact h.len,by rw[h1,h2,e];exact h.inn,by rw[h2];exact h.syn,fun i=>by rw[PD.kd,e];exact h.kd i⟩
end Go.Gk.Pgr
namespace Go.Gk.Pgr
open Go Go.Gk Go.Gk.Dev Go.Gk.Cch
def D9{k:Nat}:∀{l:List (Nat×Sec)}{s:List Sec},(∀w∈l,w.1≠k)→(synced l s).getD k []=s.getD k []
 |[],_,_=>rfl
 |w::l,s,h=>by
  have e:synced (w::l) s=synced l (s.set w.1 w.2):=by simp[synced]
  rw[e,D9 (fun w' hw=>h w' (MX _ hw)),Mu,List.getElem?_set,if_neg (h w (MN ..)),←Mu]
def DY{s:PD}:∀{n:Nat}{w:Nat×Sec},w∈s.writes n→∃i,i<n∧s.kd i=1∧w=(s.frm+i,s.fb i)
 |n+1,w,h=>by
  rw[PD.writes,Mw] at h;rcases h with h|h
  ·obtain⟨i,h1,h2⟩:=DY h;exact⟨i,by omega,h2⟩
  ·split at h
   ·rename_i e;rw[MY] at h;exact⟨n,by omega,e,h⟩
   ·cases h
def Inv.K6{cur cur':Nat→Sec}{N:Nat}{c:CD}(h:Inv cur N c)(he:∀k,findF k c.fr≠none→cur' k=cur k):Inv cur' N c:=
 {h with vl:=fun i hi hh=>⟨(h.vl i hi hh).1,by rw[(h.vl i hi hh).2,he _ (by rw[h.find hi hh rfl];simp)]⟩}
def BQ.flush{s:PD}{c:CD}(h:BQ s c):BQ s.flush c:=by
 refine⟨?_,h.zer,h.hold⟩
 have hl:s.flush.syn.length=s.syn.length:=D3 _ _;rw[hl];refine Inv.K6 h.inv (fun k hk=>?_);obtain⟨h1,h2,h3⟩:=h.hold k hk;refine D9 (fun w hw e=>?_);obtain⟨i,h4,h5,rfl⟩:=DY hw;simp only at e;rw[←e,show s.frm+i - s.frm=i by omega] at h3;omega
def Good.flush{s}(h:Good s):Good s.flush:=h.to' rfl (D3 _ _) rfl
def Mid(i:Nat)(l m:List Int):Prop:=m.length=l.length∧∀j,m.getD j 0=if j<i then DZ (l.getD j 0) else l.getD j 0
def Mid.zero(l:List Int):Mid 0 l l:=⟨rfl,fun j=>by rw[if_neg (by omega)]⟩
def Mid.next{i:Nat}{l m:List Int}(h:Mid i l m)(hi:i<l.length):Mid (i+1) l (m.set i (DZ (l.getD i 0))):=by
 refine⟨by simpa using h.1,fun j=>?_⟩
 rw[CA (by rw[h.1];exact hi),h.2];by_cases e:j=i
 ·subst e;rw[if_pos rfl,if_pos (by omega)]
 ·rw[if_neg e];by_cases q:j<i
  ·rw[if_pos q,if_pos (by omega)]
  ·rw[if_neg q,if_neg (by omega)]
def Mid.same{i:Nat}{l m:List Int}(h:Mid i l m)(hi:i<l.length)(hs:DZ (l.getD i 0)=l.getD i 0):Mid (i+1) l m:=by
 refine⟨h.1,fun j=>?_⟩
 rw[h.2];by_cases e:j=i
 ·subst e;rw[if_neg (by omega),if_pos (by omega),hs]
 ·by_cases q:j<i
  ·rw[if_pos q,if_pos (by omega)]
  ·rw[if_neg q,if_neg (by omega)]
def JW{l m:List Int}(h:l.length=m.length)(he:∀j,l.getD j 0=m.getD j 0):l=m:=by
 refine List.ext_getElem h (fun j h1 h2=>?_);have:=he j;rwa [Mu,Mu,Mt h1,Mt h2] at this
def getD_map{l:List Int}{j:Nat}:(l.map DZ).getD j 0=DZ (l.getD j 0):=by
 simp only[Mu,Nt];cases l[j]?<;>rfl
def Mid.done{i:Nat}{l m:List Int}(h:Mid i l m)(hi:l.length≤i):m=l.map DZ:=by
 refine JW (by simpa using h.1) (fun j=>?_);rw[h.2,getD_map];by_cases e:j<i
 ·rw[if_pos e]
 ·rw[if_neg e,Mu,MP (by omega)];rfl
end Go.Gk.Pgr
namespace Go.Gk.Pgr
end Go.Gk.Pgr
namespace Go.Gk.Pgr
open Go Go.Gk Go.Gk.Dev Go.Gk.Cch
end Go.Gk.Pgr
namespace Go.Gk.Pgr
open Go Go.Gk Go.Gk.Dev Go.Gk.Cch
def Bj(n:Nat)(l:List Nat):List Int:=l.foldl (fun ks k=>ks.set k 2) (Mv n 0)
def HN{n k:Nat}{l:List Nat}:Bj n (l++[k])=(Bj n l).set k 2:=by simp[Bj]
def Gy{l:List Nat}:∀{ks:List Int},(l.foldl (fun ks k=>ks.set k 2) ks).length=ks.length:=by
 induction l with
 |nil=>intro ks;rfl
 |cons x l ih=>intro ks;rw[List.foldl_cons,ih,M0]
def CV{n:Nat}{l:List Nat}:(Bj n l).length=n:=by rw[Bj,Gy,MQ]
def GN{l:List Nat}{j:Nat}:∀{ks:List Int},j<ks.length→(l.foldl (fun ks k=>ks.set k 2) ks).getD j 0=if j∈l then 2 else ks.getD j 0:=by
 induction l with
 |nil=>intro ks _;simp
 |cons x l ih=>
  intro ks hj
  rw[List.foldl_cons,ih (by rw[M0];exact hj)]
  by_cases h:j∈l
  ·rw[if_pos h,if_pos (MX _ h)]
  ·rw[if_neg h]
   by_cases e:j=x
   ·subst e;rw[CA hj,if_pos rfl,if_pos (MN ..)]
   ·rw[if_neg (by simp[e,h])]
    by_cases hx:x<ks.length
    ·rw[CA hx,if_neg e]
    ·rw[M7 (by omega)]
def E3{n j:Nat}{l:List Nat}:(Bj n l).getD j 0=if j<n∧j∈l then 2 else 0:=by
 by_cases hj:j<n
 ·rw[Bj,GN (by rw[MQ];exact hj)];by_cases h:j∈l
  ·rw[if_pos h,if_pos ⟨hj,h⟩]
  ·rw[if_neg h,if_neg (fun q=>h q.2),Mu,List.getElem?_replicate];split<;>rfl
 ·rw[if_neg (fun q=>hj q.1),Mu,MP (by rw[CV];omega)];rfl
def E4{k m:Nat}:findF k (Mv m fz)=none:=by
 cases h:findF k (Mv m fz) with
 |none=>rfl
 |some i=>
  obtain⟨h1,h2, -⟩:=D2 h
  rw[List.getElem_replicate] at h2
  cases h2
def BQ.new{s}{m:Nat}(h1:1≤m)(h2:m≤64):BQ s ⟨Mv m fz,Mz m,0,0,0⟩:=
 ⟨Kt _ _ m h1 h2,fun k=>by rw[AW,E4],fun k hk=>absurd E4 hk⟩
def Good.new{frm n:Nat}{l:List Nat}{fb:Nat→Sec}{syn:List Sec}(h1:1≤n)(h2:frm+n≤syn.length)(h3:syn.length≤8192):Good ⟨frm,Bj n l,fb,syn,0,0⟩:=
 ⟨by rw[CV];exact h1,by rw[CV];omega,by rw[CV];exact h2,h3,fun i=>by
  show 0≤(Bj n l).getD i 0∧(Bj n l).getD i 0≤3;rw[E3];split<;>decide⟩
end Go.Gk.Pgr
end
section
namespace Go.Gk.Dev
open Go Go.Gk
section
attribute [local irreducible] gwp gws xwp
end
end Go.Gk.Dev
end
section
namespace Go.Gk.Cch
open Go Go.Gk Go.Gk.Dev
attribute [local irreducible] gwp gws xwp
section
def RFr(d:Aa)(cs:List Value)(f:Fr):Prop:=∃a n c,cs=[.bool f.held,vZ f.sec,vZ f.pins,.bool f.late,.slice a n c]∧A4 d (.slice a n c) f.b
def KQ:D1 RFr:=fun hl ⟨a,n,c,h1,h2⟩=>⟨a,n,c,h1,h2.mono hl⟩
def wr(n:Nat):Int:=IntKind.i64.wrap (n:Int)
section
variable {P:Program}{pan:List PanicEntry→Ah}{Qn:Env→Ah}{Ls L:List Aa}{ρ:Env}{d:Aa}{s:GS}{t:Nat}{tk:Bool}
end
def Ca(d:Aa)(c:CD)(dv cv:Value)(L:List Aa):Prop:=
 ∃b T bf cp cb hf s r bd,cv=pZ b∧dv=pZ bd∧
  L=[bx b T [dv,.slice (some ⟨bf,0,none⟩) c.fr.length cp,.chan (some cb),vZ c.hand,vZ (wr c.hits),vZ (wr c.miss)],hf,sg cb (.chan c.fr.length (c.free.map fun i:Nat=>Value.int .i64 i).toArray false s r false)]∧
  Ai 5 RFr d (.slice (some ⟨bf,0,none⟩) c.fr.length cp) c.fr hf∧1≤c.fr.length∧c.fr.length≤64∧c.hand<c.fr.length∧∀i∈c.free,i<c.fr.length
def Ca.mono{d d'}{c:CD}{dv cv L}(h:Ca d c dv cv L)(hl:Le d d'):Ca d' c dv cv L:=
 let ⟨b,T,bf,cp,cb,hf,s,r,bd,h1,h2,h3,h4,h5⟩:=h
 ⟨b,T,bf,cp,cb,hf,s,r,bd,h1,h2,h3,Ai.mono (R:=RFr) KQ h4 hl,h5⟩
def Ca.mk{d}{c:CD}{b bf cp cb s r bd n:Nat}{T hf}(hn:c.fr.length=n)(hg:Ai 5 RFr d (.slice (some ⟨bf,0,none⟩) n cp) c.fr hf)(h1:1≤n)(h2:n≤64)(h3:c.hand<n)(h4:∀i∈c.free,i<n):
  Ca d c (pZ bd) (pZ b) [bx b T [pZ bd,.slice (some ⟨bf,0,none⟩) n cp,.chan (some cb),vZ c.hand,vZ (wr c.hits),vZ (wr c.miss)],hf,
   sg cb (.chan n (c.free.map fun i:Nat=>Value.int .i64 i).toArray false s r false)]:=by
 subst hn
 exact⟨b,T,bf,cp,cb,hf,s,r,bd,rfl,rfl,rfl,hg,h1,h2,h3,h4⟩
def FX(P:Program)(f:FuncId):Prop:=∀{d}{b bd:Nat}{T l},Cv P f [pZ b] d [bx b T (.pointer (some ⟨bd,0,none⟩)::l)] (.bool false)
def Ef:A3:=⟨12,[(.tmp 2)],(sR (o1 2 (.mv (.const (.bool false))) .done) (sR (om 3 0<|o1 4 (.eqp false 3 (.const (.pointer none)))<|om 5 4<|gF 6 5 0<|oF 7 5 (.nilc 6)<|oF 8 5 (.fld 0 7)<|oF 9 5 (.ld none 8)<|oF 10 5 (.eqp false 9 (.const (.pointer none)))<|o1 11 (.pick 5 (.const (.bool true)) 10)<|om 2 11 .done) .ret))⟩
def JT{P f}(hd:dec P f=some Ef):FX P f:=by
 intro d b bd T l;refine Aq hd (Ms rfl) ?_;show gwp P _ _ _ _ _;(refine Ae<|Ag rfl<|Ab<|Ae<|Ad rfl<|A1 rfl rfl<|Ag rfl<|Af rfl<|Ad rfl<|Af rfl<|AM rfl<|Af rfl<|AR rfl<|Af rfl<|AX rfl (A5 0 rfl rfl)<|Af rfl<|A1 rfl rfl<|Al rfl rfl<|Ag rfl<|Ab<|As ?_);exact FV rfl (MC _)
end
def LI(d:Aa)(r:Value)(o:Option Sec):Prop:=match o with|some b=>∃u,r=.tuple #[u,vZ 0]∧A4 d u b|none=>r=.tuple #[.slice none 0 0,vZ 180]
def IJ(P:Program)(f:FuncId):Prop:=∀{d}{c:CD}{D:CW}{dv cv LC LD}{k:Nat},Ca d c dv cv LC→Dv d D dv LD→Fi c 4611686018427387904→k<D.syn.length→
 Aj P f [cv,vZ k] d (LC++LD) (Ret fun r d' L'=>∃LC' LD',L'=LC'++LD'∧Ca d' (Cw (D.cur k) c k).1 dv cv LC'∧Dv d' D dv LD'∧LI d' r (Cw (D.cur k) c k).2)
def GZ(P:Program)(f:FuncId):Prop:=∀{d}{c:CD}{dv cv L}{k:Nat},Ca d c dv cv L→Fi c 4611686018427387904→
 Aj P f [cv,vZ k] d L (Ret fun r d' L'=>d'=d∧r=vZ (By c k).2∧Ca d (By c k).1 dv cv L')
def Gs(P:Program)(f:FuncId):Prop:=∀{d}{c:CD}{dv cv L}{k:Nat},Ca d c dv cv L→(∀i,findF k c.fr=some i→c.free.length<c.fr.length)→
 Aj P f [cv,vZ k] d L (Ret fun r d' L'=>d'=d∧r=vZ (EF c k).2∧Ca d (EF c k).1 dv cv L')
def DE(P:Program)(f:FuncId):Prop:=∀{d}{c:CD}{dv cv L},Ca d c dv cv L→(∀f∈c.fr,f.sec≤8192)→
 Aj P f [cv] d L (Ret fun r d' L'=>L'=L∧CI d' r (Bo c))
def Eb(a0:Nat):A3:=⟨29,[(.tmp 2)],(sR (o1 2 (.mv nS) .done) (.seq (sR (om 6 0<|oc 7 a0 [6] .done) (.cond 7 (sR (o1 2 (.mv nS) .done) .ret) .skip)) (sR (o1 3 (.mv nS) .done) (.seq (sR (om 8 0<|o1 9 (.nilc 8)<|oj 10 1 9<|ol 11 10<|oL 12 11<|o1 13 (.mv z0) .done) (.block 0 (.loop (sR (ob 14 .lss 13 12 .done) (.seq (.cond 14 .skip (.exit 0)) (.seq (.block 1 (sR (oI 15 5 11 13<|o1 16 (.ld (some 5) 15)<|o1 5 (.alo (.agg #[(.bool false),(vZ 0),(vZ 0),(.bool false),(.slice none 0 0)]))<|o0 (.st 5 5 16) .done) (sR (oj 17 0 5<|ol 18 17 .done) (.cond 18 (rG (om 19 3<|oj 20 1 5<|ol 21 20<|o1 22 (.bsl 1 1 [(vZ 0)] [(0,21)])<|o1 23 (.app 1 8 [(vZ 0)] 19 22)<|om 3 23 .done)) (rG (om 24 3<|o1 25 (.bsl 1 1 [(vZ 0)] [(0,(kZ (-1)))])<|o1 26 (.app 1 8 [(vZ 0)] 24 25)<|om 3 26 .done)))))) (rG (ob 27 .add 13 z1<|om 13 27 .done)))))))) (sR (om 28 3<|om 2 28 .done) .ret)))))⟩
def JX{P f f1}(hd:dec P f=some (Eb f1))(h1:FX P f1):DE P f:=by
 intro d c dv cv L h hsec;obtain⟨b,T,bf,cp,cb,hf,s,r,bd,rfl,rfl,rfl,hg,hl1,hl2,hh,hfr⟩:=h;refine Aq hd (Ms rfl) ?_;show gwp P _ _ _ _ _;(refine Ae<|A0 rfl<|Ab<|An<|Ae<|Ad rfl ?_);refine Hb (A:=[_]) (B:=[_,_]) rfl rfl h1 ?_;refine F2 ⟨d,emp::[bx b T [pZ bd,.slice (some ⟨bf,0,none⟩) c.fr.length cp,.chan (some cb),vZ c.hand,vZ (wr c.hits),vZ (wr c.miss)],hf,sg cb (.chan c.fr.length (c.free.map fun i:Nat=>Value.int .i64 i).toArray false s r false)],Vs.emp,?_⟩;(refine Bd rfl<|Av<|Ae<|A0 rfl<|Ab<|An<|Ae<|Ad rfl<|AM rfl<|AR rfl<|AX rfl (A5 1 rfl rfl)<|BU rfl<|Ac rfl<|Ab<|AK ?_);have hlen:(Bo c).length=c.fr.length:=by simp[Bo]
 refine Cz (α:=Nat×Value×Aa) (fun x=>[(3,x.2.1),(11,.slice (some ⟨bf,0,none⟩) c.fr.length cp),(12,vZ c.fr.length),(13,vZ x.1)])
  (fun x d' L'=>d'=d∧x.1≤c.fr.length∧Ai 1 AT d x.2.1 ((Bo c).take x.1) x.2.2∧L'=x.2.2::[bx b T [pZ bd,.slice (some ⟨bf,0,none⟩) c.fr.length cp,.chan (some cb),vZ c.hand,vZ (wr c.hits),vZ (wr c.miss)],hf,sg cb (.chan c.fr.length (c.free.map fun i:Nat=>Value.int .i64 i).toArray false s r false)])
  (fun x=>c.fr.length - x.1) (0,.slice none 0 0,emp) ⟨rfl,rfl,rfl,rfl,trivial⟩ ⟨rfl,by omega,Ai.nil,rfl⟩ ?_
 rintro⟨i,v,hv⟩ ρ d' L' ⟨rfl,hi,hrow,rfl⟩;simp only at hi hrow⊢;by_cases e:i<c.fr.length
 ·obtain⟨b1,T1,l1,c1,cs,q1,rfl,hcl,hcs,hle,⟨a,n,c',rfl,hb⟩,hset⟩:=Ai.at (by omega) hg e;cases q1;have hsi:=hsec _ (MV e);have htl:((Bo c).take i).length=i:=by rw[MW];omega
  have hnext:(Bo c).take (i+1)=(Bo c).take i++[if c.fr[i].held then(c.fr[i].sec:Int) else -1]:=by
   rw[List.take_succ_eq_append_getElem (by omega)];simp[Bo]
  (refine Ae<|AI rfl rfl<|Ab<|An<|Bf rfl (by omega)<|Av<|An<|AK<|Ae<|C8 _ rfl rfl rfl (by omega) ?_);refine Mb _ 2 rfl rfl hcl hcs ?_;(apply Lr;intro _ _);refine Mf 0 rfl rfl rfl rfl rfl rfl ?_;cases hh:c.fr[i].held with
  |true=>
   (refine Ab<|Ae<|AR rfl<|AX rfl (A5 0 rfl rfl)<|Ab<|BL rfl<|A6<|Bg<|AR rfl<|AX rfl (A5 0 rfl rfl) ?_)
   refine Fu rfl rfl (fun b3 T3=>?_)
   refine D8 (R:=AT) 1 rfl rfl hrow rfl (Ai.Hc (x:=(c.fr[i].sec:Int)) rfl ⟨rfl,by omega,by omega⟩) CR (by omega) (by rw[htl];simp;omega) (by rw[htl];simp;omega) (fun v' h' ho'=>?_)
   refine Dz d' (h'::[_,_,_]) (Vs.drop (MU _ _)) ?_
   (refine Bg<|Ab<|A6<|BW rfl rfl (by omega) (by omega)<|Ac rfl<|Ab ?_)
   rw[hh] at hnext
   exact⟨(i+1,v',h'),by simp only;omega,⟨rfl,rfl,rfl,rfl,trivial⟩,rfl,e,by simp only[hnext];exact ho',rfl⟩
  |false=>
   (refine Ab<|Ae<|AR rfl<|AX rfl (A5 0 rfl rfl)<|Ab<|Bd rfl<|A6<|Bg ?_)
   refine Fu rfl rfl (fun b3 T3=>?_)
   refine D8 (R:=AT) 1 rfl rfl hrow rfl (Ai.Hc (x:=(-1:Int)) rfl ⟨rfl,by omega,by omega⟩) CR (by omega) (by rw[htl];simp;omega) (by rw[htl];simp;omega) (fun v' h' ho'=>?_)
   refine Dz d' (h'::[_,_,_]) (Vs.drop (MU _ _)) ?_
   (refine Bg<|Ab<|A6<|BW rfl rfl (by omega) (by omega)<|Ac rfl<|Ab ?_)
   rw[hh] at hnext
   exact⟨(i+1,v',h'),by simp only;omega,⟨rfl,rfl,rfl,rfl,trivial⟩,rfl,e,by simp only[hnext];exact ho',rfl⟩
 ·(refine Ae<|AI rfl rfl<|Ab<|An<|A2 rfl (by omega)<|CM<|Ae<|Bg<|Bg<|Ab<|As ?_);rw[List.take_of_length_le (by omega)] at hrow;exact Cm [v] ⟨rfl,trivial⟩ Vs.freeze ⟨rfl,Ai.rsl (R:=AT) hrow Ce (by omega) (Le.Ap _ _) (Le.AF _ _)⟩
def ID(P:Program)(f:FuncId):Prop:=∀{d}{c:CD}{dv cv L},Ca d c dv cv L→Cv P f [cv] d L (vZ (wr c.hits))
def GV(P:Program)(f:FuncId):Prop:=∀{d}{c:CD}{dv cv L},Ca d c dv cv L→Cv P f [cv] d L (vZ (wr c.miss))
def DP(P:Program)(f:FuncId):Prop:=∀{d}{D:CW}{dv LD}{n:Nat},Dv d D dv LD→1≤D.syn.length→1≤n→n≤64→
 Aj P f [dv,vZ n] d LD (Ret fun r d' L'=>d'=d∧∃cv LC,r=.tuple #[cv,vZ 0]∧L'=LC++LD∧Ca d ⟨Mv n fz,Mz n,0,0,0⟩ dv cv LC)
def Hp(a0:Nat):Ig:=(.mk 37 [(.tmp 4),(.tmp 5)] (.seq (.g (rG (o1 4 (.mv (.const (.pointer none)))<|o1 5 (.mv z0) .done))) (.seq (.g (.block 0 (sR (om 9 0<|oc 10 a0 [9]<|ob 11 .eql 10 z0<|om 8 11 .done) (.cond 8 (sR (o1 4 (.mv (.const (.pointer none)))<|o1 5 (.mv z1) .done) .ret) (sR (om 13 1<|ob 14 .lss 13 z1<|om 15 14<|gF 16 15 1<|oF 17 15 (.bin .gtr 16 (kZ 64))<|o1 18 (.pick 15 (.const (.bool true)) 17)<|om 12 18 .done) (.cond 12 (sR (o1 4 (.mv (.const (.pointer none)))<|o1 5 (.mv z2) .done) .ret) .skip)))))) (.seq (.g (.reg true (pm 19 0<|pm 20 1<|pm 22 1 (.alt ⟨(some 21),none,(.mks 5 56 [(.bool false),(vZ 0),(vZ 0),(.bool false),(.slice none 0 0)] 20 20)⟩ (o1 23 (.mop (.mkc 8 22)) (p1 24 (.bld [(0,1),(1,1),(2,1),(3,1),(4,1),(5,1)] [(.pointer none),(.slice none 0 0),(.chan none),(vZ 0),(vZ 0),(vZ 0)] [(0,19),(1,21),(2,23)]) (o1 25 (.box 24) (.bar (pm 6 25 .done))))) (o1 23 (.mop (.mkc 8 22)) (o1 21 (.mks 5 56 [(.bool false),(vZ 0),(vZ 0),(.bool false),(.slice none 0 0)] 20 20) (p1 24 (.bld [(0,1),(1,1),(2,1),(3,1),(4,1),(5,1)] [(.pointer none),(.slice none 0 0),(.chan none),(vZ 0),(vZ 0),(vZ 0)] [(0,19),(1,21),(2,23)]) (o1 25 (.box 24) (.bar (pm 6 25 .done)))))))))) (.seq (.seq (.g (rG (om 26 1<|o1 27 (.mv z0) .done))) (.block 1 (.loop (.seq (.g (rG (ob 28 .lss 27 26 .done))) (.seq (.g (.cond 28 .skip (.exit 1))) (.seq (.block 2 (.seq (.g (rG (om 29 27<|om 7 29 .done))) (.snd (om 30 6<|o1 31 (.nilc 30)<|oj 32 2 31<|ol 33 32<|om 34 7 .done) none 33 34 .done))) (.g (rG (ob 35 .add 27 z1<|om 27 35 .done))))))))) (.g (sR (om 36 6<|om 4 36<|o1 5 (.mv z0) .done) .ret)))))))
def KU{P f f1}(hd:JO false false P f=some (Hp f1))(h1:EB P f1):DP P f:=by
 intro d D dv LD n hD hs hn1 hn2;have hD0:=hD;obtain⟨bd, -, -, -, -, -, -,rfl, -⟩:=hD;refine Jb hd (Ms rfl) ?_;show xwp P _ _ _ _ _;(apply Dc;apply x_g;apply A6;apply Ad;rfl;apply Ac;rfl;apply Ab;apply Dc;apply x_g;apply AK;apply An;apply A6;apply Ad;rfl);refine HB (A:=LD) (B:=[]) (by rw[M9]) rfl (h1 hD0) ?_;(refine BK rfl rfl<|Ag rfl<|Ab<|A2 rfl (by omega)<|Ae<|Ac rfl<|AI rfl rfl<|Ag rfl<|AA rfl (by omega)<|Af rfl<|Ac rfl<|Af rfl<|EL rfl rfl<|Al rfl rfl<|Ag rfl<|Ab<|A2 rfl (by omega)<|Av ?_;apply Dc;apply x_g);refine LO (fun ρ d' L'=>d'=d∧∃b T bf Tf cb,AE ρ [(1,vZ n),(6,pZ b)]∧
  L'=[bx b T [pZ bd,.slice (some ⟨bf,0,none⟩) n n,.chan (some cb),vZ 0,vZ 0,vZ 0],bx bf Tf (Aw [.bool false,vZ 0,vZ 0,.bool false,.slice none 0 0] (n*5)),sg cb (.chan n #[] false 0 0 false)]++LD) ?_ ?_
 ·refine DN [] _ rfl ?_;(refine Ad rfl<|Ac rfl<|Ac rfl ?_);refine LN ?_ ?_
  ·refine Fz rfl rfl (MR n) (by omega) (by omega) (fun bf Tf=>?_);refine Ki rfl (by omega) (by omega) (fun cb=>?_);refine BT (cs:=[pZ bd,.slice (some ⟨bf,0,none⟩) n n,.chan (some cb),vZ 0,vZ 0,vZ 0]) rfl ?_;refine BF rfl (fun b T=>?_);(refine EJ<|Ad rfl ?_);exact F2 ⟨d,_::_::_::LD,Vs.perm ((ML _ _ LD).cons _),rfl,b,T,bf,Tf,cb,⟨rfl,rfl,trivial⟩,rfl⟩
  ·refine Ki rfl (by omega) (by omega) (fun cb=>?_);refine Fz rfl rfl (MR n) (by omega) (by omega) (fun bf Tf=>?_);refine BT (cs:=[pZ bd,.slice (some ⟨bf,0,none⟩) n n,.chan (some cb),vZ 0,vZ 0,vZ 0]) rfl ?_;refine BF rfl (fun b T=>?_);(refine EJ<|Ad rfl ?_);exact F2 ⟨d,[_,_,_]++LD,Vs.refl _ _,rfl,b,T,bf,Tf,cb,⟨rfl,rfl,trivial⟩,rfl⟩
 ·rintro ρ d' L' ⟨rfl,b,T,bf,Tf,cb,hsl,rfl⟩;refine HH _ hsl ?_;(apply Dc;apply Dc;apply x_g;apply A6;apply Ac;rfl;apply Ac;rfl;apply Ab;apply HK);refine KA (α:=Nat) (fun i=>[(6,pZ b),(26,vZ n),(27,vZ i)])
   (fun i d2 L'=>d2=d'∧i≤n∧L'=[bx b T [pZ bd,.slice (some ⟨bf,0,none⟩) n n,.chan (some cb),vZ 0,vZ 0,vZ 0],bx bf Tf (Aw [.bool false,vZ 0,vZ 0,.bool false,.slice none 0 0] (n*5)),sg cb (.chan n ((Mz i).map fun i:Nat=>Value.int .i64 i).toArray false i 0 false)]++LD)
   (fun i=>n - i) 0 ⟨rfl,rfl,rfl,trivial⟩ ⟨rfl,by omega,rfl⟩ ?_
  rintro i ρ d2 L2 ⟨rfl,hi,rfl⟩;by_cases e:i<n
  ·(apply Dc;apply x_g;apply A6;apply AI;rfl;rfl;apply Ab;apply Dc;apply x_g;refine Bf rfl (by omega) ?_;apply Av;apply Dc;apply HK;apply Dc;apply x_g;apply A6;apply Ac;rfl;apply Ac;rfl;apply Ab;apply Mh;apply Ad;rfl;apply AM;rfl;apply AR;rfl;apply AX;rfl;exact A5 0 rfl rfl;apply Ac;rfl;apply Ab);refine K9 (cap:=n) (buf:=(Mz i).map fun i:Nat=>Value.int .i64 i) (v:=vZ i) 2 rfl rfl (by simpa using e) rfl ?_;(apply Ab;apply x_g;refine A6<|BW rfl rfl (by omega) (by omega)<|Ac rfl<|Ab ?_);refine⟨i+1,by omega,⟨rfl,rfl,rfl,trivial⟩,rfl,e,?_⟩
   rw[List.range_succ,List.map_append];rfl
  ·(apply Dc;apply x_g;apply A6;apply AI;rfl;rfl;apply Ab;apply Dc;apply x_g;refine A2 rfl (by omega) ?_;apply CM;apply x_g;apply An;apply A6;apply Ad;rfl;apply Ad;rfl;apply Ac;rfl;apply Ab;apply As);have ei:i=n:=by omega
   subst ei;refine G4 rfl rfl (MC _) ⟨rfl,_,_,rfl,rfl,?_⟩;have hw0:wr 0=0:=rfl;have:=Ca.mk (c:=⟨Mv i fz,Mz i,0,0,0⟩) (d:=d2) (b:=b) (T:=T) (cb:=cb) (s:=i) (r:=0) (bd:=bd) (n:=i) (by simp) (Ai.zero (b:=bf) (T:=Tf) (R:=RFr) (x:=fz) rfl (by omega) ⟨none,0,0,rfl,RSl.nil⟩ (by omega)) hn1 hn2 hn1 (fun j hj=>by simpa using hj);exact this
end Go.Gk.Cch
end
section
namespace Go.Gk.Node
open Go Go.Gk
attribute [local irreducible] gwp gws
def F5{α}(R:Aa→List Value→α→Prop)(by_:Nat)(P:Program)(f:FuncId):Prop:=∀{d v}{xs:List α},RSl 1 R d v xs→xs.length*by_≤140737488355328→
 Aj P f [v] d [] (Ret fun r d' L'=>d'=d∧∃h,L'=[h]∧Ai 1 R d r xs h)
def Dw:A3:=⟨8,[(.tmp 2)],(sR (o1 2 (.mv nS) .done) (.seq (sR (om 3 0<|o1 4 (.eqs false 3 nS) .done) (.cond 4 (sR (o1 2 (.mv nS) .done) .ret) .skip)) (sR (o1 5 (.bsl 0 1 [(vZ 0)] [])<|om 6 0<|o1 7 (.app 1 8 [(vZ 0)] 5 6)<|om 2 7 .done) .ret)))⟩
def Gx{P f}(hd:dec P f=some Dw):F5 AT 8 P f:=by
 intro d v xs hv hb;have hv':=hv;have hxl:=RSl.DH hv;obtain⟨a,c,b,o,rfl,h2,h3,h4,h5,_⟩:=hv;refine Aq hd (Ms rfl) ?_;show gwp P _ _ _ _ _;cases a with
 |none=>
  have:xs=[]:=List.eq_nil_of_length_eq_zero (by have:=h4 rfl;omega)
  subst this
  apply An;apply A6
  refine Dz d [emp] Vs.emp ?_
  (refine A0 rfl<|Ab<|An<|Ae<|A0 rfl<|LG rfl rfl<|Ab<|BL rfl<|Ae<|A0 rfl<|Ab<|As ?_)
  exact FZ (L':=[emp]) rfl (MC _) ⟨rfl,emp,rfl,Ai.nil⟩
 |some a=>
  (refine Ae<|A0 rfl<|Ab<|An<|Ae<|A0 rfl<|LF rfl rfl<|Ab<|Bd rfl<|Av<|Ae ?_)
  refine Gz (cs:=[]) (by omega) rfl (fun b8 T8=>?_)
  (apply A0;rfl)
  refine LB 0 rfl rfl (Ai.Mo (R:=AT) (sz:=1)) rfl (RSl.src (R:=AT) (xs:=xs) hv' CR (by omega) _) (by omega) (by simp;omega) (by simp;omega) (fun v5 h5 hrow5=>?_)
  (refine Bg<|Ab<|As ?_)
  exact FZ (L':=[h5]) rfl (MC _) ⟨rfl,h5,rfl,hrow5⟩
end Go.Gk.Node
end
section
namespace Go.Gk.Pgr
open Go Go.Gk Go.Gk.Dev Go.Gk.Cch Go.Gk.Node
attribute [local irreducible] gwp gws xwp
variable{d:Aa}{s:PD}
abbrev kI(k:Int):Value:=.int .i64 k
abbrev mpI(mb:Nat)(ms:List (Int×Value×Nat))(clk:Nat):Aa:=mp kI id mb ms clk
def ED(d:Aa)(frm:Nat)(kinds:List Int)(fb:Nat→Sec)(ms:List (Int×Value×Nat)):Prop:=∀i,i<kinds.length→kinds.getD i 0=1→∃v,Lo ((frm+i:Nat):Int) ms=some v∧A4 d v (fb i)∧(fb i).length=256
def ED.mono{d'}{frm:Nat}{kinds:List Int}{fb:Nat→Sec}{ms:List (Int×Value×Nat)}(h:ED d frm kinds fb ms)(hl:Le d d'):ED d' frm kinds fb ms:=fun i hi hk=>
 let ⟨v,h1,h2,h3⟩:=h i hi hk
 ⟨v,h1,h2.mono hl,h3⟩
def Pg(d:Aa)(s:PD)(dv pv:Value)(L:List Aa):Prop:=
 ∃b T cv bk cp hk mb ms clk c LC LD bd,pv=pZ b∧dv=pZ bd∧
  L=bx b T [dv,cv,vZ s.frm,.slice (some ⟨bk,0,none⟩) s.kinds.length cp,.map (some mb),vZ (wr s.round),vZ (wr s.tc)]::hk::mpI mb ms clk::(LC++LD)∧
  Ai 1 AT d (.slice (some ⟨bk,0,none⟩) s.kinds.length cp) s.kinds hk∧ED d s.frm s.kinds s.fb ms∧Ca d c dv cv LC∧Dv d ⟨s.syn,[]⟩ dv LD∧BQ s c∧Good s
def Pg.mono{d' dv pv L}(h:Pg d s dv pv L)(hl:Le d d'):Pg d' s dv pv L:=
 let ⟨b,T,cv,bk,cp,hk,mb,ms,clk,c,LC,LD,bd,h1,h2,h3,h4,h5,h6,h7,h8,h9⟩:=h
 ⟨b,T,cv,bk,cp,hk,mb,ms,clk,c,LC,LD,bd,h1,h2,h3,Ai.mono (R:=AT) Ce h4 hl,h5.mono hl,h6.mono hl,h7.mono hl,h8,h9⟩
def Pg.ptr{dv pv L}(h:Pg d s dv pv L):∃b,pv=pZ b:=let ⟨b,_,_,_,_,_,_,_,_,_,_,_,_,h1,_⟩:=h;⟨b,h1⟩
def Pg.JV{dv pv L}(h:Pg d s dv pv L):Good s:=let ⟨_,_,_,_,_,_,_,_,_,_,_,_,_,_,_,_,_,_,_,_,_,h9⟩:=h;h9
def Pg.mk{b:Nat}{T cv}{bk cp n:Nat}{hk}{mb:Nat}{ms:List (Int×Value×Nat)}{clk:Nat}{c:CD}{LC LD}{bd:Nat}(hn:s.kinds.length=n)
  (h4:Ai 1 AT d (.slice (some ⟨bk,0,none⟩) n cp) s.kinds hk) (h5:ED d s.frm s.kinds s.fb ms) (h6:Ca d c (pZ bd) cv LC) (h7:Dv d ⟨s.syn,[]⟩ (pZ bd) LD) (h8:BQ s c) (h9:Good s):
  Pg d s (pZ bd) (pZ b) (bx b T [pZ bd,cv,vZ s.frm,.slice (some ⟨bk,0,none⟩) n cp,.map (some mb),vZ (wr s.round),vZ (wr s.tc)]::hk::mpI mb ms clk::(LC++LD)):=by
 subst hn
 exact⟨b,T,cv,bk,cp,hk,mb,ms,clk,c,LC,LD,bd,rfl,rfl,rfl,h4,h5,h6,h7,h8,h9⟩
def F4(P:Program)(f:FuncId):Prop:=∀{d}{b bd:Nat}{T l},Cv P f [pZ b] d [bx b T (.pointer (some ⟨bd,0,none⟩)::l)] (.bool false)
def CN:A3:=⟨12,[(.tmp 2)],(sR (o1 2 (.mv (.const (.bool false))) .done) (sR (om 3 0<|o1 4 (.eqp false 3 (.const (.pointer none)))<|om 5 4<|gF 6 5 0<|oF 7 5 (.nilc 6)<|oF 8 5 (.fld 0 7)<|oF 9 5 (.ld none 8)<|oF 10 5 (.eqp false 9 (.const (.pointer none)))<|o1 11 (.pick 5 (.const (.bool true)) 10)<|om 2 11 .done) .ret))⟩
def JC{P f}(hd:dec P f=some CN):F4 P f:=by
 intro d b bd T l;refine Aq hd (Ms rfl) ?_;show gwp P _ _ _ _ _;(refine Ae<|Ag rfl<|Ab<|Ae<|Ad rfl<|A1 rfl rfl<|Ag rfl<|Af rfl<|Ad rfl<|Af rfl<|AM rfl<|Af rfl<|AR rfl<|Af rfl<|AX rfl (A5 0 rfl rfl)<|Af rfl<|A1 rfl rfl<|Al rfl rfl<|Ag rfl<|Ab<|As ?_);exact FV rfl (MC _)
def C0(frm:Nat)(ks:List Int)(k:Int):Int:=if (frm:Int)≤k∧k<(frm:Int)+ks.length then ks.getD (k - frm).toNat 0 else -1
def Hd(P:Program)(f:FuncId):Prop:=∀{d}{b bk cp frm:Nat}{T x0 x1 x4 x5 x6 hk}{ks:List Int}{k:Int},Ai 1 AT d (.slice (some ⟨bk,0,none⟩) ks.length cp) ks hk→frm≤8192→
 Cv P f [pZ b,vZ k] d [bx b T [x0,x1,vZ frm,.slice (some ⟨bk,0,none⟩) ks.length cp,x4,x5,x6],hk] (vZ (C0 frm ks k))
def Ev:A3:=⟨37,[(.tmp 4)],(sR (o1 4 (.mv z0) .done) (.seq (.seq (.reg true (pm 5 1<|pm 6 0<|p1 7 (.nilc 6)<|p1 8 (.fld 2 7)<|pl 9 8<|p1 10 (.bin .lss 5 9)<|pm 11 10 (.op true ⟨(some 12),(some (11,false)),(.mv 1)⟩ (.op true ⟨(some 13),(some (11,false)),(.mv 0)⟩ (.op true ⟨(some 14),(some (11,false)),(.nilc 13)⟩ (.op true ⟨(some 15),(some (11,false)),(.fld 2 14)⟩ (.op true ⟨(some 16),(some (11,false)),(.ld none 15)⟩ (.op true ⟨(some 17),(some (11,false)),(.mv 0)⟩ (.op true ⟨(some 18),(some (11,false)),(.nilc 17)⟩ (.op true ⟨(some 19),(some (11,false)),(.fld 3 18)⟩ (.op true ⟨(some 20),(some (11,false)),(.ld none 19)⟩ (.op true ⟨(some 21),(some (11,false)),(.len 20)⟩ (.op true ⟨(some 22),(some (11,false)),(.bin .add 16 21)⟩ (.op true ⟨(some 23),(some (11,false)),(.bin .geq 12 22)⟩ (p1 24 (.pick 11 (.const (.bool true)) 23) .done))))))))))))))) (.cond 24 (sR (o1 4 (.mv (kZ (-1))) .done) .ret) .skip)) (.seq (.reg true (pm 25 0<|p1 26 (.nilc 25)<|p1 27 (.fld 3 26)<|pl 28 27<|pm 29 1<|pm 30 0<|p1 31 (.nilc 30)<|p1 32 (.fld 2 31)<|pl 33 32<|p1 34 (.bin .sub 29 33)<|p1 35 (.idx 1 28 34)<|pl 36 35 (.bar (pm 4 36 .done)))) .ret)))⟩
def KH{P f}(hd:dec P f=some Ev):Hd P f:=by
 intro d b bk cp frm T x0 x1 x4 x5 x6 hk ks k hg hf;have hlen:=hg.DH;refine Aq hd (Ms rfl) ?_;show gwp P _ _ _ _ _;by_cases h1:k<frm
 ·(refine Ae<|Ac rfl<|Ab<|An<|An<|Ez<|Ac rfl<|Ad rfl<|AM rfl<|AR rfl<|AX rfl (A5 0 rfl rfl)<|AI rfl rfl<|Ag rfl<|B4 rfl (by omega)<|Au rfl<|Au rfl<|Au rfl<|Au rfl<|Au rfl<|Au rfl<|Au rfl<|Au rfl<|Au rfl<|Au rfl<|Au rfl<|Au rfl<|AB rfl rfl<|Hh<|BL rfl<|Ae<|Ac rfl<|Ab<|As ?_);rw[show C0 frm ks k= -1 by unfold C0;rw[if_neg (by omega)]];exact FV rfl (MC _)
 ·by_cases h2:k<(frm:Int)+ks.length
  ·obtain⟨m,hm⟩:∃m:Nat,k=(frm:Int)+m:=⟨(k - frm).toNat,by omega⟩
   subst hm;have hml:m<ks.length:=by omega
   obtain⟨b1,T1,l1,c1,cs,q1,rfl,hcl,hcs,hle,⟨rfl, -, -⟩, -⟩:=Ai.at (by omega) hg hml;cases q1;have c0:=hcs 0 _ rfl;rw[show C0 frm ks ((frm:Int)+m)=ks[m] by
    unfold C0;rw[if_pos (by omega),show((frm:Int)+m - frm).toNat=m by omega,Mu,Mt hml];rfl]
   (refine Ae<|Ac rfl<|Ab<|An<|An<|Ez<|Ac rfl<|Ad rfl<|AM rfl<|AR rfl<|AX rfl (A5 0 rfl rfl)<|AI rfl rfl<|Ag rfl<|AA rfl (by omega)<|Af rfl<|Ac rfl<|Af rfl<|Ad rfl<|Af rfl<|AM rfl<|Af rfl<|AR rfl<|Af rfl<|AX rfl (A5 0 rfl rfl)<|Af rfl<|Ad rfl<|Af rfl<|AM rfl<|Af rfl<|AR rfl<|Af rfl<|AX rfl (A5 0 rfl rfl)<|Af rfl<|BU rfl<|Af rfl<|BW rfl rfl (by omega) (by omega)<|Af rfl<|GJ rfl rfl<|Al rfl rfl<|Hh<|A2 rfl (by omega)<|Av<|An<|Ez<|Ad rfl<|AM rfl<|AR rfl<|AX rfl (A5 0 rfl rfl)<|Ac rfl<|Ad rfl<|AM rfl<|AR rfl<|AX rfl (A5 0 rfl rfl)<|GK rfl rfl (by omega) (by omega) ?_);refine C8 m rfl rfl (by omega) hml ?_;(refine AX rfl (A5 1 rfl (by assumption))<|EJ<|Ac rfl<|Ab<|As ?_);exact FV rfl (MC _)
  ·(refine Ae<|Ac rfl<|Ab<|An<|An<|Ez<|Ac rfl<|Ad rfl<|AM rfl<|AR rfl<|AX rfl (A5 0 rfl rfl)<|AI rfl rfl<|Ag rfl<|AA rfl (by omega)<|Af rfl<|Ac rfl<|Af rfl<|Ad rfl<|Af rfl<|AM rfl<|Af rfl<|AR rfl<|Af rfl<|AX rfl (A5 0 rfl rfl)<|Af rfl<|Ad rfl<|Af rfl<|AM rfl<|Af rfl<|AR rfl<|Af rfl<|AX rfl (A5 0 rfl rfl)<|Af rfl<|BU rfl<|Af rfl<|BW rfl rfl (by omega) (by omega)<|Af rfl<|GJ rfl rfl<|Al rfl rfl<|Hh<|Bf rfl (by omega)<|Ae<|Ac rfl<|Ab<|As ?_);rw[show C0 frm ks k= -1 by unfold C0;rw[if_neg (by omega)]];exact FV rfl (MC _)
def DV(P:Program)(f:FuncId):Prop:=∀{d}{mb clk:Nat}{ms:List (Int×Value×Nat)},Le (mpI mb ms clk) d→Aj P f [.map (some mb)] d [] (Ret fun r d' L'=>d'=d∧∃q,r=.map (some q)∧L'=[mpI q ms clk])
def B6(a0:Nat):A3:=⟨9,[(.tmp 2)],(sR (o1 2 (.mv (.const (.map none))) .done) (.seq (sR (om 3 0<|o1 4 (.eqm false 3 (.const (.map none))) .done) (.cond 4 (sR (o1 2 (.mv (.const (.map none))) .done) .ret) .skip)) (sR (om 5 0<|o1 6 (.mki a0 5)<|o1 7 (.mop (.cln 6))<|o1 8 (.tas a0 7)<|om 2 8 .done) .ret)))⟩
def Hn{P f}{t1:Nat}(hd:dec P f=some (B6 t1)):DV P f:=by
 intro d mb clk ms hm;refine Aq hd (Ms rfl) ?_;show gwp P _ _ _ _ _;(refine Ae<|Bg<|Ab<|An<|Ae<|Bg ?_);refine LA rfl rfl ?_;(refine Ab<|Bd rfl<|Av<|Ae<|Bg<|Ma ?_);refine LM rfl ⟨d,.inl rfl,hm _ _ (AY _ _)⟩ (fun q=>?_);refine LV rfl ?_;(refine Bg<|Ab<|As ?_);exact FZ rfl (MC _) ⟨rfl,q,rfl,rfl⟩
def Mm(d:Aa)(h:Option Sec)(r:Value):Prop:=match h with|some x=>A4 d r x|none=>r=.slice none 0 0
def I9(P:Program)(f:FuncId):Prop:=∀{d s dv pv L}{k:Int},Pg d s dv pv L→
 Aj P f [pv,vZ k] d L (Ret fun r d' L'=>(∃q,r=.tuple #[q,vZ (match (s.get k).2 with|some _=>0|none=>240)]∧Mm d' (s.get k).2 q)∧Pg d' (s.get k).1 dv pv L')
end Go.Gk.Pgr
end
section
namespace Go.Gk.Pgr
open Go Go.Gk Go.Gk.Dev Go.Gk.Cch Go.Gk.Node
section
attribute [local irreducible] gwp gws xwp
end
end Go.Gk.Pgr
end
section
namespace Go.Gk.Pgr
open Go Go.Gk Go.Gk.Dev Go.Gk.Cch Go.Gk.Node
attribute [local irreducible] gwp gws xwp
variable{d:Aa}
def G5(P:Program)(f:FuncId):Prop:=∀{d}{syn:List Sec}{dv cv lv LC LD}{m frm n:Nat}{live:List Nat},Dv d ⟨syn,[]⟩ dv LD→Ca d ⟨Mv m fz,Mz m,0,0,0⟩ dv cv LC→1≤m→m≤64→1≤n→frm+n≤syn.length→syn.length≤8192→live.Nodup→(∀k∈live,k<n)→
 CI d lv (live.map fun k=>((frm+k:Nat):Int))→Aj P f [dv,cv,vZ frm,vZ n,lv] d (LC++LD) (Ret fun r d' L'=>∃pv,r=.tuple #[pv,vZ 0]∧Le d d'∧Pg d' ⟨frm,Bj n live,fun _=>[],syn,0,0⟩ dv pv L')
def Hj(a0 a1 a2:Nat):A3:=⟨74,[(.tmp 10),(.tmp 11)],(sR (o1 10 (.mv (.const (.pointer none)))<|o1 11 (.mv z0) .done) (sR (om 16 0<|oc 17 a0 [16]<|om 12 17 .done) (.seq (.block 0 (sR (om 19 12<|ob 20 .eql 19 z0<|om 21 20<|gF 22 21 1<|oF 23 21 (.call a1 [22])<|oF 24 21 (.len 23)<|oF 25 21 (.bin .eql 24 z0)<|o1 26 (.pick 21 (.const (.bool true)) 25)<|om 18 26 .done) (.cond 18 (sR (o1 10 (.mv (.const (.pointer none)))<|o1 11 (.mv z1) .done) .ret) (sR (om 28 2<|ob 29 .lss 28 z0<|om 30 29<|gF 31 30 3<|oF 32 30 (.bin .lss 31 z1)<|o1 33 (.pick 30 (.const (.bool true)) 32)<|om 34 33<|gF 35 34 2<|gF 36 34 12<|oF 37 34 (.bin .gtr 35 36)<|o1 38 (.pick 34 (.const (.bool true)) 37)<|om 39 38<|gF 40 39 3<|gF 41 39 12<|gF 42 39 2<|oF 43 39 (.bin .sub 41 42)<|oF 44 39 (.bin .gtr 40 43)<|o1 45 (.pick 39 (.const (.bool true)) 44)<|om 27 45 .done) (.cond 27 (sR (o1 10 (.mv (.const (.pointer none)))<|o1 11 (.mv z2) .done) .ret) .skip))))) (sR (om 46 0<|om 47 1<|om 48 2<|om 49 3<|o1 50 (.mks 1 8 [(vZ 0)] 49 49)<|o1 51 (.mop .mk)<|o1 52 (.bld [(0,1),(1,1),(2,1),(3,1),(4,1),(5,1),(6,1)] [(.pointer none),(.pointer none),(vZ 0),(.slice none 0 0),(.map none),(vZ 0),(vZ 0)] [(0,46),(1,47),(2,48),(3,50),(4,51)])<|o1 53 (.box 52)<|om 13 53 .done) (.seq (sR (om 54 4<|oL 55 54<|o1 56 (.mv z0) .done) (.block 1 (.loop (sR (ob 57 .lss 56 55 .done) (.seq (.cond 57 .skip (.exit 1)) (.seq (.block 2 (sR (oI 58 1 54 56<|ol 59 58<|om 15 59 .done) (.seq (sR (om 60 13<|om 61 15<|oc 62 a2 [60,61]<|ob 63 .neq 62 z0 .done) (.cond 63 (sR (o1 10 (.mv (.const (.pointer none)))<|o1 11 (.mv z2) .done) .ret) .skip)) (rG (om 64 13<|o1 65 (.nilc 64)<|oj 66 3 65<|ol 67 66<|om 68 15<|om 69 2<|ob 70 .sub 68 69<|oI 71 1 67 70<|o0 (.st 1 71 z2) .done))))) (rG (ob 72 .add 56 z1<|om 56 72 .done)))))))) (sR (om 73 13<|om 10 73<|o1 11 (.mv z0) .done) .ret))))))⟩
set_option maxRecDepth 4000 in
set_option maxHeartbeats 1000000 in
def Ku{P f f1 f2 f3}(hd:dec P f=some (Hj f1 f2 f3))(h1:EB P f1)(h2:DE P f2)(h3:Hd P f3):G5 P f:=by
 intro d syn dv cv lv LC LD m frm n live hD hC hm1 hm2 hn hfn hs8 hnd hlv hl;obtain⟨bd,rfl⟩:∃bd,dv=pZ bd:=let ⟨b,_,_,_,_,_,_,h,_⟩:=hD;⟨b,h⟩
 obtain⟨bc,rfl⟩:∃bc,cv=pZ bc:=let ⟨b,_,_,_,_,_,_,_,_,h,_⟩:=hC;⟨b,h⟩
 obtain⟨xs,hxs⟩:∃xs,xs=live.map fun k=>((frm+k:Nat):Int):=⟨_,rfl⟩
 rw[←hxs] at hl;have hll:=hl.DH;have hxl:xs.length=live.length:=by rw[hxs,List.length_map]
 refine Aq hd (Ms rfl) ?_;show gwp P _ _ _ _ _;(refine Ae<|Ad rfl<|Ac rfl<|Ab<|Ae<|Ad rfl ?_);have hsz:Cv P f1 [pZ bd] d LD (vZ syn.length):=h1 hD;refine HB (A:=LD) (B:=LC) MJ rfl hsz ?_;have hn0:syn.length≠0:=by omega
 (refine Ac rfl<|Ab<|An<|AK<|Ae<|Ac rfl<|BK rfl rfl<|Ag rfl<|AA rfl (by omega)<|Af rfl<|Ad rfl<|Af rfl ?_);refine C4 (A:=LC) (B:=LD) rfl rfl (h2 hC (fun f hf=>by rw[(List.mem_replicate.1 hf).2];decide)) (fun v d1 L1 hl1 ⟨e1,e2⟩=>?_);subst e1;have hhl:(Bo ⟨Mv m fz,Mz m,0,0,0⟩).length=m:=by simp[Bo]
 obtain⟨ah,ch,rfl⟩:=RSl.val e2;rw[hhl] at e2⊢;have hm0:m≠0:=by omega
 have hC1:=hC.mono hl1;have hD1:=hD.mono hl1;have hl':=RSl.mono (R:=AT) Ce hl hl1;(refine Af rfl<|BU rfl<|Af rfl<|BK rfl rfl<|Al rfl rfl<|Ag rfl<|Ab<|A2 rfl (by omega)<|Ae<|Ac rfl<|AI rfl rfl<|Ag rfl<|AA rfl (by omega)<|Af rfl<|Ac rfl<|Af rfl<|AI rfl rfl<|Al rfl rfl<|Ag rfl<|AA rfl (by omega)<|Af rfl<|Ac rfl<|Af rfl<|Ac rfl<|Af rfl<|EL rfl rfl<|Al rfl rfl<|Ag rfl<|AA rfl (by omega)<|Af rfl<|Ac rfl<|Af rfl<|Ac rfl<|Af rfl<|Ac rfl<|Af rfl<|GK rfl rfl (by omega) (by omega)<|Af rfl<|EL rfl rfl<|Al rfl rfl<|Ag rfl<|Ab<|A2 rfl (by omega)<|Av<|Ae<|Ad rfl<|Ad rfl<|Ac rfl<|Ac rfl ?_);refine Fz (n:=n) (c:=n) rfl rfl (MR _) (by omega) (by omega) (fun bk T0=>?_);refine LP kI (id:Value→Value) (fun mb=>?_);refine BT (cs:=[pZ bd,pZ bc,vZ frm,.slice (some ⟨bk,0,none⟩) n n,.map (some mb),vZ 0,vZ 0]) rfl ?_;refine BF rfl (fun b T=>?_);have hg:Ai 1 AT d1 (.slice (some ⟨bk,0,none⟩) n n) (Bj n []) (bx bk T0 (Aw [vZ 0] (n*1))):=Ai.zero rfl (by omega) ⟨rfl,by omega,by omega⟩ (by omega);refine Dz d1 (_::bx bk T0 (Aw [vZ 0] (n*1))::mpI mb [] 0::(L1++LD)) (Vs.perm (My _ (ML _ _ _))) ?_;(refine Ad rfl<|Ab<|An<|Ae<|Bg<|K4 rfl (by assumption)<|Ac rfl<|Ab<|AK ?_);refine KL (α:=Nat×Aa) (fun x=>[(2,vZ frm),(13,pZ b),(54,lv),(55,vZ xs.length),(56,vZ x.1)])
  (fun x=>bx b T [pZ bd,pZ bc,vZ frm,.slice (some ⟨bk,0,none⟩) n n,.map (some mb),vZ 0,vZ 0]::x.2::mpI mb [] 0::(L1++LD))
  (fun x=>x.1≤live.length∧Ai 1 AT d1 (.slice (some ⟨bk,0,none⟩) n n) (Bj n (live.take x.1)) x.2) (fun x=>live.length - x.1) (0,bx bk T0 (Aw [vZ 0] (n*1))) ⟨rfl,rfl,rfl,rfl,rfl,trivial⟩ rfl ⟨by simp only;omega,hg⟩ ?_
 rintro⟨i,hk⟩ ρ ⟨hi,hgi⟩;simp only at hi hgi⊢;have hln:=CV (n:=n) (l:=live.take i);by_cases e:i<live.length
 ·have hin:live[i]<n:=hlv _ (MV e);have hnot:live[i]∉live.take i:=fun hm=>by
   obtain⟨j,hj,hjj⟩:=Nx hm;rw[MW] at hj;rw[List.getElem_take] at hjj;exact List.pairwise_iff_getElem.1 hnd j i (by omega) e (by omega) hjj
  have h0:(Bj n (live.take i)).getD live[i] 0=0:=by rw[E3,if_neg (fun q=>hnot q.2)]
  obtain⟨b1,T1,l1,c1,cs,q1,rfl,hcl,hcs,hle, -,hset⟩:=Ai.at (by omega) hgi (m:=live[i]) (by omega);rw[hln] at q1;cases q1;have e':i<xs.length:=by omega
  have hxi:xs[i]=((frm+live[i]:Nat):Int):=by subst hxs;simp
  have hnx:Bj n (live.take (i+1))=(Bj n (live.take i)).set live[i] 2:=by rw[List.take_succ_eq_append_getElem e,HN]
  have hkv:C0 frm (Bj n (live.take i)) xs[i]=0:=by
   rw[hxi];unfold C0;rw[hln,if_pos (by omega),show(((frm+live[i]:Nat):Int) - (frm:Int)).toNat=live[i] by omega,h0]
  have hgl:Ai 1 AT d1 (.slice (some ⟨bk,0,none⟩) (Bj n (live.take i)).length n) (Bj n (live.take i)) (bx bk T1 l1):=by rw[hln];exact hgi
  have hkr:=fun{b:Nat}{T x0 x1 x4 x5 x6}=>h3 (k:=xs[i]) (frm:=frm) (b:=b) (T:=T) (x0:=x0) (x1:=x1) (x4:=x4) (x5:=x5) (x6:=x6) hgl (by omega);rw[hln,hkv] at hkr;(refine Ae<|AI rfl rfl<|Ab<|An<|Bf rfl (by omega)<|Av<|An<|AK<|Ae<|Lg (sz:=1) (R:=AT) (by rfl) (by assumption) (by rfl) rfl (by omega) ?_;rintro _ _ _ _ _ ⟨rfl,_,_⟩;refine AX rfl (Lz (by assumption) rfl)<|Ac rfl<|Ab<|An<|Ae<|Ad rfl<|Ac rfl ?_);refine Hb (A:=[_,_]) (B:=_::(L1++LD)) rfl rfl hkr ?_;(refine AQ rfl rfl<|Ab<|A2 rfl (by omega)<|Av<|A6<|Ad rfl<|AM rfl<|AR rfl<|AX rfl (A5 0 rfl rfl)<|Ac rfl<|Ac rfl<|GK rfl rfl (by omega) (by omega) ?_);refine C8 live[i] rfl rfl (by rw[hxi];omega) hin ?_;skip;refine GC 1 (patch l1 (live[i]*1) [vZ 2]) rfl rfl rfl rfl hle rfl rfl ?_;(refine Ab<|A6<|BW rfl rfl (by omega) (by omega)<|Ac rfl<|Ab ?_);exact⟨(i+1,_),by simp only;omega,⟨rfl,rfl,rfl,rfl,rfl,trivial⟩,rfl,rfl,e,by rw[hnx];exact hset [vZ 2] 2 rfl ⟨rfl,by omega,by omega⟩⟩
 ·have:i=live.length:=by omega
  subst this;rw[List.take_length] at hgi hln;have e':¬live.length<xs.length:=by omega
  (refine Ae<|AI rfl rfl<|Ab<|An<|A2 rfl (by omega)<|CM<|Ae<|Ad rfl<|Ad rfl<|Ac rfl<|Ab<|As ?_);have hP:=Pg.mk (d:=d1) (s:=⟨frm,Bj n live,fun _=>[],syn,0,0⟩) (b:=b) (T:=T) (cv:=pZ bc) (bk:=bk) (cp:=n) (mb:=mb) (clk:=0) (c:=⟨Mv m fz,Mz m,0,0,0⟩) (LC:=L1) (LD:=LD) (bd:=bd) hln
   hgi (ms:=[]) (fun j hj hj1=>by
    have h0:(Bj n live).getD j 0=1:=hj1;rw[E3] at h0;split at h0<;>cases h0) hC1 hD1 (BQ.new hm1 hm2) (Good.new hn hfn hs8)
  exact G4 rfl rfl (MC _) ⟨_,rfl,hl1,hP⟩
def Le.dcs{b:Nat}{T l}(h:Le (bx b T l) d):DCs d b 0 l:=⟨_,_,_,h b _ (AY _ _),fun i u hi=>by simpa using hi⟩
def Vs.KF{a b c L}:Vs d (a::b::c::L) (join (join (join d a) b) c) L:=Vs.freeze.trans (Vs.freeze.trans Vs.freeze)
def Ai.KZ{d' v}{xs:List Int}{h}(o:Ai 1 AT d v xs h):Ai 1 AT d' v xs h:=let ⟨cs,h1,h2⟩:=o;⟨cs,h1,h2⟩
def Mk(d:Aa)(m:MD)(frm:Nat)(pv v:Value):Prop:=∃bm bk cp mq ms clk,v=pZ bm∧DCs d bm 0 [pv,vZ (wr m.round),.slice (some ⟨bk,0,none⟩) m.kinds.length cp,.map (some mq)]∧RSl 1 AT d (.slice (some ⟨bk,0,none⟩) m.kinds.length cp) m.kinds∧
 Le (mpI mq ms clk) d∧ED d frm m.kinds m.fb ms
def Mk.mono{d'}{m:MD}{frm:Nat}{pv v}(h:Mk d m frm pv v)(hl:Le d d'):Mk d' m frm pv v:=
 let ⟨bm,bk,cp,mq,ms,clk,h1,h2,h3,h4,h5⟩:=h
 ⟨bm,bk,cp,mq,ms,clk,h1,h2.mono hl,RSl.mono (R:=AT) Ce h3 hl,h4.trans hl,h5.mono hl⟩
def Ju(x a b c:Aa)(L:List Aa):(x::a::b::c::L).Perm (a::b::c::x::L):=
 (ML a x _).trans (My _ ((ML b x _).trans (My _ (ML c x _))))
def Ec(P:Program)(f:FuncId):Prop:=∀{d s dv pv L},Pg d s dv pv L→Aj P f [pv] d L (Ret fun r d' L'=>L'=L∧Le d d'∧Mk d' s.mark s.frm pv r)
def CP(a0 a1 a2:Nat):A3:=⟨22,[(.tmp 2)],(sR (o1 2 (.mv (.const (.pointer none))) .done) (.seq (sR (om 3 0<|oc 4 a0 [3] .done) (.cond 4 (sR (o1 2 (.mv (.const (.pointer none))) .done) .ret) .skip)) (.seq (.reg true (pm 5 0<|pm 6 0<|p1 7 (.nilc 6)<|p1 8 (.fld 5 7)<|pl 9 8<|pm 10 0<|p1 11 (.nilc 10)<|p1 12 (.fld 3 11)<|pl 13 12<|pm 15 0<|p1 16 (.nilc 15)<|p1 17 (.fld 4 16)<|pl 18 17<|oc 14 a1 [13]<|oc 19 a2 [18]<|p1 20 (.bld [(0,1),(1,1),(2,1),(3,1)] [(.pointer none),(vZ 0),(.slice none 0 0),(.map none)] [(0,5),(1,9),(2,14),(3,19)])<|o1 21 (.box 20) (.bar (pm 2 21 .done)))) .ret)))⟩
set_option maxRecDepth 4000 in
set_option maxHeartbeats 1000000 in
def Kx{P f f1 f2 f3}(hd:dec P f=some (CP f1 f2 f3))(h1:F4 P f1)(h2:F5 AT 8 P f2)(h3:DV P f3):Ec P f:=by
 intro d s dv pv L hp;obtain⟨b,T,cv,bk,cp,hk,mb,ms,clk,c,LC,LD,bd,rfl,rfl,rfl,hg,hm,hC,hD,hc,hG⟩:=hp;have hlen:=hG.len;have hone:=hG.one;refine Aq hd (Ms rfl) ?_;show gwp P _ _ _ _ _;(refine Ae<|Ad rfl<|Ab<|An<|Ae<|Ad rfl ?_);refine Hb (A:=[_]) (B:=_::_::(LC++LD)) rfl rfl h1 ?_;(refine Ab<|Bd rfl<|Av<|An ?_);refine DN [_] (hk::mpI mb ms clk::(LC++LD)) rfl ?_;(refine Ad rfl<|Ad rfl<|AM rfl<|AR rfl<|AX rfl (A5 0 rfl rfl)<|Ad rfl<|AM rfl<|AR rfl<|AX rfl (A5 0 rfl rfl)<|Ad rfl<|AM rfl<|AR rfl<|AX rfl (A5 0 rfl rfl) ?_);refine HI (Q:=fun v L'=>∃h,L'=[h]∧Ai 1 AT d v s.kinds h) rfl (fun d1 hl1 hk1=>?_) (fun v L1 ⟨h,e1,hrow⟩=>?_)
 ·exact Aj.Im (h2 (xs:=s.kinds) (Ai.rsl (R:=AT) hg Ce (by omega) hl1 (hk1 _ (MN ..))) (by omega)) (fun r d' L' _ ⟨q1,h,q2,q3⟩=>⟨d',L',Vs.refl _ _,q1,h,q2,Ai.KZ q3⟩)
 subst e1;skip;refine HI (Q:=fun v L'=>∃q,v=.map (some q)∧L'=[mpI q ms clk]) rfl (fun d1 hl1 hk1=>h3 (hk1 _ (by simp))) (fun v1 L1 ⟨q,e1,e2⟩=>?_);subst e1;subst e2;obtain⟨b1,T1,l1,c1,cs,q1, -, -, -, -, -, -⟩:=Ai.at (m:=0) (by omega) hrow (by omega);subst q1;refine BT (cs:=[pZ b,vZ (wr s.round),.slice (some ⟨b1,0,none⟩) s.kinds.length c1,.map (some q)]) rfl ?_;refine BF rfl (fun bm Tm=>?_);(refine EJ<|Ad rfl<|Ab<|As ?_);refine Cm [pZ bm] ⟨rfl,trivial⟩ (L':=bx b T [pZ bd,cv,vZ s.frm,.slice (some ⟨bk,0,none⟩) s.kinds.length cp,.map (some mb),vZ (wr s.round),vZ (wr s.tc)]::hk::mpI mb ms clk::(LC++LD))
  ((Vs.perm (Ju _ _ _ _ _)).trans Vs.KF) ⟨rfl,?_,bm,b1,c1,q,ms,clk,rfl,?_,?_,?_,?_⟩
 ·exact((Le.Ap _ _).trans (Le.Ap _ _)).trans (Le.Ap _ _)
 ·exact Le.dcs (((Le.AF _ _).trans (Le.Ap _ _)).trans (Le.Ap _ _))
 ·exact Ai.rsl (R:=AT) (sz:=1) hrow Ce (by omega) (((Le.Ap _ _).trans (Le.Ap _ _)).trans (Le.Ap _ _)) (Le.AF _ _)
 ·exact(Le.AF _ _).trans (Le.Ap _ _)
 ·exact hm.mono (((Le.Ap _ _).trans (Le.Ap _ _)).trans (Le.Ap _ _))
end Go.Gk.Pgr
end
section
namespace Go.Gk.Cch
open Go Go.Gk Go.Gk.Dev
attribute [local irreducible] gwp gws xwp
section
def Cov(d:Aa)(c:CD)(D:CW)(cv:Value)(L:List Aa):Prop:=∃dv LC LD,L=LC++LD∧Ca d c dv cv LC∧Dv d D dv LD
def Cov.mono{d d'}{c:CD}{D:CW}{cv L}(h:Cov d c D cv L)(hl:Le d d'):Cov d' c D cv L:=
 let ⟨dv,LC,LD,h1,h2,h3⟩:=h
 ⟨dv,LC,LD,h1,h2.mono hl,h3.mono hl⟩
def Cov.ptr{d}{c:CD}{D:CW}{cv L}(h:Cov d c D cv L):∃b,cv=pZ b:=by
 obtain⟨dv,LC,LD,rfl,⟨b, -, -, -, -, -, -, -, -,h, -⟩, -⟩:=h;exact⟨b,h⟩
section
variable {P:Program}{f:FuncId}{d:Aa}{c:CD}{D:CW}{cv:Value}{L:List Aa}{k:Nat}
def IJ.cov(h:IJ P f)(hc:Cov d c D cv L)(hp:Fi c 4611686018427387904)(hk:k<D.syn.length):
  Aj P f [cv,vZ k] d L (Ret fun r d' L'=>Cov d' (Cw (D.cur k) c k).1 D cv L'∧LI d' r (Cw (D.cur k) c k).2):=by
 obtain⟨dv,LC,LD,rfl,h1,h2⟩:=hc
 refine(h h1 h2 hp hk).mono (fun e d' L' hl hr=>?_)
 cases e with
 |returned v=>obtain⟨LC',LD',rfl,g1,g2,g3⟩:=hr;exact⟨⟨dv,LC',LD',rfl,g1,g2⟩,g3⟩
 |panicked c=>exact hr
 |outgrown=>exact hr
def Ei{args A B R R'}(h:Aj P f args d A (Ret R))(hR:∀v d' A',Le d d'→R v d' A'→R' v d' (A'++B)):Aj P f args d (A++B) (Ret R'):=by
 refine(h.frame B).mono (fun e d' L' hl hr=>?_);obtain⟨A',rfl,hr⟩:=hr;cases e with
 |returned v=>exact hR v d' A' hl hr
 |panicked c=>exact hr
 |outgrown=>exact hr
def GZ.cov(h:GZ P f)(hc:Cov d c D cv L)(hp:Fi c 4611686018427387904):
  Aj P f [cv,vZ k] d L (Ret fun r d' L'=>r=vZ (By c k).2∧Cov d' (By c k).1 D cv L'):=by
 obtain⟨dv,LC,LD,rfl,h1,h2⟩:=hc
 exact Ei (h (k:=k) h1 hp) (fun v d' A' hl ⟨g1,g2,g3⟩=>⟨g2,dv,A',LD,rfl,g3.mono (by rw[g1];exact Le.refl _),h2.mono hl⟩)
def Gs.cov(h:Gs P f)(hc:Cov d c D cv L)(hp:∀i,findF k c.fr=some i→c.free.length<c.fr.length):
  Aj P f [cv,vZ k] d L (Ret fun r d' L'=>r=vZ (EF c k).2∧Cov d' (EF c k).1 D cv L'):=by
 obtain⟨dv,LC,LD,rfl,h1,h2⟩:=hc
 exact Ei (h (k:=k) h1 hp) (fun v d' A' hl ⟨g1,g2,g3⟩=>⟨g2,dv,A',LD,rfl,g3.mono (by rw[g1];exact Le.refl _),h2.mono hl⟩)
def DE.cov(h:DE P f)(hc:Cov d c D cv L)(hs:∀f∈c.fr,f.sec≤8192):Aj P f [cv] d L (Ret fun r d' L'=>L'=L∧CI d' r (Bo c)):=by
 obtain⟨dv,LC,LD,rfl,h1,h2⟩:=hc;exact Ei (h h1 hs) (fun v d' A' hl ⟨g1,g2⟩=>⟨by rw[g1],g2⟩)
def ID.cov(h:ID P f)(hc:Cov d c D cv L):Cv P f [cv] d L (vZ (wr c.hits)):=by
 obtain⟨dv,LC,LD,rfl,h1,h2⟩:=hc;exact Ei (h h1) (fun v d' A' hl ⟨g1,g2,g3⟩=>⟨g1,g2,by rw[g3]⟩)
def GV.cov(h:GV P f)(hc:Cov d c D cv L):Cv P f [cv] d L (vZ (wr c.miss)):=by
 obtain⟨dv,LC,LD,rfl,h1,h2⟩:=hc;exact Ei (h h1) (fun v d' A' hl ⟨g1,g2,g3⟩=>⟨g1,g2,by rw[g3]⟩)
end
end
end Go.Gk.Cch
end
section
namespace Go.Gk.Pgr
open Go Go.Gk Go.Gk.Dev Go.Gk.Cch Go.Gk.Node
section
attribute [local irreducible] gwp gws xwp
end
section
attribute [local irreducible] gwp gws xwp
end
end Go.Gk.Pgr
end
section
namespace Go.Gk.Pgr
open Go Go.Gk Go.Gk.Dev Go.Gk.Cch Go.Gk.Node
attribute [local irreducible] gwp gws xwp
section
section
variable {P:Program}{pan:List PanicEntry→Ah}{Qn:Env→Ah}{Ls L:List Aa}{ρ:Env}{d:Aa}{s:GS}{t:Nat}{tk:Bool}
end
structure AD where
 kind:Int
 k:Int
 by_:UInt8
abbrev Kg(b:UInt8):Sec:=Mv 256 b
def PD.act(s:PD)(a:AD):PD:=
 if a.kind=0 then(if s.Br.2.2=0 then(s.Br.1.put s.Br.2.1 (Kg a.by_)).1 else s.Br.1)
 else if a.kind=1 then(s.put (2+a.k % 8) (Kg a.by_)).1
 else if a.kind=3 then(s.drop (2+a.k % 8)).1
 else if a.kind=4 then s.flush
 else s
def PD.run(s:PD)(l:List AD):PD:=l.foldl PD.act s
end
end Go.Gk.Pgr
end
section
namespace Go.Gk.Pgr
open Go Go.Gk Go.Gk.Dev Go.Gk.Cch
variable{s:PD}{d:Aa}
structure Ak (s t:PD):Prop where
 frm:t.frm=s.frm
 len:t.kinds.length=s.kinds.length
 syn:t.syn.length=s.syn.length
 old:∀i,2≤s.kd i→2≤t.kd i
 new:∀i,2≤t.kd i→2≤s.kd i
 sec:∀i,2≤s.kd i→t.syn.getD (s.frm+i) []=s.syn.getD (s.frm+i) []
 round:t.round=s.round
def Ak.refl(s:PD):Ak s s:=⟨rfl,rfl,rfl,fun _ h=>h,fun _ h=>h,fun _ _=>rfl,rfl⟩
def Ak.trans{t u}(h:Ak s t)(k:Ak t u):Ak s u:=
 ⟨k.frm.trans h.frm,k.len.trans h.len,k.syn.trans h.syn,fun i hi=>k.old i (h.old i hi),fun i hi=>h.new i (k.new i hi),fun i hi=>by have:=k.sec i (h.old i hi);rw[h.frm] at this;exact this.trans (h.sec i hi),k.round.trans h.round⟩
def Ak.set{i:Nat}{x:Int}{fb:Nat→Sec}(h:2≤s.kd i↔2≤x):Ak s {s with kinds:=s.kinds.set i x,fb:=fb}:=by
 have key:∀j,2≤s.kd j↔2≤(s.kinds.set i x).getD j 0:=fun j=>by
  by_cases hi:i<s.kinds.length
  ·rw[CA hi];by_cases e:j=i
   ·subst e;rw[if_pos rfl];exact h
   ·rw[if_neg e]
  ·rw[M7 (by omega)]
 exact⟨rfl,by simp,rfl,fun j hj=>(key j).1 hj,fun j hj=>(key j).2 hj,fun _ _=>rfl,rfl⟩
def Ak.fb{fb:Nat→Sec}:Ak s {s with fb:=fb}:=⟨rfl,rfl,rfl,fun _ h=>h,fun _ h=>h,fun _ _=>rfl,rfl⟩
def Ak.tc{tc:Nat}:Ak s {s with tc:=tc}:=⟨rfl,rfl,rfl,fun _ h=>h,fun _ h=>h,fun _ _=>rfl,rfl⟩
def Ak.Br(s:PD):Ak s s.Br.1:=by
 unfold PD.Br;cases h:B1 0 s.kinds with
 |none=>exact Ak.refl s
 |some i=>
  obtain⟨h1,h2⟩:=Dy h
  exact Ak.set (by rw[GX h1,h2];decide)
def Ak.put(s:PD)(k:Int)(b:Sec):Ak s (s.put k b).1:=by
 unfold PD.put;split
 ·split
  ·exact Ak.fb
  ·exact Ak.refl s
 ·exact Ak.refl s
def Ak.drop(s:PD)(k:Int):Ak s (s.drop k).1:=by
 unfold PD.drop;split
 ·rename_i h;obtain⟨i,h1,rfl,h2,h3⟩:=DI h (by omega);rw[h3];exact Ak.set (by rw[h2];decide)
 ·split
  ·rename_i h;obtain⟨i,h1,rfl,h2,h3⟩:=DI h (by omega);rw[h3];exact Ak.set (by rw[h2];decide)
  ·exact Ak.refl s
def JP{i:Nat}(h:s.kd i≠1):s.flush.syn.getD (s.frm+i) []=s.syn.getD (s.frm+i) []:=by
 refine D9 (fun w hw e=>?_);obtain⟨j,h4,h5,rfl⟩:=DY hw;simp only at e;rw[show j=i by omega] at h5;exact h h5
def Ak.flush(s:PD):Ak s s.flush:=⟨rfl,rfl,D3 _ _,fun _ h=>h,fun _ h=>h,fun i hi=>JP (by omega),rfl⟩
def Ak.act(s:PD)(a:AD):Ak s (s.act a):=by
 unfold PD.act;split
 ·split
  ·exact(Ak.Br s).trans (Ak.put _ _ _)
  ·exact Ak.Br s
 ·split
  ·exact Ak.put _ _ _
  ·split
   ·exact Ak.drop _ _
   ·split
    ·exact Ak.flush s
    ·exact Ak.refl s
def Ak.run(l:List AD):∀s:PD,Ak s (s.run l):=by
 induction l with
 |nil=>exact fun s=>Ak.refl s
 |cons a l ih=>exact fun s=>(Ak.act s a).trans (ih (s.act a))
def Dv.sec{D:CW}{v L}(h:Dv d D v L){k:Nat}(hk:k<D.syn.length):(D.syn.getD k []).length=256:=by
 obtain⟨b,T,vs,vo,r,hs,ho, -, -,h3, -⟩:=h;obtain⟨cs,h1,h2⟩:=h3;rw[Mu,Mt hk];exact(h2 k hk).2
def Pg.dev{dv pv L}(h:Pg d s dv pv L):∃A LD,L=A++LD∧Dv d ⟨s.syn,[]⟩ dv LD:=by
 obtain⟨b,T,cv,bk,cp,hk,mb,ms,clk,c,LC,LD,bd,h1,h2,h3,h4,h5,h6,h7,h8,h9⟩:=h;exact⟨_::hk::mpI mb ms clk::LC,LD,h3,h7⟩
def PD.bytes(s:PD)(k:Int):Sec:=if s.kind k=1 then s.fb (k - s.frm).toNat else if s.kind k=2 then s.syn.getD k.toNat [] else []
def PD.JG(s:PD)(k:Int):Int:=if s.kind k=1 then 0 else if s.kind k=2 then 0 else 240
def eb(x:Int):UInt8:=UInt8.ofNat (x % 256).toNat
def PD.Mc(s:PD)(n:Nat):List UInt8:=(Mz n).flatMap fun(k:Nat)=>s.bytes (k:Int)++[eb (s.JG (k:Int))]
def PD.look(s:PD):List UInt8:=s.Mc 12++s.AV.map eb++[eb s.free]
def IP{k:Int}(h:s.kind k=2):s.bytes k=s.syn.getD k.toNat []:=by unfold PD.bytes;rw[if_neg (by omega),if_pos h]
def I9.at{P f}(h:I9 P f){dv pv L}{k:Int}(hp:Pg d s dv pv L):
  Aj P f [pv,vZ k] d L (Ret fun r d' L'=>∃a c tc,r=.tuple #[.slice a (s.bytes k).length c,vZ (s.JG k)]∧A4 d' (.slice a (s.bytes k).length c) (s.bytes k)∧Pg d' {s with tc:=tc} dv pv L'):=by
 refine Aj.Im (h (k:=k) hp) (fun r d' L' _ ⟨⟨q,q1,q2⟩,q3⟩=>⟨d',L',Vs.refl _ _,?_⟩)
 subst q1
 unfold PD.bytes PD.JG
 unfold PD.get at q2 q3⊢
 by_cases h1:s.kind k=1
 ·simp only[if_pos h1] at q2 q3⊢
  obtain⟨a,c,rfl⟩:=RSl.val q2
  exact⟨a,c,_,rfl,q2,q3⟩
 ·by_cases h2:s.kind k=2
  ·simp only[if_neg h1,if_pos h2] at q2 q3⊢
   obtain⟨a,c,rfl⟩:=RSl.val q2
   exact⟨a,c,_,rfl,q2,q3⟩
  ·simp only[if_neg h1,if_neg h2] at q2 q3⊢
   obtain rfl:q=.slice none 0 0:=q2
   exact⟨none,0,s.tc,rfl,RSl.nil,q3⟩
abbrev PD.fin(s:PD):PD:=s.flush.done
def Pg.full{dv pv L}(h:Pg d s dv pv L){k:Int}(hk:s.kind k=1∨s.kind k=2):(s.bytes k).length=256:=by
 have hG:=h.JV;obtain⟨A,LD, -,hD⟩:=h.dev;obtain⟨b,T,cv,bk,cp,hkk,mb,ms,clk,c,LC,LD,bd,h1,h2,h3,h4,h5, -⟩:=h;have hin:=hG.inn;rcases hk with hk|hk
 ·obtain⟨i,i1,rfl,i2,i3⟩:=DI hk (by omega);obtain⟨v, -, -,q⟩:=h5 i i1 i2;unfold PD.bytes;rw[if_pos hk,i3];exact q
 ·obtain⟨i,i1,rfl,i2,i3⟩:=DI hk (by omega);rw[IP hk];exact Dv.sec hD (show((s.frm+i:Nat):Int).toNat<s.syn.length by omega)
end Go.Gk.Pgr
end
section
namespace Go.Gk
open Go
section
def EH(X:List Nat)(a0 a:Act):Prop:=∀t,t∉X→a.tmps[t]?=a0.tmps[t]?
def EH.put{X:List Nat}{a0 a:Act}(h:EH X a0 a){dst:Option Nat}(hd:∀t,dst=some t→t∈X)(v:Value):EH X a0 (a.put dst v):=by
 intro t ht;cases dst with
 |none=>exact h t ht
 |some d=>
  have hne:d≠t:=fun e=>ht (e▸hd d rfl)
  show(a.tmps.setIfInBounds d v)[t]?=_
  rw[Array.getElem?_setIfInBounds,if_neg hne]
  exact h t ht
def EH.defer{X:List Nat}{a0 a:Act}(h:EH X a0 a)(l:List Deferred):EH X a0 {a with defers:=l}:=h
section
variable {P:Program}{ops:Array Oper}{Q:Exit→Act→World→Prop}{X:List Nat}{a0:Act}
end
end
section
section
variable {pr:Bool}{P:Program}
end
end
section
section
variable {pr:Bool}{P:Program}
end
end
end Go.Gk
end
section
namespace Go.Gk.Chn
open Go Go.Gk Go.Gk.Dev Go.Gk.Cch Go.Gk.Pgr Go.Gk.Node
attribute [local irreducible] gwp gws xwp
def EA(s:PD)(l:List Int):Nat→PD×List Int×Int
 |0=>(s,l,0)
 |n+1=>if s.Br.2.2=0 then EA s.Br.1 (l++[s.Br.2.1]) n else(s.Br.1,l,s.Br.2.2)
def L7(s:PD)(l:List Int):PD:=l.foldl (fun s k=>(s.drop k).1) s
def DK(s:PD)(n:Nat):PD×List Int×Int:=if (EA s [] n).2.2=0 then EA s [] n else(L7 (EA s [] n).1 (EA s [] n).2.1,[],(EA s [] n).2.2)
end Go.Gk.Chn
end
section
namespace Go.Gk.Chn
open Go Go.Gk Go.Gk.Dev Go.Gk.Cch Go.Gk.Pgr Go.Gk.Node
section
section
variable {P:Program}{pan:List PanicEntry→Ah}{Qn:Env→Ah}{Ls L:List Aa}{ρ:Env}{d:Aa}{s:GS}{t:Nat}{tk:Bool}
end
attribute [local irreducible] gwp gws xwp
def Lu(n:Nat):Nat:=max 1 ((n+253) / 254)
def L9(next:Int)(c:List UInt8):Sec:=UInt8.ofNat (next / 256 % 256).toNat::UInt8.ofNat (next % 256).toNat::(c++Mv (254 - c.length) 0)
def G6(b:List UInt8)(i:Nat):List UInt8:=(b.drop (i*254)).take 254
end
section
section
variable {P:Program}{pan:List PanicEntry→Ah}{Qn:Env→Ah}{Ls L:List Aa}{ρ:Env}{d:Aa}{s:GS}{t:Nat}{tk:Bool}
end
attribute [local irreducible] gwp gws xwp
def GH(s:PD)(k:Int):Prop:=s.kind k=1∨s.kind k=2
instance (s:PD) (k:Int):Decidable (GH s k):=inferInstanceAs (Decidable (_∨_))
end
section
attribute [local irreducible] gwp gws xwp
end
section
attribute [local irreducible] gwp gws xwp
end
end Go.Gk.Chn
end
section
namespace Go.Gk.Chn
open Go Go.Gk Go.Gk.Dev Go.Gk.Cch Go.Gk.Pgr Go.Gk.Node
attribute [local irreducible] gwp gws xwp
def Nob(d:Aa)(v:Value):Prop:=v=.pointer none∨∃b,v=pZ b∧DC d b 0 (.pointer none)
def Gb(P:Program)(f:FuncId):Prop:=∀{d v},Nob d v→BG P f [v] d (.bool true)
def JJ{P f}(hd:dec P f=some CN):Gb P f:=by
 intro d v h;refine Aq hd (Ms rfl) ?_;rcases h with rfl|⟨b,rfl,hb⟩
 ·show gwp P _ _ _ _ _;(refine Ae<|Ag rfl<|Ab<|Ae<|Ad rfl<|Cp rfl rfl<|Ag rfl<|Au rfl<|Au rfl<|Au rfl<|Au rfl<|Au rfl<|AB rfl rfl<|Ag rfl<|Ab<|As ?_);(apply GF;rfl);rfl
 ·show gwp P _ _ _ _ _;(refine Ae<|Ag rfl<|Ab<|Ae<|Ad rfl<|A1 rfl rfl<|Ag rfl<|Af rfl<|Ad rfl<|Af rfl<|AM rfl<|Af rfl<|AR rfl<|Af rfl<|AX rfl (DT (by assumption))<|Af rfl<|Cp rfl rfl<|Al rfl rfl<|Ag rfl<|Ab<|As ?_);(apply GF;rfl);rfl
def Nob.mono{d d' v}(h:Nob d v)(hl:Le d d'):Nob d' v:=h.imp id fun⟨b,e,hb⟩=>⟨b,e,hb.mono hl⟩
end Go.Gk.Chn
end
section
namespace Go.Gk.Node
open Go Go.Gk
attribute [local irreducible] gwp gws
structure Cs where
 leaf:Bool
 keys:List (List UInt8)
 vals:List (List UInt8)
 kids:List Int
def H9(d:Aa)(cs:List Value)(n:Cs):Prop:=
 ∃kv vv iv,cs=[.bool n.leaf,kv,vv,iv]∧G8 d kv n.keys∧G8 d vv n.vals∧CI d iv n.kids
end Go.Gk.Node
end
section
namespace Go.Gk.Node
open Go Go.Gk
section
attribute [local irreducible] gwp gws
end
section
attribute [local irreducible] gwp gws
end
section
attribute [local irreducible] gwp gws
end
section
attribute [local irreducible] gwp gws
end
end Go.Gk.Node
end
section
namespace Go.Gk.Node
open Go Go.Gk
attribute [local irreducible] gwp gws
def Mj(k:Int):List UInt8:=[UInt8.ofNat ((k / 256) % 256).toNat,UInt8.ofNat (k % 256).toNat]
def u8n(n:Nat):UInt8:=UInt8.ofNat ((n:Int) % 256).toNat
def headD(n:Cs):List UInt8:=[if n.leaf then 1 else 2,u8n n.keys.length]++(if n.leaf then [] else Mj (n.kids.getD 0 0))
def JK(n:Nat):Aw [Value.int .u8 0] n=Mv n (AO 0):=by
 unfold Aw;apply List.ext_getElem
 ·simp
 ·intro i h1 h2;simp[Nat.mod_one,AO]
def E2.nil{N b:Nat}{T}:E2 N (.slice (some ⟨b,0,none⟩) 0 N) [] (bx b T (Aw [Value.int .u8 0] (N*1))):=
 ⟨Nat.zero_le _,b,T,rfl,by rw[JK];simp⟩
end Go.Gk.Node
end
section
namespace Go.Gk.Node
open Go Go.Gk
section
attribute [local irreducible] gwp gws
end
end Go.Gk.Node
end
section
namespace Go.Gk.Node
open Go Go.Gk
attribute [local irreducible] gwp gws
def H9.mono{d d' cs}{n:Cs}(h:H9 d cs n)(hl:Le d d'):H9 d' cs n:=
 let ⟨kv,vv,iv,e,h1,h2,h3⟩:=h
 ⟨kv,vv,iv,e,h1.mono hl,h2.mono hl,h3.mono hl⟩
instance:DecidableEq Cs:=fun a b=>by
 obtain⟨a1,a2,a3,a4⟩:=a;obtain⟨b1,b2,b3,b4⟩:=b;simp only[Cs.mk.injEq];exact inferInstance
end Go.Gk.Node
end
section
namespace Go.Gk.Node
open Go Go.Gk
section
attribute [local irreducible] gwp gws
end
end Go.Gk.Node
end
section
namespace Go.Gk.Node
open Go Go.Gk
attribute [local irreducible] gwp gws
def CX(d:Aa)(v:Value)(xs:List (List UInt8))(L:List Aa):Prop:=∃us h0 hs,AJ 1 v xs.length us h0∧hs.length=xs.length∧
 (∀i (hi:i<xs.length),∃u g,us[i]?=some u∧hs[i]?=some g∧Ai 1 BV d u xs[i] g)∧L=h0::hs
def CX.val{d v xs L}(o:CX d v xs L):∃a c,v=.slice a xs.length c:=by
 obtain⟨us,h0,hs,h1,_⟩:=o;obtain⟨a,b,c,e,_⟩:=h1.slice;exact⟨a,c,e⟩
end Go.Gk.Node
end
section
namespace Go.Gk.Node
open Go Go.Gk
section
attribute [local irreducible] gwp gws
end
end Go.Gk.Node
end
section
namespace Go.Gk.Node
open Go Go.Gk
attribute [local irreducible] gwp gws
def FM(d:Aa)(cs:List Value)(n:Cs)(L:List Aa):Prop:=
 ∃kv vv iv Lk Lv hi,cs=[.bool n.leaf,kv,vv,iv]∧CX d kv n.keys Lk∧CX d vv n.vals Lv∧Ai 1 AT d iv n.kids hi∧L=Lk++Lv++[hi]
def CX.nil{d}:CX d (.slice none 0 0) [] [emp]:=⟨[],emp,[],AJ.nil 1,rfl,fun i hi=>absurd hi (Ns i),rfl⟩
def FM.zero{d}:FM d [.bool false,.slice none 0 0,.slice none 0 0,.slice none 0 0] ⟨false,[],[],[]⟩ [emp,emp,emp]:=⟨_,_,_,[emp],[emp],emp,rfl,CX.nil,CX.nil,Ai.nil,rfl⟩
end Go.Gk.Node
end
section
namespace Go.Gk.Node
open Go Go.Gk
section
attribute [local irreducible] gwp gws
end
section
attribute [local irreducible] gwp gws
end
end Go.Gk.Node
end
section
namespace Go.Gk.Node
open Go Go.Gk
attribute [local irreducible] gwp gws
section
def OB(d:Aa)(v:Value)(xs:List (List UInt8))(h0:Aa)(hs:List Aa):Prop:=∃us,AJ 1 v xs.length us h0∧hs.length=xs.length∧∀i (hi:i<xs.length),∃u g,us[i]?=some u∧hs[i]?=some g∧Ai 1 BV d u xs[i] g
def OB.nil{d}:OB d (.slice none 0 0) [] emp []:=⟨[],AJ.nil 1,rfl,fun i hi=>absurd hi (Ns i)⟩
def OB.Mn{d v xs h0 hs}(o:OB d v xs h0 hs):CX d v xs (h0::hs):=let ⟨us,a,b,c⟩:=o;⟨us,h0,hs,a,b,c,rfl⟩
def OB.val{d v xs h0 hs}(o:OB d v xs h0 hs):∃a c,v=.slice a xs.length c:=o.Mn.val
section
variable {P:Program}{pan:List PanicEntry→Ah}{Qn:Env→Ah}{Ls L:List Aa}{ρ:Env}{d:Aa}{s:GS}{t:Nat}
end
end
def LJ:Cs:=⟨false,[],[],[]⟩
def F6(b:List UInt8)(a:Int):Option (List UInt8×Nat):=if a<0 then none else
 match b[a.toNat]? with
 |none=>none
 |some k=>if a.toNat+1+k.toNat>b.length then none else some ((b.drop (a.toNat+1)).take k.toNat,a.toNat+1+k.toNat)
def Kv{b x}{a:Int}{e:Nat}(h:F6 b a=some (x,e)):e≤b.length:=by
 simp only[F6] at h;split at h
 ·cases h
 ·split at h
  ·cases h
  ·split at h
   ·cases h
   ·simp only[Option.some.injEq,Prod.mk.injEq] at h;omega
def Kb(P:Program)(f:FuncId):Prop:=∀{d v b},A4 d v b→b.length≤1000→∀a:Int, -1≤a→a≤1000→
 Aj P f [v,vZ a] d [] (Ret fun r d' L'=>d'=d∧((F6 b a=none∧r=.tuple #[.slice none 0 0,vZ (-1)]∧L'=[])∨
  ∃x e u g,F6 b a=some (x,e)∧r=.tuple #[u,vZ (e:Nat)]∧L'=[g]∧Ai 1 BV d u x g))
def Kb.data{P f}(h:Kb P f){d v b}(hv:A4 d v b)(hb:b.length≤1000){a:Int}(h1: -1≤a)(h2:a≤1000):
  Aj P f [v,vZ a] d [] (Ret fun r d' L'=>L'=[]∧∃ua uc x a',r=.tuple #[.slice ua x.length uc,vZ a']∧A4 d' (.slice ua x.length uc) x∧ -1≤a'∧a'≤b.length∧((a'= -1∧F6 b a=none)∨∃e:Nat,a'=e∧F6 b a=some (x,e))):=by
 refine(h hv hb a h1 h2).Im (fun r d' L' hl ⟨hdd,hr⟩=>?_)
 rcases hr with ⟨e1,rfl,rfl⟩|⟨x,e,u,g,e1,rfl,rfl,hg⟩
 ·exact⟨d',[],Vs.refl _ _,rfl,none,0,[], -1,rfl,RSl.nil,by omega,by omega,.inl ⟨rfl,e1⟩⟩
 ·subst hdd
  obtain⟨ua,uc,rfl⟩:=hg.val
  have:=Kv e1
  exact⟨Gk.join d' g,[],Vs.freeze,rfl,ua,uc,x,e,rfl,hg.rsl Em (by omega) (Le.Ap _ _) (Le.AF _ _),by omega,by omega,.inr ⟨e,rfl,e1⟩⟩
end Go.Gk.Node
end
section
namespace Go.Gk.Node
open Go Go.Gk
section
attribute [local irreducible] gwp gws
end
end Go.Gk.Node
end
section
namespace Go.Gk.Node
open Go Go.Gk
attribute [local irreducible] gwp gws
def CX.mono{d d' v xs L}(o:CX d v xs L)(hl:Le d d'):CX d' v xs L:=
 let ⟨us,h0,hs,h1,h2,h3,h4⟩:=o
 ⟨us,h0,hs,h1,h2,fun i hi=>let ⟨u,g,k1,k2,k3⟩:=h3 i hi;⟨u,g,k1,k2,Ai.mono (R:=BV) Em k3 hl⟩,h4⟩
def FM.mono{d d' cs}{n:Cs}{L}(o:FM d cs n L)(hl:Le d d'):FM d' cs n L:=
 let ⟨kv,vv,iv,Lk,Lv,hi,e,h1,h2,h3,h4⟩:=o
 ⟨kv,vv,iv,Lk,Lv,hi,e,h1.mono hl,h2.mono hl,h3.Kj hl,h4⟩
end Go.Gk.Node
end
section
namespace Go.Gk.Node
open Go Go.Gk
section
attribute [local irreducible] gwp gws
end
section
attribute [local irreducible] gwp gws
end
end Go.Gk.Node
end
section
namespace Go.Gk
open Go
section
section
variable {P:Program}{pan:List PanicEntry→Ah}{Qn:Env→Ah}{Ls L:List Aa}{ρ:Env}{d:Aa}{s:GS}{t:Nat}{tk:Bool}
end
section
variable {P:Program}{pan:List PanicEntry→Ah}{Qn:Env→Ah}{Ls L:List Aa}{ρ:Env}{d:Aa}{s:GS}{t:Nat}
end
end
end Go.Gk
end
section
namespace Go.Gk
open Go
attribute [local irreducible] gwp gws
def Ai.one{α R d v}{xs:List α}{h}:Ai 1 R d v xs h↔∃cs,AJ 1 v xs.length cs h∧∀i (hi:i<xs.length) u,cs[i]?=some u→R d [u] xs[i]:=by
 constructor
 ·rintro⟨cs,h1,h2⟩;refine⟨cs,h1,fun i hi u hu=>?_⟩
  have:=h2 i hi;unfold chunk at this;rw[Nat.mul_one,M5 (by have:=h1.1;omega),List.take_succ_cons,List.take_zero] at this;obtain⟨hlt,rfl⟩:=List.getElem?_eq_some_iff.1 hu;exact this
 ·rintro⟨cs,h1,h2⟩;refine⟨cs,h1,fun i hi=>?_⟩
  have hl:i<cs.length:=by have:=h1.1;omega
  unfold chunk;rw[Nat.mul_one,M5 hl,List.take_succ_cons,List.take_zero];exact h2 i hi cs[i] (Mt hl)
def Ai.del{α:Type}{R:Aa→List Value→α→Prop}{d:Aa}{xs:List α}{cs l:List Value}{b c:Nat}{T:TypeId}{i:Nat}(hi:i<xs.length)(hcl:cs.length=xs.length)(hn:xs.length≤140737488355328)(h3:xs.length≤c)(h4:c≤9223372036854775807)(h5:c≤l.length)
  (h6:∀j,j<xs.length - 1→l[j]?=(cs.eraseIdx i)[j]?) (h2:∀i (hi:i<xs.length) u,cs[i]?=some u→R d [u] xs[i]):Ai 1 R d (.slice (some ⟨b,0,none⟩) (xs.length - 1) c) (xs.eraseIdx i) (bx b T l):=by
 have hel:(xs.eraseIdx i).length=xs.length - 1:=by rw[List.length_eraseIdx,if_pos hi]
 have hcl':(cs.eraseIdx i).length=xs.length - 1:=by rw[List.length_eraseIdx,if_pos (by omega),hcl]
 have ho:AJ 1 (.slice (some ⟨b,0,none⟩) (xs.length - 1) c) (xs.length - 1) (cs.eraseIdx i) (bx b T l):=by
  refine AJ.mk (by rw[hcl'];omega) (by omega) (by omega) h4 (by omega) ?_;apply Nu;intro j;rw[hcl',List.getElem?_take];by_cases hj:j<xs.length - 1
  ·rw[if_pos hj,h6 j hj]
  ·rw[if_neg hj,MP (by omega)]
 rw[Ai.one]
 refine⟨cs.eraseIdx i,by rw[hel];exact ho,fun j hj u hu=>?_⟩
 ·have hx:(xs.eraseIdx i)[j]?=some (xs.eraseIdx i)[j]:=Mt (by omega)
  rw[List.getElem?_eraseIdx] at hu hx
  by_cases q:j<i
  ·rw[if_pos q] at hu hx
   rw[Mt (by omega)] at hx
   rw[←Option.some.inj hx];exact h2 j (by omega) u hu
  ·rw[if_neg q] at hu hx
   rw[Mt (by omega)] at hx
   rw[←Option.some.inj hx];exact h2 (j+1) (by omega) u hu
end Go.Gk
end
section
namespace Go.Gk
def Vs.app{d d' L L'}(h:Vs d L d' L')(M:List Aa):Vs d (L++M) d' (L'++M):=
 ⟨h.1,fun F W x=>by rw[List.append_assoc] at x⊢;exact h.2 (M++F) W x⟩
section
variable {P:Program}{pan:List PanicEntry→Ah}{Qn:Env→Ah}{Ls L:List Aa}{ρ:Env}{d:Aa}{s:GS}{t:Nat}
def BO{f args R vs A}(l:List Aa)(hc:Aj P f vs d A (Ret R))(hL:L=l++A)(ea:args.map (ev ρ)=vs)
  (h:∀v d' L',Le d d'→R v d' L'→gws P pan Qn s Ls (upd ρ t v) d' (l++L')):gws P pan Qn (.op false ⟨some t,none,.call f args⟩ s) Ls ρ d L:=by
 subst hL
 refine KB hc MJ ea (fun v d' L' hl hr=>⟨d',l++L',Vs.perm MJ,h v d' L' hl hr⟩)
end
end Go.Gk
namespace Go.Gk.Tre
open Go Go.Gk Go.Gk.Dev Go.Gk.Cch Go.Gk.Pgr Go.Gk.Chn Go.Gk.Node
def DX(d:Aa)(cs:List Value)(n:Cs)(hk hv hi:Aa):Prop:=∃kv vv iv,cs=[.bool n.leaf,kv,vv,iv]∧Ai 1 RBs d kv n.keys hk∧Ai 1 RBs d vv n.vals hv∧Ai 1 AT d iv n.kids hi
def DX.mono{d d' cs}{n:Cs}{hk hv hi}(h:DX d cs n hk hv hi)(hl:Le d d'):DX d' cs n hk hv hi:=
 let ⟨kv,vv,iv,e,a,b,c⟩:=h;⟨kv,vv,iv,e,a.I8 hl,b.I8 hl,c.Kj hl⟩
def DX.zero{d}:DX d [.bool false,.slice none 0 0,.slice none 0 0,.slice none 0 0] LJ emp emp emp:=⟨_,_,_,rfl,Ai.nil,Ai.nil,Ai.nil⟩
def PgT(d:Aa)(s:PD)(dv pv:Value)(L:List Aa):Prop:=∃tc,Pg d {s with tc:=tc} dv pv L
def PgT.mono{d d' s dv pv L}(h:PgT d s dv pv L)(hl:Le d d'):PgT d' s dv pv L:=let ⟨tc,h⟩:=h;⟨tc,h.mono hl⟩
def PgT.of{d s dv pv L}(h:Pg d s dv pv L):PgT d s dv pv L:=⟨s.tc,h⟩
def PgT.ptr{d s dv pv L}(h:PgT d s dv pv L):∃b,pv=pZ b:=let ⟨_,h⟩:=h;h.ptr
def PgT.JV{d s dv pv L}(h:PgT d s dv pv L):Pgr.Good s:=by
 obtain⟨tc,h⟩:=h;have g:=h.JV;exact⟨g.one,g.len,g.inn,g.syn,g.kd⟩
def PgT.full{d s dv pv L}(h:PgT d s dv pv L){k:Int}(hk:GH s k):(s.bytes k).length=256:=by
 obtain⟨tc,h⟩:=h;exact h.full (s:={s with tc:=tc}) hk
abbrev tb(bt:Nat)(Tt:TypeId)(pv:Value)(r h c:Int):Aa:=bx bt Tt [pv,.int .i64 r,.int .i64 h,.int .i64 c]
end Go.Gk.Tre
end
section
namespace Go.Gk.Tre
open Go Go.Gk Go.Gk.Dev Go.Gk.Cch Go.Gk.Pgr Go.Gk.Chn Go.Gk.Node
structure TD where
 s:PD
 root:Int
 height:Nat
 count:Nat
end Go.Gk.Tre
end
section
namespace Go.Gk
open Go
section
section
variable {P:Program}{pan:List PanicEntry→Ah}{Qn:Env→Ah}{Ls L:List Aa}{ρ:Env}{d:Aa}{s:GS}{t:Nat}{tk:Bool}
end
end
end Go.Gk
end
section
namespace Go.Gk.Tre
open Go Go.Gk Go.Gk.Dev Go.Gk.Cch Go.Gk.Pgr Go.Gk.Chn Go.Gk.Node
attribute [local irreducible] gwp gws xwp
def E8:A3:=⟨12,[(.tmp 2)],(sR (o1 2 (.mv (.const (.bool false))) .done) (sR (om 3 0<|o1 4 (.eqp false 3 (.const (.pointer none)))<|om 5 4<|gF 6 5 0<|oF 7 5 (.nilc 6)<|oF 8 5 (.fld 0 7)<|oF 9 5 (.ld none 8)<|oF 10 5 (.eqp false 9 (.const (.pointer none)))<|o1 11 (.pick 5 (.const (.bool true)) 10)<|om 2 11 .done) .ret))⟩
def Fl(a0:Nat):A3:=⟨17,[(.tmp 4)],(sR (o1 4 (.mv z0) .done) (.seq (.block 0 (sR (om 6 0<|oc 7 a0 [6]<|om 5 7 .done) (.cond 5 (sR (o1 4 (.mv z1) .done) .ret) (sR (om 9 1<|oL 10 9<|ob 11 .lss 10 z1<|om 12 11<|gF 13 12 1<|oF 14 12 (.len 13)<|oF 15 12 (.bin .gtr 14 (kZ 64))<|o1 16 (.pick 12 (.const (.bool true)) 15)<|om 8 16 .done) (.cond 8 (sR (o1 4 (.mv z2) .done) .ret) .skip))))) (sR (o1 4 (.mv z0) .done) .ret)))⟩
def DX.cells{d cs}{n:Cs}{hk hv hi}(o:DX d cs n hk hv hi):∃ka kc va vc ia ic,cs=[.bool n.leaf,.slice ka n.keys.length kc,.slice va n.vals.length vc,.slice ia n.kids.length ic]:=by
 obtain⟨kv,vv,iv,rfl,a1,a2,a3⟩:=o;obtain⟨x1,x2,rfl⟩:=a1.val;obtain⟨y1,y2,rfl⟩:=a2.val;obtain⟨z1,z2,rfl⟩:=a3.val;exact⟨_,_,_,_,_,_,rfl⟩
def Cf{b:List UInt8}{i:Nat}(h:i<b.length):b.getD i 0=b[i]:=by rw[Mu,Mt h];rfl
end Go.Gk.Tre
end
section
namespace Go.Gk.Chn
open Go Go.Gk Go.Gk.Dev Go.Gk.Cch Go.Gk.Pgr
variable{s s0 t:PD}{l:List Int}
structure Tk (s0 s:PD) (l:List Int):Prop where
 frm:s.frm=s0.frm
 syn:s.syn=s0.syn
 round:s.round=s0.round
 len:s.kinds.length=s0.kinds.length
 kd:∀j,j<s0.kinds.length→s.kd j=if ((s0.frm+j:Nat):Int)∈l then 1 else s0.kd j
 was:∀k∈l,∃j,j<s0.kinds.length∧k=((s0.frm+j:Nat):Int)∧s0.kd j=0
 nd:l.Nodup
 fb:∀j,((s0.frm+j:Nat):Int)∉l→s.fb j=s0.fb j
 free:s.free+l.length=s0.free
def Tk.nil(s:PD):Tk s s []:=⟨rfl,rfl,rfl,rfl,fun j _=>(by simp),fun k hk=>(by cases hk),List.nodup_nil,fun _ _=>rfl,rfl⟩
def J5{i:Nat}{x:Int}(hi:i<s.kinds.length):(s.kinds.set i x).countP (·==0)+(if s.kinds[i]=0 then 1 else 0)=s.free+(if x=0 then 1 else 0):=by
 rw[List.countP_set hi];have hp:s.kinds[i]=0→0<s.free:=fun h=>List.countP_pos_iff.2 ⟨_,MV hi,by simp[h]⟩;have hf:s.free=s.kinds.countP (·==0):=rfl;rw[hf] at hp⊢;by_cases h0:s.kinds[i]=0
 ·have:=hp h0;by_cases hx:x=0
  ·simp[h0,hx];omega
  ·simp[h0,hx];omega
 ·by_cases hx:x=0
  ·simp[h0,hx]
  ·simp[h0,hx]
def Hu(h:B1 0 l=none):l.countP (·==0)=0:=by
 rw[List.countP_eq_zero];intro a ha e;have:a=0:=by simpa using e
 subst this;clear e;induction l with
 |nil=>cases ha
 |cons y l ih=>
  rw[B1] at h
  split at h
  ·cases h
  ·rename_i hne
   rcases MO.1 ha with rfl|ha
   ·exact hne rfl
   ·exact ih (by cases q:B1 0 l with|none=>rfl|some j=>rw[q] at h;cases h) ha
def Tk.take(h:Tk s0 s l):(s.Br.2.2=0∧Tk s0 s.Br.1 (l++[s.Br.2.1]))∨(s.Br.2.2=190∧s.Br.1=s∧s.free=0):=by
 unfold PD.Br;cases hq:B1 0 s.kinds with
 |none=>exact .inr ⟨rfl,rfl,Hu hq⟩
 |some i=>
  obtain⟨hi,h0⟩:=Dy hq
  refine .inl ⟨rfl,?_⟩
  show Tk s0 (s.FG i) (l++[((s.frm+i:Nat):Int)])
  have hi0:i<s0.kinds.length:=by rw[←h.len];exact hi
  have hnot:((s0.frm+i:Nat):Int)∉l:=fun hm=>by
   have:=h.kd i hi0;rw[if_pos hm,GX hi,h0] at this;cases this
  have h00:s0.kd i=0:=by
   have:=h.kd i hi0;rw[if_neg hnot,GX hi,h0] at this;exact this.symm
  rw[h.frm]
  refine⟨h.frm,h.syn,h.round,by simp[PD.FG,h.len],fun j hj=>?_,fun k hk=>?_,?_,fun j hj=>?_,?_⟩
  ·show(s.kinds.set i 1).getD j 0=_
   rw[CA hi]
   by_cases e:j=i
   ·subst e;rw[if_pos rfl,if_pos (by simp)]
   ·rw[if_neg e,show s.kinds.getD j 0=s.kd j from rfl,h.kd j hj]
    by_cases hm:((s0.frm+j:Nat):Int)∈l
    ·rw[if_pos hm,if_pos (Nv _ hm)]
    ·rw[if_neg hm,if_neg]
     intro hm'
     rcases Mw.1 hm' with q|q
     ·exact hm q
     ·have:=MY.1 q;omega
  ·rcases Mw.1 hk with q|q
   ·exact h.was k q
   ·exact⟨i,hi0,MY.1 q,h00⟩
  ·refine List.nodup_append.2 ⟨h.nd,by simp,fun a ha b hb=>?_⟩
   rw[MY.1 hb]
   exact fun e=>hnot (e▸ha)
  ·show Ix s.fb i Fb j=s0.fb j
   have hne:j≠i:=fun e=>hj (by rw[e];simp)
   rw[Ix,if_neg hne]
   exact h.fb j (fun q=>hj (Nv _ q))
  ·have hf:=J5 (s:=s) (i:=i) (x:=1) hi
   rw[if_pos h0,if_neg (by decide)] at hf
   have:=h.free
   show(s.kinds.set i 1).countP (·==0)+(l++[_]).length=s0.free
   rw[MH,List.length_singleton]
   omega
structure Iq (s:PD) (b:List UInt8) (l:List Int):Prop where
 len:l.length=Lu b.length
 rng:∀k∈l,0≤k∧k<65535
 live:∀j (h:j<l.length),GH s l[j]
 pg:∀j (h:j<l.length),s.bytes l[j]=L9 (l.getD (j+1) 65535) (G6 b j)
def Gq{b}{i:Nat}:(G6 b i).length=min 254 (b.length - i*254):=by unfold G6;rw[MW,List.length_drop]
structure F1 (s t:PD):Prop where
 frm:t.frm=s.frm
 kinds:t.kinds=s.kinds
 syn:t.syn=s.syn
 round:t.round=s.round
def F1.refl(s:PD):F1 s s:=⟨rfl,rfl,rfl,rfl⟩
def F1.kind(h:F1 s t)(k:Int):t.kind k=s.kind k:=by unfold PD.kind PD.kd;rw[h.frm,h.kinds]
def F1.free(h:F1 s t):t.free=s.free:=by unfold PD.free;rw[h.kinds]
def Tk.kind(h:Tk s0 s l)(k:Int):s.kind k=if k∈l then 1 else s0.kind k:=by
 unfold PD.kind;rw[h.frm,h.len];by_cases e:(s0.frm:Int)≤k∧k<(s0.frm:Int)+s0.kinds.length
 ·rw[if_pos e,if_pos e,h.kd _ (by omega),show((s0.frm+(k - s0.frm).toNat:Nat):Int)=k by omega]
 ·rw[if_neg e,if_neg e];rw[if_neg];intro hm;obtain⟨j,j1,j2, -⟩:=h.was k hm;omega
def Tk.not(h:Tk s0 s l){k:Int}(hk:s0.kind k≠0):k∉l:=fun hm=>by
 obtain⟨j,j1,rfl,j3⟩:=h.was k hm;rw[KN j1] at hk;exact hk j3
def Tk.bytes(h:Tk s0 s l){k:Int}(hk:k∉l):s.bytes k=s0.bytes k:=by
 have hkk:=h.kind k;rw[if_neg hk] at hkk;unfold PD.bytes;rw[hkk,h.syn];by_cases h1:s0.kind k=1
 ·rw[if_pos h1,if_pos h1];obtain⟨j,j1,rfl,j2,j3⟩:=DI h1 (by omega);rw[h.frm,j3];exact h.fb j hk
 ·rw[if_neg h1,if_neg h1]
def Iq.stay{b}(h:Iq s b l)(hs:∀k∈l,t.kind k=s.kind k∧t.bytes k=s.bytes k):Iq t b l:=
 ⟨h.len,h.rng,fun j hj=>by unfold GH;rw[(hs _ (MV hj)).1];exact h.live j hj,fun j hj=>by rw[(hs _ (MV hj)).2];exact h.pg j hj⟩
end Go.Gk.Chn
end
section
namespace Go.Gk.Chn
open Go Go.Gk Go.Gk.Dev Go.Gk.Cch Go.Gk.Pgr
end Go.Gk.Chn
end
section
namespace Go.Gk.Tre
open Go Go.Gk Go.Gk.Dev Go.Gk.Cch Go.Gk.Pgr Go.Gk.Chn Go.Gk.Node
section
abbrev wtc(s:PD)(n:Nat):PD:={s with tc:=n}
section
variable {P:Program}{f:FuncId}{d:Aa}{s:PD}{dv pv:Value}{L:List Aa}
def PgT.mk{n:Nat}(h:Pg d (wtc s n) dv pv L):PgT d s dv pv L:=⟨n,h⟩
end
end
section
attribute [local irreducible] gwp gws xwp
end
section
attribute [local irreducible] gwp gws xwp
end
end Go.Gk.Tre
end
section
namespace Go.Gk.Tre
open Go Go.Gk Go.Gk.Node
end Go.Gk.Tre
end
section
namespace Go.Gk.Tre
open Go Go.Gk Go.Gk.Dev Go.Gk.Cch Go.Gk.Pgr Go.Gk.Chn Go.Gk.Node
section
attribute [local irreducible] gwp gws xwp
end
end Go.Gk.Tre
end
section
namespace Go.Gk.Tre
open Go Go.Gk Go.Gk.Dev Go.Gk.Cch Go.Gk.Pgr Go.Gk.Chn Go.Gk.Node
attribute [local irreducible] gwp gws xwp
abbrev tbD(bt:Nat)(Tt:TypeId)(pv:Value)(t:TD):Aa:=tb bt Tt pv t.root t.height t.count
end Go.Gk.Tre
end
section
namespace Go.Gk.Tre
open Go Go.Gk Go.Gk.Dev Go.Gk.Cch Go.Gk.Pgr Go.Gk.Chn Go.Gk.Node
end Go.Gk.Tre
end
section
namespace Go.Gk.Tre
open Go Go.Gk Go.Gk.Dev Go.Gk.Cch Go.Gk.Pgr Go.Gk.Chn Go.Gk.Node
section
attribute [local irreducible] gwp gws xwp
end
section
section
variable {s:PD}{k:Int}{key cell:List UInt8}{x:Nat}
end
end
section
attribute [local irreducible] gwp gws xwp
end
end Go.Gk.Tre
end
section
namespace Go.Gk
open Go
section
section
variable {pr:Bool}{P:Program}
end
end
end Go.Gk
end
section
namespace Go.Gk.Tre
open Go Go.Gk Go.Gk.Dev Go.Gk.Cch Go.Gk.Pgr Go.Gk.Chn Go.Gk.Node
attribute [local irreducible] gwp gws xwp
section
section
variable {P:Program}{pan:List PanicEntry→Ah}{Qn:Env→Ah}{Ls L:List Aa}{ρ:Env}{d:Aa}{s:GS}{t:Nat}
end
end
end Go.Gk.Tre
end
section
namespace Go.Gk.Tre
open Go Go.Gk Go.Gk.Dev Go.Gk.Cch Go.Gk.Pgr Go.Gk.Chn Go.Gk.Node
end Go.Gk.Tre
end
section
namespace Go.Gk
open Go
section
def Aj.pre{P f args d A L R}(p:L.Perm A)(h:Aj P f args d A R):Aj P f args d L R:=
 ⟨h.1,fun F W ok=>h.2 F W (ok.perm (My d (List.Perm.append_right F p)))⟩
section
variable {P:Program}{pan:List PanicEntry→Ah}{Qn:Env→Ah}{Ls L:List Aa}{ρ:Env}{d:Aa}{s:GS}{t:Nat}
end
end
end Go.Gk
end
section
namespace Go.Gk.Tre
open Go Go.Gk Go.Gk.Dev Go.Gk.Cch Go.Gk.Pgr Go.Gk.Chn Go.Gk.Node
section
attribute [local irreducible] gwp gws xwp
end
end Go.Gk.Tre
end
section
namespace Go.Gk.Tre
open Go Go.Gk Go.Gk.Dev Go.Gk.Cch Go.Gk.Pgr Go.Gk.Chn Go.Gk.Node
attribute [local irreducible] gwp gws xwp
def Fp(a0:Nat):A3:=⟨9,[(.tmp 2)],(sR (o1 2 (.mv z0) .done) (.seq (sR (om 3 0<|oc 4 a0 [3] .done) (.cond 4 (sR (o1 2 (.mv (kZ (-1))) .done) .ret) .skip)) (sR (om 5 0<|o1 6 (.nilc 5)<|oj 7 1 6<|ol 8 7<|om 2 8 .done) .ret)))⟩
def Eh(a0:Nat):A3:=⟨9,[(.tmp 2)],(sR (o1 2 (.mv z0) .done) (.seq (sR (om 3 0<|oc 4 a0 [3] .done) (.cond 4 (sR (o1 2 (.mv z0) .done) .ret) .skip)) (sR (om 5 0<|o1 6 (.nilc 5)<|oj 7 2 6<|ol 8 7<|om 2 8 .done) .ret)))⟩
def EN(a0:Nat):A3:=⟨9,[(.tmp 2)],(sR (o1 2 (.mv z0) .done) (.seq (sR (om 3 0<|oc 4 a0 [3] .done) (.cond 4 (sR (o1 2 (.mv z0) .done) .ret) .skip)) (sR (om 5 0<|o1 6 (.nilc 5)<|oj 7 3 6<|ol 8 7<|om 2 8 .done) .ret)))⟩
def GU(P:Program)(f:FuncId):Prop:=∀{d s dv pv L},Pg d s dv pv L→
 Aj P f [pv] d L (Ret fun v d' L'=>Le d d'∧∃bt Tt,v=.tuple #[pZ bt,vZ 0]∧L'=tbD bt Tt pv ⟨s, -1,0,0⟩::L)
def Iz(a0:Nat):A3:=⟨10,[(.tmp 2),(.tmp 3)],(sR (o1 2 (.mv (.const (.pointer none)))<|o1 3 (.mv z0) .done) (.seq (sR (om 4 0<|oc 5 a0 [4]<|o1 6 (.eqp false 5 (.const (.pointer none))) .done) (.cond 6 (sR (o1 2 (.mv (.const (.pointer none)))<|o1 3 (.mv z1) .done) .ret) .skip)) (sR (om 7 0<|o1 8 (.bld [(0,1),(1,1),(2,1),(3,1)] [(.pointer none),(vZ 0),(vZ 0),(vZ 0)] [(0,7),(1,(kZ (-1)))])<|o1 9 (.box 8)<|om 2 9<|o1 3 (.mv z0) .done) .ret)))⟩
def KC{P f f1}(hd:dec P f=some (Iz f1))(h1:Ec P f1):GU P f:=by
 intro d s dv pv L hp;obtain⟨bp,rfl⟩:=hp.ptr;refine Aq hd (Ms rfl) ?_;show gwp P _ _ _ _ _;(refine Ae<|Ad rfl<|Ac rfl<|Ab<|An<|Ae<|Ad rfl ?_);refine Bw (h1 hp) rfl (fun v d2 L2 hl2 ⟨e1,_,hm⟩=>?_);subst e1;have hmc:∃bm,v=pZ bm:=by obtain⟨bm,_,_,_,_,_,q,_⟩:=hm;exact⟨bm,q⟩
 obtain⟨bm,rfl⟩:=hmc;(refine A1 rfl rfl<|Ab<|Bd rfl<|Av<|Ae<|Ad rfl<|BT rfl<|BF rfl (fun _ _=>Ad rfl<|Ac rfl<|Ab<|As ?_));exact Cm [pZ _,vZ 0] ⟨A7 rfl,A7 rfl,trivial⟩ (Vs.refl _ _) ⟨hl2,_,_,rfl,rfl⟩
def CH(root height count:Int):Bool:=(decide (height=0)&& decide (root= -1)&& decide (count=0))||(decide (1≤height)&& decide (0≤root)&& decide (1≤count))
def Gd(P:Program)(f:FuncId):Prop:=∀{d s dv pv L}{root height count:Int},Pg d s dv pv L→ -1000000000≤root→root≤1000000000→ -1000000000≤height→height≤1000000000→ -1000000000≤count→count≤1000000000→
 Aj P f [pv,vZ root,vZ height,vZ count] d L (Ret fun v d' L'=>Le d d'∧((CH root height count=true∧∃bt Tt,v=.tuple #[pZ bt,vZ 0]∧L'=tb bt Tt pv root height count::L)∨(CH root height count=false∧v=.tuple #[.pointer none,vZ 2]∧L'=L)))
def Hm(a0:Nat):A3:=⟨46,[(.tmp 8),(.tmp 9)],(sR (o1 8 (.mv (.const (.pointer none)))<|o1 9 (.mv z0) .done) (sR (om 11 2<|ob 12 .eql 11 z0<|om 13 12<|gT 14 13 1<|oT 15 13 (.bin .eql 14 (kZ (-1)))<|gP 16 13 15<|om 17 16<|gT 18 17 3<|oT 19 17 (.bin .eql 18 z0)<|gP 20 17 19<|om 10 20 .done) (.seq (.block 0 (sR (om 22 0<|oc 23 a0 [22]<|o1 24 (.eqp false 23 (.const (.pointer none)))<|om 21 24 .done) (.cond 21 (sR (o1 8 (.mv (.const (.pointer none)))<|o1 9 (.mv z1) .done) .ret) (sR (om 26 10<|o1 27 (.un .not 26)<|om 28 27<|gT 29 28 2<|oT 30 28 (.bin .lss 29 z1)<|gT 31 28 30<|gF 32 31 1<|oF 33 31 (.bin .lss 32 z0)<|oT 34 28 (.pick 31 (.const (.bool true)) 33)<|gT 35 28 34<|gF 36 35 3<|oF 37 35 (.bin .lss 36 z1)<|oT 38 28 (.pick 35 (.const (.bool true)) 37)<|gP 39 28 38<|om 25 39 .done) (.cond 25 (sR (o1 8 (.mv (.const (.pointer none)))<|o1 9 (.mv z2) .done) .ret) .skip))))) (sR (om 40 0<|om 41 1<|om 42 2<|om 43 3<|o1 44 (.bld [(0,1),(1,1),(2,1),(3,1)] [(.pointer none),(vZ 0),(vZ 0),(vZ 0)] [(0,40),(1,41),(2,42),(3,43)])<|o1 45 (.box 44)<|om 8 45<|o1 9 (.mv z0) .done) .ret))))⟩
def JM{P f f1}(hd:dec P f=some (Hm f1))(h1:Ec P f1):Gd P f:=by
 intro d s dv pv L root height count hp r0 r1 q0 q1 c0 c1;obtain⟨bp,rfl⟩:=hp.ptr;have hmk:∀{d1 v},Mk d1 s.mark s.frm (pZ bp) v→∃bm,v=pZ bm:=fun⟨bm,_,_,_,_,_,q,_⟩=>⟨bm,q⟩
 refine Aq hd (Ms rfl) ?_;show gwp P _ _ _ _ _;by_cases e1:height=0
 ·by_cases e2:root= -1
  ·by_cases e3:count=0
   ·(refine Ae<|Ad rfl<|Ac rfl<|Ab<|Ae<|Ac rfl<|BK rfl rfl<|Ag rfl<|B4 rfl (by omega)<|Af rfl<|Ac rfl<|Af rfl<|BK rfl rfl<|AB rfl rfl<|Ag rfl<|B4 rfl (by omega)<|Af rfl<|Ac rfl<|Af rfl<|BK rfl rfl<|AB rfl rfl<|Ag rfl<|Ab<|An<|AK<|Ae<|Ad rfl ?_);refine Bw (h1 hp) rfl (fun v d2 L2 hl2 ⟨e4,_,hm⟩=>?_);subst e4;obtain⟨bm,rfl⟩:=hmk hm;(refine A1 rfl rfl<|Ag rfl<|Ab<|Bd rfl<|Ae<|Ag rfl<|Dr rfl<|Ag rfl ?_);first|refine Kl rfl (fun h9=>?_) (fun h9=>?_)|refine JB rfl (fun h9=>?_) (fun h9=>?_)
    ·exact absurd (show decide (count=0)=false by simpa using h9) (by simp[e3])
    ·clear h9;(refine Au rfl<|Au rfl<|Au rfl<|It rfl<|It rfl<|Au rfl<|Au rfl<|It rfl<|It rfl<|Au rfl<|Al rfl rfl<|Ag rfl<|Ab<|Bd rfl<|Av<|Ae<|Ad rfl<|Ac rfl<|Ac rfl<|Ac rfl<|BT rfl<|BF rfl (fun _ _=>Ad rfl<|Ac rfl<|Ab<|As ?_));exact Cm [pZ _,vZ 0] ⟨A7 rfl,A7 rfl,trivial⟩ (Vs.refl _ _) ⟨hl2,.inl ⟨by simp[CH,e1,e2,e3],_,_,rfl,rfl⟩⟩
   ·(refine Ae<|Ad rfl<|Ac rfl<|Ab<|Ae<|Ac rfl<|BK rfl rfl<|Ag rfl<|B4 rfl (by omega)<|Af rfl<|Ac rfl<|Af rfl<|BK rfl rfl<|AB rfl rfl<|Ag rfl<|B4 rfl (by omega)<|Af rfl<|Ac rfl<|Af rfl<|BK rfl rfl<|AB rfl rfl<|Ag rfl<|Ab<|An<|AK<|Ae<|Ad rfl ?_);refine Bw (h1 hp) rfl (fun v d2 L2 hl2 ⟨e4,_,hm⟩=>?_);subst e4;obtain⟨bm,rfl⟩:=hmk hm;(refine A1 rfl rfl<|Ag rfl<|Ab<|Bd rfl<|Ae<|Ag rfl<|Dr rfl<|Ag rfl ?_);first|refine Kl rfl (fun h9=>?_) (fun h9=>?_)|refine JB rfl (fun h9=>?_) (fun h9=>?_)
    ·clear h9;(refine Af rfl<|Ac rfl<|Af rfl<|AI rfl rfl<|Af rfl<|Ag rfl<|B4 rfl (by omega)<|Au rfl<|Au rfl<|Af rfl<|AB rfl rfl<|Af rfl<|Ag rfl<|Au rfl<|Au rfl<|Af rfl<|AB rfl rfl<|AB rfl rfl<|Ag rfl<|Ab<|BL rfl<|Ae<|Ad rfl<|Ac rfl<|Ab<|As ?_);exact Cm [.pointer none,vZ 2] ⟨A7 rfl,A7 rfl,trivial⟩ (Vs.refl _ _) ⟨hl2,.inr ⟨by simp[CH,e1,e2,e3],rfl,rfl⟩⟩
    ·exact absurd (show decide (count=0)=true by simpa using h9) (by simp[e3])
  ·(refine Ae<|Ad rfl<|Ac rfl<|Ab<|Ae<|Ac rfl<|BK rfl rfl<|Ag rfl<|B4 rfl (by omega)<|Af rfl<|Ac rfl<|Af rfl<|BK rfl rfl<|AB rfl rfl<|Ag rfl<|AA rfl (by omega)<|Au rfl<|Au rfl<|Al rfl rfl<|Ag rfl<|Ab<|An<|AK<|Ae<|Ad rfl ?_);refine Bw (h1 hp) rfl (fun v d2 L2 hl2 ⟨e4,_,hm⟩=>?_);subst e4;obtain⟨bm,rfl⟩:=hmk hm;(refine A1 rfl rfl<|Ag rfl<|Ab<|Bd rfl<|Ae<|Ag rfl<|Dr rfl<|Ag rfl<|Af rfl<|Ac rfl<|Af rfl<|AI rfl rfl<|Af rfl<|Ag rfl<|B4 rfl (by omega)<|Au rfl<|Au rfl<|Af rfl<|AB rfl rfl<|Af rfl<|Ag rfl<|Au rfl<|Au rfl<|Af rfl<|AB rfl rfl<|AB rfl rfl<|Ag rfl<|Ab<|BL rfl<|Ae<|Ad rfl<|Ac rfl<|Ab<|As ?_);exact Cm [.pointer none,vZ 2] ⟨A7 rfl,A7 rfl,trivial⟩ (Vs.refl _ _) ⟨hl2,.inr ⟨by simp[CH,e1,e2],rfl,rfl⟩⟩
 ·by_cases e2:height<1
  ·(refine Ae<|Ad rfl<|Ac rfl<|Ab<|Ae<|Ac rfl<|BK rfl rfl<|Ag rfl<|AA rfl (by omega)<|Au rfl<|Au rfl<|Al rfl rfl<|Ag rfl<|Au rfl<|Au rfl<|Al rfl rfl<|Ag rfl<|Ab<|An<|AK<|Ae<|Ad rfl ?_);refine Bw (h1 hp) rfl (fun v d2 L2 hl2 ⟨e4,_,hm⟩=>?_);subst e4;obtain⟨bm,rfl⟩:=hmk hm;(refine A1 rfl rfl<|Ag rfl<|Ab<|Bd rfl<|Ae<|Ag rfl<|Dr rfl<|Ag rfl<|Af rfl<|Ac rfl<|Af rfl<|AI rfl rfl<|Af rfl<|Ag rfl<|B4 rfl (by omega)<|Au rfl<|Au rfl<|Af rfl<|AB rfl rfl<|Af rfl<|Ag rfl<|Au rfl<|Au rfl<|Af rfl<|AB rfl rfl<|AB rfl rfl<|Ag rfl<|Ab<|BL rfl<|Ae<|Ad rfl<|Ac rfl<|Ab<|As ?_);exact Cm [.pointer none,vZ 2] ⟨A7 rfl,A7 rfl,trivial⟩ (Vs.refl _ _) ⟨hl2,.inr ⟨by simp[CH,e1];omega,rfl,rfl⟩⟩
  ·by_cases e3:root<0
   ·(refine Ae<|Ad rfl<|Ac rfl<|Ab<|Ae<|Ac rfl<|BK rfl rfl<|Ag rfl<|AA rfl (by omega)<|Au rfl<|Au rfl<|Al rfl rfl<|Ag rfl<|Au rfl<|Au rfl<|Al rfl rfl<|Ag rfl<|Ab<|An<|AK<|Ae<|Ad rfl ?_);refine Bw (h1 hp) rfl (fun v d2 L2 hl2 ⟨e4,_,hm⟩=>?_);subst e4;obtain⟨bm,rfl⟩:=hmk hm;(refine A1 rfl rfl<|Ag rfl<|Ab<|Bd rfl<|Ae<|Ag rfl<|Dr rfl<|Ag rfl<|Af rfl<|Ac rfl<|Af rfl<|AI rfl rfl<|Af rfl<|Ag rfl<|AA rfl (by omega)<|Af rfl<|Ac rfl<|Af rfl<|AI rfl rfl<|Af rfl<|Al rfl rfl<|Af rfl<|Ag rfl<|B4 rfl (by omega)<|Au rfl<|Au rfl<|Af rfl<|AB rfl rfl<|AB rfl rfl<|Ag rfl<|Ab<|BL rfl<|Ae<|Ad rfl<|Ac rfl<|Ab<|As ?_);exact Cm [.pointer none,vZ 2] ⟨A7 rfl,A7 rfl,trivial⟩ (Vs.refl _ _) ⟨hl2,.inr ⟨by simp[CH,e1];omega,rfl,rfl⟩⟩
   ·by_cases e5:count<1
    ·(refine Ae<|Ad rfl<|Ac rfl<|Ab<|Ae<|Ac rfl<|BK rfl rfl<|Ag rfl<|AA rfl (by omega)<|Au rfl<|Au rfl<|Al rfl rfl<|Ag rfl<|Au rfl<|Au rfl<|Al rfl rfl<|Ag rfl<|Ab<|An<|AK<|Ae<|Ad rfl ?_);refine Bw (h1 hp) rfl (fun v d2 L2 hl2 ⟨e4,_,hm⟩=>?_);subst e4;obtain⟨bm,rfl⟩:=hmk hm;(refine A1 rfl rfl<|Ag rfl<|Ab<|Bd rfl<|Ae<|Ag rfl<|Dr rfl<|Ag rfl<|Af rfl<|Ac rfl<|Af rfl<|AI rfl rfl<|Af rfl<|Ag rfl<|AA rfl (by omega)<|Af rfl<|Ac rfl<|Af rfl<|AI rfl rfl<|Af rfl<|Al rfl rfl<|Af rfl<|Ag rfl<|AA rfl (by omega)<|Af rfl<|Ac rfl<|Af rfl<|AI rfl rfl<|Af rfl<|Al rfl rfl<|AB rfl rfl<|Ag rfl<|Ab<|Bf rfl (by omega)<|Ae<|Ad rfl<|Ac rfl<|Ab<|As ?_);exact Cm [.pointer none,vZ 2] ⟨A7 rfl,A7 rfl,trivial⟩ (Vs.refl _ _) ⟨hl2,.inr ⟨by simp[CH,e1];omega,rfl,rfl⟩⟩
    ·(refine Ae<|Ad rfl<|Ac rfl<|Ab<|Ae<|Ac rfl<|BK rfl rfl<|Ag rfl<|AA rfl (by omega)<|Au rfl<|Au rfl<|Al rfl rfl<|Ag rfl<|Au rfl<|Au rfl<|Al rfl rfl<|Ag rfl<|Ab<|An<|AK<|Ae<|Ad rfl ?_);refine Bw (h1 hp) rfl (fun v d2 L2 hl2 ⟨e4,_,hm⟩=>?_);subst e4;obtain⟨bm,rfl⟩:=hmk hm;(refine A1 rfl rfl<|Ag rfl<|Ab<|Bd rfl<|Ae<|Ag rfl<|Dr rfl<|Ag rfl<|Af rfl<|Ac rfl<|Af rfl<|AI rfl rfl<|Af rfl<|Ag rfl<|AA rfl (by omega)<|Af rfl<|Ac rfl<|Af rfl<|AI rfl rfl<|Af rfl<|Al rfl rfl<|Af rfl<|Ag rfl<|AA rfl (by omega)<|Af rfl<|Ac rfl<|Af rfl<|AI rfl rfl<|Af rfl<|Al rfl rfl<|AB rfl rfl<|Ag rfl<|Ab<|A2 rfl (by omega)<|Av<|Ae<|Ad rfl<|Ac rfl<|Ac rfl<|Ac rfl<|BT rfl<|BF rfl (fun _ _=>Ad rfl<|Ac rfl<|Ab<|As ?_));exact Cm [pZ _,vZ 0] ⟨A7 rfl,A7 rfl,trivial⟩ (Vs.refl _ _) ⟨hl2,.inl ⟨by simp[CH,e1];omega,_,_,rfl,rfl⟩⟩
section
section
variable {s:PD}{k:Int}{key:List UInt8}{x:Nat}
end
def FD(a0 a1 a2 a3:Nat):A3:=⟨71,[(.tmp 4),(.tmp 5),(.tmp 6)],(sR (o1 4 (.mv nS)<|o1 5 (.mv (.const (.bool false)))<|o1 6 (.mv z0) .done) (.seq (sR (om 14 0<|om 15 1<|oc 16 a0 [14,15]<|om 7 16 .done) (sR (om 17 7<|ob 18 .neq 17 z0 .done) (.cond 18 (sR (om 19 7<|o1 4 (.mv nS)<|o1 5 (.mv (.const (.bool false)))<|om 6 19 .done) .ret) .skip))) (sR (om 20 0<|o1 21 (.nilc 20)<|oj 22 1 21<|ol 23 22<|om 8 23 .done) (.seq (sR (om 24 0<|o1 25 (.nilc 24)<|oj 26 2 25<|ol 27 26<|om 9 27 .done) (.block 0 (.loop (.seq (sR (om 28 9<|ob 29 .gtr 28 z0 .done) (.cond 29 .skip (.exit 0))) (.seq (.block 1 (sR (om 33 0<|om 34 8<|om 35 9<|oc 36 a1 [33,34,35]<|om 32 36<|oe 37 32 0<|oe 38 32 1<|o1 10 (.alo (.agg #[(.bool false),(.slice none 0 0),(.slice none 0 0),(.slice none 0 0)]))<|o0 (.st 4 10 37)<|om 11 38 .done) (.seq (sR (om 39 11<|ob 40 .neq 39 z0 .done) (.cond 40 (sR (om 41 11<|o1 4 (.mv nS)<|o1 5 (.mv (.const (.bool false)))<|om 6 41 .done) .ret) .skip)) (sR (o1 43 (.ld (some 4) 10)<|om 44 1<|oc 45 a2 [43,44]<|om 42 45<|oe 46 42 0<|oe 47 42 1<|om 12 46<|om 13 47 .done) (.seq (sR (om 48 9<|ob 49 .gtr 48 z1 .done) (.cond 49 (sR (oj 50 3 10<|ol 51 50<|om 52 12<|oI 53 1 51 52<|ol 54 53<|om 8 54 .done) (.exit 1)) .skip)) (.seq (sR (om 55 13<|o1 56 (.un .not 55) .done) (.cond 56 (sR (o1 4 (.mv nS)<|o1 5 (.mv (.const (.bool false)))<|o1 6 (.mv z0) .done) .ret) .skip)) (sR (om 58 0<|oj 59 2 10<|ol 60 59<|om 61 12<|oI 62 1 60 61<|ol 63 62<|oc 64 a3 [58,63]<|om 57 64<|oe 65 57 0<|oe 66 57 1<|om 4 65<|om 11 66 .done) (sR (om 67 4<|om 68 11<|ob 69 .eql 68 z0<|om 70 11<|om 4 67<|om 5 69<|om 6 70 .done) .ret)))))))) (rG (om 30 9<|ob 31 .sub 30 z1<|om 9 31 .done))))))) (sR (o1 4 (.mv nS)<|o1 5 (.mv (.const (.bool false)))<|o1 6 (.mv z0) .done) .ret)))))⟩
end
end Go.Gk.Tre
end
section
namespace Go.Gk.Tre
open Go Go.Gk Go.Gk.Dev Go.Gk.Cch Go.Gk.Pgr Go.Gk.Chn Go.Gk.Node
section
attribute [local irreducible] gwp gws xwp
end
end Go.Gk.Tre
end
section
namespace Go.Gk
open Go Go.Proofs Go.RowKit
def JF(g3 g4:Nat)(d:Aa):Prop:=(∀c,c<256→DC d g3 c (.int .u8 (Lib.firstT c)))∧∀i,i<16→DC d g4 (2*i) (.int .u8 (Lib.accLo i))∧DC d g4 (2*i+1) (.int .u8 (Lib.accHi i))
def JF.mono{g3 g4:Nat}{d d'}(h:JF g3 g4 d)(hl:Le d d'):JF g3 g4 d':=⟨fun c hc=>(h.1 c hc).mono hl,fun i hi=>⟨(h.2 i hi).1.mono hl,(h.2 i hi).2.mono hl⟩⟩
end Go.Gk
end
section
namespace Go.Gk
open Go Go.Proofs Go.RowKit Go.Shelf
end Go.Gk
end
section
namespace Go.Gk
open Go Go.Proofs Go.RowKit Go.Shelf
end Go.Gk
end
section
namespace Go.Gk.Tre
open Go Go.Gk Go.Gk.Dev Go.Gk.Cch Go.Gk.Pgr Go.Gk.Chn Go.Gk.Node
section
attribute [local irreducible] gwp gws xwp
end
end Go.Gk.Tre
end
section
namespace Go.Gk.Chn
open Go Go.Gk Go.Gk.Dev Go.Gk.Cch Go.Gk.Pgr Go.Gk.Node
section
def FI{P}{pan:List PanicEntry→Ah}{Qn:Env→Ah}{Ls L ρ d s}{t:Nat}{sz by_:Nat}{z x y k k'}{n c:Nat}(ex:ev ρ x=.int k (n:Nat))(ey:ev ρ y=.int k' (c:Nat))(h1:n≤c)(h2:c≤9223372036854775807)(h3:by_*c≤281474976710656)
  (h:∀b T,gws P pan Qn s Ls (upd ρ t (.slice (some ⟨b,0,none⟩) n c)) (join d (bx b T (Aw z (c*sz)))) L):gws P pan Qn (.op false ⟨some t,none,.mks sz by_ z x y⟩ s) Ls ρ d L:=
 ⟨d,L,Vs.refl d L,k,k',n,c,ex,ey,h1,h2,h3,fun b T=>⟨_,_,Vs.freeze,h b T⟩⟩
attribute [local irreducible] gwp gws xwp
def Ik(P:Program)(f:FuncId):Prop:=∀{d}{n:Nat},1≤n→n≤8192→Aj P f [vZ n] d [] (Ret fun r d' L'=>L'=[]∧∃b a c,r=.tuple #[pZ b,vZ 0]∧DC d' b 0 (.slice a n c))
def En:A3:=⟨31,[(.tmp 2),(.tmp 3)],(sR (o1 2 (.mv (.const (.pointer none)))<|o1 3 (.mv z0) .done) (.seq (sR (om 6 0<|ob 7 .lss 6 z1<|om 8 7<|gF 9 8 0<|oF 10 8 (.bin .gtr 9 (kZ 8192))<|o1 11 (.pick 8 (.const (.bool true)) 10) .done) (.cond 11 (sR (o1 2 (.mv (.const (.pointer none)))<|o1 3 (.mv z2) .done) .ret) .skip)) (sR (o1 12 (.bld [(0,1),(1,1),(2,1),(3,1)] [(.slice none 0 0),(.slice none 0 0),(vZ 0),(vZ 0)] [(3,(kZ (-1)))])<|o1 13 (.box 12)<|om 4 13 .done) (.seq (sR (o1 5 (.mv z0) .done) (.block 0 (.loop (.seq (sR (om 14 5<|om 15 0<|ob 16 .lss 14 15 .done) (.cond 16 .skip (.exit 0))) (.seq (.block 1 (.reg true (pm 19 4<|pm 20 4<|p1 21 (.nilc 20)<|p1 22 (.fld 0 21)<|pl 23 22<|o1 24 (.mks 1 1 [(.int .u8 0)] (kZ 256) (kZ 256))<|p1 25 (.b2s 24)<|o1 26 (.bsl 1 1 [(Be [])] [(0,25)])<|o1 27 (.app 1 16 [(Be [])] 23 26)<|p1 28 (.nilc 19)<|p1 29 (.fld 0 28) (.bar (o0 (.st 1 29 27) .done))))) (rG (om 17 5<|ob 18 .add 17 z1<|om 5 18 .done))))))) (sR (om 30 4<|om 2 30<|o1 3 (.mv z0) .done) .ret)))))⟩
set_option maxRecDepth 4000 in
set_option maxHeartbeats 1000000 in
def K7{P f}(hd:K5 P f=some En):Ik P f:=by
 intro d n hn1 hn2;refine Aq hd (Ms rfl) ?_;show gwp P _ _ _ _ _;(refine Ae ?_);refine Dz d [emp] Vs.emp ?_;(refine Ad rfl<|Ac rfl<|Ab<|An<|Ae<|Ac rfl<|AI rfl rfl<|Ag rfl<|AA rfl (by omega)<|Af rfl<|Ac rfl<|Af rfl<|EL rfl rfl<|Al rfl rfl<|Ab<|A2 rfl (by omega)<|Av<|Ae<|BT rfl<|BF rfl (fun _ _=>Ad rfl<|Ab<|An<|Ae<|Ac rfl<|Ab<|AK ?_));rename_i b T;refine Cz (α:=Nat×Option Addr×Nat) (fun x=>[(0,vZ n),(4,pZ b),(5,vZ x.1)])
  (fun x d' L'=>Le d d'∧x.1≤n∧∃h,[bx b T [.slice x.2.1 x.1 x.2.2,.slice none 0 0,vZ 0,vZ (-1)],h].Sublist L'∧Ai 1 Eg d' (.slice x.2.1 x.1 x.2.2) (Mv x.1 (Mv 256 0)) h) (fun x=>n - x.1) (0,none,0) ⟨rfl,rfl,rfl,trivial⟩ ⟨Le.refl _,Nat.zero_le _,emp,MC _,Ai.nil⟩ ?_
 rintro⟨i,a,c⟩ ρ d' L' ⟨hle,hi,h,hsub,hrow⟩;simp only at hi hsub hrow⊢;apply An;apply An;apply A6;refine Dz d' _ (Vs.drop hsub) ?_;by_cases e:i<n
 ·(refine Ac rfl<|Ac rfl<|AI rfl rfl<|Ab<|Bf rfl (by omega)<|Av<|An<|AK ?_);refine DN [bx b T [.slice a i c,.slice none 0 0,vZ 0,vZ (-1)]] [h] rfl ?_;(refine Ad rfl<|Ad rfl<|AM rfl<|AR rfl<|AX rfl (A5 0 rfl rfl) ?_);refine FI (n:=256) (c:=256) rfl rfl (MR _) (by omega) (by omega) (fun b24 T24=>?_);have hg:Ai 1 BV d' (.slice (some ⟨b24,0,none⟩) 256 256) (Mv 256 0) (bx b24 T24 (Aw [.int .u8 0] (256*1))):=Ai.zero rfl (by omega) rfl (by omega);have hgr:=Ai.rsl (R:=BV) (sz:=1) hg Em (by omega) (Le.Ap _ _) (Le.AF d' (bx b24 T24 (Aw [.int .u8 0] (256*1))));have hl2:Le d' (join d' (bx b24 T24 (Aw [.int .u8 0] (256*1)))):=Le.Ap _ _;refine Li rfl hgr ?_;refine Fu (v0:=Be (Mv 256 0)) rfl rfl (fun b26 T26=>?_);have hrow2:Ai 1 Eg (join d' (bx b24 T24 (Aw [.int .u8 0] (256*1)))) (.slice a i c) (Mv i (Mv 256 0)) h:=by
   have:=Ai.mono (R:=Eg) J4 hrow hl2;exact this
  have hil:(Mv i (Mv 256 (0:UInt8))).length=i:=MQ;refine D8 (R:=Eg) 0 rfl rfl hrow2 rfl (Ai.Hc (R:=Eg) (x:=Mv 256 0) rfl ⟨rfl,by simp⟩) I3 (by omega) (by simp;omega) (by simp;omega) (fun v' h' ho'=>?_);rw[←List.replicate_succ'] at ho';obtain⟨a',c',rfl⟩:=ho'.val;rw[MQ] at ho'⊢;(refine AM rfl<|AR rfl<|EJ ?_);refine GC 0 [.slice a' (i+1) c',.slice none 0 0,vZ 0,vZ (-1)] rfl rfl rfl rfl (Ms rfl) rfl rfl ?_;(refine Ab<|A6<|Ac rfl<|BW rfl rfl (by omega) (by omega)<|Ac rfl<|Ab ?_);exact⟨(i+1,a',c'),by simp only;omega,⟨rfl,rfl,rfl,trivial⟩,hle.trans hl2,e,h',MC _,ho'⟩
 ·have:i=n:=by omega
  subst this;(refine Ac rfl<|Ac rfl<|AI rfl rfl<|Ab<|A2 rfl (by omega)<|CM<|Ae<|Ad rfl<|Ad rfl<|Ac rfl<|Ab<|As ?_);exact Cm [pZ b,vZ 0] ⟨rfl,rfl,trivial⟩ (d':=join (join d' (bx b T [.slice a i c,.slice none 0 0,vZ 0,vZ (-1)])) h) (L':=[]) (Vs.freeze.trans Vs.freeze) ⟨rfl,b,a,c,rfl,(Le.dcs ((Le.AF _ _).trans (Le.Ap _ _))).at (i:=0) rfl⟩
end
end Go.Gk.Chn
end
section
namespace Go.Gk.Chn
open Go Go.Gk Go.Gk.Dev Go.Gk.Cch Go.Gk.Pgr Go.Gk.Node
attribute [local irreducible] gwp gws xwp
def HT(P:Program)(f:FuncId):Prop:=∀{d}{b n c:Nat}{a},DC d b 0 (.slice a (n+2) c)→1≤n→n≤8000→BG P f [pZ b,vZ 2,vZ n] d (.bool true)
def DG:A3:=⟨31,[(.tmp 6)],(sR (o1 6 (.mv (.const (.bool false))) .done) (sR (om 8 0<|o1 9 (.nilc 8)<|oj 10 0 9<|ol 11 10<|oL 12 11<|om 7 12 .done) (sR (om 13 1<|ob 14 .geq 13 z0<|om 15 14<|gT 16 15 1<|gT 17 15 7<|oT 18 15 (.bin .leq 16 17)<|gP 19 15 18<|om 20 19<|gT 21 20 2<|oT 22 20 (.bin .geq 21 z1)<|gP 23 20 22<|om 24 23<|gT 25 24 2<|gT 26 24 7<|gT 27 24 1<|oT 28 24 (.bin .sub 26 27)<|oT 29 24 (.bin .leq 25 28)<|gP 30 24 29<|om 6 30 .done) .ret)))⟩
def Lp{P f}(hd:dec P f=some DG):HT P f:=by
 intro d b n c a hb hn1 hn2;refine Aq hd (Ms rfl) ?_;show gwp P _ _ _ _ _;have h2:(2:Int)≤((n+2:Nat):Int):=by omega
 have h3:(n:Int)≤((n+2:Nat):Int) - 2:=by omega
 (refine Ae<|Ag rfl<|Ab<|Ae<|Ad rfl<|AM rfl<|AR rfl<|AX rfl (DT (by assumption))<|BU rfl<|Ac rfl<|Ab<|Ae<|Ac rfl<|GJ rfl rfl<|Ag rfl<|B4 rfl (by omega)<|Af rfl<|Ac rfl<|Af rfl<|Ac rfl<|Af rfl<|Ka rfl rfl<|AB rfl rfl<|Ag rfl<|B4 rfl (by omega)<|Af rfl<|Ac rfl<|Af rfl<|GJ rfl rfl<|AB rfl rfl<|Ag rfl<|B4 rfl (by omega)<|Af rfl<|Ac rfl<|Af rfl<|Ac rfl<|Af rfl<|Ac rfl<|Af rfl<|GK rfl rfl (by omega) (by omega)<|Af rfl<|Ka rfl rfl<|AB rfl rfl<|Ag rfl<|Ab<|As ?_);exact FZ (v:=.bool (decide ((n:Int)≤((n+2:Nat):Int) - 2))) rfl (MC _) ⟨congrArg Value.bool (decide_eq_true h3),rfl,rfl⟩
def H2(P:Program)(f:FuncId):Prop:=∀{d}{b q n c:Nat}{a},DC d b 0 (.slice a (n+2) c)→1≤n→n≤8000→
 Aj P f [pZ b,pZ q,vZ 2,vZ n,.slice none 0 0] d [] (Ret fun r _ L'=>L'=[]∧∃v,r=.tuple #[pZ v,vZ 0])
def Ej(a0 a1:Nat):A3:=⟨52,[(.tmp 10),(.tmp 11)],(sR (o1 10 (.mv (.const (.pointer none)))<|o1 11 (.mv z0) .done) (.seq (sR (om 14 0<|om 15 2<|om 16 3<|oc 17 a0 [14,15,16]<|o1 18 (.un .not 17) .done) (.cond 18 (sR (o1 10 (.mv (.const (.pointer none)))<|o1 11 (.mv z2) .done) .ret) .skip)) (sR (om 19 0<|om 20 1<|om 21 2<|om 22 3<|o1 23 (.mks 2 24 [(vZ 0),(Be [])] 22 22)<|o1 24 (.bld [(0,1),(1,1),(2,1),(3,1),(4,1),(5,1)] [(.pointer none),(.pointer none),(vZ 0),(.slice none 0 0),(vZ 0),(vZ 0)] [(0,19),(1,20),(2,21),(3,23)])<|o1 25 (.box 24)<|om 12 25 .done) (.seq (sR (o1 13 (.mv z0) .done) (.block 0 (.loop (.seq (sR (om 26 13<|om 27 4<|oL 28 27<|ob 29 .lss 26 28 .done) (.cond 29 .skip (.exit 0))) (.seq (.block 1 (.seq (sR (om 32 12<|om 33 4<|om 34 13<|oI 35 1 33 34<|ol 36 35<|oc 37 a1 [32,36]<|ob 38 .neq 37 z0 .done) (.cond 38 (sR (o1 10 (.mv (.const (.pointer none)))<|o1 11 (.mv z2) .done) .ret) .skip)) (.reg true (pm 39 12<|p1 40 (.nilc 39)<|p1 41 (.fld 3 40)<|pl 42 41<|pm 43 4<|pm 44 13<|p1 45 (.idx 1 43 44)<|pl 46 45<|pm 47 2<|p1 48 (.bin .sub 46 47)<|p1 49 (.idx 2 42 48)<|p1 50 (.fld 0 49)<|o0 (.st 1 50 z2) .done)))) (rG (om 30 13<|ob 31 .add 30 z1<|om 13 31 .done))))))) (sR (om 51 12<|om 10 51<|o1 11 (.mv z0) .done) .ret)))))⟩
set_option maxRecDepth 4000 in
def K2{P f f1 f2}(hd:dec P f=some (Ej f1 f2))(h1:HT P f1):H2 P f:=by
 intro d b q n c a hb hn1 hn2;refine Aq hd (Ms rfl) ?_;show gwp P _ _ _ _ _;(refine Ae<|Ad rfl<|Ac rfl<|Ab<|An<|Ae<|Ad rfl<|Ac rfl<|Ac rfl ?_);refine DL rfl (h1 hb hn1 hn2) (fun u d1 L1 _ ⟨e1,e2,e3⟩=>?_);subst e1;subst e2;subst e3;(refine Dr rfl<|Ab<|Bd rfl<|Av<|Ae<|Ad rfl<|Ad rfl<|Ac rfl<|Ac rfl ?_);refine Fz (n:=n) (c:=n) rfl rfl (MR _) (by omega) (by omega) (fun b23 T23=>?_);(refine BT rfl<|BF rfl (fun _ _=>Ad rfl<|Ab<|An<|Ae<|Ac rfl<|Ab<|AK ?_));rename_i bb TT;refine Cz (α:=Unit) (fun _=>[(4,.slice none 0 0),(12,pZ bb),(13,vZ 0)]) (fun _ _ _=>True) (fun _=>0) () ⟨rfl,rfl,rfl,trivial⟩ trivial ?_;rintro - ρ d' L' -;(refine An<|Ae<|Ac rfl<|A0 rfl<|BU rfl<|AI rfl rfl<|Ab<|A2 rfl (by omega)<|CM<|Ae<|Ad rfl<|Ad rfl<|Ac rfl<|Ab<|As ?_);exact G4 rfl rfl (Nc _) ⟨rfl,_,rfl⟩
def Ip(P:Program)(f:FuncId):Prop:=∀{d}{b:Nat},Aj P f [pZ b,vZ 4] d [] (Ret fun r _ L'=>L'=[]∧∃q,r=.tuple #[pZ q,vZ 0])
def Eo:A3:=⟨48,[(.tmp 4),(.tmp 5)],(sR (o1 4 (.mv (.const (.pointer none)))<|o1 5 (.mv z0) .done) (.seq (sR (om 8 1<|ob 9 .lss 8 z1<|om 10 9<|gF 11 10 1<|oF 12 10 (.bin .gtr 11 (kZ 64))<|o1 13 (.pick 10 (.const (.bool true)) 12) .done) (.cond 13 (sR (o1 4 (.mv (.const (.pointer none)))<|o1 5 (.mv z2) .done) .ret) .skip)) (.seq (.reg true (pm 14 0<|pm 15 1<|pm 17 1<|pm 19 1 (.par (o1 20 (.mks 1 16 [(Be [])] 19 19) .done) (.par (o1 16 (.mks 1 8 [(vZ 0)] 15 15) .done) (o1 18 (.mks 1 1 [(.bool false)] 17 17) .done) .done) (p1 21 (.bld [(0,1),(1,1),(2,1),(3,1),(4,1),(5,1),(6,1),(7,1),(8,1)] [(.pointer none),(.slice none 0 0),(.slice none 0 0),(.slice none 0 0),(.slice none 0 0),(.slice none 0 0),(vZ 0),(vZ 0),(vZ 0)] [(0,14),(2,16),(3,18),(4,20)]) (o1 22 (.box 21) (.bar (pm 6 22 .done))))))) (.seq (sR (o1 7 (.mv z0) .done) (.block 0 (.loop (.seq (sR (om 23 7<|om 24 1<|ob 25 .lss 23 24 .done) (.cond 25 .skip (.exit 0))) (.seq (.block 1 (sR (om 28 6<|om 29 6<|o1 30 (.nilc 29)<|oj 31 1 30<|ol 32 31<|o1 33 (.bsl 1 1 [(vZ 0)] [(0,(kZ (-1)))])<|o1 34 (.app 1 8 [(vZ 0)] 32 33)<|o1 35 (.nilc 28)<|oj 36 1 35<|o0 (.st 1 36 34) .done) (rG (om 37 6<|om 38 6<|o1 39 (.nilc 38)<|oj 40 5 39<|ol 41 40<|om 42 7<|o1 43 (.bsl 1 1 [(vZ 0)] [(0,42)])<|o1 44 (.app 1 8 [(vZ 0)] 41 43)<|o1 45 (.nilc 37)<|oj 46 5 45<|o0 (.st 1 46 44) .done)))) (rG (om 26 7<|ob 27 .add 26 z1<|om 7 27 .done))))))) (sR (om 47 6<|om 4 47<|o1 5 (.mv z0) .done) .ret)))))⟩
set_option maxRecDepth 4000 in
set_option maxHeartbeats 1000000 in
def K0{P f}(hd:K5 P f=some Eo):Ip P f:=by
 intro d b;refine Aq hd (Ms rfl) ?_;show gwp P _ _ _ _ _;(refine Ae<|Ad rfl<|Ac rfl<|Ab<|An<|Ae<|Ac rfl<|AI rfl rfl<|Ag rfl<|AA rfl (by omega)<|Af rfl<|Ac rfl<|Af rfl<|EL rfl rfl<|Al rfl rfl<|Ab<|A2 rfl (by omega)<|Av<|An ?_);refine DN [] [] rfl ?_;(refine Ad rfl<|Ac rfl<|Ac rfl<|Ac rfl ?_);refine Kd (α:=Nat) (β:=Nat×Nat) [(1,vZ 4),(14,pZ b)] (fun x=>[(20,.slice (some ⟨x,0,none⟩) 4 4)]) (fun _ _ L=>L=[]) (fun y=>[(16,.slice (some ⟨y.1,0,none⟩) 4 4),(18,.slice (some ⟨y.2,0,none⟩) 4 4)]) (fun _ _ L=>L=[]) [] [] rfl
  (fun _ _ _ _ _ q=>q) (fun _ _ _ _ _ q=>q) (fun _=>rfl) (fun _=>rfl) rfl ⟨rfl,rfl,trivial⟩ ?_ ?_ ?_
 ·refine FI (n:=4) (c:=4) rfl rfl (MR _) (by omega) (by omega) (fun b20 T20=>?_);(apply Ab);exact⟨_,rfl,b20,⟨rfl,trivial⟩,rfl⟩
 ·refine Kd (α:=Nat) (β:=Nat) [] (fun x=>[(16,.slice (some ⟨x,0,none⟩) 4 4)]) (fun _ _ L=>L=[]) (fun y=>[(18,.slice (some ⟨y,0,none⟩) 4 4)]) (fun _ _ L=>L=[]) [] [] rfl
   (fun _ _ _ _ _ q=>q) (fun _ _ _ _ _ q=>q) (fun _=>rfl) (fun _=>rfl) rfl trivial ?_ ?_ ?_
  ·refine FI (n:=4) (c:=4) rfl rfl (MR _) (by omega) (by omega) (fun b16 T16=>?_);(apply Ab);exact⟨_,rfl,b16,⟨rfl,trivial⟩,rfl⟩
  ·refine FI (n:=4) (c:=4) rfl rfl (MR _) (by omega) (by omega) (fun b18 T18=>?_);(apply Ab);exact⟨_,rfl,b18,⟨rfl,trivial⟩,rfl⟩
  ·rintro b16 b18 ρ2 d2 M1 M2 hl2 rfl rfl;(apply Ab);exact⟨_,rfl,(b16,b18),⟨rfl,rfl,trivial⟩,rfl⟩
 ·rintro b20 ⟨b16,b18⟩ ρ2 d2 M1 M2 hl2 rfl rfl;refine BT (cs:=[pZ b,.slice none 0 0,.slice (some ⟨b16,0,none⟩) 4 4,.slice (some ⟨b18,0,none⟩) 4 4,.slice (some ⟨b20,0,none⟩) 4 4,.slice none 0 0,vZ 0,vZ 0,vZ 0]) rfl ?_;refine Dz d2 [emp,emp] (Vs.emp.trans Vs.emp) ?_;refine BF rfl (fun q T=>?_);(refine EJ<|Ad rfl<|Ab<|An<|Ae<|Ac rfl<|Ab<|AK ?_);refine Cz (α:=Nat×Option Addr×Nat×Option Addr×Nat) (fun x=>[(1,vZ 4),(6,pZ q),(7,vZ x.1)])
   (fun x d' L'=>x.1≤4∧∃h1 h5 xs ys,[bx q T [pZ b,.slice x.2.1 x.1 x.2.2.1,.slice (some ⟨b16,0,none⟩) 4 4,.slice (some ⟨b18,0,none⟩) 4 4,.slice (some ⟨b20,0,none⟩) 4 4,.slice x.2.2.2.1 x.1 x.2.2.2.2,vZ 0,vZ 0,vZ 0],h1,h5].Sublist L'∧
    Ai 1 AT d' (.slice x.2.1 x.1 x.2.2.1) xs h1∧Ai 1 AT d' (.slice x.2.2.2.1 x.1 x.2.2.2.2) ys h5∧xs.length=x.1∧ys.length=x.1) (fun x=>4 - x.1) (0,none,0,none,0) ⟨rfl,rfl,rfl,trivial⟩ ⟨Nat.zero_le _,emp,emp,[],[],MC _,Ai.nil,Ai.nil,rfl,rfl⟩ ?_
  rintro⟨i,a1,c1,a5,c5⟩ ρ d' L' ⟨hi,h1,h5,xs,ys,hsub,r1,r5,x1,y1⟩;simp only at hi hsub r1 r5 x1 y1⊢;apply An;apply An;apply A6;refine Dz d' _ (Vs.drop hsub) ?_;by_cases e:i<4
  ·(refine Ac rfl<|Ac rfl<|AI rfl rfl<|Ab<|Bf rfl (by omega)<|Av<|An<|AK<|Ae<|Ad rfl<|Ad rfl<|AM rfl<|AR rfl<|AX rfl (A5 0 rfl rfl) ?_);refine Fu (v0:=vZ (-1)) rfl rfl (fun b33 T33=>?_);refine D8 (R:=AT) 1 rfl rfl r1 rfl (Ai.Hc (R:=AT) (x:= -1) rfl ⟨rfl,by omega,by omega⟩) CR (by omega) (by simp;omega) (by simp;omega) (fun v1 h1' o1=>?_);obtain⟨a1',c1',rfl⟩:=o1.val;rw[MH,x1] at o1⊢;(refine AM rfl<|AR rfl ?_);refine GC 0 [pZ b,.slice a1' (i+1) c1',.slice (some ⟨b16,0,none⟩) 4 4,.slice (some ⟨b18,0,none⟩) 4 4,.slice (some ⟨b20,0,none⟩) 4 4,.slice a5 i c5,vZ 0,vZ 0,vZ 0] rfl rfl rfl rfl (Ms rfl) rfl rfl ?_;(refine Ab<|A6<|Ad rfl<|Ad rfl<|AM rfl<|AR rfl<|AX rfl (A5 0 rfl rfl)<|Ac rfl ?_);refine Fu (v0:=vZ i) rfl rfl (fun b43 T43=>?_);refine D8 (R:=AT) 2 rfl rfl r5 rfl (Ai.Hc (R:=AT) (x:=(i:Int)) rfl ⟨rfl,by omega,by omega⟩) CR (by omega) (by simp;omega) (by simp;omega) (fun v5 h5' o5=>?_);obtain⟨a5',c5',rfl⟩:=o5.val;rw[MH,y1] at o5⊢;(refine AM rfl<|AR rfl ?_);refine GC 0 [pZ b,.slice a1' (i+1) c1',.slice (some ⟨b16,0,none⟩) 4 4,.slice (some ⟨b18,0,none⟩) 4 4,.slice (some ⟨b20,0,none⟩) 4 4,.slice a5' (i+1) c5',vZ 0,vZ 0,vZ 0] rfl rfl rfl rfl (Ms rfl) rfl rfl ?_;(refine Ab<|A6<|Ac rfl<|BW rfl rfl (by omega) (by omega)<|Ac rfl<|Ab ?_);exact⟨(i+1,a1',c1',a5',c5'),by simp only;omega,⟨rfl,rfl,rfl,trivial⟩,e,h1',h5',_,_,MC _,o1,o5,by rw[MH,x1];rfl,by rw[MH,y1];rfl⟩
  ·have:i=4:=by omega
   subst this;(refine Ac rfl<|Ac rfl<|AI rfl rfl<|Ab<|A2 rfl (by omega)<|CM<|Ae<|Ad rfl<|Ad rfl<|Ac rfl<|Ab<|As ?_);exact G4 rfl rfl (Nc _) ⟨rfl,q,rfl⟩
def pdN(n:Nat):PD:=⟨2,Bj n [],fun _=>[],Mv (n+2) Fb,0,0⟩
def Fj(P:Program)(f:FuncId):Prop:=∀{d}{n:Nat},1≤n→n≤1000→Aj P f [vZ n] d [] (Ret fun r d' L'=>∃b bd bp,r=pZ b∧DC d' b 0 (pZ bp)∧Pg d' (pdN n) (pZ bd) (pZ bp) L')
def D7(a0 a1 a2 a3 a4 a5:Nat):A3:=⟨75,[(.tmp 2)],(sR (o1 2 (.mv (.const (.pointer none))) .done) (sR (om 14 0<|ob 15 .add 14 z2<|oc 16 a0 [15]<|om 13 16<|oe 17 13 0<|oe 18 13 1<|om 3 17<|om 4 18 .done) (sR (om 20 0<|ob 21 .add 20 z2<|oc 22 a1 [21]<|om 19 22<|oe 23 19 0<|oe 24 19 1<|om 5 23<|om 6 24 .done) (.seq (sR (om 25 4<|ob 26 .neq 25 z0<|om 27 26<|gF 28 27 3<|oF 29 27 (.eqp false 28 (.const (.pointer none)))<|o1 30 (.pick 27 (.const (.bool true)) 29)<|om 31 30<|gF 32 31 5<|oF 33 31 (.eqp false 32 (.const (.pointer none)))<|o1 34 (.pick 31 (.const (.bool true)) 33) .done) (.cond 34 (sR (o1 2 (.mv (.const (.pointer none))) .done) .ret) .skip)) (sR (om 36 3<|oc 37 a2 [36,(kZ 4)]<|om 35 37<|oe 38 35 0<|oe 39 35 1<|om 7 38<|om 4 39 .done) (sR (om 41 5<|oc 42 a3 [41,(kZ 4)]<|om 40 42<|oe 43 40 0<|oe 44 40 1<|om 8 43<|om 9 44 .done) (.seq (sR (om 45 4<|ob 46 .neq 45 z0<|om 47 46<|gF 48 47 7<|oF 49 47 (.eqp false 48 (.const (.pointer none)))<|o1 50 (.pick 47 (.const (.bool true)) 49) .done) (.cond 50 (sR (o1 2 (.mv (.const (.pointer none))) .done) .ret) .skip)) (sR (om 52 3<|om 53 7<|om 54 0<|oc 55 a4 [52,53,z2,54,nS]<|om 51 55<|oe 56 51 0<|oe 57 51 1<|om 10 56<|om 4 57 .done) (sR (om 59 5<|om 60 8<|om 61 0<|oc 62 a5 [59,60,z2,61,nS]<|om 58 62<|oe 63 58 0<|oe 64 58 1<|om 11 63<|om 12 64 .done) (.seq (sR (om 65 4<|ob 66 .neq 65 z0<|om 67 66<|gF 68 67 10<|oF 69 67 (.eqp false 68 (.const (.pointer none)))<|o1 70 (.pick 67 (.const (.bool true)) 69) .done) (.cond 70 (sR (o1 2 (.mv (.const (.pointer none))) .done) .ret) .skip)) (sR (om 71 10<|om 72 11<|o1 73 (.bld [(0,1),(1,1)] [(.pointer none),(.pointer none)] [(0,71),(1,72)])<|o1 74 (.box 73)<|om 2 74 .done) .ret)))))))))))⟩
set_option maxRecDepth 4000 in
set_option maxHeartbeats 1000000 in
def Je{P f f1 f2 f3 f4 f5 f6}(hd:dec P f=some (D7 f1 f2 f3 f4 f5 f6))(h1:Fs P f1)(h2:Ik P f2)(h3:DP P f3)(h4:Ip P f4)(h5:G5 P f5)(h6:H2 P f6):Fj P f:=by
 intro d n hn1 hn2;refine Aq hd (Ms rfl) ?_;show gwp P _ _ _ _ _;(refine Ae<|Ad rfl<|Ab<|Ae<|Ac rfl<|BW rfl rfl (by omega) (by omega) ?_);refine Bw (h1 (n:=n+2) (by omega) (by omega)) rfl (fun u d1 L1 hl1 ⟨dv,e1,e2,e3⟩=>?_);subst e1;subst e2;obtain⟨bd,rfl⟩:∃b,dv=pZ b:=let ⟨b,_,_,_,_,_,_,h,_⟩:=e3;⟨b,h⟩
 (refine BE rfl<|AL rfl rfl<|AL rfl rfl<|Ad rfl<|Ac rfl<|Ab<|Ae<|Ac rfl<|BW rfl rfl (by omega) (by omega) ?_);refine C4 (A:=[]) (B:=L1) rfl rfl (h2 (n:=n+2) (by omega) (by omega)) (fun u d2 L2 hl2 ⟨q1,br,ar,cr,q2,q3⟩=>?_);subst q1;subst q2;rw[List.nil_append];(refine BE rfl<|AL rfl rfl<|AL rfl rfl<|Ad rfl<|Ac rfl<|Ab<|An<|Ae<|Ac rfl<|AQ rfl rfl<|Ag rfl<|AA rfl (by omega)<|Af rfl<|Ad rfl<|Af rfl<|A1 rfl rfl<|Al rfl rfl<|Ag rfl<|Af rfl<|Ad rfl<|Af rfl<|A1 rfl rfl<|Al rfl rfl<|Ab<|Bd rfl<|Av<|Ae<|Ad rfl ?_);refine Bw (h3 (n:=4) (e3.mono hl2) (show 1≤(Mv (n+2) Fb).length by rw[MQ];omega) (by omega) (by omega)) rfl (fun u d3 L3 _ ⟨q4,cv,LC,q5,q6,q7⟩=>?_);subst q4;subst q5;subst q6;obtain⟨bc,rfl⟩:∃b,cv=pZ b:=let ⟨b,_,_,_,_,_,_,_,_,h,_⟩:=q7;⟨b,h⟩
 (refine BE rfl<|AL rfl rfl<|AL rfl rfl<|Ad rfl<|Ac rfl<|Ab<|Ae<|Ad rfl ?_);refine C4 (A:=[]) (B:=LC++L1) rfl rfl (h4 (b:=br)) (fun u d4 L4 hl4 ⟨p1,bq,p2⟩=>?_);subst p1;subst p2;rw[List.nil_append];(refine BE rfl<|AL rfl rfl<|AL rfl rfl<|Ad rfl<|Ac rfl<|Ab<|An<|Ae<|Ac rfl<|AQ rfl rfl<|Ag rfl<|AA rfl (by omega)<|Af rfl<|Ad rfl<|Af rfl<|A1 rfl rfl<|Al rfl rfl<|Ab<|Bd rfl<|Av<|Ae<|Ad rfl<|Ad rfl<|Ac rfl ?_);refine Bw (h5 (frm:=2) (n:=n) (m:=4) (live:=[]) ((e3.mono hl2).mono hl4) (q7.mono hl4) (by omega) (by omega) (by omega) (by rw[MQ];omega) (by rw[MQ];omega) List.nodup_nil (fun k hk=>(by cases hk)) (RSl.nil:CI d4 (.slice none 0 0) [])) rfl (fun u d5 L5 hl5 ⟨pv,g1,g2,g3⟩=>?_);subst g1;obtain⟨bp,rfl⟩:=g3.ptr;(refine BE rfl<|AL rfl rfl<|AL rfl rfl<|Ad rfl<|Ac rfl<|Ab<|Ae<|Ad rfl<|Ad rfl<|Ac rfl ?_);refine C4 (A:=[]) (B:=L5) rfl rfl (h6 (n:=n) (b:=br) (q:=bq) ((q3.mono hl4).mono hl5) hn1 (by omega)) (fun u d6 L6 hl6 ⟨p1,xv,p2⟩=>?_);subst p1;subst p2;rw[List.nil_append];(refine BE rfl<|AL rfl rfl<|AL rfl rfl<|Ad rfl<|Ac rfl<|Ab<|An<|Ae<|Ac rfl<|AQ rfl rfl<|Ag rfl<|AA rfl (by omega)<|Af rfl<|Ad rfl<|Af rfl<|A1 rfl rfl<|Al rfl rfl<|Ab<|Bd rfl<|Av<|Ae<|Ad rfl<|Ad rfl<|BT rfl<|BF rfl (fun _ _=>Ad rfl<|Ab<|As ?_));rename_i bm Tm;exact Cm [pZ bm] ⟨rfl,trivial⟩ (d':=join d6 (bx bm Tm [pZ bp,pZ xv])) (L':=L5) Vs.freeze ⟨bm,bd,bp,rfl,(Le.dcs (Le.AF _ _)).at (i:=0) rfl,(g3.mono hl6).mono (Le.Ap _ _)⟩
end Go.Gk.Chn
end
section
namespace Go.Gk.Tre
open Go Go.Gk Go.Gk.Dev Go.Gk.Cch Go.Gk.Pgr Go.Gk.Chn Go.Gk.Node
attribute [local irreducible] gwp gws xwp
variable{P:Program}{f f1 f2 f3 f4 f5:FuncId}
def Ew(P:Program)(f:FuncId):Prop:=∀{d}{n:Nat},1≤n→n≤1000→Aj P f [vZ n] d [] (Ret fun r d' L'=>∃bt Tt bd bp L2,r=.tuple #[pZ bp,pZ bt]∧L'=tb bt Tt (pZ bp) (-1) 0 0::L2∧Pg d' (pdN n) (pZ bd) (pZ bp) L2)
def DD(a0 a1:Nat):A3:=⟨26,[(.tmp 2),(.tmp 3)],(sR (o1 2 (.mv (.const (.pointer none)))<|o1 3 (.mv (.const (.pointer none))) .done) (sR (om 7 0<|oc 8 a0 [7]<|om 4 8 .done) (.seq (sR (om 9 4<|o1 10 (.eqp false 9 (.const (.pointer none))) .done) (.cond 10 (sR (o1 2 (.mv (.const (.pointer none)))<|o1 3 (.mv (.const (.pointer none))) .done) .ret) .skip)) (sR (om 12 4<|o1 13 (.nilc 12)<|oj 14 0 13<|ol 15 14<|oc 16 a1 [15]<|om 11 16<|oe 17 11 0<|oe 18 11 1<|om 5 17<|om 6 18 .done) (.seq (sR (om 19 6<|ob 20 .neq 19 z0 .done) (.cond 20 (sR (o1 2 (.mv (.const (.pointer none)))<|o1 3 (.mv (.const (.pointer none))) .done) .ret) .skip)) (sR (om 21 4<|o1 22 (.nilc 21)<|oj 23 0 22<|ol 24 23<|om 25 5<|om 2 24<|om 3 25 .done) .ret))))))⟩
def HS(hd:dec P f=some (DD f1 f2))(h1:Fj P f1)(h2:GU P f2):Ew P f:=by
 intro d n hn1 hn2;refine Aq hd (Ms rfl) ?_;show gwp P _ _ _ _ _;(refine Ae<|Ad rfl<|Ad rfl<|Ab<|Ae<|Ac rfl ?_);refine Bw (h1 (n:=n) hn1 hn2) rfl (fun u d1 L1 hl1 ⟨b,bd,bp,e1,e2,e3⟩=>?_);subst e1;(refine Ad rfl<|Ab<|An<|Ae<|Ad rfl<|A1 rfl rfl<|Ab<|Bd rfl<|Av<|Ae<|Ad rfl<|AM rfl<|AR rfl<|AX rfl (DT (by assumption)) ?_);refine Bw (h2 e3) rfl (fun u d2 L2 hl2 ⟨_,bt,Tt,e4,e5⟩=>?_);subst e4;subst e5;have e2':=e2.mono hl2;(refine BE rfl<|AL rfl rfl<|AL rfl rfl<|Ad rfl<|Ac rfl<|Ab<|An<|Ae<|Ac rfl<|AQ rfl rfl<|Ab<|A2 rfl (by omega)<|Av<|Ae<|Ad rfl<|AM rfl<|AR rfl<|AX rfl (DT (by assumption))<|Ad rfl<|Ad rfl<|Ad rfl<|Ab<|As ?_);exact Cm [pZ bp,pZ bt] ⟨A7 rfl,A7 rfl,trivial⟩ (Vs.refl _ _) ⟨bt,Tt,bd,bp,_,rfl,rfl,e3.mono hl2⟩
def CB(P:Program)(f:FuncId):Prop:=∀{d v},Nob d v→BG P f [v] d (.bool true)
def Jp(hd:dec P f=some E8):CB P f:=by
 intro d v h;refine Aq hd (Ms rfl) ?_;rcases h with rfl|⟨b,rfl,hb⟩
 ·show gwp P _ _ _ _ _;(refine Ae<|Ag rfl<|Ab<|Ae<|Ad rfl<|Cp rfl rfl<|Ag rfl<|Au rfl<|Au rfl<|Au rfl<|Au rfl<|Au rfl<|AB rfl rfl<|Ag rfl<|Ab<|As ?_);(apply GF;rfl);rfl
 ·show gwp P _ _ _ _ _;(refine Ae<|Ag rfl<|Ab<|Ae<|Ad rfl<|A1 rfl rfl<|Ag rfl<|Af rfl<|Ad rfl<|Af rfl<|AM rfl<|Af rfl<|AR rfl<|Af rfl<|AX rfl (DT (by assumption))<|Af rfl<|Cp rfl rfl<|Al rfl rfl<|Ag rfl<|Ab<|As ?_);(apply GF;rfl);rfl
def F8(P:Program)(f:FuncId):Prop:=∀{d v w},Nob d v→BG P f [v,w] d (vZ 1)
def J2(hd:dec P f=some (Fl f1))(h1:CB P f1):F8 P f:=by
 intro d v w h;refine Aq hd (Ms rfl) ?_;show gwp P _ _ _ _ _;(refine Ae<|Ac rfl<|Ab<|An<|AK<|Ae<|Bg ?_);refine A8 rfl (h1 h) ?_;(refine Ag rfl<|Ab<|BL rfl<|Ae<|Ac rfl<|Ab<|As ?_);apply Dn;rfl
def F7(P:Program)(f:FuncId):Prop:=∀{d v w},Nob d v→BG P f [v,w] d (.tuple #[.slice none 0 0,.bool false,vZ 1])
def Fc(P:Program)(f:FuncId):Prop:=∀{d v},Nob d v→BG P f [v] d (vZ (-1))
def Cx(P:Program)(f:FuncId):Prop:=∀{d v},Nob d v→BG P f [v] d (vZ 0)
def J7(hd:dec P f=some (FD f1 f2 f3 f4))(h1:F8 P f1):F7 P f:=by
 intro d v w h;refine Aq hd (Ms rfl) ?_;show gwp P _ _ _ _ _;(refine Ae<|A0 rfl<|Ag rfl<|Ac rfl<|Ab<|An<|Ae<|Bg<|Bg ?_);refine A8 rfl (h1 (w:=w) h) ?_;(refine Ac rfl<|Ab<|Ae<|Ac rfl<|AQ rfl rfl<|Ab<|Bf rfl (by omega)<|Ae<|Ac rfl<|A0 rfl<|Ag rfl<|Ac rfl<|Ab<|As ?_);exact Ey [.slice none 0 0,.bool false,vZ 1] ⟨rfl,rfl,rfl,trivial⟩ (Nc _) ⟨rfl,rfl,rfl⟩
def Jo(hd:dec P f=some (Fp f1))(h1:CB P f1):Fc P f:=by
 intro d v h;refine Aq hd (Ms rfl) ?_;show gwp P _ _ _ _ _;(refine Ae<|Ac rfl<|Ab<|An<|Ae<|Bg ?_);refine A8 rfl (h1 h) ?_;(refine Ab<|BL rfl<|Ae<|Ac rfl<|Ab<|As ?_);apply Dn;rfl
def Ho(hd:dec P f=some (Eh f1))(h1:CB P f1):Cx P f:=by
 intro d v h;refine Aq hd (Ms rfl) ?_;show gwp P _ _ _ _ _;(refine Ae<|Ac rfl<|Ab<|An<|Ae<|Bg ?_);refine A8 rfl (h1 h) ?_;(refine Ab<|BL rfl<|Ae<|Ac rfl<|Ab<|As ?_);apply Dn;rfl
def IB(hd:dec P f=some (EN f1))(h1:CB P f1):Cx P f:=by
 intro d v h;refine Aq hd (Ms rfl) ?_;show gwp P _ _ _ _ _;(refine Ae<|Ac rfl<|Ab<|An<|Ae<|Bg ?_);refine A8 rfl (h1 h) ?_;(refine Ab<|BL rfl<|Ae<|Ac rfl<|Ab<|As ?_);apply Dn;rfl
def DO(P:Program)(f:FuncId):Prop:=∀{d v},Nob d v→BG P f [v] d (.pointer none)
def Jh(hd:dec P f=some (CP f1 f2 f3))(h1:Gb P f1):DO P f:=by
 intro d v h;refine Aq hd (Ms rfl) ?_;show gwp P _ _ _ _ _;(refine Ae<|Ad rfl<|Ab<|An<|Ae<|Bg ?_);refine A8 rfl (h1 h) ?_;(refine Ab<|BL rfl<|Ae<|Ad rfl<|Ab<|As ?_);apply Dn;rfl
def CO(P:Program)(f:FuncId):Prop:=∀{d v w},Nob d v→BG P f [v,w] d (vZ 1)
def CU(P:Program)(f:FuncId):Prop:=∀{d v s dv pv L},Pg d s dv pv L→Nob d v→Aj P f [pv,v] d L (Ret fun r d' L'=>r=vZ 1∧L'=L)
def Ep(a0 a1 a2 a3 a4 a5:Nat):A3:=⟨39,[(.tmp 4)],(sR (o1 4 (.mv z0) .done) (.seq (sR (om 10 0<|oc 11 a0 [10]<|o1 12 (.eqp false 11 (.const (.pointer none))) .done) (.cond 12 (sR (o1 4 (.mv z1) .done) .ret) .skip)) (.seq (sR (om 14 0<|om 15 1<|oc 16 a1 [15]<|om 17 1<|oc 18 a2 [17]<|om 19 1<|oc 20 a3 [19]<|oc 21 a4 [14,16,18,20]<|om 13 21<|oe 22 13 0<|oe 23 13 1<|om 5 22<|om 6 23 .done) (sR (om 24 6<|ob 25 .neq 24 z0<|om 26 25<|gF 27 26 1<|oF 28 26 (.eqp false 27 (.const (.pointer none)))<|o1 29 (.pick 26 (.const (.bool true)) 28) .done) (.cond 29 (sR (o1 4 (.mv z1) .done) .ret) .skip))) (.seq (sR (om 31 1<|oc 32 a5 [31,nS]<|om 30 32<|oe 33 30 0<|oe 34 30 1<|oe 35 30 2<|om 7 33<|om 8 34<|om 9 35 .done) (sR (om 36 9<|ob 37 .eql 36 z1 .done) (.cond 37 (sR (om 38 9<|om 4 38 .done) .ret) .skip))) (sR (o1 4 (.mv z0) .done) .ret)))))⟩
def H6{f6}(hd:dec P f=some (Ep f1 f2 f3 f4 f5 f6))(h1:DO P f1):CO P f:=by
 intro d v w h;refine Aq hd (Ms rfl) ?_;show gwp P _ _ _ _ _;(refine Ae<|Ac rfl<|Ab<|An<|Ae<|Bg ?_);refine A8 rfl (h1 h) ?_;(refine Cp rfl rfl<|Ab<|BL rfl<|Ae<|Ac rfl<|Ab<|As ?_);apply Dn;rfl
def HM{f6}(hd:dec P f=some (Ep f1 f2 f3 f4 f5 f6))(h1:Ec P f1)(h2:Fc P f2)(h3:Cx P f3)(h4:Cx P f4)(h5:Gd P f5)(h6:F7 P f6):CU P f:=by
 intro d v s dv pv L hp hN;obtain⟨bp,rfl⟩:=hp.ptr;refine Aq hd (Ms rfl) ?_;show gwp P _ _ _ _ _;(refine Ae<|Ac rfl<|Ab<|An<|Ae<|Ad rfl ?_);refine BO [] (h1 hp) rfl rfl (fun r d2 L2 hl2 ⟨e1,_,hm⟩=>?_);subst e1;obtain⟨bm,rfl⟩:∃bm,r=pZ bm:=by obtain⟨bm,_,_,_,_,_,q,_⟩:=hm;exact⟨bm,q⟩
 have hp2:=hp.mono hl2;have hN2:=hN.mono hl2;obtain⟨pp,rfl⟩:∃pp,v=.pointer pp:=by rcases hN with rfl|⟨b,rfl, -⟩<;>exact⟨_,rfl⟩
 clear hm;(refine A1 rfl rfl<|Ab<|Bd rfl<|Av<|An<|Ae<|Ad rfl<|Ad rfl ?_);refine A8 rfl (h2 hN2) ?_;(apply Ad;rfl);refine A8 rfl (h3 hN2) ?_;(apply Ad;rfl);refine A8 rfl (h4 hN2) ?_;skip;refine BO [] (h5 (root:= -1) (height:=0) (count:=0) hp2 (by omega) (by omega) (by omega) (by omega) (by omega) (by omega)) rfl rfl (fun r d3 L3 hl3 ⟨_,hr⟩=>?_);rcases hr with ⟨_,bt,Tt,rfl,rfl⟩|⟨q,_⟩
 ·have hN3:=hN2.mono hl3;rcases hN3 with e|⟨b,e,hb⟩
  ·cases e;(refine BE rfl<|AL rfl rfl<|AL rfl rfl<|Ad rfl<|Ac rfl<|Ab<|Ae<|Ac rfl<|AQ rfl rfl<|Ag rfl<|AA rfl (by omega)<|Af rfl<|Ad rfl<|Af rfl<|Cp rfl rfl<|Al rfl rfl<|Ab<|BL rfl<|Ae<|Ac rfl<|Ab<|As ?_);exact Ey [vZ 1] ⟨rfl,trivial⟩ (.cons _ (MC _)) ⟨rfl,rfl⟩
  ·cases e;(refine BE rfl<|AL rfl rfl<|AL rfl rfl<|Ad rfl<|Ac rfl<|Ab<|Ae<|Ac rfl<|AQ rfl rfl<|Ag rfl<|AA rfl (by omega)<|Af rfl<|Ad rfl<|Af rfl<|A1 rfl rfl<|Al rfl rfl<|Ab<|Bd rfl<|Av<|An<|Ae<|Ad rfl ?_);refine A8 rfl (h6 (w:=.slice none 0 0) (.inr ⟨b,rfl,hb⟩)) ?_;(refine BE rfl<|AL rfl rfl<|AL rfl rfl<|AL rfl rfl<|A0 rfl<|Ag rfl<|Ac rfl<|Ab<|Ae<|Ac rfl<|BK rfl rfl<|Ab<|Bf rfl (by omega)<|Ae<|Ac rfl<|Ac rfl<|Ab<|As ?_);exact Ey [vZ 1] ⟨rfl,trivial⟩ (.cons _ (MC _)) ⟨rfl,rfl⟩
 ·exact absurd q (by decide)
def Ek(P:Program)(f:FuncId):Prop:=∀{d v w u u'}{m:Int},Nob d v→Aj P f [v,w,u,u',vZ m] d [] (Ret fun r d' L'=>r=.tuple #[.slice none 0 0,vZ 1]∧L'=[])
def Es(P:Program)(f:FuncId):Prop:=∀{d v u u'}{m:Int}{s dv pv L},Pg d s dv pv L→Nob d v→Aj P f [pv,v,u,u',vZ m] d L (Ret fun r d' L'=>r=.tuple #[.slice none 0 0,vZ 1]∧L'=L)
def Et(a0 a1 a2 a3 a4:Nat):A3:=⟨47,[(.tmp 10),(.tmp 11)],(sR (o1 5 (.box 0)<|o1 9 (.box 4)<|o1 10 (.mv nS)<|o1 11 (.mv z0) .done) (.seq (sR (ol 16 5<|om 17 1<|oc 18 a0 [16,17]<|om 12 18 .done) (sR (om 19 12<|ob 20 .neq 19 z0 .done) (.cond 20 (sR (om 21 12<|o1 10 (.mv nS)<|om 11 21 .done) .ret) .skip))) (.seq (sR (ol 22 9<|ob 23 .lss 22 z0 .done) (.cond 23 (sR (o1 10 (.mv nS)<|o1 11 (.mv z2) .done) .ret) .skip)) (sR (o1 13 (.alo (.slice none 0 0)) .done) (.seq (sR (om 24 1<|oc 25 a1 [24]<|ob 26 .eql 25 z0<|om 27 26<|oF 28 27 (.ld none 9)<|oF 29 27 (.bin .eql 28 z0)<|o1 30 (.pick 27 (.const (.bool true)) 29) .done) (.cond 30 (sR (o1 10 (.mv nS)<|o1 11 (.mv z0) .done) .ret) .skip)) (.seq (.reg true (pl 32 5<|pm 33 1<|pm 35 1<|pm 37 2<|pm 38 3<|p1 39 (.mkf (.func a2) [] [5,13,9])<|oc 34 a3 [33]<|oc 36 a1 [35]<|oc 40 a4 [32,34,36,37,38,39]<|pm 31 40<|p1 41 (.ext 31 0)<|p1 42 (.ext 31 1)<|pm 14 41<|pm 15 42 .done)) (.seq (sR (om 43 15<|ob 44 .neq 43 z0 .done) (.cond 44 (sR (om 45 15<|o1 10 (.mv nS)<|om 11 45 .done) .ret) .skip)) (sR (ol 46 13<|om 10 46<|o1 11 (.mv z0) .done) .ret))))))))⟩
def Ii(hd:dec P f=some (Et f1 f2 f3 f4 f5))(h1:CO P f1):Ek P f:=by
 intro d v w u u' m h;refine Aq hd (Ms rfl) ?_;obtain⟨pp,rfl⟩:∃pp,v=.pointer pp:=by rcases h with rfl|⟨b,rfl, -⟩<;>exact⟨_,rfl⟩
 show gwp P _ _ _ _ _;apply An;apply A6;refine FF rfl (fun b5 T5=>?_);refine FF rfl (fun b9 T9=>?_);(refine A0 rfl<|Ac rfl<|Ab<|An<|Ae<|AX rfl (A5 1 rfl rfl)<|Bg ?_);refine A8 rfl (h1 (w:=w) h) ?_;(refine Ac rfl<|Ab<|Ae<|Ac rfl<|AQ rfl rfl<|Ab<|Bf rfl (by omega)<|Ae<|Ac rfl<|A0 rfl<|Ac rfl<|Ab<|As ?_);exact Ey (L':=[]) [.slice none 0 0,vZ 1] ⟨rfl,rfl,trivial⟩ (Nc _) ⟨rfl,rfl⟩
def Ir(hd:dec P f=some (Et f1 f2 f3 f4 f5))(h1:CU P f1):Es P f:=by
 intro d v u u' m s dv pv L hp h;obtain⟨bp,rfl⟩:=hp.ptr;refine Aq hd (Ms rfl) ?_;show gwp P _ _ _ _ _;apply An;apply A6;refine FF rfl (fun b5 T5=>?_);refine FF rfl (fun b9 T9=>?_);(refine A0 rfl<|Ac rfl<|Ab<|An<|Ae<|AX rfl (A5 1 rfl rfl)<|Bg ?_);refine BO [_,_] (h1 hp h) rfl rfl (fun r d2 L2 hl2 ⟨e1,e2⟩=>?_);subst e1;subst e2;(refine Ac rfl<|Ab<|Ae<|Ac rfl<|AQ rfl rfl<|Ab<|Bf rfl (by omega)<|Ae<|Ac rfl<|A0 rfl<|Ac rfl<|Ab<|As ?_);exact Ey [.slice none 0 0,vZ 1] ⟨rfl,rfl,trivial⟩ (.cons _ (.cons _ (MC _))) ⟨rfl,rfl⟩
def Ee(P:Program)(f:FuncId):Prop:=∀{d v w},Nob d v→BG P f [v,w] d (vZ 1)
def Ea(P:Program)(f:FuncId):Prop:=∀{d v s dv pv L},Pg d s dv pv L→Nob d v→Aj P f [pv,v] d L (Ret fun r d' L'=>r=vZ 1∧L'=L)
def Ed(a0 a1 a2 a3 a4:Nat):A3:=⟨37,[(.tmp 4)],(sR (o1 4 (.mv z0) .done) (.seq (sR (om 8 0<|om 9 1<|oc 10 a0 [8,9]<|om 5 10 .done) (sR (om 11 5<|ob 12 .neq 11 z0 .done) (.cond 12 (sR (om 13 5<|om 4 13 .done) .ret) .skip))) (sR (om 14 0<|o1 15 (.mop .mk)<|o1 16 (.bld [(0,1),(1,1),(2,1)] [(.pointer none),(.map none),(vZ 0)] [(0,14),(1,15)])<|o1 17 (.box 16)<|om 6 17 .done) (.seq (sR (om 18 1<|oc 19 a1 [18]<|ob 20 .gtr 19 z0 .done) (.cond 20 (sR (om 21 6<|om 22 1<|oc 23 a2 [22]<|om 24 1<|oc 25 a1 [24]<|oc 26 a3 [21,23,25,nS,nS]<|om 7 26 .done) (sR (om 27 7<|ob 28 .neq 27 z0 .done) (.cond 28 (sR (om 29 7<|om 4 29 .done) .ret) .skip))) .skip)) (.seq (.seq (.reg true (pm 30 6<|p1 31 (.nilc 30)<|p1 32 (.fld 2 31)<|pl 33 32<|pm 34 1<|oc 35 a4 [34]<|p1 36 (.bin .neq 33 35) .done)) (.cond 36 (sR (o1 4 (.mv (kZ 200)) .done) .ret) .skip)) (sR (o1 4 (.mv z0) .done) .ret))))))⟩
def Il(hd:dec P f=some (Ed f1 f2 f3 f4 f5))(h1:CO P f1):Ee P f:=by
 intro d v w h;refine Aq hd (Ms rfl) ?_;show gwp P _ _ _ _ _;(refine Ae<|Ac rfl<|Ab<|An<|Ae<|Bg<|Bg ?_);refine A8 rfl (h1 (w:=w) h) ?_;(refine Ac rfl<|Ab<|Ae<|Ac rfl<|AQ rfl rfl<|Ab<|Bf rfl (by omega)<|Ae<|Ac rfl<|Ac rfl<|Ab<|As ?_);apply Dn;rfl
def HP(hd:dec P f=some (Ed f1 f2 f3 f4 f5))(h1:CU P f1):Ea P f:=by
 intro d v s dv pv L hp h;obtain⟨bp,rfl⟩:=hp.ptr;refine Aq hd (Ms rfl) ?_;show gwp P _ _ _ _ _;(refine Ae<|Ac rfl<|Ab<|An<|Ae<|Ad rfl<|Bg ?_);refine BO [] (h1 hp h) rfl rfl (fun r d2 L2 hl2 ⟨e1,e2⟩=>?_);subst e1;subst e2;(refine Ac rfl<|Ab<|Ae<|Ac rfl<|AQ rfl rfl<|Ab<|Bf rfl (by omega)<|Ae<|Ac rfl<|Ac rfl<|Ab<|As ?_);exact Ey [vZ 1] ⟨rfl,trivial⟩ (MC _) ⟨rfl,rfl⟩
def E7(P:Program)(f:FuncId):Prop:=∀{d v w},Nob d v→BG P f [v,w] d (vZ 1)
def Ff(P:Program)(f:FuncId):Prop:=∀{d v s dv pv L},Pg d s dv pv L→Nob d v→Aj P f [pv,v] d L (Ret fun r d' L'=>r=vZ 1∧L'=L)
def EV(a0 a1 a2:Nat):A3:=⟨34,[(.tmp 4)],(sR (o1 4 (.mv z0) .done) (.seq (sR (om 10 0<|om 11 1<|oc 12 a0 [10,11]<|om 5 12 .done) (sR (om 13 5<|ob 14 .neq 13 z0 .done) (.cond 14 (sR (om 15 5<|om 4 15 .done) .ret) .skip))) (sR (om 17 1<|oc 18 a1 [17]<|om 16 18<|oe 19 16 0<|oe 20 16 1<|om 6 19<|om 7 20 .done) (.seq (sR (om 21 6<|oL 22 21<|o1 23 (.mv z0) .done) (.block 0 (.loop (sR (ob 24 .lss 23 22 .done) (.seq (.cond 24 .skip (.exit 0)) (.seq (.block 1 (sR (oI 25 1 21 23<|ol 26 25<|om 9 26 .done) (sR (om 27 7<|ob 28 .eql 27 z0 .done) (.cond 28 (rG (om 29 0<|om 30 9<|oc 31 a2 [29,30]<|om 7 31 .done)) .skip)))) (rG (ob 32 .add 23 z1<|om 23 32 .done)))))))) (sR (om 33 7<|om 4 33 .done) .ret)))))⟩
def IH(hd:dec P f=some (EV f1 f2 f3))(h1:CO P f1):E7 P f:=by
 intro d v w h;refine Aq hd (Ms rfl) ?_;show gwp P _ _ _ _ _;(refine Ae<|Ac rfl<|Ab<|An<|Ae<|Bg<|Bg ?_);refine A8 rfl (h1 (w:=w) h) ?_;(refine Ac rfl<|Ab<|Ae<|Ac rfl<|AQ rfl rfl<|Ab<|Bf rfl (by omega)<|Ae<|Ac rfl<|Ac rfl<|Ab<|As ?_);apply Dn;rfl
def IU(hd:dec P f=some (EV f1 f2 f3))(h1:CU P f1):Ff P f:=by
 intro d v s dv pv L hp h;obtain⟨bp,rfl⟩:=hp.ptr;refine Aq hd (Ms rfl) ?_;show gwp P _ _ _ _ _;(refine Ae<|Ac rfl<|Ab<|An<|Ae<|Ad rfl<|Bg ?_);refine BO [] (h1 hp h) rfl rfl (fun r d2 L2 hl2 ⟨e1,e2⟩=>?_);subst e1;subst e2;(refine Ac rfl<|Ab<|Ae<|Ac rfl<|AQ rfl rfl<|Ab<|Bf rfl (by omega)<|Ae<|Ac rfl<|Ac rfl<|Ab<|As ?_);exact Ey [vZ 1] ⟨rfl,trivial⟩ (MC _) ⟨rfl,rfl⟩
def E1(P:Program)(f:FuncId):Prop:=∀{d v w},Nob d v→BG P f [v,w] d (.tuple #[.pointer none,vZ 1])
def Ht(a0 a1 a2 a3 a4 a5 a6:Nat):A3:=⟨65,[(.tmp 4),(.tmp 5)],(sR (o1 4 (.mv (.const (.pointer none)))<|o1 5 (.mv z0) .done) (sR (om 11 0<|oc 12 a0 [11]<|om 6 12 .done) (.seq (sR (om 13 6<|o1 14 (.eqp false 13 (.const (.pointer none))) .done) (.cond 14 (sR (o1 4 (.mv (.const (.pointer none)))<|o1 5 (.mv z1) .done) .ret) .skip)) (.seq (sR (om 15 1<|oc 16 a1 [15]<|om 7 16 .done) (sR (om 17 7<|ob 18 .neq 17 z0 .done) (.cond 18 (sR (om 19 7<|o1 4 (.mv (.const (.pointer none)))<|om 5 19 .done) .ret) .skip))) (.seq (sR (om 20 1<|oL 21 20<|ob 22 .eql 21 z0 .done) (.cond 22 (sR (om 23 0<|oc 24 a2 [23]<|oe 25 24 0<|oe 26 24 1<|om 4 25<|om 5 26 .done) .ret) .skip)) (sR (om 28 0<|om 29 1<|oc 30 a3 [28,29]<|om 27 30<|oe 31 27 0<|oe 32 27 1<|om 8 31<|om 9 32 .done) (sR (o1 10 (.mv z1) .done) (.seq (.block 0 (.loop (.seq (sR (om 33 9<|ob 34 .eql 33 z0<|om 35 34<|gT 36 35 8<|oT 37 35 (.len 36)<|oT 38 35 (.bin .gtr 37 z1)<|gP 39 35 38 .done) (.cond 39 .skip (.exit 0))) (.block 1 (sR (om 41 0<|om 42 8<|oc 43 a4 [41,42]<|om 40 43<|oe 44 40 0<|oe 45 40 1<|om 8 44<|om 9 45 .done) (rG (om 46 10<|ob 47 .add 46 z1<|om 10 47 .done))))))) (.seq (sR (om 48 9<|ob 49 .neq 48 z0 .done) (.cond 49 (sR (om 50 0<|om 51 6<|oc 52 a5 [50,51] .done) (sR (om 53 9<|o1 4 (.mv (.const (.pointer none)))<|om 5 53 .done) .ret)) .skip)) (sR (om 54 0<|om 55 8<|o1 56 (.idx 2 55 z0)<|oj 57 0 56<|ol 58 57<|om 59 10<|om 60 1<|oL 61 60<|oc 62 a6 [54,58,59,61]<|oe 63 62 0<|oe 64 62 1<|om 4 63<|om 5 64 .done) .ret))))))))))⟩
def I0{f6 f7}(hd:dec P f=some (Ht f1 f2 f3 f4 f5 f6 f7))(h1:DO P f1):E1 P f:=by
 intro d v w h;refine Aq hd (Ms rfl) ?_;show gwp P _ _ _ _ _;(refine Ae<|Ad rfl<|Ac rfl<|Ab<|Ae<|Bg ?_);refine A8 rfl (h1 h) ?_;(refine Ad rfl<|Ab<|An<|Ae<|Ad rfl<|Cp rfl rfl<|Ab<|BL rfl<|Ae<|Ad rfl<|Ac rfl<|Ab<|As ?_);apply Lq<;>rfl
def CY(a0 a1 a2 a3 a4:Nat):A3:=⟨108,[(.tmp 4)],(sR (o1 4 (.mv (.const (.bool false))) .done) (sR (oc 18 a0 [(kZ 5)]<|om 17 18<|oe 19 17 0<|oe 20 17 1<|om 5 19<|om 6 20 .done) (.seq (sR (om 21 6<|o1 22 (.eqp false 21 (.const (.pointer none))) .done) (.cond 22 (sR (o1 4 (.mv (.const (.bool false))) .done) .ret) .skip)) (.seq (sR (o1 23 (.bld [(0,1),(1,1),(2,1),(3,1)] [(.pointer none),(vZ 0),(vZ 0),(vZ 0)] [])<|o1 24 (.box 23)<|o1 25 (.bsl 2 1 [(.pointer none)] [(0,(.const (.pointer none))),(1,24)])<|oL 26 25<|o1 27 (.mv z0) .done) (.block 0 (.loop (sR (ob 28 .lss 27 26 .done) (.seq (.cond 28 .skip (.exit 0)) (.seq (.block 1 (sR (oI 29 1 25 27<|ol 30 29<|om 8 30 .done) (sR (om 32 5<|om 33 8<|om 34 0<|om 35 1<|oc 36 a1 [32,33,34,nS,35]<|om 31 36<|oe 37 31 0<|oe 38 31 1<|om 9 37<|om 10 38 .done) (sR (om 39 9<|oL 40 39<|ob 41 .neq 40 z0<|om 42 41<|gF 43 42 10<|oF 44 42 (.bin .neq 43 z1)<|o1 45 (.pick 42 (.const (.bool true)) 44)<|om 46 45<|gF 47 46 5<|gF 48 46 8<|oF 49 46 (.call a2 [47,48])<|oF 50 46 (.bin .neq 49 z1)<|o1 51 (.pick 46 (.const (.bool true)) 50)<|om 52 51<|gF 53 52 5<|gF 54 52 8<|oF 55 52 (.call a3 [53,54])<|oF 56 52 (.bin .neq 55 z1)<|o1 57 (.pick 52 (.const (.bool true)) 56) .done) (.cond 57 (sR (o1 4 (.mv (.const (.bool false))) .done) .ret) .skip))))) (rG (ob 58 .add 27 z1<|om 27 58 .done)))))))) (.seq (sR (o1 59 (.bld [(0,1),(1,1),(2,1),(3,1),(4,1),(5,1),(6,1)] [(.pointer none),(.pointer none),(vZ 0),(.slice none 0 0),(.map none),(vZ 0),(vZ 0)] [])<|o1 60 (.box 59)<|o1 61 (.bsl 2 1 [(.pointer none)] [(0,(.const (.pointer none))),(1,60)])<|oL 62 61<|o1 63 (.mv z0) .done) (.block 2 (.loop (sR (ob 64 .lss 63 62 .done) (.seq (.cond 64 .skip (.exit 2)) (.seq (.block 3 (sR (oI 65 1 61 63<|ol 66 65<|om 12 66 .done) (sR (om 68 12<|om 69 6<|om 70 0<|om 71 1<|oc 72 a1 [68,69,70,nS,71]<|om 67 72<|oe 73 67 0<|oe 74 67 1<|om 13 73<|om 14 74 .done) (sR (om 76 12<|oc 77 a4 [76,nS]<|om 75 77<|oe 78 75 0<|oe 79 75 1<|om 15 78<|om 16 79 .done) (sR (om 80 13<|oL 81 80<|ob 82 .neq 81 z0<|om 83 82<|gF 84 83 14<|oF 85 83 (.bin .neq 84 z1)<|o1 86 (.pick 83 (.const (.bool true)) 85)<|om 87 86<|gF 88 87 15<|oF 89 87 (.eqp true 88 (.const (.pointer none)))<|o1 90 (.pick 87 (.const (.bool true)) 89)<|om 91 90<|gF 92 91 16<|oF 93 91 (.bin .neq 92 z1)<|o1 94 (.pick 91 (.const (.bool true)) 93)<|om 95 94<|gF 96 95 12<|gF 97 95 6<|oF 98 95 (.call a2 [96,97])<|oF 99 95 (.bin .neq 98 z1)<|o1 100 (.pick 95 (.const (.bool true)) 99)<|om 101 100<|gF 102 101 12<|gF 103 101 6<|oF 104 101 (.call a3 [102,103])<|oF 105 101 (.bin .neq 104 z1)<|o1 106 (.pick 101 (.const (.bool true)) 105) .done) (.cond 106 (sR (o1 4 (.mv (.const (.bool false))) .done) .ret) .skip)))))) (rG (ob 107 .add 63 z1<|om 63 107 .done)))))))) (sR (o1 4 (.mv (.const (.bool true))) .done) .ret))))))⟩
set_option maxRecDepth 4000 in
set_option maxHeartbeats 1000000 in
def Gt(hd:dec P f=some (CY f1 f2 f3 f4 f5))(h1:Ew P f1)(h2:Es P f2)(h2':Ek P f2)(h3:Ea P f3)(h3':Ee P f3)(h4:Ff P f4)(h4':E7 P f4)(h5:E1 P f5)
  {d a}{n c:Nat}{m:Int}:Aj P f [.slice a n c,vZ m] d [] (Ret fun r _ _=>r=.bool true):=by
 refine Aq hd (Ms rfl) ?_
 show gwp P _ _ _ _ _
 (refine Ae<|Ag rfl<|Ab<|Ae ?_)
 refine DL rfl (h1 (n:=5) (by omega) (by omega)) (fun r d1 L1 hl1 hR=>?_)
 obtain⟨bt,Tt,bd,bp,L2,rfl,rfl,hp⟩:=hR
 rewrite [M9]
 (refine BE rfl<|AL rfl rfl<|AL rfl rfl<|Ad rfl<|Ad rfl<|Ab<|An<|Ae<|Ad rfl<|A1 rfl rfl<|Ab<|Bd rfl<|Av<|An<|Ae<|BT rfl<|BF rfl (fun _ _=>?_))
 rename_i b24 T24
 refine Kk (fun d2 hl2 hb2=>?_)
 replace hb2:=Jr hb2
 have hdc:=hb2.at (i:=0) rfl
 have hp2:=hp.mono hl2
 refine Gz (cs:=[.pointer none,pZ b24]) (by omega) rfl (fun b25 T25=>?_)
 (refine BU rfl<|Ac rfl<|Ab<|AK ?_)
 refine Cz (α:=Nat) (fun i=>[(0,.slice a n c),(1,vZ m),(5,pZ bp),(6,pZ bt),(25,.slice (some ⟨b25,0,none⟩) 2 2),(26,vZ 2),(27,vZ i)])
  (fun i d' L'=>Le d2 d'∧i≤2∧L'=bx b25 T25 [.pointer none,pZ b24]::tb bt Tt (pZ bp) (-1) 0 0::L2) (fun i=>2 - i) 0 ⟨rfl,rfl,rfl,rfl,rfl,rfl,rfl,trivial⟩ ⟨Le.refl _,by omega,rfl⟩ ?_
 rintro i ρ d3 L' ⟨hl3,hi,rfl⟩
 have hp3:=hp2.mono hl3
 obtain rfl|rfl|rfl:i=0∨i=1∨i=2:=by omega
 ·have hN:Nob d3 (.pointer none):=.inl rfl
  (refine Ae<|AI rfl rfl<|Ab<|An<|Bf rfl (by omega)<|Av<|An<|AK<|Ae<|C8 _ rfl rfl rfl (by omega)<|AX rfl (A5 0 rfl rfl)<|Ad rfl<|Ab<|Ae<|Ad rfl<|Ad rfl<|A0 rfl<|Ac rfl ?_)
  refine BO [_,_] (h2 (u:=.slice a n c) (u':=.slice none 0 0) (m:=m) hp3 hN) rfl rfl (fun r d4 L4 hl4 ⟨e1,e2⟩=>?_)
  subst e1;subst e2
  (refine BE rfl<|AL rfl rfl<|AL rfl rfl<|A0 rfl<|Ac rfl<|Ab<|Ae<|A0 rfl<|BU rfl<|AQ rfl rfl<|Ag rfl<|AA rfl (by omega)<|Af rfl<|Ac rfl<|Af rfl<|AQ rfl rfl<|Al rfl rfl<|Ag rfl<|AA rfl (by omega)<|Af rfl<|Ad rfl<|Af rfl<|Ad rfl<|Af rfl ?_)
  refine BO [_,_] (h3 (hp3.mono hl4) (hN.mono hl4)) rfl rfl (fun r d5 L5 hl5 ⟨e1,e2⟩=>?_)
  subst e1;subst e2
  (refine Af rfl<|AQ rfl rfl<|Al rfl rfl<|Ag rfl<|AA rfl (by omega)<|Af rfl<|Ad rfl<|Af rfl<|Ad rfl<|Af rfl ?_)
  refine BO [_,_] (h4 ((hp3.mono hl4).mono hl5) ((hN.mono hl4).mono hl5)) rfl rfl (fun r d6 L6 hl6 ⟨e1,e2⟩=>?_)
  subst e1;subst e2
  (refine Af rfl<|AQ rfl rfl<|Al rfl rfl<|Ab<|A2 rfl (by omega)<|Av<|A6<|BW rfl rfl (by omega) (by omega)<|Ac rfl<|Ab ?_)
  exact⟨1,by omega,⟨rfl,rfl,rfl,rfl,rfl,rfl,rfl,trivial⟩,((hl3.trans hl4).trans hl5).trans hl6,by omega,rfl⟩
 ·have hN:Nob d3 (pZ b24):=.inr ⟨b24,rfl,hdc.mono hl3⟩
  (refine Ae<|AI rfl rfl<|Ab<|An<|Bf rfl (by omega)<|Av<|An<|AK<|Ae<|C8 _ rfl rfl rfl (by omega)<|AX rfl (A5 0 rfl rfl)<|Ad rfl<|Ab<|Ae<|Ad rfl<|Ad rfl<|A0 rfl<|Ac rfl ?_)
  refine BO [_,_] (h2 (u:=.slice a n c) (u':=.slice none 0 0) (m:=m) hp3 hN) rfl rfl (fun r d4 L4 hl4 ⟨e1,e2⟩=>?_)
  subst e1;subst e2
  (refine BE rfl<|AL rfl rfl<|AL rfl rfl<|A0 rfl<|Ac rfl<|Ab<|Ae<|A0 rfl<|BU rfl<|AQ rfl rfl<|Ag rfl<|AA rfl (by omega)<|Af rfl<|Ac rfl<|Af rfl<|AQ rfl rfl<|Al rfl rfl<|Ag rfl<|AA rfl (by omega)<|Af rfl<|Ad rfl<|Af rfl<|Ad rfl<|Af rfl ?_)
  refine BO [_,_] (h3 (hp3.mono hl4) (hN.mono hl4)) rfl rfl (fun r d5 L5 hl5 ⟨e1,e2⟩=>?_)
  subst e1;subst e2
  (refine Af rfl<|AQ rfl rfl<|Al rfl rfl<|Ag rfl<|AA rfl (by omega)<|Af rfl<|Ad rfl<|Af rfl<|Ad rfl<|Af rfl ?_)
  refine BO [_,_] (h4 ((hp3.mono hl4).mono hl5) ((hN.mono hl4).mono hl5)) rfl rfl (fun r d6 L6 hl6 ⟨e1,e2⟩=>?_)
  subst e1;subst e2
  (refine Af rfl<|AQ rfl rfl<|Al rfl rfl<|Ab<|A2 rfl (by omega)<|Av<|A6<|BW rfl rfl (by omega) (by omega)<|Ac rfl<|Ab ?_)
  exact⟨2,by omega,⟨rfl,rfl,rfl,rfl,rfl,rfl,rfl,trivial⟩,((hl3.trans hl4).trans hl5).trans hl6,by omega,rfl⟩
 ·(refine Ae<|AI rfl rfl<|Ab<|An<|A2 rfl (by omega)<|CM<|An<|Ae<|BT rfl<|BF rfl (fun _ _=>?_))
  rename_i b60 T60
  refine Kk (fun d4 hl4 hb4=>?_)
  replace hb4:=Jr hb4
  have hdc4:=hb4.at (i:=0) rfl
  refine Gz (cs:=[.pointer none,pZ b60]) (by omega) rfl (fun b61 T61=>?_)
  (refine BU rfl<|Ac rfl<|Ab<|AK ?_)
  refine Cz (α:=Nat) (fun i=>[(0,.slice a n c),(1,vZ m),(6,pZ bt),(61,.slice (some ⟨b61,0,none⟩) 2 2),(62,vZ 2),(63,vZ i)])
   (fun i d' L'=>Le d4 d'∧i≤2∧∃J,L'=bx b61 T61 [.pointer none,pZ b60]::J) (fun i=>2 - i) 0 ⟨rfl,rfl,rfl,rfl,rfl,rfl,trivial⟩ ⟨Le.refl _,by omega,_,rfl⟩ ?_
  rintro i ρ d5 L' ⟨hl5,hi,J,rfl⟩
  obtain rfl|rfl|rfl:i=0∨i=1∨i=2:=by omega
  ·have hN:Nob d5 (.pointer none):=.inl rfl
   (refine Ae<|AI rfl rfl<|Ab<|An<|Bf rfl (by omega)<|Av<|An<|AK<|Ae<|C8 _ rfl rfl rfl (by omega)<|AX rfl (A5 0 rfl rfl)<|Ad rfl<|Ab<|Ae<|Ad rfl<|Ad rfl<|A0 rfl<|Ac rfl ?_)
   refine DL rfl (h2' (w:=pZ bt) (u:=.slice a n c) (u':=.slice none 0 0) (m:=m) hN) (fun r d6 L6 hl6 ⟨e1,e2⟩=>?_)
   subst e1;subst e2
   have hN6:=hN.mono hl6
   (refine BE rfl<|AL rfl rfl<|AL rfl rfl<|A0 rfl<|Ac rfl<|Ab<|Ae<|Ad rfl ?_)
   refine A8 rfl (h5 (w:=.slice none 0 0) hN6) ?_
   (refine BE rfl<|AL rfl rfl<|AL rfl rfl<|Ad rfl<|Ac rfl<|Ab<|Ae<|A0 rfl<|BU rfl<|AQ rfl rfl<|Ag rfl<|AA rfl (by omega)<|Af rfl<|Ac rfl<|Af rfl<|AQ rfl rfl<|Al rfl rfl<|Ag rfl<|AA rfl (by omega)<|Af rfl<|Ad rfl<|Af rfl<|Cp rfl rfl<|Al rfl rfl<|Ag rfl<|Af rfl<|Ac rfl<|Af rfl<|AQ rfl rfl<|Al rfl rfl<|Ag rfl<|AA rfl (by omega)<|Af rfl<|Ad rfl<|Af rfl<|Ad rfl<|Af rfl ?_)
   refine A8 rfl (h3' (w:=pZ bt) hN6) ?_
   (refine Af rfl<|AQ rfl rfl<|Al rfl rfl<|Ag rfl<|AA rfl (by omega)<|Af rfl<|Ad rfl<|Af rfl<|Ad rfl<|Af rfl ?_)
   refine A8 rfl (h4' (w:=pZ bt) hN6) ?_
   (refine Af rfl<|AQ rfl rfl<|Al rfl rfl<|Ab<|A2 rfl (by omega)<|Av<|A6<|BW rfl rfl (by omega) (by omega)<|Ac rfl<|Ab ?_)
   exact⟨1,by omega,⟨rfl,rfl,rfl,rfl,rfl,rfl,trivial⟩,hl5.trans hl6,by omega,J,rfl⟩
  ·have hN:Nob d5 (pZ b60):=.inr ⟨b60,rfl,hdc4.mono hl5⟩
   (refine Ae<|AI rfl rfl<|Ab<|An<|Bf rfl (by omega)<|Av<|An<|AK<|Ae<|C8 _ rfl rfl rfl (by omega)<|AX rfl (A5 0 rfl rfl)<|Ad rfl<|Ab<|Ae<|Ad rfl<|Ad rfl<|A0 rfl<|Ac rfl ?_)
   refine DL rfl (h2' (w:=pZ bt) (u:=.slice a n c) (u':=.slice none 0 0) (m:=m) hN) (fun r d6 L6 hl6 ⟨e1,e2⟩=>?_)
   subst e1;subst e2
   have hN6:=hN.mono hl6
   (refine BE rfl<|AL rfl rfl<|AL rfl rfl<|A0 rfl<|Ac rfl<|Ab<|Ae<|Ad rfl ?_)
   refine A8 rfl (h5 (w:=.slice none 0 0) hN6) ?_
   (refine BE rfl<|AL rfl rfl<|AL rfl rfl<|Ad rfl<|Ac rfl<|Ab<|Ae<|A0 rfl<|BU rfl<|AQ rfl rfl<|Ag rfl<|AA rfl (by omega)<|Af rfl<|Ac rfl<|Af rfl<|AQ rfl rfl<|Al rfl rfl<|Ag rfl<|AA rfl (by omega)<|Af rfl<|Ad rfl<|Af rfl<|Cp rfl rfl<|Al rfl rfl<|Ag rfl<|Af rfl<|Ac rfl<|Af rfl<|AQ rfl rfl<|Al rfl rfl<|Ag rfl<|AA rfl (by omega)<|Af rfl<|Ad rfl<|Af rfl<|Ad rfl<|Af rfl ?_)
   refine A8 rfl (h3' (w:=pZ bt) hN6) ?_
   (refine Af rfl<|AQ rfl rfl<|Al rfl rfl<|Ag rfl<|AA rfl (by omega)<|Af rfl<|Ad rfl<|Af rfl<|Ad rfl<|Af rfl ?_)
   refine A8 rfl (h4' (w:=pZ bt) hN6) ?_
   (refine Af rfl<|AQ rfl rfl<|Al rfl rfl<|Ab<|A2 rfl (by omega)<|Av<|A6<|BW rfl rfl (by omega) (by omega)<|Ac rfl<|Ab ?_)
   exact⟨2,by omega,⟨rfl,rfl,rfl,rfl,rfl,rfl,trivial⟩,hl5.trans hl6,by omega,J,rfl⟩
  ·(refine Ae<|AI rfl rfl<|Ab<|An<|A2 rfl (by omega)<|CM<|Ae<|Ag rfl<|Ab<|As ?_)
   exact Ey (L':=[]) [.bool true] ⟨rfl,trivial⟩ (Nc _) rfl
end Go.Gk.Tre
end
